import PyProof.Rows.All
import Wide.All
import OpenK.AllK
import Wide.FinOn
import HandS.ForMost
import HandS.Exc
import HandS.ExcOwn
import HandS.WordsExc
import KE.KDictKeyed
import KE.KeyNested
import HandS.Iter
import HandS.Property
import HandS.IsInst
import HandS.Zip
import HandS.Star
import HandS.Deep
import HandS.StrMore
import HandS.RaiseMore
import HandS.TupAny
import PyProof.Rows.InDataRows
import PyProof.StrOps2
import HandS.More
import HandS.WordsDict
import HandS.DictComp
import HandS.Small
import HandS.OwnEq
import HandS.HeadHook3
import HandS.HeadHook4
import HandS.Flow
import HandS.Head0
import HandS.Head1
import HandS.Head2
import HandS.HeadEnd
import HandS.Ends
import HandS.Nested
import HandS.ExcInit
import HandS.FStr
import HandS.FStrTup
import HandS.TryMany
import HandS.ExcField
import HandS.ExcIs
import KE.KExcSuper
import PyProof.InstNe
import HandS.ListItems
import HandS.Style
import HandS.Finally
import HandS.NoneIn
import HandS.TupLen
import KE.KDictDisplayH
import KE.GoesMore
import PyProof.EnumMake
import HandS.Conv
import KE.SortData
import PySem.Challenge.RW_staysbarred_k02_books_kept
set_option Elab.async false
set_option linter.all false
set_option maxRecDepth 100000
set_option maxHeartbeats 4000000
/-! The data layer: what a def of the text computes, told as a function on plain data; here the data, how a heap bears them, what a piece of code leaves. -/
namespace Dl
open PySem L2

/-- where the own classes stand; the world that runs -/
structure Cl where
  f : Nat → Addr
  w : World
instance : CoeFun Cl fun _ => Nat → Addr := ⟨Cl.f⟩
/-- plain data; ptr i: the i-th changeable thing; dit: a dict whose keys are tuples -/
inductive D where
  | non | bl (b : Bool) | int (i : Int) | str (x : Str)
  | tup (xs : List D) | lst (xs : List D) | rol (xs : List D) | dic (ks vs : List D) | dit (ks vs : List D) | obj (c : Nat) (ns : List Str) (vs : List D) | ptr (i : Nat)

abbrev Sto := List (Option D)
abbrev Lc := List (Option D)

/-- what an expression comes to -/
inductive Out (α : Type) where
  | ok (a : α) (S : Sto) | exc (c : Nat) (ns : List Str) (vs : List D) (S : Sto) | bad
def Out.bind {α β : Type} (o : Out α) (k : α → Sto → Out β) : Out β := match o with
  | .ok a S => k a S
  | .exc c ns vs S => .exc c ns vs S
  | .bad => .bad
/-- what a statement comes to -/
inductive SOut where
  | nx (t : Lc) (S : Sto) | rt (d : D) (S : Sto) | bk (t : Lc) (S : Sto) | ct (t : Lc) (S : Sto)
  | exc (t : Lc) (c : Nat) (ns : List Str) (vs : List D) (S : Sto) | bad

abbrev DE := Lc → Sto → Out D
abbrev DB := Lc → Sto → Out Bool
abbrev DA := Lc → Sto → Out (List D)
abbrev DS := Lc → Sto → SOut

/-! ### how a heap bears data -/
def noH : Hp := fun _ => none
def LL (H : Hp) (a : Addr) (xs : List V) : Prop := H a = some (.lst xs)
def TL (K : PySem.W.Frag) (H : Hp) (a : Addr) (xs : List V) : Prop := H a = some (.tup xs) ∨ SqT K noH a xs
/-- a dict with int and text keys: its keys and values as they stand -/
def DL (K : PySem.W.Frag) (H : Hp) (a : Addr) (ks vs : List V) : Prop := ∃ (od : Obj) (es : List (Key × V)), H a = some (.frz od (.dK es)) ∧ ks = es.map (fun e => kV e.1) ∧ vs = es.map (·.2)

mutual
/-- a tuple as a key of a dict -/
def nk : D → Option NestedKey
  | .non => some .none
  | .int i => some (.num i)
  | .str x => some (.text x)
  | .tup ds => (nks ds).map .tup
  | _ => none
def nks : List D → Option (List NestedKey)
  | [] => some []
  | d :: ds => match nk d, nks ds with
    | some k, some ks => some (k :: ks)
    | _, _ => none
end
def nkD (d : D) : Option NestedKey := match d with
  | .tup ds => (match nks ds with
    | some qs => if NestedKey.depthAll qs ≤ 7 then some (.tup qs) else none
    | none => none)
  | _ => none
/-- a dict with keys of any depth: the keys, where their tuples stand, what stands there -/
abbrev NE := List (NestedKey × Addr × V)
def nD (w : World) (a : Addr) (es : NE) : HO := .ext fun h => es.length ≤ sizeLine ∧ (a == sysModules) = false ∧ (es.map (·.1)).Nodup ∧ ∃ (ys : List (NestedKey × Addr × Value)) (o : Obj) (xs : Array DictEntry) (ep : Nat),
  Paired (fun p q => p.1 = q.1 ∧ p.2.1 = q.2.1 ∧ RelV p.2.2 q.2.2) es ys ∧ h.get? a = some o ∧ o.ExactDict ∧ o.data = .dict xs ep ∧ xs.toList = ys.map fun x => (⟨x.1.hash w, .ref x.2.1, x.2.2⟩ : DictEntry)
mutual
def Rep (K : PySem.W.Frag) (cl : Cl) (H : Hp) (m : List Addr) : D → V → Prop
  | .non, v => v = .non
  | .bl b, v => v = .bl b
  | .int i, v => v = .int i
  | .str x, v => v = .str x
  | .ptr i, v => ∃ a : Addr, m[i]? = some a ∧ v = .ref a
  | .tup ds, v => ∃ a xs, v = .ref a ∧ TL K H a xs ∧ Reps K cl H m ds xs
  | .lst ds, v => ∃ a xs, v = .ref a ∧ LL H a xs ∧ Reps K cl H m ds xs
  | .rol ds, v => ∃ a xs, v = .ref a ∧ SqL K H a xs ∧ Reps K cl H m ds xs
  | .dic ks vs, v => ∃ a xs ys, v = .ref a ∧ DL K H a xs ys ∧ Reps K cl H m ks xs ∧ Reps K cl H m vs ys
  | .dit ks vs, v => ∃ a od, ∃ es : NE, v = .ref a ∧ H a = some (.frz od (nD cl.w a es)) ∧ ks.map nkD = es.map (fun e => some e.1) ∧ Reps K cl H m ks (es.map fun e => .ref e.2.1) ∧ Reps K cl H m vs (es.map (·.2.2))
  | .obj c ns vs, v => ∃ a dx es, v = .ref a ∧ H a = some (.ins (cl c) dx es) ∧ es.map (·.1) = ns ∧ Reps K cl H m vs (es.map (·.2))
def Reps (K : PySem.W.Frag) (cl : Cl) (H : Hp) (m : List Addr) : List D → List V → Prop
  | [], xs => xs = []
  | d :: ds, xs => ∃ v vs, xs = v :: vs ∧ Rep K cl H m d v ∧ Reps K cl H m ds vs
end

section
variable {K : PySem.W.Frag} {cl : Cl} {H H' : Hp} {m m' : List Addr}
theorem LL.mono (h : ∀ a o, H a = some o → H' a = some o) {a : Addr} {xs : List V} (x : LL H a xs) : LL H' a xs := h _ _ x
theorem sqL_mono (h : ∀ a o, H a = some o → H' a = some o) {a : Addr} {xs : List V} (x : SqL K H a xs) : SqL K H' a xs := x.imp (fun z => z.imp (h _ _) fun ⟨o, z⟩ => ⟨o, h _ _ z⟩) id
theorem TL.mono (h : ∀ a o, H a = some o → H' a = some o) {a : Addr} {xs : List V} (x : TL K H a xs) : TL K H' a xs := x.imp (h _ _) id
theorem DL.mono (h : ∀ a o, H a = some o → H' a = some o) {a : Addr} {ks vs : List V} (x : DL K H a ks vs) : DL K H' a ks vs := by
  obtain ⟨od, es, e, r⟩ := x
  exact ⟨od, es, h _ _ e, r⟩
mutual
theorem Rep.mono (h : ∀ a o, H a = some o → H' a = some o) (hm : ∀ (i : Nat) (a : Addr), m[i]? = some a → m'[i]? = some a) : ∀ (d : D) (v : V), Rep K cl H m d v → Rep K cl H' m' d v
  | .non, v, x => x
  | .bl b, v, x => x
  | .int i, v, x => x
  | .str y, v, x => x
  | .ptr i, v, ⟨a, e, r⟩ => ⟨a, hm _ _ e, r⟩
  | .tup ds, v, ⟨a, xs, e, t, r⟩ => ⟨a, xs, e, t.mono h, Reps.mono h hm ds xs r⟩
  | .lst ds, v, ⟨a, xs, e, t, r⟩ => ⟨a, xs, e, t.mono h, Reps.mono h hm ds xs r⟩
  | .rol ds, v, ⟨a, xs, e, t, r⟩ => ⟨a, xs, e, sqL_mono h t, Reps.mono h hm ds xs r⟩
  | .dic ks vs, v, ⟨a, xs, ys, e, t, r, q⟩ => ⟨a, xs, ys, e, t.mono h, Reps.mono h hm ks xs r, Reps.mono h hm vs ys q⟩
  | .dit ks vs, v, ⟨a, od, es, e, t, n, r, q⟩ => ⟨a, od, es, e, h _ _ t, n, Reps.mono h hm ks _ r, Reps.mono h hm vs _ q⟩
  | .obj c ns vs, v, ⟨a, dx, es, e, t, r, q⟩ => ⟨a, dx, es, e, h _ _ t, r, Reps.mono h hm vs _ q⟩
theorem Reps.mono (h : ∀ a o, H a = some o → H' a = some o) (hm : ∀ (i : Nat) (a : Addr), m[i]? = some a → m'[i]? = some a) : ∀ (ds : List D) (vs : List V), Reps K cl H m ds vs → Reps K cl H' m' ds vs
  | [], xs, x => x
  | d :: ds, xs, ⟨v, vs, e, r, q⟩ => ⟨v, vs, e, Rep.mono h hm d v r, Reps.mono h hm ds vs q⟩
end
theorem Reps.length : ∀ {ds : List D} {vs : List V}, Reps K cl H m ds vs → ds.length = vs.length
  | [], _, x => by
    have e : _ = [] := x
    rw [e]; rfl
  | d :: ds, _, ⟨v, vs, e, _, q⟩ => by
    rw [e, List.length_cons, List.length_cons, Reps.length q]
theorem Reps.get : ∀ {ds : List D} {vs : List V} {i : Nat} {d : D}, Reps K cl H m ds vs → ds[i]? = some d → ∃ v, vs[i]? = some v ∧ Rep K cl H m d v
  | [], _, i, d, _, e => by simp at e
  | d' :: ds, _, 0, d, ⟨v, vs, e, r, _⟩, h => by
    simp at h
    subst h; subst e
    exact ⟨v, rfl, r⟩
  | d' :: ds, _, i + 1, d, ⟨v, vs, e, _, q⟩, h => by
    subst e
    obtain ⟨u, h1, h2⟩ := Reps.get (i := i) (d := d) q (by simpa using h)
    exact ⟨u, by simpa using h1, h2⟩
theorem Reps.append : ∀ {ds es : List D} {vs ws : List V}, Reps K cl H m ds vs → Reps K cl H m es ws → Reps K cl H m (ds ++ es) (vs ++ ws)
  | [], _, _, _, x, y => by
    have e : _ = [] := x
    rw [e]; exact y
  | d :: ds, _, _, _, ⟨v, vs, e, r, q⟩, y => by
    subst e
    exact ⟨v, _, rfl, r, Reps.append q y⟩
theorem Reps.cons {d : D} {ds : List D} {v : V} {vs : List V} (r : Rep K cl H m d v) (q : Reps K cl H m ds vs) : Reps K cl H m (d :: ds) (v :: vs) := ⟨v, vs, rfl, r, q⟩
theorem Reps.one {d : D} {v : V} (r : Rep K cl H m d v) : Reps K cl H m [d] [v] := .cons r rfl
theorem Reps.nil : Reps K cl H m [] [] := rfl
theorem Reps.inv_cons {d : D} {ds : List D} {vs : List V} (q : Reps K cl H m (d :: ds) vs) : ∃ v ws, vs = v :: ws ∧ Rep K cl H m d v ∧ Reps K cl H m ds ws := q
theorem Reps.inv_nil {vs : List V} (q : Reps K cl H m [] vs) : vs = [] := q
theorem Reps.take : ∀ {ds : List D} {vs : List V} (n : Nat), Reps K cl H m ds vs → Reps K cl H m (ds.take n) (vs.take n)
  | _, _, 0, _ => rfl
  | [], _, _ + 1, x => by
    have e : _ = [] := x
    rw [e]; rfl
  | d :: ds, _, n + 1, ⟨v, vs, e, r, q⟩ => by
    subst e
    exact ⟨v, _, rfl, r, Reps.take n q⟩
theorem Reps.drop : ∀ {ds : List D} {vs : List V} (n : Nat), Reps K cl H m ds vs → Reps K cl H m (ds.drop n) (vs.drop n)
  | _, _, 0, x => x
  | [], _, _ + 1, x => by
    have e : _ = [] := x
    rw [e]; rfl
  | d :: ds, _, n + 1, ⟨v, vs, e, r, q⟩ => by
    subst e
    exact Reps.drop n q
theorem Reps.set {d : D} {v : V} (r : Rep K cl H m d v) : ∀ {ds : List D} {vs : List V} (i : Nat), Reps K cl H m ds vs → Reps K cl H m (ds.set i d) (vs.set i v)
  | [], _, _, x => by
    have e : _ = [] := x
    rw [e]; rfl
  | _ :: ds, _, 0, ⟨v, vs, e, _, q⟩ => by
    subst e
    exact ⟨_, vs, rfl, r, q⟩
  | _ :: ds, _, i + 1, ⟨v, vs, e, r', q⟩ => by
    subst e
    exact ⟨_, _, rfl, r', Reps.set r i q⟩
theorem Reps.none_of {ds : List D} {vs : List V} {i : Nat} (r : Reps K cl H m ds vs) (e : ds[i]? = none) : vs[i]? = none := by
  have h1 := r.length
  have h2 : ds.length ≤ i := List.getElem?_eq_none_iff.mp e
  exact List.getElem?_eq_none_iff.mpr (by omega)
end

/-! ### a state: the heap, the part of it that changes no more, where the changeable things stand and what they hold -/
structure Wd where
  H : Hp
  F : Hp
  m : List Addr
  S : Sto
/-- what a changeable thing holds: its own object in H, what is within it by F -/
def CellAt (K : PySem.W.Frag) (cl : Cl) (H F : Hp) (m : List Addr) (a : Addr) : D → Prop
  | .lst ds => ∃ xs, H a = some (.lst xs) ∧ Reps K cl F m ds xs
  | .dic ks vs => ∃ es : List (Key × V), H a = some (.dK es) ∧ Reps K cl F m ks (es.map (fun e => kV e.1)) ∧ Reps K cl F m vs (es.map (·.2))
  | .dit ks vs => ∃ es : NE, H a = some (nD cl.w a es) ∧ ks.map nkD = es.map (fun e => some e.1) ∧ Reps K cl F m ks (es.map fun e => .ref e.2.1) ∧ Reps K cl F m vs (es.map (·.2.2))
  | .obj c ns vs => ∃ dx es, H a = some (.ins (cl c) dx es) ∧ es.map (·.1) = ns ∧ Reps K cl F m vs (es.map (·.2))
  | _ => False
/-- a is where a thing stands that may still change -/
def Live (w : Wd) (a : Addr) : Prop := ∃ (i : Nat) (d : D), w.m[i]? = some a ∧ w.S[i]? = some (some d)
structure Wd.Ok (K : PySem.W.Frag) (cl : Cl) (w : Wd) : Prop where
  len : w.m.length = w.S.length
  sub : ∀ a o, w.F a = some o → w.H a = some o
  cell : ∀ (i : Nat) (a : Addr) (d : D), w.m[i]? = some a → w.S[i]? = some (some d) → w.F a = none ∧ CellAt K cl w.H w.F w.m a d
  inj : ∀ (i j : Nat) (a : Addr) (d e : D), w.m[i]? = some a → w.m[j]? = some a → w.S[i]? = some (some d) → w.S[j]? = some (some e) → i = j
/-- w' may come of w -/
structure Af (K : PySem.W.Frag) (cl : Cl) (w w' : Wd) : Prop where
  ok : w'.Ok K cl
  fz : ∀ a o, w.F a = some o → w'.F a = some o
  mu : ∀ (i : Nat) (a : Addr), w.m[i]? = some a → w'.m[i]? = some a
  keep : ∀ a o, w.H a = some o → ¬ Live w a → w'.H a = some o
  new : ∀ a o, w'.F a = some o → w.F a = some o ∨ w.H a = none ∨ Live w a
  liv : ∀ a, Live w' a → Live w a ∨ w.H a = none
section
variable {K : PySem.W.Frag} {cl : Cl} {w w1 w2 : Wd}
theorem Af.refl (o : w.Ok K cl) : Af K cl w w := ⟨o, fun _ _ h => h, fun _ _ h => h, fun _ _ h _ => h, fun _ _ h => .inl h, fun _ h => .inl h⟩
theorem Af.trans (x : Af K cl w w1) (y : Af K cl w1 w2) : Af K cl w w2 where
  ok := y.ok
  fz := fun a o h => y.fz a o (x.fz a o h)
  mu := fun i a h => y.mu i a (x.mu i a h)
  keep := fun a o h n => y.keep a o (x.keep a o h n) fun l => (x.liv a l).elim n fun e => by rw [h] at e; cases e
  new := fun a o h => by
    rcases y.new a o h with e | e | e
    · exact x.new a o e
    · by_cases l : Live w a
      · exact .inr (.inr l)
      · cases q : w.H a with
        | none => exact .inr (.inl rfl)
        | some u =>
          have := x.keep a u q l
          rw [e] at this; cases this
    · rcases x.liv a e with l | l
      · exact .inr (.inr l)
      · exact .inr (.inl l)
  liv := fun a h => by
    rcases y.liv a h with l | l
    · exact x.liv a l
    · by_cases l' : Live w a
      · exact .inl l'
      · cases q : w.H a with
        | none => exact .inr rfl
        | some u =>
          have := x.keep a u q l'
          rw [l] at this; cases this
theorem Rep.af (x : Af K cl w w1) {d : D} {v : V} (r : Rep K cl w.F w.m d v) : Rep K cl w1.F w1.m d v := Rep.mono x.fz x.mu d v r
theorem Reps.af (x : Af K cl w w1) {d : List D} {v : List V} (r : Reps K cl w.F w.m d v) : Reps K cl w1.F w1.m d v := Reps.mono x.fz x.mu d v r
theorem LL.at (o : w.Ok K cl) {a : Addr} {xs : List V} (h : LL w.F a xs) : w.H a = some (.lst xs) := o.sub _ _ h
theorem LL.here (o : w.Ok K cl) {a : Addr} {xs : List V} (h : LL w.F a xs) : SqL K w.H a xs := .inl (.inl (h.at o))
theorem sq_here (o : w.Ok K cl) {a : Addr} {xs : List V} (h : SqL K w.F a xs) : SqL K w.H a xs := sqL_mono o.sub h
theorem TL.here (o : w.Ok K cl) {a : Addr} {xs : List V} (h : TL K w.F a xs) : SqT K w.H a xs := by
  rcases h with h | h | h
  · exact .inl (.inl (o.sub _ _ h))
  · rcases h with h | ⟨_, h⟩ <;> cases h
  · exact .inr h
/-- a new thing is laid at p, of which nothing is told -/
theorem Wd.Ok.untold (o : w.Ok K cl) {p : Addr} {u : HO} (hp : w.H p = none) : Af K cl w ⟨upd w.H p u, w.F, w.m, w.S⟩ where
  ok := ⟨o.len, fun a x h => by
    have r := o.sub a x h
    show upd w.H p u a = _
    rw [upd_ne (ne_of_none r hp)]; exact r,
    fun i a d h1 h2 => by
      obtain ⟨c1, c2⟩ := o.cell i a d h1 h2
      refine ⟨c1, ?_⟩
      have n : ∀ x, w.H a = some x → a ≠ p := fun x h e => by rw [e, hp] at h; cases h
      cases d with
      | lst ds => obtain ⟨xs, e, r⟩ := c2; exact ⟨xs, by show upd w.H p u a = _; rw [upd_ne (n _ e)]; exact e, r⟩
      | dic ks vs => obtain ⟨xs, e, r⟩ := c2; exact ⟨xs, by show upd w.H p u a = _; rw [upd_ne (n _ e)]; exact e, r⟩
      | dit ks vs => obtain ⟨xs, e, r⟩ := c2; exact ⟨xs, by show upd w.H p u a = _; rw [upd_ne (n _ e)]; exact e, r⟩
      | obj c ns vs => obtain ⟨dx, es, e, r⟩ := c2; exact ⟨dx, es, by show upd w.H p u a = _; rw [upd_ne (n _ e)]; exact e, r⟩
      | _ => exact c2,
    o.inj⟩
  fz := fun _ _ h => h
  mu := fun _ _ h => h
  keep := fun a x h _ => by show upd w.H p u a = _; rw [upd_ne (ne_of_none h hp)]; exact h
  new := fun _ _ h => .inl h
  liv := fun _ h => .inl h
theorem Wd.Ok.free (o : w.Ok K cl) {p : Addr} (hp : w.H p = none) : w.F p = none := by
  cases q : w.F p with
  | none => rfl
  | some u =>
    have r := o.sub _ _ q
    rw [hp] at r; cases r
theorem CellAt.of {K : PySem.W.Frag} {cl : Cl} {H H' F F' : Hp} {m m' : List Addr} {a : Addr} {d : D} (h : CellAt K cl H F m a d) (e : H' a = H a) (hf : ∀ a o, F a = some o → F' a = some o) (hm : ∀ (i : Nat) (a : Addr), m[i]? = some a → m'[i]? = some a) : CellAt K cl H' F' m' a d := by
  cases d with
  | lst ds => obtain ⟨xs, q, r⟩ := h; exact ⟨xs, e.trans q, Reps.mono hf hm _ _ r⟩
  | dic ks vs => obtain ⟨xs, q, r, r'⟩ := h; exact ⟨xs, e.trans q, Reps.mono hf hm _ _ r, Reps.mono hf hm _ _ r'⟩
  | dit ks vs => obtain ⟨xs, q, n, r, r'⟩ := h; exact ⟨xs, e.trans q, n, Reps.mono hf hm _ _ r, Reps.mono hf hm _ _ r'⟩
  | obj c ns vs => obtain ⟨dx, es, q, r, r'⟩ := h; exact ⟨dx, es, e.trans q, r, Reps.mono hf hm _ _ r'⟩
  | _ => exact h
theorem CellAt.there {K : PySem.W.Frag} {cl : Cl} {H F : Hp} {m : List Addr} {a : Addr} {d : D} (h : CellAt K cl H F m a d) : ∃ o, H a = some o := by
  cases d with
  | lst ds => obtain ⟨xs, q, r⟩ := h; exact ⟨_, q⟩
  | dic ks vs => obtain ⟨xs, q, r, r'⟩ := h; exact ⟨_, q⟩
  | dit ks vs => obtain ⟨xs, q, r, r'⟩ := h; exact ⟨_, q⟩
  | obj c ns vs => obtain ⟨dx, es, q, r, r'⟩ := h; exact ⟨_, q⟩
  | _ => exact h.elim
/-- a new thing is laid at p, that changes no more -/
theorem Wd.Ok.laid (o : w.Ok K cl) {p : Addr} {u : HO} (hp : w.H p = none) : Af K cl w ⟨upd w.H p u, upd w.F p u, w.m, w.S⟩ where
  ok := ⟨o.len, fun a x h => by
    by_cases n : a = p
    · subst n
      have h' : upd w.F a u a = some x := h
      rw [upd_same] at h'
      show upd w.H a u a = _
      rw [upd_same]; exact h'
    · have h' : upd w.F p u a = some x := h
      rw [upd_ne n] at h'
      show upd w.H p u a = _
      rw [upd_ne n]; exact o.sub a x h',
    fun i a d h1 h2 => by
      obtain ⟨c1, c2⟩ := o.cell i a d h1 h2
      obtain ⟨x, hx⟩ := c2.there
      have n : a ≠ p := ne_of_none hx hp
      exact ⟨by show upd w.F p u a = _; rw [upd_ne n]; exact c1, c2.of (upd_ne n) (fun b y hb => by show upd w.F p u b = _; rw [upd_ne (ne_of_none hb (o.free hp))]; exact hb) fun _ _ h => h⟩,
    o.inj⟩
  fz := fun b y hb => by show upd w.F p u b = _; rw [upd_ne (ne_of_none hb (o.free hp))]; exact hb
  mu := fun _ _ h => h
  keep := fun a x h _ => by show upd w.H p u a = _; rw [upd_ne (ne_of_none h hp)]; exact h
  new := fun a x h => by
    by_cases n : a = p
    · subst n; exact .inr (.inl hp)
    · have h' : upd w.F p u a = some x := h
      rw [upd_ne n] at h'
      exact .inl h'
  liv := fun _ h => .inl h
/-- a new changeable thing is laid at p -/
theorem Wd.Ok.cellNew (o : w.Ok K cl) {p : Addr} {u : HO} {d : D} (hp : w.H p = none) (hd : CellAt K cl (upd w.H p u) w.F (w.m ++ [p]) p d) : Af K cl w ⟨upd w.H p u, w.F, w.m ++ [p], w.S ++ [some d]⟩ where
  ok := ⟨by show (w.m ++ [p]).length = (w.S ++ [some d]).length; rw [List.length_append, List.length_append, o.len]; rfl, (o.untold (u := u) hp).ok.sub,
    fun i a e h1 h2 => by
      by_cases hi : i < w.m.length
      · have h1' : w.m[i]? = some a := by
          have q : (w.m ++ [p])[i]? = some a := h1
          rw [List.getElem?_append_left hi] at q; exact q
        have h2' : w.S[i]? = some (some e) := by
          have q : (w.S ++ [some d])[i]? = some (some e) := h2
          rw [List.getElem?_append_left (by rw [← o.len]; exact hi)] at q; exact q
        obtain ⟨c1, c2⟩ := o.cell i a e h1' h2'
        obtain ⟨x, hx⟩ := c2.there
        exact ⟨c1, c2.of (upd_ne (ne_of_none hx hp)) (fun _ _ h => h) fun j b hb => by
          show (w.m ++ [p])[j]? = some b
          rw [List.getElem?_append_left (List.getElem?_eq_some_iff.mp hb).1]; exact hb⟩
      · have q : (w.m ++ [p])[i]? = some a := h1
        have q2 : (w.S ++ [some d])[i]? = some (some e) := h2
        rw [List.getElem?_append_right (by omega)] at q
        rw [List.getElem?_append_right (by rw [← o.len]; omega)] at q2
        rw [← o.len] at q2
        cases hz : i - w.m.length with
        | zero =>
          rw [hz] at q q2
          simp at q q2
          subst q; subst q2
          exact ⟨o.free hp, hd⟩
        | succ k => rw [hz] at q; simp at q,
    fun i j a e e' h1 h2 h3 h4 => by
      have q1 : (w.m ++ [p])[i]? = some a := h1
      have q2 : (w.m ++ [p])[j]? = some a := h2
      have q3 : (w.S ++ [some d])[i]? = some (some e) := h3
      have q4 : (w.S ++ [some d])[j]? = some (some e') := h4
      have old : ∀ k (e : D), k < w.m.length → (w.m ++ [p])[k]? = some a → (w.S ++ [some d])[k]? = some (some e) → w.m[k]? = some a ∧ w.S[k]? = some (some e) ∧ a ≠ p := fun k e hk r1 r2 => by
        rw [List.getElem?_append_left hk] at r1
        rw [List.getElem?_append_left (by rw [← o.len]; exact hk)] at r2
        obtain ⟨x, hx⟩ := (o.cell k a e r1 r2).2.there
        exact ⟨r1, r2, ne_of_none hx hp⟩
      have nw : ∀ k, ¬ k < w.m.length → (w.m ++ [p])[k]? = some a → k = w.m.length ∧ a = p := fun k hk r1 => by
        rw [List.getElem?_append_right (by omega)] at r1
        cases hz : k - w.m.length with
        | zero => rw [hz] at r1; simp at r1; exact ⟨by omega, r1.symm⟩
        | succ n => rw [hz] at r1; simp at r1
      by_cases hi : i < w.m.length <;> by_cases hj : j < w.m.length
      · exact o.inj i j a e e' (old i e hi q1 q3).1 (old j e' hj q2 q4).1 (old i e hi q1 q3).2.1 (old j e' hj q2 q4).2.1
      · exact absurd (nw j hj q2).2 (old i e hi q1 q3).2.2
      · exact absurd (nw i hi q1).2 (old j e' hj q2 q4).2.2
      · rw [(nw i hi q1).1, (nw j hj q2).1]⟩
  fz := fun _ _ h => h
  mu := fun j b hb => by
    show (w.m ++ [p])[j]? = some b
    rw [List.getElem?_append_left (List.getElem?_eq_some_iff.mp hb).1]; exact hb
  keep := fun a x h _ => by show upd w.H p u a = _; rw [upd_ne (ne_of_none h hp)]; exact h
  new := fun _ _ h => .inl h
  liv := fun a ⟨i, e, h1, h2⟩ => by
    have q1 : (w.m ++ [p])[i]? = some a := h1
    have q3 : (w.S ++ [some d])[i]? = some (some e) := h2
    by_cases hi : i < w.m.length
    · rw [List.getElem?_append_left hi] at q1
      rw [List.getElem?_append_left (by rw [← o.len]; exact hi)] at q3
      exact .inl ⟨i, e, q1, q3⟩
    · rw [List.getElem?_append_right (by omega)] at q1
      cases hz : i - w.m.length with
      | zero => rw [hz] at q1; simp at q1; rw [← q1]; exact .inr hp
      | succ n => rw [hz] at q1; simp at q1
/-- a changeable thing is changed -/
theorem Wd.Ok.cellSet (o : w.Ok K cl) {i : Nat} {a : Addr} {d0 d : D} {u : HO} (hi : w.m[i]? = some a) (h0 : w.S[i]? = some (some d0)) (hd : CellAt K cl (upd w.H a u) w.F w.m a d) : Af K cl w ⟨upd w.H a u, w.F, w.m, w.S.set i (some d)⟩ where
  ok := ⟨by show w.m.length = (w.S.set i _).length; rw [List.length_set]; exact o.len, fun b x h => by
      have n : b ≠ a := fun e => by rw [e] at h; rw [(o.cell i a d0 hi h0).1] at h; cases h
      show upd w.H a u b = _
      rw [upd_ne n]; exact o.sub b x h,
    fun j b e h1 h2 => by
      have q2 : (w.S.set i (some d))[j]? = some (some e) := h2
      by_cases hj : i = j
      · subst hj
        have ea : a = b := Option.some.inj (hi.symm.trans h1)
        subst ea
        rw [List.getElem?_set_self (List.getElem?_eq_some_iff.mp h0).1] at q2
        cases q2
        exact ⟨(o.cell i a d0 hi h0).1, hd⟩
      · rw [List.getElem?_set_ne hj] at q2
        obtain ⟨c1, c2⟩ := o.cell j b e h1 q2
        have n : b ≠ a := fun z => hj (o.inj i j a d0 e hi (by rw [← z]; exact h1) h0 q2)
        exact ⟨c1, c2.of (upd_ne n) (fun _ _ h => h) fun _ _ h => h⟩,
    fun j k b e e' h1 h2 h3 h4 => by
      have liv : ∀ k (e : D), (w.S.set i (some d))[k]? = some (some e) → ∃ e', w.S[k]? = some (some e') := fun k e r => by
        by_cases hk : i = k
        · subst hk; exact ⟨d0, h0⟩
        · rw [List.getElem?_set_ne hk] at r; exact ⟨e, r⟩
      obtain ⟨e1, r1⟩ := liv j e h3
      obtain ⟨e2, r2⟩ := liv k e' h4
      exact o.inj j k b e1 e2 h1 h2 r1 r2⟩
  fz := fun _ _ h => h
  mu := fun _ _ h => h
  keep := fun b x h n => by
    have ne : b ≠ a := fun e => n ⟨i, d0, by rw [e]; exact hi, h0⟩
    show upd w.H a u b = _
    rw [upd_ne ne]; exact h
  new := fun _ _ h => .inl h
  liv := fun b ⟨k, e, h1, h2⟩ => by
    have q2 : (w.S.set i (some d))[k]? = some (some e) := h2
    by_cases hk : i = k
    · subst hk; exact .inl ⟨i, d0, h1, h0⟩
    · rw [List.getElem?_set_ne hk] at q2; exact .inl ⟨k, e, h1, q2⟩
/-- a changeable thing changes no more -/
theorem Wd.Ok.freeze (o : w.Ok K cl) {i : Nat} {a : Addr} {d : D} (hi : w.m[i]? = some a) (h0 : w.S[i]? = some (some d)) (u : HO) : Af K cl w ⟨upd w.H a u, upd w.F a u, w.m, w.S.set i none⟩ := by
  obtain ⟨c1, c2⟩ := o.cell i a d hi h0
  have fz : ∀ b x, w.F b = some x → upd w.F a u b = some x := fun b x h => by rw [upd_ne (ne_of_none h c1)]; exact h
  refine ⟨⟨?_, fun b x h => ?_, fun j b e h1 h2 => ?_, fun j k b e e' h1 h2 h3 h4 => ?_⟩, fz, fun _ _ h => h, fun b x h n => ?_, fun b x h => ?_, fun b ⟨k, e, h1, h2⟩ => ?_⟩
  · show w.m.length = (w.S.set i _).length
    rw [List.length_set]; exact o.len
  · by_cases n : b = a
    · subst n
      have h' : upd w.F b u b = some x := h
      rw [upd_same] at h'
      show upd w.H b u b = _
      rw [upd_same]; exact h'
    · have h' : upd w.F a u b = some x := h
      rw [upd_ne n] at h'
      show upd w.H a u b = _
      rw [upd_ne n]; exact o.sub b x h'
  · have q2 : (w.S.set i none)[j]? = some (some e) := h2
    by_cases hj : i = j
    · subst hj
      rw [List.getElem?_set_self (List.getElem?_eq_some_iff.mp h0).1] at q2
      cases q2
    · rw [List.getElem?_set_ne hj] at q2
      obtain ⟨c1', c2'⟩ := o.cell j b e h1 q2
      have n : b ≠ a := fun z => hj (o.inj i j a d e hi (by rw [← z]; exact h1) h0 q2)
      exact ⟨by show upd w.F a u b = _; rw [upd_ne n]; exact c1', c2'.of (upd_ne n) fz fun _ _ h => h⟩
  · have lv : ∀ k (e : D), (w.S.set i none)[k]? = some (some e) → w.S[k]? = some (some e) := fun k e r => by
      by_cases hk : i = k
      · subst hk
        rw [List.getElem?_set_self (List.getElem?_eq_some_iff.mp h0).1] at r
        cases r
      · rw [List.getElem?_set_ne hk] at r; exact r
    exact o.inj j k b e e' h1 h2 (lv j e h3) (lv k e' h4)
  · have ne : b ≠ a := fun e => n ⟨i, d, by rw [e]; exact hi, h0⟩
    show upd w.H a u b = _
    rw [upd_ne ne]; exact h
  · by_cases n : b = a
    · subst n; exact .inr (.inr ⟨i, d, hi, h0⟩)
    · have h' : upd w.F a u b = some x := h
      rw [upd_ne n] at h'
      exact .inl h'
  · have q2 : (w.S.set i none)[k]? = some (some e) := h2
    by_cases hk : i = k
    · subst hk
      rw [List.getElem?_set_self (List.getElem?_eq_some_iff.mp h0).1] at q2
      cases q2
    · rw [List.getElem?_set_ne hk] at q2; exact .inl ⟨k, e, h1, q2⟩
theorem upd_self {H : Hp} {a : Addr} {u : HO} (h : H a = some u) : upd H a u = H := by
  funext b
  by_cases n : b = a
  · subst n; rw [upd_same, h]
  · rw [upd_ne n]
end
end Dl
set_option Elab.async false
set_option linter.all false
set_option maxRecDepth 100000
set_option maxHeartbeats 4000000
/-! The data layer: expressions. -/
namespace Dl
open PySem L2

/-- an exception's own dict -/
def ExcAt (K : PySem.W.Frag) (cl : Cl) (w : Wd) (d : Option Addr) (ns : List Str) (vs : List D) : Prop :=
  (ns = [] ∧ d = none) ∨ ∃ a es, d = some a ∧ w.F a = some (.xd es) ∧ es.map (·.1) = ns ∧ Reps K cl w.F w.m vs (es.map (·.2))
/-- what must hold behind a piece of code that comes to o -/
def OPost {α β : Type} (K : PySem.W.Frag) (cl : Cl) (R : Wd → α → β → Prop) (W : Value → Option Addr → Hp → Prop) (w : Wd) (Q : β → Hp → Prop) : Out α → Prop
  | .ok a S' => ∀ w' b, Af K cl w w' → w'.S = S' → R w' a b → Q b w'.H
  | .exc c ns vs S' => ∀ w' d, Af K cl w w' → w'.S = S' → ExcAt K cl w' d ns vs → W (.ref (cl c)) d w'.H
  | .bad => False
def RV (K : PySem.W.Frag) (cl : Cl) (w : Wd) (d : D) (v : V) : Prop := Rep K cl w.F w.m d v
def RL (K : PySem.W.Frag) (cl : Cl) (w : Wd) (d : List D) (v : List V) : Prop := Reps K cl w.F w.m d v
def RB (_w : Wd) (a b : Bool) : Prop := a = b
section
variable {α β γ δ : Type} {K : PySem.W.Frag} {cl : Cl} {R : Wd → α → β → Prop} {R' : Wd → γ → δ → Prop} {W : Value → Option Addr → Hp → Prop} {w w1 : Wd} {Q : β → Hp → Prop}
theorem OPost.after {o : Out α} (p : OPost K cl R W w Q o) (x : Af K cl w w1) : OPost K cl R W w1 Q o := by
  cases o with
  | ok a S => exact fun w' b y e r => p w' b (x.trans y) e r
  | exc c ns vs S => exact fun w' d y e r => p w' d (x.trans y) e r
  | bad => exact p
theorem OPost.bind {o : Out γ} {k : γ → Sto → Out α} {P : δ → Hp → Prop} (p : OPost K cl R W w Q (o.bind k))
    (h : ∀ a w1 b, Af K cl w w1 → R' w1 a b → OPost K cl R W w1 Q (k a w1.S) → P b w1.H) : OPost K cl R' W w P o := by
  cases o with
  | ok a S =>
    intro w1 b y e r
    refine h a w1 b y r ?_
    rw [e]
    exact OPost.after p y
  | exc c ns vs S => exact p
  | bad => exact p
theorem OPost.mono {o : Out α} {P : β → Hp → Prop} (p : OPost K cl R W w Q o) (h : ∀ b H, Q b H → P b H) : OPost K cl R W w P o := by
  cases o with
  | ok a S => exact fun w' b y e r => h _ _ (p w' b y e r)
  | exc c ns vs S => exact p
  | bad => exact p
end
/-- the slots -/
structure EnvR (K : PySem.W.Frag) (cl : Cl) (w : Wd) (t : Lc) (σ : L2.St) : Prop where
  len : t.length = σ.length
  at_ : ∀ (i : Nat) (d : D), t[i]? = some (some d) → ∃ v, σ[i]? = some (some v) ∧ Rep K cl w.F w.m d v
section
variable {K : PySem.W.Frag} {cl : Cl} {w w1 : Wd} {t : Lc} {σ : L2.St}
theorem EnvR.af (e : EnvR K cl w t σ) (x : Af K cl w w1) : EnvR K cl w1 t σ := ⟨e.len, fun i d h => let ⟨v, h1, h2⟩ := e.at_ i d h; ⟨v, h1, h2.af x⟩⟩
theorem EnvR.set (e : EnvR K cl w t σ) {i : Nat} {d : D} {v : V} (r : Rep K cl w.F w.m d v) : EnvR K cl w (t.set i (some d)) (σ.set i (some v)) := by
  refine ⟨by rw [List.length_set, List.length_set]; exact e.len, fun j d' h => ?_⟩
  by_cases hj : i = j
  · subst hj
    by_cases hi : i < t.length
    · rw [List.getElem?_set_self hi] at h
      cases h
      exact ⟨v, List.getElem?_set_self (by rw [← e.len]; exact hi), r⟩
    · rw [List.getElem?_eq_none (by rw [List.length_set]; omega)] at h
      cases h
  · rw [List.getElem?_set_ne hj] at h ⊢
    exact e.at_ j d' h
theorem EnvR.unset (e : EnvR K cl w t σ) {i : Nat} {o : Option V} : EnvR K cl w (t.set i none) (σ.set i o) := by
  refine ⟨by rw [List.length_set, List.length_set]; exact e.len, fun j d' h => ?_⟩
  by_cases hj : i = j
  · subst hj
    by_cases hi : i < t.length
    · rw [List.getElem?_set_self hi] at h
      cases h
    · rw [List.getElem?_eq_none (by rw [List.length_set]; omega)] at h
      cases h
  · rw [List.getElem?_set_ne hj] at h ⊢
    exact e.at_ j d' h
end
/-- an expression that comes to what de says -/
def upE (K : PySem.W.Frag) (cl : Cl) (W : WX) (de : DE) : TE := fun σ H Q => ∃ w t, w.H = H ∧ w.Ok K cl ∧ EnvR K cl w t σ ∧ OPost K cl (RV K cl) (fun c d H' => W c d σ H') w Q (de t w.S)
def upA (K : PySem.W.Frag) (cl : Cl) (W : WX) (de : DA) : TA := fun σ H Q => ∃ w t, w.H = H ∧ w.Ok K cl ∧ EnvR K cl w t σ ∧ OPost K cl (RL K cl) (fun c d H' => W c d σ H') w Q (de t w.S)
def upB (K : PySem.W.Frag) (cl : Cl) (W : WX) (de : DB) : TT := fun σ H Q => ∃ w t, w.H = H ∧ w.Ok K cl ∧ EnvR K cl w t σ ∧ OPost K cl RB (fun c d H' => W c d σ H') w Q (de t w.S)

section
variable {X : Cx} {e a b c : Expr} {es : List Expr} {te : TE} {W : WX} {pos : Pos} {cl : Cl}
theorem weakE (h : PE X e te) {t : TE} (q : ∀ σ H Q, t σ H Q → te σ H Q) : PE X e t := ⟨fun pins s σ H Q I hw => h.run pins s σ H Q I (q σ H Q hw)⟩
theorem weakB {tt : TT} (h : PT X e tt) {t : TT} (q : ∀ σ H Q, t σ H Q → tt σ H Q) : PT X e t := ⟨fun pins s σ H Q I hw => h.run pins s σ H Q I (q σ H Q hw)⟩
theorem weakA {ta : TA} (h : PA X es ta) {t : TA} (q : ∀ σ H Q, t σ H Q → ta σ H Q) : PA X es t := ⟨fun pos pins s σ H Q I hw => h.run pos pins s σ H Q I (q σ H Q hw)⟩
theorem weakS {st : Stmt} {ts : TS} (h : PS X st ts) {t : TS} (q : ∀ D σ H, t D σ H → ts D σ H) : PS X st t := ⟨fun pins s σ H D I hw => h.run pins s σ H D I (q D σ H hw)⟩
theorem weakSs {st : List Stmt} {ts : TS} (h : PSs X st ts) {t : TS} (q : ∀ D σ H, t D σ H → ts D σ H) : PSs X st t := ⟨fun pins s σ H D I hw => h.run pins s σ H D I (q D σ H hw)⟩

abbrev UE (X : Cx) (cl : Cl) (W : WX) (e : Expr) (de : DE) : Prop := PE X e (upE X.K cl W de)
abbrev UA (X : Cx) (cl : Cl) (W : WX) (es : List Expr) (de : DA) : Prop := PA X es (upA X.K cl W de)
abbrev UB (X : Cx) (cl : Cl) (W : WX) (e : Expr) (de : DB) : Prop := PT X e (upB X.K cl W de)

/-! names, constants -/
def dVar (i : Nat) : DE := fun t S => match t[i]? with | some (some d) => .ok d S | _ => .bad
def dC (d : D) : DE := fun _ S => .ok d S
theorem u_var {i : Nat} (h : PE X e (tVar i)) : UE X cl W e (dVar i) := weakE h fun σ H Q ⟨w, t, eH, ok, en, p⟩ => by
  unfold dVar at p
  split at p
  · rename_i d hd
    obtain ⟨v, h1, h2⟩ := en.at_ i d hd
    exact ⟨v, h1, eH ▸ p w v (Af.refl ok) rfl h2⟩
  · exact p.elim
/-- a constant, bearing d whatever the heap -/
theorem u_c {v : V} {d : D} (h : PE X e (tC v)) (r : ∀ H m, Rep X.K cl H m d v) : UE X cl W e (dC d) := weakE h fun σ H Q ⟨w, t, eH, ok, en, p⟩ => eH ▸ p w v (Af.refl ok) rfl (r _ _)

/-! operators on values -/
def OpD (K : PySem.W.Frag) (cl : Cl) (r : R2) (f : D → D → Sto → Out D) : Prop :=
  ∀ (w : Wd) (x y : D) (vx vy : V) (W : Value → Option Addr → Hp → Prop) (Q : VK), w.Ok K cl → RV K cl w x vx → RV K cl w y vy → OPost K cl (RV K cl) W w Q (f x y w.S) → r vx vy w.H Q
def UnD (K : PySem.W.Frag) (cl : Cl) (r : V → Hp → VK → Prop) (f : D → Sto → Out D) : Prop :=
  ∀ (w : Wd) (x : D) (vx : V) (W : Value → Option Addr → Hp → Prop) (Q : VK), w.Ok K cl → RV K cl w x vx → OPost K cl (RV K cl) W w Q (f x w.S) → r vx w.H Q
def CallD (K : PySem.W.Frag) (cl : Cl) (r : List V → Hp → VK → Prop) (f : List D → Sto → Out D) : Prop :=
  ∀ (w : Wd) (xs : List D) (vs : List V) (W : Value → Option Addr → Hp → Prop) (Q : VK), w.Ok K cl → RL K cl w xs vs → OPost K cl (RV K cl) W w Q (f xs w.S) → r vs w.H Q
def dOp (f : D → D → Sto → Out D) (da db : DE) : DE := fun t S => (da t S).bind fun x S1 => (db t S1).bind fun y S2 => f x y S2
def dUn (f : D → Sto → Out D) (da : DE) : DE := fun t S => (da t S).bind fun x S1 => f x S1
theorem le_op {r : R2} {f : D → D → Sto → Out D} {da db : DE} (hr : OpD X.K cl r f) {σ : L2.St} {H : Hp} {Q : VK} (h : upE X.K cl W (dOp f da db) σ H Q) : tOp r (upE X.K cl W da) (upE X.K cl W db) σ H Q := by
  obtain ⟨w, t, eH, ok, en, p⟩ := h
  refine ⟨w, t, eH, ok, en, OPost.bind p fun x w1 v1 a1 r1 p1 => ?_⟩
  refine ⟨w1, t, rfl, a1.ok, en.af a1, OPost.bind p1 fun y w2 v2 a2 r2 p2 => ?_⟩
  exact hr w2 x y v1 v2 _ Q a2.ok (Rep.af a2 r1) r2 p2
theorem u_bin {op : Operator} {r : R2} {f : D → D → Sto → Out D} {da db : DE} (ho : OpR X (binaryOp op) r) (hr : OpD X.K cl r f) (ha : UE X cl W a da) (hb : UE X cl W b db) : UE X cl W (.BinOp a op b pos) (dOp f da db) :=
  weakE (pe_op ho ha hb) fun _ _ _ => le_op hr
theorem u_cmp {op : CmpOp} {r : R2} {f : D → D → Sto → Out D} {da db : DE} (ho : OpR X (compareOp op) r) (hr : OpD X.K cl r f) (ha : UE X cl W a da) (hb : UE X cl W b db) (hm : behindInMarks op b = false := by first | exact nomark _ | rfl | with_unfolding_all rfl) :
    UE X cl W (.Compare a [op] [b] pos) (dOp f da db) := weakE (pe_cmpR ho ha hb hm) fun _ _ _ => le_op hr
theorem u_un {op : UnaryOp} {r : V → Hp → VK → Prop} {f : D → Sto → Out D} {da : DE} (ho : UnR X (unaryOp op) r) (hr : UnD X.K cl r f) (ha : UE X cl W a da) : UE X cl W (.UnaryOp op a pos) (dUn f da) := weakE (pe_un ho ha) fun σ H Q ⟨w, t, eH, ok, en, p⟩ =>
  ⟨w, t, eH, ok, en, OPost.bind p fun x w1 v1 a1 r1 p1 => hr w1 x v1 _ Q a1.ok r1 p1⟩
theorem u_ix {r : R2} {f : D → D → Sto → Out D} {da db : DE} (ho : IxR X r) (hr : OpD X.K cl r f) (ha : UE X cl W a da) (hb : UE X cl W b db) (hs : PlainIx b) : UE X cl W (.Subscript a b pos) (dOp f da db) :=
  weakE (pe_ix ho ha hb hs) fun _ _ _ => le_op hr
/-- a op b op' c -/
def dChain (f g : D → D → Sto → Out D) (da db dc : DE) : DE := fun t S => (da t S).bind fun x S1 => (db t S1).bind fun y S2 => (f x y S2).bind fun z S3 => match z with
  | .bl true => (dc t S3).bind fun u S4 => g y u S4
  | .bl false => .ok (.bl false) S3
  | _ => .bad
theorem u_chain {op op' : CmpOp} {r r' : R2} {f g : D → D → Sto → Out D} {da db dc : DE} (ho : OpR X (compareOp op) r) (ho' : OpR X (compareOp op') r') (hr : OpD X.K cl r f) (hr' : OpD X.K cl r' g) (ha : UE X cl W a da) (hb : UE X cl W b db) (hc : UE X cl W c dc)
    (hm : lastMarks [op, op'] [b, c] = false := by with_unfolding_all rfl) : UE X cl W (.Compare a [op, op'] [b, c] pos) (dChain f g da db dc) := weakE (pe_chain ho ho' ha hb hc hm) fun σ H Q ⟨w, t, eH, ok, en, p⟩ => by
  refine ⟨w, t, eH, ok, en, OPost.bind p fun x w1 v1 a1 r1 p1 => ?_⟩
  refine ⟨w1, t, rfl, a1.ok, en.af a1, OPost.bind p1 fun y w2 v2 a2 r2 p2 => ?_⟩
  refine hr w2 x y v1 v2 _ _ a2.ok (Rep.af a2 r1) r2 (OPost.bind p2 fun z w3 v3 a3 r3 p3 => ?_)
  split at p3
  · cases (show v3 = .bl true from r3)
    refine ⟨true, rfl, ?_⟩
    rw [if_pos rfl]
    refine ⟨w3, t, rfl, a3.ok, ((en.af a1).af a2).af a3, OPost.bind p3 fun u w4 v4 a4 r4 p4 => ?_⟩
    exact hr' w4 y u v2 v4 _ Q a4.ok (Rep.af a4 (Rep.af a3 r2)) r4 p4
  · cases (show v3 = .bl false from r3)
    refine ⟨false, rfl, ?_⟩
    rw [if_neg Bool.false_ne_true]
    exact p3 w3 (.bl false) (Af.refl a3.ok) rfl rfl
  · exact p3.elim

/-! and, or, not, if: as values that are bools -/
def dAnd (da db : DE) : DE := fun t S => (da t S).bind fun x S1 => match x with
  | .bl true => db t S1
  | .bl false => .ok (.bl false) S1
  | _ => .bad
def dOr (da db : DE) : DE := fun t S => (da t S).bind fun x S1 => match x with
  | .bl true => .ok (.bl true) S1
  | .bl false => db t S1
  | _ => .bad
def dNot (da : DE) : DE := fun t S => (da t S).bind fun x S1 => match x with
  | .bl b => .ok (.bl (!b)) S1
  | _ => .bad
def bTest (da : DE) : DB := fun t S => (da t S).bind fun x S1 => match x with
  | .bl b => .ok b S1
  | _ => .bad
def bAnd (da db : DB) : DB := fun t S => (da t S).bind fun x S1 => if x = true then db t S1 else .ok false S1
def bOr (da db : DB) : DB := fun t S => (da t S).bind fun x S1 => if x = true then .ok true S1 else db t S1
def bNot (da : DB) : DB := fun t S => (da t S).bind fun x S1 => .ok (!x) S1
def dIf (dc : DB) (da db : DE) : DE := fun t S => (dc t S).bind fun x S1 => if x = true then da t S1 else db t S1
variable {da db : DE} {ba bb : DB} {rest : List Expr}
theorem u_one {op : BoolOp} (h : UE X cl W a da) : UE X cl W (.BoolOp op [a] pos) da := pe_one h
theorem u_and (ha : UE X cl W a da) (hb : UE X cl W (.BoolOp .And (b :: rest) pos) db) : UE X cl W (.BoolOp .And (a :: b :: rest) pos) (dAnd da db) := weakE (pe_and ha hb) fun σ H Q ⟨w, t, eH, ok, en, p⟩ => by
  refine ⟨w, t, eH, ok, en, OPost.bind p fun x w1 v1 a1 r1 p1 => ?_⟩
  split at p1
  · cases (show v1 = .bl true from r1)
    exact ⟨true, rfl, w1, t, rfl, a1.ok, en.af a1, p1⟩
  · cases (show v1 = .bl false from r1)
    exact ⟨false, rfl, p1 w1 (.bl false) (Af.refl a1.ok) rfl rfl⟩
  · exact p1.elim
theorem u_or (ha : UE X cl W a da) (hb : UE X cl W (.BoolOp .Or (b :: rest) pos) db) : UE X cl W (.BoolOp .Or (a :: b :: rest) pos) (dOr da db) := weakE (pe_or ha hb) fun σ H Q ⟨w, t, eH, ok, en, p⟩ => by
  refine ⟨w, t, eH, ok, en, OPost.bind p fun x w1 v1 a1 r1 p1 => ?_⟩
  split at p1
  · cases (show v1 = .bl true from r1)
    exact ⟨true, rfl, p1 w1 (.bl true) (Af.refl a1.ok) rfl rfl⟩
  · cases (show v1 = .bl false from r1)
    exact ⟨false, rfl, w1, t, rfl, a1.ok, en.af a1, p1⟩
  · exact p1.elim
theorem u_not (ha : UE X cl W a da) : UE X cl W (.UnaryOp .Not a pos) (dNot da) := weakE (pe_not ha) fun σ H Q ⟨w, t, eH, ok, en, p⟩ => by
  refine ⟨w, t, eH, ok, en, OPost.bind p fun x w1 v1 a1 r1 p1 => ?_⟩
  split at p1
  · rename_i b
    cases (show v1 = .bl b from r1)
    exact ⟨b, rfl, p1 w1 (.bl (!b)) (Af.refl a1.ok) rfl rfl⟩
  · exact p1.elim
theorem b_of {tt : TT} (h : PT X e tt) (q : ∀ σ H Q, upE X.K cl W da σ H (fun v H1 => ∃ c, v = .bl c ∧ Q c H1) → tt σ H Q) : UB X cl W e (bTest da) := weakB h fun σ H Q ⟨w, t, eH, ok, en, p⟩ => by
  refine q σ H Q ⟨w, t, eH, ok, en, OPost.bind p fun x w1 v1 a1 r1 p1 => ?_⟩
  split at p1
  · rename_i b
    cases (show v1 = .bl b from r1)
    exact ⟨b, rfl, p1 w1 b (Af.refl a1.ok) rfl rfl⟩
  · exact p1.elim
/-- a test by its value -/
theorem b_val (h : UE X cl W e da) (he : ∀ whole, isTrue e X.env whole = (do let v ← whole; standAt e.pos; holding [v] (truthy v)) := by intro _; rfl) : UB X cl W e (bTest da) := b_of (pt_val h he) fun _ _ _ z => z
theorem b_cmp {op : CmpOp} {r : R2} {f : D → D → Sto → Out D} (ho : OpR X (compareOp op) r) (hr : OpD X.K cl r f) (ha : UE X cl W a da) (hb : UE X cl W b db) (hm : behindInMarks op b = false := by first | exact nomark _ | rfl | with_unfolding_all rfl) :
    UB X cl W (.Compare a [op] [b] pos) (bTest (dOp f da db)) := b_of (pt_cmpR ho ha hb hm) fun _ _ _ z => le_op hr z
theorem b_chain {op op' : CmpOp} {r r' : R2} {f g : D → D → Sto → Out D} {dc : DE} (ho : OpR X (compareOp op) r) (ho' : OpR X (compareOp op') r') (hr : OpD X.K cl r f) (hr' : OpD X.K cl r' g) (ha : UE X cl W a da) (hb : UE X cl W b db) (hc : UE X cl W c dc)
    (hm : lastMarks [op, op'] [b, c] = false := by with_unfolding_all rfl) : UB X cl W (.Compare a [op, op'] [b, c] pos) (bTest (dChain f g da db dc)) := b_of (pt_chain ho ho' ha hb hc hm) fun σ H Q ⟨w, t, eH, ok, en, p⟩ => by
  refine ⟨w, t, eH, ok, en, OPost.bind p fun x w1 v1 a1 r1 p1 => ?_⟩
  refine ⟨w1, t, rfl, a1.ok, en.af a1, OPost.bind p1 fun y w2 v2 a2 r2 p2 => ?_⟩
  refine hr w2 x y v1 v2 _ _ a2.ok (Rep.af a2 r1) r2 (OPost.bind p2 fun z w3 v3 a3 r3 p3 => ?_)
  split at p3
  · cases (show v3 = .bl true from r3)
    refine ⟨true, rfl, ?_⟩
    rw [if_pos rfl]
    refine ⟨w3, t, rfl, a3.ok, ((en.af a1).af a2).af a3, OPost.bind p3 fun u w4 v4 a4 r4 p4 => ?_⟩
    exact hr' w4 y u v2 v4 _ _ a4.ok (Rep.af a4 (Rep.af a3 r2)) r4 p4
  · cases (show v3 = .bl false from r3)
    refine ⟨false, rfl, ?_⟩
    rw [if_neg Bool.false_ne_true]
    exact p3 w3 (.bl false) (Af.refl a3.ok) rfl rfl
  · exact p3.elim
/-- and, or in a test -/
abbrev UW (X : Cx) (cl : Cl) (W : WX) (e : Expr) (de : DB) : Prop := PW X e (upB X.K cl W de)
theorem weakW {tt : TT} (h : PW X e tt) {t : TT} (q : ∀ σ H Q, t σ H Q → tt σ H Q) : PW X e t := ⟨fun wh pins s σ H Q I hw => h.run wh pins s σ H Q I (q σ H Q hw)⟩
theorem w_and1 (h : UB X cl W a ba) : UW X cl W (.BoolOp .And [a] pos) ba := pw_and1 h
theorem w_or1 (h : UB X cl W a ba) : UW X cl W (.BoolOp .Or [a] pos) ba := pw_or1 h
theorem w_and (ha : UB X cl W a ba) (hb : UW X cl W (.BoolOp .And (b :: rest) pos) bb) : UW X cl W (.BoolOp .And (a :: b :: rest) pos) (bAnd ba bb) := weakW (pw_and ha hb) fun σ H Q ⟨w, t, eH, ok, en, p⟩ => by
  refine ⟨w, t, eH, ok, en, OPost.bind p fun x w1 v1 a1 r1 p1 => ?_⟩
  cases (show x = v1 from r1)
  cases x with
  | true => exact ⟨w1, t, rfl, a1.ok, en.af a1, p1⟩
  | false => exact p1 w1 false (Af.refl a1.ok) rfl rfl
theorem w_or (ha : UB X cl W a ba) (hb : UW X cl W (.BoolOp .Or (b :: rest) pos) bb) : UW X cl W (.BoolOp .Or (a :: b :: rest) pos) (bOr ba bb) := weakW (pw_or ha hb) fun σ H Q ⟨w, t, eH, ok, en, p⟩ => by
  refine ⟨w, t, eH, ok, en, OPost.bind p fun x w1 v1 a1 r1 p1 => ?_⟩
  cases (show x = v1 from r1)
  cases x with
  | true => exact p1 w1 true (Af.refl a1.ok) rfl rfl
  | false => exact ⟨w1, t, rfl, a1.ok, en.af a1, p1⟩
theorem b_w (h : UW X cl W e ba) : UB X cl W e ba := h.pt
theorem b_not (ha : UB X cl W a ba) : UB X cl W (.UnaryOp .Not a pos) (bNot ba) := weakB (pt_not ha) fun σ H Q ⟨w, t, eH, ok, en, p⟩ => by
  refine ⟨w, t, eH, ok, en, OPost.bind p fun x w1 v1 a1 r1 p1 => ?_⟩
  cases (show x = v1 from r1)
  exact p1 w1 (!x) (Af.refl a1.ok) rfl rfl
theorem u_if {ct : DB} (hc : UB X cl W c ct) (ha : UE X cl W a da) (hb : UE X cl W b db) : UE X cl W (.IfExp c a b pos) (dIf ct da db) := weakE (pe_ifExp hc ha hb) fun σ H Q ⟨w, t, eH, ok, en, p⟩ => by
  refine ⟨w, t, eH, ok, en, OPost.bind p fun x w1 v1 a1 r1 p1 => ?_⟩
  cases (show x = v1 from r1)
  cases x with
  | true => exact ⟨w1, t, rfl, a1.ok, en.af a1, p1⟩
  | false => exact ⟨w1, t, rfl, a1.ok, en.af a1, p1⟩

/-! argument lists, displays -/
def aNil : DA := fun _ S => .ok [] S
def aCons (da : DE) (dr : DA) : DA := fun t S => (da t S).bind fun x S1 => (dr t S1).bind fun xs S2 => .ok (x :: xs) S2
variable {dr : DA}
theorem a_nil : UA X cl W [] aNil := weakA pa_nil fun σ H Q ⟨w, t, eH, ok, en, p⟩ => eH ▸ p w [] (Af.refl ok) rfl rfl
theorem a_cons (ha : UE X cl W e da) (hr : UA X cl W es dr) (hs : starEach (e :: es) X.env = (false, eval e X.env) :: starEach es X.env := by rfl) : UA X cl W (e :: es) (aCons da dr) := weakA (pa_cons ha hr hs) fun σ H Q ⟨w, t, eH, ok, en, p⟩ => by
  refine ⟨w, t, eH, ok, en, OPost.bind p fun x w1 v1 a1 r1 p1 => ?_⟩
  refine ⟨w1, t, rfl, a1.ok, en.af a1, OPost.bind p1 fun xs w2 vs a2 r2 p2 => ?_⟩
  exact p2 w2 (v1 :: vs) (Af.refl a2.ok) rfl ⟨v1, vs, rfl, Rep.af a2 r1, r2⟩
def dTup (dr : DA) : DE := fun t S => (dr t S).bind fun xs S1 => if xs.length ≤ sizeLine then .ok (.tup xs) S1 else .bad
def dLst (dr : DA) : DE := fun t S => (dr t S).bind fun xs S1 => if xs.length ≤ sizeLine then .ok (.lst xs) S1 else .bad
/-- a new list that is still to change -/
def dCellL (dr : DA) : DE := fun t S => (dr t S).bind fun xs S1 => if xs.length ≤ sizeLine then .ok (.ptr S1.length) (S1 ++ [some (.lst xs)]) else .bad
theorem laidTup {K : PySem.W.Frag} {w1 : Wd} {p : Addr} {xs : List D} {vs : List V} (ok : w1.Ok K cl) (hp : w1.H p = none) (r : RL K cl w1 xs vs) : Rep K cl (upd w1.F p (.tup vs)) w1.m (.tup xs) (.ref p) :=
  ⟨p, vs, rfl, .inl upd_same, Reps.af (ok.laid hp) r⟩
theorem laidLst {K : PySem.W.Frag} {w1 : Wd} {p : Addr} {xs : List D} {vs : List V} (ok : w1.Ok K cl) (hp : w1.H p = none) (r : RL K cl w1 xs vs) : Rep K cl (upd w1.F p (.lst vs)) w1.m (.lst xs) (.ref p) :=
  ⟨p, vs, rfl, upd_same, Reps.af (ok.laid hp) r⟩
theorem u_tup {x1} (h : UA X cl W es dr) : UE X cl W (.Tuple es x1 pos) (dTup dr) := weakE (pe_tup h) fun σ H Q ⟨w, t, eH, ok, en, p⟩ => by
  refine ⟨w, t, eH, ok, en, OPost.bind p fun xs w1 vs a1 r1 p1 => ?_⟩
  split at p1
  · rename_i hl
    refine ⟨by rw [← Reps.length r1]; exact hl, fun q hq => ?_⟩
    exact p1 ⟨_, upd w1.F q (.tup vs), w1.m, w1.S⟩ (.ref q) (a1.ok.laid hq) rfl (laidTup a1.ok hq r1)
  · exact p1.elim
theorem u_lst (h : UA X cl W es dr) : UE X cl W (.List es pos) (dLst dr) := weakE (pe_lst h) fun σ H Q ⟨w, t, eH, ok, en, p⟩ => by
  refine ⟨w, t, eH, ok, en, OPost.bind p fun xs w1 vs a1 r1 p1 => ?_⟩
  split at p1
  · rename_i hl
    refine ⟨by rw [← Reps.length r1]; exact hl, fun q hq => ?_⟩
    exact p1 ⟨_, upd w1.F q (.lst vs), w1.m, w1.S⟩ (.ref q) (a1.ok.laid hq) rfl (laidLst a1.ok hq r1)
  · exact p1.elim
theorem snoc_get {α : Type} {l : List α} {x : α} {n : Nat} (h : n = l.length) : (l ++ [x])[n]? = some x := by
  subst h; simp
theorem pre_get {α : Type} {l : List α} {x y : α} {n : Nat} (h : l[n]? = some y) : (l ++ [x])[n]? = some y := by
  rw [List.getElem?_append_left (List.getElem?_eq_some_iff.mp h).1]; exact h
theorem u_cellL (h : UA X cl W es dr) : UE X cl W (.List es pos) (dCellL dr) := weakE (pe_lst h) fun σ H Q ⟨w, t, eH, ok, en, p⟩ => by
  refine ⟨w, t, eH, ok, en, OPost.bind p fun xs w1 vs a1 r1 p1 => ?_⟩
  split at p1
  · rename_i hl
    refine ⟨by rw [← Reps.length r1]; exact hl, fun q hq => ?_⟩
    have z := a1.ok.cellNew (K := X.K) (u := .lst vs) (d := .lst xs) hq ⟨vs, upd_same, Reps.mono (fun _ _ h => h) (fun i b hb => pre_get hb) _ _ r1⟩
    exact p1 ⟨upd w1.H q (.lst vs), w1.F, w1.m ++ [q], w1.S ++ [some (D.lst xs)]⟩ (.ref q) z rfl ⟨q, snoc_get a1.ok.len.symm, rfl⟩
  · exact p1.elim
/-- what a changeable thing holds changes no more -/
def dFz (da : DE) : DE := fun t S => (da t S).bind fun x S1 => match x with
  | .ptr i => match S1[i]? with
    | some (some d) => .ok d (S1.set i none)
    | _ => .bad
  | _ => .bad
/-- the thing that comes may be locked for ever -/
def tMayLock (te : TE) : TE := fun σ H Q => te σ H fun v H1 => Q v H1 ∨ ∃ d u, v = .ref d ∧ H1 d = some u ∧ Mut (some u) ∧ ∀ od, Q v (upd H1 d (.frz od u))
theorem pe_mayLock {te : TE} (h : PE X e te) : PE X e (tMayLock te) := ⟨fun pins s σ H Q I hw => thn (h.run pins s σ H _ I hw) fun v s1 ⟨x, H1, I1, r1, q1⟩ => by
  rcases q1 with q1 | ⟨d, u, e1, hd, mu, q1⟩
  · exact ⟨x, H1, I1, r1, q1⟩
  · obtain ⟨od, I2⟩ := I1.lock hd mu
    exact ⟨x, _, I2, r1, q1 od⟩⟩
theorem u_fz (h : UE X cl W e da) : UE X cl W e (dFz da) := weakE (pe_mayLock h) fun σ H Q ⟨w, t, eH, ok, en, p⟩ => by
  refine ⟨w, t, eH, ok, en, OPost.bind p fun x w1 v1 a1 r1 p1 => ?_⟩
  split at p1
  · rename_i i
    split at p1
    · rename_i d hd
      obtain ⟨a, ha, ev⟩ := (show ∃ a, w1.m[i]? = some a ∧ v1 = .ref a from r1)
      obtain ⟨c1, c2⟩ := a1.ok.cell i a d ha hd
      have fz : ∀ u b x, w1.F b = some x → upd w1.F a u b = some x := fun u b x h => by rw [upd_ne (ne_of_none h c1)]; exact h
      subst ev
      cases d with
      | lst ds =>
        obtain ⟨xs, q, r⟩ := c2
        have z := a1.ok.freeze ha hd (.lst xs)
        refine .inl ?_
        have z2 := p1 ⟨upd w1.H a (.lst xs), upd w1.F a (.lst xs), w1.m, w1.S.set i none⟩ (.ref a) z rfl ⟨a, xs, rfl, upd_same, Reps.mono (fz _) (fun _ _ h => h) _ _ r⟩
        have z3 : Q (.ref a) (upd w1.H a (.lst xs)) := z2
        rw [upd_self q] at z3
        exact z3
      | obj c ns vs =>
        obtain ⟨dx, es, q, e, r⟩ := c2
        have z := a1.ok.freeze ha hd (.ins (cl c) dx es)
        refine .inl ?_
        have z2 := p1 ⟨upd w1.H a (.ins (cl c) dx es), upd w1.F a (.ins (cl c) dx es), w1.m, w1.S.set i none⟩ (.ref a) z rfl ⟨a, dx, es, rfl, upd_same, e, Reps.mono (fz _) (fun _ _ h => h) _ _ r⟩
        have z3 : Q (.ref a) (upd w1.H a (.ins (cl c) dx es)) := z2
        rw [upd_self q] at z3
        exact z3
      | dic ks vs =>
        obtain ⟨es, q, r, r'⟩ := c2
        refine .inr ⟨a, _, rfl, q, True.intro, fun od => ?_⟩
        have z := a1.ok.freeze ha hd (.frz od (.dK es))
        exact p1 ⟨upd w1.H a (.frz od (.dK es)), upd w1.F a (.frz od (.dK es)), w1.m, w1.S.set i none⟩ (.ref a) z rfl ⟨a, _, _, rfl, ⟨od, es, upd_same, rfl, rfl⟩, Reps.mono (fz _) (fun _ _ h => h) _ _ r, Reps.mono (fz _) (fun _ _ h => h) _ _ r'⟩
      | dit ks vs =>
        obtain ⟨es, q, n, r, r'⟩ := c2
        refine .inr ⟨a, _, rfl, q, True.intro, fun od => ?_⟩
        have z := a1.ok.freeze ha hd (.frz od (nD cl.w a es))
        exact p1 ⟨upd w1.H a (.frz od (nD cl.w a es)), upd w1.F a (.frz od (nD cl.w a es)), w1.m, w1.S.set i none⟩ (.ref a) z rfl ⟨a, od, es, rfl, upd_same, n, Reps.mono (fz _) (fun _ _ h => h) _ _ r, Reps.mono (fz _) (fun _ _ h => h) _ _ r'⟩
      | _ => exact c2.elim
    · exact p1.elim
  · exact p1.elim
end
end Dl
set_option Elab.async false
set_option linter.all false
set_option maxRecDepth 100000
set_option maxHeartbeats 4000000
/-! The data layer: calls of own defs. -/
namespace Dl
open PySem L2

/-! ### which things data speak of -/
mutual
def below (n : Nat) : D → Bool
  | .non => true
  | .bl _ => true
  | .int _ => true
  | .str _ => true
  | .ptr i => decide (i < n)
  | .tup ds => belows n ds
  | .lst ds => belows n ds
  | .rol ds => belows n ds
  | .dic ks vs => belows n ks && belows n vs
  | .dit ks vs => belows n ks && belows n vs
  | .obj _ _ vs => belows n vs
def belows (n : Nat) : List D → Bool
  | [] => true
  | d :: ds => below n d && belows n ds
end
section
variable {K : PySem.W.Frag} {cl : Cl} {H : Hp} {m m' : List Addr} {n : Nat}
mutual
theorem Rep.cut (hm : ∀ (i : Nat) (a : Addr), i < n → m[i]? = some a → m'[i]? = some a) : ∀ (d : D) (v : V), below n d = true → Rep K cl H m d v → Rep K cl H m' d v
  | .non, v, _, x => x
  | .bl b, v, _, x => x
  | .int i, v, _, x => x
  | .str y, v, _, x => x
  | .ptr i, v, h, ⟨a, e, r⟩ => ⟨a, hm i a (by simpa [below] using h) e, r⟩
  | .tup ds, v, h, ⟨a, xs, e, t, r⟩ => ⟨a, xs, e, t, Reps.cut hm ds xs (by simpa [below] using h) r⟩
  | .lst ds, v, h, ⟨a, xs, e, t, r⟩ => ⟨a, xs, e, t, Reps.cut hm ds xs (by simpa [below] using h) r⟩
  | .rol ds, v, h, ⟨a, xs, e, t, r⟩ => ⟨a, xs, e, t, Reps.cut hm ds xs (by simpa [below] using h) r⟩
  | .dic ks vs, v, h, ⟨a, xs, ys, e, t, r, q⟩ => ⟨a, xs, ys, e, t, Reps.cut hm ks xs (by simp [below] at h; exact h.1) r, Reps.cut hm vs ys (by simp [below] at h; exact h.2) q⟩
  | .dit ks vs, v, h, ⟨a, od, es, e, t, n, r, q⟩ => ⟨a, od, es, e, t, n, Reps.cut hm ks _ (by simp [below] at h; exact h.1) r, Reps.cut hm vs _ (by simp [below] at h; exact h.2) q⟩
  | .obj c ns vs, v, h, ⟨a, dx, es, e, t, r, q⟩ => ⟨a, dx, es, e, t, r, Reps.cut hm vs _ (by simpa [below] using h) q⟩
theorem Reps.cut (hm : ∀ (i : Nat) (a : Addr), i < n → m[i]? = some a → m'[i]? = some a) : ∀ (ds : List D) (vs : List V), belows n ds = true → Reps K cl H m ds vs → Reps K cl H m' ds vs
  | [], xs, _, x => x
  | d :: ds, xs, h, ⟨v, vs, e, r, q⟩ => ⟨v, vs, e, Rep.cut hm d v (by simp [belows] at h; exact h.1) r, Reps.cut hm ds vs (by simp [belows] at h; exact h.2) q⟩
end
theorem CellAt.cut {F : Hp} {a : Addr} {d : D} (hm : ∀ (i : Nat) (a : Addr), i < n → m[i]? = some a → m'[i]? = some a) (h : below n d = true) (x : CellAt K cl H F m a d) : CellAt K cl H F m' a d := by
  cases d with
  | lst ds => obtain ⟨xs, q, r⟩ := x; exact ⟨xs, q, Reps.cut hm _ _ (by simpa [below] using h) r⟩
  | dic ks vs =>
    obtain ⟨xs, q, r, r'⟩ := x
    have h' : belows n ks = true ∧ belows n vs = true := by simpa [below] using h
    exact ⟨xs, q, Reps.cut hm _ _ h'.1 r, Reps.cut hm _ _ h'.2 r'⟩
  | dit ks vs =>
    obtain ⟨xs, q, z, r, r'⟩ := x
    have h' : belows n ks = true ∧ belows n vs = true := by simpa [below] using h
    exact ⟨xs, q, z, Reps.cut hm _ _ h'.1 r, Reps.cut hm _ _ h'.2 r'⟩
  | obj c ns vs => obtain ⟨dx, es, q, r, r'⟩ := x; exact ⟨dx, es, q, r, Reps.cut hm _ _ (by simpa [below] using h) r'⟩
  | _ => exact x
end

/-! ### a def's promise -/
abbrev DF := List D → Sto → Out D
def spD (K : PySem.W.Frag) (cl : Cl) (n : Nat) (f : DF) : Sp := fun vs H Q E => vs.length = n ∧ ∃ w ds, w.H = H ∧ w.Ok K cl ∧ RL K cl w ds vs ∧ OPost K cl (RV K cl) E w Q (f ds w.S)

/-! ### how a callee gets the changeable things -/
/-- all of them, and leaves new ones -/
def viaK (f : DF) : DF := f
/-- none: what it makes is dropped -/
def viaP (f : DF) : DF := fun xs S => if belows 0 xs = true then (match f xs [] with
  | .ok r _ => if below 0 r = true then .ok r S else .bad
  | .exc c ns vs _ => if belows 0 vs = true then .exc c ns vs S else .bad
  | .bad => .bad) else .bad
/-- the one that its first argument is -/
def viaR (f : DF) : DF := fun xs S => match xs with
  | .ptr i :: r => match S[i]? with
    | some (some c) => if below 0 c = true ∧ belows 0 r = true then (match f (.ptr 0 :: r) [some c] with
      | .ok z (some c' :: _) => if below 0 z = true ∧ below 0 c' = true then .ok z (S.set i (some c')) else .bad
      | .exc k ns vs (some c' :: _) => if belows 0 vs = true ∧ below 0 c' = true then .exc k ns vs (S.set i (some c')) else .bad
      | _ => .bad) else .bad
    | _ => .bad
  | _ => .bad
def cellsBelow (n : Nat) (S : Sto) : Bool := S.all fun c => match c with | some d => below n d | none => true
/-- all of them; new ones are dropped -/
def viaT (f : DF) : DF := fun xs S => match f xs S with
  | .ok r S' => if below S.length r = true ∧ cellsBelow S.length (S'.take S.length) = true then .ok r (S'.take S.length) else .bad
  | .exc c ns vs S' => if belows S.length vs = true ∧ cellsBelow S.length (S'.take S.length) = true then .exc c ns vs (S'.take S.length) else .bad
  | .bad => .bad

section
variable {K : PySem.W.Frag} {cl : Cl} {w w2 : Wd}
/-- a callee that knew none of the changeable things -/
theorem Af.priv (ok : w.Ok K cl) (x : Af K cl ⟨w.H, w.F, [], []⟩ w2) : Af K cl w ⟨w2.H, w2.F, w.m, w.S⟩ where
  ok := ⟨ok.len, x.ok.sub, fun i a d h1 h2 => by
    obtain ⟨c1, c2⟩ := ok.cell i a d h1 h2
    obtain ⟨u, hu⟩ := c2.there
    have nl : ¬ Live ⟨w.H, w.F, [], []⟩ a := fun ⟨j, e, q, _⟩ => by simp at q
    refine ⟨?_, c2.of ((x.keep a u hu nl).trans hu.symm) x.fz fun _ _ h => h⟩
    cases q : w2.F a with
    | none => rfl
    | some o =>
      rcases x.new a o q with z | z | z
      · have z' : w.F a = some o := z
        rw [c1] at z'; cases z'
      · have z' : w.H a = none := z
        rw [hu] at z'; cases z'
      · exact (nl z).elim, ok.inj⟩
  fz := x.fz
  mu := fun _ _ h => h
  keep := fun a o h _ => x.keep a o h fun ⟨j, e, q, _⟩ => by simp at q
  new := fun a o h => by
    rcases x.new a o h with z | z | ⟨j, e, q, _⟩
    · exact .inl z
    · exact .inr (.inl z)
    · simp at q
  liv := fun a h => .inl h
theorem Wd.Ok.bare (ok : w.Ok K cl) : Wd.Ok K cl ⟨w.H, w.F, [], []⟩ := ⟨rfl, ok.sub, fun i a d h => by simp at h, fun i j a d e h => by simp at h⟩
theorem ExcAt.cut {d : Option Addr} {ns : List Str} {vs : List D} {n : Nat} {m' : List Addr} (hm : ∀ (i : Nat) (a : Addr), i < n → w.m[i]? = some a → m'[i]? = some a) (h : belows n vs = true) (x : ExcAt K cl w d ns vs) : ExcAt K cl ⟨w.H, w.F, m', w2.S⟩ d ns vs := by
  rcases x with e | ⟨a, es, e1, e2, e3, r⟩
  · exact .inl e
  · exact .inr ⟨a, es, e1, e2, e3, Reps.cut hm _ _ h r⟩
theorem via_p {f : DF} {xs : List D} {vs : List V} {W : XK} {Q : VK} (ok : w.Ok K cl) (r : RL K cl w xs vs) (p : OPost K cl (RV K cl) W w Q (viaP f xs w.S)) : spD K cl vs.length f vs w.H Q W := by
  unfold viaP at p
  split at p
  · rename_i hb
    refine ⟨rfl, ⟨w.H, w.F, [], []⟩, xs, rfl, ok.bare, Reps.cut (n := 0) (fun i a h _ => absurd h (Nat.not_lt_zero i)) _ _ hb r, ?_⟩
    show OPost K cl (RV K cl) W ⟨w.H, w.F, [], []⟩ Q (f xs [])
    split at p
    · rename_i z S2 e
      rw [e]
      split at p
      · rename_i hz
        intro w2 b x _ rz
        exact p ⟨w2.H, w2.F, w.m, w.S⟩ b (.priv ok x) rfl (Rep.cut (n := 0) (fun i a h _ => absurd h (Nat.not_lt_zero i)) _ _ hz rz)
      · exact p.elim
    · rename_i c ns us S2 e
      rw [e]
      split at p
      · rename_i hz
        intro w2 d x _ rz
        exact p ⟨w2.H, w2.F, w.m, w.S⟩ d (.priv ok x) rfl (ExcAt.cut (w2 := w) (n := 0) (fun i a h _ => absurd h (Nat.not_lt_zero i)) hz rz)
      · exact p.elim
    · exact p.elim
  · exact p.elim
theorem via_k {f : DF} {xs : List D} {vs : List V} {W : XK} {Q : VK} (ok : w.Ok K cl) (r : RL K cl w xs vs) (p : OPost K cl (RV K cl) W w Q (viaK f xs w.S)) : spD K cl vs.length f vs w.H Q W := ⟨rfl, w, xs, rfl, ok, r, p⟩
/-- a callee that knew one of the changeable things -/
theorem Af.recv {i : Nat} {a : Addr} {c c' : D} {T : Sto} (ok : w.Ok K cl) (hi : w.m[i]? = some a) (hc : w.S[i]? = some (some c)) (x : Af K cl ⟨w.H, w.F, [a], [some c]⟩ w2) (e2 : w2.S = some c' :: T) (hb : below 0 c' = true) : Af K cl w ⟨w2.H, w2.F, w.m, w.S.set i (some c')⟩ := by
  have m2 : w2.m[0]? = some a := x.mu 0 a rfl
  have s2 : w2.S[0]? = some (some c') := by rw [e2]; rfl
  obtain ⟨f2, c2⟩ := x.ok.cell 0 a c' m2 s2
  have liv0 : ∀ b, Live ⟨w.H, w.F, [a], [some c]⟩ b ↔ b = a := fun b => ⟨fun ⟨j, e, q1, q2⟩ => by
    cases j with
    | zero => simp at q1; exact q1.symm
    | succ j => simp at q1, fun e => ⟨0, c, by rw [e]; rfl, rfl⟩⟩
  refine ⟨⟨?_, x.ok.sub, fun j b d h1 h2 => ?_, fun j k b d e h1 h2 h3 h4 => ?_⟩, x.fz, fun _ _ h => h, fun b o h n => x.keep b o h fun l => n ((liv0 b).mp l ▸ ⟨i, c, hi, hc⟩), fun b o h => ?_, fun b ⟨j, d, h1, h2⟩ => ?_⟩
  · show w.m.length = (w.S.set i _).length
    rw [List.length_set]; exact ok.len
  · have q2 : (w.S.set i (some c'))[j]? = some (some d) := h2
    by_cases hj : i = j
    · subst hj
      rw [List.getElem?_set_self (List.getElem?_eq_some_iff.mp hc).1] at q2
      cases q2
      have e : a = b := Option.some.inj (hi.symm.trans h1)
      subst e
      exact ⟨f2, c2.cut (n := 0) (fun i a h _ => absurd h (Nat.not_lt_zero i)) hb⟩
    · rw [List.getElem?_set_ne hj] at q2
      obtain ⟨c3, c4⟩ := ok.cell j b d h1 q2
      obtain ⟨u, hu⟩ := c4.there
      have n : b ≠ a := fun z => hj (ok.inj i j a c d hi (by rw [← z]; exact h1) hc q2)
      have nl : ¬ Live ⟨w.H, w.F, [a], [some c]⟩ b := fun l => n ((liv0 b).mp l)
      refine ⟨?_, c4.of ((x.keep b u hu nl).trans hu.symm) x.fz fun _ _ h => h⟩
      cases q : w2.F b with
      | none => rfl
      | some o =>
        rcases x.new b o q with z | z | z
        · have z' : w.F b = some o := z
          rw [c3] at z'; cases z'
        · have z' : w.H b = none := z
          rw [hu] at z'; cases z'
        · exact (nl z).elim
  · have lv : ∀ k (e : D), (w.S.set i (some c'))[k]? = some (some e) → ∃ e', w.S[k]? = some (some e') := fun k e r => by
      by_cases hk : i = k
      · subst hk; exact ⟨c, hc⟩
      · rw [List.getElem?_set_ne hk] at r; exact ⟨e, r⟩
    obtain ⟨e1, r1⟩ := lv j d h3
    obtain ⟨e2, r2⟩ := lv k e h4
    exact ok.inj j k b e1 e2 h1 h2 r1 r2
  · rcases x.new b o h with z | z | z
    · exact .inl z
    · exact .inr (.inl z)
    · exact .inr (.inr ((liv0 b).mp z ▸ ⟨i, c, hi, hc⟩))
  · have q2 : (w.S.set i (some c'))[j]? = some (some d) := h2
    by_cases hj : i = j
    · subst hj; exact .inl ⟨i, c, h1, hc⟩
    · rw [List.getElem?_set_ne hj] at q2; exact .inl ⟨j, d, h1, q2⟩
theorem Wd.Ok.sole {i : Nat} {a : Addr} {c : D} (ok : w.Ok K cl) (hi : w.m[i]? = some a) (hc : w.S[i]? = some (some c)) (hb : below 0 c = true) : Wd.Ok K cl ⟨w.H, w.F, [a], [some c]⟩ := by
  obtain ⟨c1, c2⟩ := ok.cell i a c hi hc
  refine ⟨rfl, ok.sub, fun j b d h1 h2 => ?_, fun j k b d e h1 h2 h3 h4 => ?_⟩
  · cases j with
    | zero =>
      simp at h1 h2
      subst h1; subst h2
      exact ⟨c1, c2.cut (n := 0) (fun i a h _ => absurd h (Nat.not_lt_zero i)) hb⟩
    | succ j => simp at h1
  · cases j with
    | zero =>
      cases k with
      | zero => rfl
      | succ k => simp at h2
    | succ j => simp at h1
theorem via_r {f : DF} {xs : List D} {vs : List V} {W : XK} {Q : VK} (ok : w.Ok K cl) (r : RL K cl w xs vs) (p : OPost K cl (RV K cl) W w Q (viaR f xs w.S)) : spD K cl vs.length f vs w.H Q W := by
  unfold viaR at p
  split at p
  · rename_i i rs
    split at p
    · rename_i c hc
      split at p
      · rename_i hb
        obtain ⟨v0, vr, ev, ⟨a, hi, e0⟩, rr⟩ := r
        subst e0
        subst ev
        refine ⟨rfl, ⟨w.H, w.F, [a], [some c]⟩, .ptr 0 :: rs, rfl, ok.sole hi hc hb.1, ⟨_, vr, rfl, ⟨a, rfl, rfl⟩, Reps.cut (n := 0) (fun i a h _ => absurd h (Nat.not_lt_zero i)) _ _ hb.2 rr⟩, ?_⟩
        show OPost K cl (RV K cl) W ⟨w.H, w.F, [a], [some c]⟩ Q (f (.ptr 0 :: rs) [some c])
        split at p
        · rename_i z c' T e
          rw [e]
          split at p
          · rename_i hz
            intro w2 b x e2 rz
            exact p ⟨w2.H, w2.F, w.m, _⟩ b (.recv ok hi hc x e2 hz.2) rfl (Rep.cut (n := 0) (fun i a h _ => absurd h (Nat.not_lt_zero i)) _ _ hz.1 rz)
          · exact p.elim
        · rename_i k ns us c' T e
          rw [e]
          split at p
          · rename_i hz
            intro w2 d x e2 rz
            exact p ⟨w2.H, w2.F, w.m, _⟩ d (.recv ok hi hc x e2 hz.2) rfl (ExcAt.cut (w2 := ⟨w2.H, w2.F, w.m, w.S.set i (some c')⟩) (n := 0) (fun i a h _ => absurd h (Nat.not_lt_zero i)) hz.1 rz)
          · exact p.elim
        · exact p.elim
      · exact p.elim
    · exact p.elim
  · exact p.elim
/-- new changeable things are forgotten -/
theorem Af.trim (ok : w.Ok K cl) (x : Af K cl w w2) (hb : cellsBelow w.S.length (w2.S.take w.S.length) = true) : Af K cl w ⟨w2.H, w2.F, w.m, w2.S.take w.S.length⟩ := by
  have pre : ∀ (i : Nat) (a : Addr), i < w.S.length → w2.m[i]? = some a → w.m[i]? = some a := fun i a hi h => by
    rw [← ok.len] at hi
    have q := x.mu i _ (List.getElem?_eq_getElem hi)
    rw [h] at q
    rw [List.getElem?_eq_getElem hi]
    exact q.symm
  have tk : ∀ (j : Nat) (d : D), (w2.S.take w.S.length)[j]? = some (some d) → j < w.S.length ∧ w2.S[j]? = some (some d) ∧ below w.S.length d = true := fun j d h => by
    have hm := List.mem_of_getElem? h
    have hj : j < w.S.length := by
      have := (List.getElem?_eq_some_iff.mp h).1
      rw [List.length_take] at this
      omega
    rw [List.getElem?_take_of_lt hj] at h
    exact ⟨hj, h, by have := List.all_eq_true.mp hb _ hm; simpa using this⟩
  refine ⟨⟨?_, x.ok.sub, fun j b d h1 h2 => ?_, fun j k b d e h1 h2 h3 h4 => ?_⟩, x.fz, fun _ _ h => h, x.keep, x.new, fun b ⟨j, d, h1, h2⟩ => ?_⟩
  · show w.m.length = (w2.S.take w.S.length).length
    rw [List.length_take, ← x.ok.len, ok.len]
    have : w.S.length ≤ w2.m.length := by
      rw [← ok.len]
      cases hz : w.m.length with
      | zero => exact Nat.zero_le _
      | succ k =>
        have q := x.mu k _ (List.getElem?_eq_getElem (by omega))
        have := (List.getElem?_eq_some_iff.mp q).1
        omega
    omega
  · obtain ⟨hj, q2, hd⟩ := tk j d h2
    obtain ⟨c1, c2⟩ := x.ok.cell j b d (x.mu j b h1) q2
    exact ⟨c1, c2.cut pre hd⟩
  · exact x.ok.inj j k b d e (x.mu j b h1) (x.mu k b h2) (tk j d h3).2.1 (tk k e h4).2.1
  · exact x.liv b ⟨j, d, x.mu j b h1, (tk j d h2).2.1⟩
theorem via_t {f : DF} {xs : List D} {vs : List V} {W : XK} {Q : VK} (ok : w.Ok K cl) (r : RL K cl w xs vs) (p : OPost K cl (RV K cl) W w Q (viaT f xs w.S)) : spD K cl vs.length f vs w.H Q W := by
  refine ⟨rfl, w, xs, rfl, ok, r, ?_⟩
  have pre : ∀ {w2 : Wd}, Af K cl w w2 → ∀ (i : Nat) (a : Addr), i < w.S.length → w2.m[i]? = some a → w.m[i]? = some a := fun {w2} x i a hi h => by
    rw [← ok.len] at hi
    have q := x.mu i _ (List.getElem?_eq_getElem hi)
    rw [h] at q
    rw [List.getElem?_eq_getElem hi]
    exact q.symm
  unfold viaT at p
  split at p
  · rename_i z S2 e
    rw [e]
    split at p
    · rename_i hz
      intro w2 b x e2 rz
      subst e2
      exact p ⟨w2.H, w2.F, w.m, w2.S.take w.S.length⟩ b (.trim ok x hz.2) rfl (Rep.cut (pre x) _ _ hz.1 rz)
    · exact p.elim
  · rename_i c ns us S2 e
    rw [e]
    split at p
    · rename_i hz
      intro w2 d x e2 rz
      subst e2
      exact p ⟨w2.H, w2.F, w.m, w2.S.take w.S.length⟩ d (.trim ok x hz.2) rfl (ExcAt.cut (w2 := ⟨w2.H, w2.F, w.m, w2.S.take w.S.length⟩) (pre x) hz.1 rz)
    · exact p.elim
  · exact p.elim
end

/-- a way to call -/
def Via (g : DF → DF) : Prop := ∀ (K : PySem.W.Frag) (cl : Cl) (w : Wd) (f : DF) (xs : List D) (vs : List V) (W : XK) (Q : VK), w.Ok K cl → RL K cl w xs vs → OPost K cl (RV K cl) W w Q (g f xs w.S) → spD K cl vs.length f vs w.H Q W
theorem isP : Via viaP := fun _ _ _ _ _ _ _ _ => via_p
theorem isK : Via viaK := fun _ _ _ _ _ _ _ _ => via_k
theorem isR : Via viaR := fun _ _ _ _ _ _ _ _ => via_r
theorem isT : Via viaT := fun _ _ _ _ _ _ _ _ => via_t

section
variable {X : Cx} {cl : Cl} {W : WX} {k : Nat} {f C : Addr} {fd : FuncData} {ps : List Str} {x m : Str} {p pos apos : Pos} {e o : Expr} {es : List Expr} {da : DA} {dx : DE} {n c : Nat} {g : DF → DF} {h : DF}
/-- a def of the text that does what h says -/
abbrev FnD (X : Cx) (cl : Cl) (k : Nat) (f : Addr) (fd : FuncData) (ps : List Str) (h : DF) : Prop := FnOk X.prog X.w X.K X.mg X.base (L2.CX X.prog X.w) k f fd ps (spD X.K cl ps.length h)
def dCall (n : Nat) (h : DF) (da : DA) : DE := fun t S => (da t S).bind fun xs S1 => if xs.length = n then h xs S1 else .bad
theorem le_call (hv : Via g) {σ : L2.St} {H : Hp} {Q : VK} (q : upE X.K cl W (dCall n (g h) da) σ H Q) : tCallS (spD X.K cl n h) (WE W) (upA X.K cl W da) σ H Q := by
  obtain ⟨w, t, eH, ok, en, p⟩ := q
  refine ⟨w, t, eH, ok, en, OPost.bind p fun xs w1 vs a1 r1 p1 => ?_⟩
  split at p1
  · rename_i hl
    have z := hv X.K cl w1 h xs vs _ Q a1.ok r1 p1
    rw [← Reps.length r1, hl] at z
    exact z
  · exact p1.elim
theorem pe_callS0 {CX : CXT} {sp : Sp} {E : L2.St → XK} (F : FnOk X.prog X.w X.K X.mg X.base CX k f fd ps sp) (hr : Room k X.A) (hg : Gl X x) (hm : X.mg x = some (.ref f)) (hk : PySem.W.keepIn X.K (.ref f) = true) (hb : Binds X.K fd ps []) (hx : ∀ σ, PassesAt CX X σ (E σ))
    (hdb : (x == ("__debug__" : Str)) = false := by decide) : PE X (.Call (.Name x p) [] [] pos) (tCallS sp E tNil) := by
  refine ⟨fun pins s σ H Q I h => ?_⟩
  refine wpAny_Call_Name_kw (ld_glob I hg hm ?_ hdb)
  exact PySem.W.callWith_K0 I.kIn hk (run_fnS (us := []) F hr hb (hx σ) I .nil h)
/-- f(..) -/
theorem u_call (hv : Via g) (F : FnD X cl k f fd ps h) (hr : Room k X.A) (tk : Takes X W) (hg : Gl X x) (hm : X.mg x = some (.ref f)) (hk : PySem.W.keepIn X.K (.ref f) = true) (hb : Binds X.K fd ps []) (ha : UA X cl W (e :: es) da)
    (hdb : (x == ("__debug__" : Str)) = false := by decide) (he : starEach (e :: es) X.env = (false, eval e X.env) :: starEach es X.env := by rfl) (hpl : (backTo pos (starEach es X.env)).any (·.1) = false := by rfl) :
    UE X cl W (.Call (.Name x p) (e :: es) [] pos) (dCall ps.length (g h) da) :=
  weakE (pe_callS F hr hg hm hk hb (fun σ => passAt tk σ) ha hdb he hpl) fun _ _ _ q => le_call hv q
theorem u_call0 (hv : Via g) (F : FnD X cl k f fd ps h) (hr : Room k X.A) (tk : Takes X W) (hg : Gl X x) (hm : X.mg x = some (.ref f)) (hk : PySem.W.keepIn X.K (.ref f) = true) (hb : Binds X.K fd ps [])
    (hdb : (x == ("__debug__" : Str)) = false := by decide) : UE X cl W (.Call (.Name x p) [] [] pos) (dCall ps.length (g h) aNil) :=
  weakE (pe_callS0 F hr hg hm hk hb (fun σ => passAt tk σ) hdb) fun σ H Q q => by
    obtain ⟨w, t, eH, ok, en, p⟩ := le_call (da := aNil) hv q
    exact eH ▸ p w [] (Af.refl ok) rfl rfl

/-! methods -/
/-- the class and the attributes of an object -/
def objOf (d : D) (S : Sto) : Option (Nat × List Str × List D) := match d with
  | .obj c ns vs => some (c, ns, vs)
  | .ptr i => match S[i]? with
    | some (some (.obj c ns vs)) => some (c, ns, vs)
    | _ => none
  | _ => none
theorem objOf_at {K : PySem.W.Frag} {w : Wd} {d : D} {v : V} {c : Nat} {ns : List Str} {vs : List D} (ok : w.Ok K cl) (r : RV K cl w d v) (e : objOf d w.S = some (c, ns, vs)) :
    ∃ a dx es, v = .ref a ∧ w.H a = some (.ins (cl c) dx es) ∧ es.map (·.1) = ns ∧ Reps K cl w.F w.m vs (es.map (·.2)) := by
  unfold objOf at e
  split at e
  · cases e
    obtain ⟨a, dx, es, ev, ea, q, r⟩ := r
    refine ⟨a, dx, es, ev, ?_, q, r⟩
    exact ok.sub a _ ea
  · rename_i i
    split at e
    · rename_i hi
      cases e
      obtain ⟨a, ea, ev⟩ := r
      obtain ⟨_, dx, es, c1, c2, c3⟩ := ok.cell i a _ ea hi
      exact ⟨a, dx, es, ev, c1, c2, c3⟩
    · cases e
  · cases e
theorem lookup_none {es : List (Str × V)} {m : Str} (h : (es.map (·.1)).contains m = false) : es.lookup m = none := by
  induction es with
  | nil => rfl
  | cons p es ih =>
    rw [List.map_cons, List.contains_cons] at h
    have h' : (m == p.1) = false ∧ (es.map (·.1)).contains m = false := by simpa using h
    obtain ⟨a, b⟩ := p
    simp only [List.lookup, h'.1]
    exact ih h'.2
def tMethX (C : Addr) (m : Str) (sp : Sp) (E : L2.St → XK) (ta : TE) (t : TA) : TE := fun σ H Q => ta σ H fun x H1 => ∃ a dx fs, x = .ref a ∧ H1 a = some (.ins C dx fs) ∧ fs.lookup m = none ∧
  t σ H1 fun vs H2 => sp (x :: vs) H2 Q (E σ)
theorem pe_methX {CX : CXT} {sp : Sp} {E : L2.St → XK} {ta : TE} {t : TA} {pl : Sem Bool} (he : PE X o ta) (c : Cls X.K C) (hm : Meth X.K C m f) (F : FnOk X.prog X.w X.K X.mg X.base CX k f fd ps sp) (hr : Room k X.A) (hb : Binds X.K fd ps []) (hx : ∀ σ, PassesAt CX X σ (E σ)) (ha : PA X (e :: es) t)
    (hst : starEach (e :: es) X.env = (false, eval e X.env) :: starEach es X.env := by rfl) (hpl : (backTo pos (starEach es X.env)).any (·.1) = false := by rfl)
    (ht : eval (.Call (.Attribute o m apos) (e :: es) [] pos) X.env = (do
      let ov ← eval o X.env
      standAt apos.atName
      let (f, first) ← holding [ov] (getMethod ov m pl)
      callWith pos f first (backTo pos (starEach (e :: es) X.env)) (backToKw pos (keywordEach [] X.env))) := by rfl) :
    PE X (.Call (.Attribute o m apos) (e :: es) [] pos) (tMethX C m sp E ta t) := by
  refine ⟨fun pins s σ H Q I h => ?_⟩
  refine PySem.W.methodCall_KW (pl := pl) (thn (he.run pins s σ H _ I h) fun u s1 ⟨x, H1, I1, rx, a, dx, fs, ex, ea, l, q⟩ => ?_) ht
  subst ex
  obtain rfl : u = Value.ref a := rx
  refine getmeth_ok I1 ea c hm l ?_
  refine PySem.W.callWith_K (first := [.ref a]) (h₀ := X.base) I.ok.mod.kin hm.kp (thn (ha.run pos pins s1 σ H1 _ I1 q) fun us s2 ⟨vs, H2, I2, r, q2⟩ => ⟨I2.kIn, ?_⟩) hst hpl
  exact run_fnS (us := .ref a :: us) (vs := .ref a :: vs) F hr hb (hx σ) I2 (.cons rfl r) q2
theorem pe_methX0 {CX : CXT} {sp : Sp} {E : L2.St → XK} {ta : TE} {pl : Sem Bool} (he : PE X o ta) (c : Cls X.K C) (hm : Meth X.K C m f) (F : FnOk X.prog X.w X.K X.mg X.base CX k f fd ps sp) (hr : Room k X.A) (hb : Binds X.K fd ps []) (hx : ∀ σ, PassesAt CX X σ (E σ))
    (ht : eval (.Call (.Attribute o m apos) [] [] pos) X.env = (do
      let ov ← eval o X.env
      standAt apos.atName
      let (f, first) ← holding [ov] (getMethod ov m pl)
      callWith pos f first (backTo pos (starEach [] X.env)) (backToKw pos (keywordEach [] X.env))) := by rfl) :
    PE X (.Call (.Attribute o m apos) [] [] pos) (tMethX C m sp E ta tNil) := by
  refine ⟨fun pins s σ H Q I h => ?_⟩
  refine PySem.W.methodCall_KW (pl := pl) (thn (he.run pins s σ H _ I h) fun u s1 ⟨x, H1, I1, rx, a, dx, fs, ex, ea, l, q⟩ => ?_) ht
  subst ex
  obtain rfl : u = Value.ref a := rx
  refine getmeth_ok I1 ea c hm l ?_
  exact PySem.W.callWith_K0 (first := [.ref a]) I1.kIn hm.kp (run_fnS (us := [.ref a]) (vs := [.ref a]) F hr hb (hx σ) I1 (.cons rfl .nil) q)
def dMeth (c : Nat) (m : Str) (n : Nat) (h : DF) (dx : DE) (da : DA) : DE := fun t S => (dx t S).bind fun x S1 => match objOf x S1 with
  | some (c', ns, _) => if c' = c ∧ ns.contains m = false then (da t S1).bind fun xs S2 => if xs.length + 1 = n then h (x :: xs) S2 else .bad else .bad
  | none => .bad
theorem le_meth (hv : Via g) {σ : L2.St} {H : Hp} {Q : VK} (q : upE X.K cl W (dMeth c m n (g h) dx da) σ H Q) : tMethX (cl c) m (spD X.K cl n h) (WE W) (upE X.K cl W dx) (upA X.K cl W da) σ H Q := by
  obtain ⟨w, t, eH, ok, en, p⟩ := q
  refine ⟨w, t, eH, ok, en, OPost.bind p fun x w1 v a1 r1 p1 => ?_⟩
  split at p1
  · rename_i c' ns vs ho
    split at p1
    · rename_i hc
      obtain ⟨rfl, hn⟩ := hc
      obtain ⟨a, dx', es, ev, ea, e1, e2⟩ := objOf_at a1.ok r1 ho
      refine ⟨a, dx', es, ev, ea, lookup_none (by rw [e1]; exact hn), w1, t, rfl, a1.ok, en.af a1, OPost.bind p1 fun xs w2 ys a2 r2 p2 => ?_⟩
      split at p2
      · rename_i hl
        have z := hv X.K cl w2 h (x :: xs) (v :: ys) _ Q a2.ok ⟨v, ys, rfl, Rep.af a2 r1, r2⟩ p2
        rw [show (v :: ys).length = n by rw [List.length_cons, ← Reps.length r2]; exact hl] at z
        exact z
      · exact p2.elim
    · exact p1.elim
  · exact p1.elim
/-- o.m(..) -/
theorem u_meth {pl : Sem Bool} (hv : Via g) (F : FnD X cl k f fd ps h) (hr : Room k X.A) (tk : Takes X W) (ck : Cls X.K (cl c)) (hm : Meth X.K (cl c) m f) (hb : Binds X.K fd ps []) (ho : UE X cl W o dx) (ha : UA X cl W (e :: es) da)
    (hst : starEach (e :: es) X.env = (false, eval e X.env) :: starEach es X.env := by rfl) (hpl : (backTo pos (starEach es X.env)).any (·.1) = false := by rfl)
    (ht : eval (.Call (.Attribute o m apos) (e :: es) [] pos) X.env = (do
      let ov ← eval o X.env
      standAt apos.atName
      let (f, first) ← holding [ov] (getMethod ov m pl)
      callWith pos f first (backTo pos (starEach (e :: es) X.env)) (backToKw pos (keywordEach [] X.env))) := by rfl) :
    UE X cl W (.Call (.Attribute o m apos) (e :: es) [] pos) (dMeth c m ps.length (g h) dx da) :=
  weakE (pe_methX ho ck hm F hr hb (fun σ => passAt tk σ) ha hst hpl ht) fun _ _ _ q => le_meth hv q
theorem u_meth0 {pl : Sem Bool} (hv : Via g) (F : FnD X cl k f fd ps h) (hr : Room k X.A) (tk : Takes X W) (ck : Cls X.K (cl c)) (hm : Meth X.K (cl c) m f) (hb : Binds X.K fd ps []) (ho : UE X cl W o dx)
    (ht : eval (.Call (.Attribute o m apos) [] [] pos) X.env = (do
      let ov ← eval o X.env
      standAt apos.atName
      let (f, first) ← holding [ov] (getMethod ov m pl)
      callWith pos f first (backTo pos (starEach [] X.env)) (backToKw pos (keywordEach [] X.env))) := by rfl) :
    UE X cl W (.Call (.Attribute o m apos) [] [] pos) (dMeth c m ps.length (g h) dx aNil) :=
  weakE (pe_methX0 ho ck hm F hr hb (fun σ => passAt tk σ) ht) fun σ H Q q => by
    obtain ⟨w, t, eH, ok, en, p⟩ := le_meth (da := aNil) hv q
    refine ⟨w, t, eH, ok, en, OPost.mono p fun v H1 ⟨a, dx', fs, h1, h2, h3, h4⟩ => ⟨a, dx', fs, h1, h2, h3, ?_⟩⟩
    obtain ⟨w1, t1, eH1, ok1, en1, p1⟩ := h4
    exact eH1 ▸ p1 w1 [] (Af.refl ok1) rfl rfl

/-! a new object -/
def tMakeX (C : Addr) (sp : Sp) (E : L2.St → XK) (t : TA) : TE := fun σ H Q => t σ H fun vs H1 => ∀ x dx, H1 x = none → H1 dx = none → dx ≠ x →
  sp (.ref x :: vs) (upd (upd H1 dx (.own x)) x (.ins C dx [])) (fun v H2 => v = .non ∧ Q (.ref x) H2) (E σ)
theorem run_makeX {CX : CXT} {sp : Sp} {E : L2.St → XK} {pins : List (Addr × Obj)} {σ : L2.St} {H : Hp} {s : Shared} {Q : VK} {us : List Value} {vs : List V} (M : Mk X.K C f) (F : FnOk X.prog X.w X.K X.mg X.base CX k f fd ps sp) (hr : Room (k + 1) X.A) (hb : Binds X.K fd ps [])
    (hx : PassesAt CX X σ (E σ)) (I : Inv X pins σ H s) (r : Vals vs us)
    (h : ∀ x dx, H x = none → H dx = none → dx ≠ x → sp (.ref x :: vs) (upd (upd H dx (.own x)) x (.ins C dx [])) (fun v H2 => v = .non ∧ Q (.ref x) H2) (E σ)) :
    wpAny (model X.prog X.w) X.A (call (.ref C) us) (EP X pins σ Q) X.xe s := by
  have hq := h (s.heap.objs.size + 1) s.heap.objs.size (I.hok.fresh (Nat.le_succ _)) (I.hok.fresh (Nat.le_refl _)) (Nat.ne_of_lt (Nat.lt_succ_self _))
  have I2 := Inv.made (C := C) I
  have r2 : Vals (V.ref (s.heap.objs.size + 1) :: vs) (Value.ref (s.heap.objs.size + 1) :: us) := .cons rfl r
  have hl : (Value.ref (s.heap.objs.size + 1) :: us).length = ps.length := by
    have e := r2.length
    rw [F.len _ _ _ _ hq] at e
    exact e.symm
  have b := hb _ (Value.ref (s.heap.objs.size + 1) :: us) I2.kIn (by rw [List.append_nil]; exact hl)
  rw [List.append_nil] at b
  refine wpAny_call (make_map (f := f) I.kIn M.makes M.init (beq_iff_eq.mp M.fn) (codeAny_mono (F.run _ X.stack _ _ ⟨Value.ref (s.heap.objs.size + 1) :: us, []⟩ (Value.ref (s.heap.objs.size + 1) :: us) _ _ (E σ) (hr.make C us [])
    (I2.env0.make C us []) b r2 hq) fun r s' hq' => ?_))
  cases r with
  | error e => exact hx pins _ _ e s' I2 hq'
  | ok fl =>
    cases fl with
    | ret u =>
      obtain ⟨v, H', I3, rv, ev, q3⟩ := I2.after hq'
      subst ev
      exact ⟨rv, ⟨V.ref (s.heap.objs.size + 1), H', I3, rfl, q3⟩⟩
    | next => exact False.elim hq'
    | brk => exact False.elim hq'
    | cont => exact False.elim hq'
theorem pe_makeX {CX : CXT} {sp : Sp} {E : L2.St → XK} {t : TA} (M : Mk X.K C f) (F : FnOk X.prog X.w X.K X.mg X.base CX k f fd ps sp) (hr : Room (k + 1) X.A) (hg : Gl X x) (hm : X.mg x = some (.ref C)) (hb : Binds X.K fd ps []) (hx : ∀ σ, PassesAt CX X σ (E σ))
    (ha : PA X (e :: es) t) (hdb : (x == ("__debug__" : Str)) = false := by decide) (he : starEach (e :: es) X.env = (false, eval e X.env) :: starEach es X.env := by rfl) (hpl : (backTo pos (starEach es X.env)).any (·.1) = false := by rfl) :
    PE X (.Call (.Name x p) (e :: es) [] pos) (tMakeX C sp E t) := by
  refine ⟨fun pins s σ H Q I h => ?_⟩
  refine wpAny_Call_Name_kw (ld_glob I hg hm ?_ hdb)
  refine PySem.W.callWith_K (h₀ := X.base) I.ok.mod.kin M.kp (thn (ha.run pos pins s σ H _ I h) fun us s1 ⟨vs, H1, I1, r, q⟩ => ⟨I1.kIn, ?_⟩) he hpl
  exact run_makeX M F hr hb (hx σ) I1 r q
/-- C(..): the new object, still to change, then __init__; it has all changeable things. q: what is left of the object and of the others -/
def dMake (c : Nat) (n : Nat) (h : DF) (da : DA) : DE := fun t S => (da t S).bind fun xs S1 => if xs.length + 1 = n then
  (h (.ptr S1.length :: xs) (S1 ++ [some (.obj c [] [])])).bind fun z S2 => match z with
    | .non => .ok (.ptr S1.length) S2
    | _ => .bad
  else .bad
theorem u_make (M : Mk X.K (cl c) f) (F : FnD X cl k f fd ps h) (hr : Room (k + 1) X.A) (tk : Takes X W) (hg : Gl X x) (hm : X.mg x = some (.ref (cl c))) (hb : Binds X.K fd ps []) (ha : UA X cl W (e :: es) da)
    (hdb : (x == ("__debug__" : Str)) = false := by decide) (he : starEach (e :: es) X.env = (false, eval e X.env) :: starEach es X.env := by rfl) (hpl : (backTo pos (starEach es X.env)).any (·.1) = false := by rfl) :
    UE X cl W (.Call (.Name x p) (e :: es) [] pos) (dMake c ps.length h da) :=
  weakE (pe_makeX M F hr hg hm hb (fun σ => passAt tk σ) ha hdb he hpl) fun σ H Q q => by
    obtain ⟨w, t, eH, ok, en, p⟩ := q
    refine ⟨w, t, eH, ok, en, OPost.bind p fun xs w1 vs a1 r1 p1 => ?_⟩
    split at p1
    · rename_i hl
      intro y dy hy hdy nyd
      have o1 := a1.ok
      have b1 : Af X.K cl w1 ⟨upd w1.H dy (.own y), w1.F, w1.m, w1.S⟩ := o1.untold (u := .own y) hdy
      have hy1 : upd w1.H dy (.own y) y = none := by rw [upd_ne (Ne.symm nyd)]; exact hy
      have b2 : Af X.K cl ⟨upd w1.H dy (.own y), w1.F, w1.m, w1.S⟩ ⟨upd (upd w1.H dy (.own y)) y (.ins (cl c) dy []), w1.F, w1.m ++ [y], w1.S ++ [some (D.obj c [] [])]⟩ :=
        b1.ok.cellNew (u := .ins (cl c) dy []) (d := D.obj c [] []) hy1 ⟨dy, [], upd_same, rfl, rfl⟩
      have b := b1.trans b2
      have ry : Rep X.K cl w1.F (w1.m ++ [y]) (.ptr w1.S.length) (.ref y) := ⟨y, snoc_get o1.len.symm, rfl⟩
      refine ⟨by rw [List.length_cons, ← Reps.length r1]; exact hl, _, .ptr w1.S.length :: xs, rfl, b.ok, ⟨_, vs, rfl, ry, Reps.af b r1⟩, ?_⟩
      refine OPost.bind (OPost.after p1 b) fun z w2 v2 a2 r2 p2 => ?_
      split at p2
      · refine ⟨r2, p2 w2 (.ref y) (Af.refl a2.ok) rfl (Rep.af a2 ry)⟩
      · exact p2.elim
    · exact p1.elim
end
end Dl
set_option Elab.async false
set_option linter.all false
set_option maxRecDepth 100000
set_option maxHeartbeats 4000000
/-! The data layer: statements, targets, what is walked, loops, list comprehensions. -/
namespace Dl
open PySem L2

/-! ### statements -/
def SPost (K : PySem.W.Frag) (cl : Cl) (W : WX) (N : Ends) (w : Wd) : SOut → Prop
  | .nx t' S' => ∀ w' σ', Af K cl w w' → w'.S = S' → EnvR K cl w' t' σ' → N.nx σ' w'.H
  | .rt d S' => ∀ w' v, Af K cl w w' → w'.S = S' → RV K cl w' d v → N.rt v w'.H
  | .bk t' S' => ∀ w' σ', Af K cl w w' → w'.S = S' → EnvR K cl w' t' σ' → N.bk σ' w'.H
  | .ct t' S' => ∀ w' σ', Af K cl w w' → w'.S = S' → EnvR K cl w' t' σ' → N.ct σ' w'.H
  | .exc t' c ns vs S' => ∀ w' σ' d, Af K cl w w' → w'.S = S' → EnvR K cl w' t' σ' → ExcAt K cl w' d ns vs → W (.ref (cl c)) d σ' w'.H
  | .bad => False
/-- behind an expression -/
def ofE {α : Type} (o : Out α) (t : Lc) (k : α → Sto → SOut) : SOut := match o with
  | .ok d S => k d S
  | .exc c ns vs S => .exc t c ns vs S
  | .bad => .bad
section
variable {α β : Type} {K : PySem.W.Frag} {cl : Cl} {W : WX} {N : Ends} {w w1 : Wd} {t : Lc} {σ : L2.St} {R : Wd → α → β → Prop}
theorem SPost.after {o : SOut} (p : SPost K cl W N w o) (x : Af K cl w w1) : SPost K cl W N w1 o := by
  cases o with
  | nx t' S' => exact fun w' s y e r => p w' s (x.trans y) e r
  | rt t' S' => exact fun w' s y e r => p w' s (x.trans y) e r
  | bk t' S' => exact fun w' s y e r => p w' s (x.trans y) e r
  | ct t' S' => exact fun w' s y e r => p w' s (x.trans y) e r
  | exc t' c ns vs S' => exact fun w' s d y e r => p w' s d (x.trans y) e r
  | bad => exact p
theorem SPost.ofE {o : Out α} {k : α → Sto → SOut} {P : β → Hp → Prop} (p : SPost K cl W N w (Dl.ofE o t k)) (en : EnvR K cl w t σ)
    (h : ∀ a w1 b, Af K cl w w1 → R w1 a b → EnvR K cl w1 t σ → SPost K cl W N w1 (k a w1.S) → P b w1.H) : OPost K cl R (fun c d H => W c d σ H) w P o := by
  cases o with
  | ok a S =>
    intro w1 b y e r
    refine h a w1 b y r (en.af y) ?_
    rw [e]
    exact SPost.after p y
  | exc c ns vs S => exact fun w' d y e r => p w' σ d y e (en.af y) r
  | bad => exact p
end
def upS (K : PySem.W.Frag) (cl : Cl) (W : WX) (ds : DS) : TS := fun N σ H => ∃ w t, w.H = H ∧ w.Ok K cl ∧ EnvR K cl w t σ ∧ SPost K cl W N w (ds t w.S)
abbrev US (X : Cx) (cl : Cl) (W : WX) (s : Stmt) (ds : DS) : Prop := PS X s (upS X.K cl W ds)
abbrev USs (X : Cx) (cl : Cl) (W : WX) (s : List Stmt) (ds : DS) : Prop := PSs X s (upS X.K cl W ds)

def dSkip : DS := fun t S => .nx t S
def dSeq (a b : DS) : DS := fun t S => match a t S with
  | .nx t1 S1 => b t1 S1
  | o => o
def dExpr (de : DE) : DS := fun t S => ofE (de t S) t fun _ S1 => .nx t S1
def dSet (i : Nat) (de : DE) : DS := fun t S => ofE (de t S) t fun d S1 => .nx (t.set i (some d)) S1
def dRet (de : DE) : DS := fun t S => ofE (de t S) t fun d S1 => .rt d S1
def dRetN : DS := fun _ S => .rt .non S
def dIfS (dc : DB) (a b : DS) : DS := fun t S => ofE (dc t S) t fun c S1 => if c = true then a t S1 else b t S1
def dBrk : DS := fun t S => .bk t S
def dCnt : DS := fun t S => .ct t S
section
variable {X : Cx} {cl : Cl} {W : WX} {s : Stmt} {r : List Stmt} {da db : DS} {de : DE} {dc : DB} {e : Expr} {pos pos' : Pos} {a b : List Stmt}
theorem s_nil : USs X cl W [] dSkip := weakSs pss_nil fun N σ H ⟨w, t, eH, ok, en, p⟩ => eH ▸ p w σ (Af.refl ok) rfl en
theorem le_seq {N : Ends} {σ : L2.St} {H : Hp} (q : upS X.K cl W (dSeq da db) N σ H) : tSeq (upS X.K cl W da) (upS X.K cl W db) N σ H := by
  obtain ⟨w, t, eH, ok, en, p⟩ := q
  refine ⟨w, t, eH, ok, en, ?_⟩
  unfold dSeq at p
  split at p
  · rename_i t1 S1 e
    rw [e]
    intro w1 σ1 y e1 en1
    exact ⟨w1, t1, rfl, y.ok, en1, by rw [e1]; exact SPost.after p y⟩
  · rename_i o hn
    revert p hn
    generalize da t w.S = o
    intro hn p
    cases o with
    | nx t1 S1 => exact (hn t1 S1 rfl).elim
    | _ => exact p
theorem s_cons (h1 : US X cl W s da) (h2 : USs X cl W r db) : USs X cl W (s :: r) (dSeq da db) := weakSs (pss_cons h1 h2) fun _ _ _ => le_seq
theorem s_one (h1 : US X cl W s da) : USs X cl W [s] da := pss_one h1
theorem s_pass : US X cl W (.Pass pos) dSkip := weakS ps_pass fun N σ H ⟨w, t, eH, ok, en, p⟩ => eH ▸ p w σ (Af.refl ok) rfl en
theorem s_brk : US X cl W (.Break pos) dBrk := weakS ps_break fun N σ H ⟨w, t, eH, ok, en, p⟩ => eH ▸ p w σ (Af.refl ok) rfl en
theorem s_cnt : US X cl W (.Continue pos) dCnt := weakS ps_continue fun N σ H ⟨w, t, eH, ok, en, p⟩ => eH ▸ p w σ (Af.refl ok) rfl en
theorem s_expr (h : UE X cl W e de) (hs : swapsWith e none pos.line X.env = pure false := by rfl) : US X cl W (.Expr e pos) (dExpr de) := weakS (ps_expr h hs) fun N σ H ⟨w, t, eH, ok, en, p⟩ =>
  ⟨w, t, eH, ok, en, SPost.ofE p en fun d w1 v y rv en1 p1 => p1 w1 σ (Af.refl y.ok) rfl en1⟩
theorem s_set {i : Nat} {x : Str} (hN : X.N.Nodup) (hi : X.N[i]? = some x) (hx : Loc X.env.scope x) (h : UE X cl W e de) (hs : swapsWith e (some (.Name x pos')) pos.line X.env = pure false := by rfl) (hf : X.fn x = true ∨ X.env.scope.names.lookup x = some .local := by first | exact .inl rfl | exact .inr rfl | assumption) :
    US X cl W (.Assign [.Name x pos'] e pos) (dSet i de) := weakS (ps_set hN hi hx h hs hf) fun N σ H ⟨w, t, eH, ok, en, p⟩ =>
  ⟨w, t, eH, ok, en, SPost.ofE p en fun d w1 v y rv en1 p1 => p1 w1 _ (Af.refl y.ok) rfl (en1.set rv)⟩
theorem s_ret (h : UE X cl W e de) : US X cl W (.Return (some e) pos) (dRet de) := weakS (ps_ret h) fun N σ H ⟨w, t, eH, ok, en, p⟩ =>
  ⟨w, t, eH, ok, en, SPost.ofE p en fun d w1 v y rv en1 p1 => p1 w1 v (Af.refl y.ok) rfl rv⟩
theorem s_retN : US X cl W (.Return none pos) dRetN := weakS ps_retN fun N σ H ⟨w, t, eH, ok, en, p⟩ => eH ▸ p w .non (Af.refl ok) rfl rfl
theorem s_if {c : Expr} (hc : UB X cl W c dc) (ha : USs X cl W a da) (hb : USs X cl W b db) : US X cl W (.If c a b pos) (dIfS dc da db) := weakS (ps_if hc ha hb) fun N σ H ⟨w, t, eH, ok, en, p⟩ =>
  ⟨w, t, eH, ok, en, SPost.ofE p en fun d w1 v y rv en1 p1 => by
    cases (show d = v from rv)
    cases d with
    | true => exact ⟨w1, t, rfl, y.ok, en1, p1⟩
    | false => exact ⟨w1, t, rfl, y.ok, en1, p1⟩⟩
/-- code that is not come to -/
def dNever : DS := fun _ _ => .bad
theorem s_never : US X cl W s dNever := weakS ps_never fun N σ H ⟨w, t, eH, ok, en, p⟩ => p.elim
theorem ss_never : USs X cl W r dNever := weakSs pss_never fun N σ H ⟨w, t, eH, ok, en, p⟩ => p.elim

/-! while -/
def dWhile (dc : DB) (db : DS) : Nat → DS
  | 0 => fun _ _ => .bad
  | n + 1 => fun t S => ofE (dc t S) t fun c S1 => if c = true then (match db t S1 with
    | .nx t2 S2 => dWhile dc db n t2 S2
    | .ct t2 S2 => dWhile dc db n t2 S2
    | .bk t2 S2 => .nx t2 S2
    | o => o) else .nx t S1
theorem s_while {c : Expr} (n : Nat) (hp : PassesOwn (model X.prog X.w) X.A X.env X.xe) (hc : UB X cl W c dc) (hb : USs X cl W b db) : US X cl W (.While c b [] pos) (dWhile dc db n) := weakS (ps_while hp hc hb) fun N σ H q => by
  refine ⟨fun m σ H => upS X.K cl W (dWhile dc db m) N σ H, ⟨n, q⟩, ?_⟩
  rintro m σ H ⟨w, t, eH, ok, en, p⟩
  cases m with
  | zero => exact p.elim
  | succ m =>
    refine ⟨w, t, eH, ok, en, SPost.ofE p en fun d w1 v y rv en1 p1 => ?_⟩
    cases (show d = v from rv)
    cases d with
    | false => exact p1 w1 σ (Af.refl y.ok) rfl en1
    | true =>
      rw [if_pos rfl] at p1 ⊢
      refine ⟨fun σ H => upS X.K cl W (dWhile dc db m) N σ H, fun σ' H' z => ⟨m, Nat.lt_succ_self m, z⟩, w1, t, rfl, y.ok, en1, ?_⟩
      cases hq : db t w1.S with
      | nx t2 S2 =>
        rw [hq] at p1
        intro w2 σ2 y2 e2 en2
        exact ⟨w2, t2, rfl, y2.ok, en2, by rw [e2]; exact SPost.after p1 y2⟩
      | ct t2 S2 =>
        rw [hq] at p1
        intro w2 σ2 y2 e2 en2
        exact ⟨w2, t2, rfl, y2.ok, en2, by rw [e2]; exact SPost.after p1 y2⟩
      | bk t2 S2 => rw [hq] at p1; exact p1
      | rt d S2 => rw [hq] at p1; exact p1
      | exc t2 c ns vs S2 => rw [hq] at p1; exact p1
      | bad => rw [hq] at p1; exact p1
end

/-! ### targets -/
inductive Tg where
  | nm (i : Nat) | tp (is : List Nat)
def tgL : List Nat → TGs
  | [] => gNil
  | i :: r => gCons (gName i) (tgL r)
def tgT (K : PySem.W.Frag) : Tg → TG
  | .nm i => gName i
  | .tp is => gTup K is.length (tgL is)
def setAll : List Nat → List D → Lc → Lc
  | i :: r, d :: ds, t => setAll r ds (t.set i (some d))
  | _, _, t => t
def Tg.set : Tg → D → Lc → Option Lc
  | .nm i, d, t => some (t.set i (some d))
  | .tp is, .tup ds, t => if ds.length = is.length then some (setAll is ds t) else none
  | _, _, _ => none
def Tg.slots : Tg → List Nat
  | .nm i => [i]
  | .tp is => is
theorem wipe_get {σ : L2.St} {vs : List Nat} {j : Nat} : (wipe σ vs)[j]? = if j ∈ vs ∧ j < σ.length then some none else σ[j]? := by
  induction vs with
  | nil => simp [wipe]
  | cons v vs ih =>
    unfold wipe
    by_cases h : v = j
    · subst h
      by_cases hv : v < σ.length
      · rw [List.getElem?_set_self (by rw [wipe_length]; exact hv), if_pos ⟨List.mem_cons_self, hv⟩]
      · rw [List.getElem?_eq_none (by rw [List.length_set, wipe_length]; omega), if_neg (fun z => hv z.2), List.getElem?_eq_none (by omega)]
    · rw [List.getElem?_set_ne h, ih]
      have : j ∈ v :: vs ↔ j ∈ vs := by simp [Ne.symm h]
      simp only [this]
theorem wipe_set {σ : L2.St} {vs : List Nat} {i : Nat} {o : Option V} (h : i ∈ vs) : wipe (σ.set i o) vs = wipe σ vs := by
  apply List.ext_getElem?
  intro j
  rw [wipe_get, wipe_get, List.length_set]
  by_cases hj : i = j
  · subst hj
    by_cases hl : i < σ.length
    · rw [if_pos ⟨h, hl⟩, if_pos ⟨h, hl⟩]
    · rw [if_neg (fun z => hl z.2), if_neg (fun z => hl z.2), List.getElem?_eq_none (by rw [List.length_set]; omega), List.getElem?_eq_none (by omega)]
  · rw [List.getElem?_set_ne hj]
theorem wipe_wipe {σ : L2.St} {vs us : List Nat} (h : ∀ i ∈ us, i ∈ vs) : wipe (wipe σ us) vs = wipe σ vs := by
  apply List.ext_getElem?
  intro j
  rw [wipe_get, wipe_get, wipe_get, wipe_length]
  by_cases h1 : j ∈ vs ∧ j < σ.length
  · rw [if_pos h1, if_pos h1]
  · rw [if_neg h1, if_neg h1, if_neg (fun z => h1 ⟨h _ z.1, z.2⟩)]
section
variable {K : PySem.W.Frag} {cl : Cl} {w : Wd} {t t' : Lc} {σ : L2.St} {Q : L2.St → Hp → Prop}
theorem tgL_ok {σ0 : L2.St} {sl : List Nat} : ∀ {is : List Nat} {ds : List D} {vs : List V} {t : Lc} {σ : L2.St}, ds.length = is.length → RL K cl w ds vs → EnvR K cl w t σ → (∀ i ∈ is, i ∈ sl) → (∀ us, (∀ i ∈ sl, i ∈ us) → wipe σ us = wipe σ0 us) →
    (∀ σ', EnvR K cl w (setAll is ds t) σ' → (∀ us, (∀ i ∈ sl, i ∈ us) → wipe σ' us = wipe σ0 us) → Q σ' w.H) → tgL is vs σ w.H Q
  | [], [], vs, t, σ, _, r, en, _, hw, h => ⟨r, h σ en hw⟩
  | i :: is, d :: ds, vs, t, σ, hl, ⟨v, ws, e, rv, rr⟩, en, hm, hw, h => by
    refine ⟨v, ws, e, ?_⟩
    exact tgL_ok (is := is) (ds := ds) (t := t.set i (some d)) (by simpa using hl) rr (en.set rv) (fun j hj => hm j (List.mem_cons_of_mem _ hj)) (fun us hu => by rw [wipe_set (hu i (hm i List.mem_cons_self))]; exact hw us hu) h
theorem Tg.ok {g : Tg} {d : D} {v : V} (ok : w.Ok K cl) (en : EnvR K cl w t σ) (r : RV K cl w d v) (e : g.set d t = some t')
    (h : ∀ σ', EnvR K cl w t' σ' → (∀ us, (∀ i ∈ g.slots, i ∈ us) → wipe σ' us = wipe σ us) → Q σ' w.H) : tgT K g v σ w.H Q := by
  cases g with
  | nm i =>
    cases e
    exact h _ (en.set r) fun us hu => wipe_set (hu i (by simp [Tg.slots]))
  | tp is =>
    cases d with
    | tup ds =>
      have e : (if ds.length = is.length then some (setAll is ds t) else none) = some t' := e
      split at e
      · rename_i hl
        cases e
        obtain ⟨a, xs, ev, tl, rr⟩ := r
        exact ⟨a, xs, ev, tl.here ok, by rw [← hl]; exact (Reps.length rr).symm, tgL_ok (σ0 := σ) (sl := is) hl rr en (fun _ h => h) (fun _ _ => rfl) h⟩
      · cases e
    | _ => cases e
end
section
variable {X : Cx} {cl : Cl} {W : WX} {e tg : Expr} {de : DE} {pos : Pos} {g : Tg}
def dAsg (g : Tg) (de : DE) : DS := fun t S => ofE (de t S) t fun d S1 => match g.set d t with
  | some t' => .nx t' S1
  | none => .bad
/-- a, b = e and the like -/
theorem s_asg (he : UE X cl W e de) (hg : PG X tg (tgT X.K g)) (hs : swapsWithSole [tg] e pos.line X.env = pure false := by rfl) (hw : swappedStores [tg] e X.env = pure none := by rfl) (h1 : (assignEach [tg] X.env).map (·.2) = [assign tg X.env] := by rfl) :
    US X cl W (.Assign [tg] e pos) (dAsg g de) := weakS (ps_asg he hg hs hw h1) fun N σ H ⟨w, t, eH, ok, en, p⟩ =>
  ⟨w, t, eH, ok, en, SPost.ofE p en fun d w1 v y rv en1 p1 => by
    split at p1
    · rename_i t' et
      exact Tg.ok y.ok en1 rv et fun σ' en' _ => p1 w1 σ' (Af.refl y.ok) rfl en'
    · exact p1.elim⟩
end

/-! ### what is walked -/
/-- J gives the items xs in every state that may come of w -/
def Wk (K : PySem.W.Frag) (cl : Cl) (w : Wd) (xs : List D) (J : It) : Prop :=
  ∀ w1, Af K cl w w1 → ∀ i, (∀ d, xs[i]? = some d → J.go i w1.H ∧ ∀ v H', J.yld i w1.H v H' → ∃ w2, w2.H = H' ∧ Af K cl w1 w2 ∧ w2.S = w1.S ∧ RV K cl w2 d v) ∧ (xs.length ≤ i → J.stop i w1.H)
theorem Wk.af {K : PySem.W.Frag} {cl : Cl} {w w1 : Wd} {xs : List D} {J : It} (h : Wk K cl w xs J) (x : Af K cl w w1) : Wk K cl w1 xs J := fun w2 y => h w2 (x.trans y)
def upI (K : PySem.W.Frag) (cl : Cl) (W : WX) (di : DA) : TI := fun σ H R => ∃ w t, w.H = H ∧ w.Ok K cl ∧ EnvR K cl w t σ ∧ OPost K cl (Wk K cl) (fun c d H' => W c d σ H') w R (di t w.S)
abbrev UI (X : Cx) (cl : Cl) (W : WX) (tg iter : Expr) (di : DA) : Prop := PI X tg iter (upI X.K cl W di)
theorem weakI {X : Cx} {tg iter : Expr} {wi : TI} (h : PI X tg iter wi) {t : TI} (q : ∀ σ H R, t σ H R → wi σ H R) : PI X tg iter t := ⟨fun pins s σ H R I hw => h.run pins s σ H R I (q σ H R hw)⟩
section
variable {X : Cx} {cl : Cl} {W : WX} {tg e : Expr} {de : DE} {pos p : Pos}
/-- the items of a list, of a tuple -/
def iLst (de : DE) : DA := fun t S => (de t S).bind fun d S1 => match d with
  | .lst xs => .ok xs S1
  | _ => .bad
def iTpl (de : DE) : DA := fun t S => (de t S).bind fun d S1 => match d with
  | .tup xs => .ok xs S1
  | _ => .bad
theorem wk_lst {K : PySem.W.Frag} {w : Wd} {a : Addr} {xs : List D} {vs : List V} (ok : w.Ok K cl) (h : LL w.F a vs) (r : RL K cl w xs vs) : Wk K cl w xs (Itl K a) := fun w1 x i => by
  have hs : SqL K w1.H a vs := LL.here x.ok (h.mono x.fz)
  refine ⟨fun d hd => ?_, fun hl => ⟨vs, hs, by rw [← Reps.length r]; exact hl⟩⟩
  obtain ⟨v, hv, rv⟩ := r.get hd
  refine ⟨⟨vs, v, hs, hv⟩, fun u H' ⟨e, q⟩ => ⟨w1, e.symm, Af.refl x.ok, rfl, ?_⟩⟩
  have e2 := q vs hs
  rw [hv] at e2
  cases e2
  exact Rep.af x rv
theorem wk_tup {K : PySem.W.Frag} {w : Wd} {a : Addr} {xs : List D} {vs : List V} (ok : w.Ok K cl) (h : TL K w.F a vs) (r : RL K cl w xs vs) : Wk K cl w xs (Itt K a) := fun w1 x i => by
  have hs : SqT K w1.H a vs := TL.here x.ok (h.mono x.fz)
  refine ⟨fun d hd => ?_, fun hl => ⟨vs, hs, by rw [← Reps.length r]; exact hl⟩⟩
  obtain ⟨v, hv, rv⟩ := r.get hd
  refine ⟨⟨vs, v, hs, hv⟩, fun u H' ⟨e, q⟩ => ⟨w1, e.symm, Af.refl x.ok, rfl, ?_⟩⟩
  have e2 := q vs hs
  rw [hv] at e2
  cases e2
  exact Rep.af x rv
theorem i_lst (h : UE X cl W e de) : UI X cl W tg e (iLst de) := weakI (pi_list h) fun σ H R ⟨w, t, eH, ok, en, p⟩ => by
  refine ⟨w, t, eH, ok, en, OPost.bind p fun d w1 v a1 r1 p1 => ?_⟩
  split at p1
  · rename_i xs
    obtain ⟨a, vs, ev, hl, r⟩ := r1
    exact ⟨a, ev, ⟨vs, LL.here a1.ok hl⟩, p1 w1 _ (Af.refl a1.ok) rfl (wk_lst a1.ok hl r)⟩
  · exact p1.elim
theorem i_tup (h : UE X cl W e de) : UI X cl W tg e (iTpl de) := weakI (pi_tup h) fun σ H R ⟨w, t, eH, ok, en, p⟩ => by
  refine ⟨w, t, eH, ok, en, OPost.bind p fun d w1 v a1 r1 p1 => ?_⟩
  split at p1
  · rename_i xs
    obtain ⟨a, vs, ev, hl, r⟩ := r1
    exact ⟨a, ev, ⟨vs, TL.here a1.ok hl⟩, p1 w1 _ (Af.refl a1.ok) rfl (wk_tup a1.ok hl r)⟩
  · exact p1.elim
/-- lo, lo + 1, .. -/
def intsFrom (lo : Int) : Nat → List D
  | 0 => []
  | n + 1 => .int lo :: intsFrom (lo + 1) n
theorem intsFrom_length : ∀ (n : Nat) (lo : Int), (intsFrom lo n).length = n
  | 0, _ => rfl
  | n + 1, lo => by rw [intsFrom, List.length_cons, intsFrom_length n]
theorem intsFrom_get : ∀ (n i : Nat) (lo : Int) {d : D}, (intsFrom lo n)[i]? = some d → i < n ∧ d = .int (lo + i)
  | 0, i, lo, d, h => by simp [intsFrom] at h
  | n + 1, 0, lo, d, h => by
    simp [intsFrom] at h
    exact ⟨Nat.succ_pos n, by rw [← h]; simp⟩
  | n + 1, i + 1, lo, d, h => by
    obtain ⟨h1, h2⟩ := intsFrom_get n i (lo + 1) (by simpa [intsFrom] using h)
    exact ⟨Nat.succ_lt_succ h1, by rw [h2]; congr 1; omega⟩
theorem wk_rng {K : PySem.W.Frag} {w : Wd} {lo : Int} {n : Nat} : Wk K cl w (intsFrom lo n) (Itr lo n) := fun w1 x i => by
  refine ⟨fun d hd => ?_, fun hl => by rw [intsFrom_length] at hl; exact hl⟩
  obtain ⟨h1, h2⟩ := intsFrom_get n i lo hd
  exact ⟨h1, fun v H' ⟨e, q⟩ => ⟨w1, e.symm, Af.refl x.ok, rfl, by rw [h2]; exact q⟩⟩
def inB (j : Int) : Prop := -(2 ^ 62) ≤ j ∧ j < 2 ^ 62
instance (j : Int) : Decidable (inB j) := by unfold inB; infer_instance
def iRng1 (de : DE) : DA := fun t S => (de t S).bind fun d S1 => match d with
  | .int j => if inB j then .ok (intsFrom 0 j.toNat) S1 else .bad
  | _ => .bad
def iRng2 (da db : DE) : DA := fun t S => (da t S).bind fun x S1 => (db t S1).bind fun y S2 => match x, y with
  | .int i, .int j => if inB i ∧ inB j then .ok (intsFrom i (j - i).toNat) S2 else .bad
  | _, _ => .bad
theorem i_rng1 (hg : Gl X "range") (hm : X.mg "range" = none) (h : UE X cl W e de) (hs : starEach [e] X.env = [(false, eval e X.env)] := by rfl) : UI X cl W tg (.Call (.Name "range" p) [e] [] pos) (iRng1 de) := weakI (pi_range1 hg hm (pa_cons h pa_nil hs) hs) fun σ H R ⟨w, t, eH, ok, en, p⟩ => by
  refine ⟨w, t, eH, ok, en, OPost.bind p fun d w1 v a1 r1 p1 => ?_⟩
  split at p1
  · rename_i j
    cases (show v = .int j from r1)
    split at p1
    · rename_i hb
      exact ⟨j, rfl, hb.1, hb.2, p1 w1 _ (Af.refl a1.ok) rfl wk_rng⟩
    · exact p1.elim
  · exact p1.elim
theorem i_rng2 {e2 : Expr} {db : DE} (hg : Gl X "range") (hm : X.mg "range" = none) (h : UE X cl W e de) (h' : UE X cl W e2 db) (hs : starEach [e, e2] X.env = [(false, eval e X.env), (false, eval e2 X.env)] := by rfl) (hs2 : starEach [e2] X.env = [(false, eval e2 X.env)] := by rfl) :
    UI X cl W tg (.Call (.Name "range" p) [e, e2] [] pos) (iRng2 de db) := weakI (pi_range2 hg hm (pa_cons h (pa_cons h' pa_nil hs2) (by rw [hs, hs2])) hs hs2) fun σ H R ⟨w, t, eH, ok, en, p⟩ => by
  refine ⟨w, t, eH, ok, en, OPost.bind p fun d w1 v a1 r1 p1 => ?_⟩
  refine ⟨w1, t, rfl, a1.ok, en.af a1, OPost.bind p1 fun y w2 v2 a2 r2 p2 => ?_⟩
  split at p2
  · rename_i i j
    cases (show v = .int i from r1)
    cases (show v2 = .int j from r2)
    split at p2
    · rename_i hb
      exact ⟨i, j, rfl, ⟨hb.1.1, hb.1.2, hb.2.1, hb.2.2⟩, p2 w2 _ (Af.refl a2.ok) rfl wk_rng⟩
    · exact p2.elim
  · exact p2.elim

/-! ### for -/
def dLoop (g : Tg) (db : DS) : List D → DS
  | [] => fun t S => .nx t S
  | d :: r => fun t S => match g.set d t with
    | none => .bad
    | some t1 => match db t1 S with
      | .nx t2 S2 => dLoop g db r t2 S2
      | .ct t2 S2 => dLoop g db r t2 S2
      | .bk t2 S2 => .nx t2 S2
      | o => o
def dFor (g : Tg) (di : DA) (db : DS) : DS := fun t S => ofE (di t S) t fun xs S1 => dLoop g db xs t S1
theorem s_for {iter : Expr} {body : List Stmt} {di : DA} {db : DS} {g : Tg} (hp : PassesOwn (model X.prog X.w) X.A X.env X.xe) (hc : X.calm = true) (hi : UI X cl W tg iter di) (hg : PG X tg (tgT X.K g)) (hb : USs X cl W body db)
    (hs : ∀ x, foldedSetIterable iter X.env x = pure x := by intro _; rfl) : US X cl W (.For tg iter body [] pos) (dFor g di db) := weakS (ps_for hp hc hi hg hb hs) fun N σ H ⟨w, t, eH, ok, en, p⟩ => by
  refine ⟨w, t, eH, ok, en, SPost.ofE p en fun xs w1 J a1 hJ en1 p1 => ?_⟩
  refine ⟨fun i m σ H => ∃ w2 t2, w2.H = H ∧ Af X.K cl w1 w2 ∧ EnvR X.K cl w2 t2 σ ∧ m = xs.length - i ∧ i ≤ xs.length ∧ SPost X.K cl W N w2 (dLoop g db (xs.drop i) t2 w2.S), ⟨_, w1, t, rfl, Af.refl a1.ok, en1, rfl, Nat.zero_le _, p1⟩, ?_⟩
  rintro i m σ2 H2 ⟨w2, t2, rfl, a2, en2, rfl, hi', p2⟩
  by_cases hl : i < xs.length
  · obtain ⟨go, yl⟩ := (hJ w2 a2 i).1 _ (List.getElem?_eq_getElem hl)
    rw [List.drop_eq_getElem_cons hl] at p2
    refine .inr ⟨go, fun σ' H' => ∃ w4 t4, w4.H = H' ∧ Af X.K cl w1 w4 ∧ EnvR X.K cl w4 t4 σ' ∧ SPost X.K cl W N w4 (dLoop g db (xs.drop (i + 1)) t4 w4.S), fun σ' H' ⟨w4, t4, e4, a4, en4, p4⟩ => ⟨xs.length - (i + 1), by omega, w4, t4, e4, a4, en4, rfl, hl, p4⟩, fun v H' hy => ?_⟩
    obtain ⟨w3, rfl, a3, e3, rv⟩ := yl v H' hy
    have p2' : SPost X.K cl W N w2 (match g.set xs[i] t2 with
      | none => .bad
      | some t1 => match db t1 w2.S with
        | .nx t2 S2 => dLoop g db (xs.drop (i + 1)) t2 S2
        | .ct t2 S2 => dLoop g db (xs.drop (i + 1)) t2 S2
        | .bk t2 S2 => .nx t2 S2
        | o => o) := p2
    split at p2'
    · exact p2'.elim
    · rename_i t1 et
      refine Tg.ok a3.ok (en2.af a3) rv et fun σ' en' _ => ⟨w3, t1, rfl, a3.ok, en', ?_⟩
      rw [e3]
      have p3 := SPost.after p2' a3
      have go2 : ∀ (t5 : Lc) (S5 : Sto), SPost X.K cl W N w3 (dLoop g db (xs.drop (i + 1)) t5 S5) → ∀ (w4 : Wd) (σ4 : L2.St), Af X.K cl w3 w4 → w4.S = S5 → EnvR X.K cl w4 t5 σ4 → ∃ w5 t6, w5.H = w4.H ∧ Af X.K cl w1 w5 ∧ EnvR X.K cl w5 t6 σ4 ∧ SPost X.K cl W N w5 (dLoop g db (xs.drop (i + 1)) t6 w5.S) :=
        fun t5 S5 p4 w4 σ4 a4 e4 en4 => ⟨w4, t5, rfl, (a2.trans a3).trans a4, en4, by rw [e4]; exact SPost.after p4 a4⟩
      cases hq : db t1 w2.S with
      | nx t5 S5 => rw [hq] at p3; exact go2 t5 S5 p3
      | ct t5 S5 => rw [hq] at p3; exact go2 t5 S5 p3
      | bk t5 S5 => rw [hq] at p3; exact p3
      | rt d S5 => rw [hq] at p3; exact p3
      | exc t5 c ns vs S5 => rw [hq] at p3; exact p3
      | bad => rw [hq] at p3; exact p3
  · have e : i = xs.length := by omega
    subst e
    rw [List.drop_length] at p2
    exact .inl ⟨(hJ w2 a2 _).2 (Nat.le_refl _), p2 w2 σ2 (Af.refl a2.ok) rfl en2⟩
end
end Dl
set_option Elab.async false
set_option linter.all false
set_option maxRecDepth 100000
set_option maxHeartbeats 4000000
/-! The data layer: attributes, items, slices, built-ins, methods of built-ins, list comprehensions. -/
namespace Dl
open PySem L2

/-! ### what stands behind a value -/
def deref (d : D) (S : Sto) : D := match d with
  | .ptr i => match S[i]? with
    | some (some c) => c
    | _ => .ptr i
  | _ => d
section
variable {K : PySem.W.Frag} {cl : Cl} {w : Wd} {d : D} {v : V}
theorem deref_lst {xs : List D} (ok : w.Ok K cl) (r : RV K cl w d v) (e : deref d w.S = .lst xs) : ∃ a vs, v = .ref a ∧ w.H a = some (.lst vs) ∧ RL K cl w xs vs := by
  unfold deref at e
  split at e
  · rename_i i
    split at e
    · rename_i c hc
      subst e
      obtain ⟨a, ea, ev⟩ := r
      obtain ⟨_, vs, q, rr⟩ := ok.cell i a _ ea hc
      exact ⟨a, vs, ev, q, rr⟩
    · cases e
  · subst e
    obtain ⟨a, vs, ev, hl, rr⟩ := r
    exact ⟨a, vs, ev, hl.at ok, rr⟩
theorem deref_tup {xs : List D} (ok : w.Ok K cl) (r : RV K cl w d v) (e : deref d w.S = .tup xs) : ∃ a vs, v = .ref a ∧ SqT K w.H a vs ∧ RL K cl w xs vs := by
  unfold deref at e
  split at e
  · rename_i i
    split at e
    · rename_i c hc
      subst e
      obtain ⟨a, ea, ev⟩ := r
      exact (ok.cell i a _ ea hc).2.elim
    · cases e
  · subst e
    obtain ⟨a, vs, ev, hl, rr⟩ := r
    exact ⟨a, vs, ev, hl.here ok, rr⟩
theorem deref_rol {xs : List D} (ok : w.Ok K cl) (r : RV K cl w d v) (e : deref d w.S = .rol xs) : ∃ a vs, v = .ref a ∧ SqL K w.H a vs ∧ RL K cl w xs vs := by
  unfold deref at e
  split at e
  · rename_i i
    split at e
    · rename_i c hc
      subst e
      obtain ⟨a, ea, ev⟩ := r
      exact (ok.cell i a _ ea hc).2.elim
    · cases e
  · subst e
    obtain ⟨a, vs, ev, hl, rr⟩ := r
    exact ⟨a, vs, ev, sq_here ok hl, rr⟩
theorem deref_dic {ks vs : List D} (ok : w.Ok K cl) (r : RV K cl w d v) (e : deref d w.S = .dic ks vs) :
    ∃ a, ∃ es : List (Key × V), v = .ref a ∧ Rd w.H a (.dK es) ∧ RL K cl w ks (es.map fun e => kV e.1) ∧ RL K cl w vs (es.map (·.2)) := by
  unfold deref at e
  split at e
  · rename_i i
    split at e
    · rename_i c hc
      subst e
      obtain ⟨a, ea, ev⟩ := r
      obtain ⟨_, es, q, r1, r2⟩ := ok.cell i a _ ea hc
      exact ⟨a, es, ev, .inl q, r1, r2⟩
    · cases e
  · subst e
    obtain ⟨a, xs, ys, ev, ⟨od, es, q, e1, e2⟩, r1, r2⟩ := r
    subst e1; subst e2
    exact ⟨a, es, ev, .inr ⟨od, ok.sub _ _ q⟩, r1, r2⟩
/-- the items of a list, of a tuple -/
def seqOf (d : D) (S : Sto) : Option (List D) := match deref d S with
  | .lst xs => some xs
  | .rol xs => some xs
  | _ => none
def itemsOf (d : D) (S : Sto) : Option (List D) := match deref d S with
  | .lst xs => some xs
  | .rol xs => some xs
  | .tup xs => some xs
  | _ => none
theorem seqOf_at {xs : List D} (ok : w.Ok K cl) (r : RV K cl w d v) (e : seqOf d w.S = some xs) : ∃ a vs, v = .ref a ∧ SqL K w.H a vs ∧ RL K cl w xs vs := by
  unfold seqOf at e
  split at e
  · rename_i h
    cases e
    obtain ⟨a, vs, ev, h1, h2⟩ := deref_lst ok r h
    exact ⟨a, vs, ev, .of h1, h2⟩
  · rename_i h
    cases e
    exact deref_rol ok r h
  · cases e
theorem itemsOf_at {xs : List D} (ok : w.Ok K cl) (r : RV K cl w d v) (e : itemsOf d w.S = some xs) : ∃ a vs, v = .ref a ∧ (SqL K w.H a vs ∨ SqT K w.H a vs) ∧ RL K cl w xs vs := by
  unfold itemsOf at e
  split at e
  · rename_i h
    cases e
    obtain ⟨a, vs, ev, h1, h2⟩ := deref_lst ok r h
    exact ⟨a, vs, ev, .inl (.of h1), h2⟩
  · rename_i h
    cases e
    obtain ⟨a, vs, ev, h1, h2⟩ := deref_rol ok r h
    exact ⟨a, vs, ev, .inl h1, h2⟩
  · rename_i h
    cases e
    obtain ⟨a, vs, ev, h1, h2⟩ := deref_tup ok r h
    exact ⟨a, vs, ev, .inr h1, h2⟩
  · cases e
end

/-! ### attributes -/
def lookD : List Str → List D → Str → Option D
  | n :: ns, d :: ds, f => if n = f then some d else lookD ns ds f
  | _, _, _ => none
def putD (f : Str) (d : D) : List Str → List D → List Str × List D
  | n :: ns, x :: xs => if n = f then (n :: ns, d :: xs) else let p := putD f d ns xs; (n :: p.1, x :: p.2)
  | _, _ => ([f], [d])
section
variable {K : PySem.W.Frag} {cl : Cl} {F : Hp} {m : List Addr}
theorem look_rep : ∀ {es : List (Str × V)} {ns : List Str} {vs : List D} {f : Str} {d : D}, es.map (·.1) = ns → Reps K cl F m vs (es.map (·.2)) → lookD ns vs f = some d → ∃ v, es.lookup f = some v ∧ Rep K cl F m d v
  | [], ns, vs, f, d, h, r, e => by
    subst h
    cases vs <;> simp [lookD] at e
  | (n, x) :: es, ns, vs, f, d, h, r, e => by
    subst h
    cases vs with
    | nil => simp [lookD] at e
    | cons y ys =>
      obtain ⟨v, ws, h1, h2, h3⟩ := r
      simp only [List.map_cons, List.cons.injEq] at h1
      obtain ⟨h1a, h1b⟩ := h1
      subst h1a; subst h1b
      rw [List.map_cons] at e
      unfold lookD at e
      by_cases hn : n = f
      · rw [if_pos hn] at e
        cases e
        exact ⟨x, by simp [List.lookup, hn], h2⟩
      · rw [if_neg hn] at e
        obtain ⟨v, q1, q2⟩ := look_rep rfl h3 e
        have hb : (f == n) = false := beq_eq_false_iff_ne.mpr (fun z => hn z.symm)
        exact ⟨v, by simp only [List.lookup, hb]; exact q1, q2⟩
theorem put_rep {f : Str} {d : D} {v : V} (rd : Rep K cl F m d v) : ∀ {es : List (Str × V)} {vs : List D}, Reps K cl F m vs (es.map (·.2)) → (putF f v es).map (·.1) = (putD f d (es.map (·.1)) vs).1 ∧ Reps K cl F m (putD f d (es.map (·.1)) vs).2 ((putF f v es).map (·.2))
  | [], vs, r => by
    cases vs with
    | nil => exact ⟨rfl, ⟨v, [], rfl, rd, rfl⟩⟩
    | cons y ys => obtain ⟨_, _, h, _⟩ := r; simp at h
  | (n, x) :: es, vs, r => by
    cases vs with
    | nil => exact absurd (show _ = [] from r) (by simp)
    | cons y ys =>
      obtain ⟨v', ws, h1, h2, h3⟩ := r
      simp only [List.map_cons, List.cons.injEq] at h1
      obtain ⟨h1a, h1b⟩ := h1
      subst h1a; subst h1b
      rw [show putF f v ((n, x) :: es) = (if n = f then (n, v) :: es else (n, x) :: putF f v es) from rfl, List.map_cons]
      unfold putD
      by_cases hn : n = f
      · rw [if_pos hn, if_pos hn]
        exact ⟨rfl, ⟨v, _, rfl, rd, h3⟩⟩
      · rw [if_neg hn, if_neg hn]
        obtain ⟨q1, q2⟩ := put_rep rd h3
        exact ⟨by rw [List.map_cons]; exact congrArg (n :: ·) q1, ⟨x, _, rfl, h2, q2⟩⟩
end
section
variable {X : Cx} {cl : Cl} {W : WX} {e o : Expr} {de dx dv : DE} {f : Str} {c : Nat} {pos pos' tpos : Pos} {value : Expr}
def dAttr (c : Nat) (f : Str) (de : DE) : DE := fun t S => (de t S).bind fun x S1 => match objOf x S1 with
  | some (c', ns, vs) => if c' = c then (match lookD ns vs f with
    | some d => .ok d S1
    | none => .bad) else .bad
  | none => .bad
theorem u_attr (ck : Cls X.K (cl c)) (na : NoAttr X.K (cl c) f) (h : UE X cl W e de) (hb : attributeBase e f X.env (eval e X.env) = eval e X.env := by rfl) : UE X cl W (.Attribute e f pos) (dAttr c f de) := weakE (pe_fld h hb) fun σ H Q ⟨w, t, eH, ok, en, p⟩ => by
  refine ⟨w, t, eH, ok, en, OPost.bind p fun x w1 v a1 r1 p1 => ?_⟩
  split at p1
  · rename_i c' ns vs ho
    split at p1
    · rename_i hc
      subst hc
      split at p1
      · rename_i d hl
        obtain ⟨a, dx, es, ev, ea, q1, q2⟩ := objOf_at a1.ok r1 ho
        obtain ⟨u, l1, l2⟩ := look_rep q1 q2 hl
        exact ⟨a, _, dx, es, u, ev, ea, ck, na, l1, p1 w1 u (Af.refl a1.ok) rfl l2⟩
      · exact p1.elim
    · exact p1.elim
  · exact p1.elim
/-- x, a changeable object of class c -/
def cellObj (c : Nat) (x : D) (S : Sto) : Option (Nat × List Str × List D) := match x with
  | .ptr i => match S[i]? with
    | some (some (.obj c' ns vs)) => if c' = c then some (i, ns, vs) else none
    | _ => none
  | _ => none
theorem cellObj_at {K : PySem.W.Frag} {w : Wd} {x : D} {v : V} {i : Nat} {ns : List Str} {vs : List D} (ok : w.Ok K cl) (r : RV K cl w x v) (e : cellObj c x w.S = some (i, ns, vs)) :
    ∃ a dx es, v = .ref a ∧ w.m[i]? = some a ∧ w.S[i]? = some (some (.obj c ns vs)) ∧ w.H a = some (.ins (cl c) dx es) ∧ es.map (·.1) = ns ∧ Reps K cl w.F w.m vs (es.map (·.2)) := by
  unfold cellObj at e
  split at e
  · rename_i j
    split at e
    · rename_i c' ns' vs' hj
      split at e
      · rename_i hc
        subst hc
        cases e
        obtain ⟨a, ea, ev⟩ := r
        obtain ⟨_, dx, es, q1, q2, q3⟩ := ok.cell _ a _ ea hj
        exact ⟨a, dx, es, ev, ea, hj, q1, q2, q3⟩
      · cases e
    · cases e
  · cases e
def dSetF (c : Nat) (f : Str) (dx dv : DE) : DS := fun t S => ofE (dv t S) t fun y S1 => ofE (dx t S1) t fun x S2 => match cellObj c x S2 with
  | some (i, ns, vs) => if ns.length < 1000 then .nx t (S2.set i (some (.obj c (putD f y ns vs).1 (putD f y ns vs).2))) else .bad
  | none => .bad
theorem s_setF (ck : Cls X.K (cl c)) (na : NoAttr X.K (cl c) f) (ho : UE X cl W o dx) (hv : UE X cl W value dv) (hs : swapsWith value (some (.Attribute o f pos')) pos.line X.env = pure false := by rfl) : US X cl W (.Assign [.Attribute o f pos'] value pos) (dSetF c f dx dv) :=
  weakS (ps_fld ho hv hs) fun N σ H ⟨w, t, eH, ok, en, p⟩ => by
    refine ⟨w, t, eH, ok, en, SPost.ofE p en fun y w1 vy a1 r1 en1 p1 => ⟨w1, t, rfl, a1.ok, en1, SPost.ofE p1 en1 fun x w2 vx a2 r2 en2 p2 => ?_⟩⟩
    split at p2
    · rename_i i ns vs ho
      split at p2
      · rename_i hl
        obtain ⟨a, dx, es, ev, ea, q0, q1, q2, q3⟩ := cellObj_at a2.ok r2 ho
        refine ⟨a, _, dx, es, ev, q1, ck, na, by rw [← q2] at hl; simpa using hl, ?_⟩
        obtain ⟨z1, z2⟩ := put_rep (f := f) (Rep.af a2 r1) q3
        rw [q2] at z1 z2
        have z := a2.ok.cellSet (u := .ins (cl c) dx (putF f vy es)) (d := .obj c (putD f y ns vs).1 (putD f y ns vs).2) ea q0 ⟨dx, _, upd_same, z1, z2⟩
        exact p2 ⟨upd w2.H a (.ins (cl c) dx (putF f vy es)), w2.F, w2.m, _⟩ σ z rfl (en2.af z)
      · exact p2.elim
    · exact p2.elim
/-- x.f += e, numbers -/
def dAugF (c : Nat) (f : Str) (dx dv : DE) : DS := fun t S => ofE (dx t S) t fun x S1 => match objOf x S1 with
  | some (c', ns, vs) => if c' = c then (match lookD ns vs f with
    | some (.int i) => ofE (dv t S1) t fun y S2 => match y, cellObj c x S2 with
      | .int j, some (k, ns', vs') => if ns'.length < 1000 then .nx t (S2.set k (some (.obj c (putD f (.int (i + j)) ns' vs').1 (putD f (.int (i + j)) ns' vs').2))) else .bad
      | _, _ => .bad
    | _ => .bad) else .bad
  | none => .bad
theorem s_augF (ck : Cls X.K (cl c)) (na : NoAttr X.K (cl c) f) (ho : UE X cl W o dx) (hv : UE X cl W value dv) : US X cl W (.AugAssign (.Attribute o f tpos) .Add value pos) (dAugF c f dx dv) :=
  weakS (ps_fldaug ho hv in_add) fun N σ H ⟨w, t, eH, ok, en, p⟩ => by
    refine ⟨w, t, eH, ok, en, SPost.ofE p en fun x w1 vx a1 r1 en1 p1 => ?_⟩
    split at p1
    · rename_i c' ns vs ho
      split at p1
      · rename_i hc
        subst hc
        split at p1
        · rename_i i hl
          obtain ⟨a, dx, es, ev, ea, q1, q2⟩ := objOf_at a1.ok r1 ho
          obtain ⟨u, l1, l2⟩ := look_rep q1 q2 hl
          cases (show u = .int i from l2)
          refine ⟨a, _, dx, es, _, ev, ea, ck, na, l1, w1, t, rfl, a1.ok, en1, SPost.ofE p1 en1 fun y w2 vy a2 r2 en2 p2 => ?_⟩
          split at p2
          · rename_i j k ns' vs' hq
            cases (show vy = .int j from r2)
            split at p2
            · rename_i hlen
              obtain ⟨a', dx', es', ev', ea', q0', q1', q2', q3'⟩ := cellObj_at a2.ok (Rep.af a2 r1) hq
              rw [ev] at ev'
              cases ev'
              refine ⟨i, j, rfl, rfl, dx', es', q1', by rw [← q2'] at hlen; simpa using hlen, ?_⟩
              obtain ⟨z1, z2⟩ := put_rep (K := X.K) (cl := cl) (F := w2.F) (m := w2.m) (f := f) (d := .int (i + j)) (v := .int (i + j)) rfl q3'
              rw [q2'] at z1 z2
              have z := a2.ok.cellSet (u := .ins (cl c') dx' (putF f (.int (i + j)) es')) (d := .obj c' (putD f (.int (i + j)) ns' vs').1 (putD f (.int (i + j)) ns' vs').2) ea' q0' ⟨dx', _, upd_same, z1, z2⟩
              exact p2 ⟨upd w2.H a (.ins (cl c') dx' (putF f (.int (i + j)) es')), w2.F, w2.m, _⟩ σ z rfl (en2.af z)
            · exact p2.elim
          · exact p2.elim
        · exact p1.elim
      · exact p1.elim
    · exact p1.elim
end

/-! ### items -/
def fIx : D → D → Sto → Out D := fun x y S => match y, deref x S with
  | .int i, .lst xs => (match atI xs i with | some d => .ok d S | none => .bad)
  | .int i, .rol xs => (match atI xs i with | some d => .ok d S | none => .bad)
  | .int i, .tup xs => (match atI xs i with | some d => .ok d S | none => .bad)
  | _, _ => .bad
section
variable {K : PySem.W.Frag} {cl : Cl}
theorem atI_rep {F : Hp} {m : List Addr} {xs : List D} {vs : List V} {i : Int} {d : D} (r : Reps K cl F m xs vs) (e : atI xs i = some d) : ∃ v, atI vs i = some v ∧ Rep K cl F m d v := by
  unfold atI at e ⊢
  rw [← r.length]
  cases h : ixN xs.length i with
  | none => rw [h] at e; cases e
  | some j =>
    rw [h] at e
    exact r.get e
theorem d_ix : OpD K cl (rIx K) fIx := by
  intro w x y vx vy W Q ok rx ry p
  unfold fIx at p
  split at p
  · rename_i i xs h
    cases (show vy = .int i from ry)
    split at p
    · rename_i d hd
      obtain ⟨a, vs, ev, h1, h2⟩ := deref_lst ok rx h
      obtain ⟨v, q1, q2⟩ := atI_rep h2 hd
      exact .inl ⟨a, vs, i, v, ev, rfl, .of h1, q1, p w v (Af.refl ok) rfl q2⟩
    · exact p.elim
  · rename_i i xs h
    cases (show vy = .int i from ry)
    split at p
    · rename_i d hd
      obtain ⟨a, vs, ev, h1, h2⟩ := deref_rol ok rx h
      obtain ⟨v, q1, q2⟩ := atI_rep h2 hd
      exact .inl ⟨a, vs, i, v, ev, rfl, h1, q1, p w v (Af.refl ok) rfl q2⟩
    · exact p.elim
  · rename_i i xs h
    cases (show vy = .int i from ry)
    split at p
    · rename_i d hd
      obtain ⟨a, vs, ev, h1, h2⟩ := deref_tup ok rx h
      obtain ⟨v, q1, q2⟩ := atI_rep h2 hd
      exact .inr (.inl ⟨a, vs, i, v, ev, rfl, h1, q1, p w v (Af.refl ok) rfl q2⟩)
    · exact p.elim
  · exact p.elim
end
section
variable {X : Cx} {cl : Cl} {W : WX} {e o i value : Expr} {dx di dv : DE} {pos pos' p2 : Pos} {lo hi : Option Expr}
theorem u_item (ho : UE X cl W o dx) (hi : UE X cl W i di) (hs : PlainIx i := by exact fun _ _ => rfl) : UE X cl W (.Subscript o i pos) (dOp fIx dx di) := u_ix ix_seq d_ix ho hi hs
/-- xs[i] = e, a changeable list -/
def dSetI (dx di dv : DE) : DS := fun t S => ofE (dv t S) t fun y S1 => ofE (dx t S1) t fun x S2 => ofE (di t S2) t fun i S3 => match x, i with
  | .ptr k, .int j => (match S3[k]? with
    | some (some (.lst xs)) => (match ixN xs.length j with
      | some n => .nx t (S3.set k (some (.lst (xs.set n y))))
      | none => .bad)
    | _ => .bad)
  | _, _ => .bad
theorem s_setI (ho : UE X cl W o dx) (hi : UE X cl W i di) (hv : UE X cl W value dv)
    (hs : swapsWithSole [.Subscript o i pos'] value pos.line X.env = pure false := by rfl) (hw : swappedStores [.Subscript o i pos'] value X.env = pure none := by rfl) (h1 : (assignEach [.Subscript o i pos'] X.env).map (·.2) = [assign (.Subscript o i pos') X.env] := by rfl)
    (ha : ∀ v, assign (.Subscript o i pos') X.env v = (do
      let ov ← holding [v] (eval o X.env)
      let iv ← holding [v, ov] (eval i X.env)
      standAt pos'
      holding [v, ov, iv] (setItem ov iv v)
      release [v, ov, iv] []) := by intro _; rfl) : US X cl W (.Assign [.Subscript o i pos'] value pos) (dSetI dx di dv) :=
  weakS (ps_asg hv (pg_sub ho hi set_list ha) hs hw h1) fun N σ H ⟨w, t, eH, ok, en, p⟩ => by
    refine ⟨w, t, eH, ok, en, SPost.ofE p en fun y w1 vy a1 r1 en1 p1 => ⟨w1, t, rfl, a1.ok, en1, SPost.ofE p1 en1 fun x w2 vx a2 r2 en2 p2 => ⟨w2, t, rfl, a2.ok, en2, SPost.ofE p2 en2 fun z w3 vz a3 r3 en3 p3 => ?_⟩⟩⟩
    split at p3
    · rename_i k j
      cases (show vz = .int j from r3)
      split at p3
      · rename_i xs hk
        split at p3
        · rename_i n hn
          obtain ⟨a, ea, ev⟩ := Rep.af a3 r2
          obtain ⟨_, vs, c1, c2⟩ := a3.ok.cell k a _ ea hk
          refine ⟨a, vs, j, n, ev, rfl, c1, by rw [← Reps.length c2]; exact hn, ?_⟩
          have z := a3.ok.cellSet (u := .lst (vs.set n vy)) (d := .lst (xs.set n y)) ea hk ⟨_, upd_same, Reps.set (Rep.af a3 (Rep.af a2 r1)) n c2⟩
          exact p3 ⟨upd w3.H a (.lst (vs.set n vy)), w3.F, w3.m, _⟩ σ z rfl (en3.af z)
        · exact p3.elim
      · exact p3.elim
    · exact p3.elim

/-! slices -/
abbrev DO := Lc → Sto → Out (Option Int)
def upO (K : PySem.W.Frag) (cl : Cl) (W : WX) (d : DO) : TO := fun σ H Q => ∃ w t, w.H = H ∧ w.Ok K cl ∧ EnvR K cl w t σ ∧ OPost K cl (fun _ a b => a = b) (fun c d H' => W c d σ H') w Q (d t w.S)
abbrev UO (X : Cx) (cl : Cl) (W : WX) (e : Option Expr) (d : DO) : Prop := PO X e (upO X.K cl W d)
def oNone : DO := fun _ S => .ok none S
def oSome (de : DE) : DO := fun t S => (de t S).bind fun x S1 => match x with
  | .int i => .ok (some i) S1
  | _ => .bad
theorem o_none : UO X cl W none oNone := ⟨fun pins s σ H Q I ⟨w, t, eH, ok, en, p⟩ => (po_none (X := X)).run pins s σ H Q I (eH ▸ p w none (Af.refl ok) rfl rfl)⟩
theorem o_some {de : DE} (h : UE X cl W e de) : UO X cl W (some e) (oSome de) := ⟨fun pins s σ H Q I ⟨w, t, eH, ok, en, p⟩ => (po_some h).run pins s σ H Q I ⟨w, t, eH, ok, en, OPost.bind p fun x w1 v a1 r1 p1 => by
  split at p1
  · rename_i i
    cases (show v = .int i from r1)
    exact ⟨i, rfl, p1 w1 _ (Af.refl a1.ok) rfl rfl⟩
  · exact p1.elim⟩⟩
def cutD (xs : List D) (lo hi : Option Int) : List D := (xs.drop (HT.sIx xs.length 0 lo)).take (HT.sIx xs.length xs.length hi - HT.sIx xs.length 0 lo)
/-- xs[lo:hi], a list (new), a tuple -/
def dSl (dx : DE) (dl dh : DO) : DE := fun t S => (dx t S).bind fun x S1 => (dl t S1).bind fun l S2 => (dh t S2).bind fun h S3 => match deref x S3 with
  | .lst xs => .ok (.lst (cutD xs l h)) S3
  | .rol xs => .ok (.lst (cutD xs l h)) S3
  | .tup xs => .ok (.tup (cutD xs l h)) S3
  | _ => .bad
theorem cut_rep {K : PySem.W.Frag} {F : Hp} {m : List Addr} {xs : List D} {vs : List V} {l h : Option Int} (r : Reps K cl F m xs vs) : Reps K cl F m (cutD xs l h) (cutV vs l h) := by
  unfold cutD cutV
  rw [r.length]
  exact (r.drop _).take _
/-- a tuple's slice: the tuple itself where the slice is the whole of it -/
def rSlTA (K : PySem.W.Frag) : V → Option Int → Option Int → Hp → VK → Prop := fun x lo hi H Q => ∃ a xs, x = .ref a ∧ SqT K H a xs ∧
  ((HT.sIx xs.length 0 lo = 0 ∧ HT.sIx xs.length xs.length hi = xs.length) → Q (.ref a) H) ∧ ∀ p, H p = none → Q (.ref p) (upd H p (.tup (cutV xs lo hi)))
end
end Dl
set_option Elab.async false
set_option linter.all false
set_option maxRecDepth 100000
set_option maxHeartbeats 4000000
/-! The data layer: slices, operators, comparisons, built-ins. -/
namespace Dl
open PySem L2

section
variable {X : Cx} {cl : Cl} {W : WX} {e : Expr} {dx : DE} {dl dh : DO} {lo hi : Option Expr} {pos p2 : Pos}
def rSlAny (K : PySem.W.Frag) : V → Option Int → Option Int → Hp → VK → Prop := fun x lo hi H Q => rSlL K x lo hi H Q ∨ rSlA K x lo hi H Q
theorem sl_any : SlR X (rSlAny X.K) := SlR.or sl_list sl_tupA
theorem sIx_whole {xs : List D} {lo hi : Option Int} (h : HT.sIx xs.length 0 lo = 0 ∧ HT.sIx xs.length xs.length hi = xs.length) : cutD xs lo hi = xs := by
  unfold cutD
  rw [h.1, h.2, List.drop_zero, Nat.sub_zero, List.take_length]
theorem u_slice (h : UE X cl W e dx) (hl : UO X cl W lo dl) (hh : UO X cl W hi dh) : UE X cl W (.Subscript e (.Slice lo hi none p2) pos) (dSl dx dl dh) := weakE (pe_slice sl_any h hl hh) fun σ H Q ⟨w, t, eH, ok, en, p⟩ => by
  refine ⟨w, t, eH, ok, en, OPost.bind p fun x w1 v1 a1 r1 p1 => ?_⟩
  refine ⟨w1, t, rfl, a1.ok, en.af a1, OPost.bind p1 fun l w2 l' a2 el p2 => ?_⟩
  cases (show l = l' from el)
  refine ⟨w2, t, rfl, a2.ok, (en.af a1).af a2, OPost.bind p2 fun h w3 h' a3 eh p3 => ?_⟩
  cases (show h = h' from eh)
  have r3 := Rep.af a3 (Rep.af a2 r1)
  split at p3
  · rename_i xs hd
    obtain ⟨a, vs, ev, h1, h2⟩ := deref_lst a3.ok r3 hd
    refine .inl ⟨a, vs, ev, .of h1, fun q hq => ?_⟩
    exact p3 ⟨upd w3.H q (.lst (cutV vs l h)), upd w3.F q (.lst (cutV vs l h)), w3.m, w3.S⟩ (.ref q) (a3.ok.laid hq) rfl (laidLst a3.ok hq (cut_rep h2))
  · rename_i xs hd
    obtain ⟨a, vs, ev, h1, h2⟩ := deref_rol a3.ok r3 hd
    refine .inl ⟨a, vs, ev, h1, fun q hq => ?_⟩
    exact p3 ⟨upd w3.H q (.lst (cutV vs l h)), upd w3.F q (.lst (cutV vs l h)), w3.m, w3.S⟩ (.ref q) (a3.ok.laid hq) rfl (laidLst a3.ok hq (cut_rep h2))
  · rename_i xs hd
    obtain ⟨a, vs, ev, h1, h2⟩ := deref_tup a3.ok r3 hd
    refine .inr ⟨a, vs, ev, h1, fun hw => ?_, fun _ q hq => ?_⟩
    · have hx : x = .tup xs := by
        unfold deref at hd
        split at hd
        · split at hd
          · rename_i c hc
            subst hd
            obtain ⟨b, eb, _⟩ := r3
            exact (a3.ok.cell _ b _ eb hc).2.elim
          · cases hd
        · exact hd
      subst ev
      refine p3 w3 (.ref a) (Af.refl a3.ok) rfl ?_
      rw [sIx_whole (by rw [Reps.length h2]; exact hw), ← hx]
      exact r3
    · exact p3 ⟨upd w3.H q (.tup (cutV vs l h)), upd w3.F q (.tup (cutV vs l h)), w3.m, w3.S⟩ (.ref q) (a3.ok.laid hq) rfl (laidTup a3.ok hq (cut_rep h2))
  · exact p3.elim
end

/-! ### + - * // % ** -/
def fAdd : D → D → Sto → Out D := fun x y S => match deref x S, deref y S with
  | .int i, .int j => .ok (.int (i + j)) S
  | .str a, .str b => if a.length + b.length ≤ sizeLine then .ok (.str (a ++ b)) S else .bad
  | .lst xs, .lst ys => if xs.length + ys.length ≤ sizeLine then .ok (.lst (xs ++ ys)) S else .bad
  | .tup xs, .tup ys => if xs.length + ys.length ≤ sizeLine then .ok (.tup (xs ++ ys)) S else .bad
  | _, _ => .bad
def rAddAny (K : PySem.W.Frag) : R2 := fun x y H Q => (∃ i j, x = .int i ∧ y = .int j ∧ Q (.int (i + j)) H) ∨ (∃ i j, x = .str i ∧ y = .str j ∧ i.length + j.length ≤ sizeLine ∧ Q (.str (i ++ j)) H) ∨ rCat x y H Q ∨ rCatA K x y H Q
theorem op_addAny {X : Cx} : OpR X (binaryOp .Add) (rAddAny X.K) := op_add.or (op_add_str.or (op_cat.or op_catA))
section
variable {K : PySem.W.Frag} {cl : Cl} {w : Wd} {d : D} {v : V}
theorem deref_int {i : Int} (ok : w.Ok K cl) (r : RV K cl w d v) (e : deref d w.S = .int i) : v = .int i := by
  unfold deref at e
  split at e
  · split at e
    · rename_i c hc
      subst e
      obtain ⟨b, eb, _⟩ := r
      exact (ok.cell _ b _ eb hc).2.elim
    · cases e
  · subst e; exact r
theorem deref_str {i : Str} (ok : w.Ok K cl) (r : RV K cl w d v) (e : deref d w.S = .str i) : v = .str i := by
  unfold deref at e
  split at e
  · split at e
    · rename_i c hc
      subst e
      obtain ⟨b, eb, _⟩ := r
      exact (ok.cell _ b _ eb hc).2.elim
    · cases e
  · subst e; exact r
theorem deref_tup_eq {xs : List D} (ok : w.Ok K cl) (r : RV K cl w d v) (e : deref d w.S = .tup xs) : d = .tup xs := by
  unfold deref at e
  split at e
  · split at e
    · rename_i c hc
      subst e
      obtain ⟨b, eb, _⟩ := r
      exact (ok.cell _ b _ eb hc).2.elim
    · cases e
  · exact e
theorem d_add : OpD K cl (rAddAny K) fAdd := by
  intro w x y vx vy W Q ok rx ry p
  unfold fAdd at p
  split at p
  · rename_i i j h1 h2
    exact .inl ⟨i, j, deref_int ok rx h1, deref_int ok ry h2, p w _ (Af.refl ok) rfl rfl⟩
  · rename_i i j h1 h2
    split at p
    · rename_i hz
      exact .inr (.inl ⟨i, j, deref_str ok rx h1, deref_str ok ry h2, hz, p w _ (Af.refl ok) rfl rfl⟩)
    · exact p.elim
  · rename_i xs ys h1 h2
    split at p
    · rename_i hz
      obtain ⟨a, vs, ev, q1, q2⟩ := deref_lst ok rx h1
      obtain ⟨b, us, eu, q3, q4⟩ := deref_lst ok ry h2
      refine .inr (.inr (.inl ⟨a, b, vs, us, ev, eu, q1, q3, by rw [← Reps.length q2, ← Reps.length q4]; exact hz, fun q hq => ?_⟩))
      exact p ⟨upd w.H q (.lst (vs ++ us)), upd w.F q (.lst (vs ++ us)), w.m, w.S⟩ (.ref q) (ok.laid hq) rfl (laidLst ok hq (Reps.append q2 q4))
    · exact p.elim
  · rename_i xs ys h1 h2
    split at p
    · rename_i hz
      obtain ⟨a, vs, ev, q1, q2⟩ := deref_tup ok rx h1
      obtain ⟨b, us, eu, q3, q4⟩ := deref_tup ok ry h2
      have e1 := deref_tup_eq ok rx h1
      have e2 := deref_tup_eq ok ry h2
      refine .inr (.inr (.inr ⟨a, b, vs, us, ev, eu, q1, q3, by rw [← Reps.length q2, ← Reps.length q4]; exact hz, fun hn => ?_, fun _ hn => ?_, fun _ _ q hq => ?_⟩))
      · have : xs = [] := by
          have := Reps.length q2
          rw [hn] at this
          exact List.eq_nil_of_length_eq_zero this
        subst this
        subst eu
        exact p w (.ref b) (Af.refl ok) rfl (by rw [e2] at ry; exact ry)
      · have : ys = [] := by
          have := Reps.length q4
          rw [hn] at this
          exact List.eq_nil_of_length_eq_zero this
        subst this
        subst ev
        refine p w (.ref a) (Af.refl ok) rfl ?_
        rw [List.append_nil]
        rw [e1] at rx; exact rx
      · exact p ⟨upd w.H q (.tup (vs ++ us)), upd w.F q (.tup (vs ++ us)), w.m, w.S⟩ (.ref q) (ok.laid hq) rfl (laidTup ok hq (Reps.append q2 q4))
    · exact p.elim
  · exact p.elim
/-- two numbers -/
def fII (C : Int → Int → Bool) (g : Int → Int → Int) : D → D → Sto → Out D := fun x y S => match x, y with
  | .int i, .int j => if C i j = true then .ok (.int (g i j)) S else .bad
  | _, _ => .bad
theorem d_II {C : Int → Int → Prop} {c : Int → Int → Bool} {g : Int → Int → Int} (hc : ∀ i j, c i j = true → C i j) : OpD K cl (rI C fun i j => .int (g i j)) (fII c g) := by
  intro w x y vx vy W Q ok rx ry p
  unfold fII at p
  split at p
  · rename_i i j
    split at p
    · rename_i h
      exact ⟨i, j, rx, ry, hc i j h, p w _ (Af.refl ok) rfl rfl⟩
    · exact p.elim
  · exact p.elim
def fII0 (g : Int → Int → Int) : D → D → Sto → Out D := fun x y S => match x, y with
  | .int i, .int j => .ok (.int (g i j)) S
  | _, _ => .bad
theorem d_II0 {g : Int → Int → Int} : OpD K cl (rI0 fun i j => .int (g i j)) (fII0 g) := by
  intro w x y vx vy W Q ok rx ry p
  unfold fII0 at p
  split at p
  · rename_i i j
    exact ⟨i, j, rx, ry, p w _ (Af.refl ok) rfl rfl⟩
  · exact p.elim
def fSub := fII0 fun i j => i - j
def cMul (i j : Int) : Bool := (decide (-(2 ^ 64) < i) && decide (i < 2 ^ 64)) || (decide (-(2 ^ 64) < j) && decide (j < 2 ^ 64))
end
/-- a text times a number -/
def strMul (z : Str) (j : Int) : Str := if j < 1 then Str.empty else if (j == 1 || z.length == 0) = true then z else ⟨(List.replicate j.toNat z.cps).foldl (· ++ ·) #[]⟩
theorem rep_size (a : Array Nat) : ∀ (n : Nat) (b : Array Nat), ((List.replicate n a).foldl (· ++ ·) b).size = b.size + n * a.size
  | 0, b => by simp
  | n + 1, b => by
    rw [List.replicate_succ, List.foldl_cons, rep_size a n, Array.size_append, Nat.succ_mul]
    omega
theorem op_mulStr {X : Cx} : OpR X (binaryOp .Mult) (fun x y H Q => ∃ z j, x = .str z ∧ y = .int j ∧ (-1000 ≤ j ∧ j ≤ 1000 ∧ z.length ≤ 1000) ∧ Q (.str (strMul z j)) H) := by
  intro pins s σ H x y v u Q I rx ry h
  obtain ⟨z, j, rfl, rfl, ⟨h1, h2, h3⟩, q⟩ := h
  obtain ⟨t, rfl⟩ := rx
  obtain ⟨t', rfl⟩ := ry
  refine PySem.P.mul_str (by
      have a1 : decide (j < -(2 ^ 63 : Int)) = false := decide_eq_false (by omega)
      have a2 : decide (j ≥ 2 ^ 63) = false := decide_eq_false (by omega)
      rw [a1, a2]; rfl) (fun hn _ hh => ?_) (fun hn _ => ?_) ?_
  · have e : (2 ^ 63 - 1 : Int) / j ≥ (2 ^ 63 - 1 : Int) / 1000 := by
      have hj : 0 < j := by omega
      rw [ge_iff_le, Int.le_ediv_iff_mul_le hj]
      have : (2 ^ 63 - 1 : Int) / 1000 * j ≤ (2 ^ 63 - 1 : Int) / 1000 * 1000 := Int.mul_le_mul_of_nonneg_left h2 (by decide)
      have h4 : (2 ^ 63 - 1 : Int) / 1000 * 1000 ≤ 2 ^ 63 - 1 := by decide
      omega
    have e2 : (2 ^ 63 - 1 : Int) / 1000 ≥ 1000 := by decide
    omega
  · have : z.length * j.toNat ≤ 1000 * 1000 := Nat.mul_le_mul h3 (by omega)
    have hs : (sizeLine : Nat) = 16777216 := sizeLine_eq
    show decide (z.length * j.toNat > sizeLine) = false
    exact decide_eq_false (by omega)
  · unfold strMul at q
    by_cases c1 : j < 1
    · rw [if_pos c1] at q ⊢
      exact ⟨Nat.zero_le _, .str Str.empty, H, I.tok _, ⟨_, rfl⟩, q⟩
    · rw [if_neg c1] at q ⊢
      by_cases c2 : (j == 1 || z.length == 0) = true
      · rw [if_pos c2] at q ⊢
        exact ⟨.str z, H, I, ⟨_, rfl⟩, q⟩
      · rw [if_neg c2] at q ⊢
        have hz : (⟨(List.replicate j.toNat z.cps).foldl (· ++ ·) #[]⟩ : Str).length ≤ sizeLine := by
          show ((List.replicate j.toNat z.cps).foldl (· ++ ·) #[]).size ≤ sizeLine
          rw [rep_size]
          have h4 : z.cps.size ≤ 1000 := h3
          have : j.toNat * z.cps.size ≤ 1000 * 1000 := Nat.mul_le_mul (by omega) h4
          have hs : (sizeLine : Nat) = 16777216 := sizeLine_eq
          simp
          omega
        exact ⟨hz, .str _, H, I.tok _, ⟨_, rfl⟩, q⟩
def rMulAny : R2 := fun x y H Q => rI CMul (fun i j => .int (i * j)) x y H Q ∨ ∃ z j, x = .str z ∧ y = .int j ∧ (-1000 ≤ j ∧ j ≤ 1000 ∧ z.length ≤ 1000) ∧ Q (.str (strMul z j)) H
theorem op_mulAny {X : Cx} : OpR X (binaryOp .Mult) rMulAny := op_mul.or op_mulStr
section
variable {K : PySem.W.Frag} {cl : Cl}
/-- *: numbers, a text and a number -/
def fMul : D → D → Sto → Out D := fun x y S => match x, y with
  | .int i, .int j => if cMul i j = true then .ok (.int (i * j)) S else .bad
  | .str z, .int j => if -1000 ≤ j ∧ j ≤ 1000 ∧ z.length ≤ 1000 then .ok (.str (strMul z j)) S else .bad
  | _, _ => .bad
theorem d_mul : OpD K cl rMulAny fMul := by
  intro w x y vx vy W Q ok rx ry p
  unfold fMul at p
  split at p
  · rename_i i j
    split at p
    · rename_i h
      refine .inl ⟨i, j, rx, ry, ?_, p w _ (Af.refl ok) rfl rfl⟩
      unfold cMul at h
      unfold CMul
      simpa using h
    · exact p.elim
  · rename_i z j
    split at p
    · rename_i h
      exact .inr ⟨z, j, rx, ry, h, p w _ (Af.refl ok) rfl rfl⟩
    · exact p.elim
  · exact p.elim
def cDiv (i j : Int) : Bool := decide (0 < j) && decide (j < 1073741824)
def fDiv := fII cDiv fun i j => i / j
theorem d_div : OpD K cl (rI CDiv fun i j => .int (i / j)) fDiv := d_II fun i j h => by
  unfold cDiv at h
  unfold CDiv
  simpa using h
def fMod := fII (fun _ j => decide (0 < j)) fun i j => i % j
theorem d_mod : OpD K cl (rI (fun _ j => 0 < j) fun i j => .int (i % j)) fMod := d_II fun i j h => of_decide_eq_true h
def cPow (i j : Int) : Bool := decide (0 ≤ j) && (decide (j ≤ 1000000) && decide (i.natAbs < 2 ^ 64))
def fPow := fII cPow fun i j => i ^ j.toNat
theorem d_pow : OpD K cl (rI CPow fun i j => .int (i ^ j.toNat)) fPow := d_II fun i j h => by
  unfold cPow at h
  unfold CPow
  simpa using h
def fNeg : D → Sto → Out D := fun x S => match x with
  | .int i => .ok (.int (-i)) S
  | _ => .bad
theorem d_neg : UnD K cl (rU fun i => .int (-i)) fNeg := by
  intro w x vx W Q ok rx p
  unfold fNeg at p
  split at p
  · rename_i i
    exact ⟨i, rx, p w _ (Af.refl ok) rfl rfl⟩
  · exact p.elim

/-! ### < <= > >= -/
def strLt (a b : Str) : Bool := decide (a.cps.toList < b.cps.toList)
def fCmp (g : Int → Int → Bool) (h : Str → Str → Bool) : D → D → Sto → Out D := fun x y S => match x, y with
  | .int i, .int j => .ok (.bl (g i j)) S
  | .str i, .str j => .ok (.bl (h i j)) S
  | _, _ => .bad
def rCmp (g : Int → Int → Bool) (h : Str → Str → Bool) : R2 := fun x y H Q => (∃ i j, x = .int i ∧ y = .int j ∧ Q (.bl (g i j)) H) ∨ ∃ i j, x = .str i ∧ y = .str j ∧ Q (.bl (h i j)) H
theorem d_cmp {g : Int → Int → Bool} {h : Str → Str → Bool} : OpD K cl (rCmp g h) (fCmp g h) := by
  intro w x y vx vy W Q ok rx ry p
  unfold fCmp at p
  split at p
  · rename_i i j
    exact .inl ⟨i, j, rx, ry, p w _ (Af.refl ok) rfl rfl⟩
  · rename_i i j
    exact .inr ⟨i, j, rx, ry, p w _ (Af.refl ok) rfl rfl⟩
  · exact p.elim
end
def fLt := fCmp (fun i j => decide (i < j)) fun a b => decide (a.cps.toList < b.cps.toList)
def fLe := fCmp (fun i j => decide (i ≤ j)) fun a b => !decide (b.cps.toList < a.cps.toList)
def fGt := fCmp (fun i j => decide (j < i)) fun a b => decide (b.cps.toList < a.cps.toList)
def fGe := fCmp (fun i j => decide (j ≤ i)) fun a b => !decide (a.cps.toList < b.cps.toList)
section
variable {X : Cx}
theorem op_ltAny : OpR X (compareOp .Lt) (rCmp (fun i j => decide (i < j)) fun a b => decide (a.cps.toList < b.cps.toList)) := op_lt.or op_lt_str
theorem op_leAny : OpR X (compareOp .LtE) (rCmp (fun i j => decide (i ≤ j)) fun a b => !decide (b.cps.toList < a.cps.toList)) := op_le.or op_le_str
theorem op_gtAny : OpR X (compareOp .Gt) (rCmp (fun i j => decide (j < i)) fun a b => decide (b.cps.toList < a.cps.toList)) := op_gt.or op_gt_str
theorem op_geAny : OpR X (compareOp .GtE) (rCmp (fun i j => decide (j ≤ i)) fun a b => !decide (a.cps.toList < b.cps.toList)) := op_ge.or op_ge_str
end

/-! ### == != in, of data without dicts and objects -/
mutual
def pd : D → PyData
  | .non => .none
  | .bl b => .bool b
  | .int i => .int i
  | .str x => .str x
  | .lst xs => .list (pds xs)
  | .rol xs => .list (pds xs)
  | .tup xs => .tuple (pds xs)
  | .dic _ _ => .dict []
  | .dit _ _ => .dict []
  | .obj _ _ _ => .dict []
  | .ptr _ => .dict []
def pds : List D → List PyData
  | [] => []
  | d :: ds => pd d :: pds ds
end
section
variable {K : PySem.W.Frag} {cl : Cl} {w : Wd}
mutual
theorem dp_of (ok : w.Ok K cl) : ∀ (d : D) (v : V), (pd d).canLay0 = true → Rep K cl w.F w.m d v → Dp K w.H v (pd d)
  | .non, v, _, r => by cases (show v = .non from r); exact .non
  | .bl b, v, _, r => by cases (show v = .bl b from r); exact .bl b
  | .int i, v, _, r => by cases (show v = .int i from r); exact .int i
  | .str x, v, _, r => by cases (show v = .str x from r); exact .str x
  | .lst ds, v, h, ⟨a, xs, e, t, r⟩ => by subst e; exact .lst (.of (t.at ok)) (dps_of ok ds xs h r)
  | .rol ds, v, h, ⟨a, xs, e, t, r⟩ => by subst e; exact .lst (sq_here ok t) (dps_of ok ds xs h r)
  | .tup ds, v, h, ⟨a, xs, e, t, r⟩ => by subst e; exact .tup (t.here ok) (dps_of ok ds xs h r)
  | .dic _ _, _, h, _ => by cases h
  | .dit _ _, _, h, _ => by cases h
  | .obj _ _ _, _, h, _ => by cases h
  | .ptr _, _, h, _ => by cases h
theorem dps_of (ok : w.Ok K cl) : ∀ (ds : List D) (vs : List V), PyData.canLayAll0 (pds ds) = true → Reps K cl w.F w.m ds vs → DpAll K w.H vs (pds ds)
  | [], vs, _, r => by cases (show vs = [] from r); exact .nil
  | d :: ds, vs, h, ⟨v, us, e, r, q⟩ => by
    subst e
    have h' : (pd d).canLay0 = true ∧ PyData.canLayAll0 (pds ds) = true := by
      have z : ((pd d).canLay0 && PyData.canLayAll0 (pds ds)) = true := h
      simpa using z
    exact .cons (dp_of ok d v h'.1 r) (dps_of ok ds us h'.2 q)
end
theorem dp_deref {d : D} {v : V} (ok : w.Ok K cl) (h : SeqAt.shaped (pd (deref d w.S)) = true) (r : RV K cl w d v) : Dp K w.H v (pd (deref d w.S)) := by
  have hc := SeqAt.canLay_of_shaped h
  cases e : deref d w.S with
  | lst xs =>
    rw [e] at hc
    obtain ⟨a, vs, ev, h1, h2⟩ := deref_lst ok r e
    subst ev
    exact .lst (.of h1) (dps_of ok xs vs hc h2)
  | tup xs =>
    rw [e] at hc
    obtain ⟨a, vs, ev, h1, h2⟩ := deref_tup ok r e
    subst ev
    exact .tup h1 (dps_of ok xs vs hc h2)
  | rol xs =>
    rw [e] at hc
    obtain ⟨a, vs, ev, h1, h2⟩ := deref_rol ok r e
    subst ev
    exact .lst h1 (dps_of ok xs vs hc h2)
  | int i => cases deref_int ok r e; exact .int i
  | str i => cases deref_str ok r e; exact .str i
  | non =>
    have : d = .non := by
      unfold deref at e
      split at e
      · split at e
        · rename_i c hcc
          subst e
          obtain ⟨b, eb, _⟩ := r
          exact (ok.cell _ b _ eb hcc).2.elim
        · cases e
      · exact e
    subst this
    cases (show v = .non from r)
    exact .non
  | bl b =>
    have : d = .bl b := by
      unfold deref at e
      split at e
      · split at e
        · rename_i c hcc
          subst e
          obtain ⟨b, eb, _⟩ := r
          exact (ok.cell _ b _ eb hcc).2.elim
        · cases e
      · exact e
    subst this
    cases (show v = .bl b from r)
    exact .bl b
  | dic ks vs => rw [e] at hc; cases hc
  | dit ks vs => rw [e] at hc; cases hc
  | obj c ns vs => rw [e] at hc; cases hc
  | ptr i => rw [e] at hc; cases hc
def fEqG (neg : Bool) : D → D → Sto → Out D := fun x y S => if (SeqAt.shaped (pd (deref x S)) && SeqAt.shaped (pd (deref y S))) = true then .ok (.bl (xor neg (PyData.eqv (pd (deref x S)) (pd (deref y S))))) S else .bad
def fEq := fEqG false
def fNe := fEqG true
theorem d_eq : OpD K cl (rEqD K) fEq := by
  intro w x y vx vy W Q ok rx ry p
  unfold fEq fEqG at p
  split at p
  · rename_i h
    have h' : SeqAt.shaped (pd (deref x w.S)) = true ∧ SeqAt.shaped (pd (deref y w.S)) = true := by simpa using h
    refine ⟨_, _, dp_deref ok h'.1 rx, dp_deref ok h'.2 ry, h'.1, h'.2, ?_⟩
    have := p w _ (Af.refl ok) rfl rfl
    simpa using this
  · exact p.elim
theorem d_ne : OpD K cl (rNeD K) fNe := by
  intro w x y vx vy W Q ok rx ry p
  unfold fNe fEqG at p
  split at p
  · rename_i h
    have h' : SeqAt.shaped (pd (deref x w.S)) = true ∧ SeqAt.shaped (pd (deref y w.S)) = true := by simpa using h
    refine ⟨_, _, dp_deref ok h'.1 rx, dp_deref ok h'.2 ry, h'.1, h'.2, ?_⟩
    have := p w _ (Af.refl ok) rfl rfl
    simpa using this
  · exact p.elim
end
/-- x in a list, a tuple -/
def rInA (K : PySem.W.Frag) (neg : Bool) : R2 := fun x y H Q => ∃ d ds, Dp K H x d ∧ (Dp K H y (.list ds) ∨ Dp K H y (.tuple ds)) ∧ SeqAt.shaped d = true ∧ SeqAt.shaped (.list ds) = true ∧ Q (.bl (xor neg (ds.any fun z => PyData.eqv z d))) H
theorem roomIn {A : Around} {ds : List PyData} {d : PyData} (hd : SeqAt.shaped d = true) (hu : A.units + 65 < cLine) : A.units + 1 + min (PyData.depthAll ds) d.depth < cLine := by
  have h1 := SeqAt.depth_of_shaped hd
  have h2 : min (PyData.depthAll ds) d.depth ≤ d.depth := Nat.min_le_right _ _
  omega
theorem shaped_lt {ds : List PyData} (h : SeqAt.shaped (.list ds) = true) : SeqAt.shaped (.tuple ds) = true := h
section
variable {X : Cx}
theorem op_inA (hu : X.A.units + 65 < cLine) : OpR X (compareOp .In) (rInA X.K false) := by
  intro pins s σ H x y v u Q I rx ry h
  obtain ⟨d, ds, hd, he, sd, se, q⟩ := h
  obtain ⟨as, r1⟩ := Dp.reads I d x v hd rx
  rcases he with he | he
  · obtain ⟨bs, r2⟩ := Dp.reads I (.list ds) y u he ry
    exact SeqAt.in_list_reads r2 r1 (SeqAt.canLay_of_shaped se) (SeqAt.canLay_of_shaped sd) (roomIn (ds := ds) sd hu) ⟨.bl _, H, I, rfl, by simpa using q⟩
  · obtain ⟨bs, r2⟩ := Dp.reads I (.tuple ds) y u he ry
    exact SeqAt.in_tuple_reads r2 r1 (SeqAt.canLay_of_shaped se) (SeqAt.canLay_of_shaped sd) (roomIn (ds := ds) sd hu) ⟨.bl _, H, I, rfl, by simpa using q⟩
theorem op_notInA (hu : X.A.units + 65 < cLine) : OpR X (compareOp .NotIn) (rInA X.K true) := by
  intro pins s σ H x y v u Q I rx ry h
  obtain ⟨d, ds, hd, he, sd, se, q⟩ := h
  obtain ⟨as, r1⟩ := Dp.reads I d x v hd rx
  rcases he with he | he
  · obtain ⟨bs, r2⟩ := Dp.reads I (.list ds) y u he ry
    exact SeqAt.notIn_list_reads r2 r1 (SeqAt.canLay_of_shaped se) (SeqAt.canLay_of_shaped sd) (roomIn (ds := ds) sd hu) ⟨.bl _, H, I, rfl, by simpa using q⟩
  · obtain ⟨bs, r2⟩ := Dp.reads I (.tuple ds) y u he ry
    exact SeqAt.notIn_tuple_reads r2 r1 (SeqAt.canLay_of_shaped se) (SeqAt.canLay_of_shaped sd) (roomIn (ds := ds) sd hu) ⟨.bl _, H, I, rfl, by simpa using q⟩
end
def fInG (neg : Bool) : D → D → Sto → Out D := fun x y S => match itemsOf y S with
  | some xs => if (SeqAt.shaped (pd (deref x S)) && SeqAt.shaped (.list (pds xs))) = true then .ok (.bl (xor neg ((pds xs).any fun z => PyData.eqv z (pd (deref x S))))) S else .bad
  | none => .bad
section
variable {K : PySem.W.Frag} {cl : Cl}
theorem d_in {neg : Bool} : OpD K cl (rInA K neg) (fInG neg) := by
  intro w x y vx vy W Q ok rx ry p
  unfold fInG at p
  split at p
  · rename_i xs hx
    split at p
    · rename_i h
      have h' : SeqAt.shaped (pd (deref x w.S)) = true ∧ SeqAt.shaped (.list (pds xs)) = true := by simpa using h
      refine ⟨_, pds xs, dp_deref ok h'.1 rx, ?_, h'.1, h'.2, p w _ (Af.refl ok) rfl rfl⟩
      obtain ⟨a, vs, ev, hs, r⟩ := itemsOf_at ok ry hx
      subst ev
      have hc : PyData.canLayAll0 (pds xs) = true := SeqAt.canLay_of_shaped h'.2
      rcases hs with hs | hs
      · exact .inl (.lst hs (dps_of ok xs vs hc r))
      · exact .inr (.tup hs (dps_of ok xs vs hc r))
    · exact p.elim
  · exact p.elim
/-- is None -/
def isNonD : D → Bool
  | .non => true
  | _ => false
def fIsN (neg : Bool) : D → D → Sto → Out D := fun x y S => match y with
  | .non => .ok (.bl (xor neg (isNonD x))) S
  | _ => .bad
theorem non_iff {w : Wd} {x : D} {v : V} (r : RV K cl w x v) : decide (v = .non) = (isNonD x) := by
  cases x with
  | non => cases (show v = .non from r); rfl
  | bl b => cases (show v = .bl b from r); rfl
  | int b => cases (show v = .int b from r); rfl
  | str b => cases (show v = .str b from r); rfl
  | tup _ => obtain ⟨_, _, e, _⟩ := r; subst e; rfl
  | lst _ => obtain ⟨_, _, e, _⟩ := r; subst e; rfl
  | rol _ => obtain ⟨_, _, e, _⟩ := r; subst e; rfl
  | dic _ _ => obtain ⟨_, _, _, e, _⟩ := r; subst e; rfl
  | dit _ _ => obtain ⟨_, _, _, e, _⟩ := r; subst e; rfl
  | obj _ _ _ => obtain ⟨_, _, _, e, _⟩ := r; subst e; rfl
  | ptr _ => obtain ⟨_, _, e⟩ := r; subst e; rfl
theorem d_isN : OpD K cl (fun x y H Q => y = .non ∧ Q (.bl (decide (x = .non))) H) (fIsN false) := by
  intro w x y vx vy W Q ok rx ry p
  unfold fIsN at p
  split at p
  · refine ⟨ry, ?_⟩
    rw [non_iff rx]
    have := p w _ (Af.refl ok) rfl rfl
    simpa using this
  · exact p.elim
theorem d_notN : OpD K cl (fun x y H Q => y = .non ∧ Q (.bl (!decide (x = .non))) H) (fIsN true) := by
  intro w x y vx vy W Q ok rx ry p
  unfold fIsN at p
  split at p
  · refine ⟨ry, ?_⟩
    rw [non_iff rx]
    have := p w _ (Af.refl ok) rfl rfl
    simpa using this
  · exact p.elim
end
end Dl
set_option Elab.async false
set_option linter.all false
set_option maxRecDepth 100000
set_option maxHeartbeats 400000
/-! The data layer: calls of built-ins, methods of built-ins. -/
namespace Dl
open PySem L2

section
variable {X : Cx} {cl : Cl} {W : WX} {e o : Expr} {es : List Expr} {da : DA} {dx : DE} {x : Str} {p pos apos cpos : Pos} {id T : String} {r : List V → Hp → VK → Prop} {f : List D → Sto → Out D}
def dB (f : List D → Sto → Out D) (da : DA) : DE := fun t S => (da t S).bind f
theorem le_B (hr : CallD X.K cl r f) {σ : L2.St} {H : Hp} {Q : VK} (q : upE X.K cl W (dB f da) σ H Q) : tCB r (upA X.K cl W da) σ H Q := by
  obtain ⟨w, t, eH, ok, en, p⟩ := q
  exact ⟨w, t, eH, ok, en, OPost.bind p fun xs w1 vs a1 r1 p1 => hr w1 xs vs _ Q a1.ok r1 p1⟩
theorem u_B (hc : CallR X (.builtin id) r) (hr : CallD X.K cl r f) (hg : Gl X x) (hm : X.mg x = none) (hv : bootBuiltins x = some (.builtin id)) (ha : UA X cl W (e :: es) da) (hn : x ≠ "__name__" := by decide) (hdb : (x == ("__debug__" : Str)) = false := by decide)
    (he : starEach (e :: es) X.env = (false, eval e X.env) :: starEach es X.env := by rfl) (hpl : (backTo pos (starEach es X.env)).any (·.1) = false := by rfl) : UE X cl W (.Call (.Name x p) (e :: es) [] pos) (dB f da) :=
  weakE (pe_callB hc hg hm hv ha hn hdb he hpl) fun _ _ _ => le_B hr
theorem u_T (hc : CallR X (.type T) r) (hr : CallD X.K cl r f) (hg : Gl X x) (hm : X.mg x = none) (hv : bootBuiltins x = some (.type T)) (ha : UA X cl W (e :: es) da) (hn : x ≠ "__name__" := by decide) (hdb : (x == ("__debug__" : Str)) = false := by decide)
    (he : starEach (e :: es) X.env = (false, eval e X.env) :: starEach es X.env := by rfl) (hpl : (backTo pos (starEach es X.env)).any (·.1) = false := by rfl) : UE X cl W (.Call (.Name x p) (e :: es) [] pos) (dB f da) :=
  weakE (pe_callTy hc hg hm hv ha hn hdb he hpl) fun _ _ _ => le_B hr

/-! methods of built-ins -/
def tyD (T : String) (x : D) (S : Sto) : Bool := match deref x S with
  | .str _ => T == "str"
  | .lst _ => T == "list"
  | .rol _ => T == "list"
  | .dic _ _ => (T == "dict") && (match x with | .ptr _ => true | _ => false)
  | _ => false
theorem tyD_ok {K : PySem.W.Frag} {w : Wd} {x : D} {v : V} (ok : w.Ok K cl) (r : RV K cl w x v) (h : tyD T x w.S = true) : tyV K T v w.H := by
  unfold tyD at h
  split at h
  · rename_i z hz
    cases deref_str ok r hz
    exact eq_of_beq h
  · rename_i xs hz
    obtain ⟨a, vs, ev, h1, _⟩ := deref_lst ok r hz
    subst ev
    exact .inl ⟨eq_of_beq h, vs, .of h1⟩
  · rename_i xs hz
    obtain ⟨a, vs, ev, h1, _⟩ := deref_rol ok r hz
    subst ev
    exact .inl ⟨eq_of_beq h, vs, h1⟩
  · rename_i ks vs hz
    obtain ⟨h1, h2⟩ := Bool.and_eq_true_iff.mp h
    have hT : T = "dict" := eq_of_beq h1
    cases x with
    | ptr i =>
      cases hS : w.S[i]? with
      | none => unfold deref at hz; dsimp only at hz; rw [hS] at hz; cases hz
      | some oc =>
        cases oc with
        | none => unfold deref at hz; dsimp only at hz; rw [hS] at hz; cases hz
        | some c =>
          unfold deref at hz
          dsimp only at hz
          rw [hS] at hz
          have hz : c = .dic ks vs := hz
          subst hz
          obtain ⟨a, ea, ev⟩ := r
          obtain ⟨_, es, q, _⟩ := ok.cell i a _ ea hS
          subst ev
          exact .inr (.inr (.inl ⟨hT, .inl ⟨es, q⟩⟩))
    | _ => cases h2
  · cases h
def MtD (K : PySem.W.Frag) (cl : Cl) (r : V → List V → Hp → VK → Prop) (f : D → List D → Sto → Out D) : Prop :=
  ∀ (w : Wd) (x : D) (xs : List D) (v : V) (vs : List V) (W : Value → Option Addr → Hp → Prop) (Q : VK), w.Ok K cl → RV K cl w x v → RL K cl w xs vs → OPost K cl (RV K cl) W w Q (f x xs w.S) → r v vs w.H Q
def dBM (T : String) (f : D → List D → Sto → Out D) (dx : DE) (da : DA) : DE := fun t S => (dx t S).bind fun x S1 => if tyD T x S1 = true then (da t S1).bind fun xs S2 => f x xs S2 else .bad
variable {name : Str} {rm : V → List V → Hp → VK → Prop} {fm : D → List D → Sto → Out D}
theorem u_bm (pa : PlainAttrs T) (slot : Slot T name id) (hty : typeOf (.builtin id) = pure (.type "method_descriptor")) (hm : MtR X id rm) (hd : MtD X.K cl rm fm) (ho : UE X cl W o dx) (ha : UA X cl W (e :: es) da)
    (hbase : attributeBase o name X.env (eval o X.env) = eval o X.env := by rfl)
    (hfew : ((backTo cpos (starEach (e :: es) X.env)).all (fun x => !x.1) && (backToKw cpos (keywordEach [] X.env)).all (fun x => x.1.isSome)
      && decide ((e :: es).length + ([] : List Keyword).length + (if ([] : List Keyword).isEmpty then 0 else 1) < 30)) = true := by rfl)
    (hline : (apos.endLine == cpos.line) = true := by rfl) (hs : starEach (e :: es) X.env = (false, eval e X.env) :: starEach es X.env := by rfl) (hplain : (backTo cpos (starEach es X.env)).any (·.1) = false := by rfl) :
    UE X cl W (.Call (.Attribute o name apos) (e :: es) [] cpos) (dBM T fm dx da) := weakE (pe_bm pa slot hty hm ho ha hbase hfew hline hs hplain) fun σ H Q ⟨w, t, eH, ok, en, p⟩ => by
  refine ⟨w, t, eH, ok, en, OPost.bind p fun x w1 v a1 r1 p1 => ?_⟩
  split at p1
  · rename_i ht
    exact ⟨tyD_ok a1.ok r1 ht, w1, t, rfl, a1.ok, en.af a1, OPost.bind p1 fun xs w2 vs a2 r2 p2 => hd w2 x xs v vs _ Q a2.ok (Rep.af a2 r1) r2 p2⟩
  · exact p1.elim
theorem u_bm0 (pa : PlainAttrs T) (slot : Slot T name id) (hty : typeOf (.builtin id) = pure (.type "method_descriptor")) (hm : MtR X id rm) (hd : MtD X.K cl rm fm) (ho : UE X cl W o dx)
    (hbase : attributeBase o name X.env (eval o X.env) = eval o X.env := by rfl) (hline : (apos.endLine == cpos.line) = true := by rfl) : UE X cl W (.Call (.Attribute o name apos) [] [] cpos) (dBM T fm dx aNil) :=
  weakE (pe_bm0 pa slot hty hm ho hbase hline) fun σ H Q ⟨w, t, eH, ok, en, p⟩ => by
    refine ⟨w, t, eH, ok, en, OPost.bind p fun x w1 v a1 r1 p1 => ?_⟩
    split at p1
    · rename_i ht
      exact ⟨tyD_ok a1.ok r1 ht, hd w1 x [] v [] _ Q a1.ok r1 rfl p1⟩
    · exact p1.elim
end

/-! ### the built-ins, one by one -/
section
variable {K : PySem.W.Frag} {cl : Cl}
theorem RL.one {w : Wd} {d : D} {vs : List V} (r : RL K cl w [d] vs) : ∃ v, vs = [v] ∧ RV K cl w d v := by
  obtain ⟨v, ws, e, r1, r2⟩ := r
  have : ws = [] := r2
  subst this
  exact ⟨v, e, r1⟩
theorem RL.two {w : Wd} {d d' : D} {vs : List V} (r : RL K cl w [d, d'] vs) : ∃ v v', vs = [v, v'] ∧ RV K cl w d v ∧ RV K cl w d' v' := by
  obtain ⟨v, ws, e, r1, r2⟩ := r
  obtain ⟨v', e', r3⟩ := RL.one r2
  subst e'
  exact ⟨v, v', e, r1, r3⟩
/-- len -/
def bLen : List D → Sto → Out D := fun xs S => match xs with
  | [x] => (match deref x S with
    | .str z => if z.length ≤ sizeLine then .ok (.int z.length) S else .bad
    | .lst ys => .ok (.int ys.length) S
    | .rol ys => .ok (.int ys.length) S
    | .tup ys => .ok (.int ys.length) S
    | .dic ks _ => .ok (.int ks.length) S
    | _ => .bad)
  | _ => .bad
def rLenA (K : PySem.W.Frag) : List V → Hp → VK → Prop := fun xs H Q => (∃ x n, xs = [x] ∧ LenV K x H n ∧ Q (.int n) H) ∨ ∃ a kvs, xs = [V.ref a] ∧ Rd H a (.dK kvs) ∧ Q (.int (kvs.length : Nat)) H
theorem call_lenDR {X : Cx} : CallR X (.builtin "len") (fun xs H Q => ∃ a kvs, xs = [V.ref a] ∧ Rd H a (.dK kvs) ∧ Q (.int (kvs.length : Nat)) H) := by
  intro pins s σ H xs us Q I r h
  obtain ⟨a, kvs, rfl, ha, q⟩ := h
  obtain ⟨u, rfl, ru⟩ := vals1 r
  cases ru
  exact d_len I ha fun t s' I' => ⟨.int kvs.length, H, I', ⟨t, rfl⟩, q⟩
theorem c_len : CallD K cl (rLenA K) bLen := by
  intro w xs vs W Q ok r p
  unfold bLen at p
  split at p
  · rename_i x
    obtain ⟨v, rfl, r1⟩ := RL.one r
    split at p
    · rename_i z h
      cases deref_str ok r1 h
      split at p
      · rename_i hz
        exact .inl ⟨_, z.length, rfl, ⟨hz, rfl⟩, p w _ (Af.refl ok) rfl rfl⟩
      · exact p.elim
    · rename_i ys h
      obtain ⟨a, us, ev, h1, h2⟩ := deref_lst ok r1 h
      subst ev
      exact .inl ⟨_, us.length, rfl, .inl ⟨us, .of h1, rfl⟩, p w _ (Af.refl ok) rfl (by rw [← Reps.length h2]; rfl)⟩
    · rename_i ys h
      obtain ⟨a, us, ev, h1, h2⟩ := deref_rol ok r1 h
      subst ev
      exact .inl ⟨_, us.length, rfl, .inl ⟨us, h1, rfl⟩, p w _ (Af.refl ok) rfl (by rw [← Reps.length h2]; rfl)⟩
    · rename_i ys h
      obtain ⟨a, us, ev, h1, h2⟩ := deref_tup ok r1 h
      subst ev
      exact .inl ⟨_, us.length, rfl, .inr ⟨us, h1, rfl⟩, p w _ (Af.refl ok) rfl (by rw [← Reps.length h2]; rfl)⟩
    · rename_i ks us h
      obtain ⟨a, es, ev, h1, h2, h3⟩ := deref_dic ok r1 h
      subst ev
      refine .inr ⟨a, es, rfl, h1, p w _ (Af.refl ok) rfl ?_⟩
      have := Reps.length h2
      rw [List.length_map] at this
      rw [← this]
      rfl
    · exact p.elim
  · exact p.elim
/-- int -/
def bInt : List D → Sto → Out D := fun xs S => match xs with
  | [.int i] => .ok (.int i) S
  | [.bl b] => .ok (.int (if b then 1 else 0)) S
  | [.str z] => (match PySem.intText? z with
    | some n => if z.length ≤ 640 then .ok (.int n) S else .bad
    | none => .bad)
  | _ => .bad
def rIntA : List V → Hp → VK → Prop := fun xs H Q => ((∃ i, xs = [.int i] ∧ Q (.int i) H) ∨ ∃ k, xs = [.bl k] ∧ Q (.int (if k then 1 else 0)) H) ∨ ∃ a n, xs = [.str a] ∧ PySem.intText? a = some n ∧ a.length ≤ 640 ∧ Q (.int n) H
theorem c_int : CallD K cl rIntA bInt := by
  intro w xs vs W Q ok r p
  unfold bInt at p
  split at p
  · rename_i i
    obtain ⟨v, rfl, r1⟩ := RL.one r
    cases (show v = .int i from r1)
    exact .inl (.inl ⟨i, rfl, p w _ (Af.refl ok) rfl rfl⟩)
  · rename_i b
    obtain ⟨v, rfl, r1⟩ := RL.one r
    cases (show v = .bl b from r1)
    exact .inl (.inr ⟨b, rfl, p w _ (Af.refl ok) rfl rfl⟩)
  · rename_i z
    obtain ⟨v, rfl, r1⟩ := RL.one r
    cases (show v = .str z from r1)
    split at p
    · rename_i n hn
      split at p
      · rename_i hl
        exact .inr ⟨z, n, rfl, hn, hl, p w _ (Af.refl ok) rfl rfl⟩
      · exact p.elim
    · exact p.elim
  · exact p.elim
theorem call_intA {X : Cx} : CallR X (.type "int") rIntA := call_int1.or call_int_str
/-- str of a number -/
def bStr : List D → Sto → Out D := fun xs S => match xs with
  | [.int i] => if i.natAbs.log2 < 1920 then .ok (.str (toString i)) S else .bad
  | _ => .bad
theorem c_str : CallD K cl (fun xs H Q => ∃ i, xs = [.int i] ∧ i.natAbs.log2 < 1920 ∧ Q (.str (toString i)) H) bStr := by
  intro w xs vs W Q ok r p
  unfold bStr at p
  split at p
  · rename_i i
    obtain ⟨v, rfl, r1⟩ := RL.one r
    cases (show v = .int i from r1)
    split at p
    · rename_i hl
      exact ⟨i, rfl, hl, p w _ (Af.refl ok) rfl rfl⟩
    · exact p.elim
  · exact p.elim
/-- list(..) of a list, a tuple, a dict's keys -/
def bList : List D → Sto → Out D := fun xs S => match xs with
  | [x] => (match deref x S with
    | .lst ys => .ok (.lst ys) S
    | .rol ys => .ok (.lst ys) S
    | .tup ys => .ok (.lst ys) S
    | .dic ks _ => .ok (.lst ks) S
    | _ => .bad)
  | _ => .bad
def rListA (K : PySem.W.Frag) : List V → Hp → VK → Prop := fun xs H Q => (∃ p ys, xs = [.ref p] ∧ (SqL K H p ys ∨ SqT K H p ys) ∧ ∀ l, H l = none → Q (.ref l) (upd H l (.lst ys))) ∨
  ∃ (a : Addr) (kvs : List (Key × V)), xs = [.ref a] ∧ Rd H a (.dK kvs) ∧ ∀ p, H p = none → Q (.ref p) (upd H p (.lst (kvs.map fun kv => kV kv.1)))
theorem call_listA {X : Cx} (hc : X.calm = true) : CallR X (.type "list") (rListA X.K) := call_list_of.or (call_listD hc)
theorem c_list : CallD K cl (rListA K) bList := by
  intro w xs vs W Q ok r p
  unfold bList at p
  split at p
  · rename_i x
    obtain ⟨v, rfl, r1⟩ := RL.one r
    split at p
    · rename_i ys h
      obtain ⟨a, us, ev, h1, h2⟩ := deref_lst ok r1 h
      subst ev
      exact .inl ⟨a, us, rfl, .inl (.of h1), fun l hl => p ⟨upd w.H l (.lst us), upd w.F l (.lst us), w.m, w.S⟩ (.ref l) (ok.laid hl) rfl (laidLst ok hl h2)⟩
    · rename_i ys h
      obtain ⟨a, us, ev, h1, h2⟩ := deref_rol ok r1 h
      subst ev
      exact .inl ⟨a, us, rfl, .inl h1, fun l hl => p ⟨upd w.H l (.lst us), upd w.F l (.lst us), w.m, w.S⟩ (.ref l) (ok.laid hl) rfl (laidLst ok hl h2)⟩
    · rename_i ys h
      obtain ⟨a, us, ev, h1, h2⟩ := deref_tup ok r1 h
      subst ev
      exact .inl ⟨a, us, rfl, .inr h1, fun l hl => p ⟨upd w.H l (.lst us), upd w.F l (.lst us), w.m, w.S⟩ (.ref l) (ok.laid hl) rfl (laidLst ok hl h2)⟩
    · rename_i ks us h
      obtain ⟨a, es, ev, h1, h2, h3⟩ := deref_dic ok r1 h
      subst ev
      exact .inr ⟨a, es, rfl, h1, fun l hl => p ⟨upd w.H l (.lst _), upd w.F l (.lst _), w.m, w.S⟩ (.ref l) (ok.laid hl) rfl (laidLst ok hl h2)⟩
    · exact p.elim
  · exact p.elim
/-- tuple(..) of a list, a tuple -/
def bTuple : List D → Sto → Out D := fun xs S => match xs with
  | [x] => (match deref x S with
    | .lst ys => .ok (.tup ys) S
    | .rol ys => .ok (.tup ys) S
    | .tup ys => .ok (.tup ys) S
    | _ => .bad)
  | _ => .bad
theorem c_tuple : CallD K cl (fun xs H Q => ∃ p ys, xs = [.ref p] ∧ ((SqL K H p ys ∧ ∀ l, H l = none → Q (.ref l) (upd H l (.tup ys))) ∨ (SqT K H p ys ∧ Q (.ref p) H))) bTuple := by
  intro w xs vs W Q ok r p
  unfold bTuple at p
  split at p
  · rename_i x
    obtain ⟨v, rfl, r1⟩ := RL.one r
    split at p
    · rename_i ys h
      obtain ⟨a, us, ev, h1, h2⟩ := deref_lst ok r1 h
      subst ev
      exact ⟨a, us, rfl, .inl ⟨.of h1, fun l hl => p ⟨upd w.H l (.tup us), upd w.F l (.tup us), w.m, w.S⟩ (.ref l) (ok.laid hl) rfl (laidTup ok hl h2)⟩⟩
    · rename_i ys h
      obtain ⟨a, us, ev, h1, h2⟩ := deref_rol ok r1 h
      subst ev
      exact ⟨a, us, rfl, .inl ⟨h1, fun l hl => p ⟨upd w.H l (.tup us), upd w.F l (.tup us), w.m, w.S⟩ (.ref l) (ok.laid hl) rfl (laidTup ok hl h2)⟩⟩
    · rename_i ys h
      obtain ⟨a, us, ev, h1, h2⟩ := deref_tup ok r1 h
      have e1 := deref_tup_eq ok r1 h
      subst ev
      exact ⟨a, us, rfl, .inr ⟨h1, p w _ (Af.refl ok) rfl (by rw [← e1]; exact r1)⟩⟩
    · exact p.elim
  · exact p.elim
/-- all, any of a list of bools -/
def boolsOf : List D → Option (List Bool)
  | [] => some []
  | .bl b :: r => (boolsOf r).map (b :: ·)
  | _ :: _ => none
theorem boolsOf_rep {w : Wd} : ∀ {xs : List D} {vs : List V} {bs : List Bool}, RL K cl w xs vs → boolsOf xs = some bs → vs = bs.map V.bl
  | [], vs, bs, r, h => by
    cases h
    exact r
  | d :: ds, vs, bs, ⟨v, us, e, r, q⟩, h => by
    cases d with
    | bl b =>
      unfold boolsOf at h
      cases hb : boolsOf ds with
      | none => rw [hb] at h; cases h
      | some cs =>
        rw [hb] at h
        cases h
        cases (show v = .bl b from r)
        rw [e, boolsOf_rep q hb]
        rfl
    | _ => cases h
def bAllAny (g : List Bool → Bool) : List D → Sto → Out D := fun xs S => match xs with
  | [x] => (match seqOf x S with
    | some ys => (match boolsOf ys with
      | some bs => .ok (.bl (g bs)) S
      | none => .bad)
    | none => .bad)
  | _ => .bad
def bAll := bAllAny fun bs => bs.all id
def bAny := bAllAny fun bs => bs.any id
theorem c_allAny {g : List Bool → Bool} : CallD K cl (fun vs H Q => ∃ (a : Addr) (bs : List Bool), vs = [V.ref a] ∧ SqL K H a (bs.map V.bl) ∧ Q (.bl (g bs)) H) (bAllAny g) := by
  intro w xs vs W Q ok r p
  unfold bAllAny at p
  split at p
  · rename_i x
    obtain ⟨v, rfl, r1⟩ := RL.one r
    split at p
    · rename_i ys h
      split at p
      · rename_i bs hb
        obtain ⟨a, us, ev, h1, h2⟩ := seqOf_at ok r1 h
        subst ev
        rw [boolsOf_rep h2 hb] at h1
        exact ⟨a, bs, rfl, h1, p w _ (Af.refl ok) rfl rfl⟩
      · exact p.elim
    · exact p.elim
  · exact p.elim
theorem c_all : CallD K cl (rAll K) bAll := c_allAny
theorem c_any : CallD K cl (rAny K) bAny := c_allAny
/-- max, min of two numbers -/
def bMax2 : List D → Sto → Out D := fun xs S => match xs with
  | [.int i, .int j] => .ok (.int (if j > i then j else i)) S
  | _ => .bad
def bMin2 : List D → Sto → Out D := fun xs S => match xs with
  | [.int i, .int j] => .ok (.int (if j < i then j else i)) S
  | _ => .bad
theorem c_max2 : CallD K cl (fun xs H Q => ∃ i j, xs = [.int i, .int j] ∧ Q (.int (if j > i then j else i)) H) bMax2 := by
  intro w xs vs W Q ok r p
  unfold bMax2 at p
  split at p
  · rename_i i j
    obtain ⟨v, v', rfl, r1, r2⟩ := RL.two r
    exact ⟨i, j, by rw [show v = .int i from r1, show v' = .int j from r2], p w _ (Af.refl ok) rfl rfl⟩
  · exact p.elim
theorem c_min2 : CallD K cl (fun xs H Q => ∃ i j, xs = [.int i, .int j] ∧ Q (.int (if j < i then j else i)) H) bMin2 := by
  intro w xs vs W Q ok r p
  unfold bMin2 at p
  split at p
  · rename_i i j
    obtain ⟨v, v', rfl, r1, r2⟩ := RL.two r
    exact ⟨i, j, by rw [show v = .int i from r1, show v' = .int j from r2], p w _ (Af.refl ok) rfl rfl⟩
  · exact p.elim

/-! ### methods of lists -/
def mAppend : D → List D → Sto → Out D := fun x xs S => match x, xs with
  | .ptr i, [y] => (match S[i]? with
    | some (some (.lst ys)) => if ys.length < sizeLine then .ok .non (S.set i (some (.lst (ys ++ [y])))) else .bad
    | _ => .bad)
  | _, _ => .bad
theorem m_append : MtD K cl rAppend mAppend := by
  intro w x xs v vs W Q ok rx rs p
  unfold mAppend at p
  split at p
  · rename_i i y
    split at p
    · rename_i ys hi
      split at p
      · rename_i hl
        obtain ⟨u, rfl, r1⟩ := RL.one rs
        obtain ⟨a, ea, ev⟩ := rx
        obtain ⟨_, us, c1, c2⟩ := ok.cell i a _ ea hi
        refine ⟨a, us, u, ev, rfl, c1, by rw [← Reps.length c2]; exact hl, ?_⟩
        exact p ⟨upd w.H a (.lst (us ++ [u])), w.F, w.m, _⟩ .non (ok.cellSet (d := .lst (ys ++ [y])) ea hi ⟨_, upd_same, Reps.append c2 (Reps.one r1)⟩) rfl rfl
      · exact p.elim
    · exact p.elim
  · exact p.elim
def mExtend : D → List D → Sto → Out D := fun x xs S => match x, xs with
  | .ptr i, [y] => (match S[i]?, deref y S with
    | some (some (.lst ys)), .lst zs => if ys.length + zs.length ≤ sizeLine then .ok .non (S.set i (some (.lst (ys ++ zs)))) else .bad
    | _, _ => .bad)
  | _, _ => .bad
theorem m_extend : MtD K cl rExtend mExtend := by
  intro w x xs v vs W Q ok rx rs p
  unfold mExtend at p
  split at p
  · rename_i i y
    split at p
    · rename_i ys zs hi hy
      split at p
      · rename_i hl
        obtain ⟨u, rfl, r1⟩ := RL.one rs
        obtain ⟨a, ea, ev⟩ := rx
        obtain ⟨_, us, c1, c2⟩ := ok.cell i a _ ea hi
        obtain ⟨b, ws, eb, h1, h2⟩ := deref_lst ok r1 hy
        subst eb
        refine ⟨a, b, us, ws, ev, rfl, c1, h1, by rw [← Reps.length c2, ← Reps.length h2]; exact hl, ?_⟩
        exact p ⟨upd w.H a (.lst (us ++ ws)), w.F, w.m, _⟩ .non (ok.cellSet (d := .lst (ys ++ zs)) ea hi ⟨_, upd_same, Reps.append c2 h2⟩) rfl rfl
      · exact p.elim
    · exact p.elim
  · exact p.elim
def mPop : D → List D → Sto → Out D := fun x xs S => match x, xs with
  | .ptr i, [] => (match S[i]? with
    | some (some (.lst ys)) => (match ys[ys.length - 1]? with
      | some y => .ok y (S.set i (some (.lst ys.dropLast)))
      | none => .bad)
    | _ => .bad)
  | _, _ => .bad
theorem Reps.dropLast {F : Hp} {m : List Addr} {ys : List D} {us : List V} (r : Reps K cl F m ys us) : Reps K cl F m ys.dropLast us.dropLast := by
  rw [List.dropLast_eq_take, List.dropLast_eq_take, r.length]
  exact r.take _
theorem m_pop : MtD K cl rPop mPop := by
  intro w x xs v vs W Q ok rx rs p
  unfold mPop at p
  split at p
  · rename_i i
    split at p
    · rename_i ys hi
      split at p
      · rename_i y hy
        have : vs = [] := rs
        subst this
        obtain ⟨a, ea, ev⟩ := rx
        obtain ⟨_, us, c1, c2⟩ := ok.cell i a _ ea hi
        obtain ⟨u, hu, ru⟩ := c2.get hy
        refine ⟨a, us, u, ev, rfl, c1, by rw [← Reps.length c2]; exact hu, ?_⟩
        exact p ⟨upd w.H a (.lst us.dropLast), w.F, w.m, _⟩ u (ok.cellSet (d := .lst ys.dropLast) ea hi ⟨_, upd_same, Reps.dropLast c2⟩) rfl ru
      · exact p.elim
    · exact p.elim
  · exact p.elim

/-! ### methods of texts -/
def strsOf : List D → Option (List Str)
  | [] => some []
  | .str z :: r => (strsOf r).map (z :: ·)
  | _ :: _ => none
theorem strsOf_rep {w : Wd} : ∀ {xs : List D} {vs : List V} {zs : List Str}, RL K cl w xs vs → strsOf xs = some zs → vs = zs.map V.str
  | [], vs, zs, r, h => by
    cases h
    exact r
  | d :: ds, vs, zs, ⟨v, us, e, r, q⟩, h => by
    cases d with
    | str z =>
      unfold strsOf at h
      cases hb : strsOf ds with
      | none => rw [hb] at h; cases h
      | some cs =>
        rw [hb] at h
        cases h
        cases (show v = .str z from r)
        rw [e, strsOf_rep q hb]
        rfl
    | _ => cases h
theorem strs_rep {F : Hp} {m : List Addr} : ∀ zs : List Str, Reps K cl F m (zs.map D.str) (zs.map V.str)
  | [] => rfl
  | z :: zs => ⟨_, _, rfl, rfl, strs_rep zs⟩
def mJoin : D → List D → Sto → Out D := fun x xs S => match x, xs with
  | .str a, [y] => (match itemsOf y S with
    | some ys => (match strsOf ys with
      | some zs => if (zs.map (·.length)).sum + zs.length * a.length ≤ 16777216 then .ok (.str (Txt.join a zs)) S else .bad
      | none => .bad)
    | none => .bad)
  | _, _ => .bad
theorem m_join : MtD K cl (fun x xs H Q => ∃ a p, ∃ ys : List Str, x = .str a ∧ xs = [.ref p] ∧ (SqL K H p (ys.map V.str) ∨ SqT K H p (ys.map V.str)) ∧
    (ys.map (·.length)).sum + ys.length * a.length ≤ 16777216 ∧ Q (.str (Txt.join a ys)) H) mJoin := by
  intro w x xs v vs W Q ok rx rs p
  unfold mJoin at p
  split at p
  · rename_i a y
    obtain ⟨u, rfl, r1⟩ := RL.one rs
    split at p
    · rename_i ys hy
      split at p
      · rename_i zs hz
        split at p
        · rename_i hl
          obtain ⟨b, us, eb, h1, h2⟩ := itemsOf_at ok r1 hy
          subst eb
          rw [strsOf_rep h2 hz] at h1
          exact ⟨a, b, zs, rx, rfl, h1, hl, p w _ (Af.refl ok) rfl rfl⟩
        · exact p.elim
      · exact p.elim
    · exact p.elim
  · exact p.elim
def mSplit : D → List D → Sto → Out D := fun x xs S => match x, xs with
  | .str a, [.str b] => if (b.length == 0) = false ∧ a.length + 2 ≤ sizeLine then .ok (.lst ((Txt.split a b).map D.str)) S else .bad
  | _, _ => .bad
theorem m_split : MtD K cl (fun x xs H Q => ∃ a b, x = .str a ∧ xs = [.str b] ∧ (b.length == 0) = false ∧ a.length + 2 ≤ sizeLine ∧ rNewStrs (Txt.split a b) H Q) mSplit := by
  intro w x xs v vs W Q ok rx rs p
  unfold mSplit at p
  split at p
  · rename_i a b
    obtain ⟨u, rfl, r1⟩ := RL.one rs
    split at p
    · rename_i h
      exact ⟨a, b, rx, by rw [show u = .str b from r1], h.1, h.2, fun l hl => p ⟨upd w.H l _, upd w.F l _, w.m, w.S⟩ (.ref l) (ok.laid hl) rfl (laidLst ok hl (strs_rep _))⟩
    · exact p.elim
  · exact p.elim
def mStrip : D → List D → Sto → Out D := fun x xs S => match x, xs with
  | .str a, [.str b] => if a.length ≤ sizeLine then .ok (.str (Txt.stripChars a b)) S else .bad
  | _, _ => .bad
theorem m_strip : MtD K cl (fun x xs H Q => ∃ a b, x = .str a ∧ xs = [.str b] ∧ a.length ≤ sizeLine ∧ Q (.str (Txt.stripChars a b)) H) mStrip := by
  intro w x xs v vs W Q ok rx rs p
  unfold mStrip at p
  split at p
  · rename_i a b
    obtain ⟨u, rfl, r1⟩ := RL.one rs
    split at p
    · rename_i h
      exact ⟨a, b, rx, by rw [show u = .str b from r1], h, p w _ (Af.refl ok) rfl rfl⟩
    · exact p.elim
  · exact p.elim
end
end Dl
set_option Elab.async false
set_option linter.all false
set_option maxRecDepth 100000
set_option maxHeartbeats 400000
/-! The data layer: list comprehensions, enumerate, zip, stars. -/
namespace Dl
open PySem L2

section
variable {X : Cx} {cl : Cl} {W : WX} {e o : Expr} {es : List Expr} {da : DA} {dx : DE} {p pos apos cpos tpos : Pos}
/-! ### the block of a comprehension -/
/-- no exception leaves -/
abbrev W0 : WX := fun _ _ _ _ => False
def wipeD (vs : List Nat) (t : Lc) : Lc := vs.foldr (fun i t => t.set i none) t
theorem EnvR.wipe {K : PySem.W.Frag} {w : Wd} {t : Lc} {σ : L2.St} (en : EnvR K cl w t σ) : ∀ vs : List Nat, EnvR K cl w (wipeD vs t) (L2.wipe σ vs)
  | [] => en
  | v :: vs => (EnvR.wipe en vs).unset
/-- a test or none -/
abbrev UTs (X : Cx) (cl : Cl) (ifs : List Expr) (db : DB) : Prop := PTs X ifs (upB X.K cl W0 db)
def bYes : DB := fun _ S => .ok true S
theorem ts_nil : UTs X cl [] bYes := ⟨fun pins s σ H Q I ⟨w, t, eH, ok, en, p⟩ => (pts_nil (X := X)).run pins s σ H Q I (eH ▸ p w true (Af.refl ok) rfl rfl)⟩
theorem ts_one {c : Expr} {db : DB} (h : UB X cl W0 c db) : UTs X cl [c] db := pts_one h
/-- the list that is made -/
structure Growing (K : PySem.W.Frag) (cl : Cl) (w0 w : Wd) (D : Addr) (acc : List Dl.D) : Prop where
  af : Af K cl w0 w
  nf : w.F D = none
  nl : ¬ Live w D
  at_ : ∃ vs, w.H D = some (.lst vs) ∧ Reps K cl w.F w.m acc vs
theorem Growing.step {K : PySem.W.Frag} {w0 w w1 : Wd} {D : Addr} {acc : List Dl.D} (g : Growing K cl w0 w D acc) (x : Af K cl w w1) : Growing K cl w0 w1 D acc := by
  obtain ⟨vs, e, r⟩ := g.at_
  refine ⟨g.af.trans x, ?_, fun l => ?_, vs, x.keep _ _ e g.nl, Reps.af x r⟩
  · cases q : w1.F D with
    | none => rfl
    | some o =>
      rcases x.new D o q with z | z | z
      · rw [g.nf] at z; cases z
      · rw [e] at z; cases z
      · exact (g.nl z).elim
  · rcases x.liv D l with z | z
    · exact g.nl z
    · rw [e] at z; cases z
/-- an object that nobody knows yet is written -/
theorem Af.blind {K : PySem.W.Frag} {w0 w : Wd} {p : Addr} {o u : HO} (x : Af K cl w0 w) (h0 : w0.H p = none) (nf : w.F p = none) (nl : ¬ Live w p) : Af K cl w0 ⟨upd w.H p u, w.F, w.m, w.S⟩ where
  ok := ⟨x.ok.len, fun a y h => by
      have n : a ≠ p := ne_of_none h nf
      show upd w.H p u a = _
      rw [upd_ne n]; exact x.ok.sub a y h,
    fun i a d h1 h2 => by
      obtain ⟨c1, c2⟩ := x.ok.cell i a d h1 h2
      have n : a ≠ p := fun e => nl ⟨i, d, e ▸ h1, h2⟩
      exact ⟨c1, c2.of (upd_ne n) (fun _ _ h => h) fun _ _ h => h⟩, x.ok.inj⟩
  fz := x.fz
  mu := x.mu
  keep := fun a y h n => by
    show upd w.H p u a = _
    rw [upd_ne (ne_of_none h h0)]
    exact x.keep a y h n
  new := x.new
  liv := x.liv
/-- .. and is known from now on -/
theorem Af.known {K : PySem.W.Frag} {w0 w : Wd} {p : Addr} {u : HO} (x : Af K cl w0 w) (h0 : w0.H p = none) (nf : w.F p = none) (nl : ¬ Live w p) (hp : w.H p = some u) : Af K cl w0 ⟨w.H, upd w.F p u, w.m, w.S⟩ where
  ok := ⟨x.ok.len, fun a y h => by
      by_cases n : a = p
      · subst n
        have h' : upd w.F a u a = some y := h
        rw [upd_same] at h'
        exact hp.trans h'
      · have h' : upd w.F p u a = some y := h
        rw [upd_ne n] at h'
        exact x.ok.sub a y h',
    fun i a d h1 h2 => by
      obtain ⟨c1, c2⟩ := x.ok.cell i a d h1 h2
      have n : a ≠ p := fun e => nl ⟨i, d, e ▸ h1, h2⟩
      exact ⟨by show upd w.F p u a = _; rw [upd_ne n]; exact c1, c2.of rfl (fun b y hb => by show upd w.F p u b = _; rw [upd_ne (ne_of_none hb nf)]; exact hb) fun _ _ h => h⟩, x.ok.inj⟩
  fz := fun a o h => by show upd w.F p u a = _; rw [upd_ne (ne_of_none (x.fz a o h) nf)]; exact x.fz a o h
  mu := x.mu
  keep := x.keep
  new := fun a y h => by
    by_cases n : a = p
    · subst n; exact .inr (.inl h0)
    · have h' : upd w.F p u a = some y := h
      rw [upd_ne n] at h'
      exact x.new a y h'
  liv := x.liv
/-- .. and is a changeable thing from now on -/
theorem Af.celled {K : PySem.W.Frag} {w0 w : Wd} {p : Addr} {d : Dl.D} (x : Af K cl w0 w) (h0 : w0.H p = none) (nf : w.F p = none) (nl : ¬ Live w p) (hp : CellAt K cl w.H w.F w.m p d) : Af K cl w0 ⟨w.H, w.F, w.m ++ [p], w.S ++ [some d]⟩ where
  ok := ⟨by show (w.m ++ [p]).length = (w.S ++ [some d]).length; rw [List.length_append, List.length_append, x.ok.len]; rfl, x.ok.sub,
    fun i a e h1 h2 => by
      have q1 : (w.m ++ [p])[i]? = some a := h1
      have q2 : (w.S ++ [some d])[i]? = some (some e) := h2
      by_cases hi : i < w.m.length
      · rw [List.getElem?_append_left hi] at q1
        rw [List.getElem?_append_left (by rw [← x.ok.len]; exact hi)] at q2
        obtain ⟨c1, c2⟩ := x.ok.cell i a e q1 q2
        exact ⟨c1, c2.of rfl (fun _ _ h => h) fun j b hb => pre_get hb⟩
      · rw [List.getElem?_append_right (by omega)] at q1
        rw [List.getElem?_append_right (by rw [← x.ok.len]; omega)] at q2
        rw [← x.ok.len] at q2
        cases hz : i - w.m.length with
        | zero =>
          rw [hz] at q1 q2
          simp at q1 q2
          subst q1; subst q2
          exact ⟨nf, hp.of rfl (fun _ _ h => h) fun j b hb => pre_get hb⟩
        | succ k => rw [hz] at q1; simp at q1,
    fun i j a e e' h1 h2 h3 h4 => by
      have q1 : (w.m ++ [p])[i]? = some a := h1
      have q2 : (w.m ++ [p])[j]? = some a := h2
      have q3 : (w.S ++ [some d])[i]? = some (some e) := h3
      have q4 : (w.S ++ [some d])[j]? = some (some e') := h4
      have old : ∀ k (e : Dl.D), k < w.m.length → (w.m ++ [p])[k]? = some a → (w.S ++ [some d])[k]? = some (some e) → w.m[k]? = some a ∧ w.S[k]? = some (some e) ∧ a ≠ p := fun k e hk r1 r2 => by
        rw [List.getElem?_append_left hk] at r1
        rw [List.getElem?_append_left (by rw [← x.ok.len]; exact hk)] at r2
        exact ⟨r1, r2, fun z => nl ⟨k, e, z ▸ r1, r2⟩⟩
      have nw : ∀ k, ¬ k < w.m.length → (w.m ++ [p])[k]? = some a → k = w.m.length ∧ a = p := fun k hk r1 => by
        rw [List.getElem?_append_right (by omega)] at r1
        cases hz : k - w.m.length with
        | zero => rw [hz] at r1; simp at r1; exact ⟨by omega, r1.symm⟩
        | succ n => rw [hz] at r1; simp at r1
      by_cases hi : i < w.m.length <;> by_cases hj : j < w.m.length
      · exact x.ok.inj i j a e e' (old i e hi q1 q3).1 (old j e' hj q2 q4).1 (old i e hi q1 q3).2.1 (old j e' hj q2 q4).2.1
      · exact absurd (nw j hj q2).2 (old i e hi q1 q3).2.2
      · exact absurd (nw i hi q1).2 (old j e' hj q2 q4).2.2
      · rw [(nw i hi q1).1, (nw j hj q2).1]⟩
  fz := x.fz
  mu := fun i a h => pre_get (x.mu i a h)
  keep := x.keep
  new := x.new
  liv := fun a ⟨i, e, h1, h2⟩ => by
    have q1 : (w.m ++ [p])[i]? = some a := h1
    have q2 : (w.S ++ [some d])[i]? = some (some e) := h2
    by_cases hi : i < w.m.length
    · rw [List.getElem?_append_left hi] at q1
      rw [List.getElem?_append_left (by rw [← x.ok.len]; exact hi)] at q2
      exact x.liv a ⟨i, e, q1, q2⟩
    · rw [List.getElem?_append_right (by omega)] at q1
      cases hz : i - w.m.length with
      | zero => rw [hz] at q1; simp at q1; rw [← q1]; exact .inr h0
      | succ n => rw [hz] at q1; simp at q1

/-! ### list comprehensions -/
/-- an exception within: not served -/
def Out.calm {α : Type} (o : Out α) : Out α := match o with
  | .exc _ _ _ _ => .bad
  | o => o
theorem OPost.bindTo {α β γ δ : Type} {K : PySem.W.Frag} {R : Wd → α → β → Prop} {R' : Wd → γ → δ → Prop} {W W' : Value → Option Addr → Hp → Prop} {w0 w : Wd} {Q : β → Hp → Prop} {P : δ → Hp → Prop} {o : Out γ} {k : γ → Sto → Out α}
    (p : OPost K cl R W w0 Q (o.calm.bind k)) (h : ∀ a w1 b, Af K cl w w1 → R' w1 a b → OPost K cl R W w0 Q (k a w1.S) → P b w1.H) : OPost K cl R' W' w P o := by
  cases o with
  | ok a S =>
    intro w1 b x e r
    refine h a w1 b x r ?_
    rw [e]
    exact p
  | exc c ns vs S => exact p.elim
  | bad => exact p.elim
def lcLoop (g : Tg) (dt : DB) (de : DE) (t : Lc) : List Dl.D → List Dl.D → Sto → Out (List Dl.D)
  | [], acc, S => .ok acc S
  | d :: r, acc, S => match g.set d t with
    | none => .bad
    | some t1 => (dt t1 S).calm.bind fun b S1 => if b = true then (de t1 S1).calm.bind fun y S2 => if acc.length < sizeLine then lcLoop g dt de t r (acc ++ [y]) S2 else .bad else lcLoop g dt de t r acc S1
def dLcG (vs : List Nat) (g : Tg) (di : DA) (dt : DB) (de : DE) : DA := fun t S => (di t S).bind fun xs S1 => lcLoop g dt de (wipeD vs t) xs [] S1
/-- a list that changes no more; one that is still to change -/
def dLc (vs : List Nat) (g : Tg) (di : DA) (dt : DB) (de : DE) : DE := fun t S => (di t S).bind fun xs S1 => (lcLoop g dt de (wipeD vs t) xs [] S1).bind fun ys S2 => .ok (.lst ys) S2
def dLcC (vs : List Nat) (g : Tg) (di : DA) (dt : DB) (de : DE) : DE := fun t S => (di t S).bind fun xs S1 => (lcLoop g dt de (wipeD vs t) xs [] S1).bind fun ys S2 => .ok (.ptr S2.length) (S2 ++ [some (.lst ys)])
theorem lc_run {K : PySem.W.Frag} {vs : List Nat} {g : Tg} {dt : DB} {de : DE} {σ : L2.St} {w : Wd} {t : Lc} {xs : List Dl.D} {J : It} {Q : VK} {fin : List Dl.D → Sto → Out Dl.D} {W' : Value → Option Addr → Hp → Prop} {Dd : Addr} (hsl : ∀ i ∈ g.slots, i ∈ vs)
    (ok : w.Ok K cl) (en : EnvR K cl w t σ) (hJ : Wk K cl w xs J) (hD : w.H Dd = none) (p : OPost K cl (RV K cl) W' w Q ((lcLoop g dt de (wipeD vs t) xs [] w.S).bind fin))
    (done : ∀ (ys : List Dl.D) (w2 : Wd), Growing K cl w w2 Dd ys → OPost K cl (RV K cl) W' w Q (fin ys w2.S) → Q (.ref Dd) w2.H) :
    ∃ Wi : Nat → Nat → Hp → Prop, (∃ m, Wi 0 m (upd w.H Dd (.lst []))) ∧ ∀ i m H, Wi i m H →
      (J.stop i H ∧ Q (.ref Dd) H) ∨ (J.go i H ∧ ∃ Nx : Hp → Prop, (∀ H', Nx H' → ∃ m', m' < m ∧ Wi (i + 1) m' H') ∧ ∀ x H', J.yld i H x H' → tgT K g x (L2.wipe σ vs) H' fun σ2 H2 => L2.wipe σ2 vs = L2.wipe σ vs ∧ upB K cl W0 dt σ2 H2 fun b H3 =>
        if b = true then upE K cl W0 de σ2 H3 fun y H4 => ∃ acc, H4 Dd = some (.lst acc) ∧ acc.length < sizeLine ∧ Nx (upd H4 Dd (.lst (acc ++ [y]))) else Nx H3) := by
  have a0 := ok.untold (u := .lst []) hD
  have nl0 : ¬ Live w Dd := fun ⟨i, d, h1, h2⟩ => by
    obtain ⟨x, hx⟩ := (ok.cell i Dd d h1 h2).2.there
    rw [hD] at hx; cases hx
  refine ⟨fun i m H => ∃ w2 acc, w2.H = H ∧ Growing K cl w w2 Dd acc ∧ m = xs.length - i ∧ i ≤ xs.length ∧ OPost K cl (RV K cl) W' w Q ((lcLoop g dt de (wipeD vs t) (xs.drop i) acc w2.S).bind fin),
    ⟨_, ⟨upd w.H Dd (.lst []), w.F, w.m, w.S⟩, [], rfl, ⟨a0, ok.free hD, nl0, [], upd_same, rfl⟩, rfl, Nat.zero_le _, p⟩, ?_⟩
  rintro i m H ⟨w2, acc, rfl, gr, rfl, hi, p2⟩
  by_cases hl : i < xs.length
  · obtain ⟨go, yl⟩ := (hJ w2 gr.af i).1 _ (List.getElem?_eq_getElem hl)
    rw [List.drop_eq_getElem_cons hl] at p2
    refine .inr ⟨go, fun H' => ∃ w6 acc', w6.H = H' ∧ Growing K cl w w6 Dd acc' ∧ OPost K cl (RV K cl) W' w Q ((lcLoop g dt de (wipeD vs t) (xs.drop (i + 1)) acc' w6.S).bind fin),
      fun H' ⟨w6, acc', e6, g6, p6⟩ => ⟨xs.length - (i + 1), by omega, w6, acc', e6, g6, rfl, hl, p6⟩, fun v H' hy => ?_⟩
    obtain ⟨w3, rfl, a3, e3, rv⟩ := yl v H' hy
    have p2' : OPost K cl (RV K cl) W' w Q ((match g.set xs[i] (wipeD vs t) with
      | none => .bad
      | some t1 => (dt t1 w2.S).calm.bind fun b S1 => if b = true then (de t1 S1).calm.bind fun y S2 => if acc.length < sizeLine then lcLoop g dt de (wipeD vs t) (xs.drop (i + 1)) (acc ++ [y]) S2 else .bad else lcLoop g dt de (wipeD vs t) (xs.drop (i + 1)) acc S1 : Out (List Dl.D)).bind fin) := p2
    have g3 := gr.step a3
    split at p2'
    · exact p2'.elim
    · rename_i t1 et
      refine Tg.ok a3.ok (((en.af gr.af).af a3).wipe vs) rv et fun σ' en' hw => ⟨?_, ?_⟩
      · rw [hw vs hsl, wipe_wipe (fun i h => h)]
      rw [← e3] at p2'
      have asc : ∀ {α β γ : Type} (o : Out α) (f : α → Sto → Out β) (h : β → Sto → Out γ), (o.bind f).bind h = o.bind fun a S => (f a S).bind h := fun o f h => by cases o <;> rfl
      rw [asc] at p2'
      refine ⟨w3, t1, rfl, a3.ok, en', OPost.bindTo p2' fun b w4 b' a4 eb p4 => ?_⟩
      cases (show b = b' from eb)
      cases b with
      | false => exact ⟨w4, acc, rfl, g3.step a4, p4⟩
      | true =>
        rw [if_pos rfl] at p4 ⊢
        rw [asc] at p4
        refine ⟨w4, t1, rfl, a4.ok, en'.af a4, OPost.bindTo p4 fun y w5 vy a5 ry p5 => ?_⟩
        have g5 := (g3.step a4).step a5
        obtain ⟨us, eu, ru⟩ := g5.at_
        split at p5
        · rename_i hsz
          refine ⟨us, eu, by rw [← ru.length]; exact hsz, ⟨upd w5.H Dd (.lst (us ++ [vy])), w5.F, w5.m, w5.S⟩, acc ++ [y], rfl, ⟨Af.blind g5.af hD g5.nf g5.nl (o := .lst []), g5.nf, g5.nl, _, upd_same, ru.append (Reps.one ry)⟩, p5⟩
        · exact p5.elim
  · have e : i = xs.length := by omega
    subst e
    rw [List.drop_length] at p2
    exact .inl ⟨(hJ w2 gr.af _).2 (Nat.le_refl _), done acc w2 gr p2⟩
variable {dt : DB} {de : DE} {di : DA} {g : Tg} {elt tg iter : Expr} {ifs : List Expr} {scope : Scope} {own : List (Str × Nat)}
theorem le_lc {K : PySem.W.Frag} {vs : List Nat} {σ : L2.St} {H : Hp} {Q : VK} (hsl : ∀ i ∈ g.slots, i ∈ vs) (q : upE K cl W (dLc vs g di dt de) σ H Q) : tLc (upI K cl W di) (tgT K g) (upB K cl W0 dt) (upE K cl W0 de) vs σ H Q := by
  obtain ⟨w, t, eH, ok, en, p⟩ := q
  refine ⟨w, t, eH, ok, en, OPost.bind p fun xs w1 J a1 hJ p1 => fun Dd hD => ?_⟩
  refine lc_run hsl a1.ok (en.af a1) hJ hD p1 fun ys w2 gr p2 => ?_
  obtain ⟨us, eu, ru⟩ := gr.at_
  have z := Af.known gr.af hD gr.nf gr.nl eu
  exact p2 ⟨w2.H, upd w2.F Dd (.lst us), w2.m, w2.S⟩ (.ref Dd) z rfl ⟨Dd, us, rfl, upd_same, Reps.mono (fun b y hb => by show upd w2.F Dd _ b = _; rw [upd_ne (ne_of_none hb gr.nf)]; exact hb) (fun _ _ h => h) _ _ ru⟩
theorem le_lcC {K : PySem.W.Frag} {vs : List Nat} {σ : L2.St} {H : Hp} {Q : VK} (hsl : ∀ i ∈ g.slots, i ∈ vs) (q : upE K cl W (dLcC vs g di dt de) σ H Q) : tLc (upI K cl W di) (tgT K g) (upB K cl W0 dt) (upE K cl W0 de) vs σ H Q := by
  obtain ⟨w, t, eH, ok, en, p⟩ := q
  refine ⟨w, t, eH, ok, en, OPost.bind p fun xs w1 J a1 hJ p1 => fun Dd hD => ?_⟩
  refine lc_run hsl a1.ok (en.af a1) hJ hD p1 fun ys w2 gr p2 => ?_
  obtain ⟨us, eu, ru⟩ := gr.at_
  have z := Af.celled (d := .lst ys) gr.af hD gr.nf gr.nl ⟨us, eu, ru⟩
  exact p2 ⟨w2.H, w2.F, w2.m ++ [Dd], w2.S ++ [some (Dl.D.lst ys)]⟩ (.ref Dd) z rfl ⟨Dd, snoc_get gr.af.ok.len.symm, rfl⟩
variable (vs : List Nat)
theorem u_lc (hv : own.map (·.2) = vs) (hsl : ∀ i ∈ g.slots, i ∈ vs) (hc : X.calm = true) (hN : X.N.Nodup) (hi : UI X cl W tg iter di) (ok : BlkOk X.N X.env.scope scope own)
    (hg : ∀ (s : Shared) (H : Hp) (C : Addr) (cls : List (Str × Addr)) (fp : List Addr), PG (X.blk s H scope (compEnvC scope cls C X.env) fp) tg (tgT X.K g)) (ht : ∀ (s : Shared) (H : Hp) (C : Addr) (cls : List (Str × Addr)) (fp : List Addr), UTs (X.blk s H scope (compEnvC scope cls C X.env) fp) cl ifs dt)
    (he : ∀ (s : Shared) (H : Hp) (C : Addr) (cls : List (Str × Addr)) (fp : List Addr), UE (X.blk s H scope (compEnvC scope cls C X.env) fp) cl W0 elt de) (hs : ∀ x, foldedSetIterable iter X.env x = pure x := by intro _; rfl) :
    UE X cl W (.ListComp elt [⟨tg, iter, ifs, 0⟩] scope pos) (dLc vs g di dt de) := weakE (pe_lc hc hN hi ok hg ht he hs) fun σ H Q q => by
  rw [hv]
  exact le_lc hsl q
theorem u_lcC (hv : own.map (·.2) = vs) (hsl : ∀ i ∈ g.slots, i ∈ vs) (hc : X.calm = true) (hN : X.N.Nodup) (hi : UI X cl W tg iter di) (ok : BlkOk X.N X.env.scope scope own)
    (hg : ∀ (s : Shared) (H : Hp) (C : Addr) (cls : List (Str × Addr)) (fp : List Addr), PG (X.blk s H scope (compEnvC scope cls C X.env) fp) tg (tgT X.K g)) (ht : ∀ (s : Shared) (H : Hp) (C : Addr) (cls : List (Str × Addr)) (fp : List Addr), UTs (X.blk s H scope (compEnvC scope cls C X.env) fp) cl ifs dt)
    (he : ∀ (s : Shared) (H : Hp) (C : Addr) (cls : List (Str × Addr)) (fp : List Addr), UE (X.blk s H scope (compEnvC scope cls C X.env) fp) cl W0 elt de) (hs : ∀ x, foldedSetIterable iter X.env x = pure x := by intro _; rfl) :
    UE X cl W (.ListComp elt [⟨tg, iter, ifs, 0⟩] scope pos) (dLcC vs g di dt de) := weakE (pe_lc hc hN hi ok hg ht he hs) fun σ H Q q => by
  rw [hv]
  exact le_lcC hsl q
/-- y = [..] on one line, y a local -/
theorem s_setLc {i : Nat} {y : Str} {py spos : Pos} (hv : own.map (·.2) = vs) (hsl : ∀ i ∈ g.slots, i ∈ vs) (hc : X.calm = true) (hN : X.N.Nodup) (hy : X.N[i]? = some y) (hyl : X.env.scope.names.lookup y = some .local)
    (hsw : swapsWith (.ListComp elt [⟨tg, iter, ifs, 0⟩] scope pos) (some (.Name y py)) spos.line X.env = pure true) (hi : UI X cl W tg iter di) (ok : BlkOk X.N X.env.scope scope own)
    (hg : ∀ (s : Shared) (H : Hp) (C : Addr) (cls : List (Str × Addr)) (fp : List Addr), PG (X.blk s H scope (compEnvC scope cls C X.env) fp) tg (tgT X.K g)) (ht : ∀ (s : Shared) (H : Hp) (C : Addr) (cls : List (Str × Addr)) (fp : List Addr), UTs (X.blk s H scope (compEnvC scope cls C X.env) fp) cl ifs dt)
    (he : ∀ (s : Shared) (H : Hp) (C : Addr) (cls : List (Str × Addr)) (fp : List Addr), UE (X.blk s H scope (compEnvC scope cls C X.env) fp) cl W0 elt de) (hs : ∀ x, foldedSetIterable iter X.env x = pure x := by intro _; rfl) :
    US X cl W (.Assign [.Name y py] (.ListComp elt [⟨tg, iter, ifs, 0⟩] scope pos) spos) (dSet i (dLc vs g di dt de)) := weakS (ps_setLc hc hN hy hyl hsw hi ok hg ht he hs) fun N σ H ⟨w, t, eH, hok, en, p⟩ => by
  rw [hv]
  exact le_lc hsl ⟨w, t, eH, hok, en, SPost.ofE p en fun d w1 v a1 rv en1 p1 => p1 w1 _ (Af.refl a1.ok) rfl (en1.set rv)⟩
theorem s_setLcC {i : Nat} {y : Str} {py spos : Pos} (hv : own.map (·.2) = vs) (hsl : ∀ i ∈ g.slots, i ∈ vs) (hc : X.calm = true) (hN : X.N.Nodup) (hy : X.N[i]? = some y) (hyl : X.env.scope.names.lookup y = some .local)
    (hsw : swapsWith (.ListComp elt [⟨tg, iter, ifs, 0⟩] scope pos) (some (.Name y py)) spos.line X.env = pure true) (hi : UI X cl W tg iter di) (ok : BlkOk X.N X.env.scope scope own)
    (hg : ∀ (s : Shared) (H : Hp) (C : Addr) (cls : List (Str × Addr)) (fp : List Addr), PG (X.blk s H scope (compEnvC scope cls C X.env) fp) tg (tgT X.K g)) (ht : ∀ (s : Shared) (H : Hp) (C : Addr) (cls : List (Str × Addr)) (fp : List Addr), UTs (X.blk s H scope (compEnvC scope cls C X.env) fp) cl ifs dt)
    (he : ∀ (s : Shared) (H : Hp) (C : Addr) (cls : List (Str × Addr)) (fp : List Addr), UE (X.blk s H scope (compEnvC scope cls C X.env) fp) cl W0 elt de) (hs : ∀ x, foldedSetIterable iter X.env x = pure x := by intro _; rfl) :
    US X cl W (.Assign [.Name y py] (.ListComp elt [⟨tg, iter, ifs, 0⟩] scope pos) spos) (dSet i (dLcC vs g di dt de)) := weakS (ps_setLc hc hN hy hyl hsw hi ok hg ht he hs) fun N σ H ⟨w, t, eH, hok, en, p⟩ => by
  rw [hv]
  exact le_lcC hsl ⟨w, t, eH, hok, en, SPost.ofE p en fun d w1 v a1 rv en1 p1 => p1 w1 _ (Af.refl a1.ok) rfl (en1.set rv)⟩
end

/-! ### enumerate, zip -/
section
variable {X : Cx} {cl : Cl} {W : WX} {e e2 : Expr} {de db : DE} {p pos tpos : Pos} {elts : List Expr} {kk : Nat}
def enumFrom' (i : Nat) : List D → List D
  | [] => []
  | d :: r => .tup [.int i, d] :: enumFrom' (i + 1) r
theorem enum_get : ∀ (xs : List D) (n i : Nat) {d : D}, (enumFrom' n xs)[i]? = some d → ∃ x, xs[i]? = some x ∧ d = .tup [.int (n + i : Nat), x]
  | [], n, i, d, h => by simp [enumFrom'] at h
  | x :: xs, n, 0, d, h => by
    simp [enumFrom'] at h
    exact ⟨x, rfl, by rw [← h]; rfl⟩
  | x :: xs, n, i + 1, d, h => by
    obtain ⟨y, h1, h2⟩ := enum_get xs (n + 1) i (by simpa [enumFrom'] using h)
    exact ⟨y, by simpa using h1, by rw [h2]; congr 3; omega⟩
theorem enum_len : ∀ (xs : List D) (n : Nat), (enumFrom' n xs).length = xs.length
  | [], _ => rfl
  | x :: xs, n => by rw [enumFrom', List.length_cons, List.length_cons, enum_len xs]
def iEn (de : DE) : DA := fun t S => (de t S).bind fun d S1 => match d with
  | .lst xs => .ok (enumFrom' 0 xs) S1
  | .rol xs => .ok (enumFrom' 0 xs) S1
  | _ => .bad
theorem rol_of {K : PySem.W.Frag} {w : Wd} {d : D} {v : V} {xs : List D} (ok : w.Ok K cl) (r : RV K cl w d v) (h : d = .lst xs ∨ d = .rol xs) : ∃ a vs, v = .ref a ∧ (∀ w1, Af K cl w w1 → SqL K w1.H a vs) ∧ RL K cl w xs vs := by
  rcases h with h | h
  · subst h
    obtain ⟨a, vs, ev, hl, rr⟩ := r
    exact ⟨a, vs, ev, fun w1 x => LL.here x.ok (hl.mono x.fz), rr⟩
  · subst h
    obtain ⟨a, vs, ev, hl, rr⟩ := r
    exact ⟨a, vs, ev, fun w1 x => sq_here x.ok (sqL_mono x.fz hl), rr⟩
theorem tup_laid {K : PySem.W.Frag} {w1 : Wd} {T : Addr} {ds : List D} {vs : List V} (ok : w1.Ok K cl) (hT : w1.H T = none) (r : RL K cl w1 ds vs) : ∃ w2 : Wd, w2.H = upd w1.H T (.tup vs) ∧ Af K cl w1 w2 ∧ w2.S = w1.S ∧ RV K cl w2 (.tup ds) (.ref T) :=
  ⟨⟨upd w1.H T (.tup vs), upd w1.F T (.tup vs), w1.m, w1.S⟩, rfl, ok.laid hT, rfl, laidTup ok hT r⟩
theorem i_enum (hg : Gl X "enumerate") (hm : X.mg "enumerate" = none) (h : UE X cl W e de) (hs : starEach [e] X.env = [(false, eval e X.env)] := by rfl) : UI X cl W (.Tuple elts kk tpos) (.Call (.Name "enumerate" p) [e] [] pos) (iEn de) := weakI (pi_enum hg hm (pa_cons h pa_nil hs) hs) fun σ H R ⟨w, t, eH, ok, en, p⟩ => by
  refine ⟨w, t, eH, ok, en, OPost.bind p fun d w1 v a1 r1 p1 => ?_⟩
  have go : ∀ xs, (d = .lst xs ∨ d = .rol xs) → OPost X.K cl (Wk X.K cl) (fun c d H' => W c d σ H') w1 R (.ok (enumFrom' 0 xs) w1.S) → ∃ a xs, [v] = [.ref a] ∧ SqL X.K w1.H a xs ∧ R (Ite X.K a) w1.H := fun xs hd p2 => by
    obtain ⟨a, vs, ev, hl, rr⟩ := rol_of a1.ok r1 hd
    subst ev
    refine ⟨a, vs, rfl, hl w1 (Af.refl a1.ok), p2 w1 _ (Af.refl a1.ok) rfl fun w2 x i => ⟨fun z hz => ?_, fun hi => ⟨vs, hl w2 x, by rw [enum_len] at hi; rw [← Reps.length rr]; exact hi⟩⟩⟩
    obtain ⟨y, hy, ez⟩ := enum_get xs 0 i hz
    obtain ⟨u, hu, ru⟩ := rr.get hy
    refine ⟨⟨vs, u, hl w2 x, hu⟩, fun v' H' ⟨T, y', e1, hT, e2, hall⟩ => ?_⟩
    have := hall vs (hl w2 x)
    rw [hu] at this
    cases this
    obtain ⟨w3, q1, q2, q3, q4⟩ := tup_laid (ds := [.int (i : Nat), y]) x.ok hT (Reps.cons (show Rep X.K cl w2.F w2.m (.int (i : Nat)) (.int (i : Nat)) from rfl) (Reps.one (Rep.af x ru)))
    refine ⟨w3, q1.trans e2.symm, q2, q3, ?_⟩
    rw [e1, ez, Nat.zero_add]
    exact q4
  split at p1
  · rename_i xs
    exact go xs (.inl rfl) p1
  · rename_i xs
    exact go xs (.inr rfl) p1
  · exact p1.elim
def zipD : List D → List D → List D
  | x :: xs, y :: ys => .tup [x, y] :: zipD xs ys
  | _, _ => []
theorem zip_get : ∀ (xs ys : List D) (i : Nat) {d : D}, (zipD xs ys)[i]? = some d → ∃ x y, xs[i]? = some x ∧ ys[i]? = some y ∧ d = .tup [x, y]
  | [], ys, i, d, h => by simp [zipD] at h
  | x :: xs, [], i, d, h => by simp [zipD] at h
  | x :: xs, y :: ys, 0, d, h => by
    simp [zipD] at h
    exact ⟨x, y, rfl, rfl, h.symm⟩
  | x :: xs, y :: ys, i + 1, d, h => by
    obtain ⟨a, b, h1, h2, h3⟩ := zip_get xs ys i (by simpa [zipD] using h)
    exact ⟨a, b, by simpa using h1, by simpa using h2, h3⟩
theorem zip_len : ∀ (xs ys : List D), (zipD xs ys).length = min xs.length ys.length
  | [], ys => by simp [zipD]
  | x :: xs, [] => by simp [zipD]
  | x :: xs, y :: ys => by rw [zipD, List.length_cons, zip_len xs ys, List.length_cons, List.length_cons]; omega
def iZp (da db : DE) : DA := fun t S => (da t S).bind fun x S1 => (db t S1).bind fun y S2 => match x, y with
  | .lst xs, .lst ys => .ok (zipD xs ys) S2
  | .tup xs, .tup ys => .ok (zipD xs ys) S2
  | _, _ => .bad
theorem i_zip (hg : Gl X "zip") (hm : X.mg "zip" = none) (h : UE X cl W e de) (h' : UE X cl W e2 db) (hs : starEach [e, e2] X.env = (false, eval e X.env) :: starEach [e2] X.env := by rfl) (hs2 : starEach [e2] X.env = (false, eval e2 X.env) :: starEach [] X.env := by rfl) (hpl : (backTo pos (starEach [e2] X.env)).any (·.1) = false := by rfl) :
    UI X cl W (.Tuple elts kk tpos) (.Call (.Name "zip" p) [e, e2] [] pos) (iZp de db) := weakI (RZ.pi_zipA hg hm (pa_cons h (pa_cons h' pa_nil hs2) hs) hs hpl) fun σ H R ⟨w, t, eH, ok, en, p⟩ => by
  refine ⟨w, t, eH, ok, en, OPost.bind p fun x w1 v a1 r1 p1 => ?_⟩
  refine ⟨w1, t, rfl, a1.ok, en.af a1, OPost.bind p1 fun y w2 v2 a2 r2 p2 => ?_⟩
  split at p2
  · rename_i xs ys
    obtain ⟨a, vs, ev, hl, rr⟩ := rol_of a2.ok (Rep.af a2 r1) (.inl rfl)
    obtain ⟨b, us, eu, hl', rr'⟩ := rol_of a2.ok r2 (.inl rfl)
    subst ev
    subst eu
    refine ⟨a, b, vs, us, rfl, .inl ⟨hl w2 (Af.refl a2.ok), hl' w2 (Af.refl a2.ok), p2 w2 _ (Af.refl a2.ok) rfl fun w3 z i => ⟨fun d hd => ?_, fun hi => ⟨vs, us, hl w3 z, hl' w3 z, ?_⟩⟩⟩⟩
    · obtain ⟨x', y', hx, hy, ed⟩ := zip_get xs ys i hd
      obtain ⟨u, hu, ru⟩ := rr.get hx
      obtain ⟨u', hu', ru'⟩ := rr'.get hy
      refine ⟨⟨vs, us, u, u', hl w3 z, hl' w3 z, hu, hu'⟩, fun v' H' ⟨T, c, d', e1, hT, e2, all1, all2⟩ => ?_⟩
      have q1 := all1 vs (hl w3 z)
      have q2 := all2 us (hl' w3 z)
      rw [hu] at q1
      rw [hu'] at q2
      cases q1
      cases q2
      obtain ⟨w4, z1, z2, z3, z4⟩ := tup_laid (ds := [x', y']) z.ok hT (Reps.cons (Rep.af z ru) (Reps.one (Rep.af z ru')))
      exact ⟨w4, z1.trans e2.symm, z2, z3, by rw [e1, ed]; exact z4⟩
    · rw [zip_len] at hi
      rw [← Reps.length rr, ← Reps.length rr']
      omega
  · rename_i xs ys
    obtain ⟨a, vs, ev, hl, rr⟩ := Rep.af a2 r1
    obtain ⟨b, us, eu, hl', rr'⟩ := r2
    subst ev
    subst eu
    have l1 : ∀ w3, Af X.K cl w2 w3 → SqT X.K w3.H a vs := fun w3 z => TL.here z.ok (hl.mono z.fz)
    have l2 : ∀ w3, Af X.K cl w2 w3 → SqT X.K w3.H b us := fun w3 z => TL.here z.ok (hl'.mono z.fz)
    refine ⟨a, b, vs, us, rfl, .inr ⟨l1 w2 (Af.refl a2.ok), l2 w2 (Af.refl a2.ok), p2 w2 _ (Af.refl a2.ok) rfl fun w3 z i => ⟨fun d hd => ?_, fun hi => ⟨vs, us, l1 w3 z, l2 w3 z, ?_⟩⟩⟩⟩
    · obtain ⟨x', y', hx, hy, ed⟩ := zip_get xs ys i hd
      obtain ⟨u, hu, ru⟩ := Reps.get rr hx
      obtain ⟨u', hu', ru'⟩ := Reps.get rr' hy
      refine ⟨⟨vs, us, u, u', l1 w3 z, l2 w3 z, hu, hu'⟩, fun v' H' ⟨T, c, d', e1, hT, e2, all1, all2⟩ => ?_⟩
      have q1 := all1 vs (l1 w3 z)
      have q2 := all2 us (l2 w3 z)
      rw [hu] at q1
      rw [hu'] at q2
      cases q1
      cases q2
      obtain ⟨w4, z1, z2, z3, z4⟩ := tup_laid (ds := [x', y']) z.ok hT (Reps.cons (Rep.af z ru) (Reps.one (Rep.af z ru')))
      exact ⟨w4, z1.trans e2.symm, z2, z3, by rw [e1, ed]; exact z4⟩
    · rw [zip_len] at hi
      rw [← Reps.length rr, ← Reps.length rr']
      omega
  · exact p2.elim

/-! ### stars -/
variable {es : List Expr} {dr : DA} {sp : Pos}
def aStar (de : DE) (dr : DA) : DA := fun t S => (de t S).bind fun x S1 => match itemsOf x S1 with
  | some xs => (dr t S1).bind fun ys S2 => .ok (xs ++ ys) S2
  | none => .bad
theorem a_star (he : UE X cl W e de) (hr : UA X cl W es dr) (hs : starEach (.Starred e sp :: es) X.env = (true, eval e X.env) :: starEach es X.env := by rfl) : UA X cl W (.Starred e sp :: es) (aStar de dr) := weakA (StX.pa_star he hr hs) fun σ H Q ⟨w, t, eH, ok, en, p⟩ => by
  refine ⟨w, t, eH, ok, en, OPost.bind p fun x w1 v a1 r1 p1 => ?_⟩
  split at p1
  · rename_i xs hx
    obtain ⟨a, vs, ev, hs, rr⟩ := itemsOf_at a1.ok r1 hx
    refine ⟨a, vs, ev, hs.symm, w1, t, rfl, a1.ok, en.af a1, OPost.bind p1 fun ys w2 us a2 r2 p2 => ?_⟩
    exact p2 w2 _ (Af.refl a2.ok) rfl (Reps.append (Reps.af a2 rr) r2)
  · exact p1.elim
end
end Dl
set_option Elab.async false
set_option linter.all false
set_option maxRecDepth 100000
set_option maxHeartbeats 400000
/-! The data layer: dicts with int and text keys. -/
namespace Dl
open PySem L2

def keyD : D → Option Key
  | .int i => some (.inl i)
  | .str x => some (.inr x)
  | _ => none
def dicGet : List D → List D → Key → Option D
  | k :: ks, v :: vs, q => if keyD k = some q then some v else dicGet ks vs q
  | _, _, _ => none
def dicHas : List D → Key → Bool
  | k :: ks, q => decide (keyD k = some q) || dicHas ks q
  | [], _ => false
def dicSub : List D → List D → Key → D → List D
  | k :: ks, v :: vs, q, d => (if keyD k = some q then d else v) :: dicSub ks vs q d
  | _, _, _, _ => []
def dicPut (ks vs : List D) (q : Key) (kd d : D) : List D × List D := if dicHas ks q = true then (ks, dicSub ks vs q d) else (ks ++ [kd], vs ++ [d])
def dicDrop : List D → List D → Key → List D × List D
  | k :: ks, v :: vs, q => if keyD k = some q then dicDrop ks vs q else ((k :: (dicDrop ks vs q).1), (v :: (dicDrop ks vs q).2))
  | _, _, _ => ([], [])
section
variable {K : PySem.W.Frag} {cl : Cl} {F : Hp} {m : List Addr}
theorem keyD_rep {d : D} {v : V} {q : Key} (r : Rep K cl F m d v) (h : keyD d = some q) : v = kV q := by
  cases d with
  | int i => cases h; exact r
  | str x => cases h; exact r
  | _ => cases h
theorem rep_kV {d : D} {q : Key} (r : Rep K cl F m d (kV q)) : keyD d = some q := by
  cases d with
  | int i =>
    have e : kV q = .int i := r
    cases q with
    | inl j => cases e; rfl
    | inr y => cases e
  | str x =>
    have e : kV q = .str x := r
    cases q with
    | inl j => cases e
    | inr y => cases e; rfl
  | non => cases q <;> cases (show _ = V.non from r)
  | bl b => cases q <;> cases (show _ = V.bl b from r)
  | tup _ => obtain ⟨_, _, e, _⟩ := r; cases q <;> cases e
  | lst _ => obtain ⟨_, _, e, _⟩ := r; cases q <;> cases e
  | rol _ => obtain ⟨_, _, e, _⟩ := r; cases q <;> cases e
  | dic _ _ => obtain ⟨_, _, _, e, _⟩ := r; cases q <;> cases e
  | dit _ _ => obtain ⟨_, _, _, e, _⟩ := r; cases q <;> cases e
  | obj _ _ _ => obtain ⟨_, _, _, e, _⟩ := r; cases q <;> cases e
  | ptr _ => obtain ⟨_, _, e⟩ := r; cases q <;> cases e
theorem dicGet_rep : ∀ {es : List (Key × V)} {ks vs : List D} {q : Key}, Reps K cl F m ks (es.map fun e => kV e.1) → Reps K cl F m vs (es.map (·.2)) → match dicGet ks vs q with
    | some d => ∃ v, valV es q = some v ∧ Rep K cl F m d v
    | none => valV es q = none
  | [], ks, vs, q, rk, rv => by
    cases ks with
    | nil => exact rfl
    | cons k ks => obtain ⟨_, _, h, _⟩ := rk; simp at h
  | e :: es, ks, vs, q, rk, rv => by
    cases ks with
    | nil => exact absurd (show _ = [] from rk) (by simp)
    | cons k ks =>
      cases vs with
      | nil => exact absurd (show _ = [] from rv) (by simp)
      | cons d vs =>
        obtain ⟨k', kr, h1, h2, h3⟩ := rk
        obtain ⟨v', vr, g1, g2, g3⟩ := rv
        simp only [List.map_cons, List.cons.injEq] at h1 g1
        obtain ⟨h1a, h1b⟩ := h1
        obtain ⟨g1a, g1b⟩ := g1
        subst h1a h1b g1a g1b
        have hk := rep_kV h2
        unfold dicGet
        by_cases hq : e.1 = q
        · rw [if_pos (by rw [hk, hq])]
          exact ⟨e.2, valV_pos hq, g2⟩
        · rw [if_neg (fun z => hq (Option.some.inj (hk.symm.trans z)))]
          rw [valV_neg hq]
          exact dicGet_rep h3 g3
theorem dicHas_rep {q : Key} : ∀ {es : List (Key × V)} {ks : List D}, Reps K cl F m ks (es.map fun e => kV e.1) → dicHas ks q = es.any fun kv => decide (kv.1 = q)
  | [], ks, rk => by
    cases ks with
    | nil => rfl
    | cons k ks => obtain ⟨_, _, h, _⟩ := rk; simp at h
  | e :: es, ks, rk => by
    cases ks with
    | nil => exact absurd (show _ = [] from rk) (by simp)
    | cons k ks =>
      obtain ⟨k', kr, h1, h2, h3⟩ := rk
      simp only [List.map_cons, List.cons.injEq] at h1
      obtain ⟨h1a, h1b⟩ := h1
      subst h1a h1b
      have hk := rep_kV h2
      unfold dicHas
      rw [hk, List.any_cons, dicHas_rep h3]
      simp
theorem dicSub_rep {d : D} {q : Key} {v : V} (hd : Rep K cl F m d v) : ∀ {es : List (Key × V)} {ks vs : List D}, Reps K cl F m ks (es.map fun e => kV e.1) → Reps K cl F m vs (es.map (·.2)) →
    Reps K cl F m (dicSub ks vs q d) ((es.map fun kv => if kv.1 = q then (kv.1, v) else kv).map (·.2))
  | [], ks, vs, rk, rv => by
    cases ks with
    | nil => exact rfl
    | cons k ks => obtain ⟨_, _, h, _⟩ := rk; simp at h
  | e :: es, ks, vs, rk, rv => by
    cases ks with
    | nil => exact absurd (show _ = [] from rk) (by simp)
    | cons k ks =>
      cases vs with
      | nil => exact absurd (show _ = [] from rv) (by simp)
      | cons d' vs =>
        obtain ⟨k', kr, h1, h2, h3⟩ := rk
        obtain ⟨v', vr, g1, g2, g3⟩ := rv
        simp only [List.map_cons, List.cons.injEq] at h1 g1
        obtain ⟨h1a, h1b⟩ := h1
        obtain ⟨g1a, g1b⟩ := g1
        subst h1a h1b g1a g1b
        have hk := rep_kV h2
        have ih := dicSub_rep (q := q) hd h3 g3
        unfold dicSub
        by_cases hq : e.1 = q
        · rw [if_pos (by rw [hk, hq]), List.map_cons, if_pos hq]
          exact ⟨_, _, rfl, hd, ih⟩
        · rw [if_neg (fun z => hq (Option.some.inj (hk.symm.trans z))), List.map_cons, if_neg hq]
          exact ⟨_, _, rfl, g2, ih⟩
theorem put_keys (es : List (Key × V)) (q : Key) (v : V) : ((es.map fun kv => if kv.1 = q then (kv.1, v) else kv).map fun e => kV e.1) = es.map fun e => kV e.1 := by
  rw [List.map_map]
  apply List.map_congr_left
  intro e _
  show kV (if e.1 = q then (e.1, v) else e).1 = kV e.1
  split <;> rfl
theorem dicPut_rep {kd d : D} {q : Key} {v : V} {es : List (Key × V)} {ks vs : List D} (hkd : Rep K cl F m kd (kV q)) (hd : Rep K cl F m d v) (rk : Reps K cl F m ks (es.map fun e => kV e.1)) (rv : Reps K cl F m vs (es.map (·.2))) :
    Reps K cl F m (dicPut ks vs q kd d).1 ((putK es q v).map fun e => kV e.1) ∧ Reps K cl F m (dicPut ks vs q kd d).2 ((putK es q v).map (·.2)) := by
  unfold dicPut putK
  rw [← dicHas_rep (q := q) rk]
  by_cases c : dicHas ks q = true
  · rw [if_pos c, if_pos c]
    exact ⟨by rw [put_keys]; exact rk, dicSub_rep hd rk rv⟩
  · rw [if_neg c, if_neg c, List.map_append, List.map_append]
    exact ⟨rk.append (Reps.one hkd), rv.append (Reps.one hd)⟩
theorem dicDrop_rep {q : Key} : ∀ {es : List (Key × V)} {ks vs : List D}, Reps K cl F m ks (es.map fun e => kV e.1) → Reps K cl F m vs (es.map (·.2)) →
    Reps K cl F m (dicDrop ks vs q).1 ((dropK es q).map fun e => kV e.1) ∧ Reps K cl F m (dicDrop ks vs q).2 ((dropK es q).map (·.2))
  | [], ks, vs, rk, rv => by
    cases ks with
    | nil =>
      cases vs with
      | nil => exact ⟨rfl, rfl⟩
      | cons _ _ => obtain ⟨_, _, h, _⟩ := rv; simp at h
    | cons k ks => obtain ⟨_, _, h, _⟩ := rk; simp at h
  | e :: es, ks, vs, rk, rv => by
    cases ks with
    | nil => exact absurd (show _ = [] from rk) (by simp)
    | cons k ks =>
      cases vs with
      | nil => exact absurd (show _ = [] from rv) (by simp)
      | cons d' vs =>
        obtain ⟨k', kr, h1, h2, h3⟩ := rk
        obtain ⟨v', vr, g1, g2, g3⟩ := rv
        simp only [List.map_cons, List.cons.injEq] at h1 g1
        obtain ⟨h1a, h1b⟩ := h1
        obtain ⟨g1a, g1b⟩ := g1
        subst h1a h1b g1a g1b
        have hk := rep_kV h2
        unfold dicDrop
        obtain ⟨i1, i2⟩ := dicDrop_rep (q := q) h3 g3
        by_cases hq : e.1 = q
        · rw [if_pos (by rw [hk, hq])]
          have z : dropK (e :: es) q = dropK es q := by simp [dropK, hq]
          rw [z]
          exact ⟨i1, i2⟩
        · rw [if_neg (fun z => hq (Option.some.inj (hk.symm.trans z)))]
          have z : dropK (e :: es) q = e :: dropK es q := by simp [dropK, hq]
          rw [z]
          exact ⟨⟨_, _, rfl, h2, i1⟩, ⟨_, _, rfl, g2, i2⟩⟩
end
end Dl
set_option Elab.async false
set_option linter.all false
set_option maxRecDepth 100000
set_option maxHeartbeats 400000
/-! The data layer: dicts read, written, made, walked. -/
namespace Dl
open PySem PyProof.Rows L2

/-! ### d[k], xs[i] -/
def rIxDy : R2 := fun x y H Q => ∃ a v, x = .ref a ∧ DGet H a y (some v) ∧ Q v H
theorem dget_type {X : Cx} {pins : List (Addr × Obj)} {σ : L2.St} {H : Hp} {s : Shared} {a : Addr} {y : V} {o : Option V} (I : Inv X pins σ H s) (g : DGet H a y o) : s.TypeIs (.ref a) "dict" := by
  rcases g with ⟨kvs, _, e, _, _⟩ | ⟨kvs, _, _, e, _, _, _⟩
  · exact (isD_at I (.inl ⟨kvs, e⟩)).1
  · exact (isD_at I (.inr ⟨kvs, e⟩)).1
theorem ix_dy {X : Cx} (hu : X.A.units + 1 < cLine) : IxR X rIxDy := by
  intro value slice pins s σ H x y v u Q I rx ry h hs
  obtain ⟨a, r, rfl, g, q⟩ := h
  obtain rfl : v = Value.ref a := rx
  exact PyProof.Rows.tail_any (dget_type I g) slot_dict_getitem.lookup (d_getItem hu I g ry fun w' s' I' rw' => ⟨r, H, I', rw', q⟩) hs
def fIxA : D → D → Sto → Out D := fun x y S => match deref x S, keyD y with
  | .dic ks vs, some q => (match dicGet ks vs q with | some d => .ok d S | none => .bad)
  | _, _ => fIx x y S
section
variable {K : PySem.W.Frag} {cl : Cl}
theorem d_ixA : OpD K cl (fun x y H Q => rIx K x y H Q ∨ rIxDy x y H Q) fIxA := by
  intro w x y vx vy W Q ok rx ry p
  unfold fIxA at p
  split at p
  · rename_i ks vs q hx hy
    split at p
    · rename_i d hd
      obtain ⟨a, es, ev, h1, h2, h3⟩ := deref_dic ok rx hx
      have z := dicGet_rep (q := q) h2 h3
      rw [hd] at z
      obtain ⟨v, z1, z2⟩ := z
      exact .inr ⟨a, v, ev, .inl ⟨es, q, h1, keyD_rep ry hy, z1.symm⟩, p w v (Af.refl ok) rfl z2⟩
    · exact p.elim
  · exact .inl (d_ix w x y vx vy W Q ok rx ry p)
end
section
variable {X : Cx} {cl : Cl} {W : WX} {e o i value : Expr} {dx di dv : DE} {pos pos' p2 : Pos}
theorem u_itemA (hu : X.A.units + 1 < cLine) (ho : UE X cl W o dx) (hi : UE X cl W i di) (hs : PlainIx i := by exact fun _ _ => rfl) : UE X cl W (.Subscript o i pos) (dOp fIxA dx di) := u_ix (ix_seq.or (ix_dy hu)) d_ixA ho hi hs

/-! ### in, not in -/
def rDIn (neg : Bool) : R2 := fun x y H Q => ∃ a o, y = .ref a ∧ DGet H a x o ∧ Q (.bl (xor neg o.isSome)) H
theorem op_dIn (hu : X.A.units + 1 < cLine) : OpR X (compareOp .In) (rDIn false) := by
  intro pins s σ H x y v u Q I rx ry h
  obtain ⟨a, o, rfl, g, q⟩ := h
  obtain rfl : u = Value.ref a := ry
  exact L2.d_in hu I g rx fun s3 I3 => ⟨.bl o.isSome, H, I3, rfl, by simpa using q⟩
theorem op_dNotIn (hu : X.A.units + 1 < cLine) : OpR X (compareOp .NotIn) (rDIn true) := by
  intro pins s σ H x y v u Q I rx ry h
  obtain ⟨a, o, rfl, g, q⟩ := h
  obtain rfl : u = Value.ref a := ry
  exact L2.d_notIn hu I g rx fun s3 I3 => ⟨.bl (!o.isSome), H, I3, rfl, by simpa using q⟩
def fInA (neg : Bool) : D → D → Sto → Out D := fun x y S => match deref y S, keyD x with
  | .dic ks vs, some q => .ok (.bl (xor neg (dicGet ks vs q).isSome)) S
  | _, _ => fInG neg x y S
theorem d_inA {K : PySem.W.Frag} {neg : Bool} : OpD K cl (fun x y H Q => rInA K neg x y H Q ∨ rDIn neg x y H Q) (fInA neg) := by
  intro w x y vx vy W Q ok rx ry p
  unfold fInA at p
  split at p
  · rename_i ks vs q hx hy
    obtain ⟨a, es, ev, h1, h2, h3⟩ := deref_dic ok ry hx
    have z := dicGet_rep (q := q) h2 h3
    have z2 : (dicGet ks vs q).isSome = (valV es q).isSome := by
      cases hd : dicGet ks vs q with
      | some d =>
        rw [hd] at z
        obtain ⟨v, z1, _⟩ := z
        rw [z1]; rfl
      | none =>
        rw [hd] at z
        rw [show valV es q = none from z]; rfl
    refine .inr ⟨a, valV es q, ev, .inl ⟨es, q, h1, keyD_rep rx hy, rfl⟩, p w _ (Af.refl ok) rfl ?_⟩
    show V.bl _ = V.bl _
    rw [z2]
  · exact .inl (d_in w x y vx vy W Q ok rx ry p)
theorem op_inAll (hu : X.A.units + 65 < cLine) : OpR X (compareOp .In) (fun x y H Q => rInA X.K false x y H Q ∨ rDIn false x y H Q) := (op_inA hu).or (op_dIn (by omega))
theorem op_notInAll (hu : X.A.units + 65 < cLine) : OpR X (compareOp .NotIn) (fun x y H Q => rInA X.K true x y H Q ∨ rDIn true x y H Q) := (op_notInA hu).or (op_dNotIn (by omega))

/-! ### x[i] = e -/
theorem PSet.or {r r' : TSet} (h : PSet X r) (h' : PSet X r') : PSet X (fun o i v H Q => r o i v H Q ∨ r' o i v H Q) := by
  intro pins s σ H o i v ov iv u Q I ro ri rv q
  rcases q with q | q
  · exact h pins s σ H o i v ov iv u Q I ro ri rv q
  · exact h' pins s σ H o i v ov iv u Q I ro ri rv q
def putAt (x i y : D) (S : Sto) : Option Sto := match x with
  | .ptr k => (match S[k]? with
    | some (some (.lst xs)) => (match i with
      | .int j => (match ixN xs.length j with
        | some n => some (S.set k (some (.lst (xs.set n y))))
        | none => none)
      | _ => none)
    | some (some (.dic ks vs)) => (match keyD i with
      | some q => if ks.length < 1000 then some (S.set k (some (.dic (dicPut ks vs q i y).1 (dicPut ks vs q i y).2))) else none
      | none => none)
    | _ => none)
  | _ => none
def dSetA (dx di dv : DE) : DS := fun t S => ofE (dv t S) t fun y S1 => ofE (dx t S1) t fun x S2 => ofE (di t S2) t fun i S3 => match putAt x i y S3 with
  | some S4 => .nx t S4
  | none => .bad
theorem putAt_ok {K : PySem.W.Frag} {w : Wd} {x i y : D} {vx vi vy : V} {S4 : Sto} {Q : Hp → Prop} (ok : w.Ok K cl) (rx : RV K cl w x vx) (ri : RV K cl w i vi) (ry : RV K cl w y vy) (e : putAt x i y w.S = some S4) (q : ∀ w4, Af K cl w w4 → w4.S = S4 → Q w4.H) :
    rSetL vx vi vy w.H Q ∨ rSetD vx vi vy w.H Q := by
  unfold putAt at e
  split at e
  · rename_i k
    split at e
    · rename_i xs hk
      split at e
      · rename_i j
        cases (show vi = .int j from ri)
        split at e
        · rename_i n hn
          cases e
          obtain ⟨a, ea, ev⟩ := rx
          obtain ⟨_, vs, c1, c2⟩ := ok.cell k a _ ea hk
          refine .inl ⟨a, vs, j, n, ev, rfl, c1, by rw [← Reps.length c2]; exact hn, ?_⟩
          have z := ok.cellSet (u := .lst (vs.set n vy)) (d := .lst (xs.set n y)) ea hk ⟨_, upd_same, Reps.set ry n c2⟩
          exact q ⟨upd w.H a (.lst (vs.set n vy)), w.F, w.m, _⟩ z rfl
        · cases e
      · cases e
    · rename_i ks vs hk
      split at e
      · rename_i kk hq
        split at e
        · rename_i hl
          cases e
          obtain ⟨a, ea, ev⟩ := rx
          obtain ⟨_, es, c1, c2, c3⟩ := ok.cell k a _ ea hk
          have e1 := keyD_rep ri hq
          have hle : es.length < sizeLine := by
            have := Reps.length c2
            rw [List.length_map] at this
            rw [← this]
            exact Nat.lt_of_lt_of_le hl (by decide)
          obtain ⟨z1, z2⟩ := dicPut_rep (q := kk) (kd := i) (d := y) (v := vy) (by rw [← e1]; exact ri) ry c2 c3
          have z := ok.cellSet (u := .dK (putK es kk vy)) (d := .dic (dicPut ks vs kk i y).1 (dicPut ks vs kk i y).2) ea hk ⟨_, upd_same, z1, z2⟩
          exact .inr ⟨a, _, ev, .inl ⟨es, kk, c1, e1, hle, rfl⟩, q ⟨upd w.H a (.dK (putK es kk vy)), w.F, w.m, _⟩ z rfl⟩
        · cases e
      · cases e
    · cases e
  · cases e
theorem s_setA (hu : X.A.units + 1 < cLine) (ho : UE X cl W o dx) (hi : UE X cl W i di) (hv : UE X cl W value dv)
    (hs : swapsWithSole [.Subscript o i pos'] value pos.line X.env = pure false := by rfl) (hw : swappedStores [.Subscript o i pos'] value X.env = pure none := by rfl) (h1 : (assignEach [.Subscript o i pos'] X.env).map (·.2) = [assign (.Subscript o i pos') X.env] := by rfl)
    (ha : ∀ v, assign (.Subscript o i pos') X.env v = (do
      let ov ← holding [v] (eval o X.env)
      let iv ← holding [v, ov] (eval i X.env)
      standAt pos'
      holding [v, ov, iv] (setItem ov iv v)
      release [v, ov, iv] []) := by intro _; rfl) : US X cl W (.Assign [.Subscript o i pos'] value pos) (dSetA dx di dv) :=
  weakS (ps_asg hv (pg_sub ho hi (PSet.or set_list (set_dict hu)) ha) hs hw h1) fun N σ H ⟨w, t, eH, ok, en, p⟩ => by
    refine ⟨w, t, eH, ok, en, SPost.ofE p en fun y w1 vy a1 r1 en1 p1 => ⟨w1, t, rfl, a1.ok, en1, SPost.ofE p1 en1 fun x w2 vx a2 r2 en2 p2 => ⟨w2, t, rfl, a2.ok, en2, SPost.ofE p2 en2 fun z w3 vz a3 r3 en3 p3 => ?_⟩⟩⟩
    split at p3
    · rename_i S4 h4
      refine putAt_ok a3.ok (Rep.af a3 r2) r3 (Rep.af a3 (Rep.af a2 r1)) h4 fun w4 z e4 => ?_
      exact p3 w4 σ z e4 (en3.af z)
    · exact p3.elim
end
end Dl
set_option Elab.async false
set_option linter.all false
set_option maxRecDepth 100000
set_option maxHeartbeats 400000
/-! The data layer: dicts made and walked. -/
namespace Dl
open PySem PyProof.Rows L2

/-! ### a thing that nobody knows yet -/
structure Blind (K : PySem.W.Frag) (cl : Cl) (w0 w : Wd) (D : Addr) (o : HO) : Prop where
  h0 : w0.H D = none
  af : Af K cl w0 w
  nf : w.F D = none
  nl : ¬ Live w D
  at_ : w.H D = some o
section
variable {K : PySem.W.Frag} {cl : Cl} {w0 w w1 : Wd} {D : Addr} {o : HO}
theorem Blind.new (ok : w0.Ok K cl) (hD : w0.H D = none) : Blind K cl w0 ⟨upd w0.H D o, w0.F, w0.m, w0.S⟩ D o := by
  refine ⟨hD, ok.untold hD, ok.free hD, fun ⟨i, d, h1, h2⟩ => ?_, upd_same⟩
  obtain ⟨x, hx⟩ := (ok.cell i D d h1 h2).2.there
  rw [hD] at hx; cases hx
theorem Blind.step (g : Blind K cl w0 w D o) (x : Af K cl w w1) : Blind K cl w0 w1 D o := by
  refine ⟨g.h0, g.af.trans x, ?_, fun l => ?_, x.keep _ _ g.at_ g.nl⟩
  · cases q : w1.F D with
    | none => rfl
    | some o =>
      rcases x.new D o q with z | z | z
      · rw [g.nf] at z; cases z
      · rw [g.at_] at z; cases z
      · exact (g.nl z).elim
  · rcases x.liv D l with z | z
    · exact g.nl z
    · rw [g.at_] at z; cases z
theorem Blind.write (g : Blind K cl w0 w D o) (u : HO) : Blind K cl w0 ⟨upd w.H D u, w.F, w.m, w.S⟩ D u := ⟨g.h0, Af.blind g.af g.h0 g.nf g.nl (o := o), g.nf, g.nl, upd_same⟩
theorem Blind.known (g : Blind K cl w0 w D o) : Af K cl w0 ⟨w.H, upd w.F D o, w.m, w.S⟩ := Af.known g.af g.h0 g.nf g.nl g.at_
theorem Blind.celled (g : Blind K cl w0 w D o) {d : Dl.D} (h : CellAt K cl w.H w.F w.m D d) : Af K cl w0 ⟨w.H, w.F, w.m ++ [D], w.S ++ [some d]⟩ := Af.celled g.af g.h0 g.nf g.nl h
theorem Blind.keep (g : Blind K cl w0 w D o) {u : HO} {ds : List Dl.D} {vs : List V} (r : Reps K cl w.F w.m ds vs) : Reps K cl (upd w.F D u) w.m ds vs :=
  Reps.mono (fun b y hb => by rw [upd_ne (ne_of_none hb g.nf)]; exact hb) (fun _ _ h => h) _ _ r
/-- a dict that grew, locked -/
theorem Blind.dic {es : List (Key × V)} {ks vs : List Dl.D} (g : Blind K cl w0 w D (.dK es)) (rk : Reps K cl w.F w.m ks (es.map fun e => kV e.1)) (rv : Reps K cl w.F w.m vs (es.map (·.2))) (od : Obj) :
    ∃ w2 : Wd, w2.H = upd w.H D (.frz od (.dK es)) ∧ w2.S = w.S ∧ Af K cl w0 w2 ∧ RV K cl w2 (.dic ks vs) (.ref D) := by
  have g2 := g.write (.frz od (.dK es))
  exact ⟨⟨upd w.H D (.frz od (.dK es)), upd w.F D (.frz od (.dK es)), w.m, w.S⟩, rfl, rfl, g2.known, D, _, _, rfl, ⟨od, es, upd_same, rfl, rfl⟩, g.keep rk, g.keep rv⟩
end

section
variable {X : Cx} {cl : Cl} {W : WX} {e : Expr} {de : DE} {p pos : Pos}
/-! ### {} -/
def dDic0 : DE := fun _ S => .ok (.dic [] []) S
def dDicC : DE := fun _ S => .ok (.ptr S.length) (S ++ [some (.dic [] [])])
theorem u_dic0 : UE X cl W (.Dict [] [] pos) dDic0 := weakE (pe_mayLock pe_dnewK) fun σ H Q ⟨w, t, eH, ok, en, p⟩ => fun D hD => by
  subst eH
  have g : Blind X.K cl w _ D (.dK []) := .new ok hD
  refine .inr ⟨D, _, rfl, upd_same, True.intro, fun od => ?_⟩
  obtain ⟨w2, e1, e2, a, r⟩ := g.dic (ks := []) (vs := []) rfl rfl od
  exact e1 ▸ p w2 _ a e2 r
theorem u_dicC : UE X cl W (.Dict [] [] pos) dDicC := weakE pe_dnewK fun σ H Q ⟨w, t, eH, ok, en, p⟩ => fun D hD => by
  subst eH
  have g : Blind X.K cl w _ D (.dK []) := .new ok hD
  exact p ⟨upd w.H D (.dK []), w.F, w.m ++ [D], w.S ++ [some (.dic [] [])]⟩ (.ref D) (g.celled (d := .dic [] []) ⟨[], upd_same, rfl, rfl⟩) rfl ⟨D, snoc_get ok.len.symm, rfl⟩

/-! ### {k: v, ..} -/
def dPairs : List (DE × DE) → Lc → Sto → Out (List Dl.D × List Dl.D)
  | [], _, S => .ok ([], []) S
  | (dk, dv) :: r, t, S => (dk t S).bind fun x S1 => (dv t S1).bind fun y S2 => (dPairs r t S2).bind fun q S3 => .ok (x :: q.1, y :: q.2) S3
def dicMerge : List Dl.D → List Dl.D → List Dl.D × List Dl.D → Option (List Dl.D × List Dl.D)
  | k :: ks, v :: vs, a => match keyD k with
    | some q => dicMerge ks vs (dicPut a.1 a.2 q k v)
    | none => none
  | _, _, a => some a
def RP (K : PySem.W.Frag) (cl : Cl) (w : Wd) (a : List Dl.D × List Dl.D) (ps : List (V × V)) : Prop := RL K cl w a.1 (ps.map (·.1)) ∧ RL K cl w a.2 (ps.map (·.2))
theorem OPost.bindB {α β γ δ : Type} {K : PySem.W.Frag} {R : Wd → α → β → Prop} {R' : Wd → γ → δ → Prop} {W : Value → Option Addr → Hp → Prop} {w0 w : Wd} {Q : β → Hp → Prop} {P : δ → Hp → Prop} {o : Out γ} {k : γ → Sto → Out α}
    (x : Af K cl w0 w) (p : OPost K cl R W w0 Q (o.bind k)) (h : ∀ a w1 b, Af K cl w w1 → R' w1 a b → OPost K cl R W w0 Q (k a w1.S) → P b w1.H) : OPost K cl R' W w P o := by
  cases o with
  | ok a S =>
    intro w1 b y e r
    refine h a w1 b y r ?_
    rw [e]
    exact p
  | exc c ns vs S => exact OPost.after (R := R) p x
  | bad => exact p.elim
theorem Out.assoc {α β γ : Type} (o : Out α) (f : α → Sto → Out β) (h : β → Sto → Out γ) : (o.bind f).bind h = o.bind fun a S => (f a S).bind h := by cases o <;> rfl
theorem le_pairs {K : PySem.W.Frag} {σ : L2.St} {t : Lc} {β : Type} {α : Type} {R : Wd → α → β → Prop} {w0 : Wd} {Q0 : β → Hp → Prop} : ∀ {l : List (DE × DE)} {w : Wd} {Q : List (V × V) → Hp → Prop} {fin : List Dl.D × List Dl.D → Sto → Out α}, Af K cl w0 w → EnvR K cl w t σ →
    OPost K cl R (fun c d H' => W c d σ H') w0 Q0 ((dPairs l t w.S).bind fin) → (∀ q w1 ps, Af K cl w w1 → RP K cl w1 q ps → OPost K cl R (fun c d H' => W c d σ H') w0 Q0 (fin q w1.S) → Q ps w1.H) →
    tPairs (l.map fun q => (upE K cl W q.1, upE K cl W q.2)) σ w.H Q
  | [], w, Q, fin, x, en, p, h => h ([], []) w [] (Af.refl x.ok) ⟨rfl, rfl⟩ p
  | (dk, dv) :: r, w, Q, fin, x, en, p, h => by
    unfold dPairs at p
    rw [Out.assoc] at p
    refine ⟨w, t, rfl, x.ok, en, OPost.bindB x p fun y w1 vx a1 r1 p1 => ?_⟩
    rw [Out.assoc] at p1
    refine ⟨w1, t, rfl, a1.ok, en.af a1, OPost.bindB (x.trans a1) p1 fun z w2 vy a2 r2 p2 => ?_⟩
    rw [Out.assoc] at p2
    refine le_pairs ((x.trans a1).trans a2) ((en.af a1).af a2) p2 fun q w3 ps a3 r3 p3 => ?_
    exact h (y :: q.1, z :: q.2) w3 ((vx, vy) :: ps) (a1.trans (a2.trans a3)) ⟨⟨vx, _, rfl, Rep.af a3 (Rep.af a2 r1), r3.1⟩, ⟨vy, _, rfl, Rep.af a3 r2, r3.2⟩⟩ p3
theorem merge_rep {K : PySem.W.Frag} {F : Hp} {m : List Addr} : ∀ {ks vs : List Dl.D} {ps : List (V × V)} {a : List Dl.D × List Dl.D} {es : List (Key × V)} {b : List Dl.D × List Dl.D}, Reps K cl F m ks (ps.map (·.1)) → Reps K cl F m vs (ps.map (·.2)) →
    Reps K cl F m a.1 (es.map fun e => kV e.1) → Reps K cl F m a.2 (es.map (·.2)) → dicMerge ks vs a = some b → ∃ kvs : List (Key × V), ps = kvs.map (fun kv => (kV kv.1, kv.2)) ∧
      Reps K cl F m b.1 ((mergeK es kvs).map fun e => kV e.1) ∧ Reps K cl F m b.2 ((mergeK es kvs).map (·.2))
  | [], vs, ps, a, es, b, rk, rv, ra, rb, e => by
    cases ps with
    | cons _ _ => exact absurd (show _ = [] from rk) (by simp)
    | nil =>
      cases e
      exact ⟨[], rfl, ra, rb⟩
  | k :: ks, vs, ps, a, es, b, rk, rv, ra, rb, e => by
    cases ps with
    | nil => obtain ⟨_, _, h, _⟩ := rk; simp at h
    | cons q ps =>
      cases vs with
      | nil => exact absurd (show _ = [] from rv) (by simp)
      | cons v vs =>
        obtain ⟨k', kr, h1, h2, h3⟩ := rk
        obtain ⟨v', vr, g1, g2, g3⟩ := rv
        simp only [List.map_cons, List.cons.injEq] at h1 g1
        obtain ⟨h1a, h1b⟩ := h1
        obtain ⟨g1a, g1b⟩ := g1
        subst h1a h1b g1a g1b
        unfold dicMerge at e
        split at e
        · rename_i kk hk
          have ek := keyD_rep h2 hk
          obtain ⟨z1, z2⟩ := dicPut_rep (q := kk) (by rw [← ek]; exact h2) g2 ra rb
          obtain ⟨kvs, e1, e2, e3⟩ := merge_rep h3 g3 z1 z2 e
          refine ⟨(kk, q.2) :: kvs, ?_, e2, e3⟩
          rw [List.map_cons, ← e1, ← ek]
        · cases e
def dDisp (l : List (DE × DE)) : DE := fun t S => (dPairs l t S).bind fun q S1 => if q.1.length ≤ 15 then (match dicMerge q.1 q.2 ([], []) with
  | some b => .ok (.dic b.1 b.2) S1
  | none => .bad) else .bad
abbrev UPs (X : Cx) (cl : Cl) (W : WX) (pos : Pos) (keys : List (Option Expr)) (values : List Expr) (l : List (DE × DE)) : Prop := PPs X pos keys values (l.map fun q => (upE X.K cl W q.1, upE X.K cl W q.2))
theorem ups_nil : UPs X cl W pos [] [] [] := pps_nil
theorem ups_cons {k v : Expr} {ks : List (Option Expr)} {vs : List Expr} {dk dv : DE} {l : List (DE × DE)} (hk : UE X cl W k dk) (hv : UE X cl W v dv) (hr : UPs X cl W pos ks vs l) : UPs X cl W pos (some k :: ks) (v :: vs) ((dk, dv) :: l) := pps_cons hk hv hr
theorem u_disp {keys : List (Option Expr)} {values : List Expr} {l : List (DE × DE)} (h : UPs X cl W pos keys values l) (hall : keys.all (·.isSome) = true := by rfl) (hl : keys.length = values.length := by rfl) (h0 : keys ≠ [] := by exact nofun)
    (h15 : keys.length ≤ 15 := by decide) : UE X cl W (.Dict keys values pos) (dDisp l) := weakE (pe_mayLock (pe_disp h hall hl h0 h15)) fun σ H Q ⟨w, t, eH, ok, en, p⟩ => fun D hD => by
  subst eH
  have g : Blind X.K cl w _ D (.dK []) := .new ok hD
  refine le_pairs g.af (en.af g.af) p fun q w2 ps a2 r2 p2 => ?_
  have g2 := g.step a2
  refine ⟨g2.at_, ?_⟩
  split at p2
  · rename_i h15
    split at p2
    · rename_i b hb
      obtain ⟨kvs, e1, e2, e3⟩ := merge_rep (es := []) r2.1 r2.2 (show Reps _ _ _ _ [] [] from rfl) (show Reps _ _ _ _ [] [] from rfl) hb
      refine ⟨kvs, e1, ?_, .inr ⟨D, _, rfl, upd_same, True.intro, fun od => ?_⟩⟩
      · have := Reps.length r2.1
        rw [e1, List.length_map, List.length_map] at this
        omega
      · have g3 := g2.write (.dK (mergeK [] kvs))
        obtain ⟨w3, f1, f2, a3, r3⟩ := g3.dic (ks := b.1) (vs := b.2) e2 e3 od
        have z := p2 w3 (.ref D) a3 f2 r3
        rw [f1] at z
        exact z
    · exact p2.elim
  · exact p2.elim
end
end Dl
set_option Elab.async false
set_option linter.all false
set_option maxRecDepth 100000
set_option maxHeartbeats 400000
/-! The data layer: dict comprehensions, walks over dicts, copies. -/
namespace Dl
open PySem PyProof.Rows L2

section
variable {X : Cx} {cl : Cl} {W : WX} {e o : Expr} {dx : DE} {p pos apos cpos tpos : Pos}
def dcLoop (g : Tg) (dt : DB) (dk dv : DE) (t : Lc) : List Dl.D → List Dl.D × List Dl.D → Sto → Out (List Dl.D × List Dl.D)
  | [], acc, S => .ok acc S
  | d :: r, acc, S => match g.set d t with
    | none => .bad
    | some t1 => (dt t1 S).calm.bind fun b S1 => if b = true then (dk t1 S1).calm.bind fun y S2 => (dv t1 S2).calm.bind fun z S3 => match keyD y with
      | some q => if acc.1.length < 1000 then dcLoop g dt dk dv t r (dicPut acc.1 acc.2 q y z) S3 else .bad
      | none => .bad
      else dcLoop g dt dk dv t r acc S1
def dDc (vs : List Nat) (g : Tg) (di : DA) (dt : DB) (dk dv : DE) : DE := fun t S => (di t S).bind fun xs S1 => (dcLoop g dt dk dv (wipeD vs t) xs ([], []) S1).bind fun a S2 => .ok (.dic a.1 a.2) S2
/-- the dict that grows -/
structure GrowK (K : PySem.W.Frag) (cl : Cl) (w0 w : Wd) (D : Addr) (es : List (Key × V)) (a : List Dl.D × List Dl.D) : Prop where
  b : Blind K cl w0 w D (.dK es)
  k : Reps K cl w.F w.m a.1 (es.map fun e => kV e.1)
  v : Reps K cl w.F w.m a.2 (es.map (·.2))
theorem GrowK.step {K : PySem.W.Frag} {w0 w w1 : Wd} {D : Addr} {es : List (Key × V)} {a : List Dl.D × List Dl.D} (g : GrowK K cl w0 w D es a) (x : Af K cl w w1) : GrowK K cl w0 w1 D es a := ⟨g.b.step x, Reps.af x g.k, Reps.af x g.v⟩
theorem calm_bindB {α β γ δ : Type} {K : PySem.W.Frag} {R : Wd → α → β → Prop} {R' : Wd → γ → δ → Prop} {W W' : Value → Option Addr → Hp → Prop} {w0 w : Wd} {Q : β → Hp → Prop} {P : δ → Hp → Prop} {o : Out γ} {k : γ → Sto → Out α}
    (p : OPost K cl R W w0 Q (o.calm.bind k)) (h : ∀ a w1 b, Af K cl w w1 → R' w1 a b → OPost K cl R W w0 Q (k a w1.S) → P b w1.H) : OPost K cl R' W' w P o := OPost.bindTo p h
theorem dc_run {K : PySem.W.Frag} {vs : List Nat} {g : Tg} {dt : DB} {dk dv : DE} {σ : L2.St} {w : Wd} {t : Lc} {xs : List Dl.D} {J : It} {Q : VK} {fin : List Dl.D × List Dl.D → Sto → Out Dl.D} {W' : Value → Option Addr → Hp → Prop} {Dd : Addr} (hsl : ∀ i ∈ g.slots, i ∈ vs)
    (ok : w.Ok K cl) (en : EnvR K cl w t σ) (hJ : Wk K cl w xs J) (hD : w.H Dd = none) (p : OPost K cl (RV K cl) W' w Q ((dcLoop g dt dk dv (wipeD vs t) xs ([], []) w.S).bind fin)) {P : VK}
    (done : ∀ a es (w2 : Wd), GrowK K cl w w2 Dd es a → OPost K cl (RV K cl) W' w Q (fin a w2.S) → P (.ref Dd) w2.H) :
    ∃ Wi : Nat → Nat → Hp → Prop, (∃ m, Wi 0 m (upd w.H Dd (.dK []))) ∧ ∀ i m H, Wi i m H →
      (J.stop i H ∧ P (.ref Dd) H) ∨ (J.go i H ∧ ∃ Nx : Hp → Prop, (∀ H', Nx H' → ∃ m', m' < m ∧ Wi (i + 1) m' H') ∧ ∀ x H', J.yld i H x H' → tgT K g x (L2.wipe σ vs) H' fun σ2 H2 => L2.wipe σ2 vs = L2.wipe σ vs ∧ upB K cl W0 dt σ2 H2 fun b H3 =>
        if b = true then upE K cl W0 dk σ2 H3 fun y H4 => upE K cl W0 dv σ2 H4 fun z H5 => ∃ kvs k, y = kV k ∧ H5 Dd = some (.dK kvs) ∧ kvs.length < sizeLine ∧ Nx (upd H5 Dd (.dK (putK kvs k z))) else Nx H3) := by
  have b0 : Blind K cl w _ Dd (.dK []) := .new ok hD
  refine ⟨fun i m H => ∃ w2 acc es, w2.H = H ∧ GrowK K cl w w2 Dd es acc ∧ m = xs.length - i ∧ i ≤ xs.length ∧ OPost K cl (RV K cl) W' w Q ((dcLoop g dt dk dv (wipeD vs t) (xs.drop i) acc w2.S).bind fin),
    ⟨_, ⟨upd w.H Dd (.dK []), w.F, w.m, w.S⟩, ([], []), [], rfl, ⟨b0, rfl, rfl⟩, rfl, Nat.zero_le _, p⟩, ?_⟩
  rintro i m H ⟨w2, acc, es, rfl, gr, rfl, hi, p2⟩
  by_cases hl : i < xs.length
  · obtain ⟨go, yl⟩ := (hJ w2 gr.b.af i).1 _ (List.getElem?_eq_getElem hl)
    rw [List.drop_eq_getElem_cons hl] at p2
    refine .inr ⟨go, fun H' => ∃ w6 acc' es', w6.H = H' ∧ GrowK K cl w w6 Dd es' acc' ∧ OPost K cl (RV K cl) W' w Q ((dcLoop g dt dk dv (wipeD vs t) (xs.drop (i + 1)) acc' w6.S).bind fin),
      fun H' ⟨w6, acc', es', e6, g6, p6⟩ => ⟨xs.length - (i + 1), by omega, w6, acc', es', e6, g6, rfl, hl, p6⟩, fun v H' hy => ?_⟩
    obtain ⟨w3, rfl, a3, e3, rv⟩ := yl v H' hy
    have g3 := gr.step a3
    unfold dcLoop at p2
    split at p2
    · exact p2.elim
    · rename_i t1 et
      refine Tg.ok a3.ok (((en.af gr.b.af).af a3).wipe vs) rv et fun σ' en' hw => ⟨?_, ?_⟩
      · rw [hw vs hsl, wipe_wipe (fun i h => h)]
      rw [← e3, Out.assoc] at p2
      refine ⟨w3, t1, rfl, a3.ok, en', calm_bindB p2 fun b w4 b' a4 eb p4 => ?_⟩
      cases (show b = b' from eb)
      cases b with
      | false => exact ⟨w4, acc, es, rfl, g3.step a4, p4⟩
      | true =>
        rw [if_pos rfl] at p4 ⊢
        rw [Out.assoc] at p4
        refine ⟨w4, t1, rfl, a4.ok, en'.af a4, calm_bindB p4 fun y w5 vy a5 ry p5 => ?_⟩
        rw [Out.assoc] at p5
        refine ⟨w5, t1, rfl, a5.ok, (en'.af a4).af a5, calm_bindB p5 fun z w6 vz a6 rz p6 => ?_⟩
        have g6 := ((g3.step a4).step a5).step a6
        split at p6
        · rename_i q hq
          split at p6
          · rename_i hsz
            have ek := keyD_rep (Rep.af a6 ry) hq
            obtain ⟨z1, z2⟩ := dicPut_rep (q := q) (kd := y) (by rw [← ek]; exact Rep.af a6 ry) rz g6.k g6.v
            refine ⟨es, q, ek, g6.b.at_, ?_, ⟨upd w6.H Dd (.dK (putK es q vz)), w6.F, w6.m, w6.S⟩, dicPut acc.1 acc.2 q y z, _, rfl, ⟨g6.b.write _, z1, z2⟩, p6⟩
            have := Reps.length g6.k
            rw [List.length_map] at this
            rw [← this]
            exact Nat.lt_of_lt_of_le hsz (by decide)
          · exact p6.elim
        · exact p6.elim
  · have e : i = xs.length := by omega
    subst e
    rw [List.drop_length] at p2
    exact .inl ⟨(hJ w2 gr.b.af _).2 (Nat.le_refl _), done acc es w2 gr p2⟩
variable {dt : DB} {dk dv de : DE} {di : DA} {g : Tg} {kx vx tg iter : Expr} {ifs : List Expr} {scope : Scope} {own : List (Str × Nat)}
theorem u_dc (vs : List Nat) (hv : own.map (·.2) = vs) (hsl : ∀ i ∈ g.slots, i ∈ vs) (hc : X.calm = true) (hN : X.N.Nodup) (hi : UI X cl W tg iter di) (ok : BlkOk X.N X.env.scope scope own)
    (hg : ∀ (s : Shared) (H : Hp) (C : Addr) (cls : List (Str × Addr)) (fp : List Addr), PG (X.blk s H scope (compEnvC scope cls C X.env) fp) tg (tgT X.K g)) (ht : ∀ (s : Shared) (H : Hp) (C : Addr) (cls : List (Str × Addr)) (fp : List Addr), UTs (X.blk s H scope (compEnvC scope cls C X.env) fp) cl ifs dt)
    (hk : ∀ (s : Shared) (H : Hp) (C : Addr) (cls : List (Str × Addr)) (fp : List Addr), UE (X.blk s H scope (compEnvC scope cls C X.env) fp) cl W0 kx dk)
    (he : ∀ (s : Shared) (H : Hp) (C : Addr) (cls : List (Str × Addr)) (fp : List Addr), UE (X.blk s H scope (compEnvC scope cls C X.env) fp) cl W0 vx dv) (hs : ∀ x, foldedSetIterable iter X.env x = pure x := by intro _; rfl) :
    UE X cl W (.DictComp kx vx [⟨tg, iter, ifs, 0⟩] scope pos) (dDc vs g di dt dk dv) := weakE (pe_mayLock (pe_dc hc hN hi ok hg ht hk he hs)) fun σ H Q ⟨w, t, eH, hok, en, p⟩ => by
  rw [hv]
  refine ⟨w, t, eH, hok, en, OPost.bind p fun xs w1 J a1 hJ p1 => fun Dd hD => ?_⟩
  refine dc_run (P := fun v H1 => Q v H1 ∨ ∃ d u, v = .ref d ∧ H1 d = some u ∧ Mut (some u) ∧ ∀ od, Q v (upd H1 d (.frz od u))) hsl a1.ok (en.af a1) hJ hD p1 fun a es w2 gr p2 => .inr ⟨Dd, _, rfl, gr.b.at_, True.intro, fun od => ?_⟩
  obtain ⟨w3, f1, f2, a3, r3⟩ := gr.b.dic gr.k gr.v od
  have z := p2 w3 (.ref Dd) a3 f2 r3
  rw [f1] at z
  exact z

/-! ### walks over a dict that changes no more -/
def iKy (de : DE) : DA := fun t S => (de t S).bind fun d S1 => match d with
  | .dic ks _ => .ok ks S1
  | _ => .bad
def iVl (de : DE) : DA := fun t S => (de t S).bind fun d S1 => match d with
  | .dic _ vs => .ok vs S1
  | _ => .bad
def pairsD : List Dl.D → List Dl.D → List Dl.D
  | k :: ks, v :: vs => .tup [k, v] :: pairsD ks vs
  | _, _ => []
def iIt (de : DE) : DA := fun t S => (de t S).bind fun d S1 => match d with
  | .dic ks vs => .ok (pairsD ks vs) S1
  | _ => .bad
theorem map_get {α β : Type} {f : α → β} {l : List α} {i : Nat} {y : β} (h : (l.map f)[i]? = some y) : ∃ x, l[i]? = some x ∧ f x = y := by
  rw [List.getElem?_map] at h
  cases q : l[i]? with
  | none => rw [q] at h; cases h
  | some x => rw [q] at h; cases h; exact ⟨x, rfl, rfl⟩
theorem dic_frz {K : PySem.W.Frag} {w : Wd} {ks vs : List Dl.D} {v : V} (r : RV K cl w (.dic ks vs) v) : ∃ a od, ∃ es : List (Key × V), v = .ref a ∧ w.F a = some (.frz od (.dK es)) ∧ RL K cl w ks (es.map fun e => kV e.1) ∧ RL K cl w vs (es.map (·.2)) := by
  obtain ⟨a, xs, ys, ev, ⟨od, es, q, e1, e2⟩, r1, r2⟩ := r
  subst e1; subst e2
  exact ⟨a, od, es, ev, q, r1, r2⟩
theorem i_keys (h : UE X cl W e de) : UI X cl W tg e (iKy de) := weakI (pi_keys h) fun σ H R ⟨w, t, eH, ok, en, p⟩ => by
  refine ⟨w, t, eH, ok, en, OPost.bind p fun d w1 v a1 r1 p1 => ?_⟩
  split at p1
  · rename_i ks vs
    obtain ⟨a, od, es, ev, hF, rk, rv⟩ := dic_frz r1
    refine ⟨a, od, ev, .inl ⟨es, a1.ok.sub _ _ hF, p1 w1 _ (Af.refl a1.ok) rfl fun w2 x i => ?_⟩⟩
    have hH := x.ok.sub _ _ (x.fz _ _ hF)
    have hlen : ks.length = es.length := by
      have := Reps.length rk
      rw [List.length_map] at this
      exact this
    refine ⟨fun d hd => ?_, fun hi => ⟨hH, by omega⟩⟩
    obtain ⟨u, hu, ru⟩ := rk.get hd
    obtain ⟨kv, hkv, ekv⟩ := map_get hu
    have hi : i < es.length := (List.getElem?_eq_some_iff.mp hkv).1
    refine ⟨⟨hH, hi⟩, fun v' H' ⟨eH', k, v2, h1, h2⟩ => ⟨w2, eH'.symm, Af.refl x.ok, rfl, ?_⟩⟩
    rw [hkv] at h1
    cases h1
    rw [h2]
    exact Rep.af x (ekv ▸ ru)
  · exact p1.elim
theorem i_values (h : UE X cl W e de) (hbase : attributeBase e "values" X.env (eval e X.env) = eval e X.env := by rfl) (hline : (apos.endLine == cpos.line) = true := by rfl) :
    UI X cl W tg (.Call (.Attribute e "values" apos) [] [] cpos) (iVl de) := weakI (pi_values h hbase hline) fun σ H R ⟨w, t, eH, ok, en, p⟩ => by
  refine ⟨w, t, eH, ok, en, OPost.bind p fun d w1 v a1 r1 p1 => ?_⟩
  split at p1
  · rename_i ks vs
    obtain ⟨a, od, es, ev, hF, rk, rv⟩ := dic_frz r1
    refine ⟨a, od, es, ev, a1.ok.sub _ _ hF, p1 w1 _ (Af.refl a1.ok) rfl fun w2 x i => ?_⟩
    have hH := x.ok.sub _ _ (x.fz _ _ hF)
    have hlen : vs.length = es.length := by
      have := Reps.length rv
      rw [List.length_map] at this
      exact this
    refine ⟨fun d hd => ?_, fun hi => ⟨hH, by omega⟩⟩
    obtain ⟨u, hu, ru⟩ := rv.get hd
    obtain ⟨kv, hkv, ekv⟩ := map_get hu
    have hi : i < es.length := (List.getElem?_eq_some_iff.mp hkv).1
    refine ⟨⟨hH, hi⟩, fun v' H' ⟨eH', k, h1⟩ => ⟨w2, eH'.symm, Af.refl x.ok, rfl, ?_⟩⟩
    rw [hkv] at h1
    cases h1
    have ekv' : v' = u := ekv
    rw [ekv']
    exact Rep.af x ru
  · exact p1.elim
theorem pairs_get : ∀ (ks vs : List Dl.D) (i : Nat) {d : Dl.D}, (pairsD ks vs)[i]? = some d → ∃ x y, ks[i]? = some x ∧ vs[i]? = some y ∧ d = .tup [x, y]
  | [], ys, i, d, h => by simp [pairsD] at h
  | x :: xs, [], i, d, h => by simp [pairsD] at h
  | x :: xs, y :: ys, 0, d, h => by
    simp [pairsD] at h
    exact ⟨x, y, rfl, rfl, h.symm⟩
  | x :: xs, y :: ys, i + 1, d, h => by
    obtain ⟨a, b, h1, h2, h3⟩ := pairs_get xs ys i (by simpa [pairsD] using h)
    exact ⟨a, b, by simpa using h1, by simpa using h2, h3⟩
theorem pairs_len : ∀ (xs ys : List Dl.D), (pairsD xs ys).length = min xs.length ys.length
  | [], ys => by simp [pairsD]
  | x :: xs, [] => by simp [pairsD]
  | x :: xs, y :: ys => by rw [pairsD, List.length_cons, pairs_len xs ys, List.length_cons, List.length_cons]; omega
variable {elts : List Expr} {kk : Nat}
theorem i_items (h : UE X cl W e de) (hbase : attributeBase e "items" X.env (eval e X.env) = eval e X.env := by rfl) (hline : (apos.endLine == cpos.line) = true := by rfl) :
    UI X cl W (.Tuple elts kk tpos) (.Call (.Attribute e "items" apos) [] [] cpos) (iIt de) := weakI (pi_items h hbase hline) fun σ H R ⟨w, t, eH, ok, en, p⟩ => by
  refine ⟨w, t, eH, ok, en, OPost.bind p fun d w1 v a1 r1 p1 => ?_⟩
  split at p1
  · rename_i ks vs
    obtain ⟨a, od, es, ev, hF, rk, rv⟩ := dic_frz r1
    refine ⟨a, od, es, ev, a1.ok.sub _ _ hF, p1 w1 _ (Af.refl a1.ok) rfl fun w2 x i => ?_⟩
    have hH := x.ok.sub _ _ (x.fz _ _ hF)
    have hlen : ks.length = es.length := by
      have := Reps.length rk
      rw [List.length_map] at this
      exact this
    have hlen2 : vs.length = es.length := by
      have := Reps.length rv
      rw [List.length_map] at this
      exact this
    refine ⟨fun d hd => ?_, fun hi => ⟨hH, by rw [pairs_len] at hi; omega⟩⟩
    obtain ⟨x1, y1, g1, g2, g3⟩ := pairs_get _ _ _ hd
    obtain ⟨u, hu, ru⟩ := rk.get g1
    obtain ⟨u2, hu2, ru2⟩ := rv.get g2
    obtain ⟨kv, hkv, ekv⟩ := map_get hu
    have hi : i < es.length := (List.getElem?_eq_some_iff.mp hkv).1
    rw [List.getElem?_map, hkv] at hu2
    have hu2' : kv.2 = u2 := by simpa using hu2
    refine ⟨⟨hH, hi⟩, fun v' H' ⟨T, k, v2, h1, h2, hT, h3⟩ => ?_⟩
    rw [hkv] at h1
    cases h1
    obtain ⟨w3, q1, q2, q3, q4⟩ := tup_laid (ds := [x1, y1]) x.ok hT (Reps.cons (Rep.af x (ekv ▸ ru)) (Reps.one (Rep.af x (hu2' ▸ ru2))))
    refine ⟨w3, q1.trans h3.symm, q2, q3, ?_⟩
    rw [h2, g3]
    exact q4
  · exact p1.elim

/-! ### dict(d) -/
def dDictF (da : DA) : DE := fun t S => (da t S).bind fun xs S1 => match xs with
  | [x] => (match deref x S1 with
    | .dic ks vs => .ok (.dic ks vs) S1
    | _ => .bad)
  | _ => .bad
variable {da : DA} {es : List Expr} {x : Str}
theorem u_dictF (hg : Gl X x) (hm : X.mg x = none) (hv : bootBuiltins x = some (.type "dict")) (ha : UA X cl W (e :: es) da) (hn : x ≠ "__name__" := by decide) (hdb : (x == ("__debug__" : Str)) = false := by decide)
    (he : starEach (e :: es) X.env = (false, eval e X.env) :: starEach es X.env := by rfl) (hpl : (backTo pos (starEach es X.env)).any (·.1) = false := by rfl) : UE X cl W (.Call (.Name x p) (e :: es) [] pos) (dDictF da) :=
  weakE (pe_mayLock (pe_callTy call_dictD hg hm hv ha hn hdb he hpl)) fun σ H Q ⟨w, t, eH, ok, en, p⟩ => by
    refine ⟨w, t, eH, ok, en, OPost.bind p fun xs w1 vs a1 r1 p1 => ?_⟩
    split at p1
    · rename_i x
      obtain ⟨v, ev0, r2⟩ := RL.one r1
      subst ev0
      split at p1
      · rename_i ks vs hx
        obtain ⟨a, es, ev, h1, h2, h3⟩ := deref_dic a1.ok r2 hx
        subst ev
        refine ⟨a, es, rfl, h1, fun q hq => .inr ⟨q, _, rfl, upd_same, True.intro, fun od => ?_⟩⟩
        have g : Blind X.K cl w1 _ q (.dK es) := .new a1.ok hq
        obtain ⟨w2, e1, e2, a2, r2⟩ := g.dic h2 h3 od
        have z := p1 w2 (.ref q) a2 e2 r2
        rw [e1] at z
        exact z
      · exact p1.elim
    · exact p1.elim
end
end Dl
set_option Elab.async false
set_option linter.all false
set_option maxRecDepth 100000
set_option maxHeartbeats 400000
/-! The data layer: isinstance, == of dicts, == by an own def, properties. -/
namespace Dl
open PySem PyProof.Rows L2

/-! ### == of dicts, flat values -/
def flatOf : D → Option V
  | .non => some .non
  | .bl b => some (.bl b)
  | .int i => some (.int i)
  | .str x => some (.str x)
  | _ => none
def hitsV (ls : List (Key × V)) : List (Key × V) → Bool
  | [] => true
  | (k, v) :: r => match valV ls k with
    | none => false
    | some y => eqV v y && hitsV ls r
def rEqDF (neg : Bool) : R2 := fun x y H Q => ∃ a b ks ls, x = .ref a ∧ y = .ref b ∧ Rd H a (.dK ks) ∧ Rd H b (.dK ls) ∧ (∀ p ∈ ks, flatV p.2 = true) ∧ (∀ p ∈ ls, flatV p.2 = true) ∧ Q (.bl (xor neg (ks.length == ls.length && hitsV ls ks))) H
theorem valV_mem {ls : List (Key × V)} {k : Key} {v : V} (h : valV ls k = some v) : ∃ p ∈ ls, p.2 = v := by
  unfold valV at h
  obtain ⟨p, h1, h2⟩ := Option.map_eq_some_iff.mp h
  exact ⟨p, List.mem_of_find?_eq_some h1, h2⟩
theorem hits_flat {A : Around} {s : Shared} {ls : List (Key × V)} {vb : List (Key × Value)} (rb : KV ls vb) (fl : ∀ p ∈ ls, flatV p.2 = true) : ∀ {ks : List (Key × V)} {va : List (Key × Value)}, KV ks va → (∀ p ∈ ks, flatV p.2 = true) → PySem.W.KeqHits A s vb va (hitsV ls ks)
  | [], va, r, _ => by cases r; exact .nil
  | p :: ks, va, r, f => by
    cases r with
    | @cons _ q _ qs h t =>
      obtain ⟨k, v⟩ := p
      obtain ⟨k2, u⟩ := q
      obtain ⟨e1, e2⟩ := h
      cases (show k = k2 from e1)
      have ih := hits_flat (A := A) (s := s) rb fl (ks := ks) t fun p hp => f p (List.mem_cons_of_mem _ hp)
      have rel := rb.val k
      unfold hitsV
      cases hv : valV ls k with
      | none =>
        rw [hv] at rel
        refine .miss ?_
        cases hw : valueAt vb k with
        | none => rfl
        | some w' => rw [hw] at rel; cases rel
      | some y =>
        obtain ⟨w', hw, rw'⟩ := RelO.some_of (v := y) (o := valueAt vb k) (by rw [← hv]; exact rel)
        obtain ⟨p', hp', ep⟩ := valV_mem hv
        exact .hit hw (eqAt_V e2 rw' (f _ List.mem_cons_self) (by rw [← ep]; exact fl p' hp')) ih
theorem op_eqDF {X : Cx} (hu : X.A.units < cLine) : OpR X (compareOp .Eq) (rEqDF false) := by
  intro pins s σ H x y v u Q I rx ry h
  obtain ⟨a, b, ks, ls, rfl, rfl, ea, eb, f1, f2, q⟩ := h
  obtain rfl : v = Value.ref a := rx
  obtain rfl : u = Value.ref b := ry
  obtain ⟨_, ya, va, ra, da⟩ := dk_rd I.hok ea
  obtain ⟨_, yb, vb, rb, db⟩ := dk_rd I.hok eb
  have hl : (va.length == vb.length) = (ks.length == ls.length) := by rw [← ra.length, ← rb.length]
  exact PySem.W.keq_eq (knd := mixKind X.prog X.w) (r := hitsV ls ks) ya yb da db hu (fun _ => hits_flat rb f2 ra f1) ⟨.bl _, H, I, rfl, by rw [hl]; simpa using q⟩
theorem op_neDF {X : Cx} (hu : X.A.units < cLine) : OpR X (compareOp .NotEq) (rEqDF true) := by
  intro pins s σ H x y v u Q I rx ry h
  obtain ⟨a, b, ks, ls, rfl, rfl, ea, eb, f1, f2, q⟩ := h
  obtain rfl : v = Value.ref a := rx
  obtain rfl : u = Value.ref b := ry
  obtain ⟨_, ya, va, ra, da⟩ := dk_rd I.hok ea
  obtain ⟨_, yb, vb, rb, db⟩ := dk_rd I.hok eb
  have hl : (va.length == vb.length) = (ks.length == ls.length) := by rw [← ra.length, ← rb.length]
  exact PySem.W.keq_ne (knd := mixKind X.prog X.w) (r := hitsV ls ks) ya yb da db hu (fun _ => hits_flat rb f2 ra f1) ⟨.bl _, H, I, rfl, by rw [hl]; simpa using q⟩
def flats : List D → Option (List V)
  | [] => some []
  | d :: ds => match flatOf d, flats ds with
    | some v, some vs => some (v :: vs)
    | _, _ => none
def keysD : List D → Option (List Key)
  | [] => some []
  | d :: ds => match keyD d, keysD ds with
    | some v, some vs => some (v :: vs)
    | _, _ => none
def pairsK : List Key → List V → List (Key × V)
  | k :: ks, v :: vs => (k, v) :: pairsK ks vs
  | _, _ => []
/-- the pairs, values flat -/
def tabOf (ks vs : List D) : Option (List (Key × V)) := match keysD ks, flats vs with
  | some a, some b => some (pairsK a b)
  | _, _ => none
section
variable {K : PySem.W.Frag} {cl : Cl} {F : Hp} {m : List Addr}
theorem flatOf_rep {d : D} {v u : V} (r : Rep K cl F m d v) (h : flatOf d = some u) : v = u ∧ flatV u = true := by
  cases d with
  | non => cases h; exact ⟨r, rfl⟩
  | bl b => cases h; exact ⟨r, rfl⟩
  | int i => cases h; exact ⟨r, rfl⟩
  | str x => cases h; exact ⟨r, rfl⟩
  | _ => cases h
theorem tab_rep : ∀ {ks vs : List D} {es tb : List (Key × V)}, Reps K cl F m ks (es.map fun e => kV e.1) → Reps K cl F m vs (es.map (·.2)) → tabOf ks vs = some tb → es = tb ∧ ∀ p ∈ tb, flatV p.2 = true
  | ks, vs, [], tb, rk, rv, h => by
    cases ks with
    | cons k ks => obtain ⟨_, _, h, _⟩ := rk; simp at h
    | nil =>
      cases vs with
      | cons v vs => obtain ⟨_, _, h, _⟩ := rv; simp at h
      | nil => cases h; exact ⟨rfl, fun p hp => nomatch hp⟩
  | ks, vs, e :: es, tb, rk, rv, h => by
    cases ks with
    | nil => exact absurd (show _ = [] from rk) (by simp)
    | cons k ks =>
      cases vs with
      | nil => exact absurd (show _ = [] from rv) (by simp)
      | cons d vs =>
        obtain ⟨k', kr, h1, h2, h3⟩ := rk
        obtain ⟨v', vr, g1, g2, g3⟩ := rv
        simp only [List.map_cons, List.cons.injEq] at h1 g1
        obtain ⟨h1a, h1b⟩ := h1
        obtain ⟨g1a, g1b⟩ := g1
        subst h1a h1b g1a g1b
        have hk := rep_kV h2
        unfold tabOf keysD flats at h
        rw [hk] at h
        cases hks : keysD ks with
        | none => rw [hks] at h; cases h
        | some kk =>
          cases hfd : flatOf d with
          | none => rw [hks, hfd] at h; cases h
          | some u =>
            cases hfs : flats vs with
            | none => rw [hks, hfd, hfs] at h; cases h
            | some us =>
              rw [hks, hfd, hfs] at h
              cases h
              obtain ⟨i1, i2⟩ := tab_rep (tb := pairsK kk us) h3 g3 (by unfold tabOf; rw [hks, hfs])
              obtain ⟨j1, j2⟩ := flatOf_rep g2 hfd
              show e :: es = (e.1, u) :: pairsK kk us ∧ _
              refine ⟨by rw [← j1, ← i1], fun p hp => ?_⟩
              rcases List.mem_cons.mp hp with e' | hp
              · rw [e']; exact j2
              · exact i2 p hp
end
def fEqB (neg : Bool) : D → D → Sto → Out D := fun x y S => match deref x S, deref y S with
  | .dic ks vs, .dic ls us => (match tabOf ks vs, tabOf ls us with
    | some a, some b => .ok (.bl (xor neg (a.length == b.length && hitsV b a))) S
    | _, _ => .bad)
  | _, _ => fEqG neg x y S
def fEqA (neg : Bool) : D → D → Sto → Out D := fun x y S => match x, y with
  | .str a, .str b => .ok (.bl (xor neg (decide (a = b)))) S
  | _, _ => fEqB neg x y S
section
variable {K : PySem.W.Frag} {cl : Cl}
theorem d_eqDF {neg : Bool} {w : Wd} {x y : D} {vx vy : V} {W : Value → Option Addr → Hp → Prop} {Q : VK} {ks vs ls us : List D} (ok : w.Ok K cl) (rx : RV K cl w x vx) (ry : RV K cl w y vy) (hx : deref x w.S = .dic ks vs) (hy : deref y w.S = .dic ls us)
    (p : OPost K cl (RV K cl) W w Q (match tabOf ks vs, tabOf ls us with
    | some a, some b => .ok (.bl (xor neg (a.length == b.length && hitsV b a))) w.S
    | _, _ => .bad)) : rEqDF neg vx vy w.H Q := by
  split at p
  · rename_i a b ha hb
    obtain ⟨p1, es, ev, h1, h2, h3⟩ := deref_dic ok rx hx
    obtain ⟨p2, es', ev', h1', h2', h3'⟩ := deref_dic ok ry hy
    obtain ⟨i1, i2⟩ := tab_rep h2 h3 ha
    obtain ⟨j1, j2⟩ := tab_rep h2' h3' hb
    subst i1 j1
    exact ⟨p1, p2, es, es', ev, ev', h1, h1', i2, j2, p w _ (Af.refl ok) rfl rfl⟩
  · exact p.elim
theorem d_eqB : OpD K cl (fun x y H Q => rEqD K x y H Q ∨ rEqDF false x y H Q) (fEqB false) := by
  intro w x y vx vy W Q ok rx ry p
  unfold fEqB at p
  split at p
  · rename_i ks vs ls us hx hy
    exact .inr (d_eqDF ok rx ry hx hy p)
  · exact .inl (d_eq w x y vx vy W Q ok rx ry p)
theorem d_neB : OpD K cl (fun x y H Q => rNeD K x y H Q ∨ rEqDF true x y H Q) (fEqB true) := by
  intro w x y vx vy W Q ok rx ry p
  unfold fEqB at p
  split at p
  · rename_i ks vs ls us hx hy
    exact .inr (d_eqDF ok rx ry hx hy p)
  · exact .inl (d_ne w x y vx vy W Q ok rx ry p)
theorem d_eqA : OpD K cl (fun x y H Q => rEq x y H Q ∨ (rEqD K x y H Q ∨ rEqDF false x y H Q)) (fEqA false) := by
  intro w x y vx vy W Q ok rx ry p
  unfold fEqA at p
  split at p
  · rename_i a b
    cases (show vx = .str a from rx)
    cases (show vy = .str b from ry)
    refine .inl ⟨rfl, ?_⟩
    have z := p w _ (Af.refl ok) rfl rfl
    have e : decide (V.str a = V.str b) = decide (a = b) := decide_eq_decide.mpr ⟨fun h => V.str.inj h, fun h => by rw [h]⟩
    rw [e]
    simpa using z
  · exact .inr (d_eqB w x y vx vy W Q ok rx ry p)
theorem d_neA : OpD K cl (fun x y H Q => rNe x y H Q ∨ (rNeD K x y H Q ∨ rEqDF true x y H Q)) (fEqA true) := by
  intro w x y vx vy W Q ok rx ry p
  unfold fEqA at p
  split at p
  · rename_i a b
    cases (show vx = .str a from rx)
    cases (show vy = .str b from ry)
    refine .inl ⟨rfl, ?_⟩
    have z := p w _ (Af.refl ok) rfl rfl
    have e : decide (V.str a = V.str b) = decide (a = b) := decide_eq_decide.mpr ⟨fun h => V.str.inj h, fun h => by rw [h]⟩
    rw [e]
    simpa using z
  · exact .inr (d_neB w x y vx vy W Q ok rx ry p)
end
end Dl
set_option Elab.async false
set_option linter.all false
set_option maxRecDepth 100000
set_option maxHeartbeats 400000
/-! The data layer: isinstance, == by an own def, properties. -/
namespace Dl
open PySem PyProof.Rows L2

theorem RL.mk1 {K : PySem.W.Frag} {cl : Cl} {w : Wd} {d : D} {v : V} (r : RV K cl w d v) : RL K cl w [d] [v] := ⟨v, [], rfl, r, rfl⟩
theorem takes0 {X : Cx} : Takes X W0 := fun u s' ⟨_, _, _, _, _, _, _, _, _, _, _, _, _, _, _, _, w⟩ => w.elim

/-! ### isinstance -/
inductive Tn where
  | b (s : String) | o (c : Nat)
def Tn.v (cl : Cl) : Tn → Value
  | .b s => .type s
  | .o c => .ref (cl c)
def tnOf (d : D) (S : Sto) : Option Tn := match deref d S with
  | .non => some (.b "NoneType")
  | .bl _ => some (.b "bool")
  | .int _ => some (.b "int")
  | .str _ => some (.b "str")
  | .tup _ => some (.b "tuple")
  | .lst _ => some (.b "list")
  | .rol _ => some (.b "list")
  | .dic _ _ => some (.b "dict")
  | .dit _ _ => none
  | .obj c _ _ => some (.o c)
  | .ptr _ => none
/-- an own class that isinstance may be asked of -/
structure Isi (K : PySem.W.Frag) (C : Addr) : Prop where
  cls : Cls K C
  ha : PySem.W.findIn K (.ref C) "__class__" = some (some (.builtin "object.__class__"))
  hn : PySem.W.specialIn K (.builtin "object.__class__") "__get__" = some (some (.builtin "getset_descriptor.__get__"))
  htk : PySem.W.takesIn K (.builtin "object.__class__") = some true
  hm : PySem.W.mroIn K C (.type "object") = some true
theorem deref_obj {K : PySem.W.Frag} {cl : Cl} {w : Wd} {d : D} {v : V} {c : Nat} {ns : List Str} {vs : List D} (ok : w.Ok K cl) (r : RV K cl w d v) (e : deref d w.S = .obj c ns vs) : ∃ a dx es, v = .ref a ∧ w.H a = some (.ins (cl c) dx es) := by
  unfold deref at e
  split at e
  · rename_i i
    split at e
    · rename_i c hc
      subst e
      obtain ⟨a, ea, ev⟩ := r
      obtain ⟨_, dx, es, q, _⟩ := ok.cell i a _ ea hc
      exact ⟨a, dx, es, ev, q⟩
    · cases e
  · subst e
    obtain ⟨a, dx, es, ev, q, _⟩ := r
    exact ⟨a, dx, es, ev, ok.sub _ _ q⟩
theorem deref_prim {K : PySem.W.Frag} {cl : Cl} {w : Wd} {d u : D} {v : V} (ok : w.Ok K cl) (r : RV K cl w d v) (e : deref d w.S = u) (hu : ∀ H F m a, ¬ CellAt K cl H F m a u) (hp : ∀ i, u ≠ .ptr i) : d = u := by
  unfold deref at e
  split at e
  · rename_i i
    split at e
    · rename_i c hc
      subst e
      obtain ⟨a, ea, ev⟩ := r
      exact (hu _ _ _ _ (ok.cell i a _ ea hc).2).elim
    · exact (hp i e.symm).elim
  · exact e
theorem ty_of {K : PySem.W.Frag} {cl : Cl} {w : Wd} {d : D} {v : V} {n : Tn} (ok : w.Ok K cl) (r : RV K cl w d v) (e : tnOf d w.S = some n) (hI : ∀ c, n = .o c → Isi K (cl c)) : TyX K w.H v (n.v cl) := by
  unfold tnOf at e
  cases h : deref d w.S with
  | non =>
    rw [h] at e; cases e
    have := deref_prim ok r h (fun _ _ _ _ z => z) (fun _ z => nomatch z)
    subst this
    cases (show v = .non from r)
    exact .base .non
  | bl b =>
    rw [h] at e; cases e
    have := deref_prim ok r h (fun _ _ _ _ z => z) (fun _ z => nomatch z)
    subst this
    cases (show v = .bl b from r)
    exact .base (.bl b)
  | int b =>
    rw [h] at e; cases e
    cases deref_int ok r h
    exact .base (.int b)
  | str b =>
    rw [h] at e; cases e
    cases deref_str ok r h
    exact .base (.str b)
  | tup xs =>
    rw [h] at e; cases e
    obtain ⟨a, vs, ev, h1, h2⟩ := deref_tup ok r h
    subst ev
    rcases h1 with (h1 | ⟨o, h1⟩) | h1
    · exact .base (.tup h1)
    · exact .fTuple h1
    · obtain ⟨o, its, n, h1, h3, _⟩ := h1
      exact .kTuple h1 h3
  | lst xs =>
    rw [h] at e; cases e
    obtain ⟨a, vs, ev, h1, h2⟩ := deref_lst ok r h
    subst ev
    exact .base (.lst h1)
  | rol xs =>
    rw [h] at e; cases e
    obtain ⟨a, vs, ev, h1, h2⟩ := deref_rol ok r h
    subst ev
    rcases h1 with (h1 | ⟨o, h1⟩) | h1
    · exact .base (.lst h1)
    · exact .base (.frz h1)
    · obtain ⟨o, its, n, h1, h3, _⟩ := h1
      exact .kList h1 h3
  | dic ks vs =>
    rw [h] at e; cases e
    obtain ⟨a, es, ev, h1, h2, h3⟩ := deref_dic ok r h
    subst ev
    rcases h1 with h1 | ⟨o, h1⟩
    · exact .base (.dK h1)
    · exact .fDict h1
  | dit ks vs => rw [h] at e; cases e
  | obj c ns vs =>
    rw [h] at e; cases e
    obtain ⟨a, dx, es, ev, h1⟩ := deref_obj ok r h
    subst ev
    have i := hI c rfl
    exact .base (.ins h1 i.cls i.ha i.hn i.htk i.hm)
  | ptr i => rw [h] at e; cases e
/-- isinstance(e, T): tab is the answer by types -/
def dIsi (tab : Tn → Option Bool) (dx : DE) : DE := fun t S => (dx t S).bind fun x S1 => match tnOf x S1 with
  | some n => (match tab n with
    | some b => .ok (.bl b) S1
    | none => .bad)
  | none => .bad
section
variable {X : Cx} {cl : Cl} {W : WX} {e c : Expr} {dx : DE} {p pos : Pos} {vc : V} {uc : Value} {tab : Tn → Option Bool}
theorem u_isi (kc : ClsV vc uc) (ht : ∀ n b, tab n = some b → PySem.W.kitOne X.K (n.v cl) uc = some b ∧ ∀ c, n = .o c → Isi X.K (cl c)) (hg : Gl X "isinstance") (hm : X.mg "isinstance" = none) (he : UE X cl W e dx) (hc : PE X c (tC vc))
    (hs : starEach [e, c] X.env = (false, eval e X.env) :: starEach [c] X.env := by rfl) (hs2 : starEach [c] X.env = (false, eval c X.env) :: starEach [] X.env := by rfl) (hpl : (backTo pos (starEach [c] X.env)).any (·.1) = false := by rfl) :
    UE X cl W (.Call (.Name "isinstance" p) [e, c] [] pos) (dIsi tab dx) :=
  weakE (pe_callB call_isi hg hm (by decide +kernel) (pa_cons he (pa_cons hc pa_nil hs2) hs) (he := hs) (hpl := hpl)) fun σ H Q ⟨w, t, eH, ok, en, q⟩ => by
    refine ⟨w, t, eH, ok, en, OPost.bind q fun x w1 v a1 r1 p1 => ?_⟩
    split at p1
    · rename_i n hn
      split at p1
      · rename_i b hb
        obtain ⟨h1, h2⟩ := ht n b hb
        exact ⟨v, vc, n.v cl, uc, b, rfl, kc, ty_of a1.ok r1 hn h2, h1, p1 w1 _ (Af.refl a1.ok) rfl rfl⟩
      · exact p1.elim
    · exact p1.elim
/-- a built-in type asked of built-in values -/
def tabB (T : String) : Tn → Option Bool
  | .b "NoneType" => some (T == "NoneType")
  | .b "bool" => some (T == "bool" || T == "int")
  | .b "int" => some (T == "int")
  | .b "str" => some (T == "str")
  | .b "tuple" => some (T == "tuple")
  | .b "list" => some (T == "list")
  | .b "dict" => some (T == "dict")
  | _ => none
def tabOk (T : String) : Bool := [("NoneType", T == "NoneType"), ("bool", T == "bool" || T == "int"), ("int", T == "int"), ("str", T == "str"), ("tuple", T == "tuple"), ("list", T == "list"), ("dict", T == "dict")].all fun q => decide (kitB q.1 T = some q.2)
theorem tabB_ok {K : PySem.W.Frag} {T : String} (h : tabOk T = true) : ∀ n b, tabB T n = some b → PySem.W.kitOne K (n.v cl) (.type T) = some b ∧ ∀ c, n = .o c → Isi K (cl c) := by
  intro n b hb
  unfold tabOk at h
  have g : ∀ a r, (a, r) ∈ [("NoneType", T == "NoneType"), ("bool", T == "bool" || T == "int"), ("int", T == "int"), ("str", T == "str"), ("tuple", T == "tuple"), ("list", T == "list"), ("dict", T == "dict")] → kitB a T = some r := fun a r hm => of_decide_eq_true (List.all_eq_true.mp h (a, r) hm)
  unfold tabB at hb
  split at hb
  all_goals first
    | (cases hb; exact ⟨kit_ty (g _ _ (by simp)), fun c z => nomatch z⟩)
    | cases hb
theorem tab_int : tabOk "int" = true := by decide +kernel
theorem tab_bool : tabOk "bool" = true := by decide +kernel
theorem tab_str : tabOk "str" = true := by decide +kernel
theorem tab_tuple : tabOk "tuple" = true := by decide +kernel
theorem tab_dict : tabOk "dict" = true := by decide +kernel
theorem tab_list : tabOk "list" = true := by decide +kernel
/-- an own class asked of own objects -/
def tabO (c : Nat) (cs : List (Nat × Bool)) : Tn → Option Bool
  | .o k => if k = c then some true else cs.lookup k
  | _ => none
theorem tabO_ok {K : PySem.W.Frag} {c : Nat} (i : Isi K (cl c)) : ∀ n b, tabO c [] n = some b → PySem.W.kitOne K (n.v cl) (.ref (cl c)) = some b ∧ ∀ c, n = .o c → Isi K (cl c) := by
  intro n b hb
  unfold tabO at hb
  split at hb
  · split at hb
    · rename_i h
      cases hb
      subst h
      refine ⟨?_, fun c z => by cases z; exact i⟩
      show (if (Value.ref (cl _) == Value.ref (cl _)) = true then some true else _) = _
      rw [if_pos (by simp)]
    · cases hb
  · cases hb
end

/-! ### == by an own def -/
section
variable {X : Cx} {cl : Cl} {W : WX} {k : Nat} {f C : Addr} {fd : FuncData} {ps : List Str} {c : Nat} {h : DF}
def rOwn (K : PySem.W.Frag) (cl : Cl) (c : Nat) (h : DF) : R2 := fun x y H Q => ∃ a b dx dy fs gs, x = .ref a ∧ y = .ref b ∧ H a = some (.ins (cl c) dx fs) ∧ H b = some (.ins (cl c) dy gs) ∧
  spD K cl 2 h [x, y] H (fun v H' => ∃ z, v = .bl z ∧ Q (.bl z) H') fun _ _ _ => False
theorem op_own (F : FnD X cl k f fd ps h) (hr : Room k X.A) (hb : Binds X.K fd ps []) (hp : ps.length = 2) (hs : PySem.W.findIn X.K (.ref (cl c)) "__eq__" = some (some (.ref f))) (hf : PySem.W.isFn X.K (.ref f) = true) :
    OpR X (compareOp .Eq) (rOwn X.K cl c h) := by
  intro pins s σ H x y v u Q I rx ry d
  obtain ⟨a, b, dx, dy, fs, gs, rfl, rfl, ha, hb', hsp⟩ := d
  cases rx
  cases ry
  show wpAny (model X.prog X.w) X.A (richCompare .Eq (.ref a) (.ref b)) (EP X pins σ Q) X.xe s
  obtain ⟨mA, J, _⟩ := ins_get I.hok ha
  obtain ⟨mB, J', _⟩ := ins_get I.hok hb'
  obtain ⟨od, J, _⟩ := J.look
  obtain ⟨od', J', _⟩ := J'.look
  obtain ⟨m, hF⟩ := I.fr
  refine PySem.W.cmp_K (op := .Eq) (tb := .ref (cl c)) hr.units0 hF I.ok.mod.kin J J'.type (by simp [PySem.W.notFirst]) hs hf ?_
  have hsp' : spD X.K cl ps.length h [.ref a, .ref b] H (fun v H' => ∃ z, v = .bl z ∧ Q (.bl z) H') fun _ _ _ => False := by rw [hp]; exact hsp
  have hl := F.len _ _ _ _ hsp'
  have r2 : Vals [V.ref a, V.ref b] [Value.ref a, Value.ref b] := .cons rfl (.cons rfl .nil)
  refine wpAny_call (codeAny_mono (F.run X.A X.stack s H ⟨[.ref a, .ref b], []⟩ [.ref a, .ref b] [.ref a, .ref b] _ _ hr I.env0 (by
    have := hb s [.ref a, .ref b] I.kIn (by simpa using hl)
    simpa using this) r2 hsp') fun r s' hq => ?_)
  cases r with
  | error e => exact (passAt (W := W0) takes0 σ pins H s e s' I hq)
  | ok fl =>
    cases fl with
    | ret w =>
      obtain ⟨z, H', I', rz, bz, ez, q⟩ := I.after hq
      subst ez
      cases rz
      exact ⟨.bl bz, H', I', rfl, q⟩
    | next => exact False.elim hq
    | brk => exact False.elim hq
    | cont => exact False.elim hq
def fEqO (c : Nat) (h : DF) : D → D → Sto → Out D := fun x y S => match objOf x S, objOf y S with
  | some (c1, _, _), some (c2, _, _) => if c1 = c ∧ c2 = c then (viaP h [x, y] S).calm.bind fun z S' => match z with
    | .bl b => .ok (.bl b) S'
    | _ => .bad else .bad
  | _, _ => .bad
theorem d_own {K : PySem.W.Frag} : OpD K cl (rOwn K cl c h) (fEqO c h) := by
  intro w x y vx vy W Q ok rx ry p
  unfold fEqO at p
  split at p
  · rename_i c1 _ _ c2 _ _ h1 h2
    split at p
    · rename_i hc
      obtain ⟨rfl, rfl⟩ := hc
      obtain ⟨a, dx, es, ev, ea, _, _⟩ := objOf_at ok rx h1
      obtain ⟨b, dy, gs, ev', eb, _, _⟩ := objOf_at ok ry h2
      refine ⟨a, b, dx, dy, es, gs, ev, ev', ea, eb, ?_⟩
      refine isP K cl w h [x, y] [vx, vy] _ _ ok ⟨vx, _, rfl, rx, vy, [], rfl, ry, rfl⟩ ?_
      refine OPost.bindTo (R' := RV K cl) p fun z w1 v a1 r1 p1 => ?_
      split at p1
      · rename_i bz
        cases (show v = .bl bz from r1)
        exact ⟨bz, rfl, p1 w1 _ a1 rfl rfl⟩
      · exact p1.elim
    · exact p.elim
  · exact p.elim

/-! ### a property -/
variable {e : Expr} {dx : DE} {fn : Str} {pa g : Addr} {pos : Pos}
def dProp (c : Nat) (h : DF) (dx : DE) : DE := fun t S => (dx t S).bind fun x S1 => match objOf x S1 with
  | some (c', _, _) => if c' = c then (viaP h [x] S1).calm else .bad
  | none => .bad
theorem u_prop (F : FnD X cl k g fd ps h) (hr : Room (k + 1) X.A) (hb : Binds X.K fd ps []) (hp : ps.length = 1) (ck : Cls X.K (cl c)) (hpr : PropOf X.K (cl c) fn pa g) (he : UE X cl W e dx) (hab : attributeBase e fn X.env (eval e X.env) = eval e X.env) :
    UE X cl W (.Attribute e fn pos) (dProp c h dx) :=
  weakE (pe_prop (E := fun _ _ _ => False) he ck hpr F hr hb .nil (fun pins σ H s e s' I q => passAt (W := W0) (X := X.nox) takes0 σ pins H s e s' I q) hab) fun σ H Q ⟨w, t, eH, ok, en, p⟩ => by
    refine ⟨w, t, eH, ok, en, OPost.bind p fun x w1 v a1 r1 p1 => ?_⟩
    split at p1
    · rename_i c' ns vs ho
      split at p1
      · rename_i hc
        subst hc
        obtain ⟨a, dy, es, ev, ea, _, _⟩ := objOf_at a1.ok r1 ho
        refine ⟨a, dy, es, ev, ea, ?_⟩
        have z := isP X.K cl w1 h [x] [v] (fun _ _ _ => False) Q a1.ok (RL.mk1 r1) (by
          cases ho : viaP h [x] w1.S with
          | ok a S => rw [ho] at p1; exact p1
          | exc c ns vs S => rw [ho] at p1; exact p1.elim
          | bad => rw [ho] at p1; exact p1.elim)
        rw [hp]
        rw [ev] at z
        exact z
      · exact p1.elim
    · exact p1.elim
end
end Dl
set_option Elab.async false
set_option linter.all false
set_option maxRecDepth 100000
set_option maxHeartbeats 400000
/-! The data layer: dicts of the written part. -/
namespace Dl
open PySem PyProof.Rows L2

/-- a dict of the written part -/
structure StA (P : Program) (w : World) (K : PySem.W.Frag) (d : Addr) (o : Obj) (es : Array DictEntry) (ep : Nat) (kvs : List (Key × V)) (us : List (Key × Value)) : Prop where
  low : (d == sysModules) = false
  lk : K.lookup d = some o
  hx : o.ExactDict
  od : o.data = .dict es ep
  sz : es.size = kvs.length
  kv : KV kvs us
  le : kvs.length ≤ 1000
  dat : ∀ h : Heap, K.In h → h.DictAt (mixKind P w) d us ep
def Itk' (kvs : List (Key × V)) : It := ⟨fun i _ => i < kvs.length, fun i H x H' => H' = H ∧ ∃ k v, kvs[i]? = some (k, v) ∧ x = kV k, fun i _ => kvs.length ≤ i⟩
def Iti' (kvs : List (Key × V)) : It := ⟨fun i _ => i < kvs.length, fun i H x H' => ∃ T k v, kvs[i]? = some (k, v) ∧ x = .ref T ∧ H T = none ∧ H' = upd H T (.tup [kV k, v]), fun i _ => kvs.length ≤ i⟩
section
variable {P : Program} {w : World} {K : PySem.W.Frag} {d : Addr} {o : Obj} {es : Array DictEntry} {ep : Nat} {kvs : List (Key × V)} {us : List (Key × Value)} {tg : Expr}
theorem turn_keys' (A : StA P w K d o es ep kvs us) (it : Addr) : Turn P w K tg (Itk' kvs) [it] it (fun i h => h.IsKeyIter it d i kvs.length ep) where
  mem := by simp
  obj := fun i h st b hb => by
    have e : b = it := by simpa using hb
    subst e
    obtain ⟨oi, e, c, dd⟩ := st
    exact ⟨oi, e, fun v z => by rw [dd] at z; cases z⟩
  keep := fun i h h' st k => st.at fun oi e => k it (by simp) oi e
  item := by
    intro X hP hw hK hc i pins s σ H E I hf st hg
    subst hP hw hK
    have hi : i < kvs.length := hg
    obtain ⟨f0, f1, f2, f3, f4, f5⟩ := hf it (by simp)
    have hm := A.dat s.heap I.kIn
    obtain ⟨⟨k, v⟩, hkv⟩ : ∃ p, kvs[i]? = some p := ⟨kvs[i], List.getElem?_eq_getElem hi⟩
    obtain ⟨u, hu, ru⟩ := kv_get A.kv hkv
    have hl : kvs.length = us.length := Paired.length A.kv
    rw [hl] at st
    refine wpAny_pyNext_dict_item st hm hu fun key h' hkey st' sb => ?_
    have I1 : Inv X pins σ H { s with heap := h' } := I.turned (t' := s.toks) (fun b ob hb e => (sb.2 b hb).trans e) f0 f1 f3 f4 f5
    obtain ⟨oi, e, c, dd⟩ := id st'
    refine ⟨key, rfl, go_of (s := { s with heap := h' }) e c dd (by decide) ⟨kV k, H, I1, relV_key (show keyIs k key = true from hkey), ⟨rfl, k, v, hkv, rfl⟩, ?_, fun b hb => (hf b hb).1⟩⟩
    show h'.IsKeyIter it d (i + 1) kvs.length _
    rw [hl]
    exact st'
  done := by
    intro X hP hw hK hc i pins s σ H E I hf st hg
    subst hP hw hK
    have hi : kvs.length ≤ i := hg
    obtain ⟨f0, f1, f2, f3, f4, f5⟩ := hf it (by simp)
    exact next_key_end (I.ok.hd hc) st (I.kIn _ _ A.lk) A.od A.sz hi fun h' eb => ⟨rfl, I.turned (t' := s.toks) (fun b ob hb e => eb b ob hb e) f0 f1 f3 f4 f5⟩
  self := fun A i s Q E st h => wpAny_pyIter_keyiter st h
theorem turn_items' {elts : List Expr} {kk : Nat} {tpos : Pos} (A : StA P w K d o es ep kvs us) (it : Addr) :
    Turn P w K (.Tuple elts kk tpos) (Iti' kvs) [it] it (fun i h => ∃ ok ov, IsItemIter h it d i kvs.length ep ok ov) where
  mem := by simp
  obj := fun i h st b hb => by
    have e : b = it := by simpa using hb
    subst e
    obtain ⟨ok, ov, e⟩ := st
    exact ⟨_, e, fun v z => nomatch z⟩
  keep := fun i h h' st k => let ⟨ok, ov, e⟩ := st; ⟨ok, ov, k it (by simp) _ e⟩
  item := by
    intro X hP hw hK hc i pins s σ H E I hf st hg
    subst hP hw hK
    have hi : i < kvs.length := hg
    have hm := A.dat s.heap I.kIn
    obtain ⟨⟨k, v⟩, hkv⟩ : ∃ p, kvs[i]? = some p := ⟨kvs[i], List.getElem?_eq_getElem hi⟩
    obtain ⟨u, hu, ru⟩ := kv_get A.kv hkv
    have hl : kvs.length = us.length := Paired.length A.kv
    obtain ⟨ok, ov, he⟩ := st
    rw [hl] at he
    have hlt : it < s.heap.objs.size := Heap.lt_size he
    refine wpAny_pyNext_items_item he hm hu fun key h' hkey ho hT hz hk => ?_
    refine ⟨_, rfl, wpAny_letOwnedTupleGo_items (s := { s with heap := h' }) ho fun h'' he' sb => ?_⟩
    have hT2 : h''.get? s.heap.objs.size = some { cls := .type "tuple", data := .seq #[key, u] } := (sb.2 _ (Nat.ne_of_gt hlt)).trans hT
    have new : ObjOk X.prog X.w (upd H s.heap.objs.size (.tup [kV k, v])) h'' s.heap.objs.size (.tup [kV k, v]) :=
      ⟨by show 2 ≤ sizeLine; decide, [key, u], .cons (relV_key (show keyIs k key = true from hkey)) (.cons ru .nil), ⟨_, hT2, rfl, _, rfl⟩⟩
    have I1 : Inv X pins σ (upd H s.heap.objs.size (.tup [kV k, v])) { s with heap := h'' } :=
      I.turnedNew (t' := s.toks) (ch := [it]) (fun b ob hb e => (sb.2 b (by simpa using hb)).trans (hk b ob (by simpa using hb) e)) hf (Nat.le_refl _) new
    refine ⟨.ref s.heap.objs.size, _, I1, rfl, ⟨_, k, v, hkv, rfl, I.hok.fresh (Nat.le_refl _), rfl⟩, ⟨key, u, ?_⟩, fun b hb => ?_⟩
    · rw [hl]; exact he'
    · have e : b = it := by simpa using hb
      rw [e, upd_ne (Nat.ne_of_lt hlt)]
      exact (hf it (by simp)).1
  done := by
    intro X hP hw hK hc i pins s σ H E I hf st hg
    subst hP hw hK
    have hi : kvs.length ≤ i := hg
    obtain ⟨f0, f1, f2, f3, f4, f5⟩ := hf it (by simp)
    have hm := A.dat s.heap I.kIn
    have hl : kvs.length = us.length := Paired.length A.kv
    obtain ⟨ok, ov, he⟩ := st
    rw [hl] at he
    exact wpAny_pyNext_items_end (I.ok.hd hc) he hm (List.getElem?_eq_none (by omega)) fun h' eb => ⟨rfl, I.turned (t' := s.toks) (fun b ob hb e => eb b ob hb e) f0 f1 f3 f4 f5⟩
  self := fun A i s Q E st h => let ⟨_, _, e⟩ := st; PySem.W.kcp_self e h
end
section
variable {X : Cx} {cl : Cl} {W : WX} {e i : Expr} {di : DE} {d : Addr} {o : Obj} {es : Array DictEntry} {ep : Nat} {kvs : List (Key × V)} {us : List (Key × Value)} {tg : Expr} {p pos apos cpos tpos : Pos} {ks vs : List D}
/-- the data of a written dict -/
structure StR (K : PySem.W.Frag) (cl : Cl) (kvs : List (Key × V)) (ks vs : List D) : Prop where
  k : ∀ H m, Reps K cl H m ks (kvs.map fun e => kV e.1)
  v : ∀ H m, Reps K cl H m vs (kvs.map (·.2))
def dConst (xs : List D) : DA := fun _ S => .ok xs S
theorem i_keysK (A : StA X.prog X.w X.K d o es ep kvs us) (R : StR X.K cl kvs ks vs) (he : PE X e (tC (.ref d))) : UI X cl W tg e (dConst ks) := ⟨fun pins s σ H Q I ⟨w, t, eH, ok, en, q⟩ => by
  refine thn (he.run pins s σ H (fun v H1 => v = .ref d ∧ H1 = H) I ⟨rfl, rfl⟩) fun u s1 ⟨x, H1, I1, rx, ex, eh⟩ => ?_
  subst ex
  subst eh
  subst eH
  obtain rfl : u = Value.ref d := rx
  refine iter_keys A.low (I1.kIn _ _ A.lk) A.hx A.od (pi_one (tk := s1.toks) I1 _ (turn_keys' A _) ⟨_, Heap.get?_push_size _ rfl, rfl, ?_⟩ ?_)
  · rw [A.sz] <;> rfl
  · refine q w _ (Af.refl ok) rfl fun w2 x i => ⟨fun z hz => ?_, fun hi => ?_⟩
    · obtain ⟨u, hu, ru⟩ := (R.k w2.F w2.m).get hz
      obtain ⟨kv, hkv, ekv⟩ := map_get hu
      refine ⟨(List.getElem?_eq_some_iff.mp hkv).1, fun v' H' ⟨eH', k, v2, h1, h2⟩ => ⟨w2, eH'.symm, Af.refl x.ok, rfl, ?_⟩⟩
      rw [hkv] at h1
      cases h1
      have ekv' : v' = u := h2.trans ekv
      rw [ekv']
      exact ru
    · have := Reps.length (R.k w2.F w2.m)
      rw [List.length_map] at this
      show kvs.length ≤ i
      omega⟩
theorem i_itemsK {elts : List Expr} {kk : Nat} (A : StA X.prog X.w X.K d o es ep kvs us) (R : StR X.K cl kvs ks vs) (he : PE X e (tC (.ref d))) (hbase : attributeBase e "items" X.env (eval e X.env) = eval e X.env := by rfl) (hline : (apos.endLine == cpos.line) = true := by rfl) :
    UI X cl W (.Tuple elts kk tpos) (.Call (.Attribute e "items" apos) [] [] cpos) (dConst (pairsD ks vs)) := ⟨fun pins s σ H Q I ⟨w, t, eH, ok, en, q⟩ => by
  refine wpAny_Call_method (T := "dict") (id := "dict.items") hbase rfl hline F.plainAttrs_dict F.slot_dict_items F.type_dict_items (thn (he.run pins s σ H (fun v H1 => v = .ref d ∧ H1 = H) I ⟨rfl, rfl⟩) fun u s1 ⟨x, H1, I1, rx, ex, eh⟩ => ?_)
  subst ex
  subst eh
  subst eH
  obtain rfl : u = Value.ref d := rx
  have hm := A.dat s1.heap I1.kIn
  have hl : kvs.length = us.length := Paired.length A.kv
  refine ⟨hm.dictOf.typeIs, hm.dictOf.mapOf.noDict, ?_⟩
  have I2 : Inv X pins σ w.H { s1 with heap := s1.heap.push { cls := .type "dict_items", data := .fields #[.ref d] } } := I1.kept (t' := s1.toks) fun b ob q => Heap.get?_push_of_some _ q
  have fin : wpAny (model X.prog X.w) X.A (pyIter (.ref s1.heap.objs.size)) (PIE X pins σ (.Tuple elts kk tpos) Q) X.xe { s1 with heap := s1.heap.push { cls := .type "dict_items", data := .fields #[.ref d] } } := by
    refine wpAny_pyIter_items (d := d) (knd := mixKind X.prog X.w) ⟨_, Heap.get?_push_size _ rfl, rfl, rfl⟩ (hm.push _) (pi_one (tk := s1.toks) I2 _ (turn_items' A _) ⟨.none, .none, ?_⟩ ?_)
    · rw [hl]
      exact Heap.get?_push_size _ rfl
    · refine q w _ (Af.refl ok) rfl fun w2 x i => ⟨fun z hz => ?_, fun hi => ?_⟩
      · obtain ⟨x1, y1, g1, g2, g3⟩ := pairs_get _ _ _ hz
        obtain ⟨u, hu, ru⟩ := (R.k w2.F w2.m).get g1
        obtain ⟨u2, hu2, ru2⟩ := (R.v w2.F w2.m).get g2
        obtain ⟨kv, hkv, ekv⟩ := map_get hu
        rw [List.getElem?_map, hkv] at hu2
        have hu2' : kv.2 = u2 := by simpa using hu2
        refine ⟨(List.getElem?_eq_some_iff.mp hkv).1, fun v' H' ⟨T, k, v2, h1, h2, hT, h3⟩ => ?_⟩
        rw [hkv] at h1
        cases h1
        obtain ⟨w3, q1, q2, q3, q4⟩ := tup_laid (ds := [x1, y1]) x.ok hT (Reps.cons (ekv ▸ ru) (Reps.one (hu2' ▸ ru2)))
        refine ⟨w3, q1.trans h3.symm, q2, q3, ?_⟩
        rw [h2, g3]
        exact q4
      · have h1 := Reps.length (R.k w2.F w2.m)
        have h2 := Reps.length (R.v w2.F w2.m)
        rw [List.length_map] at h1 h2
        rw [pairs_len] at hi
        show kvs.length ≤ i
        omega
  show wpAny _ _ (callWith cpos (.builtin "dict.items") [.ref d] [] []) _ X.xe s1
  exact method_meetsIn F.slot_dict_items F.entry_dict_items rfl (PySem.evalArgs_none ⟨rfl, hm.dictOf.typeIs, F.args_dict_items_1 _, _, meets_dict_items (mixKind X.prog X.w) d A.low, ⟨us, hm.dictOf⟩, fin⟩)⟩
def dIxK (ks vs : List D) : D → Sto → Out D := fun y S => match keyD y with
  | some q => (match dicGet ks vs q with | some d => .ok d S | none => .bad)
  | none => .bad
def rIxK (d : Addr) (kvs : List (Key × V)) : R2 := fun x y H Q => ∃ k v, x = .ref d ∧ y = kV k ∧ valV kvs k = some v ∧ Q v H
theorem ix_K (A : StA X.prog X.w X.K d o es ep kvs us) : IxR X (rIxK d kvs) := by
  intro value slice pins s σ H x y v u Q I rx ry h hs
  obtain ⟨k, r, rfl, rfl, hv, q⟩ := h
  obtain rfl : v = Value.ref d := rx
  have hm := A.dat s.heap I.kIn
  obtain ⟨w', hw, rw'⟩ := RelO.some_of (v := r) (o := valueAt us k) (by rw [← hv]; exact A.kv.val k)
  exact tail_any hm.dictOf.typeIs slot_dict_getitem.lookup (wpAny_getItem_of (kV_is ry) hm.dictOf.mapOf hw ⟨r, H, I.tok _, rw', q⟩) hs
theorem u_ixK (A : StA X.prog X.w X.K d o es ep kvs us) (R : StR X.K cl kvs ks vs) (he : PE X e (tC (.ref d))) (hi : UE X cl W i di) (hs : PlainIx i := by exact fun _ _ => rfl) : UE X cl W (.Subscript e i pos) (dUn (dIxK ks vs) di) :=
  weakE (pe_ix (ix_K A) he hi hs) fun σ H Q ⟨w, t, eH, ok, en, q⟩ => by
    refine ⟨w, t, eH, ok, en, OPost.bind q fun y w1 vy a1 r1 p1 => ?_⟩
    unfold dIxK at p1
    split at p1
    · rename_i k hk
      split at p1
      · rename_i dd hd
        have z := dicGet_rep (q := k) (R.k w1.F w1.m) (R.v w1.F w1.m)
        rw [hd] at z
        obtain ⟨v, z1, z2⟩ := z
        exact ⟨k, v, rfl, keyD_rep r1 hk, z1, p1 w1 v (Af.refl a1.ok) rfl z2⟩
      · exact p1.elim
    · exact p1.elim
theorem call_lenK (A : StA X.prog X.w X.K d o es ep kvs us) : CallR X (.builtin "len") (fun xs H Q => xs = [.ref d] ∧ Q (.int (kvs.length : Nat)) H) := by
  intro pins s σ H xs vs Q I r h
  obtain ⟨rfl, q⟩ := h
  obtain ⟨u, rfl, ru⟩ := vals1 r
  cases ru
  have hm := A.dat s.heap I.kIn
  have hl : kvs.length = us.length := Paired.length A.kv
  refine call_len_dict A.low hm.dictOf (by rw [← hl]; have := A.le; omega) ?_
  rw [← hl]
  exact ⟨.int kvs.length, H, I.tok _, ⟨_, rfl⟩, q⟩
theorem u_lenK (A : StA X.prog X.w X.K d o es ep kvs us) (hg : Gl X "len") (hm : X.mg "len" = none) (he : PE X e (tC (.ref d))) (hs : starEach [e] X.env = (false, eval e X.env) :: starEach [] X.env := by rfl) :
    UE X cl W (.Call (.Name "len" p) [e] [] pos) (dC (.int (kvs.length : Nat))) :=
  weakE (pe_callB (call_lenK A) hg hm boot_len (pa_cons he pa_nil hs) (he := hs)) fun σ H Q ⟨w, t, eH, ok, en, q⟩ => by
    subst eH
    exact ⟨rfl, q w _ (Af.refl ok) rfl rfl⟩
theorem call_listK (hcalm : X.calm = true) (A : StA X.prog X.w X.K d o es ep kvs us) : CallR X (.type "list") (fun xs H Q => xs = [.ref d] ∧ ∀ p, H p = none → Q (.ref p) (upd H p (.lst (kvs.map fun kv => kV kv.1)))) := by
  intro pins s σ H xs vs Q I r q
  obtain ⟨ex, q⟩ := q
  subst ex
  obtain ⟨u, eu, rx⟩ := vals1 r
  subst eu
  cases rx
  have hat := A.dat s.heap I.kIn
  have hl : kvs.length = us.length := Paired.length A.kv
  have z : kvs.length ≤ sizeLine := Nat.le_trans A.le (by decide)
  have ek : (kvs.map fun kv => kV kv.1) = us.map fun p => kV p.1 := by
    have e := congrArg (List.map kV) A.kv.keys
    rw [List.map_map, List.map_map] at e
    exact e
  refine PySem.W.kdl_call (PySem.W.kdl_dict (knd := mixKind X.prog X.w) (kvs := us) (ep := ep) A.low) (I.ok.hd hcalm) hat (by rw [← hl]; exact z) fun h' tk acc c' hk hD hacc => ?_
  have hv : Vals (us.map fun p => kV p.1) acc.toList := keys_at (by rw [Array.length_toList]; exact hacc.1) fun j v e => hacc.2 j v (by rw [← Array.getElem?_toList]; exact e)
  refine ⟨.ref s.heap.objs.size, upd H s.heap.objs.size (.lst (kvs.map fun kv => kV kv.1)), I.laid (t' := tk) hk (Nat.le_refl _)
    (show ObjOk X.prog X.w _ _ _ (.lst (kvs.map fun kv => kV kv.1)) from ⟨by rw [List.length_map]; exact z, acc.toList, c', by rw [ek]; exact hv, by rw [Array.toArray_toList]; exact hD⟩), rfl, q _ (I.hok.fresh (Nat.le_refl _))⟩
theorem u_listK (A : StA X.prog X.w X.K d o es ep kvs us) (R : StR X.K cl kvs ks vs) (hcalm : X.calm = true) (hg : Gl X "list") (hm : X.mg "list" = none) (he : PE X e (tC (.ref d))) (hs : starEach [e] X.env = (false, eval e X.env) :: starEach [] X.env := by rfl) :
    UE X cl W (.Call (.Name "list" p) [e] [] pos) (dC (.lst ks)) :=
  weakE (pe_callTy (call_listK hcalm A) hg hm (by decide +kernel) (pa_cons he pa_nil hs) (he := hs)) fun σ H Q ⟨w, t, eH, ok, en, q⟩ => by
    subst eH
    refine ⟨rfl, fun l hl => ?_⟩
    exact q ⟨upd w.H l (.lst (kvs.map fun kv : Key × V => kV kv.1)), upd w.F l (.lst (kvs.map fun kv : Key × V => kV kv.1)), w.m, w.S⟩ (.ref l) (ok.laid hl) rfl (laidLst ok hl (R.k w.F w.m))
end

/-! ### from the head -/
def stK (ks : List Str) (vs : List V) : List (Key × V) := match ks, vs with
  | k :: ks, v :: vs => (.inr k, v) :: stK ks vs
  | _, _ => []
def stU (ks : List Str) (vs : List Value) : List (Key × Value) := match ks, vs with
  | k :: ks, v :: vs => (.inr k, v) :: stU ks vs
  | _, _ => []
theorem st_kv : ∀ {ks : List Str} {vs : List V} {us : List Value}, Vals vs us → KV (stK ks vs) (stU ks us)
  | [], _, _, _ => .nil
  | k :: ks, _, _, .nil => .nil
  | k :: ks, _, _, .cons h t => .cons ⟨rfl, h⟩ (st_kv t)
theorem st_keys {us : List Value} : ∀ {ks : List Str}, ∀ p ∈ (stU ks us).map (·.1), ∃ k ∈ ks, p = .inr k := by
  induction us with
  | nil => intro ks p hp; cases ks <;> cases hp
  | cons u us ih =>
    intro ks p hp
    cases ks with
    | nil => cases hp
    | cons k ks =>
      rcases List.mem_cons.mp hp with e | hp
      · exact ⟨k, List.mem_cons_self, e⟩
      · obtain ⟨k', h1, h2⟩ := ih p hp
        exact ⟨k', List.mem_cons_of_mem _ h1, h2⟩
theorem st_nodup : ∀ {ks : List Str} {us : List Value}, ks.Nodup → ((stU ks us).map (·.1)).Nodup
  | [], _, _ => .nil
  | k :: ks, [], _ => .nil
  | k :: ks, u :: us, h => by
    obtain ⟨h1, h2⟩ := List.nodup_cons.mp h
    refine List.nodup_cons.mpr ⟨fun hm => ?_, st_nodup h2⟩
    obtain ⟨k', h3, h4⟩ := st_keys _ hm
    cases h4
    exact h1 h3
theorem st_pairs {P : Program} {w : World} : ∀ {es : List DictEntry} {ks : List Str}, es.map He.keyOf = He.keysIn w.params ks → Pairs (mixKind P w) es (stU ks (es.map (·.val))) ∧ ∀ e ∈ es, ∃ k, (mixKind P w).is k e.key = true ∧ e.hash = (mixKind P w).hash k
  | [], [], _ => ⟨.nil, fun e he => nomatch he⟩
  | [], k :: ks, h => by cases h
  | e :: es, [], h => by cases h
  | e :: es, k :: ks, h => by
    have h1 : He.keyOf e :: es.map He.keyOf = some (k, PyData.keyHash w.params k) :: He.keysIn w.params ks := h
    injection h1 with h2 h3
    obtain ⟨i1, i2⟩ := st_pairs h3
    unfold He.keyOf at h2
    split at h2
    · rename_i x t q
      have h4 := Option.some.inj h2
      obtain ⟨h5, h6⟩ := Prod.mk.inj h4
      have a : (mixKind P w).is (.inr k) e.key = true := by rw [q, h5]; exact mixKind_str P w k t
      refine ⟨.cons a rfl i1, fun e' he => ?_⟩
      rcases List.mem_cons.mp he with z | he
      · exact ⟨.inr k, by rw [z]; exact a, by rw [z, h6]; rfl⟩
      · exact i2 e' he
    · cases h2
/-! ### data of the written part, checked -/
mutual
def repB (K : PySem.W.Frag) : D → Value → Bool
  | .non, .none => true
  | .bl b, .bool c => b == c
  | .int i, .int j _ => decide (i = j)
  | .str x, .str y _ => decide (x = y)
  | .tup ds, .ref a => (match K.lookup a with
    | some ⟨.type c, _, .seq its _, _⟩ => decide (c = "tuple") && (decide (its.size ≤ 1000) && repsB K ds its.toList)
    | _ => false)
  | _, _ => false
def repsB (K : PySem.W.Frag) : List D → List Value → Bool
  | [], [] => true
  | d :: ds, v :: vs => repB K d v && repsB K ds vs
  | _, _ => false
end
section
variable {K : PySem.W.Frag} {cl : Cl}
mutual
theorem repB_ok : ∀ {d : D} {u : Value}, repB K d u = true → ∃ v, RelV v u ∧ ∀ H m, Rep K cl H m d v
  | .non, u, h => by
    cases u with
    | none => exact ⟨.non, rfl, fun _ _ => rfl⟩
    | _ => cases h
  | .bl b, u, h => by
    cases u with
    | bool c =>
      have e : b = c := by simpa [repB] using h
      exact ⟨.bl b, by rw [e]; rfl, fun _ _ => rfl⟩
    | _ => cases h
  | .int i, u, h => by
    cases u with
    | int c t =>
      have e : i = c := by simpa [repB] using h
      exact ⟨.int i, ⟨t, by rw [e]⟩, fun _ _ => rfl⟩
    | _ => cases h
  | .str x, u, h => by
    cases u with
    | str c t =>
      have e : x = c := by simpa [repB] using h
      exact ⟨.str x, ⟨t, by rw [e]⟩, fun _ _ => rfl⟩
    | _ => cases h
  | .tup ds, u, h => by
    cases u with
    | ref a =>
      unfold repB at h
      split at h
      · rename_i c od its n sl hl
        obtain ⟨h1, h2⟩ := He.ba h
        obtain ⟨h3, h4⟩ := He.ba h2
        obtain ⟨vs, r1, r2⟩ := repsB_ok h4
        have e1 : c = "tuple" := of_decide_eq_true h1
        have e2 : its.size ≤ 1000 := of_decide_eq_true h3
        exact ⟨.ref a, rfl, fun H m => ⟨a, vs, rfl, .inr (.inr ⟨_, its, n, hl, by rw [e1], rfl, Nat.le_trans e2 (by decide), r1⟩), r2 H m⟩⟩
      · cases h
    | _ => cases h
  | .lst _, u, h => by cases u <;> cases h
  | .rol _, u, h => by cases u <;> cases h
  | .dic _ _, u, h => by cases u <;> cases h
  | .dit _ _, u, h => by cases u <;> cases h
  | .obj _ _ _, u, h => by cases u <;> cases h
  | .ptr _, u, h => by cases u <;> cases h
theorem repsB_ok : ∀ {ds : List D} {us : List Value}, repsB K ds us = true → ∃ vs, Vals vs us ∧ ∀ H m, Reps K cl H m ds vs
  | [], [], _ => ⟨[], .nil, fun _ _ => rfl⟩
  | [], _ :: _, h => by cases h
  | _ :: _, [], h => by cases h
  | d :: ds, u :: us, h => by
    obtain ⟨h1, h2⟩ := He.ba (show (repB K d u && repsB K ds us) = true from h)
    obtain ⟨v, a1, a2⟩ := repB_ok h1
    obtain ⟨vs, b1, b2⟩ := repsB_ok h2
    exact ⟨v :: vs, .cons a1 b1, fun H m => ⟨v, vs, rfl, a2 H m, b2 H m⟩⟩
end
end
def stB (a : PySem.W.Frag → Addr) (ds : List D) (K : PySem.W.Frag) : Bool := match K.lookup (a K) with
  | some ⟨_, _, .dict es _, _⟩ => repsB K ds (es.toList.map (·.val))
  | _ => false
theorem st_keysR {K : PySem.W.Frag} {cl : Cl} {H : Hp} {m : List Addr} : ∀ {ks : List Str} {vs : List V}, ks.length = vs.length → Reps K cl H m (ks.map .str) ((stK ks vs).map fun e => kV e.1)
  | [], _, _ => rfl
  | k :: ks, [], h => by cases h
  | k :: ks, v :: vs, h => ⟨.str k, _, rfl, rfl, st_keysR (by simpa using h)⟩
theorem st_vals : ∀ {ks : List Str} {vs : List V}, ks.length = vs.length → (stK ks vs).map (·.2) = vs
  | [], [], _ => rfl
  | [], v :: vs, h => by cases h
  | k :: ks, [], h => by cases h
  | k :: ks, v :: vs, h => by
    show v :: (stK ks vs).map (·.2) = v :: vs
    rw [st_vals (by simpa using h)]
theorem st_lenK : ∀ {ks : List Str} {vs : List V}, ks.length = vs.length → (stK ks vs).length = ks.length
  | [], [], _ => rfl
  | [], v :: vs, h => by cases h
  | k :: ks, [], h => by cases h
  | k :: ks, v :: vs, h => by
    show (stK ks vs).length + 1 = ks.length + 1
    rw [st_lenK (by simpa using h)]
/-- what the head's facts say of a written dict -/
theorem st_ok {P : Program} {w : World} {K : PySem.W.Frag} {cl : Cl} {a : PySem.W.Frag → Addr} {ks : List Str} {ds : List D} (h1 : He.dicW K (a K) = some (He.keysIn w.params ks)) (h2 : stB a ds K = true) (nd : ks.Nodup) (hlen : ks.length ≤ 1000) :
    ∃ o es ep kvs us, StA P w K (a K) o es ep kvs us ∧ StR K cl kvs (ks.map .str) ds ∧ kvs.length = ks.length := by
  unfold He.dicW at h1
  unfold stB at h2
  cases q : K.lookup (a K) with
  | none => rw [q] at h1; cases h1
  | some o =>
    obtain ⟨oc, od, dt, osl⟩ := o
    rw [q] at h1 h2
    cases oc with
    | type c =>
      cases od with
      | none =>
        cases dt with
        | dict es n =>
          have h1' : (match decide (c = "dict") && (osl.isEmpty && !(a K == sysModules)) with
            | true => some (es.toList.map He.keyOf)
            | false => none) = some (He.keysIn w.params ks) := h1
          cases z : decide (c = "dict") && (osl.isEmpty && !(a K == sysModules)) with
          | false => rw [z] at h1'; cases h1'
          | true =>
            rw [z] at h1'
            obtain ⟨z1, z2⟩ := He.ba z
            obtain ⟨z3, z4⟩ := He.ba z2
            have e1 : c = "dict" := of_decide_eq_true z1
            have e2 : osl = #[] := Array.isEmpty_iff.mp z3
            have e3 : (a K == sysModules) = false := by
              cases y : a K == sysModules with
              | false => rfl
              | true => rw [y] at z4; cases z4
            subst e1 e2
            have hk : es.toList.map He.keyOf = He.keysIn w.params ks := Option.some.inj h1'
            have h2' : repsB K ds (es.toList.map (·.val)) = true := h2
            obtain ⟨vs, r1, r2⟩ := repsB_ok (cl := cl) h2'
            obtain ⟨p1, p2⟩ := st_pairs (P := P) hk
            have hl1 : es.toList.length = ks.length := by
              have := congrArg List.length hk
              simpa [He.keysIn] using this
            have hl2 : vs.length = ks.length := by
              rw [r1.length, List.length_map, hl1]
            refine ⟨_, es, n, stK ks vs, stU ks (es.toList.map (·.val)), ⟨e3, q, ⟨rfl, rfl, rfl⟩, rfl, ?_, st_kv r1, ?_, fun h hK => ⟨_, es, hK _ _ q, ⟨rfl, rfl, rfl⟩, rfl, fun e he => p2 e (Array.mem_toList_iff.mpr he), p1, st_nodup nd⟩⟩, ⟨fun H m => st_keysR hl2.symm, fun H m => by rw [st_vals hl2.symm]; exact r2 H m⟩, st_lenK hl2.symm⟩
            · rw [st_lenK hl2.symm, ← hl1, Array.length_toList]
            · rw [st_lenK hl2.symm]; exact hlen
        | _ => cases h1
      | some b => cases dt <;> cases h1
    | _ => cases od <;> cases dt <;> cases h1
/-- a name of the module that stands for written data -/
theorem u_glob {X : Cx} {cl : Cl} {W : WX} {x : Str} {u : Value} {d : D} {pos : Pos} (hg : Gl X x) (hm : X.mg x = some u) (h : repB X.K d u = true) (hd : (x == ("__debug__" : Str)) = false := by decide) : UE X cl W (.Name x pos) (dC d) := by
  obtain ⟨v, r1, r2⟩ := repB_ok (cl := cl) h
  exact u_c (pe_glob hg hm r1 hd) r2
end Dl
set_option Elab.async false
set_option linter.all false
set_option maxRecDepth 100000
set_option maxHeartbeats 400000
/-! The data layer: defs whole, the head's facts. -/
namespace Dl
open PySem PyProof.Rows L2

section
variable {X : Cx} {cl : Cl} {W : WX} {e a b : Expr} {p pos : Pos}
/-- {k: v, ..} that is still to change -/
def dDispC (l : List (DE × DE)) : DE := fun t S => (dPairs l t S).bind fun q S1 => if q.1.length ≤ 15 then (match dicMerge q.1 q.2 ([], []) with
  | some b => .ok (.ptr S1.length) (S1 ++ [some (.dic b.1 b.2)])
  | none => .bad) else .bad
theorem u_dispC {keys : List (Option Expr)} {values : List Expr} {l : List (DE × DE)} (h : UPs X cl W pos keys values l) (hall : keys.all (·.isSome) = true := by rfl) (hl : keys.length = values.length := by rfl) (h0 : keys ≠ [] := by exact nofun)
    (h15 : keys.length ≤ 15 := by decide) : UE X cl W (.Dict keys values pos) (dDispC l) := weakE (pe_disp h hall hl h0 h15) fun σ H Q ⟨w, t, eH, ok, en, p⟩ => fun D hD => by
  subst eH
  have g : Blind X.K cl w _ D (.dK []) := .new ok hD
  refine le_pairs g.af (en.af g.af) p fun q w2 ps a2 r2 p2 => ?_
  have g2 := g.step a2
  refine ⟨g2.at_, ?_⟩
  split at p2
  · rename_i h15
    split at p2
    · rename_i b hb
      obtain ⟨kvs, e1, e2, e3⟩ := merge_rep (es := []) r2.1 r2.2 (show Reps _ _ _ _ [] [] from rfl) (show Reps _ _ _ _ [] [] from rfl) hb
      refine ⟨kvs, e1, ?_, ?_⟩
      · have := Reps.length r2.1
        rw [e1, List.length_map, List.length_map] at this
        omega
      · have g3 := g2.write (.dK (mergeK [] kvs))
        exact p2 ⟨upd w2.H D (.dK (mergeK [] kvs)), w2.F, w2.m ++ [D], w2.S ++ [some (.dic b.1 b.2)]⟩ (.ref D) (g3.celled (d := .dic b.1 b.2) ⟨_, upd_same, e2, e3⟩) rfl ⟨D, snoc_get g3.af.ok.len.symm, rfl⟩
    · exact p2.elim
  · exact p2.elim
/-- x, y = a, b -/
def dPar (i j : Nat) (da : DA) : DS := fun t S => ofE (da t S) t fun xs S1 => match xs with
  | [x, y] => .nx ((t.set i (some x)).set j (some y)) S1
  | _ => .bad
theorem s_par {i j : Nat} {x y : Str} {da : DA} {px py pt : Pos} {kt k2 pt2} (hc : X.calm = true) (hN : X.N.Nodup) (hi : X.N[i]? = some x) (hj : X.N[j]? = some y) (hij : i ≠ j)
    (hx : X.env.scope.names.lookup x = some .local) (hy : X.env.scope.names.lookup y = some .local) (ha : UA X cl W [a, b] da)
    (hw : swappedStores [.Tuple [.Name x px, .Name y py] kt pt] (.Tuple [a, b] k2 pt2) X.env = pure (some [x, y]) := by rfl)
    (hs : swapsWithSole [.Tuple [.Name x px, .Name y py] kt pt] (.Tuple [a, b] k2 pt2) pos.line X.env = pure false := by rfl) :
    US X cl W (.Assign [.Tuple [.Name x px, .Name y py] kt pt] (.Tuple [a, b] k2 pt2) pos) (dPar i j da) := weakS (ps_par hc hN hi hj hij hx hy ha hw hs) fun N σ H ⟨w, t, eH, ok, en, p⟩ => by
  refine ⟨w, t, eH, ok, en, SPost.ofE p en fun xs w1 vs a1 r1 en1 p1 => ?_⟩
  split at p1
  · rename_i x y
    obtain ⟨v, v', e1, r2, r3⟩ := RL.two r1
    exact ⟨v, v', e1, p1 w1 _ (Af.refl a1.ok) rfl ((en1.set r2).set r3)⟩
  · exact p1.elim
theorem u_v (i : Nat) {x : Str} (hi : X.N[i]? = some x := by rfl) (hv : Vis X.env.scope x := by first | exact .inl rfl | exact .inr (.inl rfl) | exact .inr (.inr rfl)) (hd : (x == ("__debug__" : Str)) = false := by decide) (hcd : (x == ("__classdict__" : Str)) = false := by decide) :
    UE X cl W (.Name x p) (dVar i) := u_var (pe_var hi hv hd hcd)
end

/-! ### a def whole -/
def runF (n m : Nat) (d : DS) : DF := fun xs S => match d (xs.map some ++ List.replicate (m - n) none) S with
  | .nx _ S1 => .ok .non S1
  | .rt x S1 => .ok x S1
  | .exc _ c ns vs S1 => .exc c ns vs S1
  | _ => .bad
section
variable {P : Program} {w : World} {K : PySem.W.Frag} {mg : Str → Option Value} {base : Heap} {x qual : Str} {params : Arguments} {body : List Stmt} {scope : Scope} {dvs : List V} {kws : List (Str × V)} {f : Addr} {fd : FuncData} {N ps : List Str} {k : Nat} {cl : Cl} {d : DS}
/-- the wish of a def about what leaves it -/
abbrev WD (E : XK) : WX := fun c d _ H => E c d H
theorem takesD {qual : Str} {f : Addr} {cdv : Value} {A : Around} {outer : List Env} {s : Shared} {H : Hp} {E : XK} : Takes (cxOf (L2.CX P w) P w K mg base N qual scope f cdv A outer s H E) (WD E) := takes_of rfl rfl rfl rfl
theorem env_start {w : Wd} {ds : List D} {vs : List V} (r : RL K cl w ds vs) : EnvR K cl w (ds.map some ++ List.replicate (N.length - ds.length) none) (L2.start N vs) := by
  have hl := Reps.length r
  refine ⟨?_, fun i d h => ?_⟩
  · unfold L2.start
    simp [hl]
  · unfold L2.start
    by_cases hi : i < ds.length
    · rw [List.getElem?_append_left (by simpa using hi), List.getElem?_map] at h
      cases hd : ds[i]? with
      | none => rw [hd] at h; cases h
      | some d' =>
        rw [hd] at h
        cases h
        obtain ⟨v, h1, h2⟩ := Reps.get r hd
        refine ⟨v, ?_, h2⟩
        rw [List.getElem?_append_left (by rw [List.length_map, ← hl]; exact hi), List.getElem?_map, h1]
        rfl
    · rw [List.getElem?_append_right (by simpa using hi)] at h
      rw [List.getElem?_replicate] at h
      split at h <;> cases h
theorem fn_D (F : FunD K x qual params body scope dvs kws f fd) (S : FnScope N ps scope) (hN : ps.length ≤ N.length)
    (hb : ∀ (cdv : Value) (A : Around) (outer : List Env) (s : Shared) (H : Hp) (E : XK), Room k (A.deeper (envOfC qual scope s.heap.objs.size f cdv)) → USs (cxOf (L2.CX P w) P w K mg base N qual scope f cdv A outer s H E) cl (WD E) body d) :
    FnOk P w K mg base (L2.CX P w) (k + 1) f fd ps (spD K cl ps.length (runF ps.length N.length d)) := by
  refine F.ok S (fun vs H Q E h => h.1) fun cdv A outer s H vs Q E hr h => ⟨_, hb cdv A outer s H E hr, ?_⟩
  obtain ⟨hl, w1, ds, eH, ok, r, p⟩ := h
  have e := env_start (N := N) r
  have hl2 : ds.length = ps.length := (Reps.length r).trans hl
  rw [hl2] at e
  refine ⟨w1, _, eH, ok, e, ?_⟩
  unfold runF at p
  cases q : d (ds.map some ++ List.replicate (N.length - ps.length) none) w1.S with
  | nx t S1 => rw [q] at p; exact fun w' s y e2 _ => p w' .non y e2 rfl
  | rt z S1 => rw [q] at p; exact fun w' v y e2 rz => p w' v y e2 rz
  | bk t S1 => rw [q] at p; exact p.elim
  | ct t S1 => rw [q] at p; exact p.elim
  | exc t c ns vs S1 => rw [q] at p; exact fun w' s d y e2 en r2 => p w' d y e2 r2
  | bad => rw [q] at p; exact p.elim
end

/-! ### the head's facts -/
def fdAt (K : PySem.W.Frag) (p : Str × Option Str) : FuncData := match K.lookup (He.fAd K p) with
  | some ⟨_, _, .func fd, _⟩ => fd
  | _ => PySem.W.fnOf "" "" ⟨[], [], none, [], [], none, []⟩ [] ⟨.function, [], false, false, []⟩ .none .none .none .none none .none .none
theorem funD_at {K : PySem.W.Frag} {x qual : Str} {params : Arguments} {body : List Stmt} {scope : Scope} {dvs : List V} {kws : List (Str × V)} {p : Str × Option Str} (F : ∃ fd, FunD K x qual params body scope dvs kws (He.fAd K p) fd) : FunD K x qual params body scope dvs kws (He.fAd K p) (fdAt K p) := by
  obtain ⟨fd, F⟩ := F
  have e : fdAt K p = fd := by
    obtain ⟨oc, od, dV, kV, doc, pm, an, cdv, ct, osl, e1, lk, _⟩ := F.ex
    unfold fdAt
    rw [lk]
  rw [e]
  exact F
/-- what the walk leans on -/
structure Wl (fa : List He.Fa) (fn : List He.DefD) (ts : List He.Tab) (ex : PySem.W.Frag → Bool) (w : World) (K : PySem.W.Frag) (mg : Str → Option Value) : Prop where
  t : He.SaysT fa fn ts w K
  more : ex K = true
  at_ : ∃ h : Heap, K.In h ∧ h.Ns mainGlobals mg
section
variable {fa : List He.Fa} {fn : List He.DefD} {ts : List He.Tab} {ex : PySem.W.Frag → Bool} {w : World} {K : PySem.W.Frag} {mg : Str → Option Value}
theorem Wl.fact (c : Wl fa fn ts ex w K mg) (i : Nat) {f : He.Fa} (h : fa[i]? = some f := by rfl) : f.ok K = true := c.t.d.fact i h
theorem Wl.glo (c : Wl fa fn ts ex w K mg) (i : Nat) {x : Str} (h : fa[i]? = some (.glo x) := by rfl) : mg x = some (.ref (He.ga K x)) := by
  obtain ⟨hp, X, G⟩ := c.at_
  exact He.glo_ok X G (c.fact i h)
theorem Wl.free (c : Wl fa fn ts ex w K mg) (i : Nat) {x : Str} (h : fa[i]? = some (.free x) := by rfl) : mg x = none := by
  obtain ⟨hp, X, G⟩ := c.at_
  exact He.free_ok X G (c.fact i h)
theorem Wl.def_ (c : Wl fa fn ts ex w K mg) (i : Nat) {d : He.DefD} (h : fn[i]? = some d := by rfl) : FunD K d.name d.qual d.params d.body d.scope (d.dvs K) (d.kws K) (He.fAd K d.at_) (fdAt K d.at_) := funD_at (c.t.d.def_ i h)
theorem Wl.cls (c : Wl fa fn ts ex w K mg) (i : Nat) {x : Str} (h : fa[i]? = some (.cls x) := by rfl) : Cls K (He.ga K x) := He.cls_ok (c.fact i h)
theorem Wl.noat (c : Wl fa fn ts ex w K mg) (i : Nat) {x f : Str} (h : fa[i]? = some (.noat x f) := by rfl) : NoAttr K (He.ga K x) f := He.noat_ok (c.fact i h)
theorem Wl.meth (c : Wl fa fn ts ex w K mg) (i : Nat) {x m : Str} (h : fa[i]? = some (.meth x m) := by rfl) : Meth K (He.ga K x) m (He.ma K (He.ga K x) m) := He.meth_ok (c.fact i h)
theorem Wl.mkr (c : Wl fa fn ts ex w K mg) (i : Nat) {x : Str} (h : fa[i]? = some (.mkr x) := by rfl) : Mk K (He.ga K x) (He.ma K (He.ga K x) "__init__") := He.mkr_ok (c.fact i h)
/-- a name of the module that is data -/
def gvB (x : Str) (d : D) (K : PySem.W.Frag) : Bool := match PySem.W.nsIn K mainGlobals x with
  | some (some u) => repB K d u
  | _ => false
theorem gv_ok (c : Wl fa fn ts ex w K mg) {x : Str} {d : D} (h : gvB x d K = true) : ∃ u, mg x = some u ∧ repB K d u = true := by
  obtain ⟨hp, X, G⟩ := c.at_
  unfold gvB at h
  split at h
  · rename_i u e
    exact ⟨u, PySem.W.mg_of X G e, h⟩
  · cases h
theorem u_gv {X : Cx} {cl : Cl} {W : WX} {x : Str} {d : D} {pos : Pos} (c : Wl fa fn ts ex w X.K X.mg) (h : gvB x d X.K = true) (hg : Gl X x := by rfl) (hd : (x == ("__debug__" : Str)) = false := by decide) : UE X cl W (.Name x pos) (dC d) := by
  obtain ⟨u, h1, h2⟩ := gv_ok c h
  exact u_glob hg h1 h2 hd
/-- an own class that isinstance may be asked of -/
def isiB (C : Str) (K : PySem.W.Frag) : Bool := He.eqO (PySem.W.findIn K (.ref (He.ga K C)) "__class__") (some (some (.builtin "object.__class__"))) && (He.eqO (PySem.W.specialIn K (.builtin "object.__class__") "__get__") (some (some (.builtin "getset_descriptor.__get__"))) &&
  (decide (PySem.W.takesIn K (.builtin "object.__class__") = some true) && decide (PySem.W.mroIn K (He.ga K C) (.type "object") = some true)))
theorem isi_ok {C : Str} (k : Cls K (He.ga K C)) (h : isiB C K = true) : Isi K (He.ga K C) := by
  obtain ⟨h1, h2⟩ := He.ba h
  obtain ⟨h3, h4⟩ := He.ba h2
  obtain ⟨h5, h6⟩ := He.ba h4
  exact ⟨k, He.eqO_ok h1, He.eqO_ok h3, of_decide_eq_true h5, of_decide_eq_true h6⟩
theorem all_mem {l : List (PySem.W.Frag → Bool)} (h : (l.all fun f => f K) = true) (i : Nat) {f : PySem.W.Frag → Bool} (e : l[i]? = some f) : f K = true := List.all_eq_true.mp h f (List.mem_of_getElem? e)
end
end Dl
set_option Elab.async false
set_option linter.all false
set_option maxRecDepth 100000
set_option maxHeartbeats 400000
/-! The data layer: rules under one name. -/
namespace Dl
open PySem PyProof.Rows L2
theorem room65 {k : Nat} {A : Around} (r : Room k A) : A.units + 65 < cLine := by have := r.un; omega
theorem room1 {k : Nat} {A : Around} (r : Room k A) : A.units + 1 < cLine := by have := r.un; omega
section
variable {X : Cx} {cl : Cl} {W : WX} {e : Expr} {p pos : Pos} {d : Addr} {o : Obj} {es : Array DictEntry} {ep : Nat} {kvs : List (Key × V)} {us : List (Key × Value)}
theorem op_eqAll (hu : X.A.units + 65 < cLine) : OpR X (compareOp .Eq) (fun x y H Q => rEq x y H Q ∨ (rEqD X.K x y H Q ∨ rEqDF false x y H Q)) := op_eq.or ((op_eqD (by omega)).or (op_eqDF (by omega)))
theorem op_neAll (hu : X.A.units + 65 < cLine) : OpR X (compareOp .NotEq) (fun x y H Q => rNe x y H Q ∨ (rNeD X.K x y H Q ∨ rEqDF true x y H Q)) := op_ne.or ((op_neD (by omega)).or (op_neDF (by omega)))
theorem call_len' : CallR X (.builtin "len") (rLenA X.K) := call_len.or call_lenDR
theorem u_lenK' (A : StA X.prog X.w X.K d o es ep kvs us) {n : Nat} (hl : kvs.length = n) (hg : Gl X "len") (hm : X.mg "len" = none) (he : PE X e (tC (.ref d))) (hs : starEach [e] X.env = (false, eval e X.env) :: starEach [] X.env := by rfl) :
    UE X cl W (.Call (.Name "len" p) [e] [] pos) (dC (.int ((n : Nat) : Int))) := hl ▸ u_lenK A hg hm he hs
end
end Dl
set_option Elab.async false
set_option linter.all false
set_option maxRecDepth 100000
set_option maxHeartbeats 400000
/-! The data layer: the end. -/
namespace Dl
open PySem PyProof.Rows L2
theorem noleave {P : Program} {w : World} {o : List Env} {H : Hp} {s : Shared} {e : Value} {s' : Shared} (h : L2.CX P w o H s (fun _ _ _ => False) e s') : False := by
  obtain ⟨_, _, _, _, _, _, _, _, _, _, _, _, z⟩ := h
  exact z
/-- the law's own call, for a def that the data layer tells -/
theorem walk_D {l : PySem.W.OpenLaw} {n k : Nat} {q : Program} {loose : List Str} {XP : (Str → Option Value) → Heap → Prop} {YP : World → Heap → Prop} {d : DefRec} {x : Str} {f : DF}
    (hn : l.most = some n) (hn2 : n ≤ sizeLine) (hdf : d.params.defaults = []) (hr : Room k callerA) (true_ : ∀ ns : List Int, ns.length ≤ n → ∃ S, f [.rol (ns.map .int)] [] = .ok (.bl true) S)
    (F : ∀ (w : World) (mg : Str → Option Value) (fa : Addr) (h : Heap), YP w h → h.Ns mainGlobals mg → mg d.name = some (.ref fa) → ∃ (K : PySem.W.Frag) (cl : Cl) (fd : FuncData), K.In h ∧ (∀ (s : Shared) (u : Value), BindsTo s fd ⟨[u], []⟩ [(x, u)]) ∧
      ∀ base : Heap, FnOk l.prog w K mg base (L2.CX l.prog w) k fa fd [x] (spD K cl 1 f)) :
    PySem.W.WalkO q loose XP YP l.row.toRowW d [] (fun f vs => PySem.call f vs) := by
  refine Att.attach_call hn hdf fun w s₀ s₁ mg mb fa o pm cd doc a vs ns G Y ho hd hcd hmg hobj hints hlen hg => ?_
  obtain ⟨K, cl, fd, KX, hb, hF⟩ := F w mg fa _ Y G.T.g hmg
  refine law_call KX G.T.g G.T.b G.T.builtins G.T.nolimit hg hobj hints (Nat.le_trans hlen hn2) hr (fun base _ _ => hF base) hb (fun H hO hS => ?_) fun H e s' => noleave
  obtain ⟨S, e⟩ := true_ ns hlen
  refine ⟨rfl, ⟨H, H, [], []⟩, [.rol (ns.map .int)], rfl, ⟨rfl, fun _ _ z => z, fun i a d z => by simp at z, fun i j a d e z => by simp at z⟩, ⟨.ref a, [], rfl, ⟨a, ns.map V.int, rfl, hS, ?_⟩, rfl⟩, ?_⟩
  · clear e hlen hS hints
    induction ns with
    | nil => exact rfl
    | cons i r ih => exact ⟨.int i, _, rfl, rfl, ih⟩
  · rw [e]
    exact fun w' b _ _ r => r
end Dl
set_option Elab.async false
set_option linter.all false
set_option maxRecDepth 100000
set_option maxHeartbeats 400000
/-! The data layer: the denotations reckoned. -/
namespace Dl
open PySem PyProof.Rows L2
section
variable {α β : Type} {t t1 : Lc} {S S1 : Sto} {a b : DS} {de da db dc : DE} {ta tb : DB} {dr : DA} {d x y : D}
@[simp] theorem bind_ok {v : α} {k : α → Sto → Out β} : (Out.ok v S).bind k = k v S := rfl
@[simp] theorem calm_ok {v : α} : (Out.ok v S).calm = .ok v S := rfl
@[simp] theorem ofE_ok {v : α} {k : α → Sto → SOut} : Dl.ofE (.ok v S) t k = k v S := rfl
@[simp] theorem seq_is : dSeq a b t S = match a t S with
  | .nx t1 S1 => b t1 S1
  | o => o := rfl
@[simp] theorem skip_is : dSkip t S = .nx t S := rfl
@[simp] theorem expr_is : dExpr de t S = Dl.ofE (de t S) t fun _ S1 => .nx t S1 := rfl
@[simp] theorem set_is {i : Nat} : dSet i de t S = Dl.ofE (de t S) t fun d S1 => .nx (t.set i (some d)) S1 := rfl
@[simp] theorem ret_is : dRet de t S = Dl.ofE (de t S) t fun d S1 => .rt d S1 := rfl
@[simp] theorem if_is : dIfS ta a b t S = Dl.ofE (ta t S) t fun c S1 => if c = true then a t S1 else b t S1 := rfl
@[simp] theorem c_is : dC d t S = .ok d S := rfl
@[simp] theorem var_is {i : Nat} : dVar i t S = match t[i]? with
  | some (some d) => .ok d S
  | _ => .bad := rfl
@[simp] theorem op_is {f : D → D → Sto → Out D} : dOp f da db t S = (da t S).bind fun x S1 => (db t S1).bind fun y S2 => f x y S2 := rfl
@[simp] theorem un_is {f : D → Sto → Out D} : dUn f da t S = (da t S).bind fun x S1 => f x S1 := rfl
@[simp] theorem test_is : bTest da t S = (da t S).bind fun x S1 => match x with
  | .bl b => .ok b S1
  | _ => .bad := rfl
@[simp] theorem band_is : bAnd ta tb t S = (ta t S).bind fun x S1 => if x = true then tb t S1 else .ok false S1 := rfl
@[simp] theorem bor_is : bOr ta tb t S = (ta t S).bind fun x S1 => if x = true then .ok true S1 else tb t S1 := rfl
@[simp] theorem bnot_is : bNot ta t S = (ta t S).bind fun x S1 => .ok (!x) S1 := rfl
@[simp] theorem byes_is : bYes t S = .ok true S := rfl
@[simp] theorem dif_is : dIf ta da db t S = (ta t S).bind fun x S1 => if x = true then da t S1 else db t S1 := rfl
@[simp] theorem nil_is : aNil t S = .ok [] S := rfl
@[simp] theorem cons_is : aCons da dr t S = (da t S).bind fun x S1 => (dr t S1).bind fun xs S2 => .ok (x :: xs) S2 := rfl
@[simp] theorem b_is {f : List D → Sto → Out D} : dB f dr t S = (dr t S).bind f := rfl
@[simp] theorem call_is {n : Nat} {h : DF} : dCall n h dr t S = (dr t S).bind fun xs S1 => if xs.length = n then h xs S1 else .bad := rfl
@[simp] theorem eq_int {i j : Int} {n : Bool} : fEqA n (.int i) (.int j) S = .ok (.bl (xor n (decide (i = j)))) S := by
  show (if (SeqAt.shaped (.int i) && SeqAt.shaped (.int j)) = true then Out.ok (D.bl (xor n (PyData.eqv (.int i) (.int j)))) S else .bad) = _
  rw [show (SeqAt.shaped (.int i) && SeqAt.shaped (.int j)) = true from rfl, if_pos rfl]
  have e : PyData.eqv (.int i) (.int j) = decide (i = j) := rfl
  rw [e]
@[simp] theorem eq_str {i j : Str} {n : Bool} : fEqA n (.str i) (.str j) S = .ok (.bl (xor n (decide (i = j)))) S := rfl
@[simp] theorem ge_int {i j : Int} : fGe (.int i) (.int j) S = .ok (.bl (decide (j ≤ i))) S := rfl
@[simp] theorem gt_int {i j : Int} : fGt (.int i) (.int j) S = .ok (.bl (decide (j < i))) S := rfl
@[simp] theorem lt_int {i j : Int} : fLt (.int i) (.int j) S = .ok (.bl (decide (i < j))) S := rfl
@[simp] theorem le_int {i j : Int} : fLe (.int i) (.int j) S = .ok (.bl (decide (i ≤ j))) S := rfl
@[simp] theorem add_int {i j : Int} : fAdd (.int i) (.int j) S = .ok (.int (i + j)) S := rfl
@[simp] theorem sub_int {i j : Int} : fSub (.int i) (.int j) S = .ok (.int (i - j)) S := rfl
@[simp] theorem mul_int {i j : Int} : fMul (.int i) (.int j) S = if cMul i j = true then .ok (.int (i * j)) S else .bad := rfl
@[simp] theorem mod_int {i j : Int} : fMod (.int i) (.int j) S = if 0 < j then .ok (.int (i % j)) S else .bad := by
  show (if decide (0 < j) = true then Out.ok (D.int (i % j)) S else .bad) = _
  simp
@[simp] theorem int_int {i : Int} : bInt [.int i] S = .ok (.int i) S := rfl
@[simp] theorem len_lst {xs : List D} : bLen [.lst xs] S = .ok (.int xs.length) S := rfl
@[simp] theorem len_rol {xs : List D} : bLen [.rol xs] S = .ok (.int xs.length) S := rfl
@[simp] theorem len_tup {xs : List D} : bLen [.tup xs] S = .ok (.int xs.length) S := rfl
@[simp] theorem len_dic {ks vs : List D} : bLen [.dic ks vs] S = .ok (.int ks.length) S := rfl
theorem atI_nat' {xs : List D} {i : Nat} (h : i < xs.length) : atI xs (i : Nat) = xs[i]? := by
  unfold atI ixN
  simp [h]
@[simp] theorem ix_lst {xs : List D} {i : Int} : fIxA (.lst xs) (.int i) S = match atI xs i with | some d => .ok d S | none => .bad := rfl
@[simp] theorem ix_tup' {xs : List D} {i : Int} : fIxA (.tup xs) (.int i) S = match atI xs i with | some d => .ok d S | none => .bad := rfl
theorem deref_at {k : Nat} (h : S[k]? = some (some d)) : deref (.ptr k) S = d := by
  show (match S[k]? with
    | some (some c) => c
    | _ => .ptr k) = d
  rw [h]
@[simp] theorem ix_cell0 {xs : List D} {r : Sto} {i : Int} : fIxA (.ptr 0) (.int i) (some (.lst xs) :: r) = match atI xs i with | some d => .ok d (some (.lst xs) :: r) | none => .bad := rfl
theorem atI_n {xs : List D} (n : Nat) : atI xs ((n : Nat) : Int) = xs[n]? := by
  unfold atI ixN
  rw [if_pos (Int.natCast_nonneg n)]
  by_cases h : n < xs.length
  · rw [if_pos (by omega)]
    rfl
  · rw [if_neg (by omega), List.getElem?_eq_none (by omega)]
    rfl
@[simp] theorem at0 {a : D} {r : List D} : atI (a :: r) 0 = some a := atI_n (xs := a :: r) 0
@[simp] theorem at1 {a b : D} {r : List D} : atI (a :: b :: r) 1 = some b := atI_n (xs := a :: b :: r) 1
@[simp] theorem at2 {a b c : D} {r : List D} : atI (a :: b :: c :: r) 2 = some c := atI_n (xs := a :: b :: c :: r) 2
@[simp] theorem at3 {a b c d : D} {r : List D} : atI (a :: b :: c :: d :: r) 3 = some d := atI_n (xs := a :: b :: c :: d :: r) 3
end
end Dl
set_option Elab.async false
set_option linter.all false
set_option maxRecDepth 100000
set_option maxHeartbeats 400000
/-! The data layer: a denotation reckoned step by step. -/
namespace Dl
open PySem PyProof.Rows L2
section
variable {α β : Type} {t t1 t2 : Lc} {S S1 S2 S3 S4 : Sto} {a b : DS} {de da db dc : DE} {ta tb : DB} {dr : DA} {d x y z : D} {xs ys : List D} {n m i : Nat}
theorem seq_nx (h : a t S = .nx t1 S1) : dSeq a b t S = b t1 S1 := by rw [seq_is, h]
theorem seq_rt (h : a t S = .rt d S1) : dSeq a b t S = .rt d S1 := by rw [seq_is, h]
theorem seq_exc {c : Nat} {ns : List Str} (h : a t S = .exc t1 c ns xs S1) : dSeq a b t S = .exc t1 c ns xs S1 := by rw [seq_is, h]
theorem set_nx (h : de t S = .ok d S1) : dSet i de t S = .nx (t.set i (some d)) S1 := by rw [set_is, h]; rfl
theorem ret_rt (h : de t S = .ok d S1) : dRet de t S = .rt d S1 := by rw [ret_is, h]; rfl
theorem expr_nx (h : de t S = .ok d S1) : dExpr de t S = .nx t S1 := by rw [expr_is, h]; rfl
theorem ifs_t (h : ta t S = .ok true S1) : dIfS ta a b t S = a t S1 := by rw [if_is, h]; rfl
theorem ifs_f (h : ta t S = .ok false S1) : dIfS ta a b t S = b t S1 := by rw [if_is, h]; rfl
theorem ifs_skip (h : ta t S = .ok false S1) : dIfS ta a dSkip t S = .nx t S1 := by rw [if_is, h]; rfl
theorem run_rt {ds : DS} (h : ds (xs.map some ++ List.replicate (m - n) none) S = .rt x S1) : runF n m ds xs S = .ok x S1 := by unfold runF; rw [h]
theorem run_nx {ds : DS} (h : ds (xs.map some ++ List.replicate (m - n) none) S = .nx t1 S1) : runF n m ds xs S = .ok .non S1 := by unfold runF; rw [h]
theorem run_exc {ds : DS} {c : Nat} {ns : List Str} (h : ds (xs.map some ++ List.replicate (m - n) none) S = .exc t1 c ns ys S1) : runF n m ds xs S = .exc c ns ys S1 := by unfold runF; rw [h]
theorem call_ok {f : DF} (h : dr t S = .ok xs S1) (hl : xs.length = n) (hf : f xs S1 = .ok z S2) : dCall n f dr t S = .ok z S2 := by rw [call_is, h]; show (if xs.length = n then f xs S1 else .bad) = _; rw [if_pos hl, hf]
theorem call_exc {f : DF} {c : Nat} {ns : List Str} (h : dr t S = .ok xs S1) (hl : xs.length = n) (hf : f xs S1 = .exc c ns ys S2) : dCall n f dr t S = .exc c ns ys S2 := by rw [call_is, h]; show (if xs.length = n then f xs S1 else .bad) = _; rw [if_pos hl, hf]
theorem cons_ok (h : de t S = .ok x S1) (hr : dr t S1 = .ok xs S2) : aCons de dr t S = .ok (x :: xs) S2 := by rw [cons_is, h]; show (dr t S1).bind _ = _; rw [hr]; rfl
theorem op_ok {f : D → D → Sto → Out D} (ha : da t S = .ok x S1) (hb : db t S1 = .ok y S2) (hf : f x y S2 = .ok z S3) : dOp f da db t S = .ok z S3 := by rw [op_is, ha]; show (db t S1).bind _ = _; rw [hb]; exact hf
theorem un_ok {f : D → Sto → Out D} (ha : da t S = .ok x S1) (hf : f x S1 = .ok z S2) : dUn f da t S = .ok z S2 := by rw [un_is, ha]; exact hf
theorem var_ok (h : t[i]? = some (some d)) : dVar i t S = .ok d S := by rw [var_is, h]
theorem test_ok {c : Bool} (h : de t S = .ok (.bl c) S1) : bTest de t S = .ok c S1 := by rw [test_is, h]; rfl
theorem bnot_ok {c : Bool} (h : ta t S = .ok c S1) : bNot ta t S = .ok (!c) S1 := by rw [bnot_is, h]; rfl
theorem bor_f (h : ta t S = .ok false S1) : bOr ta tb t S = tb t S1 := by rw [bor_is, h]; rfl
theorem bor_t (h : ta t S = .ok true S1) : bOr ta tb t S = .ok true S1 := by rw [bor_is, h]; rfl
theorem band_t (h : ta t S = .ok true S1) : bAnd ta tb t S = tb t S1 := by rw [band_is, h]; rfl
theorem band_f (h : ta t S = .ok false S1) : bAnd ta tb t S = .ok false S1 := by rw [band_is, h]; rfl
theorem fz_ok (h : de t S = .ok (.ptr i) S1) (hi : S1[i]? = some (some d)) : dFz de t S = .ok d (S1.set i none) := by
  unfold dFz
  rw [h]
  show (match S1[i]? with
    | some (some d) => Out.ok d (S1.set i none)
    | _ => .bad) = _
  rw [hi]
theorem b_ok {f : List D → Sto → Out D} (h : dr t S = .ok xs S1) (hf : f xs S1 = .ok z S2) : dB f dr t S = .ok z S2 := by rw [b_is, h]; exact hf
theorem bm_ok {T : String} {f : D → List D → Sto → Out D} (ha : da t S = .ok x S1) (ht : tyD T x S1 = true) (hr : dr t S1 = .ok xs S2) (hf : f x xs S2 = .ok z S3) : dBM T f da dr t S = .ok z S3 := by
  unfold dBM
  rw [ha]
  show (if tyD T x S1 = true then (dr t S1).bind fun xs S2 => f x xs S2 else .bad) = _
  rw [if_pos ht, hr]
  exact hf
theorem for_ok {g : Tg} {di : DA} (h : di t S = .ok xs S1) (hl : dLoop g a xs t S1 = .nx t1 S2) : dFor g di a t S = .nx t1 S2 := by
  show Dl.ofE (di t S) t _ = _
  rw [h]
  exact hl
theorem lc_ok {vs : List Nat} {g : Tg} {di : DA} (h : di t S = .ok xs S1) (hl : lcLoop g ta de (wipeD vs t) xs [] S1 = .ok ys S2) : dLc vs g di ta de t S = .ok (.lst ys) S2 := by
  unfold dLc
  rw [h]
  show (lcLoop g ta de (wipeD vs t) xs [] S1).bind _ = _
  rw [hl]
  rfl
theorem loop_one {g : Tg} {r : List D} (h1 : g.set x t = some t1) (h2 : a t1 S = .nx t2 S2) : dLoop g a (x :: r) t S = dLoop g a r t2 S2 := by
  show (match g.set x t with
    | none => SOut.bad
    | some t1 => match a t1 S with
      | .nx t2 S2 => dLoop g a r t2 S2
      | .ct t2 S2 => dLoop g a r t2 S2
      | .bk t2 S2 => .nx t2 S2
      | o => o) = _
  rw [h1]
  show (match a t1 S with
      | .nx t2 S2 => dLoop g a r t2 S2
      | .ct t2 S2 => dLoop g a r t2 S2
      | .bk t2 S2 => .nx t2 S2
      | o => o) = _
  rw [h2]
theorem star_ok {zs : List D} (h : de t S = .ok x S1) (hi : itemsOf x S1 = some ys) (hr : dr t S1 = .ok zs S2) : aStar de dr t S = .ok (ys ++ zs) S2 := by
  unfold aStar
  rw [h]
  show (match itemsOf x S1 with
    | some xs => (dr t S1).bind fun ys S2 => .ok (xs ++ ys) S2
    | none => .bad) = _
  rw [hi, hr]
  rfl
theorem cellL_ok (h : dr t S = .ok xs S1) (hl : xs.length ≤ sizeLine) : dCellL dr t S = .ok (.ptr S1.length) (S1 ++ [some (.lst xs)]) := by
  unfold dCellL
  rw [h]
  exact if_pos hl
theorem iit_ok {ks vs : List D} (h : de t S = .ok (.dic ks vs) S1) : iIt de t S = .ok (pairsD ks vs) S1 := by unfold iIt; rw [h]; rfl
theorem ilst_ok (h : de t S = .ok (.lst xs) S1) : iLst de t S = .ok xs S1 := by unfold iLst; rw [h]; rfl
theorem itpl_ok (h : de t S = .ok (.tup xs) S1) : iTpl de t S = .ok xs S1 := by unfold iTpl; rw [h]; rfl
theorem irng1_ok {j : Int} (h : de t S = .ok (.int j) S1) (hj : inB j) : iRng1 de t S = .ok (intsFrom 0 j.toNat) S1 := by
  unfold iRng1
  rw [h]
  exact if_pos hj
/-- an item of a comprehension -/
theorem lc_one {g : Tg} {r acc : List D} (h1 : g.set x t = some t1) (h2 : ta t1 S = .ok true S1) (h3 : de t1 S1 = .ok y S2) (hl : acc.length < sizeLine) : lcLoop g ta de t (x :: r) acc S = lcLoop g ta de t r (acc ++ [y]) S2 := by
  simp only [lcLoop, h1, h2, h3, calm_ok, bind_ok, if_pos hl, if_true]
theorem lc_skip {g : Tg} {r acc : List D} (h1 : g.set x t = some t1) (h2 : ta t1 S = .ok false S1) : lcLoop g ta de t (x :: r) acc S = lcLoop g ta de t r acc S1 := by
  simp only [lcLoop, h1, h2, calm_ok, bind_ok]
  rfl
theorem lc_nil {g : Tg} {acc : List D} : lcLoop g ta de t [] acc S = .ok acc S := rfl
/-- a comprehension whose parts change nothing -/
theorem lc_pure {g : Tg} {p : D → Bool} {f : D → D} (h : ∀ x ∈ xs, ∃ t1, g.set x t = some t1 ∧ ta t1 S = .ok (p x) S ∧ (p x = true → de t1 S = .ok (f x) S)) : ∀ acc : List D, acc.length + xs.length < sizeLine → lcLoop g ta de t xs acc S = .ok (acc ++ (xs.filter p).map f) S := by
  induction xs with
  | nil => intro acc _; rw [lc_nil]; simp
  | cons x r ih =>
    intro acc hl
    obtain ⟨t1, h1, h2, h3⟩ := h x List.mem_cons_self
    have ih' := ih fun x hx => h x (List.mem_cons_of_mem _ hx)
    rw [List.length_cons] at hl
    cases hp : p x with
    | true =>
      rw [hp] at h2
      rw [lc_one h1 h2 (h3 hp) (by omega), ih' _ (by rw [List.length_append, List.length_singleton]; omega), List.filter_cons_of_pos hp]
      simp
    | false =>
      rw [hp] at h2
      rw [lc_skip h1 h2, ih' _ (by omega), List.filter_cons_of_neg (by rw [hp]; exact Bool.false_ne_true)]
end
end Dl
set_option Elab.async false
set_option linter.all false
set_option maxRecDepth 100000
set_option maxHeartbeats 1000000
/-! The data layer: own exceptions whose __init__ begins with super().__init__(e). -/
namespace Dl
open PySem PySem.Spec PyProof.Rows L2
abbrev veI : String := "ValueError.__init__"
/-- what the written part says of such a class -/
structure XCls (K : PySem.W.Frag) (C : Addr) : Prop where
  oex : OexC K C
  sup : PySem.W.ks_superIn K C C "__init__" = some (some (.builtin veI))
  sub : PySem.W.subIn K (.ref C) (.type "ValueError") = some true
  own : PySem.W.mroIn K C (.ref C) = some true
  any : PySem.W.nsIn K cStatics "thirdparty.any" = some none
section
variable {X : Cx} {pins : List (Addr × Obj)} {σ : L2.St} {H : Hp} {s : Shared} {a C u : Addr} {E : Value → Shared → Prop}
/-- the bound __init__ of ValueError is called: nothing of it is told -/
theorem call_mw {us : List Value} {Q : Value → Shared → Prop} (T : OexC X.K C) (I : Inv X pins σ H s) (hu : s.heap.get? u = some (PySem.W.kxs_mw veI a)) (e : H a = some (exo a C none)) (hl : us.length ≤ sizeLine)
    (h : ∀ s', Inv X pins σ H s' → Q .none s') : wpAny (model X.prog X.w) X.A (call (.ref u) us) Q E s := by
  obtain ⟨nm, q, N, bs, bm, sn, sb, ab, col, dd, k0, k1, k2, k3, k5, hC, hbm⟩ := T.cls
  obtain ⟨t1, ho⟩ := exo_at I.hok e
  have eu : upd H a (exo a C none) = H := upd_self e
  have fin : ∀ h' : Heap, (∀ b o, b ≠ a → s.heap.get? b = some o → h'.get? b = some o) → h'.get? a = some (PySem.W.excRec (.ref C) s.heap.objs.size none .none .none (.bool false)) → Q .none { s with heap := h' } := fun h' k hx => by
    have J := I.write (t' := s.toks) (x := a) (e := a) (o := exo a C none) (by rw [e]; exact True.intro) (.inl rfl) k ⟨_, hx⟩ (exo_ok hx)
    rw [eu] at J
    exact h _ J
  have hCl := I.kIn _ _ hC
  obtain ⟨hp, g, d, t, os⟩ := s
  refine wpAny_call (codeAny_of_tree ?_)
  show wpAny _ X.A.in1 (callAny (.ref u) ⟨us, []⟩) _ _ _
  simp only [callAny]
  refine wpAny_bind (wpAny_load hu ?_)
  have m1 : (Value.type "method-wrapper" == Value.type "method") = false := by decide
  have m2 : (Value.type "method-wrapper" == Value.type "builtin_function_or_method") = false := by decide
  have m3 : (Value.type "method-wrapper" == Value.type "method-wrapper") = true := by decide
  simp only [PySem.W.kxs_mw, m1, m2, m3, Bool.false_or, if_true]
  first
    | refine PySem.W.KFB.if_so (by decide) ?_
    | skip
  refine wpAny_bind (PySem.W.check_bound_init F.excBase_ValueError.toExcCallFacts hCl ho rfl (wpAny_pure ?_))
  refine ⟨plainId_quiet F.excBase_ValueError.init.plain _, codeAny_builtin F.excBase_ValueError.initEntry ?_⟩
  exact PySem.W.exc_init_tree (t0 := t1) (dv := none) (c2 := .none) (c3 := .none) (b4 := .bool false) ho hl fun h' k hx _ => fin h' k hx
end
open NdefX
/-- where the __init__ of C stands: its text; the cell of its class -/
structure XFn (P : Program) (K : PySem.W.Frag) (C f : Addr) (qual : Str) (params : Arguments) (body : List Stmt) (scope : Scope) (fd : FuncData) (cda cc : Addr) : Prop where
  fn : ∃ oc od osl kV doc pm an ct, fd = PySem.W.fnX "__init__" qual params body scope [("__class__", cc)] .none kV doc pm an (.ref cda) ct ∧ K.lookup f = some ⟨oc, od, .func fd, osl⟩
  code : PySem.W.codeIn K (.ref cda) qual = true
  file : ∃ ccl cdd vs ccs fi tf, K.lookup cda = some ⟨ccl, cdd, .fields vs, ccs⟩ ∧ vs[2]? = some (.str fi tf) ∧ ((P.main.file : Str) == fi) = true
  cell : ∃ cl cld csl, K.lookup cc = some ⟨cl, cld, .cell (some (.ref C)), csl⟩
abbrev supE (e : Expr) (p0 p1 p2 p3 : Pos) : Expr := .Call (.Attribute (.Call (.Name "super" p0) [] [] p1) "__init__" p2) [e] [] p3
abbrev nfX (qual : Str) (params : Arguments) (body : List Stmt) (scope : Scope) (cda cc : Addr) : NF := ⟨"__init__", qual, params, body, scope, [("__class__", cc)], cda⟩
section
variable {P : Program} {w : World} {K : PySem.W.Frag} {mg : Str → Option Value} {base : Heap} {k : Nat} {f C cda cc : Addr} {fd : FuncData} {qual : Str} {params : Arguments} {e : Expr} {rest : List Stmt} {scope : Scope} {p0 p1 p2 p3 p4 : Pos} {N ps : List Str} {ar : Arg} {sp : Sp} {CX : CXT}
theorem fn_init (F : XFn P K C f qual params (.Expr (supE e p0 p1 p2 p3) p4 :: rest) scope fd cda cc) (T : XCls K C) (S : NScope N ps ["__class__"] scope) (hp : (params.posonlyargs ++ params.args).head? = some ar) (har : ps[0]? = some ar.arg) (hmg : mg "super" = none)
    {pl : Env → Sem Bool} (hev : ∀ env : Env, eval (supE e p0 p1 p2 p3) env = (do
      let ov ← attributeBase (.Call (.Name "super" p0) [] [] p1) "__init__" env (eval (.Call (.Name "super" p0) [] [] p1) env)
      standAt p2.atName
      let (f, first) ← holding [ov] (getMethod ov "__init__" (pl env))
      callWith p3 f first (backTo p3 (starEach [e] env)) []))
    (hsw : ∀ env : Env, swapsWith (supE e p0 p1 p2 p3) none p4.line env = pure false) (hst : ∀ env : Env, starEach [e] env = [(false, eval e env)])
    (hks : scope.names.lookup ("super" : Str) = some .globalImplicit) (hkc : scope.names.lookup ("__class__" : Str) = some .free) (htop : (P.main.scope.names.lookup ("super" : Str)).isSome = false) (hl : ∀ vs H Q E, sp vs H Q E → vs.length = ps.length)
    (hbody : ∀ (A : Around) (outer : List Env) (s : Shared) (H : Hp) (vs : List V) (Q : VK) (E : XK), Room k (A.deeper (envF (nfX qual params (.Expr (supE e p0 p1 p2 p3) p4 :: rest) scope cda cc) f s.heap.objs.size)) → sp vs H Q E →
      ∃ (a : Addr) (us : List V) (te : TE) (tr : TS), vs = .ref a :: us ∧ H a = some (exo a C none) ∧ PE (ncx CX P w K mg base N (nfX qual params (.Expr (supE e p0 p1 p2 p3) p4 :: rest) scope cda cc) f A outer s H E) e te ∧
        PSs (ncx CX P w K mg base N (nfX qual params (.Expr (supE e p0 p1 p2 p3) p4 :: rest) scope cda cc) f A outer s H E) rest tr ∧
        (∀ Q' : VK, (∀ y, Q' y H) → te (startF N vs [some (.ref C)]) H Q') ∧ tr { nx := fun _ H' => Q .non H', rt := Q } (startF N vs [some (.ref C)]) H) :
    FnOk P w K mg base CX (k + 1) f fd ps sp := by
  refine ⟨hl, fun A outer s H args us vs Q E hr e0 hb r hsp => ?_⟩
  obtain ⟨oc, od, osl, kV, doc, pm, an, ct, rfl, lk⟩ := F.fn
  have hlen := hl _ _ _ _ hsp
  have KX : K.In s.heap := e0.mod.kin.keeps fun b o e => (e0.bs b o e).1
  have lim : s.heap.NoLimit := e0.mod.nolimit.keeps fun b o e => (e0.bs b o e).1
  obtain ⟨cl, cld, csl, hcell⟩ := F.cell
  refine codeAny_call_function hr.depth (KX _ _ lk) rfl S.co S.gen rfl (PySem.W.codeRec_of KX F.code) (hb _ _ _ _ ?_)
  refine wpAny_newFunctionEnv S.nocell (fun ⟨n, _⟩ hy => S.par n (List.of_mem_zip hy).1) (fun h₁ hns hsb => ⟨lim.fresh _ hsb, ?_⟩) S.kind
  show codeAny _ _ (.func (.Expr (supE e p0 p1 p2 p3) p4 :: rest) (envF (nfX qual params (.Expr (supE e p0 p1 p2 p3) p4 :: rest) scope cda cc) f s.heap.objs.size)) _ _
  refine ks_codeAny_funcAt ?_
  have kp : ∀ b o, s.heap.get? b = some o → h₁.get? b = some o := fun b o e => hsb.extBut b o (Nat.ne_of_lt (Heap.lt_size e)) (Heap.get?_push_of_some _ e)
  obtain ⟨a, ws, te, tr, rfl, ha, he, hrest, hte, hq⟩ := hbody A outer s H vs Q E (hr.deeper _) hsp
  have hcb := e0.mod.kin _ _ hcell
  have cells : CellsAt [("__class__", cc)] ["__class__"] [some (.ref C)] s.heap H := by
    have only : ∀ (y : Str) (c : Addr), ([("__class__", cc)] : List (Str × Addr)).lookup y = some c → y = "__class__" ∧ c = cc := fun y c h => by
      have h2 : (match y == ("__class__" : Str) with | true => some cc | false => none) = some c := h
      cases q : (y == ("__class__" : Str)) with
      | true => rw [q] at h2; exact ⟨beq_iff_eq.mp q, (Option.some.inj h2).symm⟩
      | false => rw [q] at h2; cases h2
    refine ⟨rfl, fun y c h => ?_, fun x y c h1 h2 => (only x c h1).1.trans (only y c h2).1.symm, fun j y h => ?_⟩
    · rw [(only y c h).2]
      exact ⟨(e0.bs _ _ hcb).2, _, _, KX _ _ hcell, rfl⟩
    · cases j with
      | zero =>
        cases h
        refine ⟨cc, rfl, fun v hv => ?_⟩
        cases hv
        exact ⟨.ref C, rfl, _, KX _ _ hcell, rfl⟩
      | succ j => simp at h
  have I : Inv (ncx CX P w K mg base N (nfX qual params (.Expr (supE e p0 p1 p2 p3) p4 :: rest) scope cda cc) f A outer s H E) [] (startF N (.ref a :: ws) [some (.ref C)]) H { s with heap := h₁, toks := s.toks + (ps.zip us).length } := inv_startN S hr.hd e0 hlen r cells hns kp
  obtain ⟨u0, us', rfl⟩ : ∃ u0 us', us = u0 :: us' := by
    cases r with
    | cons r1 r2 => exact ⟨_, _, rfl⟩
  have ea : u0 = Value.ref a := by
    cases r with
    | cons r1 r2 => exact r1
  subst ea
  obtain ⟨ccl, cdd, vs', ccs, fi, tf, hcode, hvs, hfile⟩ := F.file
  obtain ⟨nm, q, Nn, bs, bm, sn, sb, ab, col, dd, k0, k1, k2, k3, k5, hC, hbm⟩ := T.oex.cls
  have hCl := I.kIn _ _ hC
  obtain ⟨t1, hx⟩ := exo_at I.hok ha
  have hcd : PySem.W.clsIn K C = some { name := nm, bases := bs, mro := .ref C :: bm, ns := Nn, qualname := q, hasDict := true, slotNames := sn, subclasses := sb, abstract := ab, collection := col, hasDel := false } := by
    unfold PySem.W.clsIn
    rw [hC] <;> rfl
  refine ks_wpAt_execs_cons (ks_wpAt_Expr_any (ks_wpAt_MethodCall ?_ (hev _)) (by unfold interactive; simp [S.kind]) (hsw _))
  refine ks_wpAt_super_base (f := f) (cc := cda) hks hkc rfl rfl (kp _ _ (KX _ _ lk)) rfl hp rfl (kp _ _ (KX _ _ hcode)) rfl hvs hfile htop ?_
  obtain ⟨mb, hB, hmb⟩ := e0.mod.blt
  have base_in : ∀ b o, base.get? b = some o → h₁.get? b = some o := fun b o z => kp b o (e0.bs b o z).1
  refine PySem.W.ks_loadName_global S.kind hks (Calls.loadGlobal_builtin (e0.mod.glob.keeps base_in) hmg (hB.keeps base_in) ((hmb "super" (by decide)).trans (by decide +kernel)) ⟨rfl, ?_⟩)
  have cl1 : List.lookup ("__class__" : Str) ([(("__class__" : Str), cc)] : List (Str × Addr)) = some cc := rfl
  refine wpAny_loadName_free S.kind hkc cl1 ⟨_, kp _ _ (KX _ _ hcell), rfl⟩ ?_
  have ndP : ps.Nodup := by
    have z := S.nd.sublist (List.take_sublist (ps.length + 1) N)
    rw [show ps.length + 1 = ps.length + (["__class__"] : List Str).length from rfl, S.pre] at z
    exact (List.nodup_append.mp z).1
  refine wpAny_loadName_local S.kind (S.par _ (List.mem_of_getElem? har)) hns (zip_look ndP har rfl) ?_
  refine ks_wpAny_isType_cls hCl rfl ⟨rfl, ?_⟩
  refine ks_wpAny_call_super hCl rfl hx rfl (fun c z => by cases z) (PySem.W.looks_mroIn I.kIn T.own) (fun h2 hso k2 => ?_)
  have I2 := I.kept (t' := s.toks + (ps.zip (Value.ref a :: us')).length) k2
  have hx2 := k2 _ _ hx
  have J : PySem.W.InstAt h2 a _ C none := ⟨hx2, rfl, rfl, trivial⟩
  have hsup : PySem.W.alongIn K "__init__" (((Value.ref C :: bm).dropWhile (· != .ref C)).drop 1) = some (some (.builtin veI)) := by
    have z := T.sup
    unfold PySem.W.ks_superIn at z
    rw [hcd] at z
    exact z
  have hne : a ≠ C := fun z => by
    have n := (e0.bs _ _ (e0.mod.kin _ _ hC)).2
    rw [← z, ha] at n
    cases n
  refine PySem.W.kxs_getMethod PySem.W.kxs_ValueError hso (PySem.W.looks_opaque I2.kIn T.any) (l₀ := .ref C :: bm) (fun A Q E s k q => wpAny_bind ((PySem.W.looks_clsIn I2.kIn hcd) A _ E s k (wpAny_pure q))) rfl I2.kIn hsup
    (J.type.andThen (PySem.W.looks_subIn I2.kIn T.sub)) hne rfl ?_
  have hu : (h2.push (PySem.W.kxs_mw veI a)).get? h2.objs.size = some (PySem.W.kxs_mw veI a) := Heap.get?_push_size _ rfl
  have I3 := I2.kept (t' := s.toks + (ps.zip (Value.ref a :: us')).length + 1) (h' := h2.push (PySem.W.kxs_mw veI a)) fun b o z => Heap.get?_push_of_some _ z
  have I4 := I3.pins_of (pins' := [(h2.objs.size, PySem.W.kxs_mw veI a)]) fun p hp => by
    rw [List.mem_singleton.mp hp]
    exact ⟨hu, I2.hok.fresh (Nat.le_refl _), fun z => by have := I2.lt; rw [← z] at this; exact absurd this (Nat.lt_irrefl _), I2.nofs (Nat.le_refl _), fun v z => by cases z⟩
  refine PySem.W.kxs_callWith (i := veI) (x := a) (by rw [hst]; rfl) ?_
  have he1 := pa_cons he pa_nil (hst _)
  have run := he1.run p3 [(h2.objs.size, PySem.W.kxs_mw veI a)] _ (startF N (.ref a :: ws) [some (.ref C)]) H (fun vs H1 => ∃ y, vs = [y] ∧ H1 = H ∧ tr { nx := fun _ H' => Q V.non H', rt := Q } (startF N (.ref a :: ws) [some (.ref C)]) H) I4 (hte _ fun y => ⟨y, rfl, rfl, hq⟩)
  rw [hst] at run ⊢
  refine Calls.evalArgs_plain (thn run fun us4 s4 ⟨vs4, H4, I5, r5, y, ev, eH, q5⟩ => ?_)
  subst ev
  subst eH
  have hu5 := (I5.pin _ (List.mem_append_right _ List.mem_cons_self)).1
  refine ⟨hu5, call_mw (X := ncx CX P w K mg base N (nfX qual params (.Expr (supE e p0 p1 p2 p3) p4 :: rest) scope cda cc) f A outer s H4 E) T.oex I5 hu5 ha (by show us4.length ≤ sizeLine; rw [← r5.length]; show 1 ≤ sizeLine; decide) fun s5 I6 => ?_⟩
  have I7 := I6.pins_of (pins' := []) fun p hp => by cases hp
  refine wpAt_of_wpAny (wpAny_mono (hrest.run [] _ _ _ _ I7 q5) (fun fl s' hs => ?_) fun e s' hs => hs)
  have fin : ∀ {σ' : L2.St} {H' : Hp} {v : V} {u : Value}, Inv (ncx CX P w K mg base N (nfX qual params (.Expr (supE e p0 p1 p2 p3) p4 :: rest) scope cda cc) f A outer s H4 E) [] σ' H' s' → L2.RelV v u → Q v H' → CE outer P w H4 s Q u s' :=
    fun {σ' H' v u} J rv q => ⟨v, H', J.os, J.bare, J.base, J.hok, rv, q⟩
  cases fl with
  | ret u =>
    obtain ⟨v, σ', H', J, rv, q⟩ := hs
    exact fin J rv q
  | next =>
    obtain ⟨σ', H', J, q⟩ := hs
    exact fin (v := V.non) (u := Value.none) J rfl q
  | brk => exact (hs.choose_spec.choose_spec.2 : False).elim
  | cont => exact (hs.choose_spec.choose_spec.2 : False).elim
end
end Dl
set_option Elab.async false
set_option linter.all false
set_option maxRecDepth 100000
set_option maxHeartbeats 1000000
/-! The data layer: raise of own exceptions. -/
namespace Dl
open PySem PySem.Spec PyProof.Rows L2 NdefX
/-! ### what the __init__s promise -/
def spI0 (C : Addr) : Sp := fun vs H Q _ => ∃ a : Addr, vs = [.ref a] ∧ H a = some (exo a C none) ∧ Q .non H
def spI1 (C : Addr) (f : Str) (chk : V → Hp → Prop) : Sp := fun vs H Q _ => ∃ (a : Addr) (y : V), vs = [.ref a, y] ∧ H a = some (exo a C none) ∧ chk y H ∧ ∀ dx, H dx = none → dx ≠ a → Q .non (upd (upd H dx (exd dx [(f, y)])) a (exo a C (some dx)))
def spI2 (C : Addr) (f g : Str) (chk : V → Hp → Prop) : Sp := fun vs H Q _ => ∃ (a : Addr) (y z : V), vs = [.ref a, y, z] ∧ H a = some (exo a C none) ∧ chk y H ∧
  ∀ dx, H dx = none → dx ≠ a → Q .non (upd (upd (upd H dx (exd dx [(f, y)])) a (exo a C (some dx))) dx (exd dx [(g, z), (f, y)]))
/-- e comes to some value and leaves all as it was, where y is fit -/
def Harm (chk : V → Hp → Prop) (te : TE) : Prop := ∀ (σ : L2.St) (H : Hp) (y : V), σ[1]? = some (some y) → chk y H → ∀ Q' : VK, (∀ z, Q' z H) → te σ H Q'
section
variable {P : Program} {w : World} {K : PySem.W.Frag} {mg : Str → Option Value} {base : Heap} {k : Nat} {f C cda cc : Addr} {fd : FuncData} {qual : Str} {params : Arguments} {e : Expr} {rest : List Stmt} {scope : Scope} {p0 p1 p2 p3 p4 : Pos} {N ps : List Str} {ar : Arg} {CX : CXT} {pl : Env → Sem Bool}
/-- what an __init__'s words must show -/
structure XTx (P : Program) (mg : Str → Option Value) (params : Arguments) (e : Expr) (p0 p1 p2 p3 p4 : Pos) (scope : Scope) (N ps : List Str) (ar : Arg) (pl : Env → Sem Bool) : Prop where
  S : NScope N ps ["__class__"] scope
  hp : (params.posonlyargs ++ params.args).head? = some ar
  har : ps[0]? = some ar.arg
  hmg : mg "super" = none
  hev : ∀ env : Env, eval (supE e p0 p1 p2 p3) env = (do
      let ov ← attributeBase (.Call (.Name "super" p0) [] [] p1) "__init__" env (eval (.Call (.Name "super" p0) [] [] p1) env)
      standAt p2.atName
      let (f, first) ← holding [ov] (getMethod ov "__init__" (pl env))
      callWith p3 f first (backTo p3 (starEach [e] env)) [])
  hsw : ∀ env : Env, swapsWith (supE e p0 p1 p2 p3) none p4.line env = pure false
  hst : ∀ env : Env, starEach [e] env = [(false, eval e env)]
  hks : scope.names.lookup ("super" : Str) = some .globalImplicit
  hkc : scope.names.lookup ("__class__" : Str) = some .free
  htop : (P.main.scope.names.lookup ("super" : Str)).isSome = false
theorem init0 (F : XFn P K C f qual params [.Expr (supE e p0 p1 p2 p3) p4] scope fd cda cc) (T : XCls K C) (x : XTx P mg params e p0 p1 p2 p3 p4 scope N ps ar pl) (hps : ps.length = 1)
    (he : ∀ (A : Around) (outer : List Env) (s : Shared) (H : Hp) (E : XK), Room k (A.deeper (envF (nfX qual params [.Expr (supE e p0 p1 p2 p3) p4] scope cda cc) f s.heap.objs.size)) → ∃ te, PE (ncx CX P w K mg base N (nfX qual params [.Expr (supE e p0 p1 p2 p3) p4] scope cda cc) f A outer s H E) e te ∧ ∀ (σ : L2.St) (H : Hp) (Q' : VK), (∀ z, Q' z H) → te σ H Q') :
    FnOk P w K mg base CX (k + 1) f fd ps (spI0 C) :=
  fn_init F T x.S x.hp x.har x.hmg x.hev x.hsw x.hst x.hks x.hkc x.htop (fun vs H Q E ⟨a, e, _⟩ => by rw [e, hps]; rfl) fun A outer s H vs Q E hr ⟨a, ev, ha, q⟩ => by
    obtain ⟨te, h1, h2⟩ := he A outer s H E hr
    exact ⟨a, [], te, _, ev, ha, h1, pss_nil, fun Q' h => h2 _ _ _ h, q⟩
theorem init1 {n : Str} {chk : V → Hp → Prop} (F : XFn P K C f qual params (.Expr (supE e p0 p1 p2 p3) p4 :: rest) scope fd cda cc) (T : XCls K C) (x : XTx P mg params e p0 p1 p2 p3 p4 scope N ps ar pl) (hps : ps.length = 2) (hn : PySem.W.findIn K (.ref C) n = some none)
    (he : ∀ (A : Around) (outer : List Env) (s : Shared) (H : Hp) (E : XK), Room k (A.deeper (envF (nfX qual params (.Expr (supE e p0 p1 p2 p3) p4 :: rest) scope cda cc) f s.heap.objs.size)) → ∃ te, PE (ncx CX P w K mg base N (nfX qual params (.Expr (supE e p0 p1 p2 p3) p4 :: rest) scope cda cc) f A outer s H E) e te ∧ Harm chk te)
    (hr : ∀ (A : Around) (outer : List Env) (s : Shared) (H : Hp) (E : XK), PSs (ncx CX P w K mg base N (nfX qual params (.Expr (supE e p0 p1 p2 p3) p4 :: rest) scope cda cc) f A outer s H E) rest (tOst K n (tVar 0) (tVar 1))) :
    FnOk P w K mg base CX (k + 1) f fd ps (spI1 C n chk) :=
  fn_init F T x.S x.hp x.har x.hmg x.hev x.hsw x.hst x.hks x.hkc x.htop (fun vs H Q E ⟨a, y, e, _⟩ => by rw [e, hps]; rfl) fun A outer s H vs Q E hr' ⟨a, y, ev, ha, hc, q⟩ => by
    obtain ⟨te, h1, h2⟩ := he A outer s H E hr'
    subst ev
    exact ⟨a, [y], te, _, rfl, ha, h1, hr A outer s H E, fun Q' h => h2 _ _ y rfl hc _ h, y, rfl, .ref a, rfl, a, C, rfl, T.oex, hn, .inl ⟨ha, fun dx h1 h2 => q dx h1 h2⟩⟩
theorem init2 {n n' : Str} {chk : V → Hp → Prop} {st1 st2 : Stmt} (F : XFn P K C f qual params [.Expr (supE e p0 p1 p2 p3) p4, st1, st2] scope fd cda cc) (T : XCls K C) (x : XTx P mg params e p0 p1 p2 p3 p4 scope N ps ar pl) (hps : ps.length = 3) (hn : PySem.W.findIn K (.ref C) n = some none) (hn' : PySem.W.findIn K (.ref C) n' = some none)
    (he : ∀ (A : Around) (outer : List Env) (s : Shared) (H : Hp) (E : XK), Room k (A.deeper (envF (nfX qual params [.Expr (supE e p0 p1 p2 p3) p4, st1, st2] scope cda cc) f s.heap.objs.size)) → ∃ te, PE (ncx CX P w K mg base N (nfX qual params [.Expr (supE e p0 p1 p2 p3) p4, st1, st2] scope cda cc) f A outer s H E) e te ∧ Harm chk te)
    (h1 : ∀ (A : Around) (outer : List Env) (s : Shared) (H : Hp) (E : XK), PS (ncx CX P w K mg base N (nfX qual params [.Expr (supE e p0 p1 p2 p3) p4, st1, st2] scope cda cc) f A outer s H E) st1 (tOst K n (tVar 0) (tVar 1)))
    (h2 : ∀ (A : Around) (outer : List Env) (s : Shared) (H : Hp) (E : XK), PS (ncx CX P w K mg base N (nfX qual params [.Expr (supE e p0 p1 p2 p3) p4, st1, st2] scope cda cc) f A outer s H E) st2 (tOst K n' (tVar 0) (tVar 2))) :
    FnOk P w K mg base CX (k + 1) f fd ps (spI2 C n n' chk) :=
  fn_init F T x.S x.hp x.har x.hmg x.hev x.hsw x.hst x.hks x.hkc x.htop (fun vs H Q E ⟨a, y, z, e, _⟩ => by rw [e, hps]; rfl) fun A outer s H vs Q E hr' ⟨a, y, z, ev, ha, hc, q⟩ => by
    obtain ⟨te, e1, e2⟩ := he A outer s H E hr'
    subst ev
    refine ⟨a, [y, z], te, _, rfl, ha, e1, pss_cons (h1 A outer s H E) (pss_one (h2 A outer s H E)), fun Q' h => e2 _ _ y rfl hc _ h, y, rfl, .ref a, rfl, a, C, rfl, T.oex, hn, .inl ⟨ha, fun dx d1 d2 => ?_⟩⟩
    exact ⟨z, rfl, .ref a, rfl, a, C, rfl, T.oex, hn', .inr ⟨dx, [(n, y)], upd_same, by rw [upd_ne d2, upd_same], (show 1 ≤ 900 by decide), q dx d1 d2⟩⟩
end
/-! ### the exception is made -/
section
variable {X : Cx} {pins : List (Addr × Obj)} {σ : L2.St} {H : Hp} {s : Shared} {C fI : Addr} {k : Nat} {fd : FuncData} {ps : List Str} {CX : CXT} {x : Str} {p pos : Pos}
theorem gone_same {H : Hp} {a : Addr} {o : HO} (n : H a = none) : del (upd H a o) a = H := by
  funext b
  by_cases h : b = a
  · rw [h, del_same, n]
  · rw [del_ne h, upd_ne h]
theorem pmk_x0 (T : OexC X.K C) (iC : PySem.W.findIn X.K (.ref C) "__init__" = some (some (.ref fI))) (tI : PySem.W.typeIn X.K (.ref fI) = some (.type "function")) (F1 : FnOk X.prog X.w X.K X.mg X.base CX k fI fd ps (spI0 C)) (hr : Room (k + 1) X.A) (hb : Binds X.K fd ps []) (hps : ps.length = 1)
    (hx : Passes CX X (fun _ _ _ => False)) (hg : Gl X x) (hm : X.mg x = some (.ref C)) (hdb : (x == ("__debug__" : Str)) = false := by decide) : PMk X (.Call (.Name x p) [] [] pos) (fun _ H Q => Q (.ref C) none H) := by
  intro pins s σ H Q I h
  obtain ⟨nm, q, N, bs, bm, sn, sb, ab, col, dd, k0, k1, k2, k3, k5, hC, hbm⟩ := T.cls
  refine wpAny_Call_Name_kw (ld_glob I hg hm (PySem.W.callWith_K0 I.kIn T.kC ?_) hdb)
  show wpAny _ _ (call (.ref C) []) _ _ _
  obtain ⟨hp, g, dr, tk, os⟩ := s
  have big : hp.objs.size ≤ hp.objs.size + 1 := Nat.le_succ _
  have hn : H (hp.objs.size + 1) = none := I.hok.fresh big
  have grow : ∀ b o, hp.get? b = some o → ((hp.push (PySem.W.kdv_tup [])).push (PySem.HandSPX.excO C hp.objs.size)).get? b = some o := fun b o e => Heap.get?_push_of_some _ (Heap.get?_push_of_some _ e)
  have hget : ((hp.push (PySem.W.kdv_tup [])).push (PySem.HandSPX.excO C hp.objs.size)).get? (hp.objs.size + 1) = some (PySem.HandSPX.excO C hp.objs.size) := by heap_get
  have I2 := I.laid (t' := tk) (a := hp.objs.size + 1) (o := exo (hp.objs.size + 1) C none) grow big (exo_ok hget)
  have r2 : Vals [V.ref (hp.objs.size + 1)] [Value.ref (hp.objs.size + 1)] := .cons rfl .nil
  have bd := hb _ [Value.ref (hp.objs.size + 1)] I2.kIn (by rw [List.append_nil, hps]; rfl)
  rw [List.append_nil] at bd
  refine wpAny_call (PySem.HandSPX.call_own F.excBase_ValueError (fun Y => PySem.HandSPX.refsVE_contains Y bm hbm) (I.kIn _ _ hC) (PySem.W.looks_findIn I.kIn iC) (fun self => PySem.W.bind_fn I.kIn self tI) (Nat.zero_le _)
    (codeAny_mono (F1.run _ X.stack _ _ ⟨[Value.ref (hp.objs.size + 1)], []⟩ _ _ (fun v H2 => v = .non ∧ H2 = upd H (hp.objs.size + 1) (exo (hp.objs.size + 1) C none)) (fun _ _ _ => False) (hr.make C [] []) (I2.env0.make C [] []) bd r2 ⟨_, rfl, upd_same, rfl, rfl⟩) fun r s' hq' => ?_))
  cases r with
  | error er => exact hx pins σ _ _ er s' I2 hq'
  | ok fl =>
    cases fl with
    | ret u =>
      obtain ⟨v, H2, os2, bare2, un2, hok2, rv, ev, eH⟩ := hq'
      subst ev
      subst eH
      obtain ⟨h2, g2, d2, t2, os'⟩ := s'
      refine ⟨rv, ?_⟩
      obtain ⟨t0, hoe⟩ := exo_at hok2 (upd_same (H := H) (a := hp.objs.size + 1) (o := exo (hp.objs.size + 1) C none))
      obtain ⟨G, in_, out⟩ := restrict h2 fun b => decide (b ≠ hp.objs.size + 1)
      have far : ∀ {b : Addr} {o : Obj}, hp.get? b = some o → b ≠ hp.objs.size + 1 := fun z => Nat.ne_of_lt (Nat.lt_of_lt_of_le (Heap.lt_size z) big)
      have at_ : ∀ b, b ≠ hp.objs.size + 1 → G.get? b = h2.get? b := fun b hb => in_ b (decide_eq_true hb)
      have non : ∀ {b : Addr}, b ≠ hp.objs.size + 1 → H b = none → upd H (hp.objs.size + 1) (exo (hp.objs.size + 1) C none) b = none := fun hb n => (upd_ne hb).trans n
      have un3 : Un (frs X.stack) [] H H hp G := ⟨fun b o z n hf hx => (at_ b (far z)).trans (un2.keep b o (grow b o z) (non (far z) n) hf hx),
        fun b o z n hf hx => by rw [at_ b (far z)]; exact un2.slot b o (grow b o z) (non (far z) n) hf hx, fun b o z n hx => n,
        fun b o z hx => by rw [at_ b (far z)]; exact un2.there b o (grow b o z) hx, fun b xs z => z, fun b o v z => z, fun b ps z => ⟨#[], by rw [z]; simp⟩⟩
      have hok3 : HOk X.prog X.w H G := fun b o z => by
        have hb : b ≠ hp.objs.size + 1 := ne_of_none z hn
        refine (hok2 b o ((upd_ne hb).trans z)).stay (fun c v hc y => ?_) (fun c hc => ?_) fun c xs hc => ?_
        · refine (at_ c ?_).trans y
          rcases hc with hc | hc
          · rw [hc]; exact hb
          · exact at_ne upd_same hc exo_own
        · rw [upd_ne (at_ne upd_same hc exo_own)] at hc; exact hc
        · rw [upd_ne (at_ne upd_same hc exo_tup)] at hc; exact hc
      have J : Inv X pins σ H ⟨G, g2, d2, t2, os'⟩ := I.call' (ch := []) os2 un3 hok3 bare2 fun b z => absurd z (by simp)
      refine ⟨hp.objs.size + 1, _, _, ⟨G, g2, d2, t2, os'⟩, H, .ref C, none, rfl, J, fun b o z => ?_, out _ (by simp), hoe, ⟨rfl, rfl⟩, rfl, rfl, hn, rfl, bare2, raises_own T.exC T.tyC, h⟩
      by_cases hb : b = hp.objs.size + 1
      · rw [hb, out _ (by simp)] at z
        cases z
      · exact (at_ b hb).symm.trans z
    | next => exact False.elim hq'
    | brk => exact False.elim hq'
    | cont => exact False.elim hq'
end
end Dl
set_option Elab.async false
set_option linter.all false
set_option maxRecDepth 100000
set_option maxHeartbeats 1000000
/-! The data layer: raise as statements; what an f-string asks of its part. -/
namespace Dl
open PySem PySem.Spec PyProof.Rows L2 NdefX
def ChkOk (K : PySem.W.Frag) (cl : Cl) (ok : D → Sto → Bool) (chk : V → Hp → Prop) : Prop := ∀ (w : Wd) (d : D) (v : V), w.Ok K cl → RV K cl w d v → ok d w.S = true → chk v w.H
def dRaise0 (c : Nat) : DS := fun t S => .exc t c [] [] S
def dRaise1 (c : Nat) (f : Str) (ok : D → Sto → Bool) (de : DE) : DS := fun t S => ofE (de t S) t fun d S1 => if ok d S1 = true then .exc t c [f] [d] S1 else .bad
def dRaise2 (c : Nat) (f g : Str) (ok : D → Sto → Bool) (de de' : DE) : DS := fun t S => ofE (de t S) t fun d S1 => ofE (de' t S1) t fun d' S2 => if ok d S2 = true then .exc t c [g, f] [d', d] S2 else .bad
section
variable {X : Cx} {cl : Cl} {W : WX} {c k : Nat} {fI : Addr} {fd : FuncData} {ps : List Str} {x f g : Str} {p pos pos' : Pos} {e e' : Expr} {ok : D → Sto → Bool} {chk : V → Hp → Prop} {de de' : DE}
theorem s_raise0 (T : OexC X.K (cl c)) (iC : PySem.W.findIn X.K (.ref (cl c)) "__init__" = some (some (.ref fI))) (tI : PySem.W.typeIn X.K (.ref fI) = some (.type "function")) (F1 : FnOk X.prog X.w X.K X.mg X.base (L2.CX X.prog X.w) k fI fd ps (spI0 (cl c))) (hr : Room (k + 1) X.A) (hb : Binds X.K fd ps [])
    (hps : ps.length = 1) (hc : X.calm = true) (tk : Takes X W) (hx : Passes (L2.CX X.prog X.w) X E0) (hg : Gl X x) (hm : X.mg x = some (.ref (cl c))) (hdb : (x == ("__debug__" : Str)) = false := by decide) :
    US X cl W (.Raise (some (.Call (.Name x p) [] [] pos)) none pos') (dRaise0 c) :=
  weakS (ps_raise hc tk (pmk_x0 T iC tI F1 hr hb hps hx hg hm hdb)) fun N σ H ⟨w, t, eH, o, en, q⟩ => eH ▸ q w σ none (Af.refl o) rfl en (.inl ⟨rfl, rfl⟩)
/-- the dict that the exception leaves -/
theorem left_dict {H : Hp} {a dx : Addr} {o1 o2 o3 u : HO} (n : H a = none) (ne : dx ≠ a) : upd (del (upd (upd (upd H a o1) dx o2) a o3) a) dx u = upd H dx u := by
  funext b
  by_cases hb : b = dx
  · rw [hb, upd_same, upd_same]
  · rw [upd_ne hb, upd_ne hb]
    by_cases ha : b = a
    · rw [ha, del_same, n]
    · rw [del_ne ha, upd_ne ha, upd_ne hb, upd_ne ha]
theorem left_dict2 {H : Hp} {a dx : Addr} {o1 o2 o3 o4 u : HO} (n : H a = none) (ne : dx ≠ a) : upd (del (upd (upd (upd (upd H a o1) dx o2) a o3) dx o4) a) dx u = upd H dx u := by
  funext b
  by_cases hb : b = dx
  · rw [hb, upd_same, upd_same]
  · rw [upd_ne hb, upd_ne hb]
    by_cases ha : b = a
    · rw [ha, del_same, n]
    · rw [del_ne ha, upd_ne hb, upd_ne ha, upd_ne hb, upd_ne ha]
theorem s_raise1 (co : ChkOk X.K cl ok chk) (T : OexC X.K (cl c)) (iC : PySem.W.findIn X.K (.ref (cl c)) "__init__" = some (some (.ref fI))) (tI : PySem.W.typeIn X.K (.ref fI) = some (.type "function")) (F1 : FnOk X.prog X.w X.K X.mg X.base (L2.CX X.prog X.w) k fI fd ps (spI1 (cl c) f chk)) (hr : Room (k + 1) X.A) (hb : Binds X.K fd ps [])
    (hc : X.calm = true) (tk : Takes X W) (hx : Passes (L2.CX X.prog X.w) X E0) (hg : Gl X x) (hm : X.mg x = some (.ref (cl c))) (he : UE X cl W e de) (hdb : (x == ("__debug__" : Str)) = false := by decide) (hs : starEach (e :: []) X.env = (false, eval e X.env) :: starEach [] X.env := by rfl) (hpl : (backTo pos (starEach [] X.env)).any (·.1) = false := by rfl) :
    US X cl W (.Raise (some (.Call (.Name x p) [e] [] pos)) none pos') (dRaise1 c f ok de) :=
  weakS (ps_raise hc tk (pmk_oex T iC tI F1 hr hb .nil hx hg hm (pa_cons he pa_nil hs) hdb hs hpl)) fun N σ H ⟨w, t, eH, o, en, q⟩ => by
    refine ⟨w, t, eH, o, en, SPost.ofE q en fun d w1 v a1 r1 en1 q1 => ⟨show 1 ≤ 1000 by decide, fun a ha => ?_⟩⟩
    split at q1
    · rename_i hok
      have w2 := (a1.ok).untold (u := exo a (cl c) none) ha
      refine ⟨a, v, rfl, upd_same, co _ d v w2.ok (Rep.af w2 r1) hok, fun dx hdx ne => ⟨rfl, dx, [(f, v)], upd_same, by rw [upd_ne ne, upd_same], ?_, ?_⟩⟩
      · rw [upd_ne ne] at hdx; exact hdx
      · rw [left_dict ha ne]
        rw [upd_ne ne] at hdx
        have w3 := (a1.ok).laid (u := .xd [(f, v)]) hdx
        exact q1 _ σ (some dx) w3 rfl (en1.af w3) (.inr ⟨dx, [(f, v)], rfl, upd_same, rfl, v, [], rfl, Rep.af w3 r1, rfl⟩)
    · exact q1.elim
theorem s_raise2 (co : ChkOk X.K cl ok chk) (T : OexC X.K (cl c)) (iC : PySem.W.findIn X.K (.ref (cl c)) "__init__" = some (some (.ref fI))) (tI : PySem.W.typeIn X.K (.ref fI) = some (.type "function")) (F1 : FnOk X.prog X.w X.K X.mg X.base (L2.CX X.prog X.w) k fI fd ps (spI2 (cl c) f g chk)) (hr : Room (k + 1) X.A) (hb : Binds X.K fd ps [])
    (hc : X.calm = true) (tk : Takes X W) (hx : Passes (L2.CX X.prog X.w) X E0) (hg : Gl X x) (hm : X.mg x = some (.ref (cl c))) (he : UE X cl W e de) (he' : UE X cl W e' de') (hdb : (x == ("__debug__" : Str)) = false := by decide) (hs : starEach (e :: [e']) X.env = (false, eval e X.env) :: starEach [e'] X.env := by rfl)
    (hs' : starEach [e'] X.env = (false, eval e' X.env) :: starEach [] X.env := by rfl) (hpl : (backTo pos (starEach [e'] X.env)).any (·.1) = false := by rfl) :
    US X cl W (.Raise (some (.Call (.Name x p) [e, e'] [] pos)) none pos') (dRaise2 c f g ok de de') :=
  weakS (ps_raise hc tk (pmk_oex T iC tI F1 hr hb .nil hx hg hm (pa_cons he (pa_cons he' pa_nil hs') hs) hdb hs hpl)) fun N σ H ⟨w, t, eH, o, en, q⟩ => by
    refine ⟨w, t, eH, o, en, SPost.ofE q en fun d w0 v a0 r0 en0 q0 => ⟨w0, t, rfl, a0.ok, en0, SPost.ofE q0 en0 fun d' w1 v' a1 r1 en1 q1 => ⟨show 2 ≤ 1000 by decide, fun a ha => ?_⟩⟩⟩
    have r0 := Rep.af a1 r0
    split at q1
    · rename_i hok
      have w2 := (a1.ok).untold (u := exo a (cl c) none) ha
      refine ⟨a, v, v', rfl, upd_same, co _ d v w2.ok (Rep.af w2 r0) hok, fun dx hdx ne => ⟨rfl, dx, [(g, v'), (f, v)], by rw [upd_ne ne.symm, upd_same], upd_same, ?_, ?_⟩⟩
      · rw [upd_ne ne] at hdx; exact hdx
      · rw [left_dict2 ha ne]
        rw [upd_ne ne] at hdx
        have w3 := (a1.ok).laid (u := .xd [(g, v'), (f, v)]) hdx
        exact q1 _ σ (some dx) w3 rfl (en1.af w3) (.inr ⟨dx, [(g, v'), (f, v)], rfl, upd_same, rfl, v', [v], rfl, Rep.af w3 r1, v, [], rfl, Rep.af w3 r0, rfl⟩)
    · exact q1.elim
end
end Dl
set_option Elab.async false
set_option linter.all false
set_option maxRecDepth 100000
set_option maxHeartbeats 1000000
/-! The data layer: {x}, {x!r} in the text of an own exception: some text. -/
namespace Dl
open PySem PySem.Spec PyProof.Rows L2 NdefX
/-- a leaf's text -/
def leafT : V → Option Str
  | .non => some "None"
  | .bl b => some (if b then "True" else "False")
  | .int i => if i.natAbs.log2 < 1920 then some (toString i) else none
  | .str z => some (reprText z)
  | _ => none
def leafB (v : V) : Bool := match leafT v with
  | some t => decide (t.length ≤ 1000)
  | none => false
theorem leaf_int {i : Int} {t : Str} (h : leafT (.int i) = some t) : i.natAbs.log2 < 1920 ∧ t = toString i := by
  have h2 : (if i.natAbs.log2 < 1920 then some (Str.ofString (toString i)) else none) = some t := h
  by_cases q : i.natAbs.log2 < 1920
  · rw [if_pos q] at h2
    exact ⟨q, (Option.some.inj h2).symm⟩
  · rw [if_neg q] at h2
    cases h2
theorem leaf_repr {P : Program} {w : World} {v : V} {u : Value} {t : Str} (r : RelV v u) (h : leafT v = some t) (hz : t.length ≤ 1000) : ReprIs P w u t := by
  have hs : t.length ≤ sizeLine := Nat.le_trans hz (by decide)
  cases v with
  | non => cases h; cases r; exact ReprIs.none
  | bl b => cases h; cases r; exact ReprIs.bool b
  | int i =>
    obtain ⟨tk, rfl⟩ := r
    obtain ⟨hi, e⟩ := leaf_int h
    rw [e]
    exact ReprIs.int tk hi
  | str z =>
    obtain ⟨tk, rfl⟩ := r
    cases h
    exact ReprIs.str z tk hs
  | _ => cases h
theorem leaf_all {P : Program} {w : World} : ∀ {l : List V} {us : List Value}, Vals l us → l.all leafB = true → ∃ ts : List Str, ReprAll P w us ts ∧ piled ts ≤ 1002 * l.length
  | [], _, r, _ => by cases r; exact ⟨[], .nil, Nat.zero_le _⟩
  | v :: l, _, r, h => by
    cases r with
    | cons r1 r2 =>
      rw [List.all_cons] at h
      obtain ⟨h1, h2⟩ := He.ba h
      obtain ⟨ts, h3, h4⟩ := leaf_all (P := P) (w := w) r2 h2
      unfold leafB at h1
      cases q : leafT v with
      | none => rw [q] at h1; cases h1
      | some t =>
        rw [q] at h1
        have hz : t.length ≤ 1000 := of_decide_eq_true h1
        refine ⟨t :: ts, .cons (leaf_repr r1 q hz) h3, ?_⟩
        rw [piled_cons, List.length_cons]
        omega
/-- what may be shown: a leaf, a tuple of leaves -/
def Showy (K : PySem.W.Frag) (v : V) (H : Hp) : Prop := leafB v = true ∨ ∃ (a : Addr) (l : List V), v = .ref a ∧ SqT K H a l ∧ l.all leafB = true ∧ l.length ≤ 100
def tShow (K : PySem.W.Frag) (te : TE) : TE := fun σ H Q => te σ H fun x H1 => Showy K x H1 ∧ ∀ m : Str, m.length ≤ 200000 → Q (.str m) H1
section
variable {X : Cx} {e : Expr} {te : TE} {pos : Pos}
theorem pe_show {k : Nat} (hr : Room k X.A) (he : PE X e te) : PE X (.FormattedValue e 114 none pos) (tShow X.K te) := by
  refine ⟨fun pins s σ H Q I h => wpAny_FormattedValue_repr (thn (he.run pins s σ H _ I h) fun v s1 ⟨x, H1, I1, r1, sh, q⟩ => ?_)⟩
  have fin : ∀ {m : Str} {u : Tok} {s2 : Shared}, m.length ≤ 200000 → Inv X pins σ H1 s2 → wpAny (model X.prog X.w) X.A (formatField (.str m u) Str.empty) (EP X pins σ Q) X.xe s2 := fun {m u s2} hm J =>
    wpAny_formatField_str ⟨.str m, H1, J, ⟨u, rfl⟩, q m hm⟩ ⟨.str m, H1, J.tok _, ⟨_, rfl⟩, q m hm⟩ (Nat.le_trans hm (by decide))
  rcases sh with hl | ⟨a, l, rfl, ht, hl, hn⟩
  · unfold leafB at hl
    cases ql : leafT x with
    | none => rw [ql] at hl; cases hl
    | some t =>
      rw [ql] at hl
      have hz : t.length ≤ 1000 := of_decide_eq_true hl
      have hs : t.length ≤ sizeLine := Nat.le_trans hz (by decide)
      have hz2 : t.length ≤ 200000 := by omega
      cases x with
      | non => cases r1; cases ql; exact pyReprObj_none (fin hz2 (I1.tok _))
      | bl b => cases r1; cases ql; exact pyReprObj_bool (fin hz2 (I1.tok _))
      | int i =>
        obtain ⟨tk, rfl⟩ := r1
        obtain ⟨hi, e⟩ := leaf_int ql
        rw [e] at hz2
        exact pyReprObj_int hi (fin hz2 (I1.tok _))
      | str z =>
        obtain ⟨tk, rfl⟩ := r1
        cases ql
        exact pyReprObj_str (fin hz2 (I1.tok _)) hs
      | _ => cases ql
  · cases r1
    obtain ⟨its, rv, ⟨o, ho, hcl, n, hd⟩, _⟩ := I1.tuple ht
    obtain ⟨ts, h3, h4⟩ := leaf_all (P := X.prog) (w := X.w) rv hl
    have htx := fmt_text ts
    have hu := hr.units
    have hb : (tupleText ts).length ≤ 101000 := by
      have : 1002 * l.length ≤ 1002 * 100 := Nat.mul_le_mul_left _ hn
      omega
    refine wpAny_pyReprObj_slot (by omega) ⟨o, ho, hcl⟩ F.slot_tuple_repr (fmt_tuple_repr ho hcl hd h3 (Nat.le_trans hb (by decide)) fun m u tk hm => ⟨m, u, rfl, ?_⟩)
    exact fin (by omega) (I1.tok _)
end
theorem str_app (a b : Str) : (a ++ b).length = a.length + b.length := by
  rw [TL.len_tl, TL.tl_append, List.length_append, ← TL.len_tl, ← TL.len_tl]
/-- a text with one shown part between two written ones -/
theorem shown_parts {K : PySem.W.Frag} {a b : Str} (ha : a.length ≤ 1000) (hb : b.length ≤ 1000) : Harm (Showy K) (fun σ H Q => tJs [tC (.str a), tShow K (tVar 1), tC (.str b)] Str.empty σ H fun out H1 => Q (.str out) H1) := fun σ H y hy sh Q h => by
  have e0 : (Str.empty : Str).length = 0 := rfl
  have big : 300000 ≤ sizeLine := by decide
  refine ⟨a, rfl, by rw [str_app]; omega, y, hy, sh, fun m hm => ⟨m, rfl, by rw [str_app, str_app]; omega, b, rfl, by rw [str_app, str_app, str_app]; omega, h _⟩⟩
/-- a number, as it is told -/
def Numb (v : V) (_ : Hp) : Prop := ∃ i : Int, v = .int i ∧ i.natAbs.log2 < 1920 ∧ (Str.ofString (toString i)).length ≤ 1000
theorem numb_parts {a b : Str} (ha : a.length ≤ 1000) (hb : b.length ≤ 1000) : Harm Numb (fun σ H Q => tJs [tC (.str a), tFmt (tVar 1), tC (.str b)] Str.empty σ H fun out H1 => Q (.str out) H1) := fun σ H y hy ⟨i, e, hi, hz⟩ Q h => by
  have e0 : (Str.empty : Str).length = 0 := rfl
  have big : 300000 ≤ sizeLine := by decide
  exact ⟨a, rfl, by rw [str_app]; omega, y, hy, .inr ⟨i, e, hi, _, rfl, by rw [str_app, str_app]; omega, b, rfl, by rw [str_app, str_app, str_app]; omega, h _⟩⟩
/-! ### by data -/
def leafD : D → Bool
  | .non => true
  | .bl _ => true
  | .int i => decide (i.natAbs.log2 < 1920) && decide ((Str.ofString (toString i)).length ≤ 1000)
  | .str z => decide ((reprText z).length ≤ 1000)
  | _ => false
def okShow (d : D) (S : Sto) : Bool := leafD d || match deref d S with
  | .tup xs => xs.all leafD && decide (xs.length ≤ 100)
  | _ => false
def okNumb (d : D) (_ : Sto) : Bool := match d with
  | .int i => decide (i.natAbs.log2 < 1920) && decide ((Str.ofString (toString i)).length ≤ 1000)
  | _ => false
def okAll (_ : D) (_ : Sto) : Bool := true
theorem leafD_ok {K : PySem.W.Frag} {cl : Cl} {F : Hp} {m : List Addr} {d : D} {v : V} (r : Rep K cl F m d v) (h : leafD d = true) : leafB v = true := by
  cases d with
  | non => cases r; decide +kernel
  | bl b => cases r; cases b <;> decide +kernel
  | int i =>
    cases r
    obtain ⟨h1, h2⟩ := He.ba h
    have e : leafT (.int i) = some (Str.ofString (toString i)) := if_pos (of_decide_eq_true h1)
    unfold leafB
    rw [e]
    exact h2
  | str z => cases r; exact h
  | _ => cases h
theorem leafDs_ok {K : PySem.W.Frag} {cl : Cl} {F : Hp} {m : List Addr} : ∀ {ds : List D} {vs : List V}, Reps K cl F m ds vs → ds.all leafD = true → vs.all leafB = true
  | [], _, r, _ => by rw [show _ = [] from r]; rfl
  | d :: ds, _, ⟨v, vs, e, r, q⟩, h => by
    rw [List.all_cons] at h
    obtain ⟨h1, h2⟩ := He.ba h
    rw [e, List.all_cons, leafD_ok r h1, leafDs_ok q h2]
    rfl
theorem show_chk {K : PySem.W.Frag} {cl : Cl} : ChkOk K cl okShow (Showy K) := fun w d v ok r h => by
  unfold okShow at h
  rcases Bool.or_eq_true_iff.mp h with h | h
  · exact .inl (leafD_ok r h)
  · cases q : deref d w.S with
    | tup xs =>
      rw [q] at h
      obtain ⟨h1, h2⟩ := He.ba h
      obtain ⟨a, vs, ev, ht, rr⟩ := deref_tup ok r q
      exact .inr ⟨a, vs, ev, ht, leafDs_ok rr h1, by rw [← Reps.length rr]; exact of_decide_eq_true h2⟩
    | _ => rw [q] at h; cases h
theorem numb_chk {K : PySem.W.Frag} {cl : Cl} : ChkOk K cl okNumb Numb := fun w d v ok r h => by
  cases d with
  | int i =>
    obtain ⟨h1, h2⟩ := He.ba h
    exact ⟨i, r, of_decide_eq_true h1, of_decide_eq_true h2⟩
  | _ => cases h
theorem all_chk {K : PySem.W.Frag} {cl : Cl} : ChkOk K cl okAll (fun _ _ => True) := fun _ _ _ _ _ _ => True.intro
end Dl
set_option Elab.async false
set_option linter.all false
set_option maxRecDepth 100000
set_option maxHeartbeats 1000000
/-! The data layer: try with clauses, each with a name or without. -/
namespace Dl
open PySem PySem.Spec PyProof.Rows L2
/-- one clause's reading: the class, the name's slot, the suite -/
structure Cl3 where
  c : Value
  i : Option Nat
  ts : Addr → Value → Option Addr → TS
/-- behind a clause's suite its name is gone -/
def endsAt (i : Option Nat) (D : Ends) : Ends := match i with
  | none => D
  | some i => { nx := fun σ H => D.nx (σ.set i none) H, rt := D.rt, bk := fun σ H => D.bk (σ.set i none) H, ct := fun σ H => D.ct (σ.set i none) H }
def slotAt (i : Option Nat) (σ : L2.St) (a : Addr) : L2.St := match i with
  | none => σ
  | some i => σ.set i (some (.ref a))
def wMix (K : PySem.W.Frag) (Wout : WX) (D : Ends) : List Cl3 → WX
  | [] => Wout
  | h :: r => fun cls d σ H => ∃ b, PySem.W.exmOne K cls h.c = some b ∧ (b = true → ∀ a, H a = none → h.ts a cls d (endsAt h.i D) (slotAt h.i σ a) H) ∧ (b = false → wMix K Wout D r cls d σ H)
inductive HdMix (X : Cx) : List ExceptHandler → List Cl3 → Prop
  | nil : HdMix X [] []
  | bare {x : Str} {c : Value} {ts : Addr → Value → Option Addr → TS} {b₀ : Stmt} {suite : List Stmt} {np pos' : Pos} {hds : List ExceptHandler} {l : List Cl3} (hc : Names X x c)
      (hsu : ∀ (a : Addr) (oe : Obj) (cls : Value) (d : Option Addr) (pn : List (Addr × Obj)), Zc cls d oe → (∃ vs, oe.data = .fields vs) → PSs (X.suite a ((a, oe) :: pn)) (b₀ :: suite) (ts a cls d)) (r : HdMix X hds l) :
      HdMix X (.ExceptHandler (some (.Name x np)) none (b₀ :: suite) pos' :: hds) (⟨c, none, ts⟩ :: l)
  | named {x n : Str} {i : Nat} {c : Value} {ts : Addr → Value → Option Addr → TS} {b₀ : Stmt} {suite : List Stmt} {np pos' : Pos} {hds : List ExceptHandler} {l : List Cl3} (hi : X.N[i]? = some n) (hl : X.env.kindOf n = some .local) (hc : Names X x c)
      (hsu : ∀ (a : Addr) (oe : Obj) (cls : Value) (d : Option Addr) (pn : List (Addr × Obj)), Zc cls d oe → (∃ vs, oe.data = .fields vs) → PSs (X.suite a ((a, oe) :: pn)) (b₀ :: suite) (ts a cls d)) (r : HdMix X hds l) :
      HdMix X (.ExceptHandler (some (.Name x np)) (some n) (b₀ :: suite) pos' :: hds) (⟨c, some i, ts⟩ :: l)
section
variable {X : Cx} {body : List Stmt} {h₀ : ExceptHandler} {hds : List ExceptHandler} {l : List Cl3} {pos : Pos} {tb : WX → TS} {Wout : WX}
/-- the state in which the clauses are asked -/
structure Asked (X : Cx) (pins : List (Addr × Obj)) (σ : L2.St) (H : Hp) (a : Addr) (cls : Value) (d : Option Addr) (B : Heap) (sI s : Shared) : Prop where
  J : Inv X pins σ H sI
  nb : ∀ b o, sI.heap.get? b = some o → b ∉ frs X.stack → B.get? b = some o
  up : sI.heap.UpToSlots s.heap
  os : s.os = sI.os
  ag : AllBare s.gens
  fly : HandSPX.FlyingZ B (X.env :: X.outer) a (Zc cls d) s.heap
  na : H a = none
  nL : a ≠ X.env.locals
  nF : a ∉ X.fs
section
variable {pins : List (Addr × Obj)} {σ : L2.St} {H : Hp} {a : Addr} {cls c : Value} {d : Option Addr} {B : Heap} {sI s : Shared} {x : Str} {np : Pos} {b : Bool}
theorem Asked.inv (A : Asked X pins σ H a cls d B sI s) : Inv X pins σ H s := A.J.landed A.nb A.fly.1 A.up A.os A.ag
theorem Asked.obj (A : Asked X pins σ H a cls d B sI s) : ∃ oe vs, s.heap.get? a = some oe ∧ Zc cls d oe ∧ oe.data = .fields vs := A.fly.there
theorem Asked.suite (A : Asked X pins σ H a cls d B sI s) : ∃ oe, s.heap.get? a = some oe ∧ Zc cls d oe ∧ (∃ vs, oe.data = .fields vs) ∧ Inv (X.suite a ((a, oe) :: (X.pn ++ pins))) [] σ H s := by
  obtain ⟨oe, vs, he, hz, hd⟩ := A.obj
  exact ⟨oe, he, hz, ⟨vs, hd⟩, A.inv.suite he hd A.na A.nL A.nF⟩
/-- the flight is set to none once more -/
theorem Asked.again (A : Asked X pins σ H a cls d B sI s) {Q : Unit → Shared → Prop} {M : Model} {A' : Around} {E : Value → Shared → Prop} (h : ∀ s', Asked X pins σ H a cls d B sI s' → Q () s') : wpAny M A' (setFlight (.ref a) none) Q E s :=
  HandSPX.lands_againZ A.fly fun h' fl k => h _ ⟨A.J, A.nb, A.up.trans k, A.os, A.ag, fl, A.na, A.nL, A.nF⟩
/-- the class that the clause names is looked up -/
theorem Asked.look (A : Asked X pins σ H a cls d B sI s) (hc : Names X x c) {Q : Value → Shared → Prop} {E : Value → Shared → Prop} (q : Q c s) : wpAny (model X.prog X.w) (X.A.mark (some (.ref a))) (eval (.Name x np) X.env) Q E s := by
  obtain ⟨oe, _, _, _, S⟩ := A.suite
  obtain ⟨hg, hdbg, hm | ⟨hm, hv, hnn⟩⟩ := hc
  · exact ld_glob (X := X.suite a ((a, oe) :: (X.pn ++ pins))) S hg hm q hdbg
  · exact ld_blt (X := X.suite a ((a, oe) :: (X.pn ++ pins))) S hg hm hv q hnn hdbg
theorem clauses {hs : List ExceptHandler} {l : List Cl3} (hN : X.N.Nodup) (ok : X.Ok) {D : Ends} (hk : HdMix X hs l) : ∀ {s : Shared}, Asked X pins σ H a cls d B sI s → wMix X.K Wout D l cls d σ H →
    (Wout cls d σ H → ∀ s, Asked X pins σ H a cls d B sI s → wpAny (model X.prog X.w) X.A (handleBy (.ref a) X.env []) (SP X pins D) X.xe s) → wpAny (model X.prog X.w) X.A (handleBy (.ref a) X.env hs) (SP X pins D) X.xe s := by
  induction hk with
  | nil => exact fun A w out => out w _ A
  | @bare x c ts b₀ suite np pos' hds2 l2 hc hsu r ih =>
    intro s A w out
    obtain ⟨b, hb1, hyes, hno⟩ := w
    obtain ⟨oe, he, hz, hd, _⟩ := A.suite
    refine wpAny_handleBy_cons (codeAny_handlers_test (A.look hc ((PySem.W.exm_one (M := model X.prog X.w) A.inv.kIn (fun A Q E s k q => wpAny_typeOf_ref (k _ _ he) (by rw [hz.1]; exact q)) hb1).here ?_))) (by intro q; cases q)
    cases b with
    | false => exact ih A (hno rfl) out
    | true =>
      refine codeAny_handlers_suite (A.again fun s4 A4 => ?_)
      obtain ⟨oe4, he4, hz4, hd4, S4⟩ := A4.suite
      refine wpAny_mono ((hsu a oe4 cls d (X.pn ++ pins) hz4 hd4).run [] _ _ H _ S4 (hyes rfl a A.na)) (fun f s6 hsp => ?_) (fun _ _ z => False.elim z)
      cases f with
      | ret u => obtain ⟨v6, σ6, H6, S6, r6, q6⟩ := hsp; exact ⟨_, _, _, S6.unsuite ok, r6, q6⟩
      | next => obtain ⟨σ6, H6, S6, q6⟩ := hsp; exact ⟨_, _, S6.unsuite ok, q6⟩
      | brk => obtain ⟨σ6, H6, S6, q6⟩ := hsp; exact ⟨_, _, S6.unsuite ok, q6⟩
      | cont => obtain ⟨σ6, H6, S6, q6⟩ := hsp; exact ⟨_, _, S6.unsuite ok, q6⟩
  | @named x n i c ts b₀ suite np pos' hds2 l2 hi hl hc hsu r ih =>
    intro s A w out
    obtain ⟨b, hb1, hyes, hno⟩ := w
    obtain ⟨oe, he, hz, hd, _⟩ := A.suite
    refine wpAny_handleBy_cons (codeAny_handlers_test (A.look hc ((PySem.W.exm_one (M := model X.prog X.w) A.inv.kIn (fun A Q E s k q => wpAny_typeOf_ref (k _ _ he) (by rw [hz.1]; exact q)) hb1).here ?_))) (by intro q; cases q)
    cases b with
    | false => exact ih A (hno rfl) out
    | true =>
      refine codeAny_handlers_suite_as (A.again fun s4 A4 => ?_)
      obtain ⟨oe4, he4, hz4, hd4, S4⟩ := A4.suite
      refine store_ok (X := X.suite a ((a, oe4) :: (X.pn ++ pins))) (v := .ref a) S4 hN hi (.inl hl) rfl (fun s5 S5 => ?_) (.inr hl)
      refine wpAny_mono ((hsu a oe4 cls d (X.pn ++ pins) hz4 hd4).run [] s5 _ H _ S5 (hyes rfl a A.na)) (fun f s6 hsp => ?_) (fun _ _ z => False.elim z)
      have fin : ∀ {σ6 : L2.St} {H6 : Hp} {Q : Shared → Prop}, Inv (X.suite a ((a, oe4) :: (X.pn ++ pins))) [] σ6 H6 s6 → (∀ s7, Inv X pins (σ6.set i none) H6 s7 → Q s7) →
          wpAny (model X.prog X.w) X.A (do bindName X.env n .none; unbindBehindTheSuite X.env n pos') (fun _ s7 => Q s7) X.xe s6 := fun S6 hq => gone_ok (S6.unsuite ok) hN hi hl hq
      cases f with
      | ret u => obtain ⟨v6, σ6, H6, S6, r6, q6⟩ := hsp; exact fin S6 fun s7 J7 => ⟨_, _, _, J7, r6, q6⟩
      | next => obtain ⟨σ6, H6, S6, q6⟩ := hsp; exact fin S6 fun s7 J7 => ⟨_, _, J7, q6⟩
      | brk => obtain ⟨σ6, H6, S6, q6⟩ := hsp; exact fin S6 fun s7 J7 => ⟨_, _, J7, q6⟩
      | cont => obtain ⟨σ6, H6, S6, q6⟩ := hsp; exact fin S6 fun s7 J7 => ⟨_, _, J7, q6⟩
end
theorem ps_try_mix (hs : X.stack = X.env :: X.outer) (hf : X.env.frame = some X.env.locals) (hN : X.N.Nodup) (tk : Takes X Wout)
    (hb : ∀ (W : WX) (pn : List (Addr × Obj)) (xe : Value → Shared → Prop), Takes (X.tr pn xe) W → PassesOwn (model X.prog X.w) X.A X.env xe → PSs (X.tr pn xe) body (tb W))
    (hh : HdMix X (h₀ :: hds) l) : PS X (.Try body (h₀ :: hds) [] [] pos) (fun D σ H => tb (wMix X.K Wout D l) D σ H) := by
  refine ⟨fun pins s σ H D I h => ?_⟩
  have ok := I.ok
  have hfr : X.A.frames = some (X.env :: X.outer) := by rw [ok.frames, hs]
  refine wpAny_Try_except (wpAny_mono ((hb (wMix X.K Wout D l) (X.pn ++ pins) (fun e s₁ => wpAny (model X.prog X.w) X.A (noteFrame e X.env) (fun _ s₂ => wpAny (model X.prog X.w) X.A (setFlight e none) (fun _ s₃ =>
    wpAny (model X.prog X.w) X.A (handleBy e X.env (h₀ :: hds)) (SP X pins D) X.xe s₃) X.xe s₂) X.xe s₁) (fun u s' xx => ?_) PassesOwn.looking).run [] s σ H D (I.toTry _) h) (fun f s1 hsp => ?_) (fun e s1 he => he))
  · obtain ⟨a, B, sI, pins', σ', H', cls, d, rfl, J', nb, up, sky, na, os, ag, w⟩ := xx
    have J : Inv X pins σ' H' sI := J'.ofTry ok
    have sky' : Sky B (X.env :: X.outer) a (Zc cls d) X.env.locals s'.heap := by rw [← hs]; exact sky
    show wpAny (model X.prog X.w) X.A (noteFrame (.ref a) X.env) _ _ _
    refine Sky.land Zc.steady hfr hf sky' fun h3 fl3 up3 => ?_
    obtain ⟨oe3, vs3, he3, hz3, hd3⟩ := fl3.there
    have nfr : a ∉ frs (X.env :: X.outer) := fun hm => by
      obtain ⟨_, o', e', hnf⟩ := fl3.2.2.1.mem hm
      rw [he3] at e'
      cases e'
      exact hnf _ hd3
    have A0 : Asked X pins σ' H' a cls d B sI { s' with heap := h3 } := ⟨J, nb, up.trans up3, os, ag, fl3, na, fun z => nfr (List.mem_filterMap.mpr ⟨X.env, List.mem_cons_self, by rw [hf, z]⟩), fun hm => by
      obtain ⟨e, he, q⟩ := List.mem_filterMap.mp hm
      exact nfr (List.mem_filterMap.mpr ⟨e, List.mem_cons_of_mem _ he, q⟩)⟩
    refine clauses hN ok hh A0 w fun wo s4 A4 => wpAny_handleBy_nil ?_
    obtain ⟨k1, k2, k3, oe, vs, T, oT, ts', he, hz, hd, h1, hr⟩ := id A4.fly
    unfold PySem.passOn
    refine wpAny_bind (wpAny_field he hd h1 ?_)
    rw [if_neg (show ¬ ((Value.ref T == Value.none) = true) from by simp)]
    have fin : wpAny (model X.prog X.w) X.A (setFlight (.ref a) X.env.frame) (fun _ s5 => wpAny (model X.prog X.w) X.A (throw (.ref a) : Sem Flow) (SP X pins D) X.xe s5) X.xe s4 := by
      rw [hf]
      exact HandSPX.setFlight_upZ A4.fly fun h5 hh5 up5 => wpAny_throw (tk _ _ ⟨a, B, sI, pins, σ', H', cls, d, rfl, J, nb, A4.up.trans up5, .inr (.inr (by rw [hs]; exact hh5)), na, A4.os, A4.ag, wo⟩)
    first
      | exact wpAny_bind (wpAny_pure (wpAny_bind fin))
      | exact wpAny_bind fin
  · cases f with
    | ret u => obtain ⟨v, σ', H', J', r, q⟩ := hsp; exact ⟨v, σ', H', J'.ofTry ok, r, q⟩
    | next => obtain ⟨σ', H', J', q⟩ := hsp; exact wpAny_execs_nil ⟨σ', H', J'.ofTry ok, q⟩
    | brk => obtain ⟨σ', H', J', q⟩ := hsp; exact ⟨σ', H', J'.ofTry ok, q⟩
    | cont => obtain ⟨σ', H', J', q⟩ := hsp; exact ⟨σ', H', J'.ofTry ok, q⟩
end
end Dl
set_option Elab.async false
set_option linter.all false
set_option maxRecDepth 100000
set_option maxHeartbeats 1000000
/-! The data layer: try, the clauses' suites. -/
namespace Dl
open PySem PySem.Spec PyProof.Rows L2
/-! ### isinstance of a caught error, whatever its own dict holds -/
section
open PySem.W PySem.Calls
variable {prog : Program} {w : World} {A : Around} {E : Value → Shared → Prop} {s : Shared} {K : Frag} {x D : Addr} {ox : Obj} {od : Option Obj}
theorem exc_class (T : ExcC K D) (X : K.In s.heap) (I : InstAt s.heap x ox D od) {Q : Option Value → Shared → Prop} (h : Q (some (.ref D)) { s with toks := s.toks + 1 }) : wpAny (model prog w) A (getAttr? (.ref x) "__class__") Q E s := by
  have hf : findObj K D od "__class__" = some (.bind (.builtin "getset_descriptor.__get__") (.builtin "object.__class__")) := by
    obtain ⟨cd, hc, _⟩ := any_some T.hd
    unfold findObj
    rw [hc, Option.bind_some, T.ha, Option.bind_some]
    simp [T.hn, T.ht]
  obtain ⟨hp, g, d, t, os⟩ := s
  have l0 := I.type (M := model prog w)
  have l1 := looks_findIn (M := model prog w) X T.hg
  have l2 := looks_findIn (M := model prog w) X T.hk
  have l3 := looks_find (M := model prog w) X I hf
  have sb : Looks (model prog w) hp (isInstance (.ref x) (.type "BaseException")) true := l0.andThen (looks_subIn X T.hs)
  have n2 : (Value.builtin "BaseException.__getattribute__" == Value.builtin "object.__getattribute__") = false := by decide +kernel
  have n1 : (onTheHeap (Value.ref D) && Value.builtin "BaseException.__getattribute__" == Value.builtin "object.__getattribute__") = false := by rw [n2]; rfl
  have n0 : (false && onTheHeap (Value.builtin "BaseException.__getattribute__")) = false := rfl
  unfold getAttr? getAttrBy? getAttrBy
  refine wpAny_bind (wpAny_mkText (wpAny_bind (wpAny_attempt (wpAny_holding (wpAny_bind (l0.at (wpAny_bind (l1.at ?_))))))))
  show wpAny _ _ (if (onTheHeap (Value.ref D) && Value.builtin "BaseException.__getattribute__" == Value.builtin "object.__getattribute__") = true then _ else _) _ _ _
  rw [n1, if_neg Bool.false_ne_true]
  unfold getAttrByItsOwn hookBefore
  refine wpAny_bind ?_
  rw [if_pos (show onTheHeap (Value.ref D) = true from rfl)]
  refine l2.at (wpAny_bind (wpAny_attempt (wpAny_holding ?_)))
  unfold callGetattribute
  rw [n0, if_neg Bool.false_ne_true]
  unfold boundAndCalled
  rw [PySem.F.excAttr_ValueError.ga.bind (.ref x)]
  refine wpAny_bind (wpAny_pure (wpAny_call (codeAny_call_builtin PySem.F.excAttr_ValueError.ga.plain PySem.F.entry_bexc_ga ?_)))
  refine @check_slot (model prog w) _ _ ⟨hp, g, d, t + 1, os⟩ "BaseException.__getattribute__" "BaseException" "__getattribute__" (.ref x) [.str "__class__" t] [] _ (by decide +kernel) (by decide +kernel) sb (PySem.F.args_bexc_ga (.ref x) (.str "__class__" t)) ?_
  unfold Builtin.«object.__getattribute__»
  refine wpAny_bind (wpAny_of_eq (a := ((Value.ref x : Value), [Value.str "__class__" t])) (by first | rfl | (simp only [slotArgs]; rfl)) ?_)
  refine wpAny_bind (wpAny_pure (wpAny_bind (l0.at (wpAny_bind (l3.at ?_)))))
  show wpAny _ _ (holding [Value.builtin "object.__class__"] (call (.builtin "getset_descriptor.__get__") [.builtin "object.__class__", .ref x, .ref D]) >>= ret) _ _ _
  refine wpAny_bind (wpAny_holding (wpAny_call (class_get (s := ⟨hp, g, d, t + 1, os⟩) X I T.hm (wpAny_pure ?_))))
  show wpAny _ _ (handedOut (.ref D)) _ _ _
  rw [handedOut_of (v := .ref D) rfl]
  first
    | exact wpAny_pure (wpAny_pure h)
    | exact wpAny_pure h
    | exact wpAny_pure (wpAny_bind (wpAny_pure (wpAny_pure h)))
theorem exc_kit (T : ExcC K D) : KitX K (.ref x) (.ref D) (fun h => InstAt h x ox D od) where
  ty := fun _ _ _ I => I.type
  it := fun M h X _ => by
    obtain ⟨cd, hc, _⟩ := any_some T.hd
    unfold clsIn at hc
    split at hc
    · rename_i ho
      exact fun A' Q' E' s' k q => ks_wpAny_isType_cls (k _ _ (X _ _ ho)) rfl q
    · cases hc
  ne := fun h tp dd its n sl X htp => by
    obtain ⟨cd, hc, _⟩ := any_some T.hd
    unfold clsIn at hc
    cases q : (Value.ref D == Value.ref tp) with
    | false => rfl
    | true =>
      have e : D = tp := Value.ref.inj (beq_iff_eq.mp q)
      subst e
      split at hc
      · rename_i ho
        cases (X _ _ ho).symm.trans htp
      · cases hc
  ca := fun X I k => exc_class T X I k
end
/-! ### a suite's expressions: they may read the caught error -/
def upX (K : PySem.W.Frag) (cl : Cl) (i : Nat) (a : Addr) (cls : Value) (d : Option Addr) (dx : Nat → List Str → List D → DE) : TE := fun σ H Q => ∃ w t c ns vs, w.H = H ∧ w.Ok K cl ∧ EnvR K cl w t σ ∧ σ[i]? = some (some (.ref a)) ∧ cls = .ref (cl c) ∧ ExcAt K cl w d ns vs ∧ OPost K cl (RV K cl) (fun _ _ _ => False) w Q (dx c ns vs t w.S)
def upXA (K : PySem.W.Frag) (cl : Cl) (i : Nat) (a : Addr) (cls : Value) (d : Option Addr) (dx : Nat → List Str → List D → DA) : TA := fun σ H Q => ∃ w t c ns vs, w.H = H ∧ w.Ok K cl ∧ EnvR K cl w t σ ∧ σ[i]? = some (some (.ref a)) ∧ cls = .ref (cl c) ∧ ExcAt K cl w d ns vs ∧ OPost K cl (RL K cl) (fun _ _ _ => False) w Q (dx c ns vs t w.S)
def upXB (K : PySem.W.Frag) (cl : Cl) (i : Nat) (a : Addr) (cls : Value) (d : Option Addr) (dx : Nat → List Str → List D → DB) : TT := fun σ H Q => ∃ w t c ns vs, w.H = H ∧ w.Ok K cl ∧ EnvR K cl w t σ ∧ σ[i]? = some (some (.ref a)) ∧ cls = .ref (cl c) ∧ ExcAt K cl w d ns vs ∧ OPost K cl RB (fun _ _ _ => False) w Q (dx c ns vs t w.S)
def upXS (K : PySem.W.Frag) (cl : Cl) (i : Nat) (a : Addr) (cls : Value) (d : Option Addr) (dx : Nat → List Str → List D → DS) : TS := fun N σ H => ∃ w t c ns vs, w.H = H ∧ w.Ok K cl ∧ EnvR K cl w t σ ∧ σ[i]? = some (some (.ref a)) ∧ cls = .ref (cl c) ∧ ExcAt K cl w d ns vs ∧ SPost K cl W0 N w (dx c ns vs t w.S)
theorem ExcAt.af {K : PySem.W.Frag} {cl : Cl} {w w1 : Wd} {d : Option Addr} {ns : List Str} {vs : List D} (x : ExcAt K cl w d ns vs) (f : Af K cl w w1) : ExcAt K cl w1 d ns vs := by
  rcases x with x | ⟨a, es, e1, e2, e3, r⟩
  · exact .inl x
  · exact .inr ⟨a, es, e1, f.fz _ _ e2, e3, Reps.af f r⟩
section
variable {X : Cx} {cl : Cl} {e e' : Expr} {es : List Expr} {pos : Pos} {i : Nat} {a : Addr} {cls : Value} {d : Option Addr} {dx dy : Nat → List Str → List D → DE} {da : Nat → List Str → List D → DA} {db : Nat → List Str → List D → DB} {de : DE}
abbrev UX (X : Cx) (cl : Cl) (i : Nat) (a : Addr) (cls : Value) (d : Option Addr) (e : Expr) (dx : Nat → List Str → List D → DE) : Prop := PE X e (upX X.K cl i a cls d dx)
abbrev UXA (X : Cx) (cl : Cl) (i : Nat) (a : Addr) (cls : Value) (d : Option Addr) (es : List Expr) (dx : Nat → List Str → List D → DA) : Prop := PA X es (upXA X.K cl i a cls d dx)
abbrev UXB (X : Cx) (cl : Cl) (i : Nat) (a : Addr) (cls : Value) (d : Option Addr) (e : Expr) (dx : Nat → List Str → List D → DB) : Prop := PT X e (upXB X.K cl i a cls d dx)
theorem x_of (h : UE X cl W0 e de) : UX X cl i a cls d e fun _ _ _ => de := weakE h fun σ H Q ⟨w, t, c, ns, vs, eH, ok, en, _, _, _, p⟩ => ⟨w, t, eH, ok, en, p⟩
theorem xa_nil : UXA X cl i a cls d [] fun _ _ _ => aNil := weakA pa_nil fun σ H Q ⟨w, t, c, ns, vs, eH, ok, en, _, _, _, p⟩ => eH ▸ p w [] (Af.refl ok) rfl rfl
theorem xa_cons (ha : UX X cl i a cls d e dx) (hr : UXA X cl i a cls d es da) (hs : starEach (e :: es) X.env = (false, eval e X.env) :: starEach es X.env := by rfl) : UXA X cl i a cls d (e :: es) fun c ns vs => aCons (dx c ns vs) (da c ns vs) :=
  weakA (pa_cons ha hr hs) fun σ H Q ⟨w, t, c, ns, vs, eH, ok, en, hi, hc, hx, p⟩ => by
    refine ⟨w, t, c, ns, vs, eH, ok, en, hi, hc, hx, OPost.bind p fun x w1 v1 a1 r1 p1 => ?_⟩
    refine ⟨w1, t, c, ns, vs, rfl, a1.ok, en.af a1, hi, hc, hx.af a1, OPost.bind p1 fun xs w2 us a2 r2 p2 => ?_⟩
    exact p2 w2 (v1 :: us) (Af.refl a2.ok) rfl ⟨v1, us, rfl, Rep.af a2 r1, r2⟩
theorem x_lst (h : UXA X cl i a cls d es da) : UX X cl i a cls d (.List es pos) fun c ns vs => dLst (da c ns vs) := weakE (pe_lst h) fun σ H Q ⟨w, t, c, ns, vs, eH, ok, en, hi, hc, hx, p⟩ => by
  refine ⟨w, t, c, ns, vs, eH, ok, en, hi, hc, hx, OPost.bind p fun xs w1 us a1 r1 p1 => ?_⟩
  split at p1
  · rename_i hl
    exact ⟨by rw [← Reps.length r1]; exact hl, fun q hq => p1 ⟨_, upd w1.F q (.lst us), w1.m, w1.S⟩ (.ref q) (a1.ok.laid hq) rfl (laidLst a1.ok hq r1)⟩
  · exact p1.elim
theorem x_if {ec : Expr} (hc : UXB X cl i a cls d ec db) (ha : UX X cl i a cls d e dx) (hb : UX X cl i a cls d e' dy) : UX X cl i a cls d (.IfExp ec e e' pos) fun c ns vs => dIf (db c ns vs) (dx c ns vs) (dy c ns vs) :=
  weakE (pe_ifExp hc ha hb) fun σ H Q ⟨w, t, c, ns, vs, eH, ok, en, hi, hc, hx, p⟩ => by
    refine ⟨w, t, c, ns, vs, eH, ok, en, hi, hc, hx, OPost.bind p fun x w1 v1 a1 r1 p1 => ?_⟩
    cases (show x = v1 from r1)
    cases x with
    | true => exact ⟨w1, t, c, ns, vs, rfl, a1.ok, en.af a1, hi, hc, hx.af a1, p1⟩
    | false => exact ⟨w1, t, c, ns, vs, rfl, a1.ok, en.af a1, hi, hc, hx.af a1, p1⟩
theorem xb_val (h : UX X cl i a cls d e dx) (he : ∀ whole, isTrue e X.env whole = (do let v ← whole; standAt e.pos; holding [v] (truthy v)) := by intro _; rfl) : UXB X cl i a cls d e fun c ns vs => bTest (dx c ns vs) :=
  weakB (pt_val h he) fun σ H Q ⟨w, t, c, ns, vs, eH, ok, en, hi, hc, hx, p⟩ => by
    refine ⟨w, t, c, ns, vs, eH, ok, en, hi, hc, hx, OPost.bind p fun x w1 v1 a1 r1 p1 => ?_⟩
    split at p1
    · rename_i b
      cases (show v1 = .bl b from r1)
      exact ⟨b, rfl, p1 w1 b (Af.refl a1.ok) rfl rfl⟩
    · exact p1.elim
/-- n.f, n the caught error's name; its class is known to be c0 -/
def dXf (c0 : Nat) (f : Str) (c : Nat) (ns : List Str) (vs : List D) : DE := fun _ S => if c = c0 then (match lookD ns vs f with
  | some x => .ok x S
  | none => .bad) else .bad
theorem lookD_nil {vs : List D} {f : Str} : lookD [] vs f = none := by cases vs <;> rfl
theorem x_fld {pn : List (Addr × Obj)} {oe : Obj} {c0 : Nat} {f n : Str} {p : Pos} (T : XfC X.K (cl c0)) (hno : PySem.W.findIn X.K (.ref (cl c0)) f = some none) (hz : Zc cls d oe) (hf : ∃ vs, oe.data = .fields vs) (hn : X.N[i]? = some n) (hv : Vis X.env.scope n) (hd : (n == ("__debug__" : Str)) = false := by decide) (hcd : (n == ("__classdict__" : Str)) = false := by decide)
    (hb : attributeBase (.Name n p) f X.env (eval (.Name n p) X.env) = eval (.Name n p) X.env := by rfl) : UX (X.suite a ((a, oe) :: pn)) cl i a cls d (.Attribute (.Name n p) f pos) (dXf c0 f) :=
  weakE (pe_xf T hno hz hf (pe_var (X := X.suite a ((a, oe) :: pn)) hn hv hd hcd) hb) fun σ H Q ⟨w, t, c, ns, vs, eH, ok, en, hi, hc, hx, p⟩ => by
    subst eH
    have p' : OPost X.K cl (RV X.K cl) (fun _ _ _ => False) w Q (dXf c0 f c ns vs t w.S) := p
    unfold dXf at p'
    split at p'
    · rename_i e0
      subst e0
      split at p'
      · rename_i x hl
        rcases hx with ⟨e1, _⟩ | ⟨dd, es, e1, e2, e3, r⟩
        · subst e1
          rw [lookD_nil] at hl
          cases hl
        · obtain ⟨v, q1, q2⟩ := look_rep e3 r hl
          exact ⟨.ref a, hi, rfl, hc, dd, es, v, e1, ok.sub _ _ e2, q1, p' w v (Af.refl ok) rfl q2⟩
      · exact p'.elim
    · exact p'.elim
/-- isinstance(n, C) of the caught error -/
def dXi (c0 : Nat) (b : Bool) (c : Nat) (_ : List Str) (_ : List D) : DE := fun _ S => if c = c0 then .ok (.bl b) S else .bad
def rIsX (K : PySem.W.Frag) (D a : Addr) (d : Option Addr) : List V → Hp → VK → Prop := fun xs H Q => ∃ (c : V) (cv : Value) (b : Bool), xs = [.ref a, c] ∧ (∀ u, RelV c u → u = cv) ∧ PySem.W.kitOne K (.ref D) cv = some b ∧ (d = none ∨ ∃ dd es, d = some dd ∧ H dd = some (.xd es)) ∧ Q (.bl b) H
theorem call_isX {pn : List (Addr × Obj)} {oe : Obj} {D : Addr} (T : ExcC X.K D) (hz : Zc (.ref D) d oe) (hf : ∃ vs, oe.data = .fields vs) : CallR (X.suite a ((a, oe) :: pn)) (.builtin "isinstance") (rIsX X.K D a d) := by
  intro pins s σ H xs us Q I r h
  obtain ⟨c, cv, b, rfl, hcv, e, hd, q⟩ := h
  cases r with
  | cons rx rr =>
    cases rr with
    | cons rt rr =>
      cases rr
      cases rx
      have ec := hcv _ rt
      subst ec
      obtain ⟨hget, _⟩ := I.pin (a, oe) (List.mem_append.mpr (.inl List.mem_cons_self))
      obtain ⟨vs, hv⟩ := hf
      obtain ⟨od, J⟩ : ∃ od, PySem.W.InstAt s.heap a oe D od := by
        rcases hd with hd | ⟨dd, es, hd, hx⟩
        · exact ⟨none, hget, hz.1, by unfold PySem.W.notCls; rw [hv] <;> rfl, by rw [hz.2, hd]; exact True.intro⟩
        · obtain ⟨mA, hns, _⟩ := (show ObjOk X.prog X.w H s.heap dd (.xd es) from I.hok dd _ hx)
          obtain ⟨o, _, _, ho, _⟩ := hns
          exact ⟨some o, hget, hz.1, by unfold PySem.W.notCls; rw [hv] <;> rfl, by rw [hz.2, hd]; exact ho⟩
      exact PySem.W.kia_one (exc_kit T) I.kIn J e (fun z => nomatch z) fun tk => ⟨.bl b, H, I.kept (t' := tk) fun _ _ z => z, rfl, q⟩
theorem x_isi {pn : List (Addr × Obj)} {oe : Obj} {c0 : Nat} {p : Pos} {C : Addr} {b : Bool} {e1 e2 : Expr} (T : ExcC X.K (cl c0)) (hz : Zc cls d oe) (hf : ∃ vs, oe.data = .fields vs) (hk : PySem.W.kitOne X.K (.ref (cl c0)) (.ref C) = some b)
    (h1 : PE (X.suite a ((a, oe) :: pn)) e1 (tVar i)) (h2 : PE (X.suite a ((a, oe) :: pn)) e2 (tC (.ref C))) (hg : Gl (X.suite a ((a, oe) :: pn)) "isinstance") (hm : X.mg "isinstance" = none)
    (hs : starEach [e1, e2] X.env = (false, eval e1 X.env) :: starEach [e2] X.env := by rfl) (hs2 : starEach [e2] X.env = (false, eval e2 X.env) :: starEach [] X.env := by rfl) (hpl : (backTo pos (starEach [e2] X.env)).any (·.1) = false := by rfl) :
    UX (X.suite a ((a, oe) :: pn)) cl i a cls d (.Call (.Name "isinstance" p) [e1, e2] [] pos) (dXi c0 b) := by
  by_cases hc : cls = .ref (cl c0)
  · subst hc
    refine weakE (pe_callB (call_isX T hz hf) hg hm (by decide +kernel) (pa_cons h1 (pa_cons h2 pa_nil hs2) hs) (by decide) (by decide) hs hpl) fun σ H Q ⟨w, t, c, ns, vs, eH, ok, en, hi, hc, hx, q⟩ => ?_
    subst eH
    have q' : OPost X.K cl (RV X.K cl) (fun _ _ _ => False) w Q (dXi c0 b c ns vs t w.S) := q
    unfold dXi at q'
    split at q'
    · refine ⟨.ref a, hi, .ref C, .ref C, b, rfl, fun u h => h, hk, ?_, q' w (.bl b) (Af.refl ok) rfl rfl⟩
      rcases hx with ⟨_, e1⟩ | ⟨dd, es, e1, e2, _, _⟩
      · exact .inl e1
      · exact .inr ⟨dd, es, e1, ok.sub _ _ e2⟩
    · exact q'.elim
  · refine weakE (te := fun _ _ _ => False) ⟨fun _ _ _ _ _ _ h => h.elim⟩ fun σ H Q ⟨w, t, c, ns, vs, eH, ok, en, hi, hc', hx, q⟩ => ?_
    have q' : OPost X.K cl (RV X.K cl) (fun _ _ _ => False) w Q (dXi c0 b c ns vs t w.S) := q
    unfold dXi at q'
    split at q'
    · rename_i e0
      rw [e0] at hc'
      exact hc hc'
    · exact q'.elim
theorem xs_set {j : Nat} {x : Str} {pos' : Pos} (hN : X.N.Nodup) (hj : X.N[j]? = some x) (hx : Loc X.env.scope x) (h : UX X cl i a cls d e dx) (hs : swapsWith e (some (.Name x pos')) pos.line X.env = pure false := by rfl) (hf : X.fn x = true ∨ X.env.scope.names.lookup x = some .local := by first | exact .inl rfl | exact .inr rfl | assumption) :
    PS X (.Assign [.Name x pos'] e pos) (upXS X.K cl i a cls d fun c ns vs => dSet j (dx c ns vs)) := weakS (ps_set hN hj hx h hs hf) fun N σ H ⟨w, t, c, ns, vs, eH, ok, en, hi, hc, he, p⟩ => by
  refine ⟨w, t, c, ns, vs, eH, ok, en, hi, hc, he, ?_⟩
  exact SPost.ofE p en fun x w1 v y rv en1 p1 => p1 w1 _ (Af.refl y.ok) rfl (en1.set rv)
theorem xs_one {s : Stmt} {ds : Nat → List Str → List D → DS} (h : PS X s (upXS X.K cl i a cls d ds)) : PSs X [s] (upXS X.K cl i a cls d ds) := pss_one h
end
/-! ### try -/
structure Hd where
  mt : Nat → Option Bool
  slot : Option Nat
  run : Nat → List Str → List D → DS
def unset (i : Option Nat) (t : Lc) : Lc := match i with
  | none => t
  | some i => t.set i none
def slotIn (i : Option Nat) (t : Lc) : Bool := match i with
  | none => true
  | some i => decide (i < t.length)
def dHds : List Hd → Lc → Nat → List Str → List D → Sto → SOut
  | [], t, c, ns, vs, S => .exc t c ns vs S
  | h :: r, t, c, ns, vs, S => match h.mt c with
    | some true => if slotIn h.slot t = true then (match h.run c ns vs (unset h.slot t) S with
      | .nx t3 S3 => .nx (unset h.slot t3) S3
      | .bk t3 S3 => .bk (unset h.slot t3) S3
      | .ct t3 S3 => .ct (unset h.slot t3) S3
      | .rt x S3 => .rt x S3
      | _ => .bad) else .bad
    | some false => dHds r t c ns vs S
    | none => .bad
def dTry (db : DS) (hs : List Hd) : DS := fun t S => match db t S with
  | .exc t1 c ns vs S1 => dHds hs t1 c ns vs S1
  | o => o
/-- what a clause's reading and its words have to do with each other -/
inductive HdsD (K : PySem.W.Frag) (cl : Cl) : List Hd → List Cl3 → Prop
  | nil : HdsD K cl [] []
  | bare {mt : Nat → Option Bool} {c0 : Value} {ds : DS} {hs : List Hd} {l : List Cl3} (hm : ∀ c b, mt c = some b → PySem.W.exmOne K (.ref (cl c)) c0 = some b) (r : HdsD K cl hs l) : HdsD K cl (⟨mt, none, fun _ _ _ => ds⟩ :: hs) (⟨c0, none, fun _ _ _ => upS K cl W0 ds⟩ :: l)
  | named {mt : Nat → Option Bool} {c0 : Value} {i : Nat} {dx : Nat → List Str → List D → DS} {hs : List Hd} {l : List Cl3} (hm : ∀ c b, mt c = some b → PySem.W.exmOne K (.ref (cl c)) c0 = some b) (r : HdsD K cl hs l) :
      HdsD K cl (⟨mt, some i, dx⟩ :: hs) (⟨c0, some i, fun a cls d => upXS K cl i a cls d dx⟩ :: l)
section
variable {K : PySem.W.Frag} {cl : Cl} {W : WX} {N : Ends}
theorem hds_ok {hs : List Hd} {l : List Cl3} (hd : HdsD K cl hs l) : ∀ {w : Wd} {t : Lc} {σ : L2.St} {c : Nat} {ns : List Str} {vs : List D} {d : Option Addr}, w.Ok K cl → EnvR K cl w t σ → ExcAt K cl w d ns vs → SPost K cl W N w (dHds hs t c ns vs w.S) → wMix K W N l (.ref (cl c)) d σ w.H := by
  induction hd with
  | nil => exact fun ok en x p => p _ _ _ (Af.refl ok) rfl en x
  | @bare mt c0 ds hs l hm r ih =>
    intro w t σ c ns vs d ok en x p
    unfold dHds at p
    dsimp only at p
    cases q : mt c with
    | none => rw [q] at p; exact p.elim
    | some b =>
      refine ⟨b, hm c b q, fun e a na => ?_, fun e => ?_⟩
      · subst e
        rw [q] at p
        refine ⟨w, t, rfl, ok, en, ?_⟩
        have p2 : SPost K cl W N w (if true = true then (match ds t w.S with
          | .nx t3 S3 => .nx t3 S3
          | .bk t3 S3 => .bk t3 S3
          | .ct t3 S3 => .ct t3 S3
          | .rt x S3 => .rt x S3
          | _ => .bad) else .bad) := p
        rw [if_pos rfl] at p2
        cases z : ds t w.S with
        | exc t c ns vs S => rw [z] at p2; exact p2.elim
        | bad => rw [z] at p2; exact p2.elim
        | _ => rw [z] at p2; exact p2
      · subst e
        rw [q] at p
        exact ih ok en x p
  | @named mt c0 i dx hs l hm r ih =>
    intro w t σ c ns vs d ok en x p
    unfold dHds at p
    dsimp only at p
    cases q : mt c with
    | none => rw [q] at p; exact p.elim
    | some b =>
      refine ⟨b, hm c b q, fun e a na => ?_, fun e => ?_⟩
      · subst e
        rw [q] at p
        have p : SPost K cl W N w (if slotIn (some i) t = true then (match dx c ns vs (t.set i none) w.S with
          | .nx t3 S3 => .nx (t3.set i none) S3
          | .bk t3 S3 => .bk (t3.set i none) S3
          | .ct t3 S3 => .ct (t3.set i none) S3
          | .rt x S3 => .rt x S3
          | _ => .bad) else .bad) := p
        by_cases hi : slotIn (some i) t = true
        case neg =>
          rw [if_neg hi] at p
          exact p.elim
        rw [if_pos hi] at p
        have p2 := p
        have hi : i < σ.length := by rw [← en.len]; exact of_decide_eq_true hi
        · refine ⟨w, t.set i none, c, ns, vs, rfl, ok, en.unset, List.getElem?_set_self hi, rfl, x, ?_⟩
          cases z : dx c ns vs (t.set i none) w.S with
          | exc t c ns vs S => rw [z] at p2; exact p2.elim
          | bad => rw [z] at p2; exact p2.elim
          | rt x S => rw [z] at p2; exact p2
          | nx t3 S3 => rw [z] at p2; exact fun w' σ' y e en' => p2 w' _ y e en'.unset
          | bk t3 S3 => rw [z] at p2; exact fun w' σ' y e en' => p2 w' _ y e en'.unset
          | ct t3 S3 => rw [z] at p2; exact fun w' σ' y e en' => p2 w' _ y e en'.unset
      · subst e
        rw [q] at p
        exact ih ok en x p
end
section
variable {X : Cx} {cl : Cl} {W : WX} {body : List Stmt} {h₀ : ExceptHandler} {hds : List ExceptHandler} {l : List Cl3} {pos : Pos} {db : DS} {hs : List Hd}
theorem s_try (h1 : X.stack = X.env :: X.outer) (hf : X.env.frame = some X.env.locals) (hN : X.N.Nodup) (tk : Takes X W)
    (hb : ∀ (W' : WX) (pn : List (Addr × Obj)) (xe : Value → Shared → Prop), Takes (X.tr pn xe) W' → PassesOwn (model X.prog X.w) X.A X.env xe → USs (X.tr pn xe) cl W' body db)
    (hd : HdsD X.K cl hs l) (hh : HdMix X (h₀ :: hds) l) : US X cl W (.Try body (h₀ :: hds) [] [] pos) (dTry db hs) :=
  weakS (ps_try_mix h1 hf hN tk (tb := fun W' => upS X.K cl W' db) (fun W' pn xe a b => hb W' pn xe a b) hh) fun N σ H ⟨w, t, eH, ok, en, p⟩ => by
    refine ⟨w, t, eH, ok, en, ?_⟩
    unfold dTry at p
    cases q : db t w.S with
    | exc t1 c ns vs S1 =>
      rw [q] at p
      intro w' σ' d y e en' x
      exact hds_ok hd y.ok en' x (by rw [e]; exact SPost.after p y)
    | nx t1 S1 => rw [q] at p; exact p
    | rt t1 S1 => rw [q] at p; exact p
    | bk t1 S1 => rw [q] at p; exact p
    | ct t1 S1 => rw [q] at p; exact p
    | bad => rw [q] at p; exact p.elim
end
end Dl
set_option Elab.async false
set_option linter.all false
set_option maxRecDepth 100000
set_option maxHeartbeats 1000000
/-! The data layer: the head's facts of own exceptions. -/
namespace Dl
open PySem PySem.Spec PyProof.Rows L2
def newOk (K : PySem.W.Frag) (C : Addr) : Bool := match K.lookup C with
  | some ⟨.type "type", _, .cls cd, sl⟩ => (match cd.mro, sl.toList with
    | .ref D :: bm, [_, _, _, _, some (.builtin n), _] => D == C && (n == "ValueError.__new__" && (!cd.hasDel && (cd.hasDict && PySem.HandSPX.refsVE bm)))
    | _, _ => false)
  | _ => false
theorem newOk_is {K : PySem.W.Frag} {C : Addr} (q : newOk K C = true) : ∃ nm q N bs bm sn sub ab col dd k0 k1 k2 k3 k5, K.lookup C = some (excClassObj nm q C N bs bm true sn sub ab col dd k0 k1 k2 k3 k5 "ValueError.__new__") ∧ PySem.HandSPX.refsVE bm = true := by
  unfold newOk at q
  split at q
  · rename_i dd cd sl ho
    split at q
    · rename_i C' bm k0 k1 k2 k3 n k5 hm hs
      obtain ⟨h1, q⟩ := He.ba q
      obtain ⟨h2, q⟩ := He.ba q
      obtain ⟨h3, q⟩ := He.ba q
      obtain ⟨h4, h5⟩ := He.ba q
      obtain ⟨nm, bs, mro, ns, qn, hd, sn, sub, ab, col, del⟩ := cd
      dsimp only at hm h3 h4
      have e1 : C' = C := beq_iff_eq.mp h1
      have e2 : n = "ValueError.__new__" := beq_iff_eq.mp h2
      have e3 : del = false := by cases del with
        | false => rfl
        | true => cases h3
      subst hm e1 e2 e3 h4
      have hsl : sl = #[k0, k1, k2, k3, some (.builtin "ValueError.__new__"), k5] := by
        obtain ⟨l⟩ := sl
        simp only at hs
        rw [hs]
      subst hsl
      exact ⟨nm, qn, ns, bs, bm, sn, sub, ab, col, dd, k0, k1, k2, k3, k5, ho, h5⟩
    · cases q
  · cases q
/-- all of a class's facts -/
def excWhole (x : Str) (K : PySem.W.Frag) : Bool := newOk K (He.ga K x) && (He.eqO (PySem.W.findIn K (.ref (He.ga K x)) "__setattr__") (some (some (.builtin "object.__setattr__"))) && (decide (PySem.W.subIn K (.ref (He.ga K x)) (.type "BaseException") = some true) &&
  (decide (PySem.W.typeIn K (.ref (He.ga K x)) = some (.type "type")) && (PySem.W.keepIn K (.ref (He.ga K x)) && (He.eqO (PySem.W.ks_superIn K (He.ga K x) (He.ga K x) "__init__") (some (some (.builtin veI))) &&
  (decide (PySem.W.subIn K (.ref (He.ga K x)) (.type "ValueError") = some true) && (decide (PySem.W.mroIn K (He.ga K x) (.ref (He.ga K x)) = some true) && He.eqO (PySem.W.nsIn K cStatics "thirdparty.any") (some none))))))))
theorem xcls_ok {x : Str} {K : PySem.W.Frag} (h : excWhole x K = true) : XCls K (He.ga K x) := by
  obtain ⟨h1, h⟩ := He.ba h
  obtain ⟨h2, h⟩ := He.ba h
  obtain ⟨h3, h⟩ := He.ba h
  obtain ⟨h4, h⟩ := He.ba h
  obtain ⟨h5, h⟩ := He.ba h
  obtain ⟨h6, h⟩ := He.ba h
  obtain ⟨h7, h⟩ := He.ba h
  obtain ⟨h8, h9⟩ := He.ba h
  exact ⟨⟨newOk_is h1, He.eqO_ok h2, of_decide_eq_true h3, of_decide_eq_true h4, h5⟩, He.eqO_ok h6, of_decide_eq_true h7, of_decide_eq_true h8, He.eqO_ok h9⟩
/-- .. for isinstance and its fields -/
def excSeen (x : Str) (K : PySem.W.Frag) : Bool := xfB K (He.ga K x) && (He.eqO (PySem.W.findIn K (.ref (He.ga K x)) "__class__") (some (some (.builtin "object.__class__"))) && (He.eqO (PySem.W.specialIn K (.builtin "object.__class__") "__get__") (some (some (.builtin "getset_descriptor.__get__"))) &&
  (decide (PySem.W.takesIn K (.builtin "object.__class__") = some true) && decide (PySem.W.mroIn K (He.ga K x) (.type "object") = some true))))
theorem xfc_ok {x : Str} {K : PySem.W.Frag} (h : excSeen x K = true) : XfC K (He.ga K x) := xfB_ok (He.ba h).1
theorem excC_ok {x : Str} {K : PySem.W.Frag} (h : excSeen x K = true) : ExcC K (He.ga K x) := by
  obtain ⟨h1, h⟩ := He.ba h
  obtain ⟨h2, h⟩ := He.ba h
  obtain ⟨h3, h⟩ := He.ba h
  obtain ⟨h4, h5⟩ := He.ba h
  have f := xfB_ok h1
  exact ⟨f.ga, f.gg, f.exC, f.hdC, He.eqO_ok h2, He.eqO_ok h3, of_decide_eq_true h4, of_decide_eq_true h5⟩
/-- its __init__ is its own def -/
def excMade (x : Str) (K : PySem.W.Frag) : Bool := He.eqO (PySem.W.findIn K (.ref (He.ga K x)) "__init__") (some (some (.ref (He.fAd K (x, some "__init__"))))) && decide (PySem.W.typeIn K (.ref (He.fAd K (x, some "__init__"))) = some (.type "function"))
theorem made_find {x : Str} {K : PySem.W.Frag} (h : excMade x K = true) : PySem.W.findIn K (.ref (He.ga K x)) "__init__" = some (some (.ref (He.fAd K (x, some "__init__")))) := He.eqO_ok (He.ba h).1
theorem made_type {x : Str} {K : PySem.W.Frag} (h : excMade x K = true) : PySem.W.typeIn K (.ref (He.fAd K (x, some "__init__"))) = some (.type "function") := of_decide_eq_true (He.ba h).2
def noFld (x f : Str) (K : PySem.W.Frag) : Bool := He.eqO (PySem.W.findIn K (.ref (He.ga K x)) f) (some none)
theorem noFld_ok {x f : Str} {K : PySem.W.Frag} (h : noFld x f K = true) : PySem.W.findIn K (.ref (He.ga K x)) f = some none := He.eqO_ok h
def exmB (x y : Str) (b : Bool) (K : PySem.W.Frag) : Bool := decide (PySem.W.exmOne K (.ref (He.ga K x)) (.ref (He.ga K y)) = some b)
theorem exmB_ok {x y : Str} {b : Bool} {K : PySem.W.Frag} (h : exmB x y b K = true) : PySem.W.exmOne K (.ref (He.ga K x)) (.ref (He.ga K y)) = some b := of_decide_eq_true h
def kitB (x y : Str) (b : Bool) (K : PySem.W.Frag) : Bool := decide (PySem.W.kitOne K (.ref (He.ga K x)) (.ref (He.ga K y)) = some b)
theorem kitB_ok {x y : Str} {b : Bool} {K : PySem.W.Frag} (h : kitB x y b K = true) : PySem.W.kitOne K (.ref (He.ga K x)) (.ref (He.ga K y)) = some b := of_decide_eq_true h
/-! ### the text of an __init__ with super() -/
structure XDef where
  cls : Str
  qual : Str
  params : Arguments
  body : List Stmt
  scope : Scope
abbrev FnY : Type := Option (Str × Str × Arguments × FuncBody × Scope × Addr × List Str × Addr)
def fnY (K : PySem.W.Frag) (x : Str) : FnY := match K.lookup (He.fAd K (x, some "__init__")) with
  | some ⟨_, _, .func fd, _⟩ => some (fd.name, fd.qualname, fd.params, fd.body, fd.scope, fd.globals, fd.closure.map (·.1), fd.builtins)
  | _ => none
def XDef.val (d : XDef) : FnY := some ("__init__", d.qual, d.params, .stmts d.body, d.scope, mainGlobals, ["__class__"], builtinsNs)
/-- the cell of its class -/
def cellA (K : PySem.W.Frag) (x : Str) : Addr := match K.lookup (He.fAd K (x, some "__init__")) with
  | some ⟨_, _, .func fd, _⟩ => (match fd.closure with
    | [q] => q.2
    | _ => 0)
  | _ => 0
def codA (K : PySem.W.Frag) (x : Str) : Addr := match K.lookup (He.fAd K (x, some "__init__")) with
  | some ⟨_, _, .func fd, _⟩ => (match fd.code with
    | .ref c => c
    | _ => 0)
  | _ => 0
def fileB (f : Str) (K : PySem.W.Frag) (c : Addr) : Bool := match K.lookup c with
  | some ⟨_, _, .fields vs, _⟩ => (match (vs[2]? : Option Value) with
    | some (.str fi _) => f == fi
    | _ => false)
  | _ => false
def cellB (K : PySem.W.Frag) (cc C : Addr) : Bool := match K.lookup cc with
  | some ⟨_, _, .cell (some (.ref D)), _⟩ => D == C
  | _ => false
def tailB (f : Str) (K : PySem.W.Frag) (C : Addr) (qual : Str) (dv cd : Value) (cl : List (Str × Addr)) : Bool := match dv, cd, cl with
  | .none, .ref c, [q] => PySem.W.codeIn K (.ref c) qual && (fileB f K c && cellB K q.2 C)
  | _, _, _ => false
def excText (f x : Str) (K : PySem.W.Frag) : Bool := match K.lookup (He.fAd K (x, some "__init__")) with
  | some ⟨_, _, .func fd, _⟩ => tailB f K (He.ga K x) fd.qualname fd.defaults fd.code fd.closure
  | _ => false
theorem tailB_ok {f : Str} {K : PySem.W.Frag} {C : Addr} {qual : Str} {dv cd : Value} {cl : List (Str × Addr)} (h : tailB f K C qual dv cd cl = true) : dv = .none ∧ ∃ c q, cd = .ref c ∧ cl = [q] ∧ PySem.W.codeIn K (.ref c) qual = true ∧ fileB f K c = true ∧ cellB K q.2 C = true := by
  unfold tailB at h
  split at h
  · rename_i c q
    obtain ⟨k1, k2⟩ := He.ba h
    obtain ⟨k3, k4⟩ := He.ba k2
    exact ⟨rfl, c, q, rfl, rfl, k1, k3, k4⟩
  · cases h
theorem fileB_ok {f : Str} {K : PySem.W.Frag} {c : Addr} (h : fileB f K c = true) : ∃ ccl cdd vs ccs fi tf, K.lookup c = some ⟨ccl, cdd, .fields vs, ccs⟩ ∧ vs[2]? = some (.str fi tf) ∧ (f == fi) = true := by
  unfold fileB at h
  split at h
  · rename_i a b vs d e
    split at h
    · rename_i fi tf e2
      exact ⟨a, b, vs, d, fi, tf, e, e2, h⟩
    · cases h
  · cases h
theorem cellB_ok {K : PySem.W.Frag} {cc C : Addr} (h : cellB K cc C = true) : ∃ cl cld csl, K.lookup cc = some ⟨cl, cld, .cell (some (.ref C)), csl⟩ := by
  unfold cellB at h
  split at h
  · rename_i a b D d e
    rw [beq_iff_eq.mp h] at e
    exact ⟨a, b, d, e⟩
  · cases h
theorem xfn_ok {P : Program} {K : PySem.W.Frag} {d : XDef} (e : fnY K d.cls = d.val) (h : excText P.main.file d.cls K = true) :
    XFn P K (He.ga K d.cls) (He.fAd K (d.cls, some "__init__")) d.qual d.params d.body d.scope (fdAt K (d.cls, some "__init__")) (codA K d.cls) (cellA K d.cls) := by
  unfold excText at h
  unfold fnY at e
  unfold fdAt codA cellA
  cases q : K.lookup (He.fAd K (d.cls, some "__init__")) with
  | none => rw [q] at h; cases h
  | some o =>
    obtain ⟨oc, od, dt, osl⟩ := o
    rw [q] at h e
    cases dt with
    | func fd =>
      obtain ⟨n1, n2, n3, n4, n5, n6, n7, n8, n9, n10, n11, n12, n13, n14, n15⟩ := fd
      have e2 : (some (n1, n2, n3, n4, n5, n6, n7.map (·.1), n15) : FnY) = (some (("__init__" : Str), d.qual, d.params, FuncBody.stmts d.body, d.scope, mainGlobals, (["__class__"] : List Str), builtinsNs) : FnY) := e
      simp only [Option.some.injEq, Prod.mk.injEq] at e2
      obtain ⟨h1, h2, h3, h4, h5, h6, h7, h8⟩ := e2
      subst h1 h2 h3 h4 h5 h6 h8
      obtain ⟨e8, c, q1, e13, e7, k1, k3, k4⟩ := tailB_ok (show tailB P.main.file K (He.ga K d.cls) d.qual n8 n13 n7 = true from h)
      subst e8 e13 e7
      obtain ⟨y1, y2⟩ := q1
      have hy : y1 = "__class__" := (List.cons.inj h7).1
      subst hy
      exact ⟨⟨oc, od, osl, n9, n10, n11, n12, n14, rfl, q⟩, k1, fileB_ok k3, cellB_ok k4⟩
    | _ => cases h
/-! ### the Hook -/
def asZ (g : Addr → Option Obj) (n : Nat) : List Addr := He.asD g n ++ [cStatics]
abbrev AlZ : Type := (He.AlT × Bool) × List FnY
def obsZ (n : Nat) (fa : List He.Fa) (fn : List He.DefD) (ts : List He.Tab) (xs : List XDef) (ex : PySem.W.Frag → Bool) (g : Addr → Option Obj) : AlZ := ((He.obsT fa fn ts (He.frT g (asZ g n)), ex (He.frT g (asZ g n))), xs.map fun d => fnY (He.frT g (asZ g n)) d.cls)
def valZ (fn : List He.DefD) (ts : List He.Tab) (xs : List XDef) (w : World) : AlZ := ((He.valT fn ts w, true), xs.map XDef.val)
structure SaysZ (fa : List He.Fa) (fn : List He.DefD) (ts : List He.Tab) (xs : List XDef) (ex : PySem.W.Frag → Bool) (w : World) (K : PySem.W.Frag) : Prop where
  t : He.SaysT fa fn ts w K
  more : ex K = true
  y : xs.map (fun d => fnY K d.cls) = xs.map XDef.val
def hookZ (n : Nat) (fa : List He.Fa) (fn : List He.DefD) (ts : List He.Tab) (xs : List XDef) (ex : PySem.W.Frag → Bool) : PySem.W.Hook where
  α := AlZ
  obs := fun s => obsZ n fa fn ts xs ex s.heap.get?
  val := fun w => valZ fn ts xs w
  says := fun w h => ∃ K : PySem.W.Frag, K.In h ∧ SaysZ fa fn ts xs ex w K
  of := fun _ _ e => ⟨_, He.frT_in, ⟨congrArg (fun z : AlZ => z.1.1) e, congrArg (fun z : AlZ => z.1.2) e, congrArg (fun z : AlZ => z.2) e⟩⟩
  keeps := fun _ _ _ ⟨K, hK, c⟩ k => ⟨K, PySem.W.Frag.In.keeps hK k, c⟩
theorem obsZ_eq {n : Nat} {fa : List He.Fa} {fn : List He.DefD} {ts : List He.Tab} {xs : List XDef} {ex : PySem.W.Frag → Bool} {g : Addr → Option Obj} {s : Shared} (h : ∀ a, g a = s.heap.get? a) : obsZ n fa fn ts xs ex g = (hookZ n fa fn ts xs ex).obs s := by
  have e : g = s.heap.get? := funext h
  rw [e] <;> rfl
structure Wz (P : Program) (file : Str) (fa : List He.Fa) (fn : List He.DefD) (ts : List He.Tab) (xs : List XDef) (ex : PySem.W.Frag → Bool) (w : World) (K : PySem.W.Frag) (mg : Str → Option Value) : Prop extends Wl fa fn ts ex w K mg where
  y : xs.map (fun d => fnY K d.cls) = xs.map XDef.val
  file : P.main.file = file
  top : (P.main.scope.names.lookup ("super" : Str)).isSome = false
theorem Wz.xfn {P : Program} {file : Str} {fa : List He.Fa} {fn : List He.DefD} {ts : List He.Tab} {xs : List XDef} {ex : PySem.W.Frag → Bool} {w : World} {K : PySem.W.Frag} {mg : Str → Option Value} (c : Wz P file fa fn ts xs ex w K mg) (i : Nat) {d : XDef} (h : xs[i]? = some d) (e : excText file d.cls K = true) :
    XFn P K (He.ga K d.cls) (He.fAd K (d.cls, some "__init__")) d.qual d.params d.body d.scope (fdAt K (d.cls, some "__init__")) (codA K d.cls) (cellA K d.cls) := by
  have q : (xs.map fun d => fnY K d.cls)[i]? = (xs.map XDef.val)[i]? := by rw [c.y]
  rw [List.getElem?_map, List.getElem?_map, h] at q
  rw [← c.file] at e
  exact xfn_ok (Option.some.inj q) e
theorem passes_never {P : Program} {w : World} {X : Cx} : Passes (L2.CX P w) X E0 := fun _ _ _ _ _ _ _ h => (noleave h).elim
/-- arguments of an __init__ by place -/
theorem XFn.binds {P : Program} {K : PySem.W.Frag} {C f cda cc : Addr} {qual : Str} {params : Arguments} {body : List Stmt} {scope : Scope} {fd : FuncData} (F : XFn P K C f qual params body scope fd cda cc) {ps : List Str}
    (h : ∀ (cl : List (Str × Addr)) (kV doc pm : Value) (an : Option Addr) (cdv ct : Value) (us : List Value), us.length = ps.length → bindArgs (PySem.W.fnX "__init__" qual params body scope cl .none kV doc pm an cdv ct) ⟨us, []⟩ = pure (ps.zip us)) : Binds K fd ps [] := by
  obtain ⟨oc, od, osl, kV, doc, pm, an, ct, rfl, lk⟩ := F.fn
  exact .all fun us hl => h _ _ _ _ _ _ _ us hl
/-- a text whose shown part stands last -/
theorem shown_two {K : PySem.W.Frag} {a : Str} (ha : a.length ≤ 1000) : Harm (Showy K) (fun σ H Q => tJs [tC (.str a), tShow K (tVar 1)] Str.empty σ H fun out H1 => Q (.str out) H1) := fun σ H y hy sh Q h => by
  have e0 : (Str.empty : Str).length = 0 := rfl
  have big : 300000 ≤ sizeLine := by decide
  exact ⟨a, rfl, by rw [str_app]; omega, y, hy, sh, fun m hm => ⟨m, rfl, by rw [str_app, str_app]; omega, h _⟩⟩
theorem harm_c {chk : V → Hp → Prop} {v : V} : Harm chk (tC v) := fun _ _ _ _ _ _ h => h _
end Dl
set_option Elab.async false
set_option linter.all false
set_option maxRecDepth 100000
set_option maxHeartbeats 1000000
/-! The data layer: != by an own __eq__; a list's sum that is still to change. -/
namespace Dl
open PySem PySem.Spec PyProof.Rows L2
def fAddC : D → D → Sto → Out D := fun x y S => match deref x S, deref y S with
  | .lst xs, .lst ys => if xs.length + ys.length ≤ sizeLine then .ok (.ptr S.length) (S ++ [some (.lst (xs ++ ys))]) else .bad
  | _, _ => .bad
theorem d_addC {K : PySem.W.Frag} {cl : Cl} : OpD K cl (rAddAny K) fAddC := by
  intro w x y vx vy W Q ok rx ry p
  unfold fAddC at p
  split at p
  · rename_i xs ys h1 h2
    split at p
    · rename_i hz
      obtain ⟨a, vs, ev, q1, q2⟩ := deref_lst ok rx h1
      obtain ⟨b, us, eu, q3, q4⟩ := deref_lst ok ry h2
      refine .inr (.inr (.inl ⟨a, b, vs, us, ev, eu, q1, q3, by rw [← Reps.length q2, ← Reps.length q4]; exact hz, fun q hq => ?_⟩))
      have z := ok.cellNew (K := K) (u := .lst (vs ++ us)) (d := .lst (xs ++ ys)) hq ⟨vs ++ us, upd_same, Reps.mono (fun _ _ h => h) (fun i b hb => pre_get hb) _ _ (Reps.append q2 q4)⟩
      exact p ⟨upd w.H q (.lst (vs ++ us)), w.F, w.m ++ [q], w.S ++ [some (D.lst (xs ++ ys))]⟩ (.ref q) z rfl ⟨q, snoc_get ok.len.symm, rfl⟩
    · exact p.elim
  · exact p.elim
/-! ### != -/
def neIn (K : PySem.W.Frag) (C f : Addr) : Bool := match K.lookup C with
  | some ⟨.type "type", _, .cls cd, sl⟩ => (match cd.mro, sl.toList with
    | .ref D :: bm, [_, _, _, _, some (.builtin n), _] => D == C && (!cd.hasDel && (bm == [.type "object"] && (PySem.W.nsOkIn K cd.ns && (He.eqO (PySem.W.nsIn K cd.ns "__eq__") (some (some (.ref f))) && He.eqO (PySem.W.nsIn K cd.ns "__ne__") (some none)))))
    | _, _ => false)
  | _ => false
theorem obj_eq_look : ∃ y, typeLookup (.type "object") "__eq__" = pure y := ⟨some (.builtin "object.__eq__"), by rw [typeLookup_type, builtinLookup_eq_fast]; kernel_rfl⟩
theorem ns_some {K : PySem.W.Frag} {h : Heap} {N : Addr} {mg : Str → Option Value} {n : Str} {v : Value} (X : K.In h) (G : h.Ns N mg) (e : PySem.W.nsIn K N n = some (some v)) : mg n = some v := by
  obtain ⟨o, es, ep, ho, hd, _, hf⟩ := G
  unfold PySem.W.nsIn at e
  split at e
  · rename_i c d es' n' sl q
    have := X _ _ q
    rw [ho] at this
    cases this
    cases hd
    split at e
    · rename_i en he
      cases e
      rw [← hf]
      unfold nsFind findBy
      rw [← Array.find?_toList, he]
      rfl
    · split at e <;> cases e
  · cases e
theorem fn_of {K : PySem.W.Frag} {h : Heap} {f : Addr} (X : K.In h) (hf : PySem.W.isFn K (.ref f) = true) : ∃ of, h.get? f = some of ∧ of.cls = .type "function" := by
  have e : (K.lookup f).map (·.cls) = some (.type "function") := beq_iff_eq.mp hf
  obtain ⟨o, ho, hc⟩ := Option.map_eq_some_iff.mp e
  exact ⟨o, X _ _ ho, hc⟩
theorem neIn_ok {K : PySem.W.Frag} {C f x : Addr} {h : Heap} {o : Obj} (X : K.In h) (q : neIn K C f = true) (hf : PySem.W.isFn K (.ref f) = true) (hx : h.get? x = some o) (hc : o.cls = .ref C) : h.OwnEqNoNe x C f "object" [.type "object"] := by
  unfold neIn at q
  split at q
  · rename_i dd cd sl ho
    split at q
    · rename_i C' bm k0 k1 k2 k3 n k5 hm hs
      obtain ⟨h1, q⟩ := He.ba q
      obtain ⟨h2, q⟩ := He.ba q
      obtain ⟨h3, q⟩ := He.ba q
      obtain ⟨h4, q⟩ := He.ba q
      obtain ⟨h5, h6⟩ := He.ba q
      obtain ⟨nm, bs, mro, ns, qn, hd, sn, sub, ab, col, del⟩ := cd
      dsimp only at hm h2 h4 h5 h6
      have e1 : C' = C := beq_iff_eq.mp h1
      have e2 : bm = [.type "object"] := beq_iff_eq.mp h3
      have e3 : del = false := by cases del with
        | false => rfl
        | true => cases h2
      subst hm e1 e2 e3
      have hsl : sl = #[k0, k1, k2, k3, some (.builtin n), k5] := by
        obtain ⟨l⟩ := sl
        simp only at hs
        rw [hs]
      subst hsl
      obtain ⟨y, hy⟩ := obj_eq_look
      have G : h.Ns ns (h.nsMap ns) := .of_isNs (PySem.W.isNs_of_in X h4)
      obtain ⟨of, g1, g2⟩ := fn_of X hf
      exact ⟨o, of, nm, qn, ns, bs, hd, sn, sub, ab, col, dd, k0, k1, k2, k3, k5, n, _, y, hx, hc, X _ _ ho, G, ns_some X G (He.eqO_ok h5), g1, g2, F.cmp_object.mro, hy, PySem.W.nsMap_none_of_in X h4 (He.eqO_ok h6)⟩
    · cases q
  · cases q
section
variable {X : Cx} {cl : Cl} {k : Nat} {f : Addr} {fd : FuncData} {ps : List Str} {c : Nat} {h : DF}
def rOwnNe (K : PySem.W.Frag) (cl : Cl) (c : Nat) (h : DF) : R2 := fun x y H Q => ∃ a b dx dy fs gs, x = .ref a ∧ y = .ref b ∧ H a = some (.ins (cl c) dx fs) ∧ H b = some (.ins (cl c) dy gs) ∧
  spD K cl 2 h [x, y] H (fun v H' => ∃ z, v = .bl z ∧ Q (.bl !z) H') fun _ _ _ => False
theorem op_ownNe (F : FnD X cl k f fd ps h) (hr : Room (k + 1) X.A) (hu : X.A.units + 1 < cLine) (hb : Binds X.K fd ps []) (hp : ps.length = 2) (hs : neIn X.K (cl c) f = true) (hf : PySem.W.isFn X.K (.ref f) = true) :
    OpR X (compareOp .NotEq) (rOwnNe X.K cl c h) := by
  intro pins s σ H x y v u Q I rx ry d
  obtain ⟨a, b, dx, dy, fs, gs, rfl, rfl, ha, hb', hsp⟩ := d
  cases rx
  cases ry
  obtain ⟨mA, J, _⟩ := ins_get I.hok ha
  obtain ⟨mB, J', _⟩ := ins_get I.hok hb'
  obtain ⟨od, J, _⟩ := J.look
  obtain ⟨od', J', _⟩ := J'.look
  have hsp' : spD X.K cl ps.length h [.ref a, .ref b] H (fun v H' => ∃ z, v = .bl z ∧ Q (.bl !z) H') fun _ _ _ => False := by rw [hp]; exact hsp
  have hl := F.len _ _ _ _ hsp'
  have r2 : Vals [V.ref a, V.ref b] [Value.ref a, Value.ref b] := .cons rfl (.cons rfl .nil)
  refine compareOp_ne_ownEq PySem.F.cmp_object (neIn_ok I.kIn hs hf J.1 J.cls) J'.1 J'.cls hu ?_
  refine wpAny_call (codeAny_mono (F.run X.A.in1 X.stack s H ⟨[.ref a, .ref b], []⟩ [.ref a, .ref b] [.ref a, .ref b] _ _ hr.in1 I.env0.in1 (by
    have := hb s [.ref a, .ref b] I.kIn (by simpa using hl)
    simpa using this) r2 hsp') fun r s' hq => ?_)
  cases r with
  | error e => exact (passAt (W := W0) takes0 σ pins H s e s' I hq)
  | ok fl =>
    cases fl with
    | ret w =>
      obtain ⟨z, H', I', rz, bz, ez, q⟩ := I.after hq
      subst ez
      cases rz
      exact ⟨bz, rfl, .bl (!bz), H', I', rfl, q⟩
    | next => exact False.elim hq
    | brk => exact False.elim hq
    | cont => exact False.elim hq
/-- != of two of an own class; else as ever -/
def fNeO (c : Nat) (h : DF) : D → D → Sto → Out D := fun x y S => match objOf x S, objOf y S with
  | some (c1, _, _), some (c2, _, _) => if c1 = c ∧ c2 = c then (viaP h [x, y] S).calm.bind fun z S' => match z with
    | .bl b => .ok (.bl !b) S'
    | _ => .bad else .bad
  | _, _ => fEqA true x y S
theorem d_ownNe {K : PySem.W.Frag} {r : R2} (hr : OpD K cl r (fEqA true)) : OpD K cl (fun x y H Q => r x y H Q ∨ rOwnNe K cl c h x y H Q) (fNeO c h) := by
  intro w x y vx vy W Q ok rx ry p
  unfold fNeO at p
  split at p
  · rename_i c1 _ _ c2 _ _ h1 h2
    split at p
    · rename_i hc
      obtain ⟨rfl, rfl⟩ := hc
      obtain ⟨a, dx, es, ev, ea, _, _⟩ := objOf_at ok rx h1
      obtain ⟨b, dy, gs, ev', eb, _, _⟩ := objOf_at ok ry h2
      refine .inr ⟨a, b, dx, dy, es, gs, ev, ev', ea, eb, ?_⟩
      refine isP K cl w h [x, y] [vx, vy] _ _ ok ⟨vx, _, rfl, rx, vy, [], rfl, ry, rfl⟩ ?_
      refine OPost.bindTo (R' := RV K cl) p fun z w1 v a1 r1 p1 => ?_
      split at p1
      · rename_i bz
        cases (show v = .bl bz from r1)
        exact ⟨bz, rfl, p1 w1 _ a1 rfl rfl⟩
      · exact p1.elim
    · exact p.elim
  · exact .inl (hr w x y vx vy W Q ok rx ry p)
end
end Dl
set_option Elab.async false
set_option linter.all false
set_option maxRecDepth 100000
set_option maxHeartbeats 400000
/-! The data layer: a denotation reckoned step by step, where an exception comes. -/
namespace Dl
open PySem PyProof.Rows L2
section
variable {t t1 t2 : Lc} {S S1 S2 S3 : Sto} {a b : DS} {de da db : DE} {ta tb : DB} {dr : DA} {d x y z : D} {xs ys vs : List D} {n m i c : Nat} {ns : List Str}
theorem set_exc (h : de t S = .exc c ns vs S1) : dSet i de t S = .exc t c ns vs S1 := by rw [set_is, h]; rfl
theorem expr_exc (h : de t S = .exc c ns vs S1) : dExpr de t S = .exc t c ns vs S1 := by rw [expr_is, h]; rfl
theorem ret_exc (h : de t S = .exc c ns vs S1) : dRet de t S = .exc t c ns vs S1 := by rw [ret_is, h]; rfl
theorem cons_exc (h : de t S = .exc c ns vs S1) : aCons de dr t S = .exc c ns vs S1 := by rw [cons_is, h]; rfl
theorem cons_exc2 (h : de t S = .ok x S1) (hr : dr t S1 = .exc c ns vs S2) : aCons de dr t S = .exc c ns vs S2 := by rw [cons_is, h]; show (dr t S1).bind _ = _; rw [hr]; rfl
theorem call_excA {f : DF} (h : dr t S = .exc c ns vs S1) : dCall n f dr t S = .exc c ns vs S1 := by rw [call_is, h]; rfl
theorem bm_exc {T : String} {f : D → List D → Sto → Out D} (ha : da t S = .ok x S1) (ht : tyD T x S1 = true) (hr : dr t S1 = .exc c ns vs S2) : dBM T f da dr t S = .exc c ns vs S2 := by
  unfold dBM
  rw [ha]
  show (if tyD T x S1 = true then (dr t S1).bind fun xs S2 => f x xs S2 else .bad) = _
  rw [if_pos ht, hr]
  rfl
theorem for_exc {g : Tg} {di : DA} (h : di t S = .ok xs S1) (hl : dLoop g a xs t S1 = .exc t1 c ns vs S2) : dFor g di a t S = .exc t1 c ns vs S2 := by
  show Dl.ofE (di t S) t _ = _
  rw [h]
  exact hl
theorem for_rt {g : Tg} {di : DA} (h : di t S = .ok xs S1) (hl : dLoop g a xs t S1 = .rt d S2) : dFor g di a t S = .rt d S2 := by
  show Dl.ofE (di t S) t _ = _
  rw [h]
  exact hl
theorem loop_exc {g : Tg} {r : List D} (h1 : g.set x t = some t1) (h2 : a t1 S = .exc t2 c ns vs S2) : dLoop g a (x :: r) t S = .exc t2 c ns vs S2 := by
  show (match g.set x t with
    | none => SOut.bad
    | some t1 => match a t1 S with
      | .nx t2 S2 => dLoop g a r t2 S2
      | .ct t2 S2 => dLoop g a r t2 S2
      | .bk t2 S2 => .nx t2 S2
      | o => o) = _
  rw [h1]
  show (match a t1 S with
      | .nx t2 S2 => dLoop g a r t2 S2
      | .ct t2 S2 => dLoop g a r t2 S2
      | .bk t2 S2 => .nx t2 S2
      | o => o) = _
  rw [h2]
theorem loop_rt {g : Tg} {r : List D} (h1 : g.set x t = some t1) (h2 : a t1 S = .rt d S2) : dLoop g a (x :: r) t S = .rt d S2 := by
  show (match g.set x t with
    | none => SOut.bad
    | some t1 => match a t1 S with
      | .nx t2 S2 => dLoop g a r t2 S2
      | .ct t2 S2 => dLoop g a r t2 S2
      | .bk t2 S2 => .nx t2 S2
      | o => o) = _
  rw [h1]
  show (match a t1 S with
      | .nx t2 S2 => dLoop g a r t2 S2
      | .ct t2 S2 => dLoop g a r t2 S2
      | .bk t2 S2 => .nx t2 S2
      | o => o) = _
  rw [h2]
theorem while_go (hc : ta t S = .ok true S1) (hb : a t S1 = .nx t2 S2) : dWhile ta a (n + 1) t S = dWhile ta a n t2 S2 := by
  show Dl.ofE (ta t S) t _ = _
  rw [hc]
  show (match a t S1 with
    | .nx t2 S2 => dWhile ta a n t2 S2
    | .ct t2 S2 => dWhile ta a n t2 S2
    | .bk t2 S2 => .nx t2 S2
    | o => o) = _
  rw [hb]
theorem while_end (hc : ta t S = .ok false S1) : dWhile ta a (n + 1) t S = .nx t S1 := by
  show Dl.ofE (ta t S) t _ = _
  rw [hc]
  rfl
theorem while_exc (hc : ta t S = .ok true S1) (hb : a t S1 = .exc t2 c ns vs S2) : dWhile ta a (n + 1) t S = .exc t2 c ns vs S2 := by
  show Dl.ofE (ta t S) t _ = _
  rw [hc]
  show (match a t S1 with
    | .nx t2 S2 => dWhile ta a n t2 S2
    | .ct t2 S2 => dWhile ta a n t2 S2
    | .bk t2 S2 => .nx t2 S2
    | o => o) = _
  rw [hb]
theorem raise2_ok {f g : Str} {ok : D → Sto → Bool} (h : de t S = .ok x S1) (h' : da t S1 = .ok y S2) (hk : ok x S2 = true) : dRaise2 c f g ok de da t S = .exc t c [g, f] [y, x] S2 := by
  unfold dRaise2
  rw [h]
  show Dl.ofE (da t S1) t _ = _
  rw [h']
  show (if ok x S2 = true then SOut.exc t c [g, f] [y, x] S2 else .bad) = _
  rw [if_pos hk]
theorem raise1_ok {f : Str} {ok : D → Sto → Bool} (h : de t S = .ok x S1) (hk : ok x S1 = true) : dRaise1 c f ok de t S = .exc t c [f] [x] S1 := by
  unfold dRaise1
  rw [h]
  show (if ok x S1 = true then SOut.exc t c [f] [x] S1 else .bad) = _
  rw [if_pos hk]
theorem viaP_exc {f : DF} {S' : Sto} (hx : belows 0 xs = true) (e : f xs [] = .exc c ns vs S') (hr : belows 0 vs = true) : viaP f xs S = .exc c ns vs S := by
  show (if belows 0 xs = true then (match f xs [] with
    | .ok r _ => if below 0 r = true then Out.ok r S else .bad
    | .exc c ns vs _ => if belows 0 vs = true then .exc c ns vs S else .bad
    | .bad => .bad) else .bad) = _
  rw [if_pos hx, e]
  show (if belows 0 vs = true then Out.exc c ns vs S else .bad) = _
  rw [if_pos hr]
theorem viaR_exc {f : DF} {u u' : D} {S' rest : Sto} (h : below 0 u = true) (h' : below 0 u' = true) (hx : belows 0 xs = true) (hz : belows 0 vs = true) (e : f (.ptr 0 :: xs) [some u] = .exc c ns vs (some u' :: S')) :
    viaR f (.ptr 0 :: xs) (some u :: rest) = .exc c ns vs (some u' :: rest) := by
  show (if below 0 u = true ∧ belows 0 xs = true then (match f (.ptr 0 :: xs) [some u] with
      | .ok z (some c' :: _) => if below 0 z = true ∧ below 0 c' = true then Out.ok z ((some u :: rest).set 0 (some c')) else .bad
      | .exc k ns vs (some c' :: _) => if belows 0 vs = true ∧ below 0 c' = true then .exc k ns vs ((some u :: rest).set 0 (some c')) else .bad
      | _ => .bad) else .bad) = _
  rw [if_pos ⟨h, hx⟩, e]
  show (if belows 0 vs = true ∧ below 0 u' = true then Out.exc c ns vs ((some u :: rest).set 0 (some u')) else .bad) = _
  rw [if_pos ⟨hz, h'⟩]
  rfl
theorem sl_ok {dl dh : DO} {l h : Option Int} (h1 : de t S = .ok (.lst xs) S1) (h2 : dl t S1 = .ok l S2) (h3 : dh t S2 = .ok h S3) : dSl de dl dh t S = .ok (.lst (cutD xs l h)) S3 := by
  unfold dSl
  rw [h1]
  show (dl t S1).bind _ = _
  rw [h2]
  show (dh t S2).bind _ = _
  rw [h3]
  rfl
theorem slp_ok {dl dh : DO} {l h : Option Int} (h1 : de t S = .ok x S1) (h2 : dl t S1 = .ok l S2) (h3 : dh t S2 = .ok h S3) (hx : deref x S3 = .lst xs) : dSl de dl dh t S = .ok (.lst (cutD xs l h)) S3 := by
  unfold dSl
  rw [h1]
  show (dl t S1).bind _ = _
  rw [h2]
  show (dh t S2).bind _ = _
  rw [h3]
  show (match deref x S3 with
  | D.lst xs => Out.ok (D.lst (cutD xs l h)) S3
  | D.rol xs => Out.ok (D.lst (cutD xs l h)) S3
  | D.tup xs => Out.ok (D.tup (cutD xs l h)) S3
  | _ => Out.bad) = _
  rw [hx]
theorem on_ok {j : Int} (h : de t S = .ok (.int j) S1) : oSome de t S = .ok (some j) S1 := by
  unfold oSome
  rw [h]
  rfl
theorem lst_ok (h : dr t S = .ok xs S1) (hl : xs.length ≤ sizeLine) : dLst dr t S = .ok (.lst xs) S1 := by
  unfold dLst
  rw [h]
  exact if_pos hl
theorem irng2_ok {i j : Int} (h1 : da t S = .ok (.int i) S1) (h2 : db t S1 = .ok (.int j) S2) (hi : inB i) (hj : inB j) : iRng2 da db t S = .ok (intsFrom i (j - i).toNat) S2 := by
  unfold iRng2
  rw [h1]
  show (db t S1).bind _ = _
  rw [h2]
  exact if_pos ⟨hi, hj⟩
theorem if_tt (h : ta t S = .ok true S1) : dIf ta da db t S = da t S1 := by rw [dif_is, h]; rfl
theorem if_ff (h : ta t S = .ok false S1) : dIf ta da db t S = db t S1 := by rw [dif_is, h]; rfl
end
end Dl
set_option Elab.async false
set_option linter.all false
set_option maxRecDepth 100000
set_option maxHeartbeats 1000000
/-! The data layer: {**d, k: v}. -/
namespace Dl
open PySem PySem.Spec PyProof.Rows L2
section
variable {P : Program} {w : World} {A : Around} {E : Value → Shared → Prop} {s : Shared}
abbrev MK (P : Program) (w : World) := mixKind P w
theorem key_plain {k : Key} {u : Value} (h : keyIs k u = true) : ∀ a, u ≠ .ref a := by
  rcases keyIs_shape h with ⟨i, t, rfl, rfl⟩ | ⟨x, t, rfl, rfl⟩ <;> exact fun a z => nomatch z
/-- a pair is laid into a dict, without a word to anyone -/
theorem put_in {d : Addr} {tab : List (Key × Value)} {k : Key} {u v : Value} {Q : Unit → Shared → Prop} (hu : (MK P w).is k u = true) (hm : s.heap.DictOf (MK P w) d tab)
    (hQ : ∀ h2, h2.DictOf (MK P w) d (stored tab k v) → Heap.SameBut d s.heap h2 → Q () { s with heap := h2 }) (hsz : tab.length ≤ sizeLine) :
    wpAny (model P w) A (dictPut d ((MK P w).hash k) u v) Q E s := by
  obtain ⟨o, rows, ep, ho, hc, hd, hk, hp, hn⟩ := hm
  have few : rows.size ≤ sizeLine := by
    have e1 := hp.length
    have e2 : rows.toList.length = rows.size := by simp
    omega
  have same : (rows.findIdx? fun y => (MK P w).is k y.key) = tab.findIdx? fun y => decide (y.1 = k) := by
    have z := hp.findIdx k
    obtain ⟨l⟩ := rows
    simpa using z
  unfold dictPut
  refine wpAny_bind (wpAny_dictFind_of hu ho hd hk ?_)
  cases q : rows.findIdx? fun y => (MK P w).is k y.key with
  | none =>
    have out : k ∉ tab.map (·.1) := not_mem_of_findIdx_none (same ▸ q)
    have no : ¬ (tab.any fun y => decide (y.1 = k)) = true := fun z => by
      obtain ⟨y, hy, e⟩ := List.any_eq_true.mp z
      exact out (List.mem_map.mpr ⟨y, hy, of_decide_eq_true e⟩)
    have st : stored tab k v = tab ++ [(k, v)] := by rw [stored, if_neg no]
    refine wpAny_updateDictKeys (hz := few) ho hd (hQ _ ⟨_, _, ep + 1, Heap.get?_update_self _ ho (Obj.isFreed_of_dict (Obj.data_mapDictKeys hd _)), hc.mapDictKeys _, Obj.data_mapDictKeys hd _, hk.push hu _, ?_, ?_⟩ (Heap.SameBut.update ..))
    · rw [st]
      have z := hp.append hu ((MK P w).hash k) v
      obtain ⟨l⟩ := rows
      simpa using z
    · rw [st, List.map_append]
      refine List.nodup_append.mpr ⟨hn, by simp, fun a ha b hb e => ?_⟩
      have hb : b = k := by simpa using hb
      rw [← hb, ← e] at out
      exact out ha
  | some i =>
    have st : stored tab k v = tab.map fun y => if y.1 = k then (y.1, v) else y := by rw [stored, if_pos (any_of_findIdx_some (same ▸ q))]
    refine wpAny_updateDict ho hd (hQ _ ⟨_, _, ep, Heap.get?_update_self _ ho (Obj.isFreed_of_dict (Obj.data_mapDict hd _)), hc.mapDict _, Obj.data_mapDict hd _, hk.modify _ _, ?_, ?_⟩ (Heap.SameBut.update ..))
    · rw [stored, if_pos (any_of_findIdx_some (same ▸ q))]
      have l0 : (rows.toList.findIdx? fun y => (MK P w).is k y.key) = some i := by
        rw [← q]
        obtain ⟨l⟩ := rows
        simp
      have z := hp.modify hn l0 v
      obtain ⟨l⟩ := rows
      simpa using z
    · rw [stored, if_pos (any_of_findIdx_some (same ▸ q)), keys_map_store]
      exact hn
theorem merge_in {d a : Addr} {tab more : List (Key × Value)} {Q : Unit → Shared → Prop} (hda : d ≠ a) (haS : (a == sysModules) = false) (hd : s.heap.DictOf (MK P w) d tab) (ha : s.heap.DictOf (MK P w) a more)
    (hQ : ∀ h2, h2.DictOf (MK P w) d (merged tab more) → Heap.SameBut d s.heap h2 → Q () { s with heap := h2 }) (hsz : tab.length + more.length ≤ sizeLine) : wpAny (model P w) A (mergeMapping d (.ref a) false) Q E s := by
  obtain ⟨od, rd, pd, d1, d2, d3, d4, d5, d6⟩ := id hd
  obtain ⟨oa, ra, pa, a1, a2, a3, a4, a5, a6⟩ := id ha
  have hlen : more.length = ra.size := by rw [← a5.length]; simp
  unfold mergeMapping
  have look : ∀ s2 : Shared, s2.heap.get? a = some oa → ∀ Q2, Q2 ra s2 → wpAny (model P w) A (dictEntries a) Q2 E s2 := fun s2 h Q2 q => wpAny_dictEntries h a3 q
  refine wpAny_bind (wpAny_isInstance ha.typeIs isSubtype_dict_dict ?_)
  rw [if_pos rfl]
  refine wpAny_bind (wpAny_specialOf ha.typeIs PySem.F.slot_dict_iter.lookup ?_)
  refine wpAny_bind (wpAny_pure ?_)
  show wpAny _ _ (if (a == sysModules) = true then _ else _) _ _ _
  rw [if_neg (by rw [haS]; exact Bool.false_ne_true)]
  refine wpAny_bind (wpAny_dictEntries d1 d3 ?_)
  have rest : wpAny (model P w) A (do
      let l ← dictEntries a
      let ep ← dictEpoch a
      forIn (List.range l.size) PUnit.unit fun i _ => do
        let l2 ← dictEntries a
        match l2[i]? with
        | some e => do
          holding [e.key, e.val] (dictPut d e.hash e.key e.val)
          let ep2 ← dictEpoch a
          if (ep2 != ep) = true then do
            unsupported "dict.changed-during-merge"
            pure (ForInStep.yield PUnit.unit)
          else pure (ForInStep.yield PUnit.unit)
        | _ => do
          unsupported "dict.changed-during-merge"
          pure (ForInStep.yield PUnit.unit)
      pure ()) Q E s := by
    refine wpAny_bind (look s a1 _ (wpAny_bind (wpAny_dictEpoch a1 a3 (wpAny_bind ?_))))
    refine wpAny_forIn_list _ (fun l _ s2 => ∃ h2 i, s2 = { s with heap := h2 } ∧ l = List.range' i (ra.size - i) ∧ i ≤ ra.size ∧ h2.DictOf (MK P w) d (merged tab (more.take i)) ∧ h2.get? a = some oa ∧ Heap.SameBut d s.heap h2) _ ?_ ?_ _ _
      ⟨s.heap, 0, rfl, by rw [List.range_eq_range', Nat.sub_zero], Nat.zero_le _, by simpa [merged] using hd, a1, Heap.SameBut.refl _ _⟩
    · intro i l _ s2 ⟨h2, j, e, hl, hj, md, ga, sb⟩
      subst e
      have lt : j < ra.size := by
        rcases Nat.lt_or_ge j ra.size with z | z
        · exact z
        · rw [Nat.sub_eq_zero_of_le z] at hl
          cases hl
      rw [show ra.size - j = (ra.size - (j + 1)) + 1 by omega, List.range'_succ] at hl
      obtain ⟨e1, e2⟩ := List.cons.inj hl
      subst e1
      refine wpAny_bind (look { s with heap := h2 } ga _ ?_)
      rw [Array.getElem?_eq_getElem lt]
      obtain ⟨⟨k, v⟩, hk⟩ : ∃ kv, more[i]? = some kv := ⟨more[i]'(by rw [hlen]; exact lt), List.getElem?_eq_getElem _⟩
      obtain ⟨k1, k2⟩ := a5.get? (e := ra[i]) (by simp [lt]) hk
      obtain ⟨k', k3, k4⟩ := a4 ra[i] (Array.getElem_mem lt)
      obtain rfl : k' = k := (MK P w).inj _ _ _ k3 k1
      show wpAny _ _ (holding [ra[i].key, ra[i].val] (dictPut d ra[i].hash ra[i].key ra[i].val) >>= _) _ _ _
      rw [k4, k2]
      have room : (merged tab (more.take i)).length ≤ sizeLine := by
        have z1 := merged_length_le tab (more.take i)
        have z2 : (more.take i).length ≤ more.length := by rw [List.length_take]; omega
        omega
      refine wpAny_bind (wpAny_holding (put_in k1 md (fun h3 md3 sb3 => ?_) room))
      have ga3 : h3.get? a = some oa := (sb3.2 a hda.symm).trans ga
      refine wpAny_bind (wpAny_dictEpoch ga3 a3 ?_)
      rw [if_neg (by simp)]
      exact wpAny_pure ⟨h3, i + 1, rfl, e2, lt, by rw [merged_take_succ tab more i (k', v) hk]; exact md3, ga3, sb.trans sb3⟩
    · intro _ s2 ⟨h2, j, e, hl, hj, md, ga, sb⟩
      subst e
      have full : j = ra.size := by
        rcases Nat.lt_or_ge j ra.size with z | z
        · rw [show ra.size - j = (ra.size - (j + 1)) + 1 by omega, List.range'_succ] at hl
          cases hl
        · omega
      rw [full, ← hlen, List.take_length] at md
      exact wpAny_pure (hQ h2 md sb)
  have plain : forIn ra PUnit.unit (fun (e : DictEntry) (_ : PUnit) => (match e.key with
      | .ref x => do
        let z ← specialOf e.key "__eq__"
        if (z != some (Value.builtin "object.__eq__")) = true then
          if (Array.filter (fun y => y.hash == e.hash) ra).size > 1 then do
            unsupported "dict.merge-into-an-empty-dict:keys-of-equal-hash"
            pure (ForInStep.yield PUnit.unit)
          else pure (ForInStep.yield PUnit.unit)
        else pure (ForInStep.yield PUnit.unit)
      | _ => pure (ForInStep.yield PUnit.unit) : Sem (ForInStep PUnit))) = pure PUnit.unit := by
    rw [← Array.forIn_toList]
    have out : ∀ e ∈ ra.toList, ∀ x, e.key ≠ .ref x := fun e he x => by
      obtain ⟨k, k1, _⟩ := a4 e (by simpa using he)
      exact key_plain k1 x
    clear rest
    generalize ra.toList = l at out
    induction l with
    | nil => rfl
    | cons e l ih =>
      rw [List.forIn_cons]
      have z := out e List.mem_cons_self
      have i := ih fun y hy => out y (List.mem_cons_of_mem _ hy)
      cases q : e.key with
      | ref x => exact absurd q (z x)
      | _ => exact i
  show wpAny _ _ (if rd.isEmpty = true then _ else _) _ _ _
  by_cases h0 : rd.isEmpty = true
  · rw [if_pos h0]
    refine wpAny_bind ?_
    refine look s a1 _ ?_
    refine wpAny_bind ?_
    exact wpAny_of_eq plain rest
  · rw [if_neg h0]
    exact rest
end
end Dl
set_option Elab.async false
set_option linter.all false
set_option maxRecDepth 100000
set_option maxHeartbeats 1000000
/-! The data layer: {**d, k: v}, the rule. -/
namespace Dl
open PySem PySem.Spec PyProof.Rows L2
section
variable {P : Program} {w : World} {A : Around} {E : Value → Shared → Prop} {s : Shared}
abbrev NoE : Value → Shared → Prop := fun _ _ => False
theorem star_two {m0 tk m1 : Sem Value} {Q : Value → Shared → Prop}
    (h : wpAny (model P w) A m0 (fun m s1 => wpAny (model P w) A (mergeMapping s.heap.objs.size m false) (fun _ s2 => wpAny (model P w) A (subDict [(tk, m1)]) (fun q s3 => wpAny (model P w) A (mergeMapping s.heap.objs.size (.ref q) false) (fun _ s4 => Q (.ref s.heap.objs.size) s4) NoE s3) E s2) NoE s1) E { s with heap := s.heap.push { cls := .type "dict", data := .dict #[] } }) :
    wpAny (model P w) A (dictDisplay [(none, m0), (some tk, m1)]) Q E s := by
  unfold dictDisplay
  dsimp only
  simp only [List.forIn_cons, List.forIn_nil, List.isEmpty_nil, if_true, pure_bind]
  refine wpAny_bind (wpAny_bind (wpAny_bind (wpAny_alloc ?_)))
  refine wpAny_bind (wpAny_holding (wpAny_mono h (fun m s1 h1 => ?_) fun _ _ z => z))
  refine wpAny_bind (wpAny_onRaise (wpAny_tryCatch (wpAny_onRaise (wpAny_holding (wpAny_mono h1 (fun _ s2 h2 => ?_) fun _ _ z => z.elim)))))
  refine wpAny_pure ?_
  dsimp only
  refine wpAny_bind ?_
  rw [if_neg (by exact Bool.false_ne_true)]
  refine wpAny_pure ?_
  dsimp only
  refine wpAny_pure ?_
  refine wpAny_bind ?_
  rw [if_neg (by exact Bool.false_ne_true)]
  dsimp only
  refine wpAny_bind (wpAny_holding (wpAny_mono h2 (fun q s3 h3 => ?_) fun _ _ z => z))
  refine wpAny_bind (wpAny_onRaise (wpAny_holding (wpAny_mono h3 (fun _ s4 h4 => ?_) fun _ _ z => z.elim)))
  exact wpAny_pure (wpAny_pure h4)
end
/-- {**e, k: v}: p the new dict, q the one of the pair -/
def tStar (te tk tv : TE) : TE := fun σ H Q => ∀ p, H p = none → te σ (upd H p (.dK [])) fun x H1 => H1 p = some (.dK []) ∧ ∃ (a : Addr) (kvs : List (Key × V)), x = .ref a ∧ p ≠ a ∧ Rd H1 a (.dK kvs) ∧ kvs.length < 900 ∧
  ∀ q, upd H1 p (.dK (mergeK [] kvs)) q = none → tk σ (upd (upd H1 p (.dK (mergeK [] kvs))) q (.dK [])) fun k H2 => tv σ H2 fun v H3 => H3 p = some (.dK (mergeK [] kvs)) ∧ H3 q = some (.dK []) ∧ p ≠ q ∧
    ∃ key : Key, k = kV key ∧ Q (.ref p) (upd (upd H3 q (.dK [(key, v)])) p (.dK (putK (mergeK [] kvs) key v)))
section
variable {X : Cx} {e k v : Expr} {te tk tv : TE} {pos : Pos}
theorem pe_star (he : PE X e te) (hk : PE X k tk) (hv : PE X v tv) : PE X (.Dict [none, some k] [e, v] pos) (tStar te tk tv) := by
  refine ⟨fun pins s σ H Q I h => ?_⟩
  have room : 1000 ≤ sizeLine := by decide
  have hn := I.hok.fresh (Nat.le_refl s.heap.objs.size)
  have I1 := I.laid (a := s.heap.objs.size) (o := .dK []) (h' := s.heap.push { cls := .type "dict", data := .dict #[] }) (t' := s.toks) (fun _ _ q => Heap.get?_push_of_some _ q) (Nat.le_refl _) (dk_empty s.heap I.big)
  rw [arm_eval_Dict]
  refine wpAny_bind (wpAny_standAt ?_)
  show wpAny _ _ (dictDisplay [(none, do let x ← eval e X.env; standAt pos; pure x), (some (eval k X.env), do let x ← eval v X.env; standAt pos; pure x)]) _ _ _
  refine star_two ?_
  refine wpAny_bind (thn (he.run pins _ σ _ _ I1 (h _ hn)) fun u s2 ⟨x, H1, I2, rx, hp, a, kvs, ex, ne, rd, z, cont⟩ => ?_)
  refine wpAny_bind (wpAny_standAt (wpAny_pure ?_))
  subst ex
  cases (show u = Value.ref a from rx)
  obtain ⟨z0, pS, vs0, r0, dd0⟩ := dk_of I2.hok hp
  cases r0
  obtain ⟨z1, aS, vs1, r1, dd1⟩ := dk_rd I2.hok rd
  have l1 : vs1.length = kvs.length := r1.length.symm
  refine merge_in ne aS dd0 dd1 (fun h2 md sb => ?_) (by simp; omega)
  have km : KV (mergeK [] kvs) (merged [] vs1) := r1.merge .nil
  have lm : (mergeK [] kvs).length ≤ kvs.length := by
    have := length_mergeK kvs []
    simpa using this
  have there : ∀ {g : Heap} {d : Addr} {t : List (Key × Value)}, g.DictOf (mixKind X.prog X.w) d t → ∃ o, g.get? d = some o := fun dd => let ⟨o, _, _, ho, _⟩ := dd; ⟨o, ho⟩
  have I3 := d_write (t' := s2.toks) I2 (by rw [hp]; exact True.intro) sb (there md) (dk_new (H' := upd H1 s.heap.objs.size (.dK (mergeK [] kvs))) (by omega) pS km md)
  have hq := I3.hok.fresh (Nat.le_refl h2.objs.size)
  have I4 := I3.laid (a := h2.objs.size) (o := .dK []) (h' := h2.push { cls := .type "dict", data := .dict #[] }) (t' := s2.toks) (fun _ _ q => Heap.get?_push_of_some _ q) (Nat.le_refl _) (dk_empty h2 I3.big)
  refine wpAny_subDict (knd := mixKind X.prog X.w) (show 1 ≤ 15 by decide) ?_
  have run := (pps_cons (pos := pos) hk hv pps_nil).run pins _ σ _ (fun ps H3 => match ps with
    | [(k, v)] => H3 s.heap.objs.size = some (.dK (mergeK [] kvs)) ∧ H3 h2.objs.size = some (.dK []) ∧ s.heap.objs.size ≠ h2.objs.size ∧
      ∃ key : Key, k = kV key ∧ Q (.ref s.heap.objs.size) (upd (upd H3 h2.objs.size (.dK [(key, v)])) s.heap.objs.size (.dK (putK (mergeK [] kvs) key v)))
    | _ => False) I4 (cont _ hq)
  refine thn run fun ws s3 ⟨ps, H3, I5, rel, q3⟩ => ?_
  match ps, rel, q3 with
  | [(k', v')], rel, ⟨hp3, hq3, ne3, key, ek, q3⟩ =>
    subst ek
    obtain ⟨rs, car, rk⟩ := carries_of (P := X.prog) (w := X.w) (kvs := [(key, v')]) rel
    obtain ⟨y0, qS, ws0, t0, ee0⟩ := dk_of I5.hok hq3
    cases t0
    refine ⟨rs, car, ee0, fun h4 md4 sb4 => ?_⟩
    have I6 := d_write (t' := s3.toks + ws.length) I5 (by rw [hq3]; exact True.intro) sb4 (there md4) (dk_new (H' := upd H3 h2.objs.size (.dK (mergeK [] [(key, v')]))) (show 1 ≤ sizeLine by decide) qS (rk.merge .nil) md4)
    have hp6 : upd H3 h2.objs.size (.dK (mergeK [] [(key, v')])) s.heap.objs.size = some (.dK (mergeK [] kvs)) := by rw [upd_ne ne3]; exact hp3
    obtain ⟨y1, pS1, ws1, t1, ee1⟩ := dk_of I6.hok hp6
    have l2 : ws1.length = (mergeK [] kvs).length := t1.length.symm
    have l3 : (merged [] rs).length ≤ 1 := by
      have := (rk.merge (kvs := []) .nil).length
      rw [← this]
      exact (show 1 ≤ 1 by decide)
    refine merge_in ne3 qS ee1 md4 (fun h5 md5 sb5 => ?_) (by omega)
    have km5 : KV (mergeK (mergeK [] kvs) (mergeK [] [(key, v')])) (merged ws1 (merged [] rs)) := (rk.merge .nil).merge t1
    have lm5 := length_mergeK (mergeK [] [(key, v')]) (mergeK [] kvs)
    have l4 : (mergeK [] [(key, v')]).length ≤ 1 := (show 1 ≤ 1 by decide)
    exact ⟨.ref s.heap.objs.size, _, d_write (t' := s3.toks + ws.length) I6 (by rw [hp6]; exact True.intro) sb5 (there md5) (dk_new (H' := upd (upd H3 h2.objs.size (.dK (mergeK [] [(key, v')]))) s.heap.objs.size (.dK (putK (mergeK [] kvs) key v'))) (show (putK (mergeK [] kvs) key v').length ≤ sizeLine from by have := length_putK (mergeK [] kvs) key v'; omega) pS1 km5 md5), rfl, q3⟩
end
end Dl
set_option Elab.async false
set_option linter.all false
set_option maxRecDepth 100000
set_option maxHeartbeats 1000000
/-! The data layer: {**d, k: v}, on data. -/
namespace Dl
open PySem PySem.Spec PyProof.Rows L2
def dStar (de dk dv : DE) : DE := fun t S => (de t S).bind fun x S1 => match deref x S1 with
  | .dic ks vs => (match dicMerge ks vs ([], []) with
    | some b => if ks.length < 900 then (dk t S1).bind fun k S2 => (dv t S2).bind fun v S3 => (match keyD k with
        | some q => .ok (.dic (dicPut b.1 b.2 q k v).1 (dicPut b.1 b.2 q k v).2) S3
        | none => .bad) else .bad
    | none => .bad)
  | _ => .bad
theorem pairs_inj : ∀ {a b : List (Key × V)}, a.map (fun e => (kV e.1, e.2)) = b.map (fun e => (kV e.1, e.2)) → a = b
  | [], [], _ => rfl
  | [], _ :: _, h => by cases h
  | _ :: _, [], h => by cases h
  | x :: a, y :: b, h => by
    obtain ⟨h1, h2⟩ := List.cons.inj h
    obtain ⟨h3, h4⟩ := Prod.mk.inj h1
    obtain ⟨x1, x2⟩ := x
    obtain ⟨y1, y2⟩ := y
    have e : x1 = y1 := by
      cases x1 <;> cases y1 <;> first | (cases h3; rfl) | cases h3
    rw [pairs_inj h2, e, show x2 = y2 from h4]
theorem dic_seen {K : PySem.W.Frag} {cl : Cl} {w : Wd} {x : D} {a : Addr} {ks vs : List D} (r : RV K cl w x (.ref a)) (h : deref x w.S = .dic ks vs) : w.F a ≠ none ∨ Live w a := by
  unfold deref at h
  split at h
  · rename_i i
    split at h
    · rename_i c hc
      obtain ⟨b, h1, h2⟩ := r
      cases h2
      exact .inr ⟨i, c, h1, hc⟩
    · cases h
  · subst h
    obtain ⟨b, xs, ys, e, ⟨od, es, hF, _⟩, _⟩ := r
    cases e
    exact .inl (by rw [hF]; simp)
section
variable {X : Cx} {cl : Cl} {W : WX} {e k v : Expr} {de dk dv : DE} {pos : Pos}
theorem u_star (he : UE X cl W e de) (hk : UE X cl W k dk) (hv : UE X cl W v dv) : UE X cl W (.Dict [none, some k] [e, v] pos) (dStar de dk dv) :=
  weakE (pe_mayLock (pe_star he hk hv)) fun σ H Q ⟨w, t, eH, ok, en, p⟩ => fun P hP => by
    subst eH
    have g : Blind X.K cl w _ P (.dK []) := .new ok hP
    refine ⟨_, t, rfl, g.af.ok, en.af g.af, OPost.bindB g.af p fun x w2 v2 a2 r2 p2 => ?_⟩
    have g2 := g.step a2
    refine ⟨g2.at_, ?_⟩
    split at p2
    · rename_i ks vs hx
      split at p2
      · rename_i b hb
        split at p2
        · rename_i hl
          obtain ⟨a, es, ev, h1, rk, rv⟩ := deref_dic a2.ok r2 hx
          subst ev
          have ne : P ≠ a := fun z => by
            subst z
            rcases dic_seen r2 hx with q | q
            · exact q g2.nf
            · exact g2.nl q
          have le : es.length = ks.length := by rw [Reps.length rk, List.length_map]
          obtain ⟨kvs, e1, e2, e3⟩ := merge_rep (ps := es.map fun e => (kV e.1, e.2)) (es := []) (by rw [List.map_map]; exact rk) (by rw [List.map_map]; exact rv) (show Reps _ _ _ _ [] [] from rfl) (show Reps _ _ _ _ [] [] from rfl) hb
          obtain rfl := pairs_inj e1
          refine ⟨a, es, rfl, ne, h1, by omega, fun q hq => ?_⟩
          have g3 := g2.write (.dK (mergeK [] es))
          have g4 : Blind X.K cl _ _ q (.dK []) := .new g3.af.ok hq
          refine ⟨_, t, rfl, g4.af.ok, (en.af g3.af).af g4.af, OPost.bindB (g3.af.trans g4.af) p2 fun y w5 vk a5 r5 p5 => ?_⟩
          refine ⟨w5, t, rfl, a5.ok, ((en.af g3.af).af g4.af).af a5, OPost.bindB ((g3.af.trans g4.af).trans a5) p5 fun z w6 vv a6 r6 p6 => ?_⟩
          have y36 := (g4.af.trans a5).trans a6
          have g3' := g3.step y36
          have g4' := g4.step (a5.trans a6)
          have nPq : P ≠ q := fun c => by
            subst c
            rw [show upd w2.H P (.dK (mergeK [] es)) P = some (.dK (mergeK [] es)) from upd_same] at hq
            cases hq
          refine ⟨g3'.at_, g4'.at_, nPq, ?_⟩
          split at p6
          · rename_i q0 hk0
            have ek := keyD_rep (Rep.af a6 r5) hk0
            refine ⟨q0, ek, .inr ⟨P, _, rfl, upd_same, True.intro, fun od => ?_⟩⟩
            have g7 := g3.step (g4'.write (.dK [(q0, vv)])).af
            have g8 := g7.write (.dK (putK (mergeK [] es) q0 vv))
            obtain ⟨z1, z2⟩ := dicPut_rep (q := q0) (kd := y) (d := z) (v := vv) (by rw [← ek]; exact Rep.af a6 r5) r6 (Reps.af y36 e2) (Reps.af y36 e3)
            obtain ⟨w9, f1, f2, a9, r9⟩ := g8.dic (ks := (dicPut b.1 b.2 q0 y z).1) (vs := (dicPut b.1 b.2 q0 y z).2) z1 z2 od
            have fin := p6 w9 (.ref P) a9 f2 r9
            rw [f1] at fin
            exact fin
          · exact p6.elim
        · exact p2.elim
      · exact p2.elim
    · exact p2.elim
end
end Dl
set_option Elab.async false
set_option linter.all false
set_option maxRecDepth 100000
set_option maxHeartbeats 1000000
/-! The data layer: dict(d) that is still to change, d.pop, d.clear, list(d.items()), a property's def in any mode. -/
namespace Dl
open PySem PySem.Spec PyProof.Rows L2
section
variable {X : Cx} {cl : Cl} {W : WX} {e o : Expr} {p apos cpos pos : Pos}
/-- an expression that is not reached -/
def dNone : DE := fun _ _ => .bad
theorem u_none : UE X cl W e dNone := weakE (te := fun _ _ _ => False) ⟨fun _ _ _ _ _ _ h => h.elim⟩ fun σ H Q ⟨w, t, eH, ok, en, q⟩ => (q : False).elim
def dDictC (da : DA) : DE := fun t S => (da t S).bind fun xs S1 => match xs with
  | [x] => (match deref x S1 with
    | .dic ks vs => .ok (.ptr S1.length) (S1 ++ [some (.dic ks vs)])
    | _ => .bad)
  | _ => .bad
theorem u_dictC {da : DA} {es : List Expr} {x : Str} (hg : Gl X x) (hm : X.mg x = none) (hv : bootBuiltins x = some (.type "dict")) (ha : UA X cl W (e :: es) da) (hn : x ≠ "__name__" := by decide) (hdb : (x == ("__debug__" : Str)) = false := by decide)
    (he : starEach (e :: es) X.env = (false, eval e X.env) :: starEach es X.env := by rfl) (hpl : (backTo pos (starEach es X.env)).any (·.1) = false := by rfl) : UE X cl W (.Call (.Name x p) (e :: es) [] pos) (dDictC da) :=
  weakE (pe_callTy call_dictD hg hm hv ha hn hdb he hpl) fun σ H Q ⟨w, t, eH, ok, en, q⟩ => by
    refine ⟨w, t, eH, ok, en, OPost.bind q fun xs w1 vs a1 r1 p1 => ?_⟩
    split at p1
    · rename_i x
      obtain ⟨v, ev0, r2⟩ := RL.one r1
      subst ev0
      split at p1
      · rename_i ks vs hx
        obtain ⟨a, kvs, ev, h1, h2, h3⟩ := deref_dic a1.ok r2 hx
        subst ev
        refine ⟨a, kvs, rfl, h1, fun q hq => ?_⟩
        have z := a1.ok.cellNew (K := X.K) (u := .dK kvs) (d := .dic ks vs) hq ⟨kvs, upd_same, Reps.mono (fun _ _ h => h) (fun i b hb => pre_get hb) _ _ h2, Reps.mono (fun _ _ h => h) (fun i b hb => pre_get hb) _ _ h3⟩
        exact p1 ⟨upd w1.H q (.dK kvs), w1.F, w1.m ++ [q], w1.S ++ [some (.dic ks vs)]⟩ (.ref q) z rfl ⟨q, snoc_get a1.ok.len.symm, rfl⟩
      · exact p1.elim
    · exact p1.elim
/-! ### pop -/
def rPop1 : V → List V → Hp → VK → Prop := fun x vs H Q => ∃ (a : Addr) (kvs : List (Key × V)) (k : Key) (v : V), x = .ref a ∧ vs = [kV k] ∧ H a = some (.dK kvs) ∧ valV kvs k = some v ∧ Q v (upd H a (.dK (dropK kvs k)))
theorem mt_pop1 : MtR X "dict.pop" rPop1 := by
  intro pins s σ H x vs v us Q I rx rv h
  obtain ⟨a, kvs, k, z, rfl, rfl, hd, hl, q⟩ := h
  cases rx
  cases rv with
  | cons r1 r2 =>
    cases r2
    exact d_pop I hd r1 hl (.inl rfl) fun w' s' I' rw' => ⟨z, _, I', rw', q⟩
def mPopD : D → List D → Sto → Out D := fun x xs S => match x, xs with
  | .ptr i, [k] => (match S[i]?, keyD k with
    | some (some (.dic ks vs)), some q => (match dicGet ks vs q with
      | some d => .ok d (S.set i (some (.dic (dicDrop ks vs q).1 (dicDrop ks vs q).2)))
      | none => .bad)
    | _, _ => .bad)
  | _, _ => .bad
theorem m_popD {K : PySem.W.Frag} : MtD K cl rPop1 mPopD := by
  intro w x xs v vs W Q ok rx rs q
  unfold mPopD at q
  split at q
  · rename_i i k
    split at q
    · rename_i ks ds kk hi hk
      split at q
      · rename_i d hd
        obtain ⟨u, rfl, r1⟩ := RL.one rs
        obtain ⟨a, ea, ev⟩ := rx
        obtain ⟨_, es, c1, c2, c3⟩ := ok.cell i a _ ea hi
        have g := dicGet_rep (q := kk) c2 c3
        rw [hd] at g
        obtain ⟨y, g1, g2⟩ := g
        obtain ⟨d1, d2⟩ := dicDrop_rep (q := kk) c2 c3
        have ek := keyD_rep r1 hk
        refine ⟨a, es, kk, y, ev, by rw [ek], c1, g1, ?_⟩
        have st := ok.cellSet (u := .dK (dropK es kk)) (d := .dic (dicDrop ks ds kk).1 (dicDrop ks ds kk).2) ea hi ⟨_, upd_same, d1, d2⟩
        exact q ⟨upd w.H a (.dK (dropK es kk)), w.F, w.m, _⟩ y st rfl g2
      · exact q.elim
    · exact q.elim
  · exact q.elim
def mClear : D → List D → Sto → Out D := fun x xs S => match x, xs with
  | .ptr i, [] => (match S[i]? with
    | some (some (.dic _ _)) => .ok .non (S.set i (some (.dic [] [])))
    | _ => .bad)
  | _, _ => .bad
theorem m_clear {K : PySem.W.Frag} : MtD K cl rDClear mClear := by
  intro w x xs v vs W Q ok rx rs q
  unfold mClear at q
  split at q
  · rename_i i
    split at q
    · rename_i ks ds hi
      obtain ⟨a, ea, ev⟩ := rx
      obtain ⟨_, es, c1, c2, c3⟩ := ok.cell i a _ ea hi
      refine ⟨a, es, ev, rs, c1, ?_⟩
      have st := ok.cellSet (u := .dK []) (d := .dic [] []) ea hi ⟨[], upd_same, rfl, rfl⟩
      exact q ⟨upd w.H a (.dK []), w.F, w.m, _⟩ .non st rfl rfl
    · exact q.elim
  · exact q.elim
end
end Dl
set_option Elab.async false
set_option linter.all false
set_option maxRecDepth 100000
set_option maxHeartbeats 1000000
/-! The data layer: list(d.items()) of any dict; a property in any mode. -/
namespace Dl
open PySem PySem.Spec PyProof.Rows L2
theorem Af.more {K : PySem.W.Frag} {cl : Cl} {w : Wd} (ok : w.Ok K cl) {H1 : Hp} (ext : ∀ b o, w.H b = some o → H1 b = some o) (N : Addr → Bool) (hN : ∀ b, N b = true → w.H b = none) : Af K cl w ⟨H1, fun b => if N b = true then H1 b else w.F b, w.m, w.S⟩ := by
  have old : ∀ b o, w.F b = some o → (if N b = true then H1 b else w.F b) = some o := fun b o h => by
    by_cases z : N b = true
    · have q := ok.sub b o h
      rw [hN b z] at q
      cases q
    · rw [if_neg z]; exact h
  refine ⟨⟨ok.len, fun b o h => ?_, fun i b d h1 h2 => ?_, ok.inj⟩, old, fun _ _ h => h, fun b o h _ => ext b o h, fun b o h => ?_, fun b h => .inl h⟩
  · have h : (if N b = true then H1 b else w.F b) = some o := h
    by_cases z : N b = true
    · rw [if_pos z] at h; exact h
    · rw [if_neg z] at h; exact ext b o (ok.sub b o h)
  · obtain ⟨c1, c2⟩ := ok.cell i b d h1 h2
    obtain ⟨x, hx⟩ := c2.there
    have z : ¬ N b = true := fun z => by rw [hN b z] at hx; cases hx
    exact ⟨by show (if N b = true then H1 b else w.F b) = none; rw [if_neg z]; exact c1, c2.of ((ext b x hx).trans hx.symm) old fun _ _ h => h⟩
  · have h : (if N b = true then H1 b else w.F b) = some o := h
    by_cases z : N b = true
    · exact .inr (.inl (hN b z))
    · rw [if_neg z] at h; exact .inl h
section
variable {X : Cx} {e : Expr} {te : TE} {p apos cpos pos : Pos}
/-- what list(d.items()) comes to -/
def tLItems (te : TE) : TE := fun σ H Q => te σ H fun x H1 => ∃ (d : Addr) (kvs : List (Key × V)), x = .ref d ∧ Rd H1 d (.dK kvs) ∧
  ∀ (H2 : Hp) (l : Addr) (ts : List Addr), (∀ b o, H1 b = some o → H2 b = some o) → H1 l = none → (∀ t ∈ ts, H1 t = none) → l ∉ ts → H2 l = some (.lst (ts.map V.ref)) → Paired (fun (t : Addr) (q : Key × V) => H2 t = some (.tup [kV q.1, q.2])) ts kvs → Q (.ref l) H2
theorem pe_lItems (calm : X.calm = true) (he : PE X e te) (hg : Gl X "list") (hm : X.mg "list" = none) (hv : bootBuiltins "list" = some (.type "list")) (hbase : attributeBase e "items" X.env (eval e X.env) = eval e X.env := by rfl) (hline : (apos.endLine == cpos.line) = true := by rfl)
    (hs : starEach [.Call (.Attribute e "items" apos) [] [] cpos] X.env = (false, eval (.Call (.Attribute e "items" apos) [] [] cpos) X.env) :: starEach [] X.env := by rfl) : PE X (.Call (.Name "list" p) [.Call (.Attribute e "items" apos) [] [] cpos] [] pos) (tLItems te) := by
  refine ⟨fun pins s σ H Q I todo => wpAny_Call_Name_kw (ld_blt I hg hm hv (PyProof.Rows.callWith_type1 ?_ hs rfl))⟩
  rw [hs]
  refine Calls.spliced_cons (wpAny_Call_method (T := "dict") (id := "dict.items") hbase rfl hline PySem.F.plainAttrs_dict PySem.F.slot_dict_items PySem.F.type_dict_items (thn (he.run pins s σ H _ I todo) fun u s1 ⟨x, H1, I1, rx, d, kvs, ex, rd, q⟩ => ?_))
  subst ex
  cases (show u = Value.ref d from rx)
  obtain ⟨few, dS, tab, kv, dict⟩ := dk_rd I1.hok rd
  obtain ⟨ep, hat⟩ := dict.dictAt
  have same : kvs.length = tab.length := Paired.length kv
  have I2 := I1.kept (t' := s1.toks) (h' := s1.heap.push { cls := .type "dict_items", data := .fields #[.ref d] }) fun b ob z => Heap.get?_push_of_some _ z
  refine ⟨dict.typeIs, dict.mapOf.noDict, method_meetsIn PySem.F.slot_dict_items PySem.F.entry_dict_items rfl (PySem.evalArgs_none ⟨rfl, dict.typeIs, PySem.F.args_dict_items_1 _, _, meets_dict_items (mixKind X.prog X.w) d dS, ⟨tab, dict⟩, Calls.spliced_nil ?_⟩)⟩
  refine PySem.W.kdx_call (knd := mixKind X.prog X.w) (kvs := tab) (ep := ep) (I1.ok.hd calm) ⟨_, Heap.get?_push_size _ rfl, rfl, rfl⟩ (hat.push _) (by omega) fun h2 tk acc c as a1 a2 a3 a4 a5 => ?_
  obtain ⟨H2, b1, b2, b3, b4, b5, b6, J⟩ := LiI.items_laid (tk := tk) I2 few kv a1 a2 a3 a4 a5
  exact ⟨V.ref _, H2, J, rfl, q H2 _ as b1 b2 b3 b4 b5 b6⟩
end
theorem reps_pairs {K : PySem.W.Frag} {cl : Cl} {F : Hp} {m : List Addr} : ∀ {ts : List Addr} {es : List (Key × V)} {ks vs : List D}, Paired (fun (t : Addr) (q : Key × V) => F t = some (.tup [kV q.1, q.2])) ts es → Reps K cl F m ks (es.map fun e => kV e.1) → Reps K cl F m vs (es.map (·.2)) → Reps K cl F m (pairsD ks vs) (ts.map V.ref)
  | _, _, ks, vs, .nil, rk, rv => by
    cases ks with
    | nil =>
      cases vs with
      | nil => exact rfl
      | cons _ _ => obtain ⟨_, _, h, _⟩ := rv; cases h
    | cons _ _ => obtain ⟨_, _, h, _⟩ := rk; cases h
  | _, _, ks, vs, .cons h r, rk, rv => by
    cases ks with
    | nil => exact absurd (show _ = [] from rk) (by simp)
    | cons k ks =>
      cases vs with
      | nil => exact absurd (show _ = [] from rv) (by simp)
      | cons v vs =>
        obtain ⟨k', kr, h1, h2, h3⟩ := rk
        obtain ⟨v', vr, g1, g2, g3⟩ := rv
        simp only [List.map_cons, List.cons.injEq] at h1 g1
        obtain ⟨h1a, h1b⟩ := h1
        obtain ⟨g1a, g1b⟩ := g1
        subst h1a h1b g1a g1b
        exact ⟨_, _, rfl, ⟨_, _, rfl, .inl h, _, _, rfl, h2, _, _, rfl, g2, rfl⟩, reps_pairs r h3 g3⟩
section
variable {X : Cx} {cl : Cl} {W : WX} {e : Expr} {p apos cpos pos : Pos} {de : DE}
def dLItems (de : DE) : DE := fun t S => (de t S).bind fun x S1 => match deref x S1 with
  | .dic ks vs => .ok (.lst (pairsD ks vs)) S1
  | _ => .bad
theorem u_lItems (calm : X.calm = true) (he : UE X cl W e de) (hg : Gl X "list") (hm : X.mg "list" = none) (hv : bootBuiltins "list" = some (.type "list") := by decide +kernel) (hbase : attributeBase e "items" X.env (eval e X.env) = eval e X.env := by rfl) (hline : (apos.endLine == cpos.line) = true := by rfl)
    (hs : starEach [.Call (.Attribute e "items" apos) [] [] cpos] X.env = (false, eval (.Call (.Attribute e "items" apos) [] [] cpos) X.env) :: starEach [] X.env := by rfl) : UE X cl W (.Call (.Name "list" p) [.Call (.Attribute e "items" apos) [] [] cpos] [] pos) (dLItems de) :=
  weakE (pe_lItems calm he hg hm hv hbase hline hs) fun σ H Q ⟨w, t, eH, ok, en, q⟩ => by
    refine ⟨w, t, eH, ok, en, OPost.bind q fun x w1 v a1 r1 p1 => ?_⟩
    split at p1
    · rename_i ks vs hx
      obtain ⟨a, es, ev, h1, rk, rv⟩ := deref_dic a1.ok r1 hx
      subst ev
      refine ⟨a, es, rfl, h1, fun H2 l ts x1 x2 x3 x4 x5 x6 => ?_⟩
      have y := Af.more a1.ok x1 (fun b => decide (b = l ∨ b ∈ ts)) fun b hb => by
        rcases of_decide_eq_true hb with z | z
        · rw [z]; exact x2
        · exact x3 b z
      have fl : (fun b => if decide (b = l ∨ b ∈ ts) = true then H2 b else w1.F b) l = some (.lst (ts.map V.ref)) := by
        show (if decide (l = l ∨ l ∈ ts) = true then H2 l else w1.F l) = _
        rw [if_pos (by simp)]
        exact x5
      have ft : Paired (fun (t : Addr) (q : Key × V) => (fun b => if decide (b = l ∨ b ∈ ts) = true then H2 b else w1.F b) t = some (.tup [kV q.1, q.2])) ts es := by
        have gen : ∀ {us : List Addr} {fs : List (Key × V)}, (∀ t ∈ us, t ∈ ts) → Paired (fun (t : Addr) (q : Key × V) => H2 t = some (.tup [kV q.1, q.2])) us fs → Paired (fun (t : Addr) (q : Key × V) => (fun b => if decide (b = l ∨ b ∈ ts) = true then H2 b else w1.F b) t = some (.tup [kV q.1, q.2])) us fs := by
          intro us fs hu pd
          induction pd with
          | nil => exact .nil
          | @cons t q us fs h r ih =>
            refine .cons ?_ (ih fun z hz => hu z (List.mem_cons_of_mem _ hz))
            show (if decide (t = l ∨ t ∈ ts) = true then H2 t else w1.F t) = _
            rw [if_pos (decide_eq_true (.inr (hu t List.mem_cons_self)))]
            exact h
        exact gen (fun _ h => h) x6
      exact p1 ⟨H2, fun b => if decide (b = l ∨ b ∈ ts) = true then H2 b else w1.F b, w1.m, w1.S⟩ (.ref l) y rfl ⟨l, _, rfl, fl, reps_pairs ft (Reps.af y rk) (Reps.af y rv)⟩
    · exact p1.elim
/-! ### a property, in any mode -/
variable {k c : Nat} {g pa : Addr} {fd : FuncData} {ps : List Str} {h : DF} {G : DF → DF} {dx : DE} {fn : Str}
def dPropV (c : Nat) (h : DF) (dx : DE) : DE := fun t S => (dx t S).bind fun x S1 => match objOf x S1 with
  | some (d, _, _) => if d = c then (h [x] S1).calm else .bad
  | none => .bad
theorem u_propV (hv : Via G) (F : FnD X cl k g fd ps h) (hr : Room (k + 1) X.A) (hb : Binds X.K fd ps []) (hp : ps.length = 1) (ck : Cls X.K (cl c)) (hpr : PropOf X.K (cl c) fn pa g) (he : UE X cl W e dx) (hab : attributeBase e fn X.env (eval e X.env) = eval e X.env) :
    UE X cl W (.Attribute e fn pos) (dPropV c (G h) dx) :=
  weakE (pe_prop (E := fun _ _ _ => False) he ck hpr F hr hb .nil (fun pins σ H s e s' I q => passAt (W := W0) (X := X.nox) takes0 σ pins H s e s' I q) hab) fun σ H Q ⟨w, t, eH, ok, en, q⟩ => by
    refine ⟨w, t, eH, ok, en, OPost.bind q fun x w1 v a1 r1 p1 => ?_⟩
    split at p1
    · rename_i c' ns vs ho
      split at p1
      · rename_i hc
        subst hc
        obtain ⟨a, dy, es, ev, ea, _, _⟩ := objOf_at a1.ok r1 ho
        refine ⟨a, dy, es, ev, ea, ?_⟩
        have z := hv X.K cl w1 h [x] [v] (fun _ _ _ => False) Q a1.ok (RL.mk1 r1) (by
          cases ho : G h [x] w1.S with
          | ok a S => rw [ho] at p1; exact p1
          | exc c ns vs S => rw [ho] at p1; exact p1.elim
          | bad => rw [ho] at p1; exact p1.elim)
        rw [hp]
        rw [ev] at z
        exact z
      · exact p1.elim
    · exact p1.elim
end
end Dl
set_option Elab.async false
set_option linter.all false
set_option maxRecDepth 100000
set_option maxHeartbeats 1000000
/-! The data layer: three names at once; a list times a number. -/
namespace Dl
open PySem PySem.Spec PyProof.Rows L2
section
variable {X : Cx} {cl : Cl} {W : WX} {a b c : Expr} {px py pz pt pos : Pos}
def dPar3 (i j l : Nat) (da : DA) : DS := fun t S => ofE (da t S) t fun xs S1 => match xs with
  | [x, y, z] => .nx (((t.set i (some x)).set j (some y)).set l (some z)) S1
  | _ => .bad
theorem RL.three {K : PySem.W.Frag} {w : Wd} {x y z : D} {vs : List V} (r : RL K cl w [x, y, z] vs) : ∃ u v o, vs = [u, v, o] ∧ RV K cl w x u ∧ RV K cl w y v ∧ RV K cl w z o := by
  obtain ⟨u, r0, rfl, h1, v, r1, rfl, h2, o, r2, rfl, h3, rfl⟩ := r
  exact ⟨u, v, o, rfl, h1, h2, h3⟩
theorem s_par3 {i j l : Nat} {x y z : Str} {da : DA} {kt k2 pt2} (hc : X.calm = true) (hN : X.N.Nodup) (hi : X.N[i]? = some x) (hj : X.N[j]? = some y) (hl : X.N[l]? = some z) (hij : i ≠ j) (hil : i ≠ l) (hjl : j ≠ l)
    (hx : X.env.scope.names.lookup x = some .local) (hy : X.env.scope.names.lookup y = some .local) (hz : X.env.scope.names.lookup z = some .local) (ha : UA X cl W [a, b, c] da)
    (hw : swappedStores [.Tuple [.Name x px, .Name y py, .Name z pz] kt pt] (.Tuple [a, b, c] k2 pt2) X.env = pure (some [x, y, z]) := by rfl)
    (hs : swapsWithSole [.Tuple [.Name x px, .Name y py, .Name z pz] kt pt] (.Tuple [a, b, c] k2 pt2) pos.line X.env = pure false := by rfl) :
    US X cl W (.Assign [.Tuple [.Name x px, .Name y py, .Name z pz] kt pt] (.Tuple [a, b, c] k2 pt2) pos) (dPar3 i j l da) := weakS (ps_par3 hc hN hi hj hl hij hil hjl hx hy hz ha hw hs) fun N σ H ⟨w, t, eH, ok, en, q⟩ => by
  refine ⟨w, t, eH, ok, en, SPost.ofE q en fun xs w1 vs a1 r1 en1 p1 => ?_⟩
  split at p1
  · obtain ⟨u, v, o, e1, h1, h2, h3⟩ := RL.three r1
    exact ⟨u, v, o, e1, p1 w1 _ (Af.refl a1.ok) rfl (((en1.set h1).set h2).set h3)⟩
  · exact p1.elim
/-- copies of a list, one behind the other -/
def copies (xs : List D) : Nat → List D
  | 0 => []
  | n + 1 => xs ++ copies xs n
def fMulL : D → D → Sto → Out D := fun x y S => match deref x S, y with
  | .lst xs, .int j => if 0 ≤ j ∧ j ≤ 1000 ∧ xs.length ≤ 1000 then .ok (.lst (copies xs j.toNat)) S else .bad
  | _, _ => fMul x y S
theorem copies_rep {K : PySem.W.Frag} {F : Hp} {m : List Addr} {xs : List D} {vs : List V} (r : Reps K cl F m xs vs) : ∀ n : Nat, Reps K cl F m (copies xs n) ((List.replicate n vs).flatten)
  | 0 => rfl
  | n + 1 => by
    rw [List.replicate_succ, List.flatten_cons]
    exact Reps.append r (copies_rep r n)
theorem op_mulL : OpR X (binaryOp .Mult) (fun x y H Q => rMulAny x y H Q ∨ rRep x y H Q) := op_mulAny.or op_rep
theorem d_mulL {K : PySem.W.Frag} : OpD K cl (fun x y H Q => rMulAny x y H Q ∨ rRep x y H Q) fMulL := by
  intro w x y vx vy W Q ok rx ry q
  unfold fMulL at q
  split at q
  · rename_i xs j h1
    split at q
    · rename_i hz
      obtain ⟨l, vs, ev, q1, q2⟩ := deref_lst ok rx h1
      have few : vs.length * j.toNat ≤ 1000 * 1000 := by
        have e := Reps.length q2
        exact Nat.mul_le_mul (by omega) (by omega)
      refine .inr ⟨l, j, vs, ev, ry, q1, by omega, by omega, Nat.le_trans few (by decide), fun p hp => ?_⟩
      exact q ⟨upd w.H p _, upd w.F p (.lst (List.replicate j.toNat vs).flatten), w.m, w.S⟩ (.ref p) (ok.laid hp) rfl (laidLst ok hp (copies_rep q2 j.toNat))
    · exact q.elim
  · exact .inl (d_mul w x _ vx vy W Q ok rx ry q)
end
end Dl
set_option Elab.async false
set_option linter.all false
set_option maxRecDepth 100000
set_option maxHeartbeats 1000000
/-! The data layer: the head's facts of properties; the Hook with them. -/
namespace Dl
open PySem PySem.Spec PyProof.Rows L2
structure PrD where
  cls : Str
  name : Str
  qual : Str
  params : Arguments
  body : List Stmt
  scope : Scope
/-- where the getter stands -/
def getA (K : PySem.W.Frag) (c n : Str) : Addr := match PySem.W.recIn K (He.ma K (He.ga K c) n) "property" with
  | some (.ref g :: _) => g
  | _ => 0
def fnP (K : PySem.W.Frag) (a : Addr) : He.FnW := match K.lookup a with
  | some ⟨_, _, .func fd, _⟩ => some (fd.name, fd.qualname, fd.params, fd.body, fd.scope, fd.globals, fd.closure, fd.builtins)
  | _ => none
def PrD.val (d : PrD) : He.FnW := some (d.name, d.qual, d.params, .stmts d.body, d.scope, mainGlobals, [], builtinsNs)
def fdOf (K : PySem.W.Frag) (a : Addr) : FuncData := match K.lookup a with
  | some ⟨_, _, .func fd, _⟩ => fd
  | _ => PySem.W.fnOf "" "" ⟨[], [], none, [], [], none, []⟩ [] ⟨.function, [], false, false, []⟩ .none .none .none .none none .none .none
def plainB (K : PySem.W.Frag) (a : Addr) (q : Str) : Bool := PySem.W.keepIn K (.ref a) && (match K.lookup a with
  | some ⟨_, _, .func fd, _⟩ => PySem.W.codeIn K fd.code q && (He.dflB K fd.defaults [] && He.kwdB K fd.kwdefaults [])
  | _ => false)
def propB (K : PySem.W.Frag) (c n : Str) : Bool := He.eqO (PySem.W.findIn K (.ref (He.ga K c)) n) (some (some (.ref (He.ma K (He.ga K c) n)))) && (He.eqO (PySem.W.specialIn K (.ref (He.ma K (He.ga K c) n)) "__get__") (some (some (.builtin "property.__get__"))) &&
  (decide (PySem.W.takesIn K (.ref (He.ma K (He.ga K c) n)) = some true) && (match PySem.W.recIn K (He.ma K (He.ga K c) n) "property" with
    | some (.ref _ :: _) => true
    | _ => false)))
theorem prop_is {K : PySem.W.Frag} {c n : Str} (h : propB K c n = true) : PropOf K (He.ga K c) n (He.ma K (He.ga K c) n) (getA K c n) := by
  obtain ⟨h1, h⟩ := He.ba h
  obtain ⟨h2, h⟩ := He.ba h
  obtain ⟨h3, h4⟩ := He.ba h
  refine ⟨He.eqO_ok h1, He.eqO_ok h2, of_decide_eq_true h3, ?_⟩
  unfold getA
  split at h4
  · rename_i g rest e
    exact ⟨rest, by rw [e]⟩
  · cases h4
theorem fun_at {K : PySem.W.Frag} {d : PrD} {a : Addr} (e : fnP K a = d.val) (c : plainB K a d.qual = true) : FunD K d.name d.qual d.params d.body d.scope [] [] a (fdOf K a) := by
  obtain ⟨kp, c2⟩ := He.ba c
  unfold fnP at e
  unfold fdOf
  cases q : K.lookup a with
  | none => rw [q] at c2; cases c2
  | some o =>
    obtain ⟨oc, od, dt, osl⟩ := o
    rw [q] at c2 e
    cases dt with
    | func fd =>
      obtain ⟨n1, n2, n3, n4, n5, n6, n7, n8, n9, n10, n11, n12, n13, n14, n15⟩ := fd
      have e2 : (some (n1, n2, n3, n4, n5, n6, n7, n15) : He.FnW) = d.val := e
      unfold PrD.val at e2
      simp only [Option.some.injEq, Prod.mk.injEq] at e2
      obtain ⟨h1, h2, h3, h4, h5, h6, h7, h8⟩ := e2
      subst h1 h2 h3 h4 h5 h6 h7 h8
      obtain ⟨k1, k2⟩ := He.ba (show (PySem.W.codeIn K n13 d.qual && (He.dflB K n8 [] && He.kwdB K n9 [])) = true from c2)
      obtain ⟨k3, k4⟩ := He.ba k2
      exact ⟨⟨oc, od, n8, n9, n10, n11, n12, n13, n14, osl, rfl, q, k1, He.dflB_ok k3, He.kwdB_ok k4⟩, kp⟩
    | _ => cases c2
abbrev AlP : Type := AlZ × (List He.FnW × Bool)
def okP (prs : List PrD) (K : PySem.W.Frag) : Bool := prs.all fun d => propB K d.cls d.name && plainB K (getA K d.cls d.name) d.qual
def obsP (n : Nat) (fa : List He.Fa) (fn : List He.DefD) (ts : List He.Tab) (xs : List XDef) (prs : List PrD) (ex : PySem.W.Frag → Bool) (g : Addr → Option Obj) : AlP :=
  (obsZ n fa fn ts xs ex g, (prs.map fun d => fnP (He.frT g (asZ g n)) (getA (He.frT g (asZ g n)) d.cls d.name), okP prs (He.frT g (asZ g n))))
structure SaysP (fa : List He.Fa) (fn : List He.DefD) (ts : List He.Tab) (xs : List XDef) (prs : List PrD) (ex : PySem.W.Frag → Bool) (w : World) (K : PySem.W.Frag) : Prop extends SaysZ fa fn ts xs ex w K where
  p : prs.map (fun d => fnP K (getA K d.cls d.name)) = prs.map PrD.val
  q : okP prs K = true
def hookP (n : Nat) (fa : List He.Fa) (fn : List He.DefD) (ts : List He.Tab) (xs : List XDef) (prs : List PrD) (ex : PySem.W.Frag → Bool) : PySem.W.Hook where
  α := AlP
  obs := fun s => obsP n fa fn ts xs prs ex s.heap.get?
  val := fun w => (valZ fn ts xs w, (prs.map PrD.val, true))
  says := fun w h => ∃ K : PySem.W.Frag, K.In h ∧ SaysP fa fn ts xs prs ex w K
  of := fun _ _ e => ⟨_, He.frT_in, ⟨⟨congrArg (fun z : AlP => z.1.1.1) e, congrArg (fun z : AlP => z.1.1.2) e, congrArg (fun z : AlP => z.1.2) e⟩, congrArg (fun z : AlP => z.2.1) e, congrArg (fun z : AlP => z.2.2) e⟩⟩
  keeps := fun _ _ _ ⟨K, hK, c⟩ k => ⟨K, PySem.W.Frag.In.keeps hK k, c⟩
theorem obsP_eq {n : Nat} {fa : List He.Fa} {fn : List He.DefD} {ts : List He.Tab} {xs : List XDef} {prs : List PrD} {ex : PySem.W.Frag → Bool} {g : Addr → Option Obj} {s : Shared} (h : ∀ a, g a = s.heap.get? a) : obsP n fa fn ts xs prs ex g = (hookP n fa fn ts xs prs ex).obs s := by
  have e : g = s.heap.get? := funext h
  rw [e] <;> rfl
structure Wp (P : Program) (file : Str) (fa : List He.Fa) (fn : List He.DefD) (ts : List He.Tab) (xs : List XDef) (prs : List PrD) (ex : PySem.W.Frag → Bool) (w : World) (K : PySem.W.Frag) (mg : Str → Option Value) : Prop extends Wz P file fa fn ts xs ex w K mg where
  p : prs.map (fun d => fnP K (getA K d.cls d.name)) = prs.map PrD.val
  q : okP prs K = true
section
variable {P : Program} {file : Str} {fa : List He.Fa} {fn : List He.DefD} {ts : List He.Tab} {xs : List XDef} {prs : List PrD} {ex : PySem.W.Frag → Bool} {w : World} {K : PySem.W.Frag} {mg : Str → Option Value}
theorem Wp.prop (c : Wp P file fa fn ts xs prs ex w K mg) (i : Nat) {d : PrD} (h : prs[i]? = some d) : PropOf K (He.ga K d.cls) d.name (He.ma K (He.ga K d.cls) d.name) (getA K d.cls d.name) :=
  prop_is (He.ba (List.all_eq_true.mp c.q d (List.mem_of_getElem? h))).1
theorem Wp.getter (c : Wp P file fa fn ts xs prs ex w K mg) (i : Nat) {d : PrD} (h : prs[i]? = some d) : FunD K d.name d.qual d.params d.body d.scope [] [] (getA K d.cls d.name) (fdOf K (getA K d.cls d.name)) := by
  have e : (prs.map fun d => fnP K (getA K d.cls d.name))[i]? = (prs.map PrD.val)[i]? := by rw [c.p]
  rw [List.getElem?_map, List.getElem?_map, h] at e
  exact fun_at (Option.some.inj e) (He.ba (List.all_eq_true.mp c.q d (List.mem_of_getElem? h))).2
end
end Dl
set_option Elab.async false
set_option linter.all false
set_option maxRecDepth 100000
set_option maxHeartbeats 1000000
/-! The data layer: y = {k: v for ..}, y a local; the dict is still to change. -/
namespace Dl
open PySem PySem.Spec PyProof.Rows L2
section
variable {X : Cx} {cl : Cl} {W : WX} {dt : DB} {dk dv : DE} {di : DA} {g : Tg} {kx vx tg iter : Expr} {ifs : List Expr} {scope : Scope} {own : List (Str × Nat)} {pos spos py : Pos} {y : Str} {i : Nat}
theorem swd_true {l : Nat} {env : Env} {gs : List Comprehension} (hk : env.scope.kind = .function) (hy : env.scope.names.lookup y = some .local) (hl : (py.line == pos.line) = true) (ha : (scope.names.any fun (n, k) => n == y && (k == .local || k == .cell)) = false) :
    swapsWith (.DictComp kx vx gs scope pos) (some (.Name y py)) l env = pure true := by
  have k1 : env.kindOf y = some .local := hy
  have k2 : env.blockKind = .function := by unfold Env.blockKind; rw [hk]; rfl
  unfold swapsWith
  simp only [k1, k2, ha, Expr.pos, hl]
  rfl
theorem ps_setDc {wi : TI} {gt : TG} {tt : TT} {tk tv : TE} (hc : X.calm = true) (hN : X.N.Nodup) (hy : X.N[i]? = some y) (hyl : X.env.scope.names.lookup y = some .local)
    (sw : swapsWith (.DictComp kx vx [⟨tg, iter, ifs, 0⟩] scope pos) (some (.Name y py)) spos.line X.env = pure true) (hi : PI X tg iter wi) (ok : BlkOk X.N X.env.scope scope own)
    (hg : ∀ (s : Shared) (H : Hp) (C : Addr) (cs : List (Str × Addr)) (fp : List Addr), PG (X.blk s H scope (compEnvC scope cs C X.env) fp) tg gt) (ht : ∀ (s : Shared) (H : Hp) (C : Addr) (cs : List (Str × Addr)) (fp : List Addr), PTs (X.blk s H scope (compEnvC scope cs C X.env) fp) ifs tt)
    (hk : ∀ (s : Shared) (H : Hp) (C : Addr) (cs : List (Str × Addr)) (fp : List Addr), PE (X.blk s H scope (compEnvC scope cs C X.env) fp) kx tk) (he : ∀ (s : Shared) (H : Hp) (C : Addr) (cs : List (Str × Addr)) (fp : List Addr), PE (X.blk s H scope (compEnvC scope cs C X.env) fp) vx tv)
    (hs : ∀ x, foldedSetIterable iter X.env x = pure x := by intro _; rfl) : PS X (.Assign [.Name y py] (.DictComp kx vx [⟨tg, iter, ifs, 0⟩] scope pos) spos) (tAsg (tDc wi gt tt tk tv (own.map (·.2))) (gName i)) := by
  refine ⟨fun pins s σ H D I h => ?_⟩
  rw [exec_Assign_Name_used _ _ _ _ sw]
  refine wpAny_bind (wpAny_standAt (wpAny_bind ?_))
  show wpAny _ X.A (do let _ ← comprehension (.DictComp kx vx [⟨tg, iter, ifs, 0⟩] scope pos) scope X.env (firstIterPos [⟨tg, iter, ifs, 0⟩] pos) newDict false (eval iter X.env) (some (assign (.Name y py) X.env))) _ _ s
  have h : tDc wi gt tt tk tv (own.map (·.2)) σ H (fun x H1 => gName i x σ H1 D.nx) := h
  refine wpAny_bind (thn (dc_core (Qf := fun _ s2 => SP X pins D .next s2) hc hN I hi ok hg ht hk he hs h fun L C s2 m H2 I2 q hn f => ?_) fun _ s2 z => wpAny_pure (wpAny_pure z))
  show wpAny _ _ (assign (.Name y py) X.env (.ref L)) _ _ _
  refine wpAny_assign_Name (store_ok2 (v := V.ref L) I2 hN hy (.inl hyl) rfl (fun s3 I3 ⟨a, sb, ha⟩ => ?_) (.inr hyl))
  obtain ⟨f0, f1, f2, f3, f4, f5⟩ := f
  have off : C ≠ a := ha.elim (fun z => by rw [z]; exact f1) fun z c => f4 y a z c.symm
  exact ⟨m, hn.sameBut sb off, fun h4 sb4 => ⟨_, H2, I3.turned (t' := s3.toks) (fun b o hb c => (sb4.2 b hb).trans c) f0 f1 f3 f4 f5, q⟩⟩
def dDcC (vs : List Nat) (g : Tg) (di : DA) (dt : DB) (dk dv : DE) : DE := fun t S => (di t S).bind fun xs S1 => (dcLoop g dt dk dv (wipeD vs t) xs ([], []) S1).bind fun a S2 => .ok (.ptr S2.length) (S2 ++ [some (.dic a.1 a.2)])
theorem le_dcC {K : PySem.W.Frag} {vs : List Nat} {σ : L2.St} {H : Hp} {Q : VK} (hsl : ∀ i ∈ g.slots, i ∈ vs) (q : upE K cl W (dDcC vs g di dt dk dv) σ H Q) : tDc (upI K cl W di) (tgT K g) (upB K cl W0 dt) (upE K cl W0 dk) (upE K cl W0 dv) vs σ H Q := by
  obtain ⟨w, t, eH, ok, en, p⟩ := q
  refine ⟨w, t, eH, ok, en, OPost.bind p fun xs w1 J a1 hJ p1 => fun D hD => ?_⟩
  refine dc_run hsl a1.ok (en.af a1) hJ hD p1 fun a es w2 gr p2 => ?_
  have mk : ∀ (j : Nat) (b : Addr), w2.m[j]? = some b → (w2.m ++ [D])[j]? = some b := fun j b hb => pre_get hb
  have z := gr.b.celled (d := .dic a.1 a.2) ⟨es, gr.b.at_, gr.k, gr.v⟩
  exact p2 ⟨w2.H, w2.F, w2.m ++ [D], w2.S ++ [some (.dic a.1 a.2)]⟩ (.ref D) z rfl ⟨D, snoc_get gr.b.af.ok.len.symm, rfl⟩
theorem s_setDcC (vs : List Nat) (hv : own.map (·.2) = vs) (hsl : ∀ i ∈ g.slots, i ∈ vs) (hc : X.calm = true) (hN : X.N.Nodup) (hy : X.N[i]? = some y) (hyl : X.env.scope.names.lookup y = some .local)
    (sw : swapsWith (.DictComp kx vx [⟨tg, iter, ifs, 0⟩] scope pos) (some (.Name y py)) spos.line X.env = pure true) (hi : UI X cl W tg iter di) (ok : BlkOk X.N X.env.scope scope own)
    (hg : ∀ (s : Shared) (H : Hp) (C : Addr) (cs : List (Str × Addr)) (fp : List Addr), PG (X.blk s H scope (compEnvC scope cs C X.env) fp) tg (tgT X.K g)) (ht : ∀ (s : Shared) (H : Hp) (C : Addr) (cs : List (Str × Addr)) (fp : List Addr), UTs (X.blk s H scope (compEnvC scope cs C X.env) fp) cl ifs dt)
    (hk : ∀ (s : Shared) (H : Hp) (C : Addr) (cs : List (Str × Addr)) (fp : List Addr), UE (X.blk s H scope (compEnvC scope cs C X.env) fp) cl W0 kx dk) (he : ∀ (s : Shared) (H : Hp) (C : Addr) (cs : List (Str × Addr)) (fp : List Addr), UE (X.blk s H scope (compEnvC scope cs C X.env) fp) cl W0 vx dv)
    (hs : ∀ x, foldedSetIterable iter X.env x = pure x := by intro _; rfl) : US X cl W (.Assign [.Name y py] (.DictComp kx vx [⟨tg, iter, ifs, 0⟩] scope pos) spos) (dSet i (dDcC vs g di dt dk dv)) :=
  weakS (ps_setDc hc hN hy hyl sw hi ok hg ht hk he hs) fun N σ H ⟨w, t, eH, hok, en, p⟩ => by
    rw [hv]
    exact le_dcC hsl ⟨w, t, eH, hok, en, SPost.ofE p en fun d w1 v a1 rv en1 p1 => p1 w1 _ (Af.refl a1.ok) rfl (en1.set rv)⟩
end
end Dl
set_option Elab.async false
set_option linter.all false
set_option maxRecDepth 100000
set_option maxHeartbeats 400000
/-! The data layer: a, b, c = a list. -/
namespace Dl
open PySem PyProof.Rows L2
section
variable {X : Cx} {cl : Cl} {W : WX} {e tg : Expr} {de : DE} {pos : Pos}
def dAsgL (is : List Nat) (de : DE) : DS := fun t S => ofE (de t S) t fun d S1 => match deref d S1 with
  | .lst ds => if ds.length = is.length then .nx (setAll is ds t) S1 else .bad
  | _ => .bad
theorem s_asgL {is : List Nat} (he : UE X cl W e de) (hg : PG X tg (gUnl X.K is.length (tgL is))) (hs : swapsWithSole [tg] e pos.line X.env = pure false := by rfl) (hw : swappedStores [tg] e X.env = pure none := by rfl) (h1 : (assignEach [tg] X.env).map (·.2) = [assign tg X.env] := by rfl) :
    US X cl W (.Assign [tg] e pos) (dAsgL is de) := weakS (ps_asg he hg hs hw h1) fun N σ H ⟨w, t, eH, ok, en, p⟩ =>
  ⟨w, t, eH, ok, en, SPost.ofE p en fun d w1 v y rv en1 p1 => by
    split at p1
    · rename_i ds hd
      split at p1
      · rename_i hl
        obtain ⟨a, xs, ev, h2, rr⟩ := deref_lst y.ok rv hd
        exact ⟨a, xs, ev, .of h2, by rw [← hl]; exact (Reps.length rr).symm, tgL_ok (σ0 := σ) (sl := is) hl rr en1 (fun _ h => h) (fun _ _ => rfl) fun σ' en' _ => p1 w1 σ' (Af.refl y.ok) rfl en'⟩
      · exact p1.elim
    · exact p1.elim⟩
theorem asgL_ok {t : Lc} {S S1 : Sto} {is : List Nat} {ds : List D} (h : de t S = .ok (.lst ds) S1) (hl : ds.length = is.length) : dAsgL is de t S = .nx (setAll is ds t) S1 := by
  unfold dAsgL
  rw [h]
  exact if_pos hl
end
end Dl
set_option Elab.async false
set_option linter.all false
set_option maxRecDepth 100000
set_option maxHeartbeats 400000
/-! The data layer: a denotation reckoned step by step: objects, calls that have all cells. -/
namespace Dl
open PySem PyProof.Rows L2
mutual
theorem below_up {n m : Nat} (h : n ≤ m) : ∀ d : D, below n d = true → below m d = true
  | .non, _ => rfl
  | .bl _, _ => rfl
  | .int _, _ => rfl
  | .str _, _ => rfl
  | .ptr i, e => by
    have e : decide (i < n) = true := e
    exact decide_eq_true (Nat.lt_of_lt_of_le (of_decide_eq_true e) h)
  | .tup ds, e => belows_up h ds e
  | .lst ds, e => belows_up h ds e
  | .rol ds, e => belows_up h ds e
  | .dic ks vs, e => by
    have e : (belows n ks && belows n vs) = true := e
    obtain ⟨a, b⟩ := Bool.and_eq_true_iff.mp e
    show (belows m ks && belows m vs) = true
    rw [belows_up h ks a, belows_up h vs b]; rfl
  | .dit ks vs, e => by
    have e : (belows n ks && belows n vs) = true := e
    obtain ⟨a, b⟩ := Bool.and_eq_true_iff.mp e
    show (belows m ks && belows m vs) = true
    rw [belows_up h ks a, belows_up h vs b]; rfl
  | .obj _ _ vs, e => belows_up h vs e
theorem belows_up {n m : Nat} (h : n ≤ m) : ∀ ds : List D, belows n ds = true → belows m ds = true
  | [], _ => rfl
  | d :: ds, e => by
    have e : (below n d && belows n ds) = true := e
    obtain ⟨a, b⟩ := Bool.and_eq_true_iff.mp e
    show (below m d && belows m ds) = true
    rw [below_up h d a, belows_up h ds b]; rfl
end
theorem belows_app {n : Nat} : ∀ {as bs : List D}, belows n as = true → belows n bs = true → belows n (as ++ bs) = true
  | [], _, _, h => h
  | a :: as, bs, h, h2 => by
    have h : (below n a && belows n as) = true := h
    obtain ⟨x, y⟩ := Bool.and_eq_true_iff.mp h
    show (below n a && belows n (as ++ bs)) = true
    rw [x, belows_app y h2]; rfl
section
variable {t t1 t2 : Lc} {S S1 S2 S3 S4 : Sto} {a b : DS} {de da db dx : DE} {ta tb : DB} {dr : DA} {d x y z : D} {xs ys vs ws : List D} {n m i p c : Nat} {ns : List Str} {f : Str}
/-- every cell speaks of cells of the store alone -/
def Sane (S : Sto) : Prop := cellsBelow S.length S = true
theorem viaT_ok {h : DF} {S' : Sto} (e : h xs S = .ok z S') (hz : below S.length z = true) (hc : cellsBelow S.length (S'.take S.length) = true) : viaT h xs S = .ok z (S'.take S.length) := by
  unfold viaT
  rw [e]
  exact if_pos ⟨hz, hc⟩
theorem viaT_exc {h : DF} {S' : Sto} (e : h xs S = .exc c ns vs S') (hz : belows S.length vs = true) (hc : cellsBelow S.length (S'.take S.length) = true) : viaT h xs S = .exc c ns vs (S'.take S.length) := by
  unfold viaT
  rw [e]
  exact if_pos ⟨hz, hc⟩
theorem viaT_same {h : DF} (s : Sane S) (e : h xs S = .ok z S) (hz : below S.length z = true) : viaT h xs S = .ok z S := by
  have q := viaT_ok e hz (by rw [List.take_length]; exact s)
  rw [List.take_length] at q
  exact q
theorem viaT_stop {h : DF} (s : Sane S) (e : h xs S = .exc c ns vs S) (hz : belows S.length vs = true) : viaT h xs S = .exc c ns vs S := by
  have q := viaT_exc e hz (by rw [List.take_length]; exact s)
  rw [List.take_length] at q
  exact q
theorem viaT_len {h : DF} {S' : Sto} (e : h xs S = .ok z S') (hl : S'.length = S.length) (hz : below S.length z = true) (hc : cellsBelow S.length S' = true) : viaT h xs S = .ok z S' := by
  have k : S'.take S.length = S' := by rw [← hl, List.take_length]
  have q := viaT_ok e hz (by rw [k]; exact hc)
  rw [k] at q
  exact q
theorem obj_at (h : S[p]? = some (some (.obj c ns vs))) : objOf (.ptr p) S = some (c, ns, vs) := by
  unfold objOf
  dsimp only
  rw [h]
theorem attr_p (h0 : de t S = .ok (.ptr p) S1) (h : S1[p]? = some (some (.obj c ns vs))) (hl : lookD ns vs f = some d) : dAttr c f de t S = .ok d S1 := by
  unfold dAttr
  rw [h0]
  show (match objOf (.ptr p) S1 with
    | some (c', ns, vs) => if c' = c then (match lookD ns vs f with
      | some d => Out.ok d S1
      | none => .bad) else .bad
    | none => .bad) = _
  rw [obj_at h]
  show (if c = c then (match lookD ns vs f with
      | some d => Out.ok d S1
      | none => .bad) else .bad) = _
  rw [if_pos rfl, hl]
theorem meth_p {h : DF} {N : Nat} {g : Str} (h0 : dx t S = .ok (.ptr p) S1) (ho : S1[p]? = some (some (.obj c ns vs))) (hm : ns.contains g = false) (ha : dr t S1 = .ok xs S2) (hl : xs.length + 1 = N) : dMeth c g N h dx dr t S = h (.ptr p :: xs) S2 := by
  unfold dMeth
  rw [h0]
  show (match objOf (.ptr p) S1 with
    | some (c', ns, _) => if c' = c ∧ ns.contains g = false then (dr t S1).bind fun xs S2 => if xs.length + 1 = N then h (.ptr p :: xs) S2 else .bad else .bad
    | none => .bad) = _
  rw [obj_at ho]
  show (if c = c ∧ ns.contains g = false then (dr t S1).bind fun xs S2 => if xs.length + 1 = N then h (.ptr p :: xs) S2 else .bad else .bad) = _
  rw [if_pos ⟨rfl, hm⟩, ha]
  show (if xs.length + 1 = N then h (.ptr p :: xs) S2 else .bad) = _
  rw [if_pos hl]
theorem setF_p {dv : DE} (hv : dv t S = .ok y S1) (h0 : dx t S1 = .ok (.ptr p) S2) (ho : S2[p]? = some (some (.obj c ns vs))) (hn : ns.length < 1000) : dSetF c f dx dv t S = .nx t (S2.set p (some (.obj c (putD f y ns vs).1 (putD f y ns vs).2))) := by
  unfold dSetF
  rw [hv]
  show Dl.ofE (dx t S1) t _ = _
  rw [h0]
  show (match cellObj c (.ptr p) S2 with
    | some (i, ns, vs) => if ns.length < 1000 then SOut.nx t (S2.set i (some (.obj c (putD f y ns vs).1 (putD f y ns vs).2))) else .bad
    | none => .bad) = _
  have e : cellObj c (.ptr p) S2 = some (p, ns, vs) := by
    unfold cellObj
    dsimp only
    rw [ho]
    exact if_pos rfl
  rw [e]
  exact if_pos hn
theorem and_t (ha : da t S = .ok (.bl true) S1) : dAnd da db t S = db t S1 := by unfold dAnd; rw [ha]; rfl
theorem and_f (ha : da t S = .ok (.bl false) S1) : dAnd da db t S = .ok (.bl false) S1 := by unfold dAnd; rw [ha]; rfl
theorem not_ok {b : Bool} (ha : da t S = .ok (.bl b) S1) : dNot da t S = .ok (.bl (!b)) S1 := by unfold dNot; rw [ha]; rfl
theorem tup_ok (h : dr t S = .ok xs S1) (hl : xs.length ≤ sizeLine) : dTup dr t S = .ok (.tup xs) S1 := by
  unfold dTup
  rw [h]
  exact if_pos hl
theorem asg_ok {g : Tg} (h : de t S = .ok x S1) (hg : g.set x t = some t1) : dAsg g de t S = .nx t1 S1 := by
  unfold dAsg
  rw [h]
  show (match g.set x t with
    | some t1 => SOut.nx t1 S1
    | none => .bad) = _
  rw [hg]
theorem chain_t {f g : D → D → Sto → Out D} {dc : DE} {u : D} (h1 : da t S = .ok x S1) (h2 : db t S1 = .ok y S2) (h3 : f x y S2 = .ok (.bl true) S3) (h4 : dc t S3 = .ok u S4) : dChain f g da db dc t S = g y u S4 := by
  unfold dChain
  rw [h1]
  show (db t S1).bind _ = _
  rw [h2]
  show (f x y S2).bind _ = _
  rw [h3]
  show (dc t S3).bind _ = _
  rw [h4]
  rfl
theorem chain_f {f g : D → D → Sto → Out D} {dc : DE} (h1 : da t S = .ok x S1) (h2 : db t S1 = .ok y S2) (h3 : f x y S2 = .ok (.bl false) S3) : dChain f g da db dc t S = .ok (.bl false) S3 := by
  unfold dChain
  rw [h1]
  show (db t S1).bind _ = _
  rw [h2]
  show (f x y S2).bind _ = _
  rw [h3]
  rfl
theorem raise0_is : dRaise0 c t S = .exc t c [] [] S := rfl
theorem try_nx {hs : List Hd} (h : a t S = .nx t1 S1) : dTry a hs t S = .nx t1 S1 := by unfold dTry; rw [h]
theorem try_exc {hs : List Hd} (h : a t S = .exc t1 c ns vs S1) : dTry a hs t S = dHds hs t1 c ns vs S1 := by unfold dTry; rw [h]
theorem append_p (h : S[p]? = some (some (.lst ys))) (hl : ys.length < sizeLine) : mAppend (.ptr p) [y] S = .ok .non (S.set p (some (.lst (ys ++ [y])))) := by
  unfold mAppend
  dsimp only
  rw [h]
  exact if_pos hl
theorem prop_p {h : DF} (h0 : dx t S = .ok (.ptr p) S1) (ho : S1[p]? = some (some (.obj c ns vs))) (hf : h [.ptr p] S1 = .ok z S2) : dPropV c h dx t S = .ok z S2 := by
  unfold dPropV
  rw [h0]
  show (match objOf (.ptr p) S1 with
    | some (d, _, _) => if d = c then (h [.ptr p] S1).calm else .bad
    | none => .bad) = _
  rw [obj_at ho]
  show (if c = c then (h [.ptr p] S1).calm else .bad) = _
  rw [if_pos rfl, hf]
  rfl
end
/-! ### == of a thing with itself -/
mutual
theorem eqv_self : ∀ d : PyData, d.canLay0 = true → PyData.eqv d d = true
  | .none, _ => rfl
  | .bool b, _ => by show (b == b) = true; simp
  | .int i, _ => by show (i == i) = true; simp
  | .str x, _ => by show (x == x) = true; simp
  | .list xs, h => eqvs_self xs h
  | .tuple xs, h => eqvs_self xs h
  | .dict _, h => by cases h
theorem eqvs_self : ∀ ds : List PyData, PyData.canLayAll0 ds = true → PyData.eqvAll ds ds = true
  | [], _ => rfl
  | d :: ds, h => by
    have h : (d.canLay0 && PyData.canLayAll0 ds) = true := h
    obtain ⟨a, b⟩ := Bool.and_eq_true_iff.mp h
    show (PyData.eqv d d && PyData.eqvAll ds ds) = true
    rw [eqv_self d a, eqvs_self ds b]; rfl
end
theorem eq_self {neg : Bool} {xs : List D} (h : SeqAt.shaped (.list (pds xs)) = true) (S : Sto) : fEqA neg (.lst xs) (.lst xs) S = .ok (.bl (!neg)) S := by
  show (if (SeqAt.shaped (.list (pds xs)) && SeqAt.shaped (.list (pds xs))) = true then Out.ok (D.bl (xor neg (PyData.eqv (.list (pds xs)) (.list (pds xs))))) S else .bad) = _
  rw [h, eqv_self _ (SeqAt.canLay_of_shaped h)]
  cases neg <;> rfl
end Dl
set_option Elab.async false
set_option linter.all false
set_option maxRecDepth 100000
set_option maxHeartbeats 1000000
/-! The data layer: dicts whose keys are tuples of any depth, over the layer of heaps. -/
namespace Dl
open PySem PySem.Spec PyProof.Rows L2

mutual
/-- v is the key -/
def NAt (K : PySem.W.Frag) (H : Hp) : NestedKey → V → Prop
  | .none, v => v = .non
  | .num i, v => v = .int i
  | .text x, v => v = .str x
  | .tup ks, v => ∃ a xs, v = .ref a ∧ SqT K H a xs ∧ NAts K H ks xs
def NAts (K : PySem.W.Frag) (H : Hp) : List NestedKey → List V → Prop
  | [], xs => xs = []
  | k :: ks, xs => ∃ v vs, xs = v :: vs ∧ NAt K H k v ∧ NAts K H ks vs
end
/-- the keys of a dict are there -/
def NKs (K : PySem.W.Frag) (H : Hp) (es : NE) : Prop := ∀ e ∈ es, NAt K H e.1 (.ref e.2.1) ∧ e.1.depth ≤ 8
section
variable {X : Cx} {pins : List (Addr × Obj)} {σ : L2.St} {H : Hp} {s : Shared}
mutual
theorem nested_is (I : Inv X pins σ H s) : ∀ (q : NestedKey) (v : V) (u : Value), NAt X.K H q v → RelV v u → NestedIs s.heap q u
  | .none, v, u, h, r => by
    cases (show v = .non from h)
    cases (show u = Value.none from r)
    exact .none
  | .num i, v, u, h, r => by
    cases (show v = .int i from h)
    obtain ⟨t, rfl⟩ := (show ∃ t, u = Value.int i t from r)
    exact .int i t
  | .text x, v, u, h, r => by
    cases (show v = .str x from h)
    obtain ⟨t, rfl⟩ := (show ∃ t, u = Value.str x t from r)
    exact .text x t
  | .tup ks, v, u, h, r => by
    obtain ⟨a, xs, ev, ht, hk⟩ := h
    subst ev
    cases (show u = Value.ref a from r)
    obtain ⟨its, rv, ⟨o, h1, h2, n, h3⟩, hz⟩ := I.tuple ht
    exact .tup h1 h2 h3 (by simpa using nested_all I ks xs its hk rv)
theorem nested_all (I : Inv X pins σ H s) : ∀ (qs : List NestedKey) (vs : List V) (us : List Value), NAts X.K H qs vs → Vals vs us → NestedAll s.heap qs us
  | [], vs, us, h, r => by
    cases (show vs = [] from h)
    cases r
    exact .nil
  | q :: qs, vs, us, h, r => by
    obtain ⟨v, ws, e, h1, h2⟩ := h
    subst e
    cases r with
    | cons r1 r2 => exact .cons (nested_is I q v _ h1 r1) (nested_all I qs ws _ h2 r2)
end
abbrev NPair (p : NestedKey × Addr × V) (q : NestedKey × Addr × Value) : Prop := p.1 = q.1 ∧ p.2.1 = q.2.1 ∧ RelV p.2.2 q.2.2
/-- a dict with tuple keys, in the heap -/
theorem nd_ok {a : Addr} {es : NE} {w : World} (ok : HOk X.prog X.w H s.heap) (e : Rd H a (nD w a es)) : es.length ≤ sizeLine ∧ (a == sysModules) = false ∧ (es.map (·.1)).Nodup ∧ ∃ (ys : List (NestedKey × Addr × Value)) (o : Obj) (xs : Array DictEntry) (ep : Nat),
    Paired NPair es ys ∧ s.heap.get? a = some o ∧ o.ExactDict ∧ o.data = .dict xs ep ∧ xs.toList = ys.map fun x => (⟨x.1.hash w, .ref x.2.1, x.2.2⟩ : DictEntry) :=
  (show ObjOk X.prog X.w H s.heap a (nD w a es) from e.ok ok).1
theorem paired_mem {α β : Type} {G : α → β → Prop} {l : List α} {m : List β} (h : Paired G l m) : ∀ y ∈ m, ∃ x ∈ l, G x y := by
  induction h with
  | nil => intro y hy; cases hy
  | cons r t ih =>
    intro y hy
    rcases List.mem_cons.mp hy with e | hy
    · subst e; exact ⟨_, List.mem_cons_self, r⟩
    · obtain ⟨x, h1, h2⟩ := ih y hy
      exact ⟨x, List.mem_cons_of_mem _ h1, h2⟩
theorem npair_keys {es : NE} {ys : List (NestedKey × Addr × Value)} (h : Paired NPair es ys) : ys.map (·.1) = es.map (·.1) := by
  induction h with
  | nil => rfl
  | cons r t ih => rw [List.map_cons, List.map_cons, ih, r.1]
theorem nd_heap {a : Addr} {es : NE} (I : Inv X pins σ H s) (e : Rd H a (nD X.w a es)) (hk : NKs X.K H es) : es.length ≤ sizeLine ∧ (a == sysModules) = false ∧ ∃ ys, Paired NPair es ys ∧ s.heap.DictOfH (nestedKind X.prog X.w) a ys := by
  obtain ⟨h1, h2, h3, ys, o, xs, ep, h4, h5, h6, h7, h8⟩ := nd_ok I.hok e
  refine ⟨h1, h2, ys, h4, o, xs, ep, h5, h6, h7, h8, fun y hy => ?_, by rw [npair_keys h4]; exact h3⟩
  obtain ⟨x, hx, g1, g2, g3⟩ := paired_mem h4 y hy
  obtain ⟨k1, k2⟩ := hk x hx
  rw [g1, g2] at k1
  rw [g1] at k2
  exact ⟨nested_is I _ _ _ k1 rfl, k2⟩
/-- what stands at a key -/
def valN (es : NE) (q : NestedKey) : Option V := match es with
  | [] => none
  | e :: r => if e.1 = q then some e.2.2 else valN r q
def putN (es : NE) (q : NestedKey) (b : Addr) (v : V) : NE := if (valN es q).isSome = true then es.map fun e => if e.1 = q then (e.1, e.2.1, v) else e else es ++ [(q, b, v)]
theorem valN_at {es : NE} {ys : List (NestedKey × Addr × Value)} (h : Paired NPair es ys) (q : NestedKey) : RelO (valN es q) ((atKey ys q).map (·.2)) := by
  induction h with
  | nil => exact True.intro
  | @cons x y l m r t ih =>
    unfold valN
    by_cases c : x.1 = q
    · rw [if_pos c]
      have c' : y.1 = q := r.1 ▸ c
      rw [show atKey (y :: m) q = some y.2 by simp [atKey, c']]
      exact r.2.2
    · rw [if_neg c]
      have c' : ¬ y.1 = q := r.1 ▸ c
      rw [show atKey (y :: m) q = atKey m q by simp [atKey, c']]
      exact ih
theorem relO_some {o : Option V} {p : Option Value} (h : RelO o p) : o.isSome = p.isSome := by
  cases o <;> cases p <;> first | rfl | exact h.elim
theorem valN_some {es : NE} {ys : List (NestedKey × Addr × Value)} (h : Paired NPair es ys) (q : NestedKey) : (valN es q).isSome = (atKey ys q).isSome := by
  rw [relO_some (valN_at h q), Option.isSome_map]
theorem putN_at {es : NE} {ys : List (NestedKey × Addr × Value)} (h : Paired NPair es ys) (q : NestedKey) (b : Addr) {v : V} {u : Value} (r : RelV v u) : Paired NPair (putN es q b v) (storedH ys q b u) := by
  unfold putN storedH
  rw [valN_some h]
  by_cases c : (atKey ys q).isSome = true
  · rw [if_pos c, if_pos c]
    clear c
    induction h with
    | nil => exact .nil
    | @cons x y l m r' t ih =>
      rw [List.map_cons, List.map_cons]
      refine .cons ?_ ih
      unfold PySem.putAt
      by_cases c : x.1 = q
      · have c' : y.1 = q := r'.1 ▸ c
        rw [if_pos c, if_pos c']
        exact ⟨r'.1, r'.2.1, r⟩
      · have c' : ¬ y.1 = q := r'.1 ▸ c
        rw [if_neg c, if_neg c']
        exact r'
  · rw [if_neg c, if_neg c]
    clear c
    induction h with
    | nil => exact .cons ⟨rfl, rfl, r⟩ .nil
    | cons r' t ih => exact .cons r' ih
theorem putN_len (es : NE) (q : NestedKey) (b : Addr) (v : V) : (putN es q b v).length ≤ es.length + 1 := by
  unfold putN
  split
  · rw [List.length_map]; omega
  · rw [List.length_append]; exact Nat.le_refl _
theorem nd_new {H' : Hp} {h' : Heap} {a : Addr} {es : NE} {ys : List (NestedKey × Addr × Value)} (z : es.length ≤ sizeLine) (hd : (a == sysModules) = false) (p : Paired NPair es ys) (dd : h'.DictOfH (nestedKind X.prog X.w) a ys) : ObjOk X.prog X.w H' h' a (nD X.w a es) := by
  obtain ⟨o, xs, ep, h5, h6, h7, h8, _, h9⟩ := dd
  refine ⟨⟨z, hd, by rw [← npair_keys p]; exact h9, ys, o, xs, ep, p, h5, h6, h7, h8⟩, ⟨o, h5⟩, fun g1 g2 hg k => ?_⟩
  obtain ⟨z, hd, n, ys, o, xs, ep, p, h5, h6⟩ := hg
  exact ⟨z, hd, n, ys, o, xs, ep, p, k _ h5, h6⟩

variable {A : Around} {E : Value → Shared → Prop} {a b : Addr} {es : NE} {q : NestedKey} {u r : Value} {v : V}
abbrev KeyAt (X : Cx) (H : Hp) (q : NestedKey) (b : Addr) : Prop := NAt X.K H q (.ref b) ∧ q.depth ≤ 8
theorem n_getItem {Q : Value → Shared → Prop} (hu : A.units + 9 < cLine) (I : Inv X pins σ H s) (e : Rd H a (nD X.w a es)) (hk : NKs X.K H es) (k : KeyAt X H q b) (l : valN es q = some v) (h : ∀ w' s', Inv X pins σ H s' → RelV v w' → Q w' s') :
    wpAny (model X.prog X.w) A (getItem (.ref a) (.ref b)) Q E s := by
  obtain ⟨_, hd, ys, p, dd⟩ := nd_heap I e hk
  obtain ⟨w', hw, rw'⟩ := RelO.some_of (v := v) (o := (atKey ys q).map (·.2)) (by rw [← l]; exact valN_at p q)
  obtain ⟨z, hz, hz2⟩ := Option.map_eq_some_iff.mp hw
  refine wpAny_getItem_heap (knd := nestedKind X.prog X.w) hu ⟨nested_is I _ _ _ k.1 rfl, k.2⟩ dd hz ?_
  rw [hz2]
  exact h w' _ (I.tok _) rw'
theorem n_in {Q : Value → Shared → Prop} (hu : A.units + 9 < cLine) (I : Inv X pins σ H s) (e : Rd H a (nD X.w a es)) (hk : NKs X.K H es) (k : KeyAt X H q b) (h : ∀ s', Inv X pins σ H s' → Q (.bool (valN es q).isSome) s') :
    wpAny (model X.prog X.w) A (compareOp .In (.ref b) (.ref a)) Q E s := by
  obtain ⟨_, hd, ys, p, dd⟩ := nd_heap I e hk
  refine wpAny_in_heap (knd := nestedKind X.prog X.w) hu ⟨nested_is I _ _ _ k.1 rfl, k.2⟩ hd dd ?_
  rw [← valN_some p]
  exact h _ (I.tok _)
theorem n_notIn {Q : Value → Shared → Prop} (hu : A.units + 9 < cLine) (I : Inv X pins σ H s) (e : Rd H a (nD X.w a es)) (hk : NKs X.K H es) (k : KeyAt X H q b) (h : ∀ s', Inv X pins σ H s' → Q (.bool (!(valN es q).isSome)) s') :
    wpAny (model X.prog X.w) A (compareOp .NotIn (.ref b) (.ref a)) Q E s := by
  obtain ⟨_, hd, ys, p, dd⟩ := nd_heap I e hk
  show wpAny _ _ (do return .bool (!(← contains (.ref a) (.ref b)))) Q E s
  refine wpAny_bind (wpAny_contains_heap (knd := nestedKind X.prog X.w) hu ⟨nested_is I _ _ _ k.1 rfl, k.2⟩ hd dd (wpAny_pure ?_))
  rw [← valN_some p]
  exact h _ (I.tok _)
theorem n_setItem {Q : Unit → Shared → Prop} (hu : A.units + 9 < cLine) (I : Inv X pins σ H s) (e : H a = some (nD X.w a es)) (hk : NKs X.K H es) (k : KeyAt X H q b) (hl : es.length < sizeLine) (rv : RelV v r)
    (h : ∀ s', Inv X pins σ (upd H a (nD X.w a (putN es q b v))) s' → Q () s') : wpAny (model X.prog X.w) A (setItem (.ref a) (.ref b) r) Q E s := by
  obtain ⟨z, hd, ys, p, dd⟩ := nd_heap I (.inl e) hk
  have hz : ys.length ≤ sizeLine := by rw [← Paired.length p]; exact z
  refine wpAny_setItem_heap (knd := nestedKind X.prog X.w) (hsz := hz) hu ⟨nested_is I _ _ _ k.1 rfl, k.2⟩ dd fun h' dd' hs => h _ ?_
  have hl' := putN_len es q b v
  obtain ⟨o, _, _, ho, _⟩ := id dd'
  exact d_write I (by rw [e]; exact True.intro) hs ⟨o, ho⟩ (nd_new (by omega) hd (putN_at p q b rv) dd')
theorem n_get2 {d : V} {Q : Value → Shared → Prop} (hu : A.units + 9 < cLine) (I : Inv X pins σ H s) (e : Rd H a (nD X.w a es)) (hk : NKs X.K H es) (k : KeyAt X H q b) (rd : RelV d r) (h : ∀ w' s', Inv X pins σ H s' → RelV ((valN es q).getD d) w' → Q w' s') :
    wpAny (model X.prog X.w) A (call (.builtin "dict.get") [.ref a, .ref b, r]) Q E s := by
  obtain ⟨_, hd, ys, p, dd⟩ := nd_heap I e hk
  exact call_meetsIn PySem.F.slot_dict_get dd.typeIs PySem.F.entry_dict_get (PySem.F.args_dict_get_3 _ _ _) (meetsH_dict_get_default (nestedKind X.prog X.w) a b hd r) ⟨hu, q, ys, ⟨nested_is I _ _ _ k.1 rfl, k.2⟩, dd, h _ _ (I.tok _) ((valN_at p q).getD rd)⟩
theorem n_setdefault {d : V} {Q : Value → Shared → Prop} (hu : A.units + 9 < cLine) (I : Inv X pins σ H s) (e : H a = some (nD X.w a es)) (hk : NKs X.K H es) (k : KeyAt X H q b) (hl : es.length < sizeLine) (rd : RelV d r)
    (h : ∀ w' s', Inv X pins σ (if (valN es q).isSome = true then H else upd H a (nD X.w a (putN es q b d))) s' → RelV ((valN es q).getD d) w' → Q w' s') :
    wpAny (model X.prog X.w) A (call (.builtin "dict.setdefault") [.ref a, .ref b, r]) Q E s := by
  obtain ⟨z, hd, ys, p, dd⟩ := nd_heap I (.inl e) hk
  have hz : ys.length ≤ sizeLine := by rw [← Paired.length p]; exact z
  have rel := valN_at p q
  refine call_setdefault_heap (knd := nestedKind X.prog X.w) (hsz := hz) hu ⟨nested_is I _ _ _ k.1 rfl, k.2⟩ hd dd (fun g hg => ?_) fun hn h' dd' hs => ?_
  · rw [hg] at rel
    cases hv : valN es q with
    | none => rw [hv] at rel; exact rel.elim
    | some y =>
      rw [hv] at rel
      refine h _ _ ?_ (by rw [hv]; exact rel)
      rw [hv]
      exact I.tok _
  · rw [hn] at rel
    cases hv : valN es q with
    | some y => rw [hv] at rel; exact rel.elim
    | none =>
      refine h _ _ ?_ (by rw [hv]; exact rd)
      rw [hv]
      have hl' := putN_len es q b d
      obtain ⟨o, _, _, ho, _⟩ := id dd'
      exact d_write I (by rw [e]; exact True.intro) hs ⟨o, ho⟩ (nd_new (by omega) hd (putN_at p q b rd) dd')
theorem n_len {Q : Value → Shared → Prop} (I : Inv X pins σ H s) (e : Rd H a (nD X.w a es)) (hk : NKs X.K H es) (h : ∀ t s', Inv X pins σ H s' → Q (.int es.length t) s') : wpAny (model X.prog X.w) A (call (.builtin "len") [.ref a]) Q E s := by
  obtain ⟨z, hd, ys, p, dd⟩ := nd_heap I e hk
  have hl : es.length = ys.length := Paired.length p
  refine call_len_dictH hd dd (by rw [sizeLine_eq] at z; omega) ?_
  rw [← hl]
  exact h _ _ (I.tok _)
end
end Dl
set_option Elab.async false
set_option linter.all false
set_option maxRecDepth 100000
set_option maxHeartbeats 1000000
/-! The data layer: dicts whose keys are tuples: read, written. -/
namespace Dl
open PySem PySem.Spec PyProof.Rows L2

def nGet : List D → List D → NestedKey → Option D
  | k :: ks, v :: vs, q => if nkD k = some q then some v else nGet ks vs q
  | _, _, _ => none
def nSub : List D → List D → NestedKey → D → List D
  | k :: ks, v :: vs, q, d => (if nkD k = some q then d else v) :: nSub ks vs q d
  | _, _, _, _ => []
def nPut (ks vs : List D) (q : NestedKey) (kd d : D) : List D × List D := if (nGet ks vs q).isSome = true then (ks, nSub ks vs q d) else (ks ++ [kd], vs ++ [d])
/-- the entries bear the keys and the values -/
structure NR (K : PySem.W.Frag) (cl : Cl) (F : Hp) (m : List Addr) (ks vs : List D) (es : NE) : Prop where
  n : ks.map nkD = es.map (fun e => some e.1)
  k : Reps K cl F m ks (es.map fun e => .ref e.2.1)
  v : Reps K cl F m vs (es.map (·.2.2))
section
variable {K : PySem.W.Frag} {cl : Cl} {w : Wd}
mutual
theorem n_rep (ok : w.Ok K cl) : ∀ (d : D) (v : V) (q : NestedKey), Rep K cl w.F w.m d v → nk d = some q → NAt K w.H q v
  | .non, v, q, r, e => by cases e; exact r
  | .int i, v, q, r, e => by cases e; exact r
  | .str x, v, q, r, e => by cases e; exact r
  | .tup ds, v, q, ⟨a, xs, ev, t, r⟩, e => by
    have e : (nks ds).map NestedKey.tup = some q := e
    cases h : nks ds with
    | none => rw [h] at e; cases e
    | some qs =>
      rw [h] at e; cases e
      exact ⟨a, xs, ev, t.here ok, n_reps ok ds xs qs r h⟩
  | .bl _, _, _, _, e => by cases e
  | .lst _, _, _, _, e => by cases e
  | .rol _, _, _, _, e => by cases e
  | .dic _ _, _, _, _, e => by cases e
  | .dit _ _, _, _, _, e => by cases e
  | .obj _ _ _, _, _, _, e => by cases e
  | .ptr _, _, _, _, e => by cases e
theorem n_reps (ok : w.Ok K cl) : ∀ (ds : List D) (vs : List V) (qs : List NestedKey), Reps K cl w.F w.m ds vs → nks ds = some qs → NAts K w.H qs vs
  | [], vs, qs, r, e => by cases e; exact r
  | d :: ds, vs, qs, ⟨v, us, ev, r1, r2⟩, e => by
    unfold nks at e
    cases h : nk d with
    | none => rw [h] at e; cases e
    | some k =>
      cases h2 : nks ds with
      | none => rw [h, h2] at e; cases e
      | some ks =>
        rw [h, h2] at e; cases e
        exact ⟨v, us, ev, n_rep ok d v k r1 h, n_reps ok ds us ks r2 h2⟩
end
theorem nkD_at (ok : w.Ok K cl) {d : D} {v : V} {q : NestedKey} (r : Rep K cl w.F w.m d v) (e : nkD d = some q) : ∃ b, v = .ref b ∧ NAt K w.H q (.ref b) ∧ q.depth ≤ 8 := by
  unfold nkD at e
  split at e
  · rename_i ds
    split at e
    · rename_i qs hq
      split at e
      · rename_i hd
        cases e
        have z := n_rep ok _ _ (.tup qs) r (show nk (.tup ds) = some (.tup qs) from by show (nks ds).map NestedKey.tup = _; rw [hq]; rfl)
        obtain ⟨a, xs, ev, _⟩ := r
        subst ev
        exact ⟨a, rfl, z, by simp only [NestedKey.depth]; omega⟩
      · cases e
    · cases e
  · cases e
theorem NR.keys (ok : w.Ok K cl) : ∀ {ks vs : List D} {es : NE}, NR K cl w.F w.m ks vs es → NKs K w.H es
  | ks, vs, [], _ => fun e h => by cases h
  | ks, vs, e :: es, ⟨n, k, v⟩ => by
    cases ks with
    | nil => simp at n
    | cons d ks =>
      rw [List.map_cons, List.map_cons] at n
      obtain ⟨n1, n2⟩ := List.cons.inj n
      obtain ⟨v1, w1, e1, k1, k2⟩ := k
      rw [List.map_cons] at e1
      obtain ⟨e1, e2⟩ := List.cons.inj e1
      subst e1 e2
      cases vs with
      | nil => exact absurd (show _ = [] from v) (by simp)
      | cons d2 vs =>
        obtain ⟨v2, w2, e3, v3, v4⟩ := v
        rw [List.map_cons] at e3
        obtain ⟨e3, e4⟩ := List.cons.inj e3
        subst e3 e4
        intro x hx
        rcases List.mem_cons.mp hx with z | hx
        · subst z
          obtain ⟨b, eb, h1, h2⟩ := nkD_at ok k1 n1
          cases eb
          exact ⟨h1, h2⟩
        · exact NR.keys ok ⟨n2, k2, v4⟩ x hx
variable {F : Hp} {m : List Addr} {q : NestedKey}
theorem NR.get : ∀ {ks vs : List D} {es : NE}, NR K cl F m ks vs es → match nGet ks vs q with
    | some d => ∃ v, valN es q = some v ∧ Rep K cl F m d v
    | none => valN es q = none
  | ks, vs, [], ⟨n, k, v⟩ => by
    cases ks with
    | nil => exact rfl
    | cons d ks => simp at n
  | ks, vs, e :: es, ⟨n, k, v⟩ => by
    cases ks with
    | nil => simp at n
    | cons d ks =>
      rw [List.map_cons, List.map_cons] at n
      obtain ⟨n1, n2⟩ := List.cons.inj n
      obtain ⟨v1, w1, e1, k1, k2⟩ := k
      rw [List.map_cons] at e1
      obtain ⟨e1, e2⟩ := List.cons.inj e1
      subst e1 e2
      cases vs with
      | nil => exact absurd (show _ = [] from v) (by simp)
      | cons d2 vs =>
        obtain ⟨v2, w2, e3, v3, v4⟩ := v
        rw [List.map_cons] at e3
        obtain ⟨e3, e4⟩ := List.cons.inj e3
        subst e3 e4
        unfold nGet valN
        by_cases c : e.1 = q
        · rw [if_pos (by rw [n1, c]), if_pos c]
          exact ⟨_, rfl, v3⟩
        · rw [if_neg (fun z => c (Option.some.inj (n1.symm.trans z))), if_neg c]
          exact NR.get ⟨n2, k2, v4⟩
theorem NR.isSome {ks vs : List D} {es : NE} (h : NR K cl F m ks vs es) : (nGet ks vs q).isSome = (valN es q).isSome := by
  have z := h.get (q := q)
  cases g : nGet ks vs q with
  | some d =>
    rw [g] at z
    obtain ⟨v, z1, _⟩ := z
    rw [z1]; rfl
  | none =>
    rw [g] at z
    rw [show valN es q = none from z]; rfl
theorem NR.sub {d : D} {v : V} (r : Rep K cl F m d v) : ∀ {ks vs : List D} {es : NE}, NR K cl F m ks vs es → Reps K cl F m (nSub ks vs q d) ((es.map fun e => if e.1 = q then (e.1, e.2.1, v) else e).map (·.2.2))
  | ks, vs, [], ⟨n, k, v⟩ => by
    cases ks with
    | nil => exact rfl
    | cons d ks => simp at n
  | ks, vs, e :: es, ⟨n, k, vv⟩ => by
    cases ks with
    | nil => simp at n
    | cons d ks =>
      rw [List.map_cons, List.map_cons] at n
      obtain ⟨n1, n2⟩ := List.cons.inj n
      obtain ⟨v1, w1, e1, k1, k2⟩ := k
      rw [List.map_cons] at e1
      obtain ⟨e1, e2⟩ := List.cons.inj e1
      subst e1 e2
      cases vs with
      | nil => exact absurd (show _ = [] from vv) (by simp)
      | cons d2 vs =>
        obtain ⟨v2, w2, e3, v3, v4⟩ := vv
        rw [List.map_cons] at e3
        obtain ⟨e3, e4⟩ := List.cons.inj e3
        subst e3 e4
        have ih := NR.sub r ⟨n2, k2, v4⟩
        unfold nSub
        rw [List.map_cons, List.map_cons]
        by_cases c : e.1 = q
        · rw [if_pos (by rw [n1, c]), if_pos c]
          exact ⟨_, _, rfl, r, ih⟩
        · rw [if_neg (fun z => c (Option.some.inj (n1.symm.trans z))), if_neg c]
          exact ⟨_, _, rfl, v3, ih⟩
theorem NR.put {kd d : D} {b : Addr} {v : V} {ks vs : List D} {es : NE} (h : NR K cl F m ks vs es) (hn : nkD kd = some q) (hk : Rep K cl F m kd (.ref b)) (r : Rep K cl F m d v) : NR K cl F m (nPut ks vs q kd d).1 (nPut ks vs q kd d).2 (putN es q b v) := by
  unfold nPut putN
  rw [h.isSome]
  by_cases c : (valN es q).isSome = true
  · rw [if_pos c, if_pos c]
    refine ⟨?_, ?_, h.sub r⟩
    · rw [List.map_map]
      refine h.n.trans (List.map_congr_left fun e _ => ?_)
      show some e.1 = some (if e.1 = q then (e.1, e.2.1, v) else e).1
      split <;> rfl
    · rw [List.map_map]
      have z : (es.map fun e => V.ref e.2.1) = es.map ((fun e => V.ref e.2.1) ∘ fun e => if e.1 = q then (e.1, e.2.1, v) else e) := List.map_congr_left fun e _ => by
        show V.ref e.2.1 = V.ref (if e.1 = q then (e.1, e.2.1, v) else e).2.1
        split <;> rfl
      rw [← z]
      exact h.k
  · rw [if_neg c, if_neg c]
    refine ⟨?_, ?_, ?_⟩
    · rw [List.map_append, List.map_append, h.n]
      show _ ++ [nkD kd] = _
      rw [hn]; rfl
    · rw [List.map_append]; exact h.k.append (Reps.one hk)
    · rw [List.map_append]; exact h.v.append (Reps.one r)
theorem NR.mono {F' : Hp} {m' : List Addr} {ks vs : List D} {es : NE} (h : NR K cl F m ks vs es) (hf : ∀ a o, F a = some o → F' a = some o) (hm : ∀ (i : Nat) (a : Addr), m[i]? = some a → m'[i]? = some a) : NR K cl F' m' ks vs es := ⟨h.n, Reps.mono hf hm _ _ h.k, Reps.mono hf hm _ _ h.v⟩
theorem NR.length {ks vs : List D} {es : NE} (h : NR K cl F m ks vs es) : ks.length = es.length := by
  have := congrArg List.length h.n
  rwa [List.length_map, List.length_map] at this
theorem deref_dit {d : D} {v : V} {ks vs : List D} (ok : w.Ok K cl) (r : RV K cl w d v) (e : deref d w.S = .dit ks vs) : ∃ a, ∃ es : NE, v = .ref a ∧ Rd w.H a (nD cl.w a es) ∧ NR K cl w.F w.m ks vs es := by
  unfold deref at e
  split at e
  · rename_i i
    split at e
    · rename_i c hc
      subst e
      obtain ⟨a, ea, ev⟩ := r
      obtain ⟨_, es, q, n, r1, r2⟩ := ok.cell i a _ ea hc
      exact ⟨a, es, ev, .inl q, n, r1, r2⟩
    · cases e
  · subst e
    obtain ⟨a, od, es, ev, q, n, r1, r2⟩ := r
    exact ⟨a, es, ev, .inr ⟨od, ok.sub _ _ q⟩, n, r1, r2⟩
end

/-! ### the operations on values -/
section
variable {X : Cx}
def rIxN (X : Cx) : R2 := fun x y H Q => ∃ a b es q v, x = .ref a ∧ y = .ref b ∧ Rd H a (nD X.w a es) ∧ NKs X.K H es ∧ KeyAt X H q b ∧ valN es q = some v ∧ Q v H
theorem ix_n (hu : X.A.units + 9 < cLine) : IxR X (rIxN X) := by
  intro value slice pins s σ H x y v u Q I rx ry h hs
  obtain ⟨a, b, es, q, r, rfl, rfl, e, hk, k, l, hq⟩ := h
  obtain rfl : v = Value.ref a := rx
  obtain rfl : u = Value.ref b := ry
  obtain ⟨_, _, ys, p, dd⟩ := nd_heap I e hk
  exact PyProof.Rows.tail_any dd.typeIs slot_dict_getitem.lookup (n_getItem hu I e hk k l fun w' s' I' rw' => ⟨r, H, I', rw', hq⟩) hs
def rInN (X : Cx) (neg : Bool) : R2 := fun x y H Q => ∃ a b es q, y = .ref a ∧ x = .ref b ∧ Rd H a (nD X.w a es) ∧ NKs X.K H es ∧ KeyAt X H q b ∧ Q (.bl (xor neg (valN es q).isSome)) H
theorem op_inN (hu : X.A.units + 9 < cLine) : OpR X (compareOp .In) (rInN X false) := by
  intro pins s σ H x y v u Q I rx ry h
  obtain ⟨a, b, es, q, rfl, rfl, e, hk, k, hq⟩ := h
  obtain rfl : u = Value.ref a := ry
  obtain rfl : v = Value.ref b := rx
  exact n_in hu I e hk k fun s3 I3 => ⟨.bl (valN es q).isSome, H, I3, rfl, by simpa using hq⟩
theorem op_notInN (hu : X.A.units + 9 < cLine) : OpR X (compareOp .NotIn) (rInN X true) := by
  intro pins s σ H x y v u Q I rx ry h
  obtain ⟨a, b, es, q, rfl, rfl, e, hk, k, hq⟩ := h
  obtain rfl : u = Value.ref a := ry
  obtain rfl : v = Value.ref b := rx
  exact n_notIn hu I e hk k fun s3 I3 => ⟨.bl (!(valN es q).isSome), H, I3, rfl, by simpa using hq⟩
def rSetN (X : Cx) : TSet := fun o i v H Q => ∃ a b es q, o = .ref a ∧ i = .ref b ∧ H a = some (nD X.w a es) ∧ NKs X.K H es ∧ KeyAt X H q b ∧ es.length < sizeLine ∧ Q (upd H a (nD X.w a (putN es q b v)))
theorem set_n (hu : X.A.units + 9 < cLine) : PSet X (rSetN X) := by
  intro pins s σ H o i v ov iv u Q I ro ri rv h
  obtain ⟨a, b, es, q, rfl, rfl, e, hk, k, hl, hq⟩ := h
  cases (show ov = Value.ref a from ro)
  cases (show iv = Value.ref b from ri)
  exact n_setItem hu I e hk k hl rv fun s' I' => ⟨_, I', hq⟩
def rLenN (X : Cx) : List V → Hp → VK → Prop := fun xs H Q => ∃ a es, xs = [.ref a] ∧ Rd H a (nD X.w a es) ∧ NKs X.K H es ∧ Q (.int (es.length : Nat)) H
theorem call_lenN : CallR X (.builtin "len") (rLenN X) := by
  intro pins s σ H xs us Q I r h
  obtain ⟨a, es, rfl, e, hk, q⟩ := h
  obtain ⟨u, rfl, ru⟩ := vals1 r
  cases ru
  exact n_len I e hk fun t s' I' => ⟨.int es.length, H, I', ⟨t, rfl⟩, q⟩
def rGetN (X : Cx) : V → List V → Hp → VK → Prop := fun x xs H Q => ∃ a b es q d, x = .ref a ∧ xs = [.ref b, d] ∧ Rd H a (nD X.w a es) ∧ NKs X.K H es ∧ KeyAt X H q b ∧ Q ((valN es q).getD d) H
theorem mt_getN (hu : X.A.units + 9 < cLine) : MtR X "dict.get" (rGetN X) := by
  intro pins s σ H x vs v us Q I rx rv h
  obtain ⟨a, b, es, q, d, rfl, rfl, e, hk, k, hq⟩ := h
  cases rx
  obtain ⟨u, z, rfl, r1, r2⟩ := vals2 rv
  cases r1
  exact n_get2 hu I e hk k r2 fun w' s' I' rw' => ⟨_, H, I', rw', hq⟩
def rDefN (X : Cx) : V → List V → Hp → VK → Prop := fun x xs H Q => ∃ a b es q d, x = .ref a ∧ xs = [.ref b, d] ∧ H a = some (nD X.w a es) ∧ NKs X.K H es ∧ KeyAt X H q b ∧ es.length < sizeLine ∧ Q ((valN es q).getD d) (if (valN es q).isSome = true then H else upd H a (nD X.w a (putN es q b d)))
theorem mt_defN (hu : X.A.units + 9 < cLine) : MtR X "dict.setdefault" (rDefN X) := by
  intro pins s σ H x vs v us Q I rx rv h
  obtain ⟨a, b, es, q, d, rfl, rfl, e, hk, k, hl, hq⟩ := h
  cases rx
  obtain ⟨u, z, rfl, r1, r2⟩ := vals2 rv
  cases r1
  exact n_setdefault hu I e hk k hl r2 fun w' s' I' rw' => ⟨_, _, I', rw', hq⟩
/-- a method of such a dict -/
def tBMN (X : Cx) (r : V → List V → Hp → VK → Prop) (to : TE) (t : TA) : TE := fun σ H Q => to σ H fun x H1 => (∃ a es, x = .ref a ∧ Rd H1 a (nD X.w a es)) ∧ t σ H1 fun xs H2 => r x xs H2 Q
variable {o e : Expr} {es : List Expr} {to : TE} {t : TA} {name : Str} {apos cpos : Pos} {id : String} {r : V → List V → Hp → VK → Prop}
theorem pe_bmN (slot : Slot "dict" name id) (hty : typeOf (.builtin id) = pure (.type "method_descriptor")) (hm : MtR X id r) (ho : PE X o to) (ha : PA X (e :: es) t)
    (hbase : attributeBase o name X.env (eval o X.env) = eval o X.env := by rfl)
    (hfew : ((backTo cpos (starEach (e :: es) X.env)).all (fun x => !x.1) && (backToKw cpos (keywordEach [] X.env)).all (fun x => x.1.isSome)
      && decide ((e :: es).length + ([] : List Keyword).length + (if ([] : List Keyword).isEmpty then 0 else 1) < 30)) = true := by rfl)
    (hline : (apos.endLine == cpos.line) = true := by rfl) (hs : starEach (e :: es) X.env = (false, eval e X.env) :: starEach es X.env := by rfl) (hplain : (backTo cpos (starEach es X.env)).any (·.1) = false := by rfl) :
    PE X (.Call (.Attribute o name apos) (e :: es) [] cpos) (tBMN X r to t) := by
  refine ⟨fun pins s σ H Q I h => ?_⟩
  refine wpAny_Call_method_late hbase hfew hline rfl (thn (ho.run pins s σ H _ I h) fun v s1 ⟨x, H1, I1, r1, ⟨a, es', ex, hd⟩, q1⟩ => ?_)
  subst ex
  cases (show v = Value.ref a from r1)
  obtain ⟨z, hS, n, ys, ob, xs, ep, p, h5, h6, h7, h8⟩ := nd_ok I1.hok hd
  refine ⟨"dict", id, PySem.F.plainAttrs_dict, slot, hty, ⟨ob, h5, h6.1⟩, fun b eb => ?_, ?_⟩
  · cases eb
    exact ⟨ob, h5, h6.2.1⟩
  have hA := ha.run cpos pins s1 σ H1 _ I1 q1
  rw [hs] at hA ⊢
  refine Calls.callWith_builtin (by show (false || (backTo cpos (starEach es X.env)).any (·.1)) = false; rw [hplain] <;> rfl) (Calls.evalArgs_plain ?_)
  exact thn hA fun us s2 ⟨vs, H2, I2, r2, q2⟩ => hm pins s2 σ H2 (V.ref a) vs _ us Q I2 rfl r2 q2
end
end Dl
set_option Elab.async false
set_option linter.all false
set_option maxRecDepth 100000
set_option maxHeartbeats 1000000
/-! The data layer: dicts whose keys are tuples: what expressions come to. -/
namespace Dl
open PySem PySem.Spec PyProof.Rows L2
def fIxN : D → D → Sto → Out D := fun x y S => match deref x S, nkD y with
  | .dit ks vs, some q => (match nGet ks vs q with | some d => .ok d S | none => .bad)
  | _, _ => .bad
def fInN (neg : Bool) : D → D → Sto → Out D := fun x y S => match deref y S, nkD x with
  | .dit ks vs, some q => .ok (.bl (xor neg (nGet ks vs q).isSome)) S
  | _, _ => .bad
def bLenN : List D → Sto → Out D := fun xs S => match xs with
  | [x] => (match deref x S with
    | .dit ks _ => .ok (.int ks.length) S
    | _ => .bad)
  | _ => .bad
def putAtN (x i y : D) (S : Sto) : Option Sto := match x with
  | .ptr k => (match S[k]?, nkD i with
    | some (some (.dit ks vs)), some q => if ks.length < 1000000 then some (S.set k (some (.dit (nPut ks vs q i y).1 (nPut ks vs q i y).2))) else none
    | _, _ => none)
  | _ => none
def dSetN (dx di dv : DE) : DS := fun t S => ofE (dv t S) t fun y S1 => ofE (dx t S1) t fun x S2 => ofE (di t S2) t fun i S3 => match putAtN x i y S3 with
  | some S4 => .nx t S4
  | none => .bad
def mGetN : D → List D → Sto → Out D := fun x xs S => match xs with
  | [k, d] => (match deref x S, nkD k with
    | .dit ks vs, some q => .ok ((nGet ks vs q).getD d) S
    | _, _ => .bad)
  | _ => .bad
def mDefN : D → List D → Sto → Out D := fun x xs S => match x, xs with
  | .ptr i, [k, d] => (match S[i]?, nkD k with
    | some (some (.dit ks vs)), some q => if ks.length < 1000000 then (match nGet ks vs q with
      | some z => .ok z S
      | none => .ok d (S.set i (some (.dit (nPut ks vs q k d).1 (nPut ks vs q k d).2)))) else .bad
    | _, _ => .bad)
  | _, _ => .bad
def isDit (x : D) (S : Sto) : Bool := match deref x S with
  | .dit _ _ => true
  | _ => false
def dBMN (f : D → List D → Sto → Out D) (dx : DE) (da : DA) : DE := fun t S => (dx t S).bind fun x S1 => if isDit x S1 = true then (da t S1).bind fun xs S2 => f x xs S2 else .bad
def dDitC : DE := fun _ S => .ok (.ptr S.length) (S ++ [some (.dit [] [])])
section
variable {X : Cx} {cl : Cl} {W : WX}
theorem d_ixN (hw : cl.w = X.w) : OpD X.K cl (rIxN X) fIxN := by
  intro w x y vx vy W Q ok rx ry p
  unfold fIxN at p
  split at p
  · rename_i ks vs q hx hy
    split at p
    · rename_i d hd
      obtain ⟨a, es, ev, h1, h2⟩ := deref_dit ok rx hx
      obtain ⟨b, eb, k1, k2⟩ := nkD_at ok ry hy
      have z := h2.get (q := q)
      rw [hd] at z
      obtain ⟨v, z1, z2⟩ := z
      exact ⟨a, b, es, q, v, ev, eb, hw ▸ h1, h2.keys ok, ⟨k1, k2⟩, z1, p w v (Af.refl ok) rfl z2⟩
    · exact p.elim
  · exact p.elim
theorem d_inN (hw : cl.w = X.w) {neg : Bool} : OpD X.K cl (rInN X neg) (fInN neg) := by
  intro w x y vx vy W Q ok rx ry p
  unfold fInN at p
  split at p
  · rename_i ks vs q hx hy
    obtain ⟨a, es, ev, h1, h2⟩ := deref_dit ok ry hx
    obtain ⟨b, eb, k1, k2⟩ := nkD_at ok rx hy
    refine ⟨a, b, es, q, ev, eb, hw ▸ h1, h2.keys ok, ⟨k1, k2⟩, p w _ (Af.refl ok) rfl ?_⟩
    show V.bl _ = V.bl _
    rw [h2.isSome]
  · exact p.elim
theorem c_lenN (hw : cl.w = X.w) : CallD X.K cl (rLenN X) bLenN := by
  intro w xs vs W Q ok r p
  unfold bLenN at p
  split at p
  · rename_i x
    obtain ⟨v, rfl, r1⟩ := RL.one r
    split at p
    · rename_i ks us h
      obtain ⟨a, es, ev, h1, h2⟩ := deref_dit ok r1 h
      subst ev
      refine ⟨a, es, rfl, hw ▸ h1, h2.keys ok, p w _ (Af.refl ok) rfl ?_⟩
      rw [← h2.length]
      rfl
    · exact p.elim
  · exact p.elim
theorem dit_cell {w : Wd} {i : Nat} {v : V} {ks vs : List D} (ok : w.Ok X.K cl) (r : RV X.K cl w (.ptr i) v) (h : w.S[i]? = some (some (.dit ks vs))) : ∃ a es, v = .ref a ∧ w.m[i]? = some a ∧ w.H a = some (nD cl.w a es) ∧ NR X.K cl w.F w.m ks vs es := by
  obtain ⟨a, ea, ev⟩ := r
  obtain ⟨_, es, q, n, r1, r2⟩ := ok.cell i a _ ea h
  exact ⟨a, es, ev, ea, q, n, r1, r2⟩
theorem dit_put {w : Wd} {i : Nat} {a : Addr} {ks vs : List D} {es : NE} (ok : w.Ok X.K cl) (ea : w.m[i]? = some a) (h : w.S[i]? = some (some (.dit ks vs))) (nr : NR X.K cl w.F w.m ks vs es) {k y : D} {vk vy : V} {q : NestedKey} (rk : RV X.K cl w k vk) (hq : nkD k = some q) (ry : RV X.K cl w y vy) {b : Addr} (eb : vk = .ref b) :
    Af X.K cl w ⟨upd w.H a (nD cl.w a (putN es q b vy)), w.F, w.m, w.S.set i (some (.dit (nPut ks vs q k y).1 (nPut ks vs q k y).2))⟩ := by
  subst eb
  have z := nr.put (d := y) (v := vy) hq rk ry
  exact ok.cellSet (u := nD cl.w a (putN es q b vy)) (d := .dit (nPut ks vs q k y).1 (nPut ks vs q k y).2) ea h ⟨_, upd_same, z.n, z.k, z.v⟩
theorem putAtN_ok (hw : cl.w = X.w) {w : Wd} {x i y : D} {vx vi vy : V} {S4 : Sto} {Q : Hp → Prop} (ok : w.Ok X.K cl) (rx : RV X.K cl w x vx) (ri : RV X.K cl w i vi) (ry : RV X.K cl w y vy) (e : putAtN x i y w.S = some S4) (q : ∀ w4, Af X.K cl w w4 → w4.S = S4 → Q w4.H) : rSetN X vx vi vy w.H Q := by
  unfold putAtN at e
  split at e
  · rename_i k
    split at e
    · rename_i ks vs kk hk hq
      split at e
      · rename_i hl
        cases e
        obtain ⟨a, es, ev, ea, hH, nr⟩ := dit_cell ok rx hk
        obtain ⟨b, eb, k1, k2⟩ := nkD_at ok ri hq
        have z := dit_put ok ea hk nr ri hq ry eb
        refine ⟨a, b, es, kk, ev, eb, hw ▸ hH, nr.keys ok, ⟨k1, k2⟩, ?_, ?_⟩
        · rw [← nr.length]
          exact Nat.lt_of_lt_of_le hl (by rw [sizeLine_eq]; decide)
        · have z2 := q _ z rfl
          rw [← hw]
          exact z2
      · cases e
    · cases e
  · cases e
theorem m_getN (hw : cl.w = X.w) : MtD X.K cl (rGetN X) mGetN := by
  intro w x xs v vs W Q ok rx rs p
  unfold mGetN at p
  split at p
  · rename_i k d
    split at p
    · rename_i ks us q hx hq
      obtain ⟨u1, u2, rfl, r1, r2⟩ := RL.two rs
      obtain ⟨a, es, ev, h1, h2⟩ := deref_dit ok rx hx
      obtain ⟨b, eb, k1, k2⟩ := nkD_at ok r1 hq
      subst eb
      refine ⟨a, b, es, q, u2, ev, rfl, hw ▸ h1, h2.keys ok, ⟨k1, k2⟩, p w _ (Af.refl ok) rfl ?_⟩
      have z := h2.get (q := q)
      cases g : nGet ks us q with
      | some y =>
        rw [g] at z
        obtain ⟨v', z1, z2⟩ := z
        rw [z1]
        exact z2
      | none =>
        rw [g] at z
        rw [show valN es q = none from z]
        exact r2
    · exact p.elim
  · exact p.elim
theorem m_defN (hw : cl.w = X.w) : MtD X.K cl (rDefN X) mDefN := by
  intro w x xs v vs W Q ok rx rs p
  unfold mDefN at p
  split at p
  · rename_i i k d
    split at p
    · rename_i ks us q hi hq
      split at p
      · rename_i hl
        obtain ⟨u1, u2, rfl, r1, r2⟩ := RL.two rs
        obtain ⟨a, es, ev, ea, hH, nr⟩ := dit_cell ok rx hi
        obtain ⟨b, eb, k1, k2⟩ := nkD_at ok r1 hq
        have zp := dit_put ok ea hi nr r1 hq r2 eb
        subst eb
        refine ⟨a, b, es, q, u2, ev, rfl, hw ▸ hH, nr.keys ok, ⟨k1, k2⟩, ?_, ?_⟩
        · rw [← nr.length]
          exact Nat.lt_of_lt_of_le hl (by rw [sizeLine_eq]; decide)
        · have z := nr.get (q := q)
          cases g : nGet ks us q with
          | some y =>
            rw [g] at z p
            obtain ⟨v', z1, z2⟩ := z
            rw [z1]
            exact p w _ (Af.refl ok) rfl z2
          | none =>
            rw [g] at z p
            rw [show valN es q = none from z]
            have z3 := p _ u2 zp rfl (Rep.af zp r2)
            rw [hw] at z3
            exact z3
      · exact p.elim
    · exact p.elim
  · exact p.elim

variable {e o i value x : Expr} {es : List Expr} {dx di dv : DE} {da : DA} {pos pos' p p2 apos cpos : Pos} {name : Str} {id : String} {rm : V → List V → Hp → VK → Prop} {fm : D → List D → Sto → Out D}
theorem u_itemN (hw : cl.w = X.w) (hu : X.A.units + 9 < cLine) (ho : UE X cl W o dx) (hi : UE X cl W i di) (hs : PlainIx i := by exact fun _ _ => rfl) : UE X cl W (.Subscript o i pos) (dOp fIxN dx di) := u_ix (ix_n hu) (d_ixN hw) ho hi hs
theorem s_setN (hw0 : cl.w = X.w) (hu : X.A.units + 9 < cLine) (ho : UE X cl W o dx) (hi : UE X cl W i di) (hv : UE X cl W value dv)
    (hs : swapsWithSole [.Subscript o i pos'] value pos.line X.env = pure false := by rfl) (hw : swappedStores [.Subscript o i pos'] value X.env = pure none := by rfl) (h1 : (assignEach [.Subscript o i pos'] X.env).map (·.2) = [assign (.Subscript o i pos') X.env] := by rfl)
    (ha : ∀ v, assign (.Subscript o i pos') X.env v = (do
      let ov ← holding [v] (eval o X.env)
      let iv ← holding [v, ov] (eval i X.env)
      standAt pos'
      holding [v, ov, iv] (setItem ov iv v)
      release [v, ov, iv] []) := by intro _; rfl) : US X cl W (.Assign [.Subscript o i pos'] value pos) (dSetN dx di dv) :=
  weakS (ps_asg hv (pg_sub ho hi (set_n hu) ha) hs hw h1) fun N σ H ⟨w, t, eH, ok, en, p⟩ => by
    refine ⟨w, t, eH, ok, en, SPost.ofE p en fun y w1 vy a1 r1 en1 p1 => ⟨w1, t, rfl, a1.ok, en1, SPost.ofE p1 en1 fun x w2 vx a2 r2 en2 p2 => ⟨w2, t, rfl, a2.ok, en2, SPost.ofE p2 en2 fun z w3 vz a3 r3 en3 p3 => ?_⟩⟩⟩
    split at p3
    · rename_i S4 h4
      refine putAtN_ok hw0 a3.ok (Rep.af a3 r2) r3 (Rep.af a3 (Rep.af a2 r1)) h4 fun w4 z e4 => ?_
      exact p3 w4 σ z e4 (en3.af z)
    · exact p3.elim
theorem u_bmN (hw : cl.w = X.w) (slot : Slot "dict" name id) (hty : typeOf (.builtin id) = pure (.type "method_descriptor")) (hm : MtR X id rm) (hd : MtD X.K cl rm fm) (ho : UE X cl W o dx) (ha : UA X cl W (e :: es) da)
    (hbase : attributeBase o name X.env (eval o X.env) = eval o X.env := by rfl)
    (hfew : ((backTo cpos (starEach (e :: es) X.env)).all (fun x => !x.1) && (backToKw cpos (keywordEach [] X.env)).all (fun x => x.1.isSome)
      && decide ((e :: es).length + ([] : List Keyword).length + (if ([] : List Keyword).isEmpty then 0 else 1) < 30)) = true := by rfl)
    (hline : (apos.endLine == cpos.line) = true := by rfl) (hs : starEach (e :: es) X.env = (false, eval e X.env) :: starEach es X.env := by rfl) (hplain : (backTo cpos (starEach es X.env)).any (·.1) = false := by rfl) :
    UE X cl W (.Call (.Attribute o name apos) (e :: es) [] cpos) (dBMN fm dx da) := weakE (pe_bmN slot hty hm ho ha hbase hfew hline hs hplain) fun σ H Q ⟨w, t, eH, ok, en, p⟩ => by
  refine ⟨w, t, eH, ok, en, OPost.bind p fun x w1 v a1 r1 p1 => ?_⟩
  split at p1
  · rename_i ht
    refine ⟨?_, w1, t, rfl, a1.ok, en.af a1, OPost.bind p1 fun xs w2 vs a2 r2 p2 => hd w2 x xs v vs _ Q a2.ok (Rep.af a2 r1) r2 p2⟩
    unfold isDit at ht
    split at ht
    · rename_i ks us hx
      obtain ⟨a, es', ev, h1, _⟩ := deref_dit a1.ok r1 hx
      exact ⟨a, es', ev, hw ▸ h1⟩
    · cases ht
  · exact p1.elim

/-! ### {} -/
theorem _root_.L2.Inv.conv {pins : List (Addr × Obj)} {σ : L2.St} {H : Hp} {s : Shared} {d : Addr} (I : Inv X pins σ H s) (h : H d = some (.dK [])) : Inv X pins σ (upd H d (nD X.w d [])) s := by
  obtain ⟨z, hs, vs, kv, o, es, ep, ho, hx, hdt, r⟩ := (show ObjOk X.prog X.w H s.heap d (.dK []) from I.hok d _ h)
  cases kv
  have l1 := r.2.1.length
  have e0 : es.toList = [] := List.length_eq_zero_iff.mp l1
  refine I.write (x := d) (e := d) (t' := s.toks) (h' := s.heap) (by rw [h]; exact True.intro) (.inl rfl) (fun b v _ q => q) ⟨o, ho⟩ ?_
  refine ⟨⟨Nat.zero_le _, hs, List.nodup_nil, [], o, es, ep, .nil, ho, hx, hdt, e0⟩, ⟨o, ho⟩, fun g1 g2 hg k => ?_⟩
  obtain ⟨z, hd, n, ys, o, xs, ep, p, h5, h6⟩ := hg
  exact ⟨z, hd, n, ys, o, xs, ep, p, k _ h5, h6⟩
/-- an empty dict that comes may be taken for one with tuple keys -/
def tConv (w : World) (te : TE) : TE := fun σ H Q => te σ H fun v H1 => ∃ d, v = .ref d ∧ H1 d = some (.dK []) ∧ Q v (upd H1 d (nD w d []))
theorem pe_conv {te : TE} (h : PE X e te) : PE X e (tConv X.w te) := ⟨fun pins s σ H Q I hw => thn (h.run pins s σ H _ I hw) fun v s1 ⟨x, H1, I1, r1, d, e1, hd, q1⟩ => ⟨x, _, I1.conv hd, r1, q1⟩⟩
theorem u_ditC (hw : cl.w = X.w) : UE X cl W (.Dict [] [] pos) dDitC := weakE (pe_conv pe_dnewK) fun σ H Q ⟨w, t, eH, ok, en, p⟩ => fun D hD => by
  subst eH
  refine ⟨D, rfl, upd_same, ?_⟩
  rw [upd_upd]
  have g : Blind X.K cl w _ D (nD X.w D []) := .new ok hD
  exact p ⟨upd w.H D (nD X.w D []), w.F, w.m ++ [D], w.S ++ [some (.dit [] [])]⟩ (.ref D) (g.celled (d := .dit [] []) ⟨[], by rw [hw]; exact upd_same, rfl, rfl, rfl⟩) rfl ⟨D, snoc_get ok.len.symm, rfl⟩
end
end Dl
set_option Elab.async false
set_option linter.all false
set_option maxRecDepth 100000
set_option maxHeartbeats 1000000
/-! The data layer: {k: v, ..} where the keys are tuples. -/
namespace Dl
open PySem PySem.Spec PyProof.Rows L2
def mergeN (acc more : NE) : NE := more.foldl (fun a e => putN a e.1 e.2.1 e.2.2) acc
theorem mergeN_at : ∀ {more acc : NE} {ms as : List (NestedKey × Addr × Value)}, Paired NPair more ms → Paired NPair acc as → Paired NPair (mergeN acc more) (storedAllH as ms)
  | [], acc, ms, as, h, g => by cases h; exact g
  | e :: more, acc, ms, as, h, g => by
    cases h with
    | @cons _ y _ ys r t =>
      have z := putN_at g e.1 e.2.1 r.2.2
      show Paired NPair (mergeN (putN acc e.1 e.2.1 e.2.2) more) (storedAllH (storedH as y.1 y.2.1 y.2.2) ys)
      rw [← r.1, ← r.2.1]
      exact mergeN_at t z
theorem mergeN_len : ∀ (more acc : NE), (mergeN acc more).length ≤ acc.length + more.length
  | [], acc => Nat.le_refl _
  | e :: more, acc => by
    have z := mergeN_len more (putN acc e.1 e.2.1 e.2.2)
    have y := putN_len acc e.1 e.2.1 e.2.2
    show (mergeN (putN acc e.1 e.2.1 e.2.2) more).length ≤ _
    rw [List.length_cons]; omega
section
variable {X : Cx} {pos : Pos}
def pairsN (qs : NE) : List (V × V) := qs.map fun e => (V.ref e.2.1, e.2.2)
def tDispN (X : Cx) (trs : List (TE × TE)) : TE := fun σ H Q => ∀ p, H p = none → tPairs trs σ (upd H p (nD X.w p [])) fun ps H2 =>
  ∃ qs : NE, H2 p = some (nD X.w p []) ∧ ps = pairsN qs ∧ NKs X.K H2 qs ∧ qs.length ≤ 15 ∧ Q (.ref p) (upd H2 p (nD X.w p (mergeN [] qs)))
theorem carriesN {pins : List (Addr × Obj)} {σ : L2.St} {H : Hp} {s : Shared} (I : Inv X pins σ H s) : ∀ {qs : NE} {ws : List (Value × Value)}, NKs X.K H qs → VV (pairsN qs) ws → ∃ ys, CarriesH (nestedKind X.prog X.w) s.heap ws ys ∧ Paired NPair qs ys
  | [], _, _, r => by
    cases r
    exact ⟨[], True.intro, .nil⟩
  | e :: qs, _, k, r => by
    cases r with
    | @cons _ b _ bs h t =>
      obtain ⟨ys, c, q⟩ := carriesN I (fun x hx => k x (List.mem_cons_of_mem _ hx)) t
      obtain ⟨b1, b2⟩ := b
      obtain ⟨k1, k2⟩ := k e List.mem_cons_self
      exact ⟨(e.1, e.2.1, b2) :: ys, ⟨h.1, rfl, ⟨nested_is I _ _ _ k1 rfl, k2⟩, c⟩, .cons ⟨rfl, rfl, h.2⟩ q⟩
theorem nd_empty {H' : Hp} (h : Heap) (hb : sysModules < h.objs.size) : ObjOk X.prog X.w H' (h.push { cls := .type "dict", data := .dict #[] }) h.objs.size (nD X.w h.objs.size []) :=
  nd_new (Nat.zero_le _) (beq_eq_false_iff_ne.mpr (Ne.symm (Nat.ne_of_lt hb))) .nil (Heap.DictOfH.new h)
theorem pe_dispN {keys : List (Option Expr)} {values : List Expr} {trs : List (TE × TE)} (h : PPs X pos keys values trs) (hall : keys.all (·.isSome) = true) (hl : keys.length = values.length) (h0 : keys ≠ []) (h15 : keys.length ≤ 15) (hu : X.A.units + 8 < cLine) :
    PE X (.Dict keys values pos) (tDispN X trs) := by
  refine ⟨fun pins s σ H Q I q => ?_⟩
  have hp := I.hok.fresh (Nat.le_refl s.heap.objs.size)
  have I1 := I.laid (a := s.heap.objs.size) (o := nD X.w s.heap.objs.size []) (h' := s.heap.push { cls := .type "dict", data := .dict #[] }) (t' := s.toks) (fun _ _ e => Heap.get?_push_of_some _ e) (Nat.le_refl _) (nd_empty s.heap I.big)
  have hn := pairTrees_length keys values X.env pos hall hl
  have hne : pairTrees keys values X.env pos ≠ [] := fun e => by
    rw [e] at hn
    exact h0 (List.length_eq_zero_iff.mp hn.symm)
  rw [arm_eval_Dict, zip_pairTrees keys values X.env pos hall hl, dictDisplay_pairs _ hne (by omega)]
  refine wpAny_bind (wpAny_standAt (wpAny_bind (wpAny_subDictH (knd := nestedKind X.prog X.w) hu (by omega) ?_)))
  refine thn (h.run pins _ σ _ _ I1 (q _ hp)) fun ws s2 ⟨ps, H2, I2, rel, qs, e, ep, hk, hl2, q2⟩ => ?_
  subst ep
  obtain ⟨ys, c, rq⟩ := carriesN I2 hk rel
  obtain ⟨z, hd, zs, r0, dd⟩ := nd_heap I2 (.inl e) (fun x hx => by cases hx)
  cases r0
  refine ⟨ys, c, dd, fun h' tk dd' hs => wpAny_pure ⟨.ref s.heap.objs.size, upd H2 s.heap.objs.size (nD X.w s.heap.objs.size (mergeN [] qs)), ?_, rfl, q2⟩⟩
  have hz := mergeN_len qs []
  rw [List.length_nil] at hz
  obtain ⟨o, _, _, ho, _⟩ := id dd'
  exact d_write I2 (by rw [e]; exact True.intro) hs ⟨o, ho⟩ (nd_new (by rw [sizeLine_eq]; omega) hd (mergeN_at rq .nil) dd')
/-- the keys and values as they come -/
def nMerge : List D → List D → List D × List D → Option (List D × List D)
  | k :: ks, v :: vs, a => match nkD k with
    | some q => nMerge ks vs (nPut a.1 a.2 q k v)
    | none => none
  | _, _, a => some a
theorem nmerge_rep {cl : Cl} {w : Wd} (ok : w.Ok X.K cl) : ∀ {ks vs : List D} {ps : List (V × V)} {a : List D × List D} {es : NE} {b : List D × List D}, Reps X.K cl w.F w.m ks (ps.map (·.1)) → Reps X.K cl w.F w.m vs (ps.map (·.2)) →
    NR X.K cl w.F w.m a.1 a.2 es → nMerge ks vs a = some b → ∃ qs : NE, ps = pairsN qs ∧ NKs X.K w.H qs ∧ NR X.K cl w.F w.m b.1 b.2 (mergeN es qs)
  | [], vs, ps, a, es, b, rk, rv, ra, e => by
    cases ps with
    | cons _ _ => exact absurd (show _ = [] from rk) (by simp)
    | nil =>
      cases e
      exact ⟨[], rfl, (fun x hx => by cases hx), ra⟩
  | k :: ks, vs, ps, a, es, b, rk, rv, ra, e => by
    cases ps with
    | nil => obtain ⟨_, _, h, _⟩ := rk; simp at h
    | cons q ps =>
      cases vs with
      | nil => exact absurd (show _ = [] from rv) (by simp)
      | cons v vs =>
        obtain ⟨k', kr, h1, h2, h3⟩ := rk
        obtain ⟨v', vr, g1, g2, g3⟩ := rv
        simp only [List.map_cons, List.cons.injEq] at h1 g1
        obtain ⟨h1a, h1b⟩ := h1
        obtain ⟨g1a, g1b⟩ := g1
        subst h1a h1b g1a g1b
        unfold nMerge at e
        split at e
        · rename_i kk hk
          obtain ⟨b0, eb, k1, k2⟩ := nkD_at ok h2 hk
          have z := ra.put hk (eb ▸ h2) g2
          obtain ⟨qs, e1, e2, e3⟩ := nmerge_rep ok h3 g3 z e
          refine ⟨(kk, b0, q.2) :: qs, ?_, fun x hx => ?_, e3⟩
          · show q :: ps = (V.ref b0, q.2) :: pairsN qs
            rw [← e1, ← eb]
          · rcases List.mem_cons.mp hx with y | hx
            · subst y; exact ⟨k1, k2⟩
            · exact e2 x hx
        · cases e
variable {cl : Cl} {W : WX}
def dDispN (l : List (DE × DE)) : DE := fun t S => (dPairs l t S).bind fun q S1 => if q.1.length ≤ 15 then (match nMerge q.1 q.2 ([], []) with
  | some b => .ok (.ptr S1.length) (S1 ++ [some (.dit b.1 b.2)])
  | none => .bad) else .bad
theorem u_dispN (hw : cl.w = X.w) (hu : X.A.units + 9 < cLine) {keys : List (Option Expr)} {values : List Expr} {l : List (DE × DE)} (h : UPs X cl W pos keys values l) (hall : keys.all (·.isSome) = true := by rfl) (hl : keys.length = values.length := by rfl) (h0 : keys ≠ [] := by exact nofun)
    (h15 : keys.length ≤ 15 := by decide) : UE X cl W (.Dict keys values pos) (dDispN l) := weakE (pe_dispN h hall hl h0 h15 (by omega)) fun σ H Q ⟨w, t, eH, ok, en, p⟩ => fun D hD => by
  subst eH
  have g : Blind X.K cl w _ D (nD X.w D []) := .new ok hD
  refine le_pairs g.af (en.af g.af) p fun q w2 ps a2 r2 p2 => ?_
  have g2 := g.step a2
  split at p2
  · rename_i h15
    split at p2
    · rename_i b hb
      obtain ⟨qs, e1, e2, e3⟩ := nmerge_rep (X := X) a2.ok (a := ([], [])) (es := []) r2.1 r2.2 ⟨rfl, show Reps X.K cl w2.F w2.m [] [] from rfl, show Reps X.K cl w2.F w2.m [] [] from rfl⟩ hb
      refine ⟨qs, g2.at_, e1, e2, ?_, ?_⟩
      · have := Reps.length r2.1
        rw [e1, pairsN, List.length_map, List.length_map] at this
        omega
      · have g3 := g2.write (nD X.w D (mergeN [] qs))
        exact p2 ⟨upd w2.H D (nD X.w D (mergeN [] qs)), w2.F, w2.m ++ [D], w2.S ++ [some (.dit b.1 b.2)]⟩ (.ref D) (g3.celled (d := .dit b.1 b.2) ⟨_, by rw [hw]; exact upd_same, e3.n, Reps.mono (fun _ _ h => h) (fun _ _ h => h) _ _ e3.k, Reps.mono (fun _ _ h => h) (fun _ _ h => h) _ _ e3.v⟩) rfl ⟨D, snoc_get g3.af.ok.len.symm, rfl⟩
    · exact p2.elim
  · exact p2.elim
end
end Dl
set_option Elab.async false
set_option linter.all false
set_option maxRecDepth 100000
set_option maxHeartbeats 1000000
/-! The data layer: {k: v for ..} where the keys are tuples. -/
namespace Dl
open PySem PySem.Spec PyProof.Rows L2
section
variable {X : Cx}
theorem n_dictSet {pins : List (Addr × Obj)} {σ : L2.St} {H : Hp} {s : Shared} {E : Value → Shared → Prop} {a b : Addr} {es : NE} {q : NestedKey} {v : V} {r : Value} {Q : Unit → Shared → Prop} (hu : X.A.units + 8 < cLine) (I : Inv X pins σ H s) (e : H a = some (nD X.w a es)) (hk : NKs X.K H es) (k : KeyAt X H q b)
    (hl : es.length < sizeLine) (rv : RelV v r) (h : ∀ s', Inv X pins σ (upd H a (nD X.w a (putN es q b v))) s' → Q () s') : wpAny (model X.prog X.w) X.A (dictSet a (.ref b) r) Q E s := by
  obtain ⟨z, hd, ys, p, dd⟩ := nd_heap I (.inl e) hk
  refine wpAny_dictSet_heap (knd := nestedKind X.prog X.w) (hsz := by rw [← Paired.length p]; exact z) hu ⟨nested_is I _ _ _ k.1 rfl, k.2⟩ dd fun g dg hs => h _ ?_
  have hl2 := putN_len es q b v
  obtain ⟨o, _, _, ho, _⟩ := id dg
  exact d_write I (by rw [e]; exact True.intro) hs ⟨o, ho⟩ (nd_new (by omega) hd (putN_at p q b rv) dg)
/-- one more entry of the dict that grows -/
def tStoreN (X : Cx) (Dd : Addr) (Nx : Hp → Prop) (y z : V) (H : Hp) : Prop := ∃ es q b, y = .ref b ∧ H Dd = some (nD X.w Dd es) ∧ NKs X.K H es ∧ KeyAt X H q b ∧ es.length < sizeLine ∧ Nx (upd H Dd (nD X.w Dd (putN es q b z)))
def tTurnN (X : Cx) (g : TG) (tt : TT) (tk tv : TE) (vs : List Nat) (σ : L2.St) (Dd : Addr) (Nx : Hp → Prop) (x : V) (H' : Hp) : Prop :=
  g x (L2.wipe σ vs) H' fun σ2 H2 => L2.wipe σ2 vs = L2.wipe σ vs ∧ tt σ2 H2 fun b H3 => if b = true then tk σ2 H3 fun y H4 => tv σ2 H4 fun z H5 => tStoreN X Dd Nx y z H5 else Nx H3
def tDcN (X : Cx) (wi : TI) (g : TG) (tt : TT) (tk tv : TE) (vs : List Nat) : TE := fun σ H Q => wi σ H fun J H1 => ∀ Dd, H1 Dd = none → ∃ Wi : Nat → Nat → Hp → Prop, (∃ m, Wi 0 m (upd H1 Dd (nD X.w Dd []))) ∧ ∀ i m H, Wi i m H →
  (J.stop i H ∧ Q (.ref Dd) H) ∨ (J.go i H ∧ ∃ Nx : Hp → Prop, (∀ H', Nx H' → ∃ m', m' < m ∧ Wi (i + 1) m' H') ∧ ∀ x H', J.yld i H x H' → tTurnN X g tt tk tv vs σ Dd Nx x H')
abbrev Blk (X : Cx) (scope : Scope) (P : Cx → Prop) : Prop := ∀ (s : Shared) (H : Hp) (C : Addr) (cs : List (Str × Addr)) (fp : List Addr), P (X.blk s H scope (compEnvC scope cs C X.env) fp)
theorem dcN_core {pins : List (Addr × Obj)} {sa : Shared} {σ : L2.St} {Ha : Hp} {Q : VK} {kx vx tg iter : Expr} {ifs : List Expr} {scope : Scope} {own : List (Str × Nat)} {pos pos' : Pos} {wi : TI} {g : TG} {tt : TT} {tk tv : TE} {use : Option (Value → Sem Unit)} {Qf : Value → Shared → Prop}
    (hu : X.A.units + 8 < cLine) (hc : X.calm = true) (hN : X.N.Nodup) (Ia : Inv X pins σ Ha sa) (hi : PI X tg iter wi) (bk : BlkOk X.N X.env.scope scope own) (hg : Blk X scope fun Y => PG Y tg g) (ht : Blk X scope fun Y => PTs Y ifs tt) (hk : Blk X scope fun Y => PE Y kx tk) (he : Blk X scope fun Y => PE Y vx tv)
    (hs : ∀ x, foldedSetIterable iter X.env x = pure x) (wish : tDcN X wi g tt tk tv (own.map (·.2)) σ Ha Q)
    (last : ∀ Dd C s' m H', Inv X pins σ H' s' → Q (.ref Dd) H' → s'.heap.Ns C m → FpOk X pins H' C → compPost (model X.prog X.w) X.A X.xe use Qf (.ref Dd) C (.ok .next) s') :
    wpAny (model X.prog X.w) X.A (comprehension (.DictComp kx vx [⟨tg, iter, ifs, 0⟩] scope pos) scope X.env pos' newDict false (eval iter X.env) use) Qf X.xe sa := by
  have fr : ∀ y ∈ scope.names, y.2 = .free → ∃ c, X.env.cells.lookup y.1 = some c := fun y hy e => (bk.free y hy e).elim (fun k => Ia.ok.has _ (.inl k)) fun k => Ia.ok.has _ (.inr k)
  refine wpAny_comprehension_free (use := use) rfl hs (closure_ok fr) bk.kind (fun y hy e => by rw [bk.uniq y hy, e]) (thn (hi.run pins sa σ Ha _ Ia wish) fun _ _ hx => thn hx fun _ sb hb => ?_)
  obtain ⟨it, fp, tn, J, Hb, rfl, Ib, Tu, stb, fb, q⟩ := hb
  refine wpAny_newObj_type (newEnv_comp ?_)
  generalize hD : sb.heap.objs.size = Dd
  obtain ⟨Wi, ⟨m0, w0⟩, turn⟩ := q Dd (Ib.hok.fresh (Nat.le_of_eq hD))
  generalize hsd : ({ sb with heap := sb.heap.push { cls := .type "dict", data := .dict #[] } } : Shared) = sd
  have hd1 : sd.heap = sb.heap.push { cls := .type "dict", data := .dict #[] } := by rw [← hsd]
  have Id : Inv X pins σ (upd Hb Dd (nD X.w Dd [])) sd := by
    subst hsd hD
    exact Ib.laid (t' := sb.toks) (fun b o e => Heap.get?_push_of_some _ e) (Nat.le_refl _) (nd_empty sb.heap Ib.big)
  have fd : ∀ b ∈ fp, FpOk X pins (upd Hb Dd (nD X.w Dd [])) b ∧ b < sd.heap.objs.size := fun b hb => by
    obtain ⟨o, e, _⟩ := Tu.obj _ _ stb b hb
    have lt := Heap.lt_size e
    refine ⟨⟨by rw [upd_ne (by rw [← hD]; exact Nat.ne_of_lt lt)]; exact (fb b hb).1, (fb b hb).2⟩, ?_⟩
    rw [hd1, Heap.size_push]; exact Nat.lt_succ_of_lt lt
  have std : tn 0 sd.heap := Tu.keep _ _ _ stb fun b _ o e => by rw [hd1]; exact Heap.get?_push_of_some _ e
  have Ie := block_start Id bk hN fd
  have pg := hg sd (upd Hb Dd (nD X.w Dd [])) sd.heap.objs.size (cellsFrom (sd.heap.objs.size + 1) scope.names (cloFrom X.env.cells scope.names [])) fp
  have pt := ht sd (upd Hb Dd (nD X.w Dd [])) sd.heap.objs.size (cellsFrom (sd.heap.objs.size + 1) scope.names (cloFrom X.env.cells scope.names [])) fp
  have pk := hk sd (upd Hb Dd (nD X.w Dd [])) sd.heap.objs.size (cellsFrom (sd.heap.objs.size + 1) scope.names (cloFrom X.env.cells scope.names [])) fp
  have pe := he sd (upd Hb Dd (nD X.w Dd [])) sd.heap.objs.size (cellsFrom (sd.heap.objs.size + 1) scope.names (cloFrom X.env.cells scope.names [])) fp
  show codeAny _ _ (.compStart (.DictComp kx vx [⟨tg, iter, ifs, 0⟩] scope pos) 0 (.ref it) (.ref Dd) (compEnvC scope (cellsFrom (sd.heap.objs.size + 1) scope.names (cloFrom X.env.cells scope.names [])) sd.heap.objs.size X.env)) (compPost (model X.prog X.w) X.A X.xe use Qf (.ref Dd) sd.heap.objs.size) { sd with heap := pushCells (sd.heap.push { cls := .type "dict", data := .dict #[] }) scope.names }
  have nofp : ∀ b ∈ fp, (upd Hb Dd (nD X.w Dd [])) b = none := fun b hb => (fd b hb).1.1
  generalize hce : compEnvC scope (cellsFrom (sd.heap.objs.size + 1) scope.names (cloFrom X.env.cells scope.names [])) sd.heap.objs.size X.env = ce at Ie pg pt pk pe ⊢
  have cL : ce.locals = sd.heap.objs.size := by subst hce; rfl
  generalize hHd : upd Hb Dd (nD X.w Dd []) = Hd at Id Ie pg pt pk pe w0 nofp fd
  generalize hse : ({ sd with heap := pushCells (sd.heap.push { cls := .type "dict", data := .dict #[] }) scope.names } : Shared) = se at Ie ⊢
  have ste : tn 0 se.heap := Tu.keep _ _ _ std fun b _ o e => by rw [← hse]; exact pushCells_keeps _ _ _ _ (Heap.get?_push_of_some _ e)
  have fpo : ∀ {τ : L2.St} {G : Hp} {u : Shared}, Inv (X.blk sd Hd scope ce fp) [] τ G u → (∀ b ∈ fp, G b = none) → ∀ b ∈ fp, FpOk (X.blk sd Hd scope ce fp) [] G b := fun {τ G u} I' hn b hb => ⟨hn b hb, (I'.ok.exf b hb).1, I'.ok.exfs b hb, .inl hb, fun x c e => (I'.ok.exf b hb).2 x c e, fun p hp => by cases hp⟩
  refine codeAny_compStart_dict ?loop (Tu.self X.A 0 _ _ _ ste ?loop)
  refine compLoop_anyD (fun n u => ∃ i G, Inv (X.blk sd Hd scope ce fp) [] (L2.wipe σ (own.map (·.2))) G u ∧ tn i u.heap ∧ (∀ b ∈ fp, G b = none) ∧ Wi i n G) ?_ m0 ⟨0, Hd, Ie, ste, nofp, w0⟩
  rintro n u ⟨i, G, Iu, stu, nu, wu⟩
  rcases turn i n G wu with ⟨stop, qq⟩ | ⟨go, Nx, hNx, step⟩
  · refine thnF (Tu.done (X.blk sd Hd scope ce fp) rfl rfl rfl hc i [] u _ G (fun _ _ => False) Iu (fpo Iu nu) stu stop) fun _ u2 ⟨hr, I2⟩ => ?_
    subst hr
    have nC : G ce.locals = none := I2.free
    obtain ⟨m, hn, _⟩ := I2.loc
    have hn : u2.heap.Ns ce.locals m := hn
    rw [cL] at hn nC
    exact last Dd sd.heap.objs.size u2 m G (Id.call' (ch := fp) I2.os I2.base I2.hok I2.bare fun b hb => ⟨(fd b hb).1.2.2.2.1, (fd b hb).1.2.1, (fd b hb).1.2.2.2.2.1, (fd b hb).1.2.2.2.2.2⟩) qq hn (Id.fpOk (Nat.le_refl _) nC)
  · refine thnF (Tu.item (X.blk sd Hd scope ce fp) rfl rfl rfl hc i [] u _ G (fun _ _ => False) Iu (fpo Iu nu) stu go) fun _ u2 ⟨x1, hr, h2⟩ => ?_
    subst hr
    refine thnF h2 fun _ u3 ⟨x, G3, I3, r3, y3, st3, n3⟩ => ?_
    refine thnF (pg.run _ u3 _ G3 x _ _ (I3.pinned (fpo I3 n3) (Tu.obj _ _ st3)) r3 (step x G3 y3)) fun _ u4 ⟨τ, G4, I4, hw4, q4⟩ => ?_
    refine thnF (pt.run _ u4 τ G4 _ I4 q4) fun b u5 ⟨G5, I5, q5⟩ => ?_
    have fin : ∀ {u' : Shared} {G' : Hp}, Inv (X.blk sd Hd scope ce fp) ([] ++ pinsAt fp u3.heap) τ G' u' → Nx G' → ∃ m, m < n ∧ ∃ i G, Inv (X.blk sd Hd scope ce fp) [] (L2.wipe σ (own.map (·.2))) G u' ∧ tn i u'.heap ∧ (∀ b ∈ fp, G b = none) ∧ Wi i m G := fun {u' G'} I' nx => by
      obtain ⟨m', hm, w'⟩ := hNx G' nx
      have pin : ∀ b ∈ fp, ∀ o, u3.heap.get? b = some o → u'.heap.get? b = some o ∧ G' b = none := fun b hb o e => (I'.pin (b, o) (List.mem_append_right _ (List.mem_append_right _ (mem_pinsAt hb e)))).imp id And.left
      refine ⟨m', hm, i + 1, G', (I'.unpinned (pins := [])).weak (by rw [← hw4, wipe_length]) (fun j v e => ?_), Tu.keep _ _ _ st3 fun b hb o e => (pin b hb o e).1, fun b hb => ?_, w'⟩
      · rw [← hw4] at e
        exact (wipe_some e).1
      · obtain ⟨o, e, _⟩ := Tu.obj _ _ st3 b hb
        exact (pin b hb o e).2
    cases b with
    | false => exact fin I5 q5
    | true =>
      refine thnF (pk.run _ u5 τ G5 _ I5 q5) fun ky u6 ⟨yk, G6, I6, r6, q6⟩ => ?_
      refine thnF (pe.run _ u6 τ G6 _ I6 q6) fun vl u7 ⟨yv, G7, I7, r7, es, kq, kb, ek, e7, hk7, ka7, hl7, nx⟩ => ?_
      subst ek
      cases (show ky = Value.ref kb from r6)
      exact n_dictSet (X := X.blk sd Hd scope ce fp) hu I7 e7 hk7 ka7 hl7 r7 fun u8 I8 => fin I8 nx
/-- as a value -/
theorem pe_dcN {kx vx tg iter : Expr} {ifs : List Expr} {scope : Scope} {own : List (Str × Nat)} {pos : Pos} {wi : TI} {g : TG} {tt : TT} {tk tv : TE} (hu : X.A.units + 8 < cLine) (hc : X.calm = true) (hN : X.N.Nodup) (hi : PI X tg iter wi) (bk : BlkOk X.N X.env.scope scope own)
    (hg : Blk X scope fun Y => PG Y tg g) (ht : Blk X scope fun Y => PTs Y ifs tt) (hk : Blk X scope fun Y => PE Y kx tk) (he : Blk X scope fun Y => PE Y vx tv) (hs : ∀ x, foldedSetIterable iter X.env x = pure x := by intro _; rfl) : PE X (.DictComp kx vx [⟨tg, iter, ifs, 0⟩] scope pos) (tDcN X wi g tt tk tv (own.map (·.2))) := by
  refine ⟨fun pins sa σ Ha Q Ia wish => ?_⟩
  rw [arm_eval_DictComp]
  refine dcN_core hu hc hN Ia hi bk hg ht hk he hs wish fun Dd C u m G Iu q hn f => ⟨m, hn, fun g2 sb => ?_⟩
  obtain ⟨f0, f1, f2, f3, f4, f5⟩ := f
  exact ⟨.ref Dd, G, Iu.turned (t' := u.toks) (fun b o hb e => (sb.2 b hb).trans e) f0 f1 f3 f4 f5, rfl, q⟩

/-! ### over data -/
variable {cl : Cl} {W : WX}
def dcLoopN (g : Tg) (dt : DB) (dk dv : DE) (t : Lc) : List D → List D × List D → Sto → Out (List D × List D)
  | [], acc, S => .ok acc S
  | d :: r, acc, S => match g.set d t with
    | none => .bad
    | some t1 => (dt t1 S).calm.bind fun b S1 => if b = true then (dk t1 S1).calm.bind fun y S2 => (dv t1 S2).calm.bind fun z S3 => match nkD y with
      | some q => if acc.1.length < 1000000 then dcLoopN g dt dk dv t r (nPut acc.1 acc.2 q y z) S3 else .bad
      | none => .bad
      else dcLoopN g dt dk dv t r acc S1
def dDcN (vs : List Nat) (g : Tg) (di : DA) (dt : DB) (dk dv : DE) : DE := fun t S => (di t S).bind fun xs S1 => (dcLoopN g dt dk dv (wipeD vs t) xs ([], []) S1).bind fun a S2 => .ok (.ptr S2.length) (S2 ++ [some (.dit a.1 a.2)])
/-- the dict that grows -/
structure GrowN (K : PySem.W.Frag) (cl : Cl) (w0 w : Wd) (Dd : Addr) (es : NE) (a : List D × List D) : Prop where
  b : Blind K cl w0 w Dd (nD cl.w Dd es)
  n : NR K cl w.F w.m a.1 a.2 es
theorem NR.af {K : PySem.W.Frag} {w w1 : Wd} {ks vs : List D} {es : NE} (h : NR K cl w.F w.m ks vs es) (x : Af K cl w w1) : NR K cl w1.F w1.m ks vs es := h.mono x.fz x.mu
theorem GrowN.step {K : PySem.W.Frag} {w0 w w1 : Wd} {Dd : Addr} {es : NE} {a : List D × List D} (g : GrowN K cl w0 w Dd es a) (x : Af K cl w w1) : GrowN K cl w0 w1 Dd es a := ⟨g.b.step x, g.n.af x⟩
theorem dcN_run {vs : List Nat} {g : Tg} {dt : DB} {dk dv : DE} {σ : L2.St} {w : Wd} {t : Lc} {xs : List D} {J : It} {Q : VK} {fin : List D × List D → Sto → Out D} {W' : Value → Option Addr → Hp → Prop} {Dd : Addr} (hw : cl.w = X.w) (hsl : ∀ i ∈ g.slots, i ∈ vs)
    (ok : w.Ok X.K cl) (en : EnvR X.K cl w t σ) (hJ : Wk X.K cl w xs J) (hD : w.H Dd = none) (p : OPost X.K cl (RV X.K cl) W' w Q ((dcLoopN g dt dk dv (wipeD vs t) xs ([], []) w.S).bind fin)) {P : VK}
    (done : ∀ a es (w2 : Wd), GrowN X.K cl w w2 Dd es a → OPost X.K cl (RV X.K cl) W' w Q (fin a w2.S) → P (.ref Dd) w2.H) :
    ∃ Wi : Nat → Nat → Hp → Prop, (∃ m, Wi 0 m (upd w.H Dd (nD X.w Dd []))) ∧ ∀ i m H, Wi i m H →
      (J.stop i H ∧ P (.ref Dd) H) ∨ (J.go i H ∧ ∃ Nx : Hp → Prop, (∀ H', Nx H' → ∃ m', m' < m ∧ Wi (i + 1) m' H') ∧ ∀ x H', J.yld i H x H' → tTurnN X (tgT X.K g) (upB X.K cl W0 dt) (upE X.K cl W0 dk) (upE X.K cl W0 dv) vs σ Dd Nx x H') := by
  rw [← hw]
  have b0 : Blind X.K cl w _ Dd (nD cl.w Dd []) := .new ok hD
  refine ⟨fun i m H => ∃ w2 acc es, w2.H = H ∧ GrowN X.K cl w w2 Dd es acc ∧ m = xs.length - i ∧ i ≤ xs.length ∧ OPost X.K cl (RV X.K cl) W' w Q ((dcLoopN g dt dk dv (wipeD vs t) (xs.drop i) acc w2.S).bind fin),
    ⟨_, ⟨upd w.H Dd (nD cl.w Dd []), w.F, w.m, w.S⟩, ([], []), [], rfl, ⟨b0, rfl, rfl, rfl⟩, rfl, Nat.zero_le _, p⟩, ?_⟩
  rintro i m H ⟨w2, acc, es, rfl, gr, rfl, hi, p2⟩
  by_cases hl : i < xs.length
  · obtain ⟨go, yl⟩ := (hJ w2 gr.b.af i).1 _ (List.getElem?_eq_getElem hl)
    rw [List.drop_eq_getElem_cons hl] at p2
    refine .inr ⟨go, fun H' => ∃ w6 acc' es', w6.H = H' ∧ GrowN X.K cl w w6 Dd es' acc' ∧ OPost X.K cl (RV X.K cl) W' w Q ((dcLoopN g dt dk dv (wipeD vs t) (xs.drop (i + 1)) acc' w6.S).bind fin),
      fun H' ⟨w6, acc', es', e6, g6, p6⟩ => ⟨xs.length - (i + 1), by omega, w6, acc', es', e6, g6, rfl, hl, p6⟩, fun v H' hy => ?_⟩
    obtain ⟨w3, rfl, a3, e3, rv⟩ := yl v H' hy
    have g3 := gr.step a3
    unfold dcLoopN at p2
    split at p2
    · exact p2.elim
    · rename_i t1 et
      refine Tg.ok a3.ok (((en.af gr.b.af).af a3).wipe vs) rv et fun σ' en' hwp => ⟨?_, ?_⟩
      · rw [hwp vs hsl, wipe_wipe (fun i h => h)]
      rw [← e3, Out.assoc] at p2
      refine ⟨w3, t1, rfl, a3.ok, en', calm_bindB p2 fun b w4 b' a4 eb p4 => ?_⟩
      cases (show b = b' from eb)
      cases b with
      | false => exact ⟨w4, acc, es, rfl, g3.step a4, p4⟩
      | true =>
        rw [if_pos rfl] at p4 ⊢
        rw [Out.assoc] at p4
        refine ⟨w4, t1, rfl, a4.ok, en'.af a4, calm_bindB p4 fun y w5 vy a5 ry p5 => ?_⟩
        rw [Out.assoc] at p5
        refine ⟨w5, t1, rfl, a5.ok, (en'.af a4).af a5, calm_bindB p5 fun z w6 vz a6 rz p6 => ?_⟩
        have g6 := ((g3.step a4).step a5).step a6
        split at p6
        · rename_i q hq
          split at p6
          · rename_i hsz
            have ry6 := Rep.af a6 ry
            obtain ⟨b, eb, k1, k2⟩ := nkD_at a6.ok ry6 hq
            have z1 := g6.n.put (q := q) hq (eb ▸ ry6) rz
            refine ⟨es, q, b, eb, ?_, g6.n.keys a6.ok, ⟨k1, k2⟩, ?_, ⟨upd w6.H Dd (nD cl.w Dd (putN es q b vz)), w6.F, w6.m, w6.S⟩, nPut acc.1 acc.2 q y z, _, ?_, ⟨g6.b.write _, z1⟩, p6⟩
            · rw [← hw]; exact g6.b.at_
            · rw [← g6.n.length]
              exact Nat.lt_of_lt_of_le hsz (by rw [sizeLine_eq]; decide)
            · rw [hw]
          · exact p6.elim
        · exact p6.elim
  · have e : i = xs.length := by omega
    subst e
    rw [List.drop_length] at p2
    exact .inl ⟨(hJ w2 gr.b.af _).2 (Nat.le_refl _), done acc es w2 gr p2⟩
variable {dt : DB} {dk dv : DE} {di : DA} {g : Tg} {kx vx tg iter : Expr} {ifs : List Expr} {scope : Scope} {own : List (Str × Nat)} {pos : Pos}
theorem u_dcN (hw : cl.w = X.w) (hu : X.A.units + 9 < cLine) (vs : List Nat) (hv : own.map (·.2) = vs) (hsl : ∀ i ∈ g.slots, i ∈ vs) (hc : X.calm = true) (hN : X.N.Nodup) (hi : UI X cl W tg iter di) (bk : BlkOk X.N X.env.scope scope own) (hg : Blk X scope fun Y => PG Y tg (tgT X.K g)) (ht : Blk X scope fun Y => UTs Y cl ifs dt)
    (hk : Blk X scope fun Y => UE Y cl W0 kx dk) (he : Blk X scope fun Y => UE Y cl W0 vx dv) (hs : ∀ x, foldedSetIterable iter X.env x = pure x := by intro _; rfl) : UE X cl W (.DictComp kx vx [⟨tg, iter, ifs, 0⟩] scope pos) (dDcN vs g di dt dk dv) :=
  weakE (pe_dcN (by omega) hc hN hi bk hg ht hk he hs) fun σ H Q ⟨w, t, eH, hok, en, p⟩ => by
    rw [hv]
    refine ⟨w, t, eH, hok, en, OPost.bind p fun xs w1 J a1 hJ p1 => fun Dd hD => ?_⟩
    refine dcN_run hw hsl a1.ok (en.af a1) hJ hD p1 fun a es w2 gr p2 => ?_
    have z := gr.b.celled (d := .dit a.1 a.2) ⟨es, gr.b.at_, gr.n.n, gr.n.k, gr.n.v⟩
    exact p2 ⟨w2.H, w2.F, w2.m ++ [Dd], w2.S ++ [some (.dit a.1 a.2)]⟩ (.ref Dd) z rfl ⟨Dd, snoc_get gr.b.af.ok.len.symm, rfl⟩
end
end Dl
set_option Elab.async false
set_option linter.all false
set_option maxRecDepth 100000
set_option maxHeartbeats 1000000
/-! The data layer: a dict with tuple keys walked while it is locked. -/
namespace Dl
open PySem PySem.Spec PyProof.Rows L2
section
variable {X : Cx}
theorem frzN {pins : List (Addr × Obj)} {σ : L2.St} {H : Hp} {s : Shared} {d : Addr} {o : Obj} {es : NE} (I : Inv X pins σ H s) (h : H d = some (.frz o (nD X.w d es))) : (d == sysModules) = false ∧ s.heap.get? d = some o ∧ o.ExactDict ∧ ∃ (xs : Array DictEntry) (ep : Nat) (ys : List (NestedKey × Addr × Value)),
    o.data = .dict xs ep ∧ xs.size = es.length ∧ Paired NPair es ys ∧ ∀ (i : Nat) (hi : i < xs.size), ∃ y, ys[i]? = some y ∧ xs[i].key = .ref y.2.1 ∧ xs[i].val = y.2.2 := by
  obtain ⟨hd, ⟨z, hs, n, ys, ob, xs, ep, p, ho, hx, hdt, he⟩, _⟩ := I.hok d _ h
  rw [hd] at ho
  cases ho
  have hl : xs.size = es.length := by rw [Paired.length p, ← Array.length_toList, he, List.length_map]
  refine ⟨hs, hd, hx, xs, ep, ys, hdt, hl, p, fun i hi => ?_⟩
  have e1 : xs.toList[i]? = some xs[i] := by rw [Array.getElem?_toList]; exact Array.getElem?_eq_getElem hi
  rw [he, List.getElem?_map] at e1
  obtain ⟨y, hy, ey⟩ := Option.map_eq_some_iff.mp e1
  exact ⟨y, hy, by rw [← ey], by rw [← ey]⟩
/-- the pairs, each a new tuple -/
def ItiN (w : World) (d : Addr) (o : Obj) (es : NE) : It :=
  ⟨fun i H => H d = some (.frz o (nD w d es)) ∧ i < es.length, fun i H x H' => ∃ T e, es[i]? = some e ∧ x = .ref T ∧ H T = none ∧ H' = upd H T (.tup [.ref e.2.1, e.2.2]), fun i H => H d = some (.frz o (nD w d es)) ∧ es.length ≤ i⟩
theorem turn_itemsN {P : Program} {w : World} {K : PySem.W.Frag} {d : Addr} {o : Obj} {xs : Array DictEntry} {ep : Nat} {es : NE} {elts : List Expr} {kk : Nat} {tpos : Pos} (it : Addr) (hod : o.data = .dict xs ep) :
    Turn P w K (.Tuple elts kk tpos) (ItiN w d o es) [it] it (fun i h => ∃ ok ov, IsItemIter h it d i es.length ep ok ov) where
  mem := by simp
  obj := fun i h st b hb => by
    cases List.mem_singleton.mp hb
    obtain ⟨ok, ov, e⟩ := st
    exact ⟨_, e, fun v z => nomatch z⟩
  keep := fun i h h' st k => let ⟨ok, ov, e⟩ := st; ⟨ok, ov, k it (by simp) _ e⟩
  item := by
    intro X hP hw hK hc i pins s σ H E I hf st hg
    subst hP hw hK
    obtain ⟨hd, hi⟩ := hg
    obtain ⟨hs, hgd, hx, xs', ep', ys, hdt, hsz, pr, ent⟩ := frzN I hd
    obtain ⟨rfl, rfl⟩ := dict_ep hod hdt
    obtain ⟨ok, ov, he⟩ := st
    rw [← hsz] at he
    have hlt : it < s.heap.objs.size := Heap.lt_size he
    have hi2 : i < xs'.size := by omega
    obtain ⟨y, hy, ek, ev⟩ := ent i hi2
    have hes : es[i]? = some es[i] := List.getElem?_eq_getElem hi
    obtain ⟨y', hy', np⟩ := paired_get pr hes
    rw [hy] at hy'
    cases hy'
    refine wpAny_pyNext_items_item_raw he ⟨o, hgd, hx, hdt⟩ hi2 fun h' ho hT hz hk => ?_
    refine ⟨_, rfl, wpAny_letOwnedTupleGo_items (s := { s with heap := h' }) ho fun g he' sb => ?_⟩
    rw [ek, ev] at hT
    have hT2 := (sb.2 _ (Nat.ne_of_gt hlt)).trans hT
    have new : ObjOk X.prog X.w (upd H s.heap.objs.size (.tup [.ref es[i].2.1, es[i].2.2])) g s.heap.objs.size (.tup [.ref es[i].2.1, es[i].2.2]) :=
      ⟨by show 2 ≤ sizeLine; decide, [.ref y.2.1, y.2.2], .cons (by rw [np.2.1]; exact rfl) (.cons np.2.2 .nil), ⟨_, hT2, rfl, _, rfl⟩⟩
    refine ⟨.ref s.heap.objs.size, _, I.turnedNew (t' := s.toks) (ch := [it]) (fun b ob hb e => (sb.2 b (by simpa using hb)).trans (hk b ob (by simpa using hb) e)) hf (Nat.le_refl _) new, rfl, ⟨_, _, hes, rfl, I.hok.fresh (Nat.le_refl _), rfl⟩, ⟨xs'[i].key, xs'[i].val, ?_⟩, fun b hb => ?_⟩
    · rw [← hsz]; exact he'
    · cases List.mem_singleton.mp hb
      rw [upd_ne (Nat.ne_of_lt hlt)]
      exact (hf it (by simp)).1
  done := by
    intro X hP hw hK hc i pins s σ H E I hf st hg
    subst hP hw hK
    obtain ⟨hd, hi⟩ := hg
    obtain ⟨f0, f1, f2, f3, f4, f5⟩ := hf it (by simp)
    obtain ⟨hs, hgd, hx, xs', ep', ys, hdt, hsz, pr, ent⟩ := frzN I hd
    obtain ⟨rfl, rfl⟩ := dict_ep hod hdt
    obtain ⟨ok, ov, he⟩ := st
    rw [← hsz] at he
    exact wpAny_pyNext_items_end_raw (I.ok.hd hc) he ⟨o, hgd, hx, hdt⟩ (by omega) fun h' eb => ⟨rfl, I.turned (t' := s.toks) (fun b ob hb e => eb b ob hb e) f0 f1 f3 f4 f5⟩
  self := fun A i s Q E st h => let ⟨_, _, e⟩ := st; PySem.W.kcp_self e h
/-- .. in d.items(), d locked -/
def iItemsN (w : World) (td : TE) : TI := fun σ H R => td σ H fun x H1 => ∃ d o es, x = .ref d ∧ H1 d = some (.frz o (nD w d es)) ∧ R (ItiN w d o es) H1
theorem pi_itemsN {e : Expr} {td : TE} {apos cpos : Pos} {elts : List Expr} {kk : Nat} {tpos : Pos} (he : PE X e td) (hbase : attributeBase e "items" X.env (eval e X.env) = eval e X.env := by rfl) (hline : (apos.endLine == cpos.line) = true := by rfl) :
    PI X (.Tuple elts kk tpos) (.Call (.Attribute e "items" apos) [] [] cpos) (iItemsN X.w td) := by
  refine ⟨fun pins s σ H R I h => ?_⟩
  refine wpAny_Call_method (T := "dict") (id := "dict.items") hbase rfl hline F.plainAttrs_dict F.slot_dict_items F.type_dict_items (thn (he.run pins s σ H _ I h) fun u s1 ⟨x, H1, I1, rx, d, o, es, ex, hd, q⟩ => ?_)
  subst ex
  obtain rfl : u = Value.ref d := rx
  obtain ⟨hs, hgd, hx, xs, ep, ys, hdt, hsz, pr, ent⟩ := frzN I1 hd
  have raw : s1.heap.DictRaw d xs ep := ⟨o, hgd, hx, hdt⟩
  refine ⟨raw.typeIs, fun b eb => by cases eb; exact ⟨o, hgd, hx.2.1⟩, ?_⟩
  have I2 : Inv X pins σ H1 { s1 with heap := s1.heap.push { cls := .type "dict_items", data := .fields #[.ref d] } } := I1.kept (t' := s1.toks) fun b ob q => Heap.get?_push_of_some _ q
  show wpAny _ _ (callWith cpos (.builtin "dict.items") [.ref d] [] []) _ X.xe s1
  refine method_meetsIn F.slot_dict_items F.entry_dict_items rfl (PySem.evalArgs_none ⟨rfl, raw.typeIs, F.args_dict_items_1 _, _, meets_dict_items_raw d hs, ⟨⟨xs, ep, raw⟩, ?_⟩⟩)
  refine wpAny_pyIter_items_raw (d := d) (es := xs) (ep := ep) ⟨_, Heap.get?_push_size _ rfl, rfl, rfl⟩ (raw.at fun o e => Heap.get?_push_of_some _ e) (pi_one (tk := s1.toks) I2 _ (turn_itemsN _ hdt) ⟨.none, .none, ?_⟩ q)
  rw [← hsz]
  exact Heap.get?_push_size _ rfl
end
end Dl
set_option Elab.async false
set_option linter.all false
set_option maxRecDepth 100000
set_option maxHeartbeats 1000000
/-! The data layer: for k, v in d.items(), d a changeable dict with tuple keys, which nobody changes meanwhile. -/
namespace Dl
open PySem PySem.Spec PyProof.Rows L2
section
variable {K : PySem.W.Frag} {cl : Cl} {w w4 : Wd} {i : Nat} {a : Addr} {ks vs : List D} {es : NE} {od : Obj}
def lockW (w : Wd) (i : Nat) (a : Addr) (o : HO) : Wd := ⟨upd w.H a o, w.F, w.m, w.S.set i none⟩
theorem lock_live (ok : w.Ok K cl) (ha : w.m[i]? = some a) {d : D} (hi : w.S[i]? = some (some d)) {o : HO} : ¬ Live (lockW w i a o) a := fun ⟨j, e, h1, h2⟩ => by
  have h1 : w.m[j]? = some a := h1
  have h2 : (w.S.set i none)[j]? = some (some e) := h2
  by_cases hj : i = j
  · subst hj
    have hl : i < w.S.length := (List.getElem?_eq_some_iff.mp hi).1
    rw [List.getElem?_set_self hl] at h2
    cases h2
  · rw [List.getElem?_set_ne hj] at h2
    exact hj (ok.inj i j a d e ha h1 hi h2)
theorem lock_af (ok : w.Ok K cl) (ha : w.m[i]? = some a) {d : D} (hi : w.S[i]? = some (some d)) {o : HO} : Af K cl w (lockW w i a o) where
  ok := ⟨by show w.m.length = (w.S.set i none).length; rw [List.length_set]; exact ok.len, fun b u h => by
      have n : b ≠ a := fun e => by
        have h : w.F b = some u := h
        rw [e, (ok.cell i a d ha hi).1] at h; cases h
      show upd w.H a o b = _
      rw [upd_ne n]; exact ok.sub b u h,
    fun j b e h1 h2 => by
      have h1 : w.m[j]? = some b := h1
      have h2 : (w.S.set i none)[j]? = some (some e) := h2
      have hj : i ≠ j := fun z => by
        subst z
        rw [List.getElem?_set_self (List.getElem?_eq_some_iff.mp hi).1] at h2
        cases h2
      rw [List.getElem?_set_ne hj] at h2
      obtain ⟨c1, c2⟩ := ok.cell j b e h1 h2
      have n : b ≠ a := fun z => hj (ok.inj i j b d e (z ▸ ha) h1 hi h2)
      exact ⟨c1, c2.of (upd_ne n) (fun _ _ h => h) fun _ _ h => h⟩,
    fun j j' b e e' h1 h2 h3 h4 => by
      have low : ∀ k e, (w.S.set i none)[k]? = some (some e) → w.S[k]? = some (some e) := fun k e h => by
        by_cases hk : i = k
        · subst hk
          rw [List.getElem?_set_self (List.getElem?_eq_some_iff.mp hi).1] at h
          cases h
        · rwa [List.getElem?_set_ne hk] at h
      exact ok.inj j j' b e e' h1 h2 (low j e h3) (low j' e' h4)⟩
  fz := fun _ _ h => h
  mu := fun _ _ h => h
  keep := fun b u h n => by
    have hb : b ≠ a := fun e => n (e ▸ ⟨i, d, ha, hi⟩)
    show upd w.H a o b = _
    rw [upd_ne hb]; exact h
  new := fun _ _ h => .inl h
  liv := fun b ⟨j, e, h1, h2⟩ => .inl (by
    have h2 : (w.S.set i none)[j]? = some (some e) := h2
    by_cases hk : i = j
    · subst hk
      rw [List.getElem?_set_self (List.getElem?_eq_some_iff.mp hi).1] at h2
      cases h2
    · rw [List.getElem?_set_ne hk] at h2
      exact ⟨j, e, h1, h2⟩)
theorem lock_held (ok : w.Ok K cl) (ha : w.m[i]? = some a) {d : D} (hi : w.S[i]? = some (some d)) {o : HO} (x : Af K cl (lockW w i a o) w4) : w4.H a = some o ∧ w4.F a = none ∧ ¬ Live w4 a := by
  have nl := lock_live (o := o) ok ha hi
  have ho : (lockW w i a o).H a = some o := upd_same
  refine ⟨x.keep a o ho nl, ?_, fun l => ?_⟩
  · cases q : w4.F a with
    | none => rfl
    | some u =>
      rcases x.new a u q with z | z | z
      · have z : w.F a = some u := z
        rw [(ok.cell i a d ha hi).1] at z; cases z
      · rw [ho] at z; cases z
      · exact (nl z).elim
  · rcases x.liv a l with z | z
    · exact nl z
    · rw [ho] at z; cases z
theorem unlock_af (ok : w.Ok K cl) (ha : w.m[i]? = some a) (hi : w.S[i]? = some (some (.dit ks vs))) (nr : NR K cl w.F w.m ks vs es) (x : Af K cl (lockW w i a (.frz od (nD cl.w a es))) w4) (h4 : w4.S[i]? = some none) :
    Af K cl w ⟨upd w4.H a (nD cl.w a es), w4.F, w4.m, w4.S.set i (some (.dit ks vs))⟩ := by
  obtain ⟨q1, q2, q3⟩ := lock_held ok ha hi x
  have y := (lock_af (o := .frz od (nD cl.w a es)) ok ha hi).trans x
  have hil : i < w4.S.length := (List.getElem?_eq_some_iff.mp h4).1
  have m4 : w4.m[i]? = some a := y.mu i a ha
  have nr4 := nr.mono y.fz y.mu
  have low : ∀ k e, (w4.S.set i (some (.dit ks vs)))[k]? = some (some e) → (k = i ∧ e = .dit ks vs) ∨ (k ≠ i ∧ w4.S[k]? = some (some e)) := fun k e h => by
    by_cases hk : i = k
    · subst hk
      rw [List.getElem?_set_self hil] at h
      cases h
      exact .inl ⟨rfl, rfl⟩
    · rw [List.getElem?_set_ne hk] at h
      exact .inr ⟨fun z => hk z.symm, h⟩
  refine ⟨⟨?_, fun b u h => ?_, fun j b e h1 h2 => ?_, fun j j' b e e' h1 h2 h3 h5 => ?_⟩, y.fz, y.mu, fun b u h n => ?_, y.new, fun b ⟨j, e, h1, h2⟩ => ?_⟩
  · show w4.m.length = (w4.S.set i _).length
    rw [List.length_set]; exact y.ok.len
  · have h : w4.F b = some u := h
    have n : b ≠ a := fun e => by rw [e, q2] at h; cases h
    show upd w4.H a _ b = _
    rw [upd_ne n]; exact y.ok.sub b u h
  · have h1 : w4.m[j]? = some b := h1
    rcases low j e h2 with ⟨hj, he⟩ | ⟨hj, he⟩
    · subst hj he
      rw [m4] at h1
      cases h1
      exact ⟨q2, es, upd_same, nr4.n, nr4.k, nr4.v⟩
    · obtain ⟨c1, c2⟩ := y.ok.cell j b e h1 he
      have n : b ≠ a := fun z => q3 (z ▸ ⟨j, e, h1, he⟩)
      exact ⟨c1, c2.of (upd_ne n) (fun _ _ h => h) fun _ _ h => h⟩
  · have h1 : w4.m[j]? = some b := h1
    have h2 : w4.m[j']? = some b := h2
    rcases low j e h3 with ⟨hj, he⟩ | ⟨hj, he⟩
    · rcases low j' e' h5 with ⟨hj', he'⟩ | ⟨hj', he'⟩
      · rw [hj, hj']
      · rw [hj, m4] at h1
        cases h1
        exact (q3 ⟨j', e', h2, he'⟩).elim
    · rcases low j' e' h5 with ⟨hj', he'⟩ | ⟨hj', he'⟩
      · rw [hj', m4] at h2
        cases h2
        exact (q3 ⟨j, e, h1, he⟩).elim
      · exact y.ok.inj j j' b e e' h1 h2 he he'
  · have hb : b ≠ a := fun e => n (e ▸ ⟨i, _, ha, hi⟩)
    show upd w4.H a _ b = _
    rw [upd_ne hb]; exact y.keep b u h n
  · rcases low j e h2 with ⟨hj, he⟩ | ⟨hj, he⟩
    · have h1 : w4.m[j]? = some b := h1
      rw [hj, m4] at h1
      cases h1
      exact .inl ⟨i, _, ha, hi⟩
    · exact y.liv b ⟨j, e, h1, he⟩
end
def hid (S : Sto) (i : Nat) : Bool := match S[i]? with
  | some none => true
  | _ => false
theorem hid_is {S : Sto} {i : Nat} (h : hid S i = true) : S[i]? = some none := by
  unfold hid at h
  split at h
  · assumption
  · cases h
/-- the cell i as it was -/
def again (i : Nat) (d : D) : SOut → SOut
  | .nx t S => if hid S i = true then .nx t (S.set i (some d)) else .bad
  | .rt r S => if hid S i = true then .rt r (S.set i (some d)) else .bad
  | _ => .bad
def dForItN (g : Tg) (de : DE) (db : DS) : DS := fun t S => match de t S with
  | .ok (.ptr i) _ => (match S[i]? with
    | some (some (.dit ks vs)) => (match de t (S.set i none) with
      | .ok (.ptr j) S1 => if j = i then again i (.dit ks vs) (dLoop g db (pairsD ks vs) t S1) else .bad
      | _ => .bad)
    | _ => .bad)
  | _ => .bad
section
variable {X : Cx} {cl : Cl} {W : WX} {e : Expr} {de : DE} {db : DS} {g : Tg} {body : List Stmt} {elts : List Expr} {kk : Nat} {tpos apos cpos pos : Pos}
/-- the turns of a for over what J gives -/
theorem for_turns {N : Ends} {w1 : Wd} {t : Lc} {σ : L2.St} {xs : List D} {J : It} (ok : w1.Ok X.K cl) (en : EnvR X.K cl w1 t σ) (hJ : Wk X.K cl w1 xs J) (p : SPost X.K cl W N w1 (dLoop g db xs t w1.S)) :
    ∃ Wi : Nat → Nat → L2.St → Hp → Prop, (∃ m, Wi 0 m σ w1.H) ∧ ∀ i m σ H, Wi i m σ H → (J.stop i H ∧ N.nx σ H) ∨ (J.go i H ∧ ∃ M : L2.St → Hp → Prop, (∀ σ' H', M σ' H' → ∃ m', m' < m ∧ Wi (i + 1) m' σ' H') ∧
      ∀ x H', J.yld i H x H' → tgT X.K g x σ H' fun σ2 H2 => upS X.K cl W db { N with nx := M, ct := M, bk := N.nx } σ2 H2) := by
  refine ⟨fun i m σ H => ∃ w2 t2, w2.H = H ∧ Af X.K cl w1 w2 ∧ EnvR X.K cl w2 t2 σ ∧ m = xs.length - i ∧ i ≤ xs.length ∧ SPost X.K cl W N w2 (dLoop g db (xs.drop i) t2 w2.S), ⟨_, w1, t, rfl, Af.refl ok, en, rfl, Nat.zero_le _, p⟩, ?_⟩
  rintro i m σ2 H2 ⟨w2, t2, rfl, a2, en2, rfl, hi', p2⟩
  by_cases hl : i < xs.length
  · obtain ⟨go, yl⟩ := (hJ w2 a2 i).1 _ (List.getElem?_eq_getElem hl)
    rw [List.drop_eq_getElem_cons hl] at p2
    refine .inr ⟨go, fun σ' H' => ∃ w4 t4, w4.H = H' ∧ Af X.K cl w1 w4 ∧ EnvR X.K cl w4 t4 σ' ∧ SPost X.K cl W N w4 (dLoop g db (xs.drop (i + 1)) t4 w4.S), fun σ' H' ⟨w4, t4, e4, a4, en4, p4⟩ => ⟨xs.length - (i + 1), by omega, w4, t4, e4, a4, en4, rfl, hl, p4⟩, fun v H' hy => ?_⟩
    obtain ⟨w3, rfl, a3, e3, rv⟩ := yl v H' hy
    have p2' : SPost X.K cl W N w2 (match g.set xs[i] t2 with
      | none => .bad
      | some t1 => match db t1 w2.S with
        | .nx t2 S2 => dLoop g db (xs.drop (i + 1)) t2 S2
        | .ct t2 S2 => dLoop g db (xs.drop (i + 1)) t2 S2
        | .bk t2 S2 => .nx t2 S2
        | o => o) := p2
    split at p2'
    · exact p2'.elim
    · rename_i t1 et
      refine Tg.ok a3.ok (en2.af a3) rv et fun σ' en' _ => ⟨w3, t1, rfl, a3.ok, en', ?_⟩
      rw [e3]
      have p3 := SPost.after p2' a3
      have go2 : ∀ (t5 : Lc) (S5 : Sto), SPost X.K cl W N w3 (dLoop g db (xs.drop (i + 1)) t5 S5) → ∀ (w4 : Wd) (σ4 : L2.St), Af X.K cl w3 w4 → w4.S = S5 → EnvR X.K cl w4 t5 σ4 → ∃ w5 t6, w5.H = w4.H ∧ Af X.K cl w1 w5 ∧ EnvR X.K cl w5 t6 σ4 ∧ SPost X.K cl W N w5 (dLoop g db (xs.drop (i + 1)) t6 w5.S) :=
        fun t5 S5 p4 w4 σ4 a4 e4 en4 => ⟨w4, t5, rfl, (a2.trans a3).trans a4, en4, by rw [e4]; exact SPost.after p4 a4⟩
      cases hq : db t1 w2.S with
      | nx t5 S5 => rw [hq] at p3; exact go2 t5 S5 p3
      | ct t5 S5 => rw [hq] at p3; exact go2 t5 S5 p3
      | bk t5 S5 => rw [hq] at p3; exact p3
      | rt d S5 => rw [hq] at p3; exact p3
      | exc t5 c ns vs S5 => rw [hq] at p3; exact p3
      | bad => rw [hq] at p3; exact p3
  · have e : i = xs.length := by omega
    subst e
    rw [List.drop_length] at p2
    exact .inl ⟨(hJ w2 a2 _).2 (Nat.le_refl _), p2 w2 σ2 (Af.refl a2.ok) rfl en2⟩
theorem wk_itemsN {w w1 : Wd} {i : Nat} {a : Addr} {ks vs : List D} {es : NE} {od : Obj} (hw : cl.w = X.w) (ok : w.Ok X.K cl) (ha : w.m[i]? = some a) (hi : w.S[i]? = some (some (.dit ks vs))) (nr : NR X.K cl w.F w.m ks vs es)
    (x1 : Af X.K cl (lockW w i a (.frz od (nD cl.w a es))) w1) : Wk X.K cl w1 (pairsD ks vs) (ItiN X.w a od es) := fun w2 x2 j => by
  obtain ⟨hH, _, _⟩ := lock_held ok ha hi (x1.trans x2)
  rw [hw] at hH
  have y := ((lock_af (o := .frz od (nD cl.w a es)) ok ha hi).trans x1).trans x2
  have nr2 := nr.mono y.fz y.mu
  refine ⟨fun d hd => ?_, fun hj => ⟨hH, ?_⟩⟩
  · obtain ⟨x, z, g1, g2, g3⟩ := pairs_get _ _ _ hd
    obtain ⟨u, hu, ru⟩ := nr2.k.get g1
    obtain ⟨u2, hu2, ru2⟩ := nr2.v.get g2
    obtain ⟨en, hen, een⟩ := map_get hu
    rw [List.getElem?_map, hen] at hu2
    have hu2' : en.2.2 = u2 := by simpa using hu2
    have hl : j < es.length := (List.getElem?_eq_some_iff.mp hen).1
    refine ⟨⟨hH, hl⟩, fun v' H' ⟨T, e', h1, h2, hT, h3⟩ => ?_⟩
    rw [hen] at h1
    cases h1
    obtain ⟨w3, q1, q2, q3, q4⟩ := tup_laid (ds := [x, z]) x2.ok hT (Reps.cons (een ▸ ru) (Reps.one (hu2' ▸ ru2)))
    refine ⟨w3, q1.trans h3.symm, q2, q3, ?_⟩
    rw [h2, g3]
    exact q4
  · rw [pairs_len] at hj
    have l1 := nr.length
    have l2 := Reps.length nr.v
    rw [List.length_map] at l2
    omega
theorem s_forItN (hw : cl.w = X.w) (hp : PassesOwn (model X.prog X.w) X.A X.env X.xe) (hc : X.calm = true) (he : UE X cl W e de) (hg : PG X (.Tuple elts kk tpos) (tgT X.K g)) (hb : USs X cl W body db) (hbase : attributeBase e "items" X.env (eval e X.env) = eval e X.env := by rfl) (hline : (apos.endLine == cpos.line) = true := by rfl)
    (hs : ∀ x, foldedSetIterable (.Call (.Attribute e "items" apos) [] [] cpos) X.env x = pure x := by intro _; rfl) : US X cl W (.For (.Tuple elts kk tpos) (.Call (.Attribute e "items" apos) [] [] cpos) body [] pos) (dForItN g de db) :=
  weakS (ps_lock (ps_for hp hc (pi_itemsN he hbase hline) hg hb hs)) fun N σ H ⟨w, t, eH, ok, en, p⟩ => by
    subst eH
    unfold dForItN at p
    split at p
    · rename_i i S0 h0
      split at p
      · rename_i ks vs hi
        split at p
        · rename_i j S1 h1
          split at p
          · rename_i hj
            subst hj
            have hil : j < w.m.length := by rw [ok.len]; exact (List.getElem?_eq_some_iff.mp hi).1
            obtain ⟨a, ha⟩ : ∃ a, w.m[j]? = some a := ⟨_, List.getElem?_eq_getElem hil⟩
            obtain ⟨c1, es, c2, c3, c4, c5⟩ := ok.cell j a _ ha hi
            have nr : NR X.K cl w.F w.m ks vs es := ⟨c3, c4, c5⟩
            refine ⟨a, _, c2, True.intro, fun od => ?_⟩
            have x0 := lock_af (o := .frz od (nD cl.w a es)) ok ha hi
            refine ⟨lockW w j a (.frz od (nD cl.w a es)), t, rfl, x0.ok, en.af x0, ?_⟩
            show OPost X.K cl _ _ _ _ (de t (w.S.set j none))
            rw [h1]
            intro w1 v x1 e1 r1
            obtain ⟨b, hb1, ev⟩ := r1
            rw [x1.mu j a ha] at hb1
            cases hb1
            obtain ⟨hH, _, _⟩ := lock_held ok ha hi x1
            refine ⟨a, od, es, ev, by rw [hH, hw], ?_⟩
            have en1 := (en.af x0).af x1
            refine for_turns (xs := pairsD ks vs) x1.ok en1 (wk_itemsN hw ok ha hi nr x1) ?_
            rw [e1]
            cases ho : dLoop g db (pairsD ks vs) t S1 with
            | nx t5 S5 =>
              rw [ho] at p
              intro w4 σ4 x4 e4 en4
              have x14 := x1.trans x4
              refine ⟨(lock_held ok ha hi x14).1, ?_⟩
              have p : SPost X.K cl W N w (if hid S5 j = true then .nx t5 (S5.set j (some (.dit ks vs))) else .bad) := p
              split at p
              · rename_i h5
                have y := unlock_af ok ha hi nr x14 (by rw [e4]; exact hid_is h5)
                exact p ⟨upd w4.H a (nD cl.w a es), w4.F, w4.m, w4.S.set j (some (.dit ks vs))⟩ σ4 y (by show w4.S.set j _ = _; rw [e4]) ⟨en4.len, en4.at_⟩
              · exact p.elim
            | rt d S5 =>
              rw [ho] at p
              intro w4 v4 x4 e4 r4
              have x14 := x1.trans x4
              refine ⟨(lock_held ok ha hi x14).1, ?_⟩
              have p : SPost X.K cl W N w (if hid S5 j = true then .rt d (S5.set j (some (.dit ks vs))) else .bad) := p
              split at p
              · rename_i h5
                have y := unlock_af ok ha hi nr x14 (by rw [e4]; exact hid_is h5)
                exact p ⟨upd w4.H a (nD cl.w a es), w4.F, w4.m, w4.S.set j (some (.dit ks vs))⟩ v4 y (by show w4.S.set j _ = _; rw [e4]) r4
              · exact p.elim
            | bk t5 S5 => rw [ho] at p; exact p.elim
            | ct t5 S5 => rw [ho] at p; exact p.elim
            | exc t5 c ns vs S5 => rw [ho] at p; exact p.elim
            | bad => rw [ho] at p; exact p.elim
          · exact p.elim
        · exact p.elim
      · exact p.elim
    · exact p.elim
end
end Dl
set_option Elab.async false
set_option linter.all false
set_option maxRecDepth 100000
set_option maxHeartbeats 1000000
/-! The data layer: [e for a in x for b in y]; the list that is made is a cell from the start. -/
namespace Dl
open PySem PySem.Spec PyProof.Rows L2
section
variable {X : Cx} {cl : Cl} {W : WX}
def pushAt (k : Nat) (y : D) (S : Sto) : Option Sto := match S[k]? with
  | some (some (.lst acc)) => if acc.length < sizeLine then some (S.set k (some (.lst (acc ++ [y])))) else none
  | _ => none
def lcIn (k : Nat) (g : Tg) (dt : DB) (de : DE) (t : Lc) : List D → Sto → Out Unit
  | [], S => .ok () S
  | d :: r, S => match g.set d t with
    | none => .bad
    | some t1 => (dt t1 S).calm.bind fun b S1 => if b = true then (de t1 S1).calm.bind fun y S2 => (match pushAt k y S2 with
        | some S3 => lcIn k g dt de t r S3
        | none => .bad) else lcIn k g dt de t r S1
def lcOut (k : Nat) (g : Tg) (dt : DB) (di1 : DA) (vs1 : List Nat) (g1 : Tg) (dt1 : DB) (de : DE) (t : Lc) : List D → Sto → Out Unit
  | [], S => .ok () S
  | d :: r, S => match g.set d t with
    | none => .bad
    | some t1 => (dt t1 S).calm.bind fun b S1 => if b = true then (di1 t1 S1).calm.bind fun xs1 S2 => (lcIn k g1 dt1 de (wipeD vs1 t1) xs1 S2).bind fun _ S3 => lcOut k g dt di1 vs1 g1 dt1 de t r S3 else lcOut k g dt di1 vs1 g1 dt1 de t r S1
def dLc2C (vs : List Nat) (g : Tg) (di : DA) (dt : DB) (di1 : DA) (vs1 : List Nat) (g1 : Tg) (dt1 : DB) (de : DE) : DE := fun t S => (di t S).bind fun xs S1 => (lcOut S1.length g dt di1 vs1 g1 dt1 de (wipeD vs t) xs (S1 ++ [some (.lst [])])).bind fun _ S2 => .ok (.ptr S1.length) S2
theorem pushAt_ok {K : PySem.W.Frag} {w : Wd} {k : Nat} {Dd : Addr} {y : D} {vy : V} {S3 : Sto} (ok : w.Ok K cl) (hk : w.m[k]? = some Dd) (r : RV K cl w y vy) (h : pushAt k y w.S = some S3) :
    ∃ acc, w.H Dd = some (.lst acc) ∧ acc.length < sizeLine ∧ ∃ w3 : Wd, w3.H = upd w.H Dd (.lst (acc ++ [vy])) ∧ w3.S = S3 ∧ Af K cl w w3 := by
  unfold pushAt at h
  split at h
  · rename_i ds hS
    split at h
    · rename_i hl
      cases h
      obtain ⟨_, xs, e, rr⟩ := ok.cell k Dd _ hk hS
      refine ⟨xs, e, by rw [← rr.length]; exact hl, ⟨upd w.H Dd (.lst (xs ++ [vy])), w.F, w.m, w.S.set k (some (.lst (ds ++ [y])))⟩, rfl, rfl, ?_⟩
      exact ok.cellSet (u := .lst (xs ++ [vy])) (d := .lst (ds ++ [y])) hk hS ⟨_, upd_same, rr.append (Reps.one r)⟩
    · cases h
  · cases h
theorem lcIn_run {K : PySem.W.Frag} {vs : List Nat} {g : Tg} {dt : DB} {de : DE} {σ : L2.St} {w0 w : Wd} {t : Lc} {xs : List D} {J : It} {Q : VK} {fin : Unit → Sto → Out D} {W' : Value → Option Addr → Hp → Prop} {k : Nat} {Dd : Addr} {P : Hp → Prop} (hsl : ∀ i ∈ g.slots, i ∈ vs)
    (ok : w.Ok K cl) (hk : w.m[k]? = some Dd) (en : EnvR K cl w t σ) (hJ : Wk K cl w xs J) (p : OPost K cl (RV K cl) W' w0 Q ((lcIn k g dt de (wipeD vs t) xs w.S).bind fin))
    (done : ∀ w2 : Wd, Af K cl w w2 → OPost K cl (RV K cl) W' w0 Q (fin () w2.S) → P w2.H) :
    ∃ Wi : Nat → Nat → Hp → Prop, (∃ m, Wi 0 m w.H) ∧ ∀ i m H, Wi i m H →
      (J.stop i H ∧ P H) ∨ (J.go i H ∧ ∃ Nx : Hp → Prop, (∀ H', Nx H' → ∃ m', m' < m ∧ Wi (i + 1) m' H') ∧ ∀ x H', J.yld i H x H' → tgT K g x (L2.wipe σ vs) H' fun σ2 H2 => L2.wipe σ2 vs = L2.wipe σ vs ∧ upB K cl W0 dt σ2 H2 fun b H3 =>
        if b = true then upE K cl W0 de σ2 H3 fun y H4 => ∃ acc, H4 Dd = some (.lst acc) ∧ acc.length < sizeLine ∧ Nx (upd H4 Dd (.lst (acc ++ [y]))) else Nx H3) := by
  refine ⟨fun i m H => ∃ w2, w2.H = H ∧ Af K cl w w2 ∧ m = xs.length - i ∧ i ≤ xs.length ∧ OPost K cl (RV K cl) W' w0 Q ((lcIn k g dt de (wipeD vs t) (xs.drop i) w2.S).bind fin), ⟨_, w, rfl, Af.refl ok, rfl, Nat.zero_le _, p⟩, ?_⟩
  rintro i m H ⟨w2, rfl, a2, rfl, hi, p2⟩
  by_cases hl : i < xs.length
  · obtain ⟨go, yl⟩ := (hJ w2 a2 i).1 _ (List.getElem?_eq_getElem hl)
    rw [List.drop_eq_getElem_cons hl] at p2
    refine .inr ⟨go, fun H' => ∃ w6, w6.H = H' ∧ Af K cl w w6 ∧ OPost K cl (RV K cl) W' w0 Q ((lcIn k g dt de (wipeD vs t) (xs.drop (i + 1)) w6.S).bind fin), fun H' ⟨w6, e6, a6, p6⟩ => ⟨xs.length - (i + 1), by omega, w6, e6, a6, rfl, hl, p6⟩, fun v H' hy => ?_⟩
    obtain ⟨w3, rfl, a3, e3, rv⟩ := yl v H' hy
    unfold lcIn at p2
    split at p2
    · exact p2.elim
    · rename_i t1 et
      refine Tg.ok a3.ok (((en.af a2).af a3).wipe vs) rv et fun σ' en' hwp => ⟨?_, ?_⟩
      · rw [hwp vs hsl, wipe_wipe (fun i h => h)]
      rw [← e3, Out.assoc] at p2
      refine ⟨w3, t1, rfl, a3.ok, en', calm_bindB p2 fun b w4 b' a4 eb p4 => ?_⟩
      cases (show b = b' from eb)
      have x4 := (a2.trans a3).trans a4
      cases b with
      | false => exact ⟨w4, rfl, x4, p4⟩
      | true =>
        rw [if_pos rfl] at p4 ⊢
        rw [Out.assoc] at p4
        refine ⟨w4, t1, rfl, a4.ok, en'.af a4, calm_bindB p4 fun y w5 vy a5 ry p5 => ?_⟩
        have x5 := x4.trans a5
        cases h5 : pushAt k y w5.S with
        | none => rw [h5] at p5; exact p5.elim
        | some S3 =>
          rw [h5] at p5
          obtain ⟨acc, h1, h2, w7, h3, h4, x7⟩ := pushAt_ok x5.ok (x5.mu k Dd hk) ry h5
          exact ⟨acc, h1, h2, w7, h3, x5.trans x7, by rw [h4]; exact p5⟩
  · have e : i = xs.length := by omega
    subst e
    rw [List.drop_length] at p2
    exact .inl ⟨(hJ w2 a2 _).2 (Nat.le_refl _), done w2 a2 p2⟩
theorem lcOut_run {K : PySem.W.Frag} {vs vs1 : List Nat} {g g1 : Tg} {dt dt1 : DB} {di1 : DA} {de : DE} {σ : L2.St} {w0 w : Wd} {t : Lc} {xs : List D} {J : It} {Q : VK} {fin : Unit → Sto → Out D} {W' : Value → Option Addr → Hp → Prop} {k : Nat} {Dd : Addr} {P : Hp → Prop} (hsl : ∀ i ∈ g.slots, i ∈ vs) (hsl1 : ∀ i ∈ g1.slots, i ∈ vs1)
    (ok : w.Ok K cl) (hk : w.m[k]? = some Dd) (en : EnvR K cl w t σ) (hJ : Wk K cl w xs J) (p : OPost K cl (RV K cl) W' w0 Q ((lcOut k g dt di1 vs1 g1 dt1 de (wipeD vs t) xs w.S).bind fin))
    (done : ∀ w2 : Wd, Af K cl w w2 → OPost K cl (RV K cl) W' w0 Q (fin () w2.S) → P w2.H) :
    ∃ Wi : Nat → Nat → Hp → Prop, (∃ m, Wi 0 m w.H) ∧ ∀ i m H, Wi i m H →
      (J.stop i H ∧ P H) ∨ (J.go i H ∧ ∃ Nx : Hp → Prop, (∀ H', Nx H' → ∃ m', m' < m ∧ Wi (i + 1) m' H') ∧ ∀ x H', J.yld i H x H' → tgT K g x (L2.wipe σ vs) H' fun σ2 H2 => L2.wipe σ2 vs = L2.wipe σ vs ∧ upB K cl W0 dt σ2 H2 fun b H3 =>
        if b = true then upI K cl W0 di1 σ2 H3 fun J1 H4 => ∃ W1 : Nat → Nat → Hp → Prop, (∃ m, W1 0 m H4) ∧ ∀ j k H, W1 j k H →
          (J1.stop j H ∧ Nx H) ∨ (J1.go j H ∧ ∃ Nx1 : Hp → Prop, (∀ H', Nx1 H' → ∃ k', k' < k ∧ W1 (j + 1) k' H') ∧ ∀ x H', J1.yld j H x H' → tgT K g1 x (L2.wipe σ2 vs1) H' fun σ3 H5 => L2.wipe σ3 vs1 = L2.wipe σ2 vs1 ∧ upB K cl W0 dt1 σ3 H5 fun b H6 =>
            if b = true then upE K cl W0 de σ3 H6 fun y H7 => ∃ acc, H7 Dd = some (.lst acc) ∧ acc.length < sizeLine ∧ Nx1 (upd H7 Dd (.lst (acc ++ [y]))) else Nx1 H6)
        else Nx H3) := by
  refine ⟨fun i m H => ∃ w2, w2.H = H ∧ Af K cl w w2 ∧ m = xs.length - i ∧ i ≤ xs.length ∧ OPost K cl (RV K cl) W' w0 Q ((lcOut k g dt di1 vs1 g1 dt1 de (wipeD vs t) (xs.drop i) w2.S).bind fin), ⟨_, w, rfl, Af.refl ok, rfl, Nat.zero_le _, p⟩, ?_⟩
  rintro i m H ⟨w2, rfl, a2, rfl, hi, p2⟩
  by_cases hl : i < xs.length
  · obtain ⟨go, yl⟩ := (hJ w2 a2 i).1 _ (List.getElem?_eq_getElem hl)
    rw [List.drop_eq_getElem_cons hl] at p2
    refine .inr ⟨go, fun H' => ∃ w6, w6.H = H' ∧ Af K cl w w6 ∧ OPost K cl (RV K cl) W' w0 Q ((lcOut k g dt di1 vs1 g1 dt1 de (wipeD vs t) (xs.drop (i + 1)) w6.S).bind fin), fun H' ⟨w6, e6, a6, p6⟩ => ⟨xs.length - (i + 1), by omega, w6, e6, a6, rfl, hl, p6⟩, fun v H' hy => ?_⟩
    obtain ⟨w3, rfl, a3, e3, rv⟩ := yl v H' hy
    unfold lcOut at p2
    split at p2
    · exact p2.elim
    · rename_i t1 et
      refine Tg.ok a3.ok (((en.af a2).af a3).wipe vs) rv et fun σ' en' hwp => ⟨?_, ?_⟩
      · rw [hwp vs hsl, wipe_wipe (fun i h => h)]
      rw [← e3, Out.assoc] at p2
      refine ⟨w3, t1, rfl, a3.ok, en', calm_bindB p2 fun b w4 b' a4 eb p4 => ?_⟩
      cases (show b = b' from eb)
      have x4 := (a2.trans a3).trans a4
      cases b with
      | false => exact ⟨w4, rfl, x4, p4⟩
      | true =>
        rw [if_pos rfl] at p4 ⊢
        rw [Out.assoc] at p4
        refine ⟨w4, t1, rfl, a4.ok, en'.af a4, calm_bindB (R' := Wk K cl) p4 fun xs1 w5 J1 a5 hJ1 p5 => ?_⟩
        rw [Out.assoc] at p5
        have x5 := x4.trans a5
        exact lcIn_run hsl1 a5.ok (x5.mu k Dd hk) ((en'.af a4).af a5) hJ1 p5 fun w6 x6 p6 => ⟨w6, rfl, x5.trans x6, p6⟩
  · have e : i = xs.length := by omega
    subst e
    rw [List.drop_length] at p2
    exact .inl ⟨(hJ w2 a2 _).2 (Nat.le_refl _), done w2 a2 p2⟩
variable {dt dt1 : DB} {de : DE} {di di1 : DA} {g g1 : Tg} {elt tg iter tg1 iter1 : Expr} {ifs ifs1 : List Expr} {scope : Scope} {own : List (Str × Nat)} {pos : Pos}
theorem le_lc2C {K : PySem.W.Frag} {vs vs1 : List Nat} {σ : L2.St} {H : Hp} {Q : VK} (hsl : ∀ i ∈ g.slots, i ∈ vs) (hsl1 : ∀ i ∈ g1.slots, i ∈ vs1) (q : upE K cl W (dLc2C vs g di dt di1 vs1 g1 dt1 de) σ H Q) : tLc2 (upI K cl W di) (tgT K g) (upB K cl W0 dt) (upI K cl W0 di1) (tgT K g1) (upB K cl W0 dt1) (upE K cl W0 de) vs vs1 σ H Q := by
  obtain ⟨w, t, eH, ok, en, p⟩ := q
  refine ⟨w, t, eH, ok, en, OPost.bind p fun xs w1 J a1 hJ p1 => fun Dd hD => ?_⟩
  have x2 := a1.ok.cellNew (K := K) (u := .lst []) (d := .lst []) hD ⟨[], upd_same, rfl⟩
  have hk : (w1.m ++ [Dd])[w1.S.length]? = some Dd := snoc_get a1.ok.len.symm
  refine lcOut_run (w := ⟨upd w1.H Dd (.lst []), w1.F, w1.m ++ [Dd], w1.S ++ [some (.lst [])]⟩) hsl hsl1 x2.ok hk ((en.af a1).af x2) (hJ.af x2) p1 fun w2 x p2 => ?_
  exact p2 w2 (.ref Dd) (x2.trans x) rfl ⟨Dd, x.mu _ _ hk, rfl⟩
theorem u_lc2C (vs vs1 : List Nat) (hvs : own.map (·.2) = vs) (hsl : ∀ i ∈ g.slots, i ∈ vs) (hsl1 : ∀ i ∈ g1.slots, i ∈ vs1) (h1 : ∀ i ∈ vs1, i ∈ vs) (hc : X.calm = true) (hN : X.N.Nodup) (hi : UI X cl W tg iter di) (ok : BlkOk X.N X.env.scope scope own) (hg : Blk X scope fun Y => PG Y tg (tgT X.K g)) (ht : Blk X scope fun Y => UTs Y cl ifs dt)
    (hi1 : Blk X scope fun Y => UI Y cl W0 tg1 iter1 di1) (hg1 : Blk X scope fun Y => PG Y tg1 (tgT X.K g1)) (ht1 : Blk X scope fun Y => UTs Y cl ifs1 dt1) (he : Blk X scope fun Y => UE Y cl W0 elt de) (hs : ∀ x, foldedSetIterable iter X.env x = pure x := by intro _; rfl) (hs1 : ∀ env x, foldedSetIterable iter1 env x = pure x := by intro _ _; rfl) :
    UE X cl W (.ListComp elt [⟨tg, iter, ifs, 0⟩, ⟨tg1, iter1, ifs1, 0⟩] scope pos) (dLc2C vs g di dt di1 vs1 g1 dt1 de) :=
  weakE (pe_lc2 (vs1 := vs1) hc hN hi ok (by rw [hvs]; exact h1) hg ht hi1 hg1 ht1 he hs hs1) fun σ H Q q => by
    rw [hvs]
    exact le_lc2C hsl hsl1 q
theorem s_setLc2C {i : Nat} {y : Str} {py spos : Pos} (vs vs1 : List Nat) (hvs : own.map (·.2) = vs) (hsl : ∀ i ∈ g.slots, i ∈ vs) (hsl1 : ∀ i ∈ g1.slots, i ∈ vs1) (h1 : ∀ i ∈ vs1, i ∈ vs) (hc : X.calm = true) (hN : X.N.Nodup) (hy : X.N[i]? = some y) (hyl : X.env.scope.names.lookup y = some .local)
    (hsw : swapsWith (.ListComp elt [⟨tg, iter, ifs, 0⟩, ⟨tg1, iter1, ifs1, 0⟩] scope pos) (some (.Name y py)) spos.line X.env = pure true) (hi : UI X cl W tg iter di) (ok : BlkOk X.N X.env.scope scope own) (hg : Blk X scope fun Y => PG Y tg (tgT X.K g)) (ht : Blk X scope fun Y => UTs Y cl ifs dt)
    (hi1 : Blk X scope fun Y => UI Y cl W0 tg1 iter1 di1) (hg1 : Blk X scope fun Y => PG Y tg1 (tgT X.K g1)) (ht1 : Blk X scope fun Y => UTs Y cl ifs1 dt1) (he : Blk X scope fun Y => UE Y cl W0 elt de) (hs : ∀ x, foldedSetIterable iter X.env x = pure x := by intro _; rfl) (hs1 : ∀ env x, foldedSetIterable iter1 env x = pure x := by intro _ _; rfl) :
    US X cl W (.Assign [.Name y py] (.ListComp elt [⟨tg, iter, ifs, 0⟩, ⟨tg1, iter1, ifs1, 0⟩] scope pos) spos) (dSet i (dLc2C vs g di dt di1 vs1 g1 dt1 de)) :=
  weakS (ps_setLc2 (vs1 := vs1) hc hN hy hyl hsw hi ok (by rw [hvs]; exact h1) hg ht hi1 hg1 ht1 he hs hs1) fun N σ H ⟨w, t, eH, hok, en, p⟩ => by
    rw [hvs]
    exact le_lc2C hsl hsl1 ⟨w, t, eH, hok, en, SPost.ofE p en fun d w1 v a1 rv en1 p1 => p1 w1 _ (Af.refl a1.ok) rfl (en1.set rv)⟩
end
end Dl
set_option Elab.async false
set_option linter.all false
set_option maxRecDepth 100000
set_option maxHeartbeats 1000000
/-! enumerate over a tuple. -/
namespace Dl
open PySem PySem.Spec PyProof.Rows L2
open AutoSeq1 (wpAny_loadPart')
section
theorem enumT_new (a : Addr) (items : Array Value) (n : Nat) (dct : Option Addr) (sl : Array (Option Value)) :
    Meets (Builtin.«enumerate.__new__» ⟨[.type "enumerate", .ref a], []⟩) (fun _ R s => s.heap.get? a = some { cls := .type "tuple", dict := dct, data := .seq items n, slots := sl } ∧
      R (.ok (.ret (.ref (s.heap.push { cls := .type "tuple_iterator", data := .fields #[.ref a, .int 0 0] }).objs.size)))
        { s with heap := (s.heap.push { cls := .type "tuple_iterator", data := .fields #[.ref a, .int 0 0] }).push { cls := .type "enumerate", data := .fields #[.none, .bool false, .ref s.heap.objs.size, rawInt 0, .none, .none] } }) :=
  .of_wp fun prog w A R s h => by
    obtain ⟨hp, g, d, tk, os⟩ := s
    obtain ⟨hl, h⟩ := h
    have hsub := sub_enumerate
    have hL : Heap.IsTuple (Shared.heap ⟨hp, g, d, tk, os⟩) a items := ⟨_, hl, rfl, n, rfl⟩
    wp_walk using wpAny_loadPart' hl
    refine wpAny_stack_any fun st => wpAny_pure ?_
    split
    · rename_i c _ _ _ _ _
      rcases hb : (c == Value.type "enumerate") with _ | _
      · wp_walk using wpAny_loadPart' hl, wpAny_pyIter_tuple hL
        exact ⟨_, rfl, h⟩
      · wp_walk using wpAny_loadPart' hl, wpAny_pyIter_tuple hL
        exact ⟨_, rfl, h⟩
    · wp_walk using wpAny_loadPart' hl, wpAny_pyIter_tuple hL
      exact ⟨_, rfl, h⟩
variable {prog : Program} {w : World} {A : Around} {E : Value → Shared → Prop} {s : Shared}
theorem enumT_call {a : Addr} {items : Array Value} {Q : Value → Shared → Prop} (hT : IsTup s.heap a items)
    (h : ∀ h', IsEnum h' (s.heap.objs.size + 1) s.heap.objs.size 0 .none → h'.IsTupleIter s.heap.objs.size a 0 → (∀ b o, s.heap.get? b = some o → h'.get? b = some o) → Q (.ref (s.heap.objs.size + 1)) { s with heap := h' }) :
    wpAny (model prog w) A (call (.type "enumerate") [.ref a]) Q E s := by
  obtain ⟨⟨c, dct, dt, sl⟩, hl, hc, n, hd⟩ := hT
  cases (show c = .type "tuple" from hc)
  cases (show dt = .seq items n from hd)
  refine callType_new F.called_enumerate (by decide) (F.typeCall_enumerate_1 _) (F.newCall_enumerate_1 _) (fun obj => F.args_object_init_2 obj _) F.entry_enumerate_new (enumT_new a items n dct sl) ⟨hl, ?_⟩
  have hz := Heap.size_push s.heap { cls := .type "tuple_iterator", data := .fields #[.ref a, .int 0 0] }
  have he := Heap.get?_push_size (s.heap.push { cls := .type "tuple_iterator", data := .fields #[.ref a, .int 0 0] }) (o := { cls := .type "enumerate", data := .fields #[.none, .bool false, .ref s.heap.objs.size, rawInt 0, .none, .none] }) rfl
  show _ ∧ _
  rw [hz] at he ⊢
  exact ⟨⟨_, he, rfl⟩, h _ he ⟨_, Heap.get?_push_of_some _ (Heap.get?_push_size _ rfl), rfl, rfl⟩ fun b o x => Heap.get?_push_of_some _ (Heap.get?_push_of_some _ x)⟩
theorem enumT_end {e it a : Addr} {i : Nat} {items : Array Value} {old : Value} {Q : Option Value → Shared → Prop} (hh : A.handled = none) (he : IsEnum s.heap e it i old) (hit : s.heap.IsTupleIter it a i) (hT : s.heap.IsTuple a items) (hx : items[i]? = none)
    (hQ : ∀ h', Heap.ExtBut it s.heap h' → Q none { s with heap := h' }) : wpAny (model prog w) A (pyNext (.ref e)) Q E s := by
  have ty : s.TypeIs (.ref e) "enumerate" := ⟨_, he, rfl⟩
  unfold pyNext
  refine wpAny_bind (wpAny_attempt (wpAny_callSpecial?_slot (name := Str.ofString "__next__") ty F.slot_enumerate_next (wpAny_call_entry F.slot_enumerate_next ty F.entry_enumerate_next ?_ (F.args_enumerate_next_1 _))))
  show wpAny _ _ (field (.ref e) 2 >>= _) _ _ _
  refine wpAny_bind (wpAny_field he rfl (x := .ref it) rfl ?_)
  refine wpAny_bind (wpAny_nextOf_tuple_end hh hit hT hx fun h' x he' hx' => ?_)
  have ⟨o, ho, hc⟩ := hx'
  refine wpAny_bind (wpAny_isInstance (T := "StopIteration") (b := true) ⟨o, ho, hc⟩ isSubtype_stop ?_)
  exact wpAny_pure (hQ _ he')
/-- the tuple at a, each item in a new pair -/
def IteT (K : PySem.W.Frag) (a : Addr) : It :=
  ⟨fun i H => ∃ (xs : List V) (x : V), SqT K H a xs ∧ xs[i]? = some x, fun i H v H' => ∃ T x, v = .ref T ∧ H T = none ∧ H' = upd H T (.tup [.int (i : Nat), x]) ∧ ∀ xs, SqT K H a xs → xs[i]? = some x, fun i H => ∃ xs : List V, SqT K H a xs ∧ xs.length ≤ i⟩
theorem turn_enumT {P : Program} {K : PySem.W.Frag} {elts : List Expr} {kk : Nat} {tpos : Pos} (a e it : Addr) :
    Turn P w K (.Tuple elts kk tpos) (IteT K a) [e, it] e (fun i h => (∃ old, IsEnum h e it ((i : Nat) : Int) old) ∧ h.IsTupleIter it a i ∧ e ≠ it) where
  mem := by simp
  obj := fun i h st b hb => by
    obtain ⟨⟨old, he⟩, ⟨o, ho, hc, hd⟩, _⟩ := st
    rcases (show b = e ∨ b = it by simpa using hb) with z | z
    · rw [z]; exact ⟨_, he, fun v q => nomatch q⟩
    · rw [z]; exact ⟨o, ho, fun v q => by rw [hd] at q; cases q⟩
  keep := fun i h h' st k => let ⟨⟨old, he⟩, hi, hne⟩ := st; ⟨⟨old, k e (by simp) _ he⟩, hi.at fun o q => k it (by simp) o q, hne⟩
  item := by
    intro X hP hw hK hc i pins s σ H E I hf st hg
    subst hP hw hK
    obtain ⟨⟨old, he⟩, hit, hne⟩ := st
    obtain ⟨xs, x, hq, hx⟩ := hg
    obtain ⟨its, rv, p, hz⟩ := I.tuple hq
    obtain ⟨u, hu, ru⟩ := rv.get hx
    have hel : e < s.heap.objs.size := Heap.lt_size he
    have hil : it < s.heap.objs.size := let ⟨_, q, _⟩ := hit; Heap.lt_size q
    have hat : a ≠ it := fun z => by
      obtain ⟨o1, q1, q2, _⟩ := p
      obtain ⟨o2, q3, q4, _⟩ := hit
      rw [z, q3] at q1
      cases q1
      rw [q2] at q4
      exact absurd (Value.type.inj q4) (by decide)
    have hae : a ≠ e := fun z => by
      obtain ⟨o1, q1, q2, _⟩ := p
      have he' : s.heap.get? e = _ := he
      rw [z, he'] at q1
      cases q1
      exact absurd (Value.type.inj q2) (by decide)
    have il : i < its.toArray.size := by
      have := (List.getElem?_eq_some_iff.mp hu).1
      simpa using this
    have pT : s.heap.IsTuple a its.toArray := p
    refine wpAny_pyNext_enum_itemD (Draws.tuple (A := X.A.in1) (I.ok.hd hc) it a hat its.toArray) he ⟨hit, pT⟩ il hne (by simp [hne, Ne.symm hae]) fun x' h' tk hx' ho hit' hT hsz hk => ?_
    have ex : x' = u := by
      have q : its.toArray[i]? = some u := by simpa using hu
      rw [q] at hx'
      exact (Option.some.inj hx').symm
    subst ex
    refine ⟨_, rfl, wpAny_letOwnedTupleGo_enum (s := { s with heap := h', toks := tk + 1 }) ho fun g he' sb => ?_⟩
    have hT2 := (sb.2 _ (Nat.ne_of_gt hel)).trans hT
    have new : ObjOk X.prog X.w (upd H s.heap.objs.size (.tup [.int (i : Nat), x])) g s.heap.objs.size (.tup [.int (i : Nat), x]) :=
      ⟨by show 2 ≤ sizeLine; decide, [.int i tk, x'], .cons ⟨_, rfl⟩ (.cons ru .nil), ⟨_, hT2, rfl, _, rfl⟩⟩
    refine ⟨.ref s.heap.objs.size, _, I.turnedNew (t' := tk + 1) (ch := [e, it]) (fun b ob hb q => (sb.2 b (fun z => hb (by simp [z]))).trans (hk b ob (fun z => hb (by simp [z])) (fun z => hb (by simp [z])) q)) hf (Nat.le_refl _) new, rfl,
      ⟨_, x, rfl, I.hok.fresh (Nat.le_refl _), rfl, fun ys hy => by rw [I.tuple_inj hy hq]; exact hx⟩, ⟨⟨x', ?_⟩, hit'.1.at fun o q => (sb.2 it (Ne.symm hne)).trans q, hne⟩, fun b hb => ?_⟩
    · have e1 : ((i + 1 : Nat) : Int) = (i : Int) + 1 := by omega
      rw [e1]; exact he'
    · have hb' : b < s.heap.objs.size := by
        rcases (show b = e ∨ b = it by simpa using hb) with z | z
        · rw [z]; exact hel
        · rw [z]; exact hil
      rw [upd_ne (Nat.ne_of_lt hb')]
      exact (hf b hb).1
  done := by
    intro X hP hw hK hc i pins s σ H E I hf st hg
    subst hP hw hK
    obtain ⟨⟨old, he⟩, hit, hne⟩ := st
    obtain ⟨xs, hq, hx⟩ := hg
    obtain ⟨its, rv, p, hz⟩ := I.tuple hq
    obtain ⟨f0, f1, f2, f3, f4, f5⟩ := hf it (by simp)
    have hl := rv.length
    have pT : s.heap.IsTuple a its.toArray := p
    have hat : a ≠ it := fun z => by
      obtain ⟨o1, q1, q2, _⟩ := p
      obtain ⟨o2, q3, q4, _⟩ := hit
      rw [z, q3] at q1
      cases q1
      rw [q2] at q4
      exact absurd (Value.type.inj q4) (by decide)
    exact enumT_end (I.ok.hd hc) he hit pT (by simp; omega) fun h' eb => ⟨rfl, I.turned (t' := s.toks) (fun b o hb q => eb b o hb q) f0 f1 f3 f4 f5⟩
  self := fun A i s Q E st h => let ⟨⟨_, he⟩, _⟩ := st; wpAny_pyIter_enum he h
end
end Dl
set_option Elab.async false
set_option linter.all false
set_option maxRecDepth 100000
set_option maxHeartbeats 1000000
/-! The data layer: enumerate over a list or a tuple, max and min of a list, list(range(..)), x op= e for a local. -/
namespace Dl
open PySem PySem.Spec PyProof.Rows L2
section
variable {X : Cx} {cl : Cl} {W : WX} {e e2 : Expr} {de db : DE} {p p2 pos pos2 tpos : Pos} {elts : List Expr} {kk : Nat}
theorem PI.or {tg iter : Expr} {w1 w2 : TI} (h1 : PI X tg iter w1) (h2 : PI X tg iter w2) : PI X tg iter (fun σ H R => w1 σ H R ∨ w2 σ H R) := ⟨fun pins s σ H R I h => h.elim (h1.run pins s σ H R I) (h2.run pins s σ H R I)⟩
/-! ### enumerate -/
def iEnumT (K : PySem.W.Frag) (ta : TA) : TI := fun σ H R => ta σ H fun vs H1 => ∃ a xs, vs = [.ref a] ∧ SqT K H1 a xs ∧ R (IteT K a) H1
theorem pi_enumT {ta : TA} (hg : Gl X "enumerate") (hm : X.mg "enumerate" = none) (ha : PA X [e] ta) (hs : starEach [e] X.env = [(false, eval e X.env)] := by rfl) :
    PI X (.Tuple elts kk tpos) (.Call (.Name "enumerate" p) [e] [] pos) (iEnumT X.K ta) := by
  refine ⟨fun pins s σ H R I h => ?_⟩
  refine Call_ (ld_blt I hg hm boot_enumerate (PyProof.Rows.callWith_type1 (thn (ha.run pos pins s σ H _ I h) fun us s1 ⟨vs, H1, I1, r1, a, xs, ex, hq, q⟩ => ?_) hs rfl))
  subst ex
  cases r1 with
  | cons r rr =>
    cases rr
    cases r
    obtain ⟨its, rv, hT, hz⟩ := I1.tuple hq
    refine enumT_call hT fun h' he hit hk => wpAny_pyIter_enum he ?_
    refine ⟨s1.heap.objs.size + 1, [s1.heap.objs.size + 1, s1.heap.objs.size], _, _, H1, rfl, I1.kept (t' := s1.toks) hk, turn_enumT a (s1.heap.objs.size + 1) s1.heap.objs.size, ⟨⟨.none, he⟩, hit, Nat.succ_ne_self _⟩, fun b hb => ?_, q⟩
    have hle : s1.heap.objs.size ≤ b := by
      rcases (show b = s1.heap.objs.size + 1 ∨ b = s1.heap.objs.size by simpa using hb) with z | z
      · rw [z]; exact Nat.le_add_right _ _
      · rw [z]; exact Nat.le_refl _
    exact I1.fpOk hle (I1.hok.fresh hle)
def iEnA (de : DE) : DA := fun t S => (de t S).bind fun d S1 => match d with
  | .lst xs => .ok (enumFrom' 0 xs) S1
  | .rol xs => .ok (enumFrom' 0 xs) S1
  | .tup xs => .ok (enumFrom' 0 xs) S1
  | _ => .bad
def iEnT (de : DE) : DA := fun t S => (de t S).bind fun d S1 => match d with
  | .tup xs => .ok (enumFrom' 0 xs) S1
  | _ => .bad
theorem i_enumT (hg : Gl X "enumerate") (hm : X.mg "enumerate" = none) (h : UE X cl W e de) (hs : starEach [e] X.env = [(false, eval e X.env)] := by rfl) : UI X cl W (.Tuple elts kk tpos) (.Call (.Name "enumerate" p) [e] [] pos) (iEnT de) := weakI (pi_enumT hg hm (pa_cons h pa_nil hs) hs) fun σ H R ⟨w, t, eH, ok, en, p⟩ => by
  refine ⟨w, t, eH, ok, en, OPost.bind p fun d w1 v a1 r1 p1 => ?_⟩
  split at p1
  · rename_i xs
    obtain ⟨a, vs, ev, hl, rr⟩ := r1
    subst ev
    have at_ : ∀ w2 : Wd, Af X.K cl w1 w2 → SqT X.K w2.H a vs := fun w2 x => (hl.mono x.fz).here x.ok
    refine ⟨a, vs, rfl, at_ w1 (Af.refl a1.ok), p1 w1 _ (Af.refl a1.ok) rfl fun w2 x i => ⟨fun z hz => ?_, fun hi => ⟨vs, at_ w2 x, by rw [enum_len] at hi; rw [← Reps.length rr]; exact hi⟩⟩⟩
    obtain ⟨y, hy, ez⟩ := enum_get xs 0 i hz
    obtain ⟨u, hu, ru⟩ := rr.get hy
    refine ⟨⟨vs, u, at_ w2 x, hu⟩, fun v' H' ⟨T, y', e1, hT, e2, hall⟩ => ?_⟩
    have := hall vs (at_ w2 x)
    rw [hu] at this
    cases this
    obtain ⟨w3, q1, q2, q3, q4⟩ := tup_laid (ds := [.int (i : Nat), y]) x.ok hT (Reps.cons (show Rep X.K cl w2.F w2.m (.int (i : Nat)) (.int (i : Nat)) from rfl) (Reps.one (Rep.af x ru)))
    refine ⟨w3, q1.trans e2.symm, q2, q3, ?_⟩
    rw [e1, ez, Nat.zero_add]
    exact q4
  · exact p1.elim
theorem i_enumA (hg : Gl X "enumerate") (hm : X.mg "enumerate" = none) (h : UE X cl W e de) (hs : starEach [e] X.env = [(false, eval e X.env)] := by rfl) : UI X cl W (.Tuple elts kk tpos) (.Call (.Name "enumerate" p) [e] [] pos) (iEnA de) :=
  weakI (PI.or (i_enum hg hm h hs) (i_enumT hg hm h hs)) fun σ H R ⟨w, t, eH, ok, en, p⟩ => by
    have p : OPost X.K cl (Wk X.K cl) (fun c d H' => W c d σ H') w R ((de t w.S).bind fun d S1 => match d with
      | .lst xs => .ok (enumFrom' 0 xs) S1
      | .rol xs => .ok (enumFrom' 0 xs) S1
      | .tup xs => .ok (enumFrom' 0 xs) S1
      | _ => .bad) := p
    cases hd : de t w.S with
    | ok d S1 =>
      rw [hd] at p
      cases d with
      | lst xs => exact .inl ⟨w, t, eH, ok, en, by unfold iEn; rw [hd]; exact p⟩
      | rol xs => exact .inl ⟨w, t, eH, ok, en, by unfold iEn; rw [hd]; exact p⟩
      | tup xs => exact .inr ⟨w, t, eH, ok, en, by unfold iEnT; rw [hd]; exact p⟩
      | _ => exact p.elim
    | exc c ns vs S1 =>
      rw [hd] at p
      exact .inl ⟨w, t, eH, ok, en, by unfold iEn; rw [hd]; exact p⟩
    | bad => rw [hd] at p; exact p.elim
/-! ### max, min of a list of numbers -/
def intsOf : List D → Option (List Int)
  | [] => some []
  | .int i :: r => (intsOf r).map (i :: ·)
  | _ => none
theorem intsOf_rep {K : PySem.W.Frag} {F : Hp} {m : List Addr} : ∀ {ds : List D} {vs : List V} {ns : List Int}, Reps K cl F m ds vs → intsOf ds = some ns → vs = ns.map V.int ∧ ds = ns.map D.int
  | [], vs, ns, r, e => by
    cases e
    exact ⟨r, rfl⟩
  | d :: ds, vs, ns, r, e => by
    cases d with
    | int i =>
      have e : (intsOf ds).map (i :: ·) = some ns := e
      obtain ⟨ms, h1, h2⟩ := Option.map_eq_some_iff.mp e
      obtain ⟨v, us, e1, r1, r2⟩ := r
      obtain ⟨g1, g2⟩ := intsOf_rep r2 h1
      subst h2
      exact ⟨by rw [e1, g1, show v = V.int i from r1]; rfl, by rw [g2]; rfl⟩
    | _ => cases e
def topOf : Int → List Int → Int
  | x, [] => x
  | x, y :: r => topOf (if x < y then y else x) r
def lowOf : Int → List Int → Int
  | x, [] => x
  | x, y :: r => lowOf (if y < x then y else x) r
theorem topOf_is : ∀ (r : List Int) (x : Int), topOf x r ∈ x :: r ∧ ∀ y ∈ x :: r, y ≤ topOf x r
  | [], x => ⟨List.mem_cons_self, fun y hy => by cases List.mem_singleton.mp hy; exact Int.le_refl _⟩
  | y :: r, x => by
    obtain ⟨h1, h2⟩ := topOf_is r (if x < y then y else x)
    show topOf (if x < y then y else x) r ∈ _ ∧ ∀ z ∈ _, z ≤ topOf (if x < y then y else x) r
    have h3 := h2 _ List.mem_cons_self
    have h4 : x ≤ topOf (if x < y then y else x) r ∧ y ≤ topOf (if x < y then y else x) r := by
      generalize topOf (if x < y then y else x) r = T at h3
      split at h3 <;> omega
    refine ⟨?_, fun z hz => ?_⟩
    · rcases List.mem_cons.mp h1 with e | h
      · rw [e]
        split
        · exact List.mem_cons_of_mem _ List.mem_cons_self
        · exact List.mem_cons_self
      · exact List.mem_cons_of_mem _ (List.mem_cons_of_mem _ h)
    · rcases List.mem_cons.mp hz with e | hz
      · rw [e]; exact h4.1
      · rcases List.mem_cons.mp hz with e | hz
        · rw [e]; exact h4.2
        · exact h2 z (List.mem_cons_of_mem _ hz)
theorem lowOf_is : ∀ (r : List Int) (x : Int), lowOf x r ∈ x :: r ∧ ∀ y ∈ x :: r, lowOf x r ≤ y
  | [], x => ⟨List.mem_cons_self, fun y hy => by cases List.mem_singleton.mp hy; exact Int.le_refl _⟩
  | y :: r, x => by
    obtain ⟨h1, h2⟩ := lowOf_is r (if y < x then y else x)
    show lowOf (if y < x then y else x) r ∈ _ ∧ ∀ z ∈ _, lowOf (if y < x then y else x) r ≤ z
    have h3 := h2 _ List.mem_cons_self
    have h4 : lowOf (if y < x then y else x) r ≤ x ∧ lowOf (if y < x then y else x) r ≤ y := by
      generalize lowOf (if y < x then y else x) r = T at h3
      split at h3 <;> omega
    refine ⟨?_, fun z hz => ?_⟩
    · rcases List.mem_cons.mp h1 with e | h
      · rw [e]
        split
        · exact List.mem_cons_of_mem _ List.mem_cons_self
        · exact List.mem_cons_self
      · exact List.mem_cons_of_mem _ (List.mem_cons_of_mem _ h)
    · rcases List.mem_cons.mp hz with e | hz
      · rw [e]; exact h4.1
      · rcases List.mem_cons.mp hz with e | hz
        · rw [e]; exact h4.2
        · exact h2 z (List.mem_cons_of_mem _ hz)
def bMaxL : List D → Sto → Out D := fun xs S => match xs with
  | [x] => (match deref x S with
    | .lst ds => (match intsOf ds with
      | some (i :: r) => .ok (.int (topOf i r)) S
      | _ => .bad)
    | _ => .bad)
  | _ => .bad
def bMinL : List D → Sto → Out D := fun xs S => match xs with
  | [x] => (match deref x S with
    | .lst ds => (match intsOf ds with
      | some (i :: r) => .ok (.int (lowOf i r)) S
      | _ => .bad)
    | _ => .bad)
  | _ => .bad
theorem c_maxL {K : PySem.W.Frag} : CallD K cl (rMax K) bMaxL := by
  intro w xs vs W Q ok r p
  unfold bMaxL at p
  split at p
  · rename_i x
    obtain ⟨v, rfl, r1⟩ := RL.one r
    split at p
    · rename_i ds hx
      split at p
      · rename_i i ns hi
        obtain ⟨a, us, ev, h1, h2⟩ := deref_lst ok r1 hx
        subst ev
        obtain ⟨g1, _⟩ := intsOf_rep h2 hi
        subst g1
        obtain ⟨t1, t2⟩ := topOf_is ns i
        refine ⟨a, i :: ns, rfl, .of h1, Nat.succ_pos _, fun m hm hall => ?_⟩
        have e : m = topOf i ns := Int.le_antisymm (t2 m hm) (hall _ t1)
        subst e
        exact p w _ (Af.refl ok) rfl rfl
      · exact p.elim
    · exact p.elim
  · exact p.elim
theorem c_minL {K : PySem.W.Frag} : CallD K cl (rMin K) bMinL := by
  intro w xs vs W Q ok r p
  unfold bMinL at p
  split at p
  · rename_i x
    obtain ⟨v, rfl, r1⟩ := RL.one r
    split at p
    · rename_i ds hx
      split at p
      · rename_i i ns hi
        obtain ⟨a, us, ev, h1, h2⟩ := deref_lst ok r1 hx
        subst ev
        obtain ⟨g1, _⟩ := intsOf_rep h2 hi
        subst g1
        obtain ⟨t1, t2⟩ := lowOf_is ns i
        refine ⟨a, i :: ns, rfl, .of h1, Nat.succ_pos _, fun m hm hall => ?_⟩
        have e : m = lowOf i ns := Int.le_antisymm (hall _ t1) (t2 m hm)
        subst e
        exact p w _ (Af.refl ok) rfl rfl
      · exact p.elim
    · exact p.elim
  · exact p.elim
/-! ### list(range(a, b)) -/
theorem rg_rep {K : PySem.W.Frag} {F : Hp} {m : List Addr} : ∀ (n : Nat) (lo : Int), Reps K cl F m (intsFrom lo n) ((List.range n).map fun i => V.int (lo + (i : Nat)))
  | 0, lo => rfl
  | n + 1, lo => by
    have ih : Reps K cl F m (intsFrom (lo + 1) n) ((List.range n).map fun i => V.int (lo + 1 + (i : Nat))) := rg_rep n (lo + 1)
    rw [List.range_succ_eq_map, List.map_cons, List.map_map]
    refine ⟨V.int (lo + (0 : Nat)), _, rfl, by show V.int _ = V.int _; congr 1; simp, ?_⟩
    have e : ((fun i : Nat => V.int (lo + (i : Nat))) ∘ Nat.succ) = fun i : Nat => V.int (lo + 1 + (i : Nat)) := by
      funext i
      show V.int _ = V.int _
      congr 1
      omega
    rw [e]
    exact ih
def rgOk (i j : Int) : Bool := decide (-(2 ^ 62) ≤ i) && (decide (i < 2 ^ 62) && (decide (-(2 ^ 62) ≤ j) && (decide (j < 2 ^ 62) && decide ((j - i).toNat ≤ 2 ^ 24))))
def dLRng2 (da db : DE) : DE := fun t S => (da t S).bind fun x S1 => (db t S1).bind fun y S2 => match x, y with
  | .int i, .int j => if rgOk i j = true then .ok (.lst (intsFrom i (j - i).toNat)) S2 else .bad
  | _, _ => .bad
theorem u_lRng2 (hc : X.calm = true) (hl : Gl X "list") (hl2 : X.mg "list" = none) (hg : Gl X "range") (hm : X.mg "range" = none) (ha : UE X cl W e de) (hb : UE X cl W e2 db)
    (n0 : starEach [.Call (.Name "range" p2) [e, e2] [] pos2] X.env = (false, eval (.Call (.Name "range" p2) [e, e2] [] pos2) X.env) :: starEach [] X.env := by rfl) (n1 : starEach [e, e2] X.env = (false, eval e X.env) :: starEach [e2] X.env := by rfl) (n2 : starEach [e2] X.env = (false, eval e2 X.env) :: starEach [] X.env := by rfl) (n3 : (backTo pos2 (starEach [e2] X.env)).any (·.1) = false := by rfl) :
    UE X cl W (.Call (.Name "list" p) [.Call (.Name "range" p2) [e, e2] [] pos2] [] pos) (dLRng2 de db) := weakE (pe_listRg hc hl hl2 (prg_2 hg hm ha hb n1 n2 n3) n0) fun σ H Q ⟨w, t, eH, ok, en, p⟩ => by
  refine ⟨w, t, eH, ok, en, OPost.bind p fun x w1 v a1 r1 p1 => ⟨w1, t, rfl, a1.ok, en.af a1, OPost.bind p1 fun y w2 v2 a2 r2 p2 => ?_⟩⟩
  split at p2
  · rename_i i j
    cases (show v = .int i from r1)
    cases (show v2 = .int j from r2)
    split at p2
    · rename_i hb
      refine ⟨i, j, rfl, rfl, ?_, fun q hq => ?_⟩
      · unfold rgOk at hb
        simp only [Bool.and_eq_true, decide_eq_true_eq] at hb
        exact ⟨hb.1, hb.2.1, hb.2.2.1, hb.2.2.2.1, hb.2.2.2.2⟩
      · have z := a2.ok.laid (K := X.K) (u := .lst (rgV i j)) hq
        exact p2 ⟨upd w2.H q (.lst (rgV i j)), upd w2.F q (.lst (rgV i j)), w2.m, w2.S⟩ (.ref q) z rfl ⟨q, _, rfl, upd_same, rg_rep _ _⟩
    · exact p2.elim
  · exact p2.elim
/-! ### x += e -/
def dAugV (i : Nat) (f : Int → Int → Int) (de : DE) : DS := fun t S => match t[i]? with
  | some (some (.int a)) => ofE (de t S) t fun y S1 => (match y with
    | .int b => .nx (t.set i (some (.int (f a b)))) S1
    | _ => .bad)
  | _ => .bad
theorem s_augV {i : Nat} {x : Str} {op : Operator} {f : Int → Int → Int} {pos' : Pos} (ho : PIp X op (ipI f)) (hN : X.N.Nodup) (hi : X.N[i]? = some x) (hx : Loc X.env.scope x) (he : UE X cl W e de) (hf : X.fn x = true ∨ X.env.scope.names.lookup x = some .local := by first | exact .inl rfl | exact .inr rfl | assumption) :
    US X cl W (.AugAssign (.Name x pos') op e pos) (dAugV i f de) := weakS (ps_aug hN hi hx he ho hf) fun N σ H ⟨w, t, eH, ok, en, p⟩ => by
  unfold dAugV at p
  split at p
  · rename_i a ht
    obtain ⟨v, h1, h2⟩ := en.at_ i _ ht
    cases (show v = .int a from h2)
    refine ⟨_, h1, w, t, eH, ok, en, SPost.ofE p en fun y w1 vy a1 r1 en1 p1 => ?_⟩
    split at p1
    · rename_i b
      cases (show vy = .int b from r1)
      exact ⟨a, b, rfl, rfl, p1 w1 _ (Af.refl a1.ok) rfl (en1.set (show Rep X.K cl w1.F w1.m (.int (f a b)) (.int (f a b)) from rfl))⟩
    · exact p1.elim
  · exact p.elim
end
end Dl
set_option Elab.async false
set_option linter.all false
set_option maxRecDepth 100000
set_option maxHeartbeats 1000000
/-! The data layer: short words for the walks that a program prints. -/
namespace Dl
open PySem PySem.Spec PyProof.Rows L2
theorem room9 {k : Nat} {A : Around} (r : Room k A) : A.units + 9 < cLine := by have := r.un; omega
end Dl
set_option Elab.async false
set_option linter.all false
set_option maxRecDepth 100000
set_option maxHeartbeats 1000000
/-! The data layer: len by an own def, == by an own def in any mode of call and against other types. -/
namespace Dl
open PySem PySem.Spec PyProof.Rows L2
open Builtin in
theorem len_by {prog : Program} {w : World} {A : Around} {E : Value → Shared → Prop} {s : Shared} {K : PySem.W.Frag} {x C f : Addr} {ox : Obj} {od : Option Obj} {Q : Value → Shared → Prop} (X : K.In s.heap) (I : PySem.W.InstAt s.heap x ox C od)
    (hs : PySem.W.findIn K (.ref C) "__len__" = some (some (.ref f))) (hf : PySem.W.isFn K (.ref f) = true)
    (h : wpAny (model prog w) A.in1 (call (.ref f) [.ref x]) (fun r s' => ∃ n u, r = .int n u ∧ 0 ≤ n ∧ n < 2 ^ 63 ∧ Q (.int n s'.toks) { s' with toks := s'.toks + 1 }) E s) :
    wpAny (model prog w) A (call (.builtin "len") [.ref x]) Q E s := by
  refine Calls.call_function_entry kind_len plain_len entry_len (args_len1 _) ?_
  unfold Builtin.«len»
  refine wpAny_bind (m := oneArg "len" _) (wpAny_pure ?_)
  refine wpAny_bind (m := callSpecial? (.ref x) (Str.ofString "__len__")) (PySem.W.special_fn X I hs (beq_iff_eq.mp hf) (wpAny_mono h (fun r s' hr => ?_) fun _ _ y => y))
  obtain ⟨n, u, rfl, low, high, hq⟩ := hr
  refine wpAny_bind (wpAny_holding (wpAny_pure ?_))
  refine wpAny_bind (wpAny_letGo ?_)
  show wpAny _ _ (if n < 0 then _ else _) _ _ _
  rw [if_neg (by omega)]
  show wpAny _ _ (if n ≥ 2 ^ 63 then _ else _) _ _ _
  rw [if_neg (by omega)]
  exact wpAny_bind (wpAny_mkInt (wpAny_pure ⟨_, rfl, hq⟩))
section
variable {X : Cx} {cl : Cl} {W : WX} {k : Nat} {f : Addr} {fd : FuncData} {ps : List Str} {c : Nat} {h : DF} {G : DF → DF}
def rLenO (K : PySem.W.Frag) (cl : Cl) (c : Nat) (h : DF) : List V → Hp → VK → Prop := fun xs H Q => ∃ a dx fs, xs = [.ref a] ∧ H a = some (.ins (cl c) dx fs) ∧ spD K cl 1 h [.ref a] H (fun v H' => ∃ i : Int, v = .int i ∧ 0 ≤ i ∧ i < 2 ^ 63 ∧ Q (.int i) H') fun _ _ _ => False
theorem call_lenO (F : FnD X cl k f fd ps h) (hr : Room (k + 1) X.A) (hb : Binds X.K fd ps []) (hp : ps.length = 1) (hs : PySem.W.findIn X.K (.ref (cl c)) "__len__" = some (some (.ref f))) (hf : PySem.W.isFn X.K (.ref f) = true) :
    CallR X (.builtin "len") (rLenO X.K cl c h) := by
  intro pins s σ H xs us Q I r d
  obtain ⟨a, dx, fs, rfl, ha, hsp⟩ := d
  obtain ⟨u, rfl, ru⟩ := vals1 r
  cases ru
  obtain ⟨mA, J, _⟩ := ins_get I.hok ha
  obtain ⟨od, J, _⟩ := J.look
  have hsp' : spD X.K cl ps.length h [.ref a] H (fun v H' => ∃ i : Int, v = .int i ∧ 0 ≤ i ∧ i < 2 ^ 63 ∧ Q (.int i) H') fun _ _ _ => False := by rw [hp]; exact hsp
  have hl := F.len _ _ _ _ hsp'
  have r1 : Vals [V.ref a] [Value.ref a] := .cons rfl .nil
  refine len_by I.kIn J hs hf (wpAny_call (codeAny_mono (F.run X.A.in1 X.stack s H ⟨[.ref a], []⟩ [.ref a] [.ref a] _ _ hr.in1 I.env0.in1 (by
    have := hb s [.ref a] I.kIn (by simpa using hl)
    simpa using this) r1 hsp') fun r s' hq => ?_))
  cases r with
  | error e => exact (passAt (W := W0) takes0 σ pins H s e s' I hq)
  | ok fl =>
    cases fl with
    | ret w =>
      obtain ⟨z, H', I', rz, i, ez, i0, i1, q⟩ := I.after hq
      subst ez
      obtain ⟨t, e⟩ := (show ∃ t, w = Value.int i t from rz)
      subst e
      exact ⟨i, t, rfl, i0, i1, .int i, H', I'.tok _, ⟨_, rfl⟩, q⟩
    | next => exact False.elim hq
    | brk => exact False.elim hq
    | cont => exact False.elim hq
def bLenO (c : Nat) (h : DF) : List D → Sto → Out D := fun xs S => match xs with
  | [x] => (match objOf x S with
    | some (d, _, _) => if d = c then (h [x] S).calm.bind fun z S' => (match z with
      | .int i => if 0 ≤ i ∧ i < 2 ^ 63 then .ok (.int i) S' else .bad
      | _ => .bad) else .bad
    | none => .bad)
  | _ => .bad
theorem calm_post {K : PySem.W.Frag} {w : Wd} {o : Out D} {Q : VK} {W : XK} {R : Wd → D → V → Prop} (p : OPost K cl R W w Q o.calm) : OPost K cl R (fun _ _ _ => False) w Q o := by
  cases o with
  | ok a S => exact p
  | exc c ns vs S => exact p.elim
  | bad => exact p.elim
theorem c_lenO {K : PySem.W.Frag} (hv : Via G) : CallD K cl (rLenO K cl c h) (bLenO c (G h)) := by
  intro w xs vs W Q ok r p
  unfold bLenO at p
  split at p
  · rename_i x
    obtain ⟨v, rfl, r1⟩ := RL.one r
    split at p
    · rename_i d ns us ho
      split at p
      · rename_i hc
        subst hc
        obtain ⟨a, dx, fs, ev, ea, _, _⟩ := objOf_at ok r1 ho
        subst ev
        refine ⟨a, dx, fs, rfl, ea, ?_⟩
        refine hv K cl w h [x] [.ref a] (fun _ _ _ => False) _ ok (RL.mk1 r1) ?_
        refine OPost.bindTo (R' := RV K cl) p fun z w1 v a1 r2 p1 => ?_
        split at p1
        · rename_i i
          split at p1
          · rename_i hi
            cases (show v = .int i from r2)
            exact ⟨i, rfl, hi.1, hi.2, p1 w1 _ a1 rfl rfl⟩
          · exact p1.elim
        · exact p1.elim
      · exact p.elim
    · exact p.elim
  · exact p.elim
/-! ### == -/
def rEqV (K : PySem.W.Frag) (cl : Cl) (c : Nat) (h : DF) : R2 := fun x y H Q => ∃ a dx fs t, x = .ref a ∧ H a = some (.ins (cl c) dx fs) ∧ TyX K H y t ∧ PySem.W.notFirst K (cl c) t = true ∧
  spD K cl 2 h [x, y] H (fun v H' => ∃ z, v = .bl z ∧ Q (.bl z) H') fun _ _ _ => False
theorem op_eqV (F : FnD X cl k f fd ps h) (hr : Room k X.A) (hb : Binds X.K fd ps []) (hp : ps.length = 2) (hs : PySem.W.findIn X.K (.ref (cl c)) "__eq__" = some (some (.ref f))) (hf : PySem.W.isFn X.K (.ref f) = true) :
    OpR X (compareOp .Eq) (rEqV X.K cl c h) := by
  intro pins s σ H x y v u Q I rx ry d
  obtain ⟨a, dx, fs, t, rfl, ha, ty, nf, hsp⟩ := d
  cases rx
  show wpAny (model X.prog X.w) X.A (richCompare .Eq (.ref a) u) (EP X pins σ Q) X.xe s
  obtain ⟨mA, J, _⟩ := ins_get I.hok ha
  obtain ⟨od, J, _⟩ := J.look
  obtain ⟨P, kx, hP, _⟩ := kit_of I ry ty
  obtain ⟨m, hF⟩ := I.fr
  refine PySem.W.cmp_K (op := .Eq) (tb := t) hr.units0 hF I.ok.mod.kin J (kx.ty _ _ I.kIn hP) nf hs hf ?_
  have hsp' : spD X.K cl ps.length h [.ref a, y] H (fun v H' => ∃ z, v = .bl z ∧ Q (.bl z) H') fun _ _ _ => False := by rw [hp]; exact hsp
  have hl := F.len _ _ _ _ hsp'
  have r2 : Vals [V.ref a, y] [Value.ref a, u] := .cons rfl (.cons ry .nil)
  refine wpAny_call (codeAny_mono (F.run X.A X.stack s H ⟨[.ref a, u], []⟩ [.ref a, u] [.ref a, y] _ _ hr I.env0 (by
    have := hb s [.ref a, u] I.kIn (by simpa using hl)
    simpa using this) r2 hsp') fun r s' hq => ?_)
  cases r with
  | error e => exact (passAt (W := W0) takes0 σ pins H s e s' I hq)
  | ok fl =>
    cases fl with
    | ret w =>
      obtain ⟨z, H', I', rz, bz, ez, q⟩ := I.after hq
      subst ez
      cases rz
      exact ⟨.bl bz, H', I', rfl, q⟩
    | next => exact False.elim hq
    | brk => exact False.elim hq
    | cont => exact False.elim hq
def fEqV (c : Nat) (ok : Tn → Bool) (h : DF) : D → D → Sto → Out D := fun x y S => match objOf x S, tnOf y S with
  | some (d, _, _), some n => if d = c ∧ ok n = true then (h [x, y] S).calm.bind fun z S' => (match z with
    | .bl b => .ok (.bl b) S'
    | _ => .bad) else .bad
  | _, _ => .bad
theorem d_eqV {K : PySem.W.Frag} {ok : Tn → Bool} (hv : Via G) (hI : ∀ n, ok n = true → (∀ d, n = .o d → Isi K (cl d)) ∧ PySem.W.notFirst K (cl c) (n.v cl) = true) : OpD K cl (rEqV K cl c h) (fEqV c ok (G h)) := by
  intro w x y vx vy W Q o rx ry p
  unfold fEqV at p
  split at p
  · rename_i d ns us n h1 h2
    split at p
    · rename_i hc
      obtain ⟨rfl, hn⟩ := hc
      obtain ⟨a, dx, fs, ev, ea, _, _⟩ := objOf_at o rx h1
      obtain ⟨i1, i2⟩ := hI n hn
      refine ⟨a, dx, fs, n.v cl, ev, ea, ty_of o ry h2 i1, i2, ?_⟩
      refine hv K cl w h [x, y] [vx, vy] (fun _ _ _ => False) _ o ⟨vx, _, rfl, rx, vy, [], rfl, ry, rfl⟩ ?_
      refine OPost.bindTo (R' := RV K cl) p fun z w1 v a1 r2 p1 => ?_
      split at p1
      · rename_i b
        cases (show v = .bl b from r2)
        exact ⟨b, rfl, p1 w1 _ a1 rfl rfl⟩
      · exact p1.elim
    · exact p.elim
  · exact p.elim
def okT (c : Nat) (ts : List String) : Tn → Bool
  | .o d => d == c
  | .b s => ts.contains s
def notFsts (K : PySem.W.Frag) (C : Addr) (ts : List String) : Bool := ts.all fun s => PySem.W.notFirst K C (.type s)
theorem okT_ok {K : PySem.W.Frag} {ts : List String} (hi : Isi K (cl c)) (hs : notFsts K (cl c) ts = true) : ∀ n, okT c ts n = true → (∀ d, n = .o d → Isi K (cl d)) ∧ PySem.W.notFirst K (cl c) (n.v cl) = true := by
  intro n hn
  cases n with
  | o d =>
    have e : d = c := by simpa [okT] using hn
    subst e
    refine ⟨fun d' h => by cases h; exact hi, ?_⟩
    show (Value.ref (cl d) == Value.ref (cl d) || _) = true
    simp
  | b s =>
    refine ⟨fun d' h => (nomatch h), ?_⟩
    have hm : s ∈ ts := by simpa [okT] using hn
    exact List.all_eq_true.mp hs s hm
end
end Dl
set_option Elab.async false
set_option linter.all false
set_option maxRecDepth 100000
set_option maxHeartbeats 1000000
/-! The data layer: list(x) as a new cell; l.clear(). -/
namespace Dl
open PySem PySem.Spec PyProof.Rows L2
section
variable {K : PySem.W.Frag} {cl : Cl}
def bListC : List D → Sto → Out D := fun xs S => match xs with
  | [x] => (match deref x S with
    | .lst ys => .ok (.ptr S.length) (S ++ [some (.lst ys)])
    | .rol ys => .ok (.ptr S.length) (S ++ [some (.lst ys)])
    | .tup ys => .ok (.ptr S.length) (S ++ [some (.lst ys)])
    | _ => .bad)
  | _ => .bad
theorem new_list {w : Wd} {l : Addr} {ys : List D} {us : List V} (ok : w.Ok K cl) (hl : w.H l = none) (h : RL K cl w ys us) : Af K cl w ⟨upd w.H l (.lst us), w.F, w.m ++ [l], w.S ++ [some (.lst ys)]⟩ :=
  ok.cellNew (K := K) (u := .lst us) (d := .lst ys) hl ⟨us, upd_same, Reps.mono (fun _ _ h => h) (fun i b hb => pre_get hb) _ _ h⟩
theorem c_listC : CallD K cl (rListA K) bListC := by
  intro w xs vs W Q ok r p
  unfold bListC at p
  split at p
  · rename_i x
    obtain ⟨v, rfl, r1⟩ := RL.one r
    split at p
    · rename_i ys h
      obtain ⟨a, us, ev, h1, h2⟩ := deref_lst ok r1 h
      subst ev
      exact .inl ⟨a, us, rfl, .inl (.of h1), fun l hl => p _ (.ref l) (new_list ok hl h2) rfl ⟨l, snoc_get ok.len.symm, rfl⟩⟩
    · rename_i ys h
      obtain ⟨a, us, ev, h1, h2⟩ := deref_rol ok r1 h
      subst ev
      exact .inl ⟨a, us, rfl, .inl h1, fun l hl => p _ (.ref l) (new_list ok hl h2) rfl ⟨l, snoc_get ok.len.symm, rfl⟩⟩
    · rename_i ys h
      obtain ⟨a, us, ev, h1, h2⟩ := deref_tup ok r1 h
      subst ev
      exact .inl ⟨a, us, rfl, .inr h1, fun l hl => p _ (.ref l) (new_list ok hl h2) rfl ⟨l, snoc_get ok.len.symm, rfl⟩⟩
    · exact p.elim
  · exact p.elim
def mClearL : D → List D → Sto → Out D := fun x xs S => match x, xs with
  | .ptr i, [] => (match S[i]? with
    | some (some (.lst _)) => .ok .non (S.set i (some (.lst [])))
    | _ => .bad)
  | _, _ => .bad
theorem m_clearL : MtD K cl rClear mClearL := by
  intro w x xs v vs W Q ok rx rs p
  unfold mClearL at p
  split at p
  · rename_i i
    split at p
    · rename_i ys hi
      have e : vs = [] := by cases vs with
        | nil => rfl
        | cons a b => exact (nomatch (Reps.length rs))
      subst e
      obtain ⟨a, ea, ev⟩ := rx
      obtain ⟨_, us, c1, c2⟩ := ok.cell i a _ ea hi
      refine ⟨a, us, ev, rfl, c1, ?_⟩
      exact p ⟨upd w.H a (.lst []), w.F, w.m, _⟩ .non (ok.cellSet (d := .lst []) ea hi ⟨_, upd_same, rfl⟩) rfl rfl
    · exact p.elim
  · exact p.elim
/-! ### an own class asked of a list -/
def tabOL (c : Nat) (ts : List String) : Tn → Option Bool
  | .o k => if k = c then some true else none
  | .b s => if ts.contains s = true then some false else none
def noneOf (K : PySem.W.Frag) (C : Addr) (ts : List String) : Bool := ts.all fun s => decide (PySem.W.kitOne K (.type s) (.ref C) = some false)
theorem tabOL_ok {c : Nat} {ts : List String} (i : Isi K (cl c)) (h : noneOf K (cl c) ts = true) : ∀ n b, tabOL c ts n = some b → PySem.W.kitOne K (n.v cl) (.ref (cl c)) = some b ∧ ∀ c, n = .o c → Isi K (cl c) := by
  intro n b hb
  cases n with
  | o k =>
    have e : (if k = c then some true else none) = some b := hb
    split at e
    · rename_i hk
      cases e
      subst hk
      exact tabO_ok i (.o k) true (by show (if k = k then some true else _) = _; rw [if_pos rfl])
    · cases e
  | b s =>
    have e : (if ts.contains s = true then some false else none) = some b := hb
    split at e
    · rename_i hk
      cases e
      have hm : s ∈ ts := by simpa using hk
      exact ⟨of_decide_eq_true (List.all_eq_true.mp h s hm), fun c z => (nomatch z)⟩
    · cases e
end
end Dl
set_option Elab.async false
set_option linter.all false
set_option maxRecDepth 100000
set_option maxHeartbeats 1000000
/-! sorted(x): x a list whose items read as data of one shape; also tuples of which some are empty. -/
namespace Srd
open PySem PySem.W PySem.Calls PySem.SeqAt PyProof.Rows
section
variable {prog : Program} {w : World} {A : Around} {E : Value → Shared → Prop} {s : Shared}
/-- tuple's own __lt__ -/
theorem tup_lt {Q : Value → Shared → Prop} {l b : Addr} {items items2 : Array Value} {e r : Nat → Bool} (hl : s.heap.IsTuple l items) (hb : s.heap.IsTuple b items2) (he : ∀ j (h1 : j < items.size) (h2 : j < items2.size), EqAt A.in1 s items[j] items2[j] (e j))
    (hr : ∀ j (h1 : j < items.size) (h2 : j < items2.size), e j = false → RcLt A.in1 s items[j] items2[j] (r j)) (h : Q (.bool (firstLt e r (decide (items.size < items2.size)) (List.range (min items.size items2.size)))) s) : wpAny (model prog w) A (call (.builtin "tuple.__lt__") [.ref l, .ref b]) Q E s := by
  obtain ⟨⟨c1, d1, da1, sl1⟩, g1, t1, n1, z1⟩ := id hl
  obtain ⟨⟨c2, d2, da2, sl2⟩, g2, t2, n2, z2⟩ := id hb
  simp only at t1 z1 t2 z2
  subst t1 z1 t2 z2
  exact call_meets F.slot_tuple_lt ⟨_, g1, rfl⟩ F.entry_tuple_lt (F.args_tuple_lt_2 _ _) (tuple_ltAt l b items items2 n1 n2 d1 d2 sl1 sl2 e r) ⟨g1, g2, he, hr, h⟩
/-- two tuples compared by their own type's __lt__ -/
theorem one_tup {xs ys : List PyData} {a b : Value} {as bs : List Addr} {Q : Bool → Shared → Prop} (ra : Reads s.heap a (.tuple xs) as) (rb : Reads s.heap b (.tuple ys) bs) (hal : alikeAll xs ys = true) (hu : A.units + min (PyData.depth (.tuple xs)) (PyData.depth (.tuple ys)) < cLine)
    (hq : Q (dataLt (.tuple xs) (.tuple ys)) s) : wpAny (model prog w) A (oneLt' true a b) Q E s := by
  cases ra with
  | @tuple l o vs n _ as₁ h1 h2 h3 h4 =>
    cases rb with
    | @tuple l' o' vs' n' _ bs₁ k1 k2 k3 k4 =>
      have z1 : vs.size = xs.length := by simpa using ReadsAll.length _ _ _ h4
      have z2 : vs'.size = ys.length := by simpa using ReadsAll.length _ _ _ k4
      rw [dataLt_tuple, ← firstLt_toks xs ys hal, ← z1, ← z2] at hq
      rw [oneLt'_eq, if_pos rfl]
      refine wpAny_bind (wpAny_cRoomFor (room_here hu) ?_)
      refine wpAny_bind (wpAny_callSpecialIfBound?_slot (T := "tuple") ⟨_, h1, h2⟩ F.slot_tuple_lt (tup_lt (e := pairEq xs ys) (r := fun j => dataLt (xs.getD j .none) (ys.getD j .none)) ⟨_, h1, h2, _, h3⟩ ⟨_, k1, k2, _, k3⟩ (fun j j1 j2 => ?_) (fun j j1 j2 hj => ?_) ?_))
      · have z := eqAt_alikeAll xs ys A.in1 s vs.toList vs'.toList _ _ h4 k4 hal (room_in hu) j (by simpa using j1) (by simpa using j2)
        simpa using z
      · have z := rcLt_alikeAll xs ys A.in1 s vs.toList vs'.toList _ _ h4 k4 hal (room_in hu) j (by simpa using j1) (by simpa using j2) hj
        simpa using z
      · exact wpAny_truthy_bool hq
def full : PyData → Bool
  | .tuple (_ :: _) => true
  | _ => false
variable {M : Model}
/-- the first items of tuples -/
theorem firsts : ∀ {vs : List Value} {ds : List PyData}, EachIs (fun v d => ∃ as, Reads s.heap v d as) vs ds → (∀ d ∈ ds, ∃ xs, d = .tuple xs) → ∃ fs : List (Option Value), fs.map (·.isSome) = ds.map full ∧ ∀ {Q : List (Option Value) → Shared → Prop}, Q fs s → wpAny M A (vs.mapM firstOfTuple') Q E s
  | _, _, .nil, _ => ⟨[], rfl, fun h => by rw [List.mapM_nil]; exact wpAny_pure h⟩
  | _, _, .cons (a := v) (b := d) ⟨as, r⟩ t, hd => by
    obtain ⟨fs, e, k⟩ := firsts t fun d hm => hd d (List.mem_cons_of_mem _ hm)
    obtain ⟨xs, rfl⟩ := hd d List.mem_cons_self
    cases r with
    | @tuple l o vs n _ as₁ h1 h2 h3 h4 =>
      refine ⟨vs[0]? :: fs, ?_, fun {Q} h => ?_⟩
      · rw [List.map_cons, List.map_cons, e]
        congr 1
        cases q : vs.toList with
        | nil =>
          rw [q] at h4
          cases h4
          have : vs[0]? = none := by rw [← Array.getElem?_toList, q]; rfl
          rw [this]; rfl
        | cons x r =>
          rw [q] at h4
          cases h4
          have : vs[0]? = some x := by rw [← Array.getElem?_toList, q]; rfl
          rw [this]; rfl
      · rw [List.mapM_cons]
        refine wpAny_bind ?_
        rw [kas_first_eq]
        refine wpAny_bind (Looks.here (show Looks M s.heap (typeOf (.ref l)) o.cls from (Looks.ld h1).andThen .now) ?_)
        rw [h2, if_neg (by first | decide | simp)]
        refine wpAny_bind (listItems_at h1 h3 (wpAny_pure ?_))
        exact wpAny_bind (k (Q := fun bs s' => wpAny M A (pure (vs[0]? :: bs)) Q E s') (wpAny_pure h))
def kd0 : List PyData → SortKind
  | d :: _ => if full d = true then general' else oneType'
  | [] => general'
theorem kind_of {vs : List Value} {ds : List PyData} {Q : SortKind → Shared → Prop} (h : EachIs (fun v d => ∃ as, Reads s.heap v d as) vs ds) (ht : ∀ d ∈ ds, ∃ xs, d = .tuple xs) (he : ∃ d ∈ ds, d = .tuple []) (h2 : Q (kd0 ds) s) : wpAny M A (keyKind' vs.toArray) Q E s := by
  obtain ⟨fs, e, k⟩ := firsts (M := M) (A := A) (E := E) h ht
  rw [keyKind'_eq, List.mapM_toArray, map_eq_pure_bind]
  refine wpAny_bind (wpAny_bind (k (wpAny_pure ?_)))
  have n : ¬ (fs.toArray.all fun x => x.isSome) = true := by
    intro z
    obtain ⟨d, hd, rfl⟩ := he
    have : full (.tuple []) ∈ ds.map full := List.mem_map.mpr ⟨_, hd, rfl⟩
    rw [← e] at this
    obtain ⟨x, hx, ex⟩ := List.mem_map.mp this
    simp only [List.all_toArray, List.all_eq_true] at z
    rw [z x hx] at ex
    cases ex
  rw [if_neg n]
  obtain ⟨d0, dr, rfl⟩ : ∃ d0 dr, ds = d0 :: dr := by
    cases ds with
    | nil => obtain ⟨d, hd, _⟩ := he; exact absurd hd (by simp)
    | cons d r => exact ⟨d, r, rfl⟩
  obtain ⟨f0, fr, rfl⟩ : ∃ f0 fr, fs = f0 :: fr := by
    cases fs with
    | nil => cases e
    | cons d r => exact ⟨d, r, rfl⟩
  have e0 : f0.isSome = full d0 := (List.cons.inj e).1
  have ef : (((f0 :: fr).toArray)[0]?.bind id).isSome = full d0 := e0
  have h2 : Q (if full d0 = true then general' else oneType') s := h2
  rw [ef]
  split
  · rename_i q
    rw [if_pos q] at h2
    exact wpAny_pure h2
  · rename_i q
    rw [if_neg q] at h2
    rw [oneTypeOnly'_eq, List.mapM_toArray, map_eq_pure_bind]
    have hT : ∀ v ∈ vs, Looks M s.heap (typeOf v) (.type "tuple") := fun v hv => by
      obtain ⟨d, hd, as, r⟩ := h.left v hv
      obtain ⟨xs, rfl⟩ := ht d hd
      exact looks_reads r
    refine wpAny_bind (wpAny_bind (wpAny_bind (kas_mapM (r := Value.type "tuple") _ (fun v hv Q' hq => (hT v hv).here hq) (wpAny_pure ?_))))
    have ne : vs ≠ [] := by
      rintro rfl
      cases h
    obtain ⟨v, r, rfl⟩ : ∃ v r, vs = v :: r := by
      cases vs with
      | nil => exact absurd rfl ne
      | cons v r => exact ⟨v, r, rfl⟩
    have hall : ((List.map (fun _ => Value.type "tuple") (v :: r)).toArray.all fun x => x == Value.type "tuple") = true := by
      simp only [List.all_toArray, List.all_map, List.all_eq_true]
      intro _ _
      exact beq_self_eq_true _
    have h0 : (List.map (fun _ => Value.type "tuple") (v :: r)).toArray[0]? = some (Value.type "tuple") := by simp
    rw [h0]
    simp only [hall, if_true]
    exact wpAny_pure (wpAny_pure h2)
theorem keyLt_gen (x y : Value) : keyLt' general' x y = oneLt' false x y := rfl
/-- tuples of which some are empty can be sorted, too -/
theorem sorts_empty {vs : List Value} {ds : List PyData} (e : EachIs (fun v d => ∃ as, Reads s.heap v d as) vs ds) (hal : AllAlike ds) (ht : ∀ d ∈ ds, ∃ xs, d = .tuple xs) (he : ∃ d ∈ ds, d = .tuple []) (hu : ∀ d, d ∈ ds → A.units + d.depth < cLine) : SortsAt prog w A s (dataKind s.heap ds) vs := by
  have room : ∀ {d d' : PyData}, d ∈ ds → A.units + min d.depth d'.depth < cLine := fun {d d'} hd => Nat.lt_of_le_of_lt (Nat.add_le_add_left (Nat.min_le_left _ _) _) (hu d hd)
  have ask : ∀ (b : Bool) (E : Value → Shared → Prop) (x y : Value) (p q : List (Int ⊕ List Nat)) (Q : Bool → Shared → Prop), (dataKind s.heap ds).keyOf x = some p → (dataKind s.heap ds).keyOf y = some q → Q ((listOrd itemOrd).blt p q) s → wpAny (model prog w) A (oneLt' b x y) Q E s := by
    intro b E x y p q Q hp hq h
    obtain ⟨d, as, hd, ra, rfl⟩ := dataKind_inv hp
    obtain ⟨d', as', hd', rb, rfl⟩ := dataKind_inv hq
    cases b with
    | false => exact oneLt_alike (fun z => absurd z (by decide)) ra rb (hal d hd d' hd') (by obtain ⟨xs, rfl⟩ := ht d hd; exact nofun) (room hd) h
    | true =>
      obtain ⟨xs, rfl⟩ := ht d hd
      obtain ⟨ys, rfl⟩ := ht d' hd'
      exact one_tup ra rb (by have := hal _ hd _ hd'; simpa [alike] using this) (room hd) h
  refine ⟨fun v hv => ?_, kd0 ds, fun E x y p q Q hp hq h => ?_, fun _ E Q hq => kind_of e ht he hq⟩
  · obtain ⟨d, hd, as, r⟩ := e.left v hv
    exact ⟨_, dataKind_some hal hd r⟩
  · unfold kd0
    split
    · split
      · exact ask false E x y p q _ hp hq h
      · exact ask true E x y p q _ hp hq h
    · exact ask false E x y p q _ hp hq h
/-- the data can be sorted -/
def Srt (ds : List PyData) : Prop := Sortable ds ∨ ((∀ d ∈ ds, ∃ xs, d = .tuple xs) ∧ ∃ d ∈ ds, d = .tuple [])
theorem sorts {vs : List Value} {ds : List PyData} (e : EachIs (fun v d => ∃ as, Reads s.heap v d as) vs ds) (hal : AllAlike ds) (h : Srt ds) (hu : ∀ d, d ∈ ds → A.units + d.depth < cLine) : SortsAt prog w A s (dataKind s.heap ds) vs := by
  rcases h with h | h
  · exact SortsAt.data e hal h hu
  · exact sorts_empty e hal h.1 h.2 hu
/-! ### tuples that differ ahead of what cannot be compared -/
mutual
def noDict : PyData → Bool
  | .list xs => noDicts xs
  | .tuple xs => noDicts xs
  | .dict _ => false
  | _ => true
def noDicts : List PyData → Bool
  | [] => true
  | x :: xs => noDict x && noDicts xs
end
mutual
theorem reads_one {h : Heap} : ∀ (d d' : PyData) (v : Value) (as bs : List Addr), noDict d = true → Reads h v d as → Reads h v d' bs → d = d'
  | .none, _, _, _, _, _, r, r' => by cases r; cases r'; rfl
  | .bool _, _, _, _, _, _, r, r' => by cases r; cases r'; rfl
  | .int _, _, _, _, _, _, r, r' => by cases r; cases r'; rfl
  | .str _, _, _, _, _, _, r, r' => by cases r; cases r'; rfl
  | .list xs, d', _, _, _, n, r, r' => by
    cases r with
    | list a1 a2 a3 a4 =>
      cases r' with
      | list b1 b2 b3 b4 =>
        rw [a1] at b1; cases b1
        rw [a3] at b3; cases b3
        rw [reads_ones xs _ _ _ _ (by simpa [noDict] using n) a4 b4]
      | tuple b1 b2 b3 b4 =>
        rw [a1] at b1; cases b1
        rw [a2] at b2; exact absurd (Value.type.inj b2) (by decide)
      | dict b1 b2 b3 b4 b5 =>
        rw [a1] at b1; cases b1
        rw [a2] at b2; exact absurd (Value.type.inj b2) (by decide)
  | .tuple xs, d', _, _, _, n, r, r' => by
    cases r with
    | tuple a1 a2 a3 a4 =>
      cases r' with
      | tuple b1 b2 b3 b4 =>
        rw [a1] at b1; cases b1
        rw [a3] at b3; cases b3
        rw [reads_ones xs _ _ _ _ (by simpa [noDict] using n) a4 b4]
      | list b1 b2 b3 b4 =>
        rw [a1] at b1; cases b1
        rw [a2] at b2; exact absurd (Value.type.inj b2) (by decide)
      | dict b1 b2 b3 b4 b5 =>
        rw [a1] at b1; cases b1
        rw [a2] at b2; exact absurd (Value.type.inj b2) (by decide)
  | .dict _, _, _, _, _, n, _, _ => nomatch n
theorem reads_ones {h : Heap} : ∀ (ds es : List PyData) (vs : List Value) (as bs : List Addr), noDicts ds = true → ReadsAll h vs ds as → ReadsAll h vs es bs → ds = es
  | [], es, _, _, _, _, r, r' => by cases r; cases r'; rfl
  | d :: ds, es, _, _, _, n, r, r' => by
    have n' : noDict d = true ∧ noDicts ds = true := by simpa [noDicts] using n
    cases r with
    | cons r1 r2 =>
      cases r' with
      | cons q1 q2 => rw [reads_one d _ _ _ _ n'.1 r1 q1, reads_ones ds _ _ _ _ n'.2 r2 q2]
end
/-- item by item, up to the first that differs -/
def walike : List PyData → List PyData → Bool
  | x :: xs, y :: ys => alike x y && (!PyData.eqv x y || walike xs ys)
  | _, _ => true
theorem kat_weak {b fin : Bool} {Q : Bool → Shared → Prop} : ∀ (xs ys : List PyData) (i : Nat) (vs ws : List Value) (as bs : List Addr), ReadsAll s.heap vs xs as → ReadsAll s.heap ws ys bs → walike xs ys = true →
    A.units + min (PyData.depthAll xs) (PyData.depthAll ys) < cLine → (b = true → i = 0 → ∀ x r t, xs = x :: r → x ≠ .tuple t) → fin = decide (xs.length < ys.length) → Q (PyProof.Rows.lexLt itemOrd (keyToksAll xs) (keyToksAll ys)) s → KatLex prog w A b fin Q (vs.zip ws) i s
  | [], [], i, vs, ws, as, bs, ra, rb, _, hu, hb, hf, hq => katLex_alike [] [] i vs ws as bs ra rb rfl hu hb hf hq
  | [], y :: ys, i, vs, ws, as, bs, ra, rb, _, hu, hb, hf, hq => katLex_alike [] (y :: ys) i vs ws as bs ra rb (by simp [alikeAll]) hu hb hf hq
  | x :: xs, [], i, vs, ws, as, bs, ra, rb, _, hu, hb, hf, hq => katLex_alike (x :: xs) [] i vs ws as bs ra rb (by simp [alikeAll]) hu hb hf hq
  | x :: xs, y :: ys, i, vs, ws, as, bs, ra, rb, h, hu, hb, hf, hq => by
    have h' : alike x y = true ∧ (!PyData.eqv x y || walike xs ys) = true := by simpa [walike] using h
    have hf' : fin = decide (xs.length < ys.length) := by rw [hf]; simp
    cases ra with
    | cons r1 r2 =>
      cases rb with
      | cons q1 q2 =>
        rw [List.zip_cons_cons]
        refine kat_cons (eqAt_alike x y A s _ _ _ _ r1 q1 h'.1 (room_head hu) prog w _ _ ?_)
        cases e : PyData.eqv x y with
        | true =>
          rw [dataLt_all_yes h'.1 e] at hq
          have h2 : walike xs ys = true := by simpa [e] using h'.2
          exact kat_yes (kat_weak xs ys (i + 1) _ _ _ _ r2 q2 h2 (room_tail hu) (fun _ z => absurd z (Nat.succ_ne_zero i)) hf' hq)
        | false =>
          rw [dataLt_all_no h'.1 e] at hq
          refine kat_no (oneLt_alike (fun hi t => ?_) r1 q1 h'.1 (ne_none_of h'.1 e) (room_head hu) hq)
          rw [Bool.and_eq_true] at hi
          exact hb hi.1 (by simpa using hi.2) x xs t rfl
/-- tuples with an item at least, each two alike up to where they differ -/
structure Weak (ds : List PyData) : Prop where
  nd : ∀ d ∈ ds, noDict d = true
  full : ∀ d ∈ ds, ∃ x r, d = .tuple (x :: r)
  two : ∀ xs ys, .tuple xs ∈ ds → .tuple ys ∈ ds → walike xs ys = true
theorem key_weak {h : Heap} {ds : List PyData} (nd : ∀ d ∈ ds, noDict d = true) {v : Value} {d : PyData} {as : List Addr} (hd : d ∈ ds) (r : Reads h v d as) : (dataKind h ds).keyOf v = some (keyToks d) := by
  have q : ∃ d, d ∈ ds ∧ ∃ as, Reads h v d as := ⟨d, hd, as, r⟩
  have e : (dataKind h ds).keyOf v = some (keyToks q.choose) := by
    unfold dataKind
    exact dif_pos q
  obtain ⟨h1, as', h2⟩ := q.choose_spec
  rw [e, reads_one _ _ _ _ _ (nd _ h1) h2 r]
theorem sorts_weak {vs : List Value} {ds : List PyData} (e : EachIs (fun v d => ∃ as, Reads s.heap v d as) vs ds) (hw : Weak ds) (hu : ∀ d, d ∈ ds → A.units + d.depth < cLine) : SortsAt prog w A s (dataKind s.heap ds) vs := by
  have room : ∀ {d d' : PyData}, d ∈ ds → A.units + min d.depth d'.depth < cLine := fun {d d'} hd => Nat.lt_of_le_of_lt (Nat.add_le_add_left (Nat.min_le_left _ _) _) (hu d hd)
  refine ⟨fun v hv => ?_, ?_⟩
  · obtain ⟨d, hd, as, r⟩ := e.left v hv
    exact ⟨_, key_weak hw.nd hd r⟩
  · cases ds with
    | nil =>
      cases e
      exact ⟨general', fun E x y a b Q ha _ _ => (by
        obtain ⟨d, _, hd, _⟩ := dataKind_inv ha
        exact absurd hd (by simp)), fun z => absurd z (by simp)⟩
    | cons d0 dr =>
      obtain ⟨x0, r0, e0⟩ := hw.full d0 List.mem_cons_self
      have first : ∀ x r, PyData.tuple (x :: r) ∈ d0 :: dr → alike x x0 = true := by
        intro x r hm
        have q := hw.two _ (x0 :: r0) hm (by rw [← e0]; exact List.mem_cons_self)
        have q' : (alike x x0 && (!PyData.eqv x x0 || walike r r0)) = true := q
        exact (Bool.and_eq_true_iff.mp q').1
      refine ⟨tuples' (dataType x0 != Value.type "tuple"), ?_, fun z E Q hq => ?_⟩
      · intro E x y a b Q ha hb hq
        obtain ⟨d, as, hd, ra, rfl⟩ := dataKind_inv ha
        obtain ⟨d', as', hd', rb, rfl⟩ := dataKind_inv hb
        have rm := room (d' := d') hd
        obtain ⟨x1, r1, rfl⟩ := hw.full d hd
        obtain ⟨x2, r2, rfl⟩ := hw.full d' hd'
        have hq' : Q (dataLt (.tuple (x1 :: r1)) (.tuple (x2 :: r2))) s := hq
        rw [dataLt_tuple] at hq'
        cases ra with
        | @tuple l o us n _ _ h1 h2 h3 h4 =>
          cases rb with
          | @tuple l' o' us' n' _ _ k1 k2 k3 k4 =>
            have n1 : us.size = (x1 :: r1).length := by simpa using ReadsAll.length _ _ _ h4
            have n2 : us'.size = (x2 :: r2).length := by simpa using ReadsAll.length _ _ _ k4
            refine kat_lt h1 h3 k1 k3 (kat_weak (x1 :: r1) (x2 :: r2) 0 _ _ _ _ h4 k4 (hw.two _ _ hd hd') (by have q := room_in rm; omega) (fun hb _ x r t ex => ?_) (by rw [n1, n2]) hq')
            obtain ⟨rfl, rfl⟩ := List.cons.inj ex
            have q := dataType_alike (first _ _ hd)
            rw [← q] at hb
            exact dataType_tuple hb t
      · obtain ⟨fs, t1, t2, t3⟩ := each_katTups e hw.full
        refine kat_kind (T := dataType x0) t1 (by omega) (fun f hf => ?_) (beq_self_eq_true _) hq
        obtain ⟨x, r, as, m1, m2⟩ := t3 f hf
        rw [← dataType_alike (first x r m1)]
        exact looks_reads m2
theorem keys_weak {h : Heap} {ds : List PyData} (nd : ∀ d ∈ ds, noDict d = true) {vs : List Value} (e : EachIs (fun v d => ∃ as, Reads h v d as) vs ds) : EachIs (fun v d => (dataKind h ds).keyOf v = some (keyToks d)) vs ds :=
  (each_mem e).mono fun _ _ ⟨⟨_, r⟩, hd⟩ => key_weak nd hd r
end
end Srd
set_option Elab.async false
set_option linter.all false
set_option maxRecDepth 100000
set_option maxHeartbeats 1000000
/-! sorted(x) over what is gathered from x, whatever x is. -/
namespace Srd
open PySem PySem.W PySem.Calls PySem.SeqAt PyProof.Rows
section
variable {prog : Program} {w : World} {A : Around} {E : Value → Shared → Prop} {s : Shared}
/-- what is gathered -/
def Gath (prog : Program) (w : World) (A : Around) (s : Shared) (arg : Value) (vs : List Value) : Prop :=
  ∀ (E : Value → Shared → Prop) (Q : List Value → Shared → Prop), (∀ h' tk, (∀ b o, s.heap.get? b = some o → h'.get? b = some o) → s.heap.objs.size ≤ h'.objs.size → Q vs { s with heap := h', toks := tk }) → wpAny (model prog w) A (collect arg) Q E s
theorem sorted_gath {arg : Value} {vs : List Value} {Q : Value → Shared → Prop} (ha : argsOk "sorted" ⟨[arg], []⟩) (hL : vs.length ≤ sizeLine) (hc : Gath prog w A.in1 s arg vs) {κ : Shared → PyProof.Rows.KeyKind}
    (S : ∀ s' : Shared, (∀ b o, s.heap.get? b = some o → s'.heap.get? b = some o) → SortsAt prog w A.in1.in1 s' (κ s') vs)
    (h : ∀ (s' : Shared) (h' : Heap) (tk : Nat) (p : Addr) (n : Nat), (∀ b o, s.heap.get? b = some o → s'.heap.get? b = some o) → (∀ b o, s.heap.get? b = some o → h'.get? b = some o) → s.heap.objs.size ≤ p → h'.get? p = some (seqObj "list" (sortVals (κ s') false vs vs).toArray n) → Q (.ref p) { s with heap := h', toks := tk }) :
    wpAny (model prog w) A (call (.builtin "sorted") [arg]) Q E s := by
  refine call_function_entry kind_sorted plain_sorted entry_sorted ha ?_
  unfold Builtin.«sorted»
  refine wpAny_bind (m := checkCount "sorted" 1 1 _) (wpAny_pure ?_)
  refine wpAny_bind (hc _ _ fun h1 tk k1 z1 => ?_)
  refine wpAny_bind (wpAny_newList ?_ hL)
  have at1 : (h1.push (seqObj "list" vs.toArray 0)).get? h1.objs.size = some (seqObj "list" vs.toArray 0) := Heap.get?_push_size _ rfl
  have lt1 : ∀ b o, s.heap.get? b = some o → b ≠ h1.objs.size := fun b o e => Nat.ne_of_lt (Heap.lt_size (k1 b o e))
  have k2 : ∀ b o, s.heap.get? b = some o → (sortingHeap (h1.push (seqObj "list" vs.toArray 0)) h1.objs.size vs).get? b = some o := fun b o e => sortingHeap_old (lt1 b o e) (Heap.get?_push_of_some _ (k1 b o e))
  refine wpAny_bind (wpAny_holding (wpAny_call_entry slot_list_sort ⟨_, at1, rfl⟩ entry_list_sort (list_sort_vals (s := { s with heap := h1.push (seqObj "list" vs.toArray 0), toks := tk }) (κ := κ { s with heap := sortingHeap (h1.push (seqObj "list" vs.toArray 0)) h1.objs.size vs, toks := tk }) at1 (S _ k2) hL ⟨.none, rfl, ?_⟩) (args_list_sort _)))
  obtain ⟨n, hn⟩ := sortedHeap_at (vs := vs) (out := (sortVals (κ { s with heap := sortingHeap (h1.push (seqObj "list" vs.toArray 0)) h1.objs.size vs, toks := tk }) false vs vs).toArray) at1
  exact wpAny_pure ⟨_, rfl, h _ _ tk _ n k2 (fun b o e => (sortedHeap_old (lt1 b o e) (Nat.lt_of_lt_of_le (Heap.lt_size (k1 b o e)) (by rw [size_push']; exact Nat.le_succ _))).trans (Heap.get?_push_of_some _ (k1 b o e))) z1 hn⟩
theorem gath_list {l : Addr} {vs : List Value} (hl : s.heap.IsList l vs.toArray) (hL : vs.length ≤ sizeLine) : Gath prog w A s (.ref l) vs := fun E Q h => by
  refine collect_list hl (h _ _ (fun b o e => ?_) ?_) hL
  · have := Heap.lt_size e
    rw [Heap.get?_update_ne _ _ _ _ (Nat.ne_of_lt this)]
    exact Heap.get?_push_of_some _ e
  · rw [Heap.size_update, size_push']; exact Nat.le_succ _
theorem gath_dict {d : Addr} {es : Array DictEntry} {ep : Nat} (hh : A.handled = none) (lo : (d == sysModules) = false) (hd : s.heap.DictRaw d es ep) (hL : es.size ≤ sizeLine) : Gath prog w A s (.ref d) (es.toList.map (·.key)) := fun E Q h => by
  have hlt : d < s.heap.objs.size := hd.lt_size
  unfold collect
  refine wpAny_bind (wpAny_runValue (codeAny_builtin entry_proto_collect' ?_))
  rw [Around.under_plainId F.plain_proto_collect _]
  show wpAny _ A.in1 (newList [] >>= fun l => again (.builtin "list.__iadd__" ⟨[l, .ref d], []⟩)) _ _ s
  refine wpAny_bind (wpAny_newObj_type ?_)
  refine wpAny_pure ⟨plainId_quiet F.plain_list_iadd _, codeAny_builtin entry_list_iadd' ?_⟩
  rw [Around.under_plainId F.plain_list_iadd _]
  show wpAny _ A.in1 (Builtin.List.listExtendWith (.ref s.heap.objs.size) (.ref d) (.ref s.heap.objs.size)) _ _ _
  have new : (s.heap.push { cls := .type "list", data := .seq ([] : List Value).toArray }).get? s.heap.objs.size = some { cls := .type "list", data := .seq #[] } := Heap.get?_push_size _ rfl
  refine wpAny_mono (kdl_extend (A := A) (s := { s with heap := s.heap.push { cls := .type "list", data := .seq ([] : List Value).toArray } }) (KdlSrc.rawDict (prog := prog) (w := w) (es := es) (ep := ep) lo) hh (hd.push _) s.heap.objs.size (Nat.ne_of_gt hlt) (Nat.ne_of_gt hlt) (.ref s.heap.objs.size) 0 new
    (R := fun q s' => ∃ (h2 : Heap) (tk : Nat) (acc : Array Value) (c : Nat), q = .ok (.ret (.ref s.heap.objs.size)) ∧ s' = { s with heap := h2, toks := tk } ∧ (∀ b o, s.heap.get? b = some o → h2.get? b = some o) ∧ h2.get? s.heap.objs.size = some { cls := .type "list", dict := none, data := .seq acc c, slots := #[] } ∧ acc.toList = es.toList.map (·.key))
    (fun h2 tk acc c k e it => ⟨h2, tk, acc, c, rfl, rfl, fun b o g => k b o (Nat.ne_of_lt (Heap.lt_size g)) (Heap.get?_push_of_some _ g), e, ?_⟩) hL) (fun fin s' g => ?_) (fun e s' g => ?_)
  · apply List.ext_getElem
    · rw [Array.length_toList, it.1, List.length_map, Array.length_toList]
    · intro i h3 h4
      have h3' : i < acc.size := by simpa using h3
      obtain ⟨hi, ei⟩ := it.2 i _ (Array.getElem?_eq_getElem h3')
      simpa using ei
  · cases fin with
    | done f =>
      obtain ⟨h2, tk, acc, c, e, rfl, k, g2, ea⟩ := g
      cases e
      show wpAny _ A (load s.heap.objs.size >>= _) _ _ _
      refine wpAny_bind (wpAny_load g2 (wpAny_pure ?_))
      show Q acc.toList _
      rw [ea]
      exact h h2 tk k (Nat.le_of_lt (Heap.lt_size g2))
    | again c0 =>
      refine ⟨g.1, codeAny_mono g.2 fun q s2 y => ?_⟩
      obtain ⟨h2, tk, acc, c, rfl, rfl, k, g2, ea⟩ := y
      show wpAny _ A (load s.heap.objs.size >>= _) _ _ _
      refine wpAny_bind (wpAny_load g2 (wpAny_pure ?_))
      show Q acc.toList _
      rw [ea]
      exact h h2 tk k (Nat.le_of_lt (Heap.lt_size g2))
  · obtain ⟨h2, tk, acc, c, e, _⟩ := g
    cases e
end
end Srd
set_option Elab.async false
set_option linter.all false
set_option maxRecDepth 100000
set_option maxHeartbeats 1000000
/-! The data layer: sorted(x), x a list or a dict with tuple keys; list(d). -/
namespace Dl
open PySem PySem.Spec PyProof.Rows L2 PySem.W
/-! ### data as plain data -/
mutual
def pyD : D → Option PyData
  | .non => some .none
  | .bl b => some (.bool b)
  | .int i => some (.int i)
  | .str x => some (.str x)
  | .tup ds => (pysD ds).map .tuple
  | .lst ds => (pysD ds).map .list
  | _ => none
def pysD : List D → Option (List PyData)
  | [] => some []
  | d :: ds => match pyD d, pysD ds with
    | some p, some ps => some (p :: ps)
    | _, _ => none
end
def encP (d : D) : PyData := (pyD d).getD .none
def isTup : D → Bool
  | .tup _ => true
  | _ => false
def isNon : D → Bool
  | .non => true
  | _ => false
/-- these can be sorted -/
def srtB (ds : List D) : Bool := ds.all (fun d => (pyD d).isSome && decide ((encP d).depth ≤ 60)) && ds.all (fun d => ds.all fun e => alike (encP d) (encP e)) && (ds.all isTup || ds.all fun d => !isTup d && !isNon d)
def itemsP : PyData → List PyData
  | .tuple xs => xs
  | _ => []
def fullT : D → Bool
  | .tup (_ :: _) => true
  | _ => false
/-- .. also these: tuples that differ ahead of what cannot be compared -/
def srtW (ds : List D) : Bool := ds.all (fun d => (pyD d).isSome && decide ((encP d).depth ≤ 60)) && (ds.all fullT && ds.all fun d => ds.all fun e => Srd.walike (itemsP (encP d)) (itemsP (encP e)))
def srtX (ds : List D) : Bool := srtB ds || srtW ds
def sortD (ds : List D) : List D := ds.mergeSort (dataLe false encP)
section
variable {X : Cx} {cl : Cl} {pins : List (Addr × Obj)} {σ : L2.St} {s : Shared} {w : Wd}
mutual
theorem py_reads (I : Inv X pins σ w.H s) (ok : w.Ok X.K cl) : ∀ (d : D) (v : V) (u : Value) (p : PyData), Rep X.K cl w.F w.m d v → RelV v u → pyD d = some p → ∃ as, Reads s.heap u p as
  | .non, v, u, p, r, e, h => by
    cases (show v = .non from r)
    cases (show u = Value.none from e)
    cases h
    exact ⟨_, .none⟩
  | .bl b, v, u, p, r, e, h => by
    cases (show v = .bl b from r)
    cases (show u = Value.bool b from e)
    cases h
    exact ⟨_, .bool b⟩
  | .int i, v, u, p, r, e, h => by
    cases (show v = .int i from r)
    obtain ⟨t, rfl⟩ := (show ∃ t, u = Value.int i t from e)
    cases h
    exact ⟨_, .int i t⟩
  | .str x, v, u, p, r, e, h => by
    cases (show v = .str x from r)
    obtain ⟨t, rfl⟩ := (show ∃ t, u = Value.str x t from e)
    cases h
    exact ⟨_, .str x t⟩
  | .tup ds, v, u, p, r, e, h => by
    obtain ⟨a, xs, rfl, ht, rs⟩ := r
    cases (show u = Value.ref a from e)
    rw [pyD, Option.map_eq_some_iff] at h
    obtain ⟨ps, hp, rfl⟩ := h
    obtain ⟨its, rv, ⟨o, h1, h2, n, h3⟩, hz⟩ := I.tuple (TL.here ok ht)
    obtain ⟨as, ra⟩ := pys_reads I ok ds xs its ps rs rv hp
    exact ⟨_, .tuple h1 h2 h3 (by simpa using ra)⟩
  | .lst ds, v, u, p, r, e, h => by
    obtain ⟨a, xs, rfl, ht, rs⟩ := r
    cases (show u = Value.ref a from e)
    rw [pyD, Option.map_eq_some_iff] at h
    obtain ⟨ps, hp, rfl⟩ := h
    obtain ⟨its, rv, hl, hz⟩ := I.list (LL.here ok ht)
    obtain ⟨o, h1, h2, n, h3⟩ := hl.isList
    obtain ⟨as, ra⟩ := pys_reads I ok ds xs its ps rs rv hp
    exact ⟨_, .list h1 h2 h3 (by simpa using ra)⟩
  | .rol _, _, _, _, _, _, h => nomatch h
  | .dic _ _, _, _, _, _, _, h => nomatch h
  | .dit _ _, _, _, _, _, _, h => nomatch h
  | .obj _ _ _, _, _, _, _, _, h => nomatch h
  | .ptr _, _, _, _, _, _, h => nomatch h
theorem pys_reads (I : Inv X pins σ w.H s) (ok : w.Ok X.K cl) : ∀ (ds : List D) (vs : List V) (us : List Value) (ps : List PyData), Reps X.K cl w.F w.m ds vs → Vals vs us → pysD ds = some ps → ∃ as, ReadsAll s.heap us ps as
  | [], vs, us, ps, r, e, h => by
    cases (show vs = [] from r)
    cases e
    cases h
    exact ⟨_, .nil⟩
  | d :: ds, vs, us, ps, r, e, h => by
    obtain ⟨v, ws, rfl, r1, r2⟩ := r
    cases e with
    | cons e1 e2 =>
      unfold pysD at h
      split at h
      · rename_i p ps' hp hps
        cases h
        obtain ⟨as, a1⟩ := py_reads I ok d v _ p r1 e1 hp
        obtain ⟨bs, b1⟩ := pys_reads I ok ds ws _ ps' r2 e2 hps
        exact ⟨_, .cons a1 b1⟩
      · cases h
end
theorem depth_sorted {ds : List D} (h : srtB ds = true) : (∀ d ∈ ds, (pyD d).isSome = true ∧ (encP d).depth ≤ 60) ∧ AllAlike (ds.map encP) ∧ Srd.Srt (ds.map encP) := by
  unfold srtB at h
  simp only [Bool.and_eq_true, Bool.or_eq_true, List.all_eq_true, decide_eq_true_eq, Bool.not_eq_true'] at h
  obtain ⟨⟨h1, h2⟩, h3⟩ := h
  have sm : ∀ d ∈ ds, pyD d = some (encP d) := fun d hd => by
    have := (h1 d hd).1
    unfold encP
    cases q : pyD d with
    | none => rw [q] at this; cases this
    | some p => rfl
  refine ⟨h1, fun p hp q hq => ?_, ?_⟩
  · obtain ⟨d, hd, rfl⟩ := List.mem_map.mp hp
    obtain ⟨e, he, rfl⟩ := List.mem_map.mp hq
    exact h2 d hd e he
  · rcases h3 with h3 | h3
    · have tp : ∀ d ∈ ds.map encP, ∃ xs, d = .tuple xs := fun p hp => by
        obtain ⟨d, hd, rfl⟩ := List.mem_map.mp hp
        have z := sm d hd
        have t := h3 d hd
        cases d with
        | tup xs =>
          rw [pyD, Option.map_eq_some_iff] at z
          obtain ⟨ps, _, e⟩ := z
          exact ⟨ps, e.symm⟩
        | _ => cases t
      by_cases q : ∃ d ∈ ds.map encP, d = .tuple []
      · exact .inr ⟨tp, q⟩
      · refine .inl (.inl fun d hd => ?_)
        obtain ⟨xs, rfl⟩ := tp d hd
        cases xs with
        | nil => exact absurd ⟨_, hd, rfl⟩ q
        | cons x r => exact ⟨x, r, rfl⟩
    · refine .inl (.inr fun p hp => ?_)
      obtain ⟨d, hd, rfl⟩ := List.mem_map.mp hp
      have z := sm d hd
      obtain ⟨t1, t2⟩ := h3 d hd
      cases d with
      | non => cases t2
      | tup xs => cases t1
      | bl b => cases z; exact ⟨nofun, nofun⟩
      | int b => cases z; exact ⟨nofun, nofun⟩
      | str b => cases z; exact ⟨nofun, nofun⟩
      | lst ds =>
        rw [pyD, Option.map_eq_some_iff] at z
        obtain ⟨ps, _, e⟩ := z
        rw [← e]
        exact ⟨nofun, nofun⟩
      | _ => cases z
mutual
theorem py_nodict : ∀ (d : D) (p : PyData), pyD d = some p → Srd.noDict p = true
  | .non, p, h => by cases h; rfl
  | .bl _, p, h => by cases h; rfl
  | .int _, p, h => by cases h; rfl
  | .str _, p, h => by cases h; rfl
  | .tup ds, p, h => by
    rw [pyD, Option.map_eq_some_iff] at h
    obtain ⟨ps, hp, rfl⟩ := h
    exact pys_nodict ds ps hp
  | .lst ds, p, h => by
    rw [pyD, Option.map_eq_some_iff] at h
    obtain ⟨ps, hp, rfl⟩ := h
    exact pys_nodict ds ps hp
  | .rol _, _, h => nomatch h
  | .dic _ _, _, h => nomatch h
  | .dit _ _, _, h => nomatch h
  | .obj _ _ _, _, h => nomatch h
  | .ptr _, _, h => nomatch h
theorem pys_nodict : ∀ (ds : List D) (ps : List PyData), pysD ds = some ps → Srd.noDicts ps = true
  | [], ps, h => by cases h; rfl
  | d :: ds, ps, h => by
    unfold pysD at h
    split at h
    · rename_i p ps' hp hps
      cases h
      show (Srd.noDict p && Srd.noDicts ps') = true
      rw [py_nodict d p hp, pys_nodict ds ps' hps]; rfl
    · cases h
end
theorem sort_basis {prog : Program} {w : World} {A : Around} {ds : List D} (h : srtX ds = true) : (∀ d ∈ ds, (pyD d).isSome = true ∧ (encP d).depth ≤ 60) ∧ ∀ {s : Shared} {vs : List Value}, EachIs (fun v d => ∃ as, Reads s.heap v d as) vs (ds.map encP) → (A.units + 60 < cLine) →
    SortsAt prog w A s (dataKind s.heap (ds.map encP)) vs ∧ EachIs (fun v d => (dataKind s.heap (ds.map encP)).keyOf v = some (keyToks d)) vs (ds.map encP) := by
  unfold srtX at h
  rw [Bool.or_eq_true] at h
  rcases h with h | h
  · obtain ⟨h1, al, st⟩ := depth_sorted h
    refine ⟨h1, fun e hu => ⟨Srd.sorts e al st fun p hp => ?_, each_keys al e⟩⟩
    obtain ⟨d, hd, rfl⟩ := List.mem_map.mp hp
    have := (h1 d hd).2
    omega
  · unfold srtW at h
    simp only [Bool.and_eq_true, List.all_eq_true, decide_eq_true_eq] at h
    obtain ⟨h1, h2, h3⟩ := h
    have sm : ∀ d ∈ ds, pyD d = some (encP d) := fun d hd => by
      have := (h1 d hd).1
      unfold encP
      cases q : pyD d with
      | none => rw [q] at this; cases this
      | some p => rfl
    have nd : ∀ p ∈ ds.map encP, Srd.noDict p = true := fun p hp => by
      obtain ⟨d, hd, rfl⟩ := List.mem_map.mp hp
      exact py_nodict d _ (sm d hd)
    have full : ∀ p ∈ ds.map encP, ∃ x r, p = .tuple (x :: r) := fun p hp => by
      obtain ⟨d, hd, rfl⟩ := List.mem_map.mp hp
      have z := sm d hd
      have f := h2 d hd
      cases d with
      | tup xs =>
        cases xs with
        | nil => cases f
        | cons x r =>
          rw [pyD, Option.map_eq_some_iff] at z
          obtain ⟨ps, hp, e⟩ := z
          unfold pysD at hp
          split at hp
          · cases hp
            exact ⟨_, _, e.symm⟩
          · cases hp
      | _ => cases f
    have two : ∀ xs ys, PyData.tuple xs ∈ ds.map encP → PyData.tuple ys ∈ ds.map encP → Srd.walike xs ys = true := fun xs ys hx hy => by
      obtain ⟨d, hd, e1⟩ := List.mem_map.mp hx
      obtain ⟨d', hd', e2⟩ := List.mem_map.mp hy
      have z := h3 d hd d' hd'
      rw [e1, e2] at z
      exact z
    have hw : Srd.Weak (ds.map encP) := ⟨nd, full, two⟩
    refine ⟨h1, fun e hu => ⟨Srd.sorts_weak e hw fun p hp => ?_, Srd.keys_weak nd e⟩⟩
    obtain ⟨d, hd, rfl⟩ := List.mem_map.mp hp
    have := (h1 d hd).2
    omega
/-- values that bear data -/
def Bears (X : Cx) (cl : Cl) (w : Wd) (u : Value) (d : D) : Prop := ∃ x, RelV x u ∧ Rep X.K cl w.F w.m d x
theorem bears_of : ∀ {ds : List D} {vs : List V} {us : List Value}, Reps X.K cl w.F w.m ds vs → Vals vs us → EachIs (Bears X cl w) us ds
  | [], vs, us, r, e => by
    cases (show vs = [] from r)
    cases e
    exact .nil
  | d :: ds, vs, us, r, e => by
    obtain ⟨v, ws, rfl, r1, r2⟩ := r
    cases e with
    | cons e1 e2 => exact .cons ⟨v, e1, r1⟩ (bears_of r2 e2)
theorem of_bears : ∀ {us : List Value} {ds : List D}, EachIs (Bears X cl w) us ds → ∃ vs, Vals vs us ∧ Reps X.K cl w.F w.m ds vs
  | _, _, .nil => ⟨[], .nil, rfl⟩
  | _, _, .cons ⟨x, e, r⟩ t => by
    obtain ⟨vs, e2, r2⟩ := of_bears t
    exact ⟨x :: vs, .cons e e2, x, vs, rfl, r, r2⟩
/-- what is walked: the items of a list, the keys of a dict -/
def From (X : Cx) (H : Hp) (a : Addr) (xs : List V) : Prop := SqL X.K H a xs ∨ ∃ es : NE, Rd H a (nD X.w a es) ∧ NKs X.K H es ∧ xs = es.map fun e => .ref e.2.1
theorem raw_of {a : Addr} {es : NE} {H : Hp} (I : Inv X pins σ H s) (e : Rd H a (nD X.w a es)) : ∃ (xs : Array DictEntry) (ep : Nat), (a == sysModules) = false ∧ s.heap.DictRaw a xs ep ∧ xs.size ≤ sizeLine ∧ Vals (es.map fun e => .ref e.2.1) (xs.toList.map (·.key)) := by
  obtain ⟨z, lo, nd, ys, o, xs, ep, p, h1, h2, h3, h4⟩ := nd_ok I.hok e
  refine ⟨xs, ep, lo, ⟨o, h1, h2, h3⟩, ?_, ?_⟩
  · rw [← Array.length_toList, h4, List.length_map, ← Paired.length p]; exact z
  · rw [h4, List.map_map]
    clear h4 h3 h2 h1 nd z e
    induction p with
    | nil => exact .nil
    | @cons x y xs ys h t ih => exact .cons (by show Value.ref y.2.1 = Value.ref x.2.1; rw [h.2.1]) ih
def rSortD (X : Cx) (cl : Cl) : List V → Hp → VK → Prop := fun vs H Q => ∃ (w : Wd) (a : Addr) (xs : List V) (ds : List D), w.H = H ∧ w.Ok X.K cl ∧ vs = [.ref a] ∧ From X H a xs ∧ Reps X.K cl w.F w.m ds xs ∧ srtX ds = true ∧
  ∀ p ys, H p = none → Reps X.K cl w.F w.m (sortD ds) ys → Q (.ref p) (upd H p (.lst ys))
theorem call_sortD (hc : X.calm = true) (hu : X.A.units + 65 < cLine) : CallR X (.builtin "sorted") (rSortD X cl) := by
  intro pins s σ H vs us Q I r h
  obtain ⟨w, a, xs, ds, rfl, ok, rfl, fr, rs, sb, q⟩ := h
  obtain ⟨u, rfl, ru⟩ := vals1 r
  obtain rfl : u = Value.ref a := ru
  obtain ⟨sm, bas⟩ := sort_basis (prog := X.prog) (w := X.w) (A := X.A.in1.in1) sb
  have room : X.A.in1.in1.units + 60 < cLine := by show X.A.units + 1 + 1 + 60 < cLine; omega
  obtain ⟨its, rv, hL, hg⟩ : ∃ its : List Value, Vals xs its ∧ its.length ≤ sizeLine ∧ Srd.Gath X.prog X.w X.A.in1 s (.ref a) its := by
    rcases fr with f | ⟨es, f, fk, rfl⟩
    · obtain ⟨its, rv, hl, hz⟩ := I.list f
      have hz' : its.length ≤ sizeLine := by rw [← rv.length]; exact hz
      exact ⟨its, rv, hz', Srd.gath_list hl.isList hz'⟩
    · obtain ⟨es', ep, lo, raw, hz, vl⟩ := raw_of I f
      exact ⟨_, vl, by rw [List.length_map, Array.length_toList]; exact hz, Srd.gath_dict (I.ok.hd hc) lo raw hz⟩
  have be : EachIs (Bears X cl w) its ds := bears_of rs rv
  have er : ∀ h' : Heap, (∀ b o, s.heap.get? b = some o → h'.get? b = some o) → EachIs (fun v d => ∃ as, Reads h' v (encP d) as) its ds := fun h' k => by
    have I' := I.kept (t' := s.toks) k
    have gen : ∀ {us : List Value} {es : List D}, (∀ d ∈ es, d ∈ ds) → EachIs (Bears X cl w) us es → EachIs (fun v d => ∃ as, Reads h' v (encP d) as) us es := by
      intro us es hm e
      induction e with
      | nil => exact .nil
      | @cons u d us es h t ih =>
        refine .cons ?_ (ih fun d hd => hm d (List.mem_cons_of_mem _ hd))
        obtain ⟨x, e1, e2⟩ := h
        have z := (sm d (hm d List.mem_cons_self)).1
        cases hp : pyD d with
        | none => rw [hp] at z; cases z
        | some p =>
          have := py_reads I' ok d x u p e2 e1 hp
          unfold encP
          rw [hp]
          exact this
    exact gen (fun _ h => h) be
  have ep : ∀ h' : Heap, (∀ b o, s.heap.get? b = some o → h'.get? b = some o) → EachIs (fun v d => ∃ as, Reads h' v d as) its (ds.map encP) := fun h' k => PySem.W.each_map (R := fun v d => ∃ as, Reads h' v d as) encP (er h' k)
  refine Srd.sorted_gath (args_sorted1 _) hL hg (κ := fun s' => dataKind s'.heap (ds.map encP)) (fun s' k => (bas (s := s') (ep s'.heap k) room).1) fun s' h' tk p n k1 k2 hp hn => ?_
  · obtain ⟨ys, e1, e2⟩ := of_bears (sortVals_each (R := Bears X cl w) (rev := false) (κ := dataKind s'.heap (ds.map encP)) (fun d => keyToks (encP d)) be (each_of_map encP (bas (s := s') (ep s'.heap k1) room).2))
    refine ⟨.ref p, upd w.H p (.lst ys), I.laid (t' := tk) k2 hp ⟨?_, _, n, e1, hn⟩, rfl, q p ys (I.hok.fresh hp) e2⟩
    rw [e1.length]
    have : (sortVals (dataKind s'.heap (ds.map encP)) false its its).length = its.length := sortVals_length false rfl
    rw [this]
    exact hL
theorem lst_laid {w : Wd} {p : Addr} {ys : List V} {ds : List D} (ok : w.Ok X.K cl) (hp : w.H p = none) (r : Reps X.K cl w.F w.m ds ys) : Af X.K cl w ⟨upd w.H p (.lst ys), upd w.F p (.lst ys), w.m, w.S⟩ ∧ RV X.K cl ⟨upd w.H p (.lst ys), upd w.F p (.lst ys), w.m, w.S⟩ (.lst ds) (.ref p) :=
  ⟨ok.laid hp, p, ys, rfl, upd_same, Reps.mono (fun b o hb => by show upd w.F p _ b = _; rw [upd_ne (ne_of_none hb (ok.free hp))]; exact hb) (fun _ _ h => h) _ _ r⟩
def bSorted : List D → Sto → Out D := fun xs S => match xs with
  | [x] => (match deref x S with
    | .lst ds => if srtX ds = true then .ok (.lst (sortD ds)) S else .bad
    | .rol ds => if srtX ds = true then .ok (.lst (sortD ds)) S else .bad
    | .dit ks _ => if srtX ks = true then .ok (.lst (sortD ks)) S else .bad
    | _ => .bad)
  | _ => .bad
theorem c_sorted (hw : cl.w = X.w) : CallD X.K cl (rSortD X cl) bSorted := by
  intro w xs vs W Q ok r p
  unfold bSorted at p
  have fin : ∀ {zs ds : List D} {p : Addr} {ys : List V} {Q : Hp → Prop}, w.H p = none → Reps X.K cl w.F w.m ds ys → (∀ w2, Af X.K cl w w2 → w2.S = w.S → RV X.K cl w2 (.lst ds) (.ref p) → Q w2.H) → Q (upd w.H p (.lst ys)) := by
    intro zs ds p ys Q hp r q
    have z := lst_laid ok hp r
    exact q _ z.1 rfl z.2
  split at p
  · rename_i x
    obtain ⟨v, rfl, r1⟩ := RL.one r
    split at p
    · rename_i ds h
      obtain ⟨a, us, ev, h1, h2⟩ := deref_lst ok r1 h
      subst ev
      split at p
      · rename_i hs
        exact ⟨w, a, us, ds, rfl, ok, rfl, .inl (.inl (.of h1)), h2, hs, fun q ys hq rq => fin (zs := ds) (Q := fun H => Q (.ref q) H) hq rq fun w2 a2 e2 r2 => p w2 _ a2 e2 r2⟩
      · exact p.elim
    · rename_i ds h
      obtain ⟨a, us, ev, h1, h2⟩ := deref_rol ok r1 h
      subst ev
      split at p
      · rename_i hs
        exact ⟨w, a, us, ds, rfl, ok, rfl, .inl h1, h2, hs, fun q ys hq rq => fin (zs := ds) (Q := fun H => Q (.ref q) H) hq rq fun w2 a2 e2 r2 => p w2 _ a2 e2 r2⟩
      · exact p.elim
    · rename_i ks vs h
      obtain ⟨a, es, ev, h1, h2⟩ := deref_dit ok r1 h
      subst ev
      split at p
      · rename_i hs
        exact ⟨w, a, _, ks, rfl, ok, rfl, .inr ⟨es, hw ▸ h1, h2.keys ok, rfl⟩, h2.k, hs, fun q ys hq rq => fin (zs := ks) (Q := fun H => Q (.ref q) H) hq rq fun w2 a2 e2 r2 => p w2 _ a2 e2 r2⟩
      · exact p.elim
    · exact p.elim
  · exact p.elim
/-! ### list(d) -/
def rListD (X : Cx) : List V → Hp → VK → Prop := fun vs H Q => ∃ (a : Addr) (es : NE), vs = [.ref a] ∧ Rd H a (nD X.w a es) ∧ ∀ p, H p = none → Q (.ref p) (upd H p (.lst (es.map fun e => .ref e.2.1)))
theorem call_listD2 (hc : X.calm = true) : CallR X (.type "list") (rListD X) := by
  intro pins s σ H vs us Q I r h
  obtain ⟨a, es, rfl, f, q⟩ := h
  obtain ⟨u, rfl, ru⟩ := vals1 r
  obtain rfl : u = Value.ref a := ru
  obtain ⟨ds, ep, lo, raw, hz, vl⟩ := raw_of I f
  refine kdl_call (KdlSrc.rawDict (prog := X.prog) (w := X.w) (es := ds) (ep := ep) lo) (I.ok.hd hc) raw hz fun h' tk acc c k e it => ?_
  have ea : acc.toList = ds.toList.map (·.key) := by
    apply List.ext_getElem
    · rw [Array.length_toList, it.1, List.length_map, Array.length_toList]
    · intro i h3 h4
      have h3' : i < acc.size := by simpa using h3
      obtain ⟨hi, ei⟩ := it.2 i _ (Array.getElem?_eq_getElem h3')
      simpa using ei
  refine ⟨.ref s.heap.objs.size, upd H s.heap.objs.size (.lst (es.map fun e => .ref e.2.1)), I.laid (t' := tk) k (Nat.le_refl _) ⟨?_, acc.toList, c, ?_, ?_⟩, rfl, q _ (I.hok.fresh (Nat.le_refl _))⟩
  · have z := vl.length
    have z2 : es.length = ds.size := by simpa using z
    show (es.map fun e => V.ref e.2.1).length ≤ sizeLine
    rw [List.length_map, z2]; exact hz
  · rw [ea]; exact vl
  · exact e
def bListN : List D → Sto → Out D := fun xs S => match xs with
  | [x] => (match deref x S with
    | .dit ks _ => .ok (.lst ks) S
    | _ => .bad)
  | _ => .bad
theorem c_listN (hw : cl.w = X.w) : CallD X.K cl (rListD X) bListN := by
  intro w xs vs W Q ok r p
  unfold bListN at p
  split at p
  · rename_i x
    obtain ⟨v, rfl, r1⟩ := RL.one r
    split at p
    · rename_i ks vs h
      obtain ⟨a, es, ev, h1, h2⟩ := deref_dit ok r1 h
      subst ev
      refine ⟨a, es, rfl, hw ▸ h1, fun q hq => ?_⟩
      have z := lst_laid ok hq h2.k
      exact p _ _ z.1 rfl z.2
    · exact p.elim
  · exact p.elim
end
end Dl
set_option Elab.async false
set_option linter.all false
set_option maxRecDepth 100000
set_option maxHeartbeats 1000000
/-! The data layer: the keys of a dict with tuple keys that changes no more, walked. -/
namespace Dl
open PySem PySem.Spec PyProof.Rows L2
section
variable {X : Cx} {tg e : Expr}
def ItkN (w : World) (d : Addr) (o : Obj) (es : NE) : It :=
  ⟨fun i H => H d = some (.frz o (nD w d es)) ∧ i < es.length, fun i H x H' => H' = H ∧ ∃ e, es[i]? = some e ∧ x = .ref e.2.1, fun i H => H d = some (.frz o (nD w d es)) ∧ es.length ≤ i⟩
theorem turn_keysN {P : Program} {w : World} {K : PySem.W.Frag} {d : Addr} {o : Obj} {xs : Array DictEntry} {ep : Nat} {es : NE} (it : Addr) (hod : o.data = .dict xs ep) : Turn P w K tg (ItkN w d o es) [it] it (fun i h => h.IsKeyIter it d i es.length ep) where
  mem := by simp
  obj := fun i h st b hb => by
    cases List.mem_singleton.mp hb
    obtain ⟨oi, e, c, dd⟩ := st
    exact ⟨oi, e, fun v z => by rw [dd] at z; cases z⟩
  keep := fun i h h' st k => st.at fun oi e => k it (by simp) oi e
  item := by
    intro X hP hw hK hc i pins s σ H E I hf st hg
    subst hP hw hK
    obtain ⟨hd, hi⟩ := hg
    obtain ⟨f0, f1, f2, f3, f4, f5⟩ := hf it (by simp)
    obtain ⟨lo, hgd, hx, xs', ep', ys, hdt, hsz, pr, ent⟩ := frzN I hd
    obtain ⟨rfl, rfl⟩ := dict_ep hod hdt
    have hi2 : i < xs'.size := by omega
    obtain ⟨y, hy, ek, ev⟩ := ent i hi2
    have hes : es[i]? = some es[i] := List.getElem?_eq_getElem hi
    obtain ⟨y', hy', np⟩ := paired_get pr hes
    rw [hy] at hy'
    cases hy'
    refine next_key_item st hgd hdt hsz (Array.getElem?_eq_getElem hi2) fun h' st' sb => ?_
    have I1 : Inv X pins σ H { s with heap := h' } := I.turned (t' := s.toks) (fun b ob hb z => (sb.2 b hb).trans z) f0 f1 f3 f4 f5
    obtain ⟨oi, e, c, dd⟩ := id st'
    refine ⟨xs'[i].key, rfl, go_of (s := { s with heap := h' }) e c dd (by decide) ⟨.ref es[i].2.1, H, I1, ?_, ⟨rfl, es[i], hes, rfl⟩, st', fun b hb => (hf b hb).1⟩⟩
    rw [ek, np.2.1]
    exact rfl
  done := by
    intro X hP hw hK hc i pins s σ H E I hf st hg
    subst hP hw hK
    obtain ⟨hd, hi⟩ := hg
    obtain ⟨f0, f1, f2, f3, f4, f5⟩ := hf it (by simp)
    obtain ⟨lo, hgd, hx, xs', ep', ys, hdt, hsz, pr, ent⟩ := frzN I hd
    obtain ⟨rfl, rfl⟩ := dict_ep hod hdt
    exact next_key_end (I.ok.hd hc) st hgd hdt hsz hi fun h' eb => ⟨rfl, I.turned (t' := s.toks) (fun b ob hb z => eb b ob hb z) f0 f1 f3 f4 f5⟩
  self := fun A i s Q E st h => wpAny_pyIter_keyiter st h
/-- for k in d, d with tuple keys -/
def iKeysN (w : World) (td : TE) : TI := fun σ H R => td σ H fun x H1 => ∃ d o es, x = .ref d ∧ H1 d = some (.frz o (nD w d es)) ∧ R (ItkN w d o es) H1
theorem pi_keysN {td : TE} (he : PE X e td) : PI X tg e (iKeysN X.w td) := by
  refine ⟨fun pins s σ H R I h => ?_⟩
  refine thn (he.run pins s σ H _ I h) fun u s1 ⟨x, H1, I1, rx, d, o, es, ex, hd, q⟩ => ?_
  subst ex
  obtain rfl : u = Value.ref d := rx
  obtain ⟨lo, hgd, hx, xs, ep, ys, hdt, hsz, pr, ent⟩ := frzN I1 hd
  refine iter_keys lo hgd hx hdt (pi_one (tk := s1.toks) I1 _ (turn_keysN _ hdt) ⟨_, Heap.get?_push_size _ rfl, rfl, ?_⟩ q)
  rw [← hsz]; rfl
variable {cl : Cl} {W : WX} {de : DE}
def iKyN (de : DE) : DA := fun t S => (de t S).bind fun d S1 => match d with
  | .dit ks _ => .ok ks S1
  | _ => .bad
theorem i_keysN (hw : cl.w = X.w) (h : UE X cl W e de) : UI X cl W tg e (iKyN de) := weakI (pi_keysN h) fun σ H R ⟨w, t, eH, ok, en, p⟩ => by
  refine ⟨w, t, eH, ok, en, OPost.bind p fun d w1 v a1 r1 p1 => ?_⟩
  split at p1
  · rename_i ks vs
    obtain ⟨a, od, es, ev, hF, hn, rk, rv⟩ := r1
    refine ⟨a, od, es, ev, hw ▸ a1.ok.sub _ _ hF, p1 w1 _ (Af.refl a1.ok) rfl fun w2 x i => ?_⟩
    have hH := x.ok.sub _ _ (x.fz _ _ hF)
    rw [hw] at hH
    have hl : ks.length = es.length := by
      have := Reps.length rk
      rw [List.length_map] at this
      exact this
    refine ⟨fun d hd => ?_, fun hi => ⟨hH, by omega⟩⟩
    obtain ⟨u, hu, ru⟩ := rk.get hd
    obtain ⟨kv, hkv, ekv⟩ := map_get hu
    have hi : i < es.length := (List.getElem?_eq_some_iff.mp hkv).1
    refine ⟨⟨hH, hi⟩, fun v' H' ⟨eH', y, h1, h2⟩ => ⟨w2, eH'.symm, Af.refl x.ok, rfl, ?_⟩⟩
    rw [hkv] at h1
    cases h1
    rw [h2, ekv]
    exact Rep.af x ru
  · exact p1.elim
end
end Dl
set_option Elab.async false
set_option linter.all false
set_option maxRecDepth 100000
set_option maxHeartbeats 1000000
/-! The data layer: x[a], y[b] = ..: several targets, any kind. -/
namespace Dl
open PySem PySem.Spec PyProof.Rows L2
/-- where a value goes -/
abbrev DT := D → Lc → Sto → SOut
def endN (Q : L2.St → Hp → Prop) : Ends := ⟨Q, fun _ _ => False, fun _ _ => False, fun _ _ => False⟩
def upG (K : PySem.W.Frag) (cl : Cl) (W : WX) (f : DT) : TG := fun v σ H Q => ∃ w t d, w.H = H ∧ w.Ok K cl ∧ EnvR K cl w t σ ∧ RV K cl w d v ∧ SPost K cl W (endN Q) w (f d t w.S)
abbrev UG (X : Cx) (cl : Cl) (W : WX) (tg : Expr) (f : DT) : Prop := PG X tg (upG X.K cl W f)
def putAll : List DT → List D → DS
  | [], [] => fun t S => .nx t S
  | f :: fs, d :: ds => fun t S => match f d t S with
    | .nx t1 S1 => putAll fs ds t1 S1
    | .exc t1 c ns vs S1 => .exc t1 c ns vs S1
    | _ => .bad
  | _, _ => fun _ _ => .bad
def upGs (K : PySem.W.Frag) (cl : Cl) (W : WX) (fs : List DT) : TGs := fun vs σ H Q => ∃ w t ds, w.H = H ∧ w.Ok K cl ∧ EnvR K cl w t σ ∧ RL K cl w ds vs ∧ SPost K cl W (endN Q) w (putAll fs ds t w.S)
abbrev UGs (X : Cx) (cl : Cl) (W : WX) (tgs : List Expr) (fs : List DT) : Prop := PGs X tgs (upGs X.K cl W fs)
section
variable {X : Cx} {cl : Cl} {W : WX} {e o i tg : Expr} {es : List Expr} {de dx di : DE} {pos pos' : Pos} {fs : List DT} {f : DT}
theorem weakG (h : PG X tg g) {t : TG} (q : ∀ v σ H Q, t v σ H Q → g v σ H Q) : PG X tg t := ⟨fun pins s σ H v u Q I r hw => h.run pins s σ H v u Q I r (q v σ H Q hw)⟩
theorem weakGs {g : TGs} (h : PGs X es g) {t : TGs} (q : ∀ v σ H Q, t v σ H Q → g v σ H Q) : PGs X es t := ⟨fun pins s σ H v u Q I r hw => h.run pins s σ H v u Q I r (q v σ H Q hw)⟩
theorem ugs_nil : UGs X cl W [] [] := weakGs pgs_nil fun vs σ H Q ⟨w, t, ds, eH, ok, en, r, p⟩ => by
  cases ds with
  | nil => exact ⟨r, eH ▸ p w σ (Af.refl ok) rfl en⟩
  | cons d ds => exact p.elim
theorem ugs_cons (h1 : UG X cl W e f) (h2 : UGs X cl W es fs) (hs : (assignEach (e :: es) X.env).map (·.2) = assign e X.env :: (assignEach es X.env).map (·.2) := by rfl) : UGs X cl W (e :: es) (f :: fs) := weakGs (pgs_cons h1 h2 hs) fun vs σ H Q ⟨w, t, ds, eH, ok, en, r, p⟩ => by
  cases ds with
  | nil => exact p.elim
  | cons d ds =>
    obtain ⟨v, vr, e1, r1, r2⟩ := r
    refine ⟨v, vr, e1, w, t, d, eH, ok, en, r1, ?_⟩
    have p : SPost X.K cl W (endN Q) w (match f d t w.S with
      | .nx t1 S1 => putAll fs ds t1 S1
      | .exc t1 c ns vs S1 => .exc t1 c ns vs S1
      | _ => .bad) := p
    cases ho : f d t w.S with
    | nx t1 S1 =>
      rw [ho] at p
      intro w1 σ1 y e1 en1
      exact ⟨w1, t1, ds, rfl, y.ok, en1, Reps.af y r2, by rw [e1]; exact SPost.after p y⟩
    | exc t1 c ns vs S1 => rw [ho] at p; exact p
    | rt d S1 => rw [ho] at p; exact p.elim
    | bk d S1 => rw [ho] at p; exact p.elim
    | ct d S1 => rw [ho] at p; exact p.elim
    | bad => rw [ho] at p; exact p.elim
def toVar (i : Nat) : DT := fun d t S => .nx (t.set i (some d)) S
theorem ug_var {i : Nat} {x : Str} (hN : X.N.Nodup) (hi : X.N[i]? = some x) (hx : Loc X.env.scope x) (hf : X.fn x = true ∨ X.env.scope.names.lookup x = some .local := by first | exact .inl rfl | exact .inr rfl | assumption) : UG X cl W (.Name x pos) (toVar i) := weakG (pg_name hN hi hx hf) fun v σ H Q ⟨w, t, d, eH, ok, en, r, p⟩ => eH ▸ p w _ (Af.refl ok) rfl (en.set r)
def toIx (dx di : DE) : DT := fun d t S => ofE (dx t S) t fun x S1 => ofE (di t S1) t fun i S2 => match putAt x i d S2 with
  | some S3 => .nx t S3
  | none => .bad
theorem ug_ix (hu : X.A.units + 1 < cLine) (ho : UE X cl W o dx) (hi : UE X cl W i di) (ha : ∀ v, assign (.Subscript o i pos') X.env v = (do
      let ov ← holding [v] (eval o X.env)
      let iv ← holding [v, ov] (eval i X.env)
      standAt pos'
      holding [v, ov, iv] (setItem ov iv v)
      release [v, ov, iv] []) := by intro _; rfl) : UG X cl W (.Subscript o i pos') (toIx dx di) :=
  weakG (pg_sub ho hi (PSet.or set_list (set_dict hu)) ha) fun v σ H Q ⟨w, t, d, eH, ok, en, r, p⟩ => by
    refine ⟨w, t, eH, ok, en, SPost.ofE p en fun x w2 vx a2 r2 en2 p2 => ⟨w2, t, rfl, a2.ok, en2, SPost.ofE p2 en2 fun z w3 vz a3 r3 en3 p3 => ?_⟩⟩
    split at p3
    · rename_i S4 h4
      exact putAt_ok a3.ok (Rep.af a3 r2) r3 (Rep.af a3 (Rep.af a2 r)) h4 fun w4 z e4 => p3 w4 σ z e4 (en3.af z)
    · exact p3.elim
def dAsgM (fs : List DT) (de : DE) : DS := fun t S => ofE (de t S) t fun d S1 => match d with
  | .tup ds => if ds.length = fs.length then putAll fs ds t S1 else .bad
  | _ => .bad
theorem put_only : ∀ (fs : List DT) (ds : List D) (t : Lc) (S : Sto), putAll fs ds t S = .bad ∨ (∃ t1 S1, putAll fs ds t S = .nx t1 S1) ∨ ∃ t1 c ns vs S1, putAll fs ds t S = .exc t1 c ns vs S1
  | [], [], t, S => .inr (.inl ⟨t, S, rfl⟩)
  | [], _ :: _, _, _ => .inl rfl
  | _ :: _, [], _, _ => .inl rfl
  | f :: fs, d :: ds, t, S => by
    unfold putAll
    split
    · exact put_only fs ds _ _
    · exact .inr (.inr ⟨_, _, _, _, _, rfl⟩)
    · exact .inl rfl
theorem asg_post {N : Ends} {w1 : Wd} {fs : List DT} {ds : List D} {t : Lc} {S : Sto} (p : SPost X.K cl W N w1 (putAll fs ds t S)) : SPost X.K cl W (endN N.nx) w1 (putAll fs ds t S) := by
  rcases put_only fs ds t S with e | ⟨t1, S1, e⟩ | ⟨t1, c, ns, vs, S1, e⟩ <;> rw [e] at p ⊢ <;> exact p
theorem s_asgM {tgs : List Expr} {kt : Nat} {pt : Pos} (hc : X.calm = true) (he : UE X cl W e de) (hg : UGs X cl W tgs fs) (hl : tgs.length = fs.length := by rfl)
    (hn : (assignEach tgs X.env).length = tgs.length := by rfl) (hst : (assignEach tgs X.env).findIdx? (·.1) = none := by rfl) (hs : swapsWithSole [.Tuple tgs kt pt] e pos.line X.env = pure false := by rfl) (hw : swappedStores [.Tuple tgs kt pt] e X.env = pure none := by rfl)
    (h1 : (assignEach [.Tuple tgs kt pt] X.env).map (·.2) = [assign (.Tuple tgs kt pt) X.env] := by rfl) : US X cl W (.Assign [.Tuple tgs kt pt] e pos) (dAsgM fs de) :=
  weakS (ps_asg he (pg_tup (n := tgs.length) hc hg hn hst) hs hw h1) fun N σ H ⟨w, t, eH, ok, en, p⟩ => by
    refine ⟨w, t, eH, ok, en, SPost.ofE p en fun d w1 v a1 r1 en1 p1 => ?_⟩
    split at p1
    · rename_i ds
      split at p1
      · rename_i hd
        obtain ⟨a, xs, ev, tl, rr⟩ := r1
        refine ⟨a, xs, ev, tl.here a1.ok, by rw [← Reps.length rr, hd, hl], w1, t, ds, rfl, a1.ok, en1, rr, ?_⟩
        exact asg_post p1
      · exact p1.elim
    · exact p1.elim
end
end Dl
set_option Elab.async false
set_option linter.all false
set_option maxRecDepth 100000
set_option maxHeartbeats 4000000
/-! Behind a statement, what a name holds changes no more. -/
namespace Dl
open PySem L2
def tMayLockS (ts : TS) : TS := fun N σ H => ts { N with nx := fun σ' H' => N.nx σ' H' ∨ ∃ d u, H' d = some u ∧ Mut (some u) ∧ ∀ od, N.nx σ' (upd H' d (.frz od u)) } σ H
section
variable {X : Cx} {cl : Cl} {W : WX} {s : Stmt} {ds : DS} {ts : TS}
theorem ps_mayLock (h : PS X s ts) : PS X s (tMayLockS ts) := ⟨fun pins s0 σ H N I hw => thn (h.run pins s0 σ H _ I hw) fun f s1 q => by
  cases f with
  | next =>
    obtain ⟨σ', H', I1, q1⟩ := q
    rcases q1 with q1 | ⟨d, u, hd, mu, q1⟩
    · exact ⟨σ', H', I1, q1⟩
    · obtain ⟨od, I2⟩ := I1.lock hd mu
      exact ⟨σ', _, I2, q1 od⟩
  | brk => exact q
  | cont => exact q
  | ret u => exact q⟩
def dFzAt (i : Nat) (ds : DS) : DS := fun t S => match ds t S with
  | .nx t1 S1 => match t1[i]? with
    | some (some (.ptr k)) => match S1[k]? with
      | some (some d) => .nx (t1.set i (some d)) (S1.set k none)
      | _ => .bad
    | _ => .bad
  | o => o
theorem s_fzAt {i : Nat} (h : US X cl W s ds) : US X cl W s (dFzAt i ds) := weakS (ps_mayLock h) fun N σ H ⟨w, t, eH, ok, en, p⟩ => by
  refine ⟨w, t, eH, ok, en, ?_⟩
  unfold dFzAt at p
  cases ho : ds t w.S with
  | rt d S1 => rw [ho] at p; exact p
  | bk t1 S1 => rw [ho] at p; exact p
  | ct t1 S1 => rw [ho] at p; exact p
  | exc t1 c ns vs S1 => rw [ho] at p; exact p
  | bad => rw [ho] at p; exact p
  | nx t1 S1 =>
    rw [ho] at p
    dsimp only at p
    intro w1 σ1 a1 e1 en1
    subst e1
    split at p
    · rename_i k ht
      split at p
      · rename_i d hd
        obtain ⟨v1, hv1, r1⟩ := en1.at_ i _ ht
        obtain ⟨a, ha, ev⟩ := (show ∃ a, w1.m[k]? = some a ∧ v1 = .ref a from r1)
        obtain ⟨c1, c2⟩ := a1.ok.cell k a d ha hd
        have fz : ∀ u b x, w1.F b = some x → upd w1.F a u b = some x := fun u b x h => by rw [upd_ne (ne_of_none h c1)]; exact h
        subst ev
        have back : σ1.set i (some (.ref a)) = σ1 := by
          obtain ⟨hl, he⟩ := List.getElem?_eq_some_iff.mp hv1
          rw [← he, List.set_getElem_self]
        have fin : ∀ w2, Af X.K cl w1 w2 → w2.S = w1.S.set k none → RV X.K cl w2 d (.ref a) → N.nx σ1 w2.H := fun w2 z es r => by
          have en2 := (en1.af z).set (i := i) r
          rw [back] at en2
          exact p w2 σ1 (a1.trans z) es en2
        cases d with
        | lst ds =>
          obtain ⟨xs, q, r⟩ := c2
          have z := a1.ok.freeze ha hd (.lst xs)
          refine .inl ?_
          have z3 : N.nx σ1 (upd w1.H a (.lst xs)) := fin ⟨upd w1.H a (.lst xs), upd w1.F a (.lst xs), w1.m, w1.S.set k none⟩ z rfl ⟨a, xs, rfl, upd_same, Reps.mono (fz _) (fun _ _ h => h) _ _ r⟩
          rw [upd_self q] at z3
          exact z3
        | obj c ns vs =>
          obtain ⟨dx, es, q, e, r⟩ := c2
          have z := a1.ok.freeze ha hd (.ins (cl c) dx es)
          refine .inl ?_
          have z3 : N.nx σ1 (upd w1.H a (.ins (cl c) dx es)) := fin ⟨upd w1.H a (.ins (cl c) dx es), upd w1.F a (.ins (cl c) dx es), w1.m, w1.S.set k none⟩ z rfl ⟨a, dx, es, rfl, upd_same, e, Reps.mono (fz _) (fun _ _ h => h) _ _ r⟩
          rw [upd_self q] at z3
          exact z3
        | dic ks vs =>
          obtain ⟨es, q, r, r'⟩ := c2
          refine .inr ⟨a, _, q, True.intro, fun od => ?_⟩
          have z := a1.ok.freeze ha hd (.frz od (.dK es))
          exact fin ⟨upd w1.H a (.frz od (.dK es)), upd w1.F a (.frz od (.dK es)), w1.m, w1.S.set k none⟩ z rfl ⟨a, _, _, rfl, ⟨od, es, upd_same, rfl, rfl⟩, Reps.mono (fz _) (fun _ _ h => h) _ _ r, Reps.mono (fz _) (fun _ _ h => h) _ _ r'⟩
        | dit ks vs =>
          obtain ⟨es, q, n, r, r'⟩ := c2
          refine .inr ⟨a, _, q, True.intro, fun od => ?_⟩
          have z := a1.ok.freeze ha hd (.frz od (nD cl.w a es))
          exact fin ⟨upd w1.H a (.frz od (nD cl.w a es)), upd w1.F a (.frz od (nD cl.w a es)), w1.m, w1.S.set k none⟩ z rfl ⟨a, od, es, rfl, upd_same, n, Reps.mono (fz _) (fun _ _ h => h) _ _ r, Reps.mono (fz _) (fun _ _ h => h) _ _ r'⟩
        | _ => exact c2.elim
      · exact p.elim
    · exact p.elim
end
theorem fzat_nx {i k : Nat} {ds : DS} {t t1 : Lc} {S S1 : Sto} {d : D} (h : ds t S = .nx t1 S1) (ht : t1[i]? = some (some (.ptr k))) (hk : S1[k]? = some (some d)) : dFzAt i ds t S = .nx (t1.set i (some d)) (S1.set k none) := by
  unfold dFzAt
  rw [h]
  dsimp only
  rw [ht]
  dsimp only
  rw [hk]
end Dl
set_option Elab.async false
set_option linter.all false
set_option maxRecDepth 100000
set_option maxHeartbeats 1000000
/-! The data layer: {x!r} in the text of an own exception, also of a list: some text. -/
namespace PySem
open PySem.Spec PyProof.Rows Sem
section
variable {prog : Program} {w : World} {A : Around} {E : Value → Shared → Prop} {s : Shared} {a : Addr} {oa : Obj} {x : Value} {l : List Value} {na : Nat} {ts : List Str}
theorem list_way : ("[...]" : Str).length ≤ 5 := by decide +kernel
/-- list.__repr__, whatever is under way -/
theorem list_repr_headZ {M : Model} {Q : Fin → Shared → Prop} {b : Nat}
    (hget : s.heap.get? a = some oa) (hd : oa.data = .seq (x :: l).toArray na)
    (h0 : ∀ u tk, Q (.done (.ret (.str "[...]" u))) { s with toks := tk })
    (h : wpAny M A (do again (.builtin "list.__repr__.loop" ⟨[.ref a, rawInt 0, ← newList [], rawInt b], []⟩)) Q E s) : wpAny M A (Builtin.listReprAt b ⟨[.ref a], []⟩) Q E s := by
  intro Γ p hΓ
  have h1 := h Γ p hΓ
  have h2 : wpAny M A (do rule "list.__repr__.in-itself"; retStr (Str.ofString "[...]")) Q E s :=
    wpAny_bind (wpAny_rule (wpAny_bind (wpAny_mkStr (wpAny_pure (h0 _ _)) (by decide +kernel))))
  have h3 := h2 Γ p hΓ
  unfold Builtin.listReprAt
  simp [slotArgs, Builtin.List.listItems, seqItems?, wp_load_of (h := hget), hd, stack]
  show wp M Γ (if (Γ.below.any _) = true then _ else _) _ _ p s
  split
  · exact h3
  · exact h1
theorem list_repr_finZ {R : Result → Shared → Prop} {b : Nat}
    (ha : s.heap.get? a = some oa) (hda : oa.data = .seq (x :: l).toArray na) (hlen : ts.length = (x :: l).toArray.size)
    (hT : ∀ (i : Nat) (y : Value), (x :: l).toArray[i]? = some y → ∃ t, ts[i]? = some t ∧ ReprIs prog w y t)
    (hR : ∀ m h' u tk, m.length ≤ (listText ts).length + 5 → (∀ b o, s.heap.get? b = some o → h'.get? b = some o) → R (.ok (.ret (.str m u))) { s with heap := h', toks := tk })
    (hsz : b + (listText ts).length ≤ sizeLine) :
    wpAny (model prog w) A.in1 (Builtin.listReprAt b ⟨[.ref a], []⟩)
      (fun fin s' => match fin with | .done f => R (.ok f) s' | .again c' => c'.quiet = true ∧ codeAny (model prog w) A c' R s') (fun e s' => R (.error e) s') s := by
  refine list_repr_headZ (A := A.in1) ha hda (fun u tk => hR _ s.heap u tk (Nat.le_trans list_way (Nat.le_add_left _ _)) fun _ _ e => e) ?_
  refine wpAny_bind (m := newList []) (wpAny_newObj_type ?_)
  refine wpAny_pure ⟨F.quiet_list_repr_loop _, ?_⟩
  refine codeAny_list_repr_start (P := s.heap.objs.size) (Nat.ne_of_lt (Heap.lt_size ha)) hlen hT (Heap.get?_push_of_some _ ha) hda (Heap.get?_push_size _ rfl) (fun h' u tk hk => ?_) hsz
  exact hR _ h' u tk (Nat.le_add_right _ _) fun b o e => hk b o (Nat.ne_of_lt (Heap.lt_size e)) (Heap.get?_push_of_some _ e)
theorem pyReprObj_listZ {Q : Value → Shared → Prop} (hTy : s.TypeIs (.ref a) "list") (hu : A.units < cLine)
    (ha : s.heap.get? a = some oa) (hda : oa.data = .seq (x :: l).toArray na) (hlen : ts.length = (x :: l).toArray.size)
    (hT : ∀ (i : Nat) (y : Value), (x :: l).toArray[i]? = some y → ∃ t, ts[i]? = some t ∧ ReprIs prog w y t)
    (hQ : ∀ m h' u tk, m.length ≤ (listText ts).length + 5 → (∀ b o, s.heap.get? b = some o → h'.get? b = some o) → Q (.str m u) { s with heap := h', toks := tk })
    (hsz : (listText ts).length ≤ sizeLine) :
    wpAny (model prog w) A (pyReprObj (.ref a)) Q E s :=
  wpAny_pyReprObj_slot hu hTy F.slot_list_repr.toG (wpAny_call (codeAny_call_builtin F.slot_list_repr.plain F.entry_list_repr (F.slot_list_repr.check _ _ _ _ _ _ _ _ hTy (F.args_list_repr_1 _)
    (list_repr_finZ (b := 0) (R := fun r s' => match r with | .ok (.ret v) => (∃ x t, v = .str x t ∧ Q v s') | .ok _ => False | .error e => E e s') ha hda hlen hT (fun m h' u tk hm hk => ⟨m, u, rfl, hQ m h' u tk hm hk⟩) (by omega)))))
end
theorem ReprAll.at_ {prog : Program} {w : World} : ∀ {l : List Value} {ts : List Str}, ReprAll prog w l ts → ∀ (i : Nat) (y : Value), l[i]? = some y → ∃ t, ts[i]? = some t ∧ ReprIs prog w y t
  | _, _, .nil, i, y, h => by simp at h
  | _, _, .cons h1 h2, 0, y, h => by cases h; exact ⟨_, rfl, h1⟩
  | _, _, .cons h1 h2, i + 1, y, h => ReprAll.at_ h2 i y h
end PySem
namespace Dl
open PySem PySem.Spec PyProof.Rows L2 NdefX
/-- what may be shown: also a list of leaves -/
def ShowyL (K : PySem.W.Frag) (v : V) (H : Hp) : Prop := Showy K v H ∨ ∃ (a : Addr) (l : List V), v = .ref a ∧ H a = some (.lst l) ∧ l.all leafB = true ∧ l.length ≤ 100 ∧ l ≠ []
def tShowL (K : PySem.W.Frag) (te : TE) : TE := fun σ H Q => te σ H fun x H1 => ShowyL K x H1 ∧ ∀ m : Str, m.length ≤ 200000 → Q (.str m) H1
section
variable {X : Cx} {e : Expr} {te : TE} {pos : Pos}
theorem pe_showL {k : Nat} (hr : Room k X.A) (he : PE X e te) : PE X (.FormattedValue e 114 none pos) (tShowL X.K te) := by
  have hv : PE X e (fun σ H Q => te σ H Q) := he
  refine ⟨fun pins s σ H Q I h => wpAny_FormattedValue_repr (thn (he.run pins s σ H _ I h) fun v s1 ⟨x, H1, I1, r1, sh, q⟩ => ?_)⟩
  rcases sh with sh | ⟨a, l, rfl, ht, hl, hn, hne⟩
  · have fin : ∀ {m : Str} {u : Tok} {s2 : Shared}, m.length ≤ 200000 → Inv X pins σ H1 s2 → wpAny (model X.prog X.w) X.A (formatField (.str m u) Str.empty) (EP X pins σ Q) X.xe s2 := fun {m u s2} hm J =>
      wpAny_formatField_str ⟨.str m, H1, J, ⟨u, rfl⟩, q m hm⟩ ⟨.str m, H1, J.tok _, ⟨_, rfl⟩, q m hm⟩ (Nat.le_trans hm (by decide))
    rcases sh with hl | ⟨a, l, rfl, ht, hl, hn⟩
    · unfold leafB at hl
      cases ql : leafT x with
      | none => rw [ql] at hl; cases hl
      | some t =>
        rw [ql] at hl
        have hz : t.length ≤ 1000 := of_decide_eq_true hl
        have hs : t.length ≤ sizeLine := Nat.le_trans hz (by decide)
        have hz2 : t.length ≤ 200000 := by omega
        cases x with
        | non => cases r1; cases ql; exact pyReprObj_none (fin hz2 (I1.tok _))
        | bl b => cases r1; cases ql; exact pyReprObj_bool (fin hz2 (I1.tok _))
        | int i =>
          obtain ⟨tk, rfl⟩ := r1
          obtain ⟨hi, e⟩ := leaf_int ql
          rw [e] at hz2
          exact pyReprObj_int hi (fin hz2 (I1.tok _))
        | str z =>
          obtain ⟨tk, rfl⟩ := r1
          cases ql
          exact pyReprObj_str (fin hz2 (I1.tok _)) hs
        | _ => cases ql
    · cases r1
      obtain ⟨its, rv, ⟨o, ho, hcl, n, hd⟩, _⟩ := I1.tuple ht
      obtain ⟨ts, h3, h4⟩ := leaf_all (P := X.prog) (w := X.w) rv hl
      have htx := fmt_text ts
      have hu := hr.units
      have hb : (tupleText ts).length ≤ 101000 := by
        have : 1002 * l.length ≤ 1002 * 100 := Nat.mul_le_mul_left _ hn
        omega
      refine wpAny_pyReprObj_slot (by omega) ⟨o, ho, hcl⟩ F.slot_tuple_repr (fmt_tuple_repr ho hcl hd h3 (Nat.le_trans hb (by decide)) fun m u tk hm => ⟨m, u, rfl, ?_⟩)
      exact fin (by omega) (I1.tok _)
  · cases r1
    obtain ⟨its, n, rv, ho, _⟩ := I1.lst ht
    obtain ⟨ts, h3, h4⟩ := leaf_all (P := X.prog) (w := X.w) rv hl
    have hu := hr.units
    cases its with
    | nil => cases rv; exact absurd rfl hne
    | cons y ys =>
      have hl2 : ts.length = (y :: ys).length := h3.length_eq
      have hlv : l.length = (y :: ys).length := rv.length
      have hb : (listText ts).length ≤ 190000 := by
        have h5 := listText_len_le ts
        have h6 : ∀ ts : List Str, (ts.map (·.length)).sum ≤ piled ts := fun ts => by
          induction ts with
          | nil => exact Nat.le_refl _
          | cons t ts ih => rw [List.map_cons, List.sum_cons, piled_cons]; omega
        have := h6 ts
        have : 1002 * l.length ≤ 1002 * 100 := Nat.mul_le_mul_left _ hn
        omega
      refine pyReprObj_listZ ⟨_, ho, rfl⟩ (by omega) ho rfl hl2 (fun i z hz => h3.at_ i z (by simpa using hz)) (fun m h' u tk hm hk => ?_) (Nat.le_trans hb (by decide))
      have J : Inv X pins σ H1 { s1 with heap := h', toks := tk } := I1.kept hk
      have hm2 : m.length ≤ 200000 := by omega
      exact wpAny_formatField_str ⟨.str m, H1, J, ⟨u, rfl⟩, q m hm2⟩ ⟨.str m, H1, J.tok _, ⟨_, rfl⟩, q m hm2⟩ (Nat.le_trans hm2 (by decide))
end
theorem shownL_parts {K : PySem.W.Frag} {a b : Str} (ha : a.length ≤ 1000) (hb : b.length ≤ 1000) : Harm (ShowyL K) (fun σ H Q => tJs [tC (.str a), tShowL K (tVar 1), tC (.str b)] Str.empty σ H fun out H1 => Q (.str out) H1) := fun σ H y hy sh Q h => by
  have e0 : (Str.empty : Str).length = 0 := rfl
  have big : 300000 ≤ sizeLine := by decide
  refine ⟨a, rfl, by rw [str_app]; omega, y, hy, sh, fun m hm => ⟨m, rfl, by rw [str_app, str_app]; omega, b, rfl, by rw [str_app, str_app, str_app]; omega, h _⟩⟩
theorem shownL_two {K : PySem.W.Frag} {a : Str} (ha : a.length ≤ 1000) : Harm (ShowyL K) (fun σ H Q => tJs [tC (.str a), tShowL K (tVar 1)] Str.empty σ H fun out H1 => Q (.str out) H1) := fun σ H y hy sh Q h => by
  have e0 : (Str.empty : Str).length = 0 := rfl
  have big : 300000 ≤ sizeLine := by decide
  exact ⟨a, rfl, by rw [str_app]; omega, y, hy, sh, fun m hm => ⟨m, rfl, by rw [str_app, str_app]; omega, h _⟩⟩
def okShowL (d : D) (S : Sto) : Bool := okShow d S || match deref d S with
  | .lst xs => xs.all leafD && decide (xs.length ≤ 100) && decide (0 < xs.length)
  | _ => false
theorem showL_chk {K : PySem.W.Frag} {cl : Cl} : ChkOk K cl okShowL (ShowyL K) := fun w d v ok r h => by
  unfold okShowL at h
  rcases Bool.or_eq_true_iff.mp h with h | h
  · exact .inl (show_chk w d v ok r h)
  · cases q : deref d w.S with
    | lst xs =>
      rw [q] at h
      obtain ⟨h0, h3⟩ := He.ba h
      obtain ⟨h1, h2⟩ := He.ba h0
      obtain ⟨a, vs, ev, ht, rr⟩ := deref_lst ok r q
      have hl := Reps.length rr
      have h2 : xs.length ≤ 100 := of_decide_eq_true h2
      have h3 : 0 < xs.length := of_decide_eq_true h3
      exact .inr ⟨a, vs, ev, ht, leafDs_ok rr h1, by omega, fun e => by rw [e] at hl; rw [hl] at h3; exact absurd h3 (Nat.lt_irrefl 0)⟩
    | _ => rw [q] at h; cases h
end Dl
set_option Elab.async false
set_option linter.all false
set_option maxRecDepth 100000
set_option maxHeartbeats 4000000
/-! Behind a statement, a dict that holds a dict changes no more, nor does the inner one. -/
namespace Dl
open PySem L2
section
variable {X : Cx} {cl : Cl} {W : WX} {s : Stmt} {ds : DS} {ts : TS}
theorem Reps.put {K : PySem.W.Frag} {H : Hp} {m : List Addr} {d' : D} {v : V} : ∀ {ds : List D} {vs : List V} {p : Nat} {d : D}, Reps K cl H m ds vs → ds[p]? = some d → vs[p]? = some v → Rep K cl H m d' v → Reps K cl H m (ds.set p d') vs
  | [], vs, p, d, r, h, _, _ => by simp at h
  | e :: ds, vs, 0, d, r0, h, hv, r => by
    obtain ⟨w, ws, ev, r1, r2⟩ := r0
    subst ev
    obtain rfl : w = v := Option.some.inj hv
    exact ⟨w, ws, rfl, r, r2⟩
  | e :: ds, vs, p + 1, d, r0, h, hv, r => by
    obtain ⟨w, ws, ev, r1, r2⟩ := r0
    subst ev
    exact ⟨w, ws, rfl, r1, Reps.put (ds := ds) (vs := ws) (p := p) r2 h hv r⟩
def dFz2At (i p : Nat) (ds : DS) : DS := fun t S => match ds t S with
  | .nx t1 S1 => match t1[i]? with
    | some (some (.ptr k)) => match S1[k]? with
      | some (some (.dic ks vs)) => match vs[p]? with
        | some (.ptr j) => match S1[j]? with
          | some (some (.dic ls us)) => if j ≠ k then .nx (t1.set i (some (.dic ks (vs.set p (.dic ls us))))) ((S1.set j none).set k none) else .bad
          | _ => .bad
        | _ => .bad
      | _ => .bad
    | _ => .bad
  | o => o
theorem s_fz2At {i p : Nat} (h : US X cl W s ds) : US X cl W s (dFz2At i p ds) := weakS (ps_mayLock (ps_mayLock h)) fun N σ H ⟨w, t, eH, ok, en, q⟩ => by
  refine ⟨w, t, eH, ok, en, ?_⟩
  unfold dFz2At at q
  cases ho : ds t w.S with
  | rt d S1 => rw [ho] at q; exact q
  | bk t1 S1 => rw [ho] at q; exact q
  | ct t1 S1 => rw [ho] at q; exact q
  | exc t1 c ns vs S1 => rw [ho] at q; exact q
  | bad => rw [ho] at q; exact q
  | nx t1 S1 =>
    rw [ho] at q
    dsimp only at q
    intro w1 σ1 a1 e1 en1
    subst e1
    split at q
    · rename_i k ht
      split at q
      · rename_i ks vs hk
        split at q
        · rename_i j hp
          split at q
          · rename_i ls us hj
            split at q
            · rename_i hjk
              obtain ⟨v1, hv1, r1⟩ := en1.at_ i _ ht
              obtain ⟨a, ha, ev⟩ := (show ∃ a, w1.m[k]? = some a ∧ v1 = .ref a from r1)
              subst ev
              obtain ⟨c1, c2⟩ := a1.ok.cell k a _ ha hk
              obtain ⟨es, qa, ra, rb⟩ := c2
              obtain ⟨vp, hvp, rp⟩ := Reps.get rb hp
              obtain ⟨b, hb, evp⟩ := (show ∃ b, w1.m[j]? = some b ∧ vp = .ref b from rp)
              subst evp
              obtain ⟨d1, d2⟩ := a1.ok.cell j b _ hb hj
              obtain ⟨fs, qb, rc, rd⟩ := d2
              have hab : a ≠ b := fun e => hjk (a1.ok.inj j k b _ _ hb (e ▸ ha) hj hk)
              have back : σ1.set i (some (.ref a)) = σ1 := by
                obtain ⟨hl, he⟩ := List.getElem?_eq_some_iff.mp hv1
                rw [← he, List.set_getElem_self]
              refine .inr ⟨b, _, qb, True.intro, fun od => ?_⟩
              -- the inner one
              have z1 := a1.ok.freeze hb hj (.frz od (.dK fs))
              let w2 : Wd := ⟨upd w1.H b (.frz od (.dK fs)), upd w1.F b (.frz od (.dK fs)), w1.m, w1.S.set j none⟩
              have fz1 : ∀ y x, w1.F y = some x → w2.F y = some x := fun y x h => by
                show upd w1.F b _ y = some x
                rw [upd_ne (ne_of_none h d1)]; exact h
              have in2 : Rep X.K cl w2.F w2.m (.dic ls us) (.ref b) := ⟨b, _, _, rfl, ⟨od, fs, upd_same, rfl, rfl⟩, Reps.mono fz1 (fun _ _ h => h) _ _ rc, Reps.mono fz1 (fun _ _ h => h) _ _ rd⟩
              have hk2 : w2.S[k]? = some (some (.dic ks vs)) := by
                show (w1.S.set j none)[k]? = _
                rw [List.getElem?_set_ne hjk]; exact hk
              -- the outer one
              have qa2 : w2.H a = some (.dK es) := by
                show upd w1.H b _ a = _
                rw [upd_ne hab]; exact qa
              refine .inr ⟨a, _, qa2, True.intro, fun od2 => ?_⟩
              have z2 := z1.ok.freeze (i := k) ha hk2 (.frz od2 (.dK es))
              have c12 : w2.F a = none := (z1.ok.cell k a _ ha hk2).1
              let w3 : Wd := ⟨upd w2.H a (.frz od2 (.dK es)), upd w2.F a (.frz od2 (.dK es)), w2.m, w2.S.set k none⟩
              have fz2 : ∀ y x, w2.F y = some x → w3.F y = some x := fun y x h => by
                show upd w2.F a _ y = some x
                rw [upd_ne (ne_of_none h c12)]; exact h
              have rb2 : Reps X.K cl w2.F w2.m (vs.set p (.dic ls us)) (es.map (·.2)) := Reps.put (Reps.mono fz1 (fun _ _ h => h) _ _ rb) hp hvp in2
              have r3 : Rep X.K cl w3.F w3.m (.dic ks (vs.set p (.dic ls us))) (.ref a) := ⟨a, _, _, rfl, ⟨od2, es, upd_same, rfl, rfl⟩, Reps.mono (fun y x h => fz2 y x (fz1 y x h)) (fun _ _ h => h) _ _ ra, Reps.mono fz2 (fun _ _ h => h) _ _ rb2⟩
              have en2 := ((en1.af z1).af z2).set (i := i) r3
              rw [back] at en2
              exact q w3 σ1 ((a1.trans z1).trans z2) rfl en2
            · exact q.elim
          · exact q.elim
        · exact q.elim
      · exact q.elim
    · exact q.elim
end
theorem fz2_nx {i p k j : Nat} {ds : DS} {t t1 : Lc} {S S1 : Sto} {ks vs ls us : List D} (h : ds t S = .nx t1 S1) (ht : t1[i]? = some (some (.ptr k))) (hk : S1[k]? = some (some (.dic ks vs))) (hp : vs[p]? = some (.ptr j)) (hj : S1[j]? = some (some (.dic ls us))) (hn : j ≠ k) : dFz2At i p ds t S = .nx (t1.set i (some (.dic ks (vs.set p (.dic ls us))))) ((S1.set j none).set k none) := by
  unfold dFz2At
  rw [h]
  dsimp only
  rw [ht]
  dsimp only
  rw [hk]
  dsimp only
  rw [hp]
  dsimp only
  rw [hj]
  exact if_pos hn
end Dl
set_option Elab.async false
set_option linter.all false
set_option maxRecDepth 100000
set_option maxHeartbeats 1000000
/-! for a, b in l: what comes is a list. -/
namespace Dl
open PySem PyProof.Rows L2
section
variable {X : Cx} {cl : Cl} {W : WX} {e tg : Expr} {de : DE} {pos : Pos}
def setL (is : List Nat) (d : D) (t : Lc) : Option Lc := match d with
  | .lst ds => if ds.length = is.length then some (setAll is ds t) else none
  | _ => none
def dLoopL (is : List Nat) (db : DS) : List D → DS
  | [] => fun t S => .nx t S
  | d :: r => fun t S => match setL is d t with
    | none => .bad
    | some t1 => match db t1 S with
      | .nx t2 S2 => dLoopL is db r t2 S2
      | .ct t2 S2 => dLoopL is db r t2 S2
      | .bk t2 S2 => .nx t2 S2
      | o => o
def dForL (is : List Nat) (di : DA) (db : DS) : DS := fun t S => ofE (di t S) t fun xs S1 => dLoopL is db xs t S1
theorem s_forL {iter : Expr} {body : List Stmt} {di : DA} {db : DS} {is : List Nat} (hp : PassesOwn (model X.prog X.w) X.A X.env X.xe) (hc : X.calm = true) (hi : UI X cl W tg iter di) (hg : PG X tg (gUnl X.K is.length (tgL is))) (hb : USs X cl W body db)
    (hs : ∀ x, foldedSetIterable iter X.env x = pure x := by intro _; rfl) : US X cl W (.For tg iter body [] pos) (dForL is di db) := weakS (ps_for hp hc hi hg hb hs) fun N σ H ⟨w, t, eH, ok, en, p⟩ => by
  refine ⟨w, t, eH, ok, en, SPost.ofE p en fun xs w1 J a1 hJ en1 p1 => ?_⟩
  refine ⟨fun i m σ H => ∃ w2 t2, w2.H = H ∧ Af X.K cl w1 w2 ∧ EnvR X.K cl w2 t2 σ ∧ m = xs.length - i ∧ i ≤ xs.length ∧ SPost X.K cl W N w2 (dLoopL is db (xs.drop i) t2 w2.S), ⟨_, w1, t, rfl, Af.refl a1.ok, en1, rfl, Nat.zero_le _, p1⟩, ?_⟩
  rintro i m σ2 H2 ⟨w2, t2, rfl, a2, en2, rfl, hi', p2⟩
  by_cases hl : i < xs.length
  · obtain ⟨go, yl⟩ := (hJ w2 a2 i).1 _ (List.getElem?_eq_getElem hl)
    rw [List.drop_eq_getElem_cons hl] at p2
    refine .inr ⟨go, fun σ' H' => ∃ w4 t4, w4.H = H' ∧ Af X.K cl w1 w4 ∧ EnvR X.K cl w4 t4 σ' ∧ SPost X.K cl W N w4 (dLoopL is db (xs.drop (i + 1)) t4 w4.S), fun σ' H' ⟨w4, t4, e4, a4, en4, p4⟩ => ⟨xs.length - (i + 1), by omega, w4, t4, e4, a4, en4, rfl, hl, p4⟩, fun v H' hy => ?_⟩
    obtain ⟨w3, rfl, a3, e3, rv⟩ := yl v H' hy
    have p2' : SPost X.K cl W N w2 (match setL is xs[i] t2 with
      | none => .bad
      | some t1 => match db t1 w2.S with
        | .nx t2 S2 => dLoopL is db (xs.drop (i + 1)) t2 S2
        | .ct t2 S2 => dLoopL is db (xs.drop (i + 1)) t2 S2
        | .bk t2 S2 => .nx t2 S2
        | o => o) := p2
    split at p2'
    · exact p2'.elim
    · rename_i t1 et
      unfold setL at et
      split at et
      · rename_i ds hd
        split at et
        · rename_i hlen
          cases et
          have rv2 : RV X.K cl w3 (.lst ds) v := hd ▸ rv
          obtain ⟨a, vs, ev, hv, rr⟩ := deref_lst (xs := ds) a3.ok rv2 rfl
          refine ⟨a, vs, ev, .of hv, by rw [← hlen]; exact (Reps.length rr).symm, tgL_ok (σ0 := σ2) (sl := is) hlen rr (en2.af a3) (fun _ h => h) (fun _ _ => rfl) fun σ' en' _ => ⟨w3, _, rfl, a3.ok, en', ?_⟩⟩
          rw [e3]
          have p3 := SPost.after p2' a3
          have go2 : ∀ (t5 : Lc) (S5 : Sto), SPost X.K cl W N w3 (dLoopL is db (xs.drop (i + 1)) t5 S5) → ∀ (w4 : Wd) (σ4 : L2.St), Af X.K cl w3 w4 → w4.S = S5 → EnvR X.K cl w4 t5 σ4 → ∃ w5 t6, w5.H = w4.H ∧ Af X.K cl w1 w5 ∧ EnvR X.K cl w5 t6 σ4 ∧ SPost X.K cl W N w5 (dLoopL is db (xs.drop (i + 1)) t6 w5.S) :=
            fun t5 S5 p4 w4 σ4 a4 e4 en4 => ⟨w4, t5, rfl, (a2.trans a3).trans a4, en4, by rw [e4]; exact SPost.after p4 a4⟩
          cases hq : db (setAll is ds t2) w2.S with
          | nx t5 S5 => rw [hq] at p3; exact go2 t5 S5 p3
          | ct t5 S5 => rw [hq] at p3; exact go2 t5 S5 p3
          | bk t5 S5 => rw [hq] at p3; exact p3
          | rt d S5 => rw [hq] at p3; exact p3
          | exc t5 c ns vs S5 => rw [hq] at p3; exact p3
          | bad => rw [hq] at p3; exact p3
        · cases et
      · cases et
  · have e : i = xs.length := by omega
    subst e
    rw [List.drop_length] at p2
    exact .inl ⟨(hJ w2 a2 _).2 (Nat.le_refl _), p2 w2 σ2 (Af.refl a2.ok) rfl en2⟩
end
section
variable {is : List Nat} {a : DS} {x : D} {r xs : List D} {t t1 t2 : Lc} {S S1 S2 : Sto} {d : D}
theorem loopL_one (h1 : setL is x t = some t1) (h2 : a t1 S = .nx t2 S2) : dLoopL is a (x :: r) t S = dLoopL is a r t2 S2 := by
  show (match setL is x t with
    | none => SOut.bad
    | some t1 => match a t1 S with
      | .nx t2 S2 => dLoopL is a r t2 S2
      | .ct t2 S2 => dLoopL is a r t2 S2
      | .bk t2 S2 => .nx t2 S2
      | o => o) = _
  rw [h1]
  show (match a t1 S with
      | .nx t2 S2 => dLoopL is a r t2 S2
      | .ct t2 S2 => dLoopL is a r t2 S2
      | .bk t2 S2 => .nx t2 S2
      | o => o) = _
  rw [h2]
theorem loopL_rt (h1 : setL is x t = some t1) (h2 : a t1 S = .rt d S2) : dLoopL is a (x :: r) t S = .rt d S2 := by
  show (match setL is x t with
    | none => SOut.bad
    | some t1 => match a t1 S with
      | .nx t2 S2 => dLoopL is a r t2 S2
      | .ct t2 S2 => dLoopL is a r t2 S2
      | .bk t2 S2 => .nx t2 S2
      | o => o) = _
  rw [h1]
  show (match a t1 S with
      | .nx t2 S2 => dLoopL is a r t2 S2
      | .ct t2 S2 => dLoopL is a r t2 S2
      | .bk t2 S2 => .nx t2 S2
      | o => o) = _
  rw [h2]
theorem forL_is {di : DA} (h : di t S = .ok xs S1) : dForL is di a t S = dLoopL is a xs t S1 := by
  unfold dForL
  rw [h]; rfl
end
end Dl
set_option Elab.async false
set_option linter.all false
set_option maxRecDepth 100000
set_option maxHeartbeats 1000000
/-! The data layer: x.f as one of several targets. -/
namespace Dl
open PySem PySem.Spec PyProof.Rows L2
section
variable {X : Cx} {cl : Cl} {W : WX} {o : Expr} {dx : DE} {pos' : Pos} {f : Str} {c : Nat}
def gFld (K : PySem.W.Frag) (to : TE) (f : Str) : TG := fun v σ H Q => to σ H fun x H1 => ∃ a C d fs, x = .ref a ∧ H1 a = some (.ins C d fs) ∧ Cls K C ∧ NoAttr K C f ∧ fs.length < 1000 ∧ Q σ (upd H1 a (.ins C d (putF f v fs)))
theorem pg_fld {to : TE} (ho : PE X o to) : PG X (.Attribute o f pos') (gFld X.K to f) := by
  refine ⟨fun pins s σ H v u Q I r h => ?_⟩
  rw [assign_Attribute]
  refine wpAny_bind (wpAny_holding (thn (ho.run pins s σ H _ I h) fun ov s1 ⟨x, H1, I1, rx, a, C, d, fs, ex, ea, c, n, l, q⟩ => ?_))
  subst ex
  obtain rfl : ov = Value.ref a := rx
  refine wpAny_bind (wpAny_standAt (wpAny_bind (wpAny_holding (setattr_ok I1 ea c n l r fun s3 I3 => ?_))))
  exact wpAny_release ⟨σ, _, I3, q⟩
def toFld (c : Nat) (f : Str) (dx : DE) : DT := fun y t S => ofE (dx t S) t fun x S2 => match cellObj c x S2 with
  | some (i, ns, vs) => if ns.length < 1000 then .nx t (S2.set i (some (.obj c (putD f y ns vs).1 (putD f y ns vs).2))) else .bad
  | none => .bad
theorem ug_fld (ck : Cls X.K (cl c)) (na : NoAttr X.K (cl c) f) (ho : UE X cl W o dx) : UG X cl W (.Attribute o f pos') (toFld c f dx) :=
  weakG (pg_fld ho) fun v σ H Q ⟨w, t, y, eH, ok, en, r1, p⟩ => by
    refine ⟨w, t, eH, ok, en, SPost.ofE p en fun x w2 vx a2 r2 en2 p2 => ?_⟩
    split at p2
    · rename_i i ns vs ho
      split at p2
      · rename_i hl
        obtain ⟨a, dx, es, ev, ea, q0, q1, q2, q3⟩ := cellObj_at a2.ok r2 ho
        refine ⟨a, _, dx, es, ev, q1, ck, na, by rw [← q2] at hl; simpa using hl, ?_⟩
        obtain ⟨z1, z2⟩ := put_rep (f := f) (Rep.af a2 r1) q3
        rw [q2] at z1 z2
        have z := a2.ok.cellSet (u := .ins (cl c) dx (putF f v es)) (d := .obj c (putD f y ns vs).1 (putD f y ns vs).2) ea q0 ⟨dx, _, upd_same, z1, z2⟩
        exact p2 ⟨upd w2.H a (.ins (cl c) dx (putF f v es)), w2.F, w2.m, _⟩ σ z rfl (en2.af z)
      · exact p2.elim
    · exact p2.elim
end
end Dl
set_option Elab.async false
set_option linter.all false
set_option maxRecDepth 100000
set_option maxHeartbeats 1000000
/-! The data layer: x[::-1], x a list. -/
namespace Dl
open PySem PySem.Spec PyProof.Rows L2
section
variable {X : Cx} {cl : Cl} {W : WX} {e : Expr} {de : DE} {k : Nat} {p1 p2 p3 pos : Pos} {K : PySem.W.Frag}
theorem Reps.rev {H : Hp} {m : List Addr} : ∀ {ds : List D} {vs : List V}, Reps K cl H m ds vs → Reps K cl H m ds.reverse vs.reverse
  | [], vs, r => by rw [show vs = [] from r]; exact Reps.nil
  | d :: ds, vs, r => by
    obtain ⟨v, ws, ev, r1, r2⟩ := r
    subst ev
    rw [List.reverse_cons, List.reverse_cons]
    exact Reps.append (Reps.rev r2) (Reps.one r1)
/-- x[::-1] that changes no more -/
def dRevL (de : DE) : DE := fun t S => (de t S).bind fun d S1 => match deref d S1 with
  | .lst xs => .ok (.lst xs.reverse) S1
  | .rol xs => .ok (.lst xs.reverse) S1
  | _ => .bad
theorem u_revL (h : UE X cl W e de) : UE X cl W (.Subscript e (.Slice none none (some (.UnaryOp .USub (.Constant (.int 1) k p1) p2)) p3) pos) (dRevL de) := weakE (pe_revL h) fun σ H Q ⟨w, t, eH, ok, en, p⟩ => by
  refine ⟨w, t, eH, ok, en, OPost.bind p fun d w1 v a1 r1 q1 => ?_⟩
  have fin : ∀ {xs : List D} {a : Addr} {vs : List V}, v = .ref a → SqL X.K w1.H a vs → RL X.K cl w1 xs vs → OPost X.K cl (RV X.K cl) (fun c d H => W c d σ H) w1 Q (.ok (.lst xs.reverse) w1.S) → ∃ a xs, v = .ref a ∧ SqL X.K w1.H a xs ∧ ∀ p, w1.H p = none → Q (.ref p) (upd w1.H p (.lst xs.reverse)) := fun {xs a vs} ev hv rr q => ⟨a, vs, ev, hv, fun p hp => q ⟨_, upd w1.F p (.lst vs.reverse), w1.m, w1.S⟩ (.ref p) (a1.ok.laid hp) rfl (laidLst a1.ok hp (Reps.rev rr))⟩
  split at q1
  · rename_i xs hd
    obtain ⟨a, vs, ev, hv, rr⟩ := deref_lst a1.ok r1 hd
    exact fin ev (.of hv) rr q1
  · rename_i xs hd
    obtain ⟨a, vs, ev, hv, rr⟩ := deref_rol a1.ok r1 hd
    exact fin ev hv rr q1
  · exact q1.elim
end
end Dl
set_option Elab.async false
set_option linter.all false
set_option maxRecDepth 100000
set_option maxHeartbeats 1000000
/-! The data layer: dict(x), x a list of pairs. -/
namespace Dl
open PySem PySem.Spec PyProof.Rows L2
section
variable {X : Cx} {cl : Cl} {W : WX} {e : Expr} {es : List Expr} {da : DA} {pos p : Pos} {K : PySem.W.Frag} {w : Wd} {x : Str}
/-- the pairs one after another; later pairs win, the place is the first one's -/
def mergeP : List D → List D × List D → Option (List D × List D)
  | [], acc => some acc
  | .tup [k, v] :: r, acc => match keyD k with
    | some q => mergeP r (dicPut acc.1 acc.2 q k v)
    | none => none
  | _ :: _, _ => none
theorem mergeP_rep (ok : w.Ok K cl) : ∀ {xs : List D} {vs : List V} {acc b : List D × List D} {es : List (Key × V)}, RL K cl w xs vs → mergeP xs acc = some b → RL K cl w acc.1 (es.map fun e => kV e.1) → RL K cl w acc.2 (es.map (·.2)) →
    ∃ (ps : List Addr) (kvs : List (Key × V)), vs = ps.map V.ref ∧ Paired (fun p kv => SqT K w.H p [kV kv.1, kv.2]) ps kvs ∧ RL K cl w b.1 ((mergeK es kvs).map fun e => kV e.1) ∧ RL K cl w b.2 ((mergeK es kvs).map (·.2))
  | [], vs, acc, b, es, r, h, r1, r2 => by
    cases h
    exact ⟨[], [], r, .nil, r1, r2⟩
  | d :: xs, vs, acc, b, es, r, h, r1, r2 => by
    unfold mergeP at h
    split at h
    · rename_i heq
      cases heq
    · rename_i k v r' heq
      cases heq
      split at h
      · rename_i q hq
        obtain ⟨u, us, ev, ru, rr⟩ := r
        obtain ⟨a, ys, eu, ht, ry⟩ := (show ∃ a ys, u = .ref a ∧ TL K w.F a ys ∧ Reps K cl w.F w.m [k, v] ys from ru)
        obtain ⟨k1, ws, e1, rk, ry2⟩ := ry
        obtain ⟨v1, ws2, e2, rv, ry3⟩ := ry2
        cases (show ws2 = [] from ry3)
        subst e2 e1 eu ev
        have ek := keyD_rep rk hq
        subst ek
        obtain ⟨z1, z2⟩ := dicPut_rep (q := q) (v := v1) (es := es) rk rv r1 r2
        obtain ⟨ps, kvs, f1, f2, f3, f4⟩ := mergeP_rep ok (es := putK es q v1) rr h z1 z2
        refine ⟨a :: ps, (q, v1) :: kvs, by rw [f1]; rfl, .cons ?_ f2, f3, f4⟩
        exact ht.here ok
      · cases h
    · cases h
def dDictP (da : DA) : DE := fun t S => (da t S).bind fun xs S1 => match xs with
  | [x] => (match deref x S1 with
    | .lst ps => (match mergeP ps ([], []) with
      | some b => .ok (.ptr S1.length) (S1 ++ [some (.dic b.1 b.2)])
      | none => .bad)
    | _ => .bad)
  | _ => .bad
theorem u_dictP (hc : X.calm = true) (hg : Gl X x) (hm : X.mg x = none) (hv : bootBuiltins x = some (.type "dict")) (ha : UA X cl W (e :: es) da) (hn : x ≠ "__name__" := by decide) (hdb : (x == ("__debug__" : Str)) = false := by decide)
    (he : starEach (e :: es) X.env = (false, eval e X.env) :: starEach es X.env := by rfl) (hpl : (backTo pos (starEach es X.env)).any (·.1) = false := by rfl) : UE X cl W (.Call (.Name x p) (e :: es) [] pos) (dDictP da) :=
  weakE (pe_callTy (call_dictP hc) hg hm hv ha hn hdb he hpl) fun σ H Q ⟨w, t, eH, ok, en, q⟩ => by
    refine ⟨w, t, eH, ok, en, OPost.bind q fun xs w1 vs a1 r1 p1 => ?_⟩
    split at p1
    · rename_i x
      obtain ⟨v, ev0, r2⟩ := RL.one r1
      subst ev0
      split at p1
      · rename_i ps hx
        split at p1
        · rename_i b hb
          obtain ⟨a, us, ev, h1, h2⟩ := deref_lst a1.ok r2 hx
          obtain ⟨as, kvs, f1, f2, f3, f4⟩ := mergeP_rep a1.ok (es := []) h2 hb Reps.nil Reps.nil
          subst ev f1
          refine ⟨a, as, kvs, rfl, .of h1, f2, fun q hq => ?_⟩
          have z := a1.ok.cellNew (K := X.K) (u := .dK (mergeK [] kvs)) (d := .dic b.1 b.2) hq ⟨mergeK [] kvs, upd_same, Reps.mono (fun _ _ h => h) (fun i b hb => pre_get hb) _ _ f3, Reps.mono (fun _ _ h => h) (fun i b hb => pre_get hb) _ _ f4⟩
          exact p1 ⟨upd w1.H q (.dK (mergeK [] kvs)), w1.F, w1.m ++ [q], w1.S ++ [some (.dic b.1 b.2)]⟩ (.ref q) z rfl ⟨q, snoc_get a1.ok.len.symm, rfl⟩
        · exact p1.elim
      · exact p1.elim
    · exact p1.elim
end
end Dl
set_option Elab.async false
set_option linter.all false
set_option maxRecDepth 100000
set_option maxHeartbeats 1000000
/-! The data layer: a call that gets its first argument's cell, where that is one. -/
namespace Dl
open PySem PySem.Spec PyProof.Rows L2
def viaQ (f : DF) : DF := fun xs S => match xs with
  | .ptr i :: r => viaR f (.ptr i :: r) S
  | xs => viaP f xs S
theorem isQ : Via viaQ := by
  intro K cl w f xs vs W Q ok r p
  unfold viaQ at p
  split at p
  · exact via_r ok r p
  · exact via_p ok r p
end Dl
set_option Elab.async false
set_option linter.all false
set_option maxRecDepth 100000
set_option maxHeartbeats 1000000
/-! The data layer: a comprehension over a list that may still change: item by item, as it stands. -/
namespace Dl
open PySem PySem.Spec PyProof.Rows L2
section
variable {X : Cx} {cl : Cl} {W : WX}
def lcLoopW (p : Nat) (g : Tg) (dt : DB) (de : DE) (t : Lc) : Nat → Nat → List Dl.D → Sto → Out (List Dl.D)
  | 0, _, _, _ => .bad
  | n + 1, i, acc, S => match S[p]? with
    | some (some (.lst xs)) => (match xs[i]? with
      | none => .ok acc S
      | some d => match g.set d t with
        | none => .bad
        | some t1 => (dt t1 S).calm.bind fun b S1 => if b = true then (de t1 S1).calm.bind fun y S2 => if acc.length < sizeLine then lcLoopW p g dt de t n (i + 1) (acc ++ [y]) S2 else .bad else lcLoopW p g dt de t n (i + 1) acc S1)
    | _ => .bad
def dLcW (vs : List Nat) (g : Tg) (dx : DE) (dt : DB) (de : DE) : DE := fun t S => (dx t S).bind fun x S1 => match x with
  | .ptr p => (lcLoopW p g dt de (wipeD vs t) 1000000 0 [] S1).bind fun ys S2 => .ok (.lst ys) S2
  | _ => .bad
theorem lc_runW {K : PySem.W.Frag} {vs : List Nat} {g : Tg} {dt : DB} {de : DE} {σ : L2.St} {w : Wd} {t : Lc} {p n0 : Nat} {a : Addr} {Q : VK} {fin : List Dl.D → Sto → Out Dl.D} {W' : Value → Option Addr → Hp → Prop} {Dd : Addr} (hsl : ∀ i ∈ g.slots, i ∈ vs)
    (ok : w.Ok K cl) (en : EnvR K cl w t σ) (hp : w.m[p]? = some a) (hD : w.H Dd = none) (q : OPost K cl (RV K cl) W' w Q ((lcLoopW p g dt de (wipeD vs t) n0 0 [] w.S).bind fin))
    (done : ∀ (ys : List Dl.D) (w2 : Wd), Growing K cl w w2 Dd ys → OPost K cl (RV K cl) W' w Q (fin ys w2.S) → Q (.ref Dd) w2.H) :
    ∃ Wi : Nat → Nat → Hp → Prop, (∃ m, Wi 0 m (upd w.H Dd (.lst []))) ∧ ∀ i m H, Wi i m H →
      ((Itl K a).stop i H ∧ Q (.ref Dd) H) ∨ ((Itl K a).go i H ∧ ∃ Nx : Hp → Prop, (∀ H', Nx H' → ∃ m', m' < m ∧ Wi (i + 1) m' H') ∧ ∀ x H', (Itl K a).yld i H x H' → tgT K g x (L2.wipe σ vs) H' fun σ2 H2 => L2.wipe σ2 vs = L2.wipe σ vs ∧ upB K cl W0 dt σ2 H2 fun b H3 =>
        if b = true then upE K cl W0 de σ2 H3 fun y H4 => ∃ acc, H4 Dd = some (.lst acc) ∧ acc.length < sizeLine ∧ Nx (upd H4 Dd (.lst (acc ++ [y]))) else Nx H3) := by
  have a0 := ok.untold (u := .lst []) hD
  have nl0 : ¬ Live w Dd := fun ⟨i, d, h1, h2⟩ => by
    obtain ⟨x, hx⟩ := (ok.cell i Dd d h1 h2).2.there
    rw [hD] at hx; cases hx
  refine ⟨fun i m H => ∃ w2 acc, w2.H = H ∧ Growing K cl w w2 Dd acc ∧ OPost K cl (RV K cl) W' w Q ((lcLoopW p g dt de (wipeD vs t) m i acc w2.S).bind fin),
    ⟨n0, ⟨upd w.H Dd (.lst []), w.F, w.m, w.S⟩, [], rfl, ⟨a0, ok.free hD, nl0, [], upd_same, rfl⟩, q⟩, ?_⟩
  rintro i m H ⟨w2, acc, rfl, gr, p2⟩
  cases m with
  | zero => exact p2.elim
  | succ m =>
    have p2 : OPost K cl (RV K cl) W' w Q ((match w2.S[p]? with
      | some (some (.lst xs)) => (match xs[i]? with
        | none => .ok acc w2.S
        | some d => match g.set d (wipeD vs t) with
          | none => .bad
          | some t1 => (dt t1 w2.S).calm.bind fun b S1 => if b = true then (de t1 S1).calm.bind fun y S2 => if acc.length < sizeLine then lcLoopW p g dt de (wipeD vs t) m (i + 1) (acc ++ [y]) S2 else .bad else lcLoopW p g dt de (wipeD vs t) m (i + 1) acc S1)
      | _ => .bad : Out (List Dl.D)).bind fin) := p2
    split at p2
    · rename_i xs hS
      obtain ⟨c1, us, c2, c3⟩ := gr.af.ok.cell p a _ (gr.af.mu p a hp) hS
      have c3 : Reps K cl w2.F w2.m xs us := c3
      have hs : SqL K w2.H a us := .of c2
      split at p2
      · rename_i hn
        exact .inl ⟨⟨us, hs, by rw [← c3.length]; exact List.getElem?_eq_none_iff.mp hn⟩, done acc w2 gr p2⟩
      · rename_i d hd
        obtain ⟨v, hv, rv⟩ := c3.get hd
        refine .inr ⟨⟨us, v, hs, hv⟩, fun H' => ∃ w6 acc', w6.H = H' ∧ Growing K cl w w6 Dd acc' ∧ OPost K cl (RV K cl) W' w Q ((lcLoopW p g dt de (wipeD vs t) m (i + 1) acc' w6.S).bind fin),
          fun H' ⟨w6, acc', e6, g6, p6⟩ => ⟨m, Nat.lt_succ_self m, w6, acc', e6, g6, p6⟩, fun u H' hy => ?_⟩
        obtain ⟨rfl, hu⟩ := hy
        have eu := hu us hs
        rw [hv] at eu
        cases eu
        split at p2
        · exact p2.elim
        · rename_i t1 et
          refine Tg.ok gr.af.ok ((en.af gr.af).wipe vs) rv et fun σ' en' hw => ⟨?_, ?_⟩
          · rw [hw vs hsl, wipe_wipe (fun i h => h)]
          have asc : ∀ {α β γ : Type} (o : Out α) (f : α → Sto → Out β) (h : β → Sto → Out γ), (o.bind f).bind h = o.bind fun a S => (f a S).bind h := fun o f h => by cases o <;> rfl
          rw [asc] at p2
          refine ⟨w2, t1, rfl, gr.af.ok, en', OPost.bindTo p2 fun b w4 b' a4 eb p4 => ?_⟩
          cases (show b = b' from eb)
          cases b with
          | false => exact ⟨w4, acc, rfl, gr.step a4, p4⟩
          | true =>
            rw [if_pos rfl] at p4 ⊢
            rw [asc] at p4
            refine ⟨w4, t1, rfl, a4.ok, en'.af a4, OPost.bindTo p4 fun y w5 vy a5 ry p5 => ?_⟩
            have g5 := (gr.step a4).step a5
            obtain ⟨zs, eu, ru⟩ := g5.at_
            split at p5
            · rename_i hsz
              refine ⟨zs, eu, by rw [← ru.length]; exact hsz, ⟨upd w5.H Dd (.lst (zs ++ [vy])), w5.F, w5.m, w5.S⟩, acc ++ [y], rfl, ⟨Af.blind g5.af hD g5.nf g5.nl (o := .lst []), g5.nf, g5.nl, _, upd_same, ru.append (Reps.one ry)⟩, p5⟩
            · exact p5.elim
    · exact p2.elim
variable {dt : DB} {de dx : DE} {g : Tg} {elt tg iter : Expr} {ifs : List Expr} {scope : Scope} {own : List (Str × Nat)} {pos : Pos}
theorem le_lcW {K : PySem.W.Frag} {vs : List Nat} {σ : L2.St} {H : Hp} {Q : VK} (hsl : ∀ i ∈ g.slots, i ∈ vs) (q : upE K cl W (dLcW vs g dx dt de) σ H Q) : tLc (iList K (upE K cl W dx)) (tgT K g) (upB K cl W0 dt) (upE K cl W0 de) vs σ H Q := by
  obtain ⟨w, t, eH, ok, en, p⟩ := q
  refine ⟨w, t, eH, ok, en, OPost.bind p fun x w1 v a1 r1 p1 => ?_⟩
  split at p1
  · rename_i p0
    obtain ⟨a, ha, ev⟩ := (show ∃ a, w1.m[p0]? = some a ∧ v = .ref a from r1)
    subst ev
    have live : ∃ xs us, w1.S[p0]? = some (some (D.lst xs)) ∧ SqL K w1.H a us := by
      have p1' : OPost K cl (RV K cl) (fun c d H => W c d σ H) w1 Q ((match w1.S[p0]? with
        | some (some (.lst xs)) => (match xs[0]? with
          | none => .ok [] w1.S
          | some d => match g.set d (wipeD vs t) with
            | none => .bad
            | some t1 => (dt t1 w1.S).calm.bind fun b S1 => if b = true then (de t1 S1).calm.bind fun y S2 => if ([] : List Dl.D).length < sizeLine then lcLoopW p0 g dt de (wipeD vs t) 999999 (0 + 1) ([] ++ [y]) S2 else .bad else lcLoopW p0 g dt de (wipeD vs t) 999999 (0 + 1) [] S1)
        | _ => .bad : Out (List Dl.D)).bind fun ys S2 => .ok (.lst ys) S2) := p1
      split at p1'
      · rename_i xs hS
        obtain ⟨_, us, c2, c3⟩ := a1.ok.cell p0 a _ ha hS
        exact ⟨xs, us, hS, .of c2⟩
      · exact p1'.elim
    obtain ⟨xs, us, hS, hs⟩ := live
    refine ⟨a, rfl, ⟨us, hs⟩, fun Dd hD => ?_⟩
    refine lc_runW hsl a1.ok (en.af a1) ha hD p1 fun ys w2 gr p2 => ?_
    obtain ⟨us, eu, ru⟩ := gr.at_
    have z := Af.known gr.af hD gr.nf gr.nl eu
    exact p2 ⟨w2.H, upd w2.F Dd (.lst us), w2.m, w2.S⟩ (.ref Dd) z rfl ⟨Dd, us, rfl, upd_same, Reps.mono (fun b y hb => by show upd w2.F Dd _ b = _; rw [upd_ne (ne_of_none hb gr.nf)]; exact hb) (fun _ _ h => h) _ _ ru⟩
  · exact p1.elim
variable (vs : List Nat)
theorem u_lcW (hv : own.map (·.2) = vs) (hsl : ∀ i ∈ g.slots, i ∈ vs) (hc : X.calm = true) (hN : X.N.Nodup) (hi : UE X cl W iter dx) (ok : BlkOk X.N X.env.scope scope own)
    (hg : ∀ (s : Shared) (H : Hp) (C : Addr) (cls : List (Str × Addr)) (fp : List Addr), PG (X.blk s H scope (compEnvC scope cls C X.env) fp) tg (tgT X.K g)) (ht : ∀ (s : Shared) (H : Hp) (C : Addr) (cls : List (Str × Addr)) (fp : List Addr), UTs (X.blk s H scope (compEnvC scope cls C X.env) fp) cl ifs dt)
    (he : ∀ (s : Shared) (H : Hp) (C : Addr) (cls : List (Str × Addr)) (fp : List Addr), UE (X.blk s H scope (compEnvC scope cls C X.env) fp) cl W0 elt de) (hs : ∀ x, foldedSetIterable iter X.env x = pure x := by intro _; rfl) :
    UE X cl W (.ListComp elt [⟨tg, iter, ifs, 0⟩] scope pos) (dLcW vs g dx dt de) := weakE (pe_lc hc hN (pi_list hi) ok hg ht he hs) fun σ H Q q => by
  rw [hv]
  exact le_lcW hsl q
end
end Dl
set_option Elab.async false
set_option linter.all false
set_option maxRecDepth 100000
set_option maxHeartbeats 1000000
/-! The data layer: a comprehension over the keys of a dict that may still change (locked meanwhile), or of one that does not. -/
namespace Dl
open PySem PySem.Spec PyProof.Rows L2
section
variable {K : PySem.W.Frag} {cl : Cl} {w w4 : Wd} {i : Nat} {a : Addr}
theorem unlock_any {d : D} {u o : HO} (ok : w.Ok K cl) (ha : w.m[i]? = some a) (hi : w.S[i]? = some (some d)) (hu : w.H a = some u) (x : Af K cl (lockW w i a o) w4) (h4 : w4.S[i]? = some none) :
    Af K cl w ⟨upd w4.H a u, w4.F, w4.m, w4.S.set i (some d)⟩ := by
  obtain ⟨q1, q2, q3⟩ := lock_held ok ha hi x
  have y := (lock_af (o := o) ok ha hi).trans x
  have hil : i < w4.S.length := (List.getElem?_eq_some_iff.mp h4).1
  have m4 : w4.m[i]? = some a := y.mu i a ha
  have low : ∀ k e, (w4.S.set i (some d))[k]? = some (some e) → (k = i ∧ e = d) ∨ (k ≠ i ∧ w4.S[k]? = some (some e)) := fun k e h => by
    by_cases hk : i = k
    · subst hk
      rw [List.getElem?_set_self hil] at h
      cases h
      exact .inl ⟨rfl, rfl⟩
    · rw [List.getElem?_set_ne hk] at h
      exact .inr ⟨fun z => hk z.symm, h⟩
  refine ⟨⟨?_, fun b u' h => ?_, fun j b e h1 h2 => ?_, fun j j' b e e' h1 h2 h3 h5 => ?_⟩, y.fz, y.mu, fun b u' h n => ?_, y.new, fun b ⟨j, e, h1, h2⟩ => ?_⟩
  · show w4.m.length = (w4.S.set i _).length
    rw [List.length_set]; exact y.ok.len
  · have h : w4.F b = some u' := h
    have n : b ≠ a := fun e => by rw [e, q2] at h; cases h
    show upd w4.H a _ b = _
    rw [upd_ne n]; exact y.ok.sub b u' h
  · have h1 : w4.m[j]? = some b := h1
    rcases low j e h2 with ⟨hj, he⟩ | ⟨hj, he⟩
    · subst hj he
      rw [m4] at h1
      cases h1
      obtain ⟨_, c2⟩ := ok.cell j a _ ha hi
      exact ⟨q2, c2.of (by show upd w4.H a u a = w.H a; rw [upd_same, hu]) y.fz y.mu⟩
    · obtain ⟨c1, c2⟩ := y.ok.cell j b e h1 he
      have n : b ≠ a := fun z => q3 (z ▸ ⟨j, e, h1, he⟩)
      exact ⟨c1, c2.of (upd_ne n) (fun _ _ h => h) fun _ _ h => h⟩
  · have h1 : w4.m[j]? = some b := h1
    have h2 : w4.m[j']? = some b := h2
    rcases low j e h3 with ⟨hj, he⟩ | ⟨hj, he⟩
    · rcases low j' e' h5 with ⟨hj', he'⟩ | ⟨hj', he'⟩
      · rw [hj, hj']
      · rw [hj, m4] at h1
        cases h1
        exact (q3 ⟨j', e', h2, he'⟩).elim
    · rcases low j' e' h5 with ⟨hj', he'⟩ | ⟨hj', he'⟩
      · rw [hj', m4] at h2
        cases h2
        exact (q3 ⟨j, e, h1, he⟩).elim
      · exact y.ok.inj j j' b e e' h1 h2 he he'
  · have hb : b ≠ a := fun e => n (e ▸ ⟨i, _, ha, hi⟩)
    show upd w4.H a _ b = _
    rw [upd_ne hb]; exact y.keep b u' h n
  · rcases low j e h2 with ⟨hj, he⟩ | ⟨hj, he⟩
    · have h1 : w4.m[j]? = some b := h1
      rw [hj, m4] at h1
      cases h1
      exact .inl ⟨i, _, ha, hi⟩
    · exact y.liv b ⟨j, e, h1, he⟩
/-- the keys, wherever the dict stands locked -/
theorem wk_keys {w1 : Wd} {ks : List D} {es : List (Key × V)} {od : Obj} (hH : ∀ w2, Af K cl w1 w2 → w2.H a = some (.frz od (.dK es))) (rk : Reps K cl w1.F w1.m ks (es.map fun e => kV e.1)) : Wk K cl w1 ks (Itk a od es) := fun w2 x i => by
  have hlen : ks.length = es.length := by
    have := Reps.length rk
    rw [List.length_map] at this
    exact this
  refine ⟨fun d hd => ?_, fun hi => ⟨hH w2 x, by omega⟩⟩
  obtain ⟨u, hu, ru⟩ := rk.get hd
  obtain ⟨kv, hkv, ekv⟩ := map_get hu
  have hi : i < es.length := (List.getElem?_eq_some_iff.mp hkv).1
  refine ⟨⟨hH w2 x, hi⟩, fun v' H' ⟨eH', k, v2, h1, h2⟩ => ⟨w2, eH'.symm, Af.refl x.ok, rfl, ?_⟩⟩
  rw [hkv] at h1
  cases h1
  rw [h2]
  exact Rep.af x (ekv ▸ ru)
/-- lc_run, the goal being told of another state -/
theorem lc_runG {vs : List Nat} {g : Tg} {dt : DB} {de : DE} {σ : L2.St} {w w0 : Wd} {t : Lc} {xs : List Dl.D} {J : It} {Q Q0 : VK} {fin : List Dl.D → Sto → Out Dl.D} {W' : Value → Option Addr → Hp → Prop} {Dd : Addr} (hsl : ∀ i ∈ g.slots, i ∈ vs)
    (ok : w.Ok K cl) (en : EnvR K cl w t σ) (hJ : Wk K cl w xs J) (hD : w.H Dd = none) (p : OPost K cl (RV K cl) W' w0 Q0 ((lcLoop g dt de (wipeD vs t) xs [] w.S).calm.bind fin))
    (done : ∀ (ys : List Dl.D) (w2 : Wd), Growing K cl w w2 Dd ys → OPost K cl (RV K cl) W' w0 Q0 (fin ys w2.S) → Q (.ref Dd) w2.H) :
    ∃ Wi : Nat → Nat → Hp → Prop, (∃ m, Wi 0 m (upd w.H Dd (.lst []))) ∧ ∀ i m H, Wi i m H →
      (J.stop i H ∧ Q (.ref Dd) H) ∨ (J.go i H ∧ ∃ Nx : Hp → Prop, (∀ H', Nx H' → ∃ m', m' < m ∧ Wi (i + 1) m' H') ∧ ∀ x H', J.yld i H x H' → tgT K g x (L2.wipe σ vs) H' fun σ2 H2 => L2.wipe σ2 vs = L2.wipe σ vs ∧ upB K cl W0 dt σ2 H2 fun b H3 =>
        if b = true then upE K cl W0 de σ2 H3 fun y H4 => ∃ acc, H4 Dd = some (.lst acc) ∧ acc.length < sizeLine ∧ Nx (upd H4 Dd (.lst (acc ++ [y]))) else Nx H3) := by
  have a0 := ok.untold (u := .lst []) hD
  have nl0 : ¬ Live w Dd := fun ⟨i, d, h1, h2⟩ => by
    obtain ⟨x, hx⟩ := (ok.cell i Dd d h1 h2).2.there
    rw [hD] at hx; cases hx
  have calmO : ∀ (xs acc : List Dl.D) (S : Sto), (lcLoop g dt de (wipeD vs t) xs acc S).calm = lcLoop g dt de (wipeD vs t) xs acc S := by
    intro xs
    induction xs with
    | nil => intro acc S; rfl
    | cons x xs ih =>
      intro acc S
      show Out.calm (match g.set x (wipeD vs t) with
        | none => .bad
        | some t1 => (dt t1 S).calm.bind fun b S1 => if b = true then (de t1 S1).calm.bind fun y S2 => if acc.length < sizeLine then lcLoop g dt de (wipeD vs t) xs (acc ++ [y]) S2 else .bad else lcLoop g dt de (wipeD vs t) xs acc S1) = (match g.set x (wipeD vs t) with
        | none => .bad
        | some t1 => (dt t1 S).calm.bind fun b S1 => if b = true then (de t1 S1).calm.bind fun y S2 => if acc.length < sizeLine then lcLoop g dt de (wipeD vs t) xs (acc ++ [y]) S2 else .bad else lcLoop g dt de (wipeD vs t) xs acc S1)
      cases g.set x (wipeD vs t) with
      | none => rfl
      | some t1 =>
        dsimp only
        cases dt t1 S with
        | bad => rfl
        | exc _ _ _ _ => rfl
        | ok b S1 =>
          show Out.calm (if b = true then _ else _) = (if b = true then _ else _)
          cases b with
          | false => rw [if_neg Bool.false_ne_true]; exact ih _ _
          | true =>
            rw [if_pos rfl]
            cases de t1 S1 with
            | bad => rfl
            | exc _ _ _ _ => rfl
            | ok y S2 =>
              show Out.calm (if acc.length < sizeLine then _ else _) = (if acc.length < sizeLine then _ else _)
              split
              · exact ih _ _
              · rfl
  rw [calmO] at p
  refine ⟨fun i m H => ∃ w2 acc, w2.H = H ∧ Growing K cl w w2 Dd acc ∧ m = xs.length - i ∧ i ≤ xs.length ∧ OPost K cl (RV K cl) W' w0 Q0 ((lcLoop g dt de (wipeD vs t) (xs.drop i) acc w2.S).bind fin),
    ⟨_, ⟨upd w.H Dd (.lst []), w.F, w.m, w.S⟩, [], rfl, ⟨a0, ok.free hD, nl0, [], upd_same, rfl⟩, rfl, Nat.zero_le _, p⟩, ?_⟩
  rintro i m H ⟨w2, acc, rfl, gr, rfl, hi, p2⟩
  by_cases hl : i < xs.length
  · obtain ⟨go, yl⟩ := (hJ w2 gr.af i).1 _ (List.getElem?_eq_getElem hl)
    rw [List.drop_eq_getElem_cons hl] at p2
    refine .inr ⟨go, fun H' => ∃ w6 acc', w6.H = H' ∧ Growing K cl w w6 Dd acc' ∧ OPost K cl (RV K cl) W' w0 Q0 ((lcLoop g dt de (wipeD vs t) (xs.drop (i + 1)) acc' w6.S).bind fin),
      fun H' ⟨w6, acc', e6, g6, p6⟩ => ⟨xs.length - (i + 1), by omega, w6, acc', e6, g6, rfl, hl, p6⟩, fun v H' hy => ?_⟩
    obtain ⟨w3, rfl, a3, e3, rv⟩ := yl v H' hy
    have p2' : OPost K cl (RV K cl) W' w0 Q0 ((match g.set xs[i] (wipeD vs t) with
      | none => .bad
      | some t1 => (dt t1 w2.S).calm.bind fun b S1 => if b = true then (de t1 S1).calm.bind fun y S2 => if acc.length < sizeLine then lcLoop g dt de (wipeD vs t) (xs.drop (i + 1)) (acc ++ [y]) S2 else .bad else lcLoop g dt de (wipeD vs t) (xs.drop (i + 1)) acc S1 : Out (List Dl.D)).bind fin) := p2
    have g3 := gr.step a3
    split at p2'
    · exact p2'.elim
    · rename_i t1 et
      refine Tg.ok a3.ok (((en.af gr.af).af a3).wipe vs) rv et fun σ' en' hw => ⟨?_, ?_⟩
      · rw [hw vs hsl, wipe_wipe (fun i h => h)]
      rw [← e3] at p2'
      have asc : ∀ {α β γ : Type} (o : Out α) (f : α → Sto → Out β) (h : β → Sto → Out γ), (o.bind f).bind h = o.bind fun a S => (f a S).bind h := fun o f h => by cases o <;> rfl
      rw [asc] at p2'
      refine ⟨w3, t1, rfl, a3.ok, en', OPost.bindTo p2' fun b w4 b' a4 eb p4 => ?_⟩
      cases (show b = b' from eb)
      cases b with
      | false => exact ⟨w4, acc, rfl, g3.step a4, p4⟩
      | true =>
        rw [if_pos rfl] at p4 ⊢
        rw [asc] at p4
        refine ⟨w4, t1, rfl, a4.ok, en'.af a4, OPost.bindTo p4 fun y w5 vy a5 ry p5 => ?_⟩
        have g5 := (g3.step a4).step a5
        obtain ⟨us, eu, ru⟩ := g5.at_
        split at p5
        · rename_i hsz
          refine ⟨us, eu, by rw [← ru.length]; exact hsz, ⟨upd w5.H Dd (.lst (us ++ [vy])), w5.F, w5.m, w5.S⟩, acc ++ [y], rfl, ⟨Af.blind g5.af hD g5.nf g5.nl (o := .lst []), g5.nf, g5.nl, _, upd_same, ru.append (Reps.one ry)⟩, p5⟩
        · exact p5.elim
  · have e : i = xs.length := by omega
    subst e
    rw [List.drop_length] at p2
    exact .inl ⟨(hJ w2 gr.af _).2 (Nat.le_refl _), done acc w2 gr p2⟩
end
section
variable {X : Cx} {cl : Cl} {W : WX} {dt : DB} {de dx : DE} {g : Tg} {elt tg iter : Expr} {ifs : List Expr} {scope : Scope} {own : List (Str × Nat)} {pos : Pos}
theorem pe_or {e : Expr} {t1 t2 : TE} (h1 : PE X e t1) (h2 : PE X e t2) : PE X e (fun σ H Q => t1 σ H Q ∨ t2 σ H Q) := ⟨fun pins s σ H Q I h => h.elim (h1.run pins s σ H Q I) (h2.run pins s σ H Q I)⟩
def dLcK (vs : List Nat) (g : Tg) (dx : DE) (dt : DB) (de : DE) : DE := fun t S => match dx t S with
  | .ok (.ptr i) _ => (match S[i]? with
    | some (some (.dic ks us)) => (match dx t (S.set i none) with
      | .ok (.ptr j) S1 => if j = i then (lcLoop g dt de (wipeD vs t) ks [] S1).calm.bind fun ys S2 => if hid S2 i = true then .ok (.lst ys) (S2.set i (some (.dic ks us))) else .bad else .bad
      | _ => .bad)
    | _ => .bad)
  | .ok (.dic ks _) S1 => (lcLoop g dt de (wipeD vs t) ks [] S1).calm.bind fun ys S2 => .ok (.lst ys) S2
  | _ => .bad
theorem le_lcK {K : PySem.W.Frag} {vs : List Nat} {σ : L2.St} {H : Hp} {Q : VK} (hsl : ∀ i ∈ g.slots, i ∈ vs) (q : upE K cl W (dLcK vs g dx dt de) σ H Q) :
    tLockE (tLc (iKeys (upE K cl W dx)) (tgT K g) (upB K cl W0 dt) (upE K cl W0 de) vs) σ H Q ∨ tLc (iKeys (upE K cl W dx)) (tgT K g) (upB K cl W0 dt) (upE K cl W0 de) vs σ H Q := by
  obtain ⟨w, t, rfl, ok, en, p⟩ := q
  unfold dLcK at p
  split at p
  · rename_i i S0 h0
    split at p
    · rename_i ks us hi
      split at p
      · rename_i j S1 h1
        split at p
        · rename_i hj
          subst hj
          refine .inl ?_
          have hil : j < w.m.length := by rw [ok.len]; exact (List.getElem?_eq_some_iff.mp hi).1
          obtain ⟨a, ha⟩ : ∃ a, w.m[j]? = some a := ⟨_, List.getElem?_eq_getElem hil⟩
          obtain ⟨c1, es, c2, c3, c4⟩ := ok.cell j a _ ha hi
          refine ⟨a, _, c2, True.intro, fun od => ?_⟩
          have x0 := lock_af (o := .frz od (.dK es)) ok ha hi
          refine ⟨lockW w j a (.frz od (.dK es)), t, rfl, x0.ok, en.af x0, ?_⟩
          show OPost K cl _ _ _ _ (dx t (w.S.set j none))
          rw [h1]
          intro w1 v x1 e1 r1
          obtain ⟨b, hb1, ev⟩ := r1
          rw [x1.mu j a ha] at hb1
          cases hb1
          have hH : ∀ w2, Af K cl w1 w2 → w2.H a = some (.frz od (.dK es)) := fun w2 x => (lock_held ok ha hi (x1.trans x)).1
          refine ⟨a, od, ev, .inl ⟨es, hH w1 (Af.refl x1.ok), fun Dd hD => ?_⟩⟩
          have en1 := (en.af x0).af x1
          have y01 := x0.trans x1
          refine lc_runG (Q := fun v H' => H' a = some (.frz od (.dK es)) ∧ Q v (upd H' a (.dK es))) hsl x1.ok en1 (wk_keys hH (Reps.mono y01.fz y01.mu _ _ c3)) hD (by rw [e1]; exact p) fun ys w2 gr p2 => ?_
          split at p2
          · rename_i h5
            obtain ⟨ls, eu, ru⟩ := gr.at_
            have z := Af.known gr.af hD gr.nf gr.nl eu
            have x13 := x1.trans z
            have y := unlock_any ok ha hi c2 x13 (hid_is h5)
            exact ⟨hH w2 gr.af, p2 _ (.ref Dd) y rfl ⟨Dd, ls, rfl, upd_same, Reps.mono (fun b y hb => by show upd w2.F Dd _ b = _; rw [upd_ne (ne_of_none hb gr.nf)]; exact hb) (fun _ _ h => h) _ _ ru⟩⟩
          · exact p2.elim
        · exact p.elim
      · exact p.elim
    · exact p.elim
  · rename_i ks us S1 h0
    refine .inr ⟨w, t, rfl, ok, en, ?_⟩
    rw [h0]
    intro w1 v x1 e1 r1
    obtain ⟨a, od, es, ev, hF, rk, rv⟩ := dic_frz r1
    refine ⟨a, od, ev, .inl ⟨es, x1.ok.sub _ _ hF, fun Dd hD => ?_⟩⟩
    refine lc_runG hsl x1.ok (en.af x1) (wk_keys (fun w2 x => x.ok.sub _ _ (x.fz _ _ hF)) rk) hD (by rw [e1]; exact p) fun ys w2 gr p2 => ?_
    obtain ⟨ls, eu, ru⟩ := gr.at_
    have z := Af.known gr.af hD gr.nf gr.nl eu
    exact p2 ⟨w2.H, upd w2.F Dd (.lst ls), w2.m, w2.S⟩ (.ref Dd) (x1.trans z) rfl ⟨Dd, ls, rfl, upd_same, Reps.mono (fun b y hb => by show upd w2.F Dd _ b = _; rw [upd_ne (ne_of_none hb gr.nf)]; exact hb) (fun _ _ h => h) _ _ ru⟩
  · exact p.elim
variable (vs : List Nat)
theorem u_lcK (hv : own.map (·.2) = vs) (hsl : ∀ i ∈ g.slots, i ∈ vs) (hc : X.calm = true) (hN : X.N.Nodup) (hi : UE X cl W iter dx) (ok : BlkOk X.N X.env.scope scope own)
    (hg : ∀ (s : Shared) (H : Hp) (C : Addr) (cls : List (Str × Addr)) (fp : List Addr), PG (X.blk s H scope (compEnvC scope cls C X.env) fp) tg (tgT X.K g)) (ht : ∀ (s : Shared) (H : Hp) (C : Addr) (cls : List (Str × Addr)) (fp : List Addr), UTs (X.blk s H scope (compEnvC scope cls C X.env) fp) cl ifs dt)
    (he : ∀ (s : Shared) (H : Hp) (C : Addr) (cls : List (Str × Addr)) (fp : List Addr), UE (X.blk s H scope (compEnvC scope cls C X.env) fp) cl W0 elt de) (hs : ∀ x, foldedSetIterable iter X.env x = pure x := by intro _; rfl) :
    UE X cl W (.ListComp elt [⟨tg, iter, ifs, 0⟩] scope pos) (dLcK vs g dx dt de) := weakE (pe_or (pe_lock (pe_lc hc hN (pi_keys hi) ok hg ht he hs)) (pe_lc hc hN (pi_keys hi) ok hg ht he hs)) fun σ H Q q => by
  rw [hv]
  exact le_lcK hsl q
end
end Dl
set_option Elab.async false
set_option linter.all false
set_option maxRecDepth 100000
set_option maxHeartbeats 1000000
namespace GG
open PySem PySem.Spec PyProof.Rows L2 Dl
abbrev prog : Program := PySem.Challenge.pw_staysbarred_k02_books_kept
def top (i : Nat) : Stmt := prog.main.body.getD i (.Pass ⟨0, 0, 0, 0⟩)
def sub (s : Stmt) (j : Nat) : Stmt := match s with
  | .ClassDef _ _ _ b _ _ _ _ _ _ _ => b.getD j (.Pass ⟨0, 0, 0, 0⟩)
  | _ => .Pass ⟨0, 0, 0, 0⟩
abbrev s_is_integer : Stmt := (top 10)
abbrev s_is_from : Stmt := (top 11)
abbrev s_is_one_of : Stmt := (top 12)
abbrev s_are_marks : Stmt := (top 13)
abbrev s_check_rule : Stmt := (top 14)
abbrev s_Book_init : Stmt := (sub (top 15) 0)
abbrev s_Book_days : Stmt := (sub (top 15) 1)
abbrev s_Book_most : Stmt := (sub (top 15) 2)
abbrev s_Book_marks : Stmt := (sub (top 15) 3)
abbrev s_Book_rule : Stmt := (sub (top 15) 4)
abbrev s_Book_eq : Stmt := (sub (top 15) 5)
abbrev s_Book_turned : Stmt := (sub (top 15) 6)
abbrev s__law_draws : Stmt := (top 17)
abbrev s__law_pick : Stmt := (top 18)
abbrev s__law_parts : Stmt := (top 19)
abbrev s__law_marks : Stmt := (top 20)
abbrev s__law_rule : Stmt := (top 21)
abbrev s__law_drawn : Stmt := (top 22)
abbrev s__law_made : Stmt := (top 23)
abbrev s__law_told : Stmt := (top 24)
abbrev s__law_mark : Stmt := (top 25)
abbrev s_law : Stmt := (top 26)
abbrev sx_BadNumber : Stmt := (sub (top 2) 0)
abbrev sx_BadMarks : Stmt := (sub (top 3) 0)
abbrev sx_BadRule : Stmt := (sub (top 4) 0)
def fileP : Str := prog.main.file
def mt_BadRule : Nat → Option Bool
  | 3 => some false
  | 4 => some false
  | 5 => some true
  | _ => none
def clA (K : PySem.W.Frag) : Nat → Addr
  | 0 => He.ga K "Book"
  | 1 => He.ga K "Line"
  | 2 => He.ga K "StayError"
  | 3 => He.ga K "BadNumber"
  | 4 => He.ga K "BadMarks"
  | 5 => He.ga K "BadRule"
  | 6 => He.ga K "BadLine"
  | 7 => He.ga K "BadStay"
  | 8 => He.ga K "BadSpan"
  | 9 => He.ga K "NoSpan"
  | 10 => He.ga K "BadDeed"
  | 11 => He.ga K "UnknownDeed"
  | 12 => He.ga K "NotComparable"
  | 13 => He.ga K "Possible"
  | 14 => He.ga K "Record"
  | 15 => He.ga K "Inn"
  | 16 => He.ga K "Desk"
  | 17 => He.ga K "Trial"
  | 18 => He.ga K "Reach"
  | 19 => He.ga K "Tightest"
  | 20 => He.ga K "View"
  | 21 => He.ga K "Views"
  | _ => 0
def clG (w : World) (K : PySem.W.Frag) : Cl := ⟨clA K, w⟩
def PARTS_ks0 : List Str := ["changed", "ends", "lengths", "over", "shut"]
def PARTS_ks : List D := PARTS_ks0.map .str
def PARTS_vs : List D := [(.tup [(.str "newest"), (.str "stays")]), (.tup [(.str "closed"), (.str "open")]), (.tup [(.str "coming"), (.str "nights")]), (.tup [(.str "first"), (.str "newest"), (.str "strictest")]), (.tup [(.str "coming"), (.str "nights")])]

/-! is_integer -/
abbrev N_is_integer : List Str := ["value"]
abbrev P_is_integer : List Str := ["value"]
def den_is_integer : DS := (dRet (dAnd (dIsi (tabB "int") (dVar 0)) (dNot (dIsi (tabB "bool") (dVar 0)))))
def F_is_integer : DF := runF 1 1 den_is_integer

/-! is_from -/
abbrev N_is_from : List Str := ["value", "low", "high"]
abbrev P_is_from : List Str := ["value", "low", "high"]
def den_is_from : DS := (dRet (dAnd (dCall 1 (viaP F_is_integer) (aCons (dVar 0) aNil)) (dChain fLe fLe (dVar 1) (dVar 0) (dVar 2))))
def F_is_from : DF := runF 3 3 den_is_from

/-! is_one_of -/
abbrev N_is_one_of : List Str := ["value", "some"]
abbrev P_is_one_of : List Str := ["value", "some"]
def den_is_one_of : DS := (dRet (dAnd (dIsi (tabB "str") (dVar 0)) (dOp (fInA false) (dVar 0) (dVar 1))))
def F_is_one_of : DF := runF 2 2 den_is_one_of

/-! are_marks -/
abbrev N_are_marks : List Str := ["value", "mark", "one", "other"]
abbrev P_are_marks : List Str := ["value"]
def den_are_marks : DS := (dSeq (dIfS (bOr (bNot (bTest (dIsi (tabB "tuple") (dVar 0)))) (bNot (bTest (dB bAll (aCons (dLc [1] (.nm 1) (iTpl (dVar 0)) bYes (dCall 2 (viaP F_is_one_of) (aCons (dVar 1) (aCons (dC (.tup [(.str "least"), (.str "most"), (.str "nocome"), (.str "nogo"), (.str "shut")])) aNil)))) aNil))))) (dRet (dC (.bl false))) dSkip)
  (dRet (dB bAll (aCons (dLc [2, 3] (.tp [2, 3]) (iZp (dVar 0) (dSl (dVar 0) (oSome (dC (.int 1))) oNone)) bYes (dOp fLt (dVar 2) (dVar 3))) aNil))))
def F_are_marks : DF := runF 1 4 den_are_marks

/-! check_rule -/
abbrev N_check_rule : List Str := ["rule", "part"]
abbrev P_check_rule : List Str := ["rule"]
def den_check_rule : DS := (dSeq (dIfS (bOr (bNot (bTest (dIsi (tabB "dict") (dVar 0)))) (bTest (dOp (fEqA true) (dB bLen (aCons (dVar 0) aNil)) (dC (.int ((5 : Nat) : Int)))))) (dRaise1 5 "part" okShow (dC (.str ""))) dSkip)
  (dSeq (dIfS (bNot (bTest (dB bAll (aCons (dLcK [1] (.nm 1) (dVar 0) bYes (dCall 2 (viaP F_is_one_of) (aCons (dVar 1) (aCons (dC (.lst PARTS_ks)) aNil)))) aNil)))) (dRaise1 5 "part" okShow (dC (.str ""))) dSkip)
  (dFor (.nm 1) (dConst PARTS_ks) (dIfS (bNot (bTest (dCall 2 (viaP F_is_one_of) (aCons (dOp fIxA (dVar 0) (dVar 1)) (aCons (dUn (dIxK PARTS_ks PARTS_vs) (dVar 1)) aNil))))) (dRaise1 5 "part" okShow (dVar 1)) dSkip))))
def F_check_rule : DF := runF 1 2 den_check_rule

/-! Book_init -/
abbrev N_Book_init : List Str := ["self", "days", "most", "marks", "rule", "part"]
abbrev P_Book_init : List Str := ["self", "days", "most", "marks", "rule"]
def den_Book_init : DS := (dSeq (dIfS (bOr (bNot (bTest (dCall 3 (viaP F_is_from) (aCons (dVar 1) (aCons (dC (.int 2)) (aCons (dC (.int 4)) aNil)))))) (bNot (bTest (dCall 3 (viaP F_is_from) (aCons (dVar 2) (aCons (dC (.int 1)) (aCons (dC (.int 3)) aNil))))))) (dRaise0 3) dSkip)
  (dSeq (dIfS (bNot (bTest (dCall 1 (viaP F_are_marks) (aCons (dVar 3) aNil)))) (dRaise0 4) dSkip)
  (dSeq (dExpr (dCall 1 (viaQ F_check_rule) (aCons (dVar 4) aNil)))
  (dSeq (dSetF 0 "many_days" (dVar 0) (dVar 1))
  (dSeq (dSetF 0 "cap" (dVar 0) (dVar 2))
  (dSeq (dSetF 0 "words" (dVar 0) (dVar 3))
  (dSetF 0 "parts" (dVar 0) (dDc [5] (.nm 5) (dConst PARTS_ks) bYes (dVar 5) (dOp fIxA (dVar 4) (dVar 5))))))))))
def F_Book_init : DF := runF 5 6 den_Book_init

/-! Book_days -/
abbrev N_Book_days : List Str := ["self"]
abbrev P_Book_days : List Str := ["self"]
def den_Book_days : DS := (dRet (dAttr 0 "many_days" (dVar 0)))
def F_Book_days : DF := runF 1 1 den_Book_days

/-! Book_most -/
abbrev N_Book_most : List Str := ["self"]
abbrev P_Book_most : List Str := ["self"]
def den_Book_most : DS := (dRet (dAttr 0 "cap" (dVar 0)))
def F_Book_most : DF := runF 1 1 den_Book_most

/-! Book_marks -/
abbrev N_Book_marks : List Str := ["self"]
abbrev P_Book_marks : List Str := ["self"]
def den_Book_marks : DS := (dRet (dAttr 0 "words" (dVar 0)))
def F_Book_marks : DF := runF 1 1 den_Book_marks

/-! Book_rule -/
abbrev N_Book_rule : List Str := ["self"]
abbrev P_Book_rule : List Str := ["self"]
def den_Book_rule : DS := (dRet (dDictC (aCons (dAttr 0 "parts" (dVar 0)) aNil)))
def F_Book_rule : DF := runF 1 1 den_Book_rule

/-! Book_eq -/
abbrev N_Book_eq : List Str := ["self", "other"]
abbrev P_Book_eq : List Str := ["self", "other"]
def den_Book_eq : DS := (dSeq (dIfS (bOr (bNot (bTest (dIsi (tabOL 0 ["dict"]) (dVar 1)))) (bOr (bTest (dOp (fEqA true) (dAttr 0 "many_days" (dVar 0)) (dAttr 0 "many_days" (dVar 1)))) (bTest (dOp (fEqA true) (dAttr 0 "cap" (dVar 0)) (dAttr 0 "cap" (dVar 1)))))) (dRet (dC (.bl false))) dSkip)
  (dRet (dAnd (dOp (fEqA false) (dAttr 0 "words" (dVar 0)) (dAttr 0 "words" (dVar 1))) (dOp (fEqA false) (dAttr 0 "parts" (dVar 0)) (dAttr 0 "parts" (dVar 1))))))
def F_Book_eq : DF := runF 2 2 den_Book_eq

/-! Book_turned -/
abbrev N_Book_turned : List Str := ["self", "part", "word"]
abbrev P_Book_turned : List Str := ["self", "part", "word"]
def den_Book_turned : DS := (dSeq (dIfS (bNot (bTest (dCall 2 (viaP F_is_one_of) (aCons (dVar 1) (aCons (dC (.lst PARTS_ks)) aNil))))) (dRaise1 5 "part" okShow (dC (.str ""))) dSkip)
  (dRet (dFz (dMake 0 5 F_Book_init (aCons (dAttr 0 "many_days" (dVar 0)) (aCons (dAttr 0 "cap" (dVar 0)) (aCons (dAttr 0 "words" (dVar 0)) (aCons (dStar (dAttr 0 "parts" (dVar 0)) (dVar 1) (dVar 2)) aNil))))))))
def F_Book_turned : DF := runF 3 3 den_Book_turned

/-! _law_draws -/
abbrev N__law_draws : List Str := ["_law_script"]
abbrev P__law_draws : List Str := ["_law_script"]
def den__law_draws : DS := (dRet (dCellL (aCons (dB bList (aCons (dVar 0) aNil)) (aCons (dC (.int 0)) (aCons (dC (.int 0)) (aCons (dC (.int 7)) aNil))))))
def F__law_draws : DF := runF 1 1 den__law_draws

/-! _law_pick -/
abbrev N__law_pick : List Str := ["_law_row", "_law_many", "_law_cell", "_law_found"]
abbrev P__law_pick : List Str := ["_law_row", "_law_many"]
def den__law_pick : DS := (dSeq (dIfS (bTest (dOp (fEqA false) (dOp fIxA (dVar 0) (dC (.int 2))) (dC (.int 0)))) (dIfS (bTest (dOp fLt (dOp fIxA (dVar 0) (dC (.int 1))) (dB bLen (aCons (dOp fIxA (dVar 0) (dC (.int 0))) aNil)))) (dSeq (dSet 2 (dOp fIxA (dOp fIxA (dVar 0) (dC (.int 0))) (dOp fIxA (dVar 0) (dC (.int 1)))))
  (dSeq (dSetA (dVar 0) (dC (.int 1)) (dOp fAdd (dOp fIxA (dVar 0) (dC (.int 1))) (dC (.int 1))))
  (dIfS (bTest (dOp fGe (dVar 2) (dOp fPow (dC (.int 10)) (dC (.int 18))))) (dSetA (dVar 0) (dC (.int 2)) (dVar 2)) (dSetA (dVar 0) (dC (.int 3)) (dOp fMod (dB bInt (aCons (dOp fAdd (dOp fAdd (dOp fMul (dOp fIxA (dVar 0) (dC (.int 3))) (dC (.int 48271))) (dOp fMul (dVar 2) (dC (.int 69621)))) (dC (.int 11))) aNil)) (dC (.int 2147483647))))))) (dSetA (dVar 0) (dC (.int 3)) (dOp fMod (dB bInt (aCons (dOp fAdd (dOp fMul (dOp fIxA (dVar 0) (dC (.int 3))) (dC (.int 48271))) (dC (.int 7))) aNil)) (dC (.int 2147483647))))) dSkip)
  (dSeq (dIfS (bTest (dOp fGt (dOp fIxA (dVar 0) (dC (.int 2))) (dC (.int 0)))) (dSeq (dSet 3 (dOp fMod (dB bInt (aCons (dOp fIxA (dVar 0) (dC (.int 2))) aNil)) (dVar 1)))
  (dSeq (dSetA (dVar 0) (dC (.int 2)) (dOp fDiv (dOp fIxA (dVar 0) (dC (.int 2))) (dVar 1)))
  (dRet (dVar 3)))) dSkip)
  (dRet (dOp fMod (dOp fMod (dB bInt (aCons (dOp fMul (dOp fIxA (dVar 0) (dC (.int 3))) (dC (.int 16807))) aNil)) (dC (.int 2147483629))) (dVar 1)))))
def F__law_pick : DF := runF 2 4 den__law_pick

/-! _law_parts -/
abbrev N__law_parts : List Str := ["_law_found"]
abbrev P__law_parts : List Str := []
def den__law_parts : DS := (dSeq (dSet 0 (dLst (aCons (dTup (aCons (dC (.str "changed")) (aCons (dLst (aCons (dC (.str "newest")) (aCons (dC (.str "stays")) aNil))) aNil))) (aCons (dTup (aCons (dC (.str "ends")) (aCons (dLst (aCons (dC (.str "closed")) (aCons (dC (.str "open")) aNil))) aNil))) (aCons (dTup (aCons (dC (.str "lengths")) (aCons (dLst (aCons (dC (.str "coming")) (aCons (dC (.str "nights")) aNil))) aNil))) aNil)))))
  (dRet (dOp fAdd (dVar 0) (dLst (aCons (dTup (aCons (dC (.str "over")) (aCons (dLst (aCons (dC (.str "first")) (aCons (dC (.str "newest")) (aCons (dC (.str "strictest")) aNil)))) aNil))) (aCons (dTup (aCons (dC (.str "shut")) (aCons (dLst (aCons (dC (.str "coming")) (aCons (dC (.str "nights")) aNil))) aNil))) aNil))))))
def F__law_parts : DF := runF 0 1 den__law_parts

/-! _law_marks -/
abbrev N__law_marks : List Str := []
abbrev P__law_marks : List Str := []
def den__law_marks : DS := (dRet (dLst (aCons (dC (.str "least")) (aCons (dC (.str "most")) (aCons (dC (.str "nocome")) (aCons (dC (.str "nogo")) (aCons (dC (.str "shut")) aNil)))))))
def F__law_marks : DF := runF 0 0 den__law_marks

/-! _law_rule -/
abbrev N__law_rule : List Str := ["_law_row", "_law_found", "_law_part", "_law_words"]
abbrev P__law_rule : List Str := ["_law_row"]
def den__law_rule : DS := (dSeq (dSet 1 dDicC)
  (dSeq (dFor (.tp [2, 3]) (iLst (dCall 0 (viaP F__law_parts) aNil)) (dSetA (dVar 1) (dVar 2) (dOp fIxA (dVar 3) (dCall 2 (viaR F__law_pick) (aCons (dVar 0) (aCons (dB bLen (aCons (dVar 3) aNil)) aNil))))))
  (dRet (dFz (dVar 1)))))
def F__law_rule : DF := runF 1 4 den__law_rule

/-! _law_drawn -/
abbrev N__law_drawn : List Str := ["_law_row", "_law_days", "_law_most", "_law_many", "_law_t", "_law_some", "_law_at"]
abbrev P__law_drawn : List Str := ["_law_row", "_law_days", "_law_most", "_law_many"]
def den__law_drawn : DS := (dSeq (dSet 4 (dDispC [((dC (.str "days")), (dOp fAdd (dC (.int 2)) (dCall 2 (viaR F__law_pick) (aCons (dVar 0) (aCons (dOp fSub (dVar 1) (dC (.int 1))) aNil))))), ((dC (.str "most")), (dOp fAdd (dC (.int 1)) (dCall 2 (viaR F__law_pick) (aCons (dVar 0) (aCons (dVar 2) aNil))))), ((dC (.str "rule")), (dCall 1 (viaR F__law_rule) (aCons (dVar 0) aNil)))]))
  (dSeq (dSet 5 (dCall 0 (viaP F__law_marks) aNil))
  (dSeq (dWhile (bTest (dOp fGt (dB bLen (aCons (dVar 5) aNil)) (dVar 3))) (dSeq (dSet 6 (dCall 2 (viaR F__law_pick) (aCons (dVar 0) (aCons (dB bLen (aCons (dVar 5) aNil)) aNil))))
  (dSet 5 (dOp fAdd (dSl (dVar 5) oNone (oSome (dVar 6))) (dSl (dVar 5) (oSome (dOp fAdd (dVar 6) (dC (.int 1)))) oNone)))) 12)
  (dSeq (dSetA (dVar 4) (dC (.str "marks")) (dB bTuple (aCons (dVar 5) aNil)))
  (dRet (dFz (dVar 4)))))))
def F__law_drawn : DF := runF 4 7 den__law_drawn

/-! _law_made -/
abbrev N__law_made : List Str := ["_law_t"]
abbrev P__law_made : List Str := ["_law_t"]
def den__law_made : DS := (dRet (dFz (dMake 0 5 F_Book_init (aCons (dOp fIxA (dVar 0) (dC (.str "days"))) (aCons (dOp fIxA (dVar 0) (dC (.str "most"))) (aCons (dOp fIxA (dVar 0) (dC (.str "marks"))) (aCons (dOp fIxA (dVar 0) (dC (.str "rule"))) aNil)))))))
def F__law_made : DF := runF 1 1 den__law_made

/-! _law_told -/
abbrev N__law_told : List Str := ["_law_book", "_law_part", "_law_word", "_law_told_here", "e"]
abbrev P__law_told : List Str := ["_law_book", "_law_part", "_law_word"]
def den__law_told : DS := (dSeq (dSet 3 (dC .non))
  (dSeq (dTry (dSet 3 (dMeth 0 "turned" 3 (viaP F_Book_turned) (dVar 0) (aCons (dVar 1) (aCons (dVar 2) aNil)))) [⟨mt_BadRule, some 4, fun c ns vs => dSet 3 ((dLst (aCons (dC (.str "bad")) (aCons (dXf 5 "part" c ns vs) aNil))))⟩])
  (dRet (dVar 3))))
def F__law_told : DF := runF 3 5 den__law_told

/-! _law_mark -/
abbrev N__law_mark : List Str := ["_law_t"]
abbrev P__law_mark : List Str := ["_law_t"]
def den__law_mark : DS := (dRet (dLst (aCons (dOp fIxA (dVar 0) (dC (.str "days"))) (aCons (dOp fIxA (dVar 0) (dC (.str "most"))) (aCons (dOp fIxA (dVar 0) (dC (.str "marks"))) (aCons (dB bSorted (aCons (dLItems (dOp fIxA (dVar 0) (dC (.str "rule")))) aNil)) aNil))))))
def F__law_mark : DF := runF 1 1 den__law_mark

/-! law -/
abbrev N_law : List Str := ["_law_script", "_law_row", "_law_before", "_law_turn", "_law_t", "_law_rule_here", "_law_book", "_law_part", "_law_words", "_law_word", "_law_other", "_law_one", "_law_mark_here"]
abbrev P_law : List Str := ["_law_script"]
def den_law : DS := (dSeq (dSet 1 (dCall 1 (viaK F__law_draws) (aCons (dVar 0) aNil)))
  (dSeq (dSet 2 (dCellL aNil))
  (dSeq (dFor (.nm 3) (iRng1 (dC (.int 5))) (dSeq (dSet 4 (dCall 4 (viaR F__law_drawn) (aCons (dVar 1) (aCons (dC (.int 4)) (aCons (dC (.int 3)) (aCons (dCall 2 (viaR F__law_pick) (aCons (dVar 1) (aCons (dC (.int 6)) aNil))) aNil))))))
  (dSeq (dSet 5 (dDictP (aCons (dRevL (dLItems (dOp fIxA (dVar 4) (dC (.str "rule"))))) aNil)))
  (dSeq (dSet 6 (dFz (dMake 0 5 F_Book_init (aCons (dOp fIxA (dVar 4) (dC (.str "days"))) (aCons (dOp fIxA (dVar 4) (dC (.str "most"))) (aCons (dOp fIxA (dVar 4) (dC (.str "marks"))) (aCons (dVar 5) aNil)))))))
  (dSeq (dExpr (dBM "dict" mClear (dVar 5) aNil))
  (dSeq (dIfS (bOr (bTest (dOp (fEqA true) (dLItems (dFz (dPropV 0 (viaK F_Book_rule) (dVar 6)))) (dB bSorted (aCons (dLItems (dOp fIxA (dVar 4) (dC (.str "rule")))) aNil)))) (bTest (dOp (fEqV 0 (okT 0 ["dict"]) (viaP F_Book_eq)) (dVar 6) (dVar 4)))) (dRet (dC (.bl false))) dSkip)
  (dSeq (dIfS (bTest (dOp (fEqA true) (dLst (aCons (dPropV 0 (viaP F_Book_days) (dVar 6)) (aCons (dPropV 0 (viaP F_Book_most) (dVar 6)) (aCons (dPropV 0 (viaP F_Book_marks) (dVar 6)) aNil)))) (dLst (aCons (dOp fIxA (dVar 4) (dC (.str "days"))) (aCons (dOp fIxA (dVar 4) (dC (.str "most"))) (aCons (dOp fIxA (dVar 4) (dC (.str "marks"))) aNil)))))) (dRet (dC (.bl false))) dSkip)
  (dSeq (dExpr (dBM "dict" mClear (dPropV 0 (viaK F_Book_rule) (dVar 6)) aNil))
  (dSeq (dFor (.tp [7, 8]) (iLst (dCall 0 (viaP F__law_parts) aNil)) (dSeq (dFor (.nm 9) (iLst (dVar 8)) (dSeq (dSet 10 (dDictC (aCons (dVar 4) aNil)))
  (dSeq (dSetA (dVar 10) (dC (.str "rule")) (dDictC (aCons (dOp fIxA (dVar 4) (dC (.str "rule"))) aNil)))
  (dSeq (dFz2At 10 2 (dSetA (dOp fIxA (dVar 10) (dC (.str "rule"))) (dVar 7) (dVar 9)))
  (dIfS (bTest (dOp (fNeO 0 F_Book_eq) (dCall 3 (viaP F__law_told) (aCons (dVar 6) (aCons (dVar 7) (aCons (dVar 9) aNil)))) (dCall 1 (viaP F__law_made) (aCons (dVar 10) aNil)))) (dRet (dC (.bl false))) dSkip)))))
  (dIfS (bTest (dOp (fEqA true) (dCall 3 (viaP F__law_told) (aCons (dVar 6) (aCons (dVar 7) (aCons (dOp fIxA (dLst (aCons (dC (.str "no")) (aCons (dC .non) (aCons (dC (.int 3)) (aCons (dTup (aCons (dC (.str "open")) aNil)) aNil))))) (dCall 2 (viaR F__law_pick) (aCons (dVar 1) (aCons (dC (.int 4)) aNil)))) aNil)))) (dLst (aCons (dC (.str "bad")) (aCons (dVar 7) aNil))))) (dRet (dC (.bl false))) dSkip)))
  (dSeq (dIfS (bTest (dOp (fEqA true) (dCall 3 (viaP F__law_told) (aCons (dVar 6) (aCons (dOp fIxA (dLst (aCons (dC (.str "no")) (aCons (dC .non) (aCons (dC (.int 3)) (aCons (dTup (aCons (dC (.str "ends")) aNil)) (aCons (dLst (aCons (dC (.str "over")) aNil)) aNil)))))) (dCall 2 (viaR F__law_pick) (aCons (dVar 1) (aCons (dC (.int 5)) aNil)))) (aCons (dC (.str "open")) aNil)))) (dLst (aCons (dC (.str "bad")) (aCons (dC (.str "")) aNil))))) (dRet (dC (.bl false))) dSkip)
  (dSeq (dIfS (bTest (dOp (fEqA true) (dLcW [11, 12] (.tp [11, 12]) (dVar 2) (bTest (dOp (fEqA true) (dOp (fEqO 0 F_Book_eq) (dVar 11) (dVar 6)) (dOp (fEqA false) (dVar 12) (dCall 1 (viaP F__law_mark) (aCons (dVar 4) aNil))))) (dVar 11)) (dLst aNil))) (dRet (dC (.bl false))) dSkip)
  (dExpr (dBM "list" mAppend (dVar 2) (aCons (dTup (aCons (dVar 6) (aCons (dCall 1 (viaP F__law_mark) (aCons (dVar 4) aNil)) aNil))) aNil))))))))))))))
  (dRet (dC (.bl true))))))
def F_law : DF := runF 1 13 den_law

/-! ### facts -/
def fn : List He.DefD := [⟨("is_integer", none), "is_integer", "is_integer", defArgs s_is_integer, defBody s_is_integer, defScope s_is_integer, [], []⟩,
  ⟨("is_from", none), "is_from", "is_from", defArgs s_is_from, defBody s_is_from, defScope s_is_from, [], []⟩,
  ⟨("is_one_of", none), "is_one_of", "is_one_of", defArgs s_is_one_of, defBody s_is_one_of, defScope s_is_one_of, [], []⟩,
  ⟨("are_marks", none), "are_marks", "are_marks", defArgs s_are_marks, defBody s_are_marks, defScope s_are_marks, [], []⟩,
  ⟨("check_rule", none), "check_rule", "check_rule", defArgs s_check_rule, defBody s_check_rule, defScope s_check_rule, [], []⟩,
  ⟨("Book", some "__init__"), "__init__", "Book.__init__", defArgs s_Book_init, defBody s_Book_init, defScope s_Book_init, [], []⟩,
  ⟨("Book", some "__eq__"), "__eq__", "Book.__eq__", defArgs s_Book_eq, defBody s_Book_eq, defScope s_Book_eq, [], []⟩,
  ⟨("Book", some "turned"), "turned", "Book.turned", defArgs s_Book_turned, defBody s_Book_turned, defScope s_Book_turned, [], []⟩,
  ⟨("_law_draws", none), "_law_draws", "_law_draws", defArgs s__law_draws, defBody s__law_draws, defScope s__law_draws, [], []⟩,
  ⟨("_law_pick", none), "_law_pick", "_law_pick", defArgs s__law_pick, defBody s__law_pick, defScope s__law_pick, [], []⟩,
  ⟨("_law_parts", none), "_law_parts", "_law_parts", defArgs s__law_parts, defBody s__law_parts, defScope s__law_parts, [], []⟩,
  ⟨("_law_marks", none), "_law_marks", "_law_marks", defArgs s__law_marks, defBody s__law_marks, defScope s__law_marks, [], []⟩,
  ⟨("_law_rule", none), "_law_rule", "_law_rule", defArgs s__law_rule, defBody s__law_rule, defScope s__law_rule, [], []⟩,
  ⟨("_law_drawn", none), "_law_drawn", "_law_drawn", defArgs s__law_drawn, defBody s__law_drawn, defScope s__law_drawn, [], []⟩,
  ⟨("_law_made", none), "_law_made", "_law_made", defArgs s__law_made, defBody s__law_made, defScope s__law_made, [], []⟩,
  ⟨("_law_told", none), "_law_told", "_law_told", defArgs s__law_told, defBody s__law_told, defScope s__law_told, [], []⟩,
  ⟨("_law_mark", none), "_law_mark", "_law_mark", defArgs s__law_mark, defBody s__law_mark, defScope s__law_mark, [], []⟩,
  ⟨("law", none), "law", "law", defArgs s_law, defBody s_law, defScope s_law, [], []⟩]
def fa : List He.Fa := [.free "isinstance", .free "int", .free "bool", .glo "is_integer", .free "str", .free "tuple", .glo "is_one_of", .free "all", .free "zip", .free "dict", .free "len", .glo "PARTS", .glo "BadRule", .free "list", .glo "is_from", .glo "BadNumber", .glo "are_marks", .glo "BadMarks", .glo "check_rule", .cls "Book", .noat "Book" "many_days", .noat "Book" "cap", .noat "Book" "words", .noat "Book" "parts", .glo "Book", .mkr "Book", .glo "_law_parts", .glo "_law_pick", .glo "_law_rule", .glo "_law_marks", .meth "Book" "turned", .free "sorted", .glo "_law_draws", .free "range", .glo "_law_drawn", .meth "Book" "__eq__", .glo "_law_told", .glo "_law_made", .glo "_law_mark", .glo "law", .free "super"]
def ts : List He.Tab := [(fun K => He.ga K "PARTS", PARTS_ks0)]
def exs : List (PySem.W.Frag → Bool) := [gvB "MARKS" (.tup [(.str "least"), (.str "most"), (.str "nocome"), (.str "nogo"), (.str "shut")]), excWhole "BadRule", excMade "BadRule", gvB "MOST_DAYS" (.int 4), gvB "MOST_SPANS" (.int 3), excWhole "BadNumber", excMade "BadNumber", excWhole "BadMarks", excMade "BadMarks", isiB "Book", fun K => noneOf K (He.ga K "Book") ["dict"], excSeen "BadRule", noFld "BadRule" "part", fun K => notFsts K (He.ga K "Book") ["dict"], fun K => neIn K (He.ga K "Book") (He.ma K (He.ga K "Book") "__eq__"), stB (fun K => He.ga K "PARTS") PARTS_vs, excText fileP "BadNumber", excText fileP "BadMarks", excText fileP "BadRule", exmB "BadNumber" "BadRule" false, exmB "BadMarks" "BadRule" false, exmB "BadRule" "BadRule" true]
def ex (K : PySem.W.Frag) : Bool := exs.all fun f => f K
def xs : List XDef := [⟨"BadNumber", "BadNumber.__init__", defArgs sx_BadNumber, defBody sx_BadNumber, defScope sx_BadNumber⟩,
  ⟨"BadMarks", "BadMarks.__init__", defArgs sx_BadMarks, defBody sx_BadMarks, defScope sx_BadMarks⟩,
  ⟨"BadRule", "BadRule.__init__", defArgs sx_BadRule, defBody sx_BadRule, defScope sx_BadRule⟩]
def prs : List PrD := [⟨"Book", "days", "Book.days", defArgs s_Book_days, defBody s_Book_days, defScope s_Book_days⟩,
  ⟨"Book", "most", "Book.most", defArgs s_Book_most, defBody s_Book_most, defScope s_Book_most⟩,
  ⟨"Book", "marks", "Book.marks", defArgs s_Book_marks, defBody s_Book_marks, defScope s_Book_marks⟩,
  ⟨"Book", "rule", "Book.rule", defArgs s_Book_rule, defBody s_Book_rule, defScope s_Book_rule⟩]
abbrev Wx (P : Program) (w : World) (K : PySem.W.Frag) (mg : Str → Option Value) : Prop := Wp P fileP fa fn ts xs prs ex w K mg
section
variable {P : Program} {w : World} {K : PySem.W.Frag} {mg : Str → Option Value}
theorem exs_at (Wc : Wx P w K mg) (i : Nat) {f : PySem.W.Frag → Bool} (e : exs[i]? = some f) : f K = true := all_mem Wc.more i e
theorem stat_PARTS (Wc : Wx P w K mg) : ∃ o es ep kvs us, StA P w K (He.ga K "PARTS") o es ep kvs us ∧ StR K (clG w K) kvs PARTS_ks PARTS_vs ∧ kvs.length = 5 := by
  have e : ts.map (fun t => He.dicW K (t.1 K)) = ts.map fun t => some (He.keysIn w.params t.2) := congrArg (fun z : He.AlT => z.2) Wc.t
  have e2 : (ts.map fun t => He.dicW K (t.1 K))[0]? = (ts.map fun t => some (He.keysIn w.params t.2))[0]? := by rw [e]
  rw [List.getElem?_map, List.getElem?_map, show ts[0]? = some (fun K => He.ga K "PARTS", PARTS_ks0) from rfl] at e2
  exact st_ok (a := fun K => He.ga K "PARTS") (Option.some.inj e2) (exs_at Wc 15 rfl) (by decide +kernel) (by decide +kernel)
theorem fr_isinstance (Wc : Wx P w K mg) : mg "isinstance" = none := Wc.free 0
theorem fr_int (Wc : Wx P w K mg) : mg "int" = none := Wc.free 1
theorem fr_bool (Wc : Wx P w K mg) : mg "bool" = none := Wc.free 2
theorem gl_is_integer (Wc : Wx P w K mg) : mg "is_integer" = some (.ref (He.ga K "is_integer")) := Wc.glo 3
theorem fr_str (Wc : Wx P w K mg) : mg "str" = none := Wc.free 4
theorem fr_tuple (Wc : Wx P w K mg) : mg "tuple" = none := Wc.free 5
theorem gl_is_one_of (Wc : Wx P w K mg) : mg "is_one_of" = some (.ref (He.ga K "is_one_of")) := Wc.glo 6
theorem fr_all (Wc : Wx P w K mg) : mg "all" = none := Wc.free 7
theorem fr_zip (Wc : Wx P w K mg) : mg "zip" = none := Wc.free 8
theorem fr_dict (Wc : Wx P w K mg) : mg "dict" = none := Wc.free 9
theorem fr_len (Wc : Wx P w K mg) : mg "len" = none := Wc.free 10
theorem gl_PARTS (Wc : Wx P w K mg) : mg "PARTS" = some (.ref (He.ga K "PARTS")) := Wc.glo 11
theorem gl_BadRule (Wc : Wx P w K mg) : mg "BadRule" = some (.ref (He.ga K "BadRule")) := Wc.glo 12
theorem fr_list (Wc : Wx P w K mg) : mg "list" = none := Wc.free 13
theorem gl_is_from (Wc : Wx P w K mg) : mg "is_from" = some (.ref (He.ga K "is_from")) := Wc.glo 14
theorem gl_BadNumber (Wc : Wx P w K mg) : mg "BadNumber" = some (.ref (He.ga K "BadNumber")) := Wc.glo 15
theorem gl_are_marks (Wc : Wx P w K mg) : mg "are_marks" = some (.ref (He.ga K "are_marks")) := Wc.glo 16
theorem gl_BadMarks (Wc : Wx P w K mg) : mg "BadMarks" = some (.ref (He.ga K "BadMarks")) := Wc.glo 17
theorem gl_check_rule (Wc : Wx P w K mg) : mg "check_rule" = some (.ref (He.ga K "check_rule")) := Wc.glo 18
theorem cl_Book (Wc : Wx P w K mg) : Cls K (He.ga K "Book") := Wc.cls 19
theorem na_Book_many_days (Wc : Wx P w K mg) : NoAttr K (He.ga K "Book") "many_days" := Wc.noat 20
theorem na_Book_cap (Wc : Wx P w K mg) : NoAttr K (He.ga K "Book") "cap" := Wc.noat 21
theorem na_Book_words (Wc : Wx P w K mg) : NoAttr K (He.ga K "Book") "words" := Wc.noat 22
theorem na_Book_parts (Wc : Wx P w K mg) : NoAttr K (He.ga K "Book") "parts" := Wc.noat 23
theorem gl_Book (Wc : Wx P w K mg) : mg "Book" = some (.ref (He.ga K "Book")) := Wc.glo 24
theorem mk_Book (Wc : Wx P w K mg) : Mk K (He.ga K "Book") (He.ma K (He.ga K "Book") "__init__") := Wc.mkr 25
theorem gl__law_parts (Wc : Wx P w K mg) : mg "_law_parts" = some (.ref (He.ga K "_law_parts")) := Wc.glo 26
theorem gl__law_pick (Wc : Wx P w K mg) : mg "_law_pick" = some (.ref (He.ga K "_law_pick")) := Wc.glo 27
theorem gl__law_rule (Wc : Wx P w K mg) : mg "_law_rule" = some (.ref (He.ga K "_law_rule")) := Wc.glo 28
theorem gl__law_marks (Wc : Wx P w K mg) : mg "_law_marks" = some (.ref (He.ga K "_law_marks")) := Wc.glo 29
theorem me_Book_turned (Wc : Wx P w K mg) : Meth K (He.ga K "Book") "turned" (He.ma K (He.ga K "Book") "turned") := Wc.meth 30
theorem fr_sorted (Wc : Wx P w K mg) : mg "sorted" = none := Wc.free 31
theorem gl__law_draws (Wc : Wx P w K mg) : mg "_law_draws" = some (.ref (He.ga K "_law_draws")) := Wc.glo 32
theorem fr_range (Wc : Wx P w K mg) : mg "range" = none := Wc.free 33
theorem gl__law_drawn (Wc : Wx P w K mg) : mg "_law_drawn" = some (.ref (He.ga K "_law_drawn")) := Wc.glo 34
theorem me_Book_eq (Wc : Wx P w K mg) : Meth K (He.ga K "Book") "__eq__" (He.ma K (He.ga K "Book") "__eq__") := Wc.meth 35
theorem gl__law_told (Wc : Wx P w K mg) : mg "_law_told" = some (.ref (He.ga K "_law_told")) := Wc.glo 36
theorem gl__law_made (Wc : Wx P w K mg) : mg "_law_made" = some (.ref (He.ga K "_law_made")) := Wc.glo 37
theorem gl__law_mark (Wc : Wx P w K mg) : mg "_law_mark" = some (.ref (He.ga K "_law_mark")) := Wc.glo 38
theorem gl_law (Wc : Wx P w K mg) : mg "law" = some (.ref (He.ga K "law")) := Wc.glo 39
theorem fr_super (Wc : Wx P w K mg) : mg "super" = none := Wc.free 40
theorem ex_0 (Wc : Wx P w K mg) : (gvB "MARKS" (.tup [(.str "least"), (.str "most"), (.str "nocome"), (.str "nogo"), (.str "shut")])) K = true := exs_at Wc 0 rfl
theorem ex_1 (Wc : Wx P w K mg) : (excWhole "BadRule") K = true := exs_at Wc 1 rfl
theorem ex_2 (Wc : Wx P w K mg) : (excMade "BadRule") K = true := exs_at Wc 2 rfl
theorem ex_3 (Wc : Wx P w K mg) : (gvB "MOST_DAYS" (.int 4)) K = true := exs_at Wc 3 rfl
theorem ex_4 (Wc : Wx P w K mg) : (gvB "MOST_SPANS" (.int 3)) K = true := exs_at Wc 4 rfl
theorem ex_5 (Wc : Wx P w K mg) : (excWhole "BadNumber") K = true := exs_at Wc 5 rfl
theorem ex_6 (Wc : Wx P w K mg) : (excMade "BadNumber") K = true := exs_at Wc 6 rfl
theorem ex_7 (Wc : Wx P w K mg) : (excWhole "BadMarks") K = true := exs_at Wc 7 rfl
theorem ex_8 (Wc : Wx P w K mg) : (excMade "BadMarks") K = true := exs_at Wc 8 rfl
theorem ex_9 (Wc : Wx P w K mg) : (isiB "Book") K = true := exs_at Wc 9 rfl
theorem ex_10 (Wc : Wx P w K mg) : (fun K => noneOf K (He.ga K "Book") ["dict"]) K = true := exs_at Wc 10 rfl
theorem ex_11 (Wc : Wx P w K mg) : (excSeen "BadRule") K = true := exs_at Wc 11 rfl
theorem ex_12 (Wc : Wx P w K mg) : (noFld "BadRule" "part") K = true := exs_at Wc 12 rfl
theorem ex_13 (Wc : Wx P w K mg) : (fun K => notFsts K (He.ga K "Book") ["dict"]) K = true := exs_at Wc 13 rfl
theorem ex_14 (Wc : Wx P w K mg) : (fun K => neIn K (He.ga K "Book") (He.ma K (He.ga K "Book") "__eq__")) K = true := exs_at Wc 14 rfl
theorem ex_15 (Wc : Wx P w K mg) : (stB (fun K => He.ga K "PARTS") PARTS_vs) K = true := exs_at Wc 15 rfl
theorem ex_16 (Wc : Wx P w K mg) : (excText fileP "BadNumber") K = true := exs_at Wc 16 rfl
theorem ex_17 (Wc : Wx P w K mg) : (excText fileP "BadMarks") K = true := exs_at Wc 17 rfl
theorem ex_18 (Wc : Wx P w K mg) : (excText fileP "BadRule") K = true := exs_at Wc 18 rfl
theorem ex_19 (Wc : Wx P w K mg) : (exmB "BadNumber" "BadRule" false) K = true := exs_at Wc 19 rfl
theorem ex_20 (Wc : Wx P w K mg) : (exmB "BadMarks" "BadRule" false) K = true := exs_at Wc 20 rfl
theorem ex_21 (Wc : Wx P w K mg) : (exmB "BadRule" "BadRule" true) K = true := exs_at Wc 21 rfl
theorem mtok_BadRule (Wc : Wx P w K mg) : ∀ x b, mt_BadRule x = some b → PySem.W.exmOne K (.ref ((clG w K) x)) (.ref (He.ga K "BadRule")) = some b := fun x b h => by
  unfold mt_BadRule at h
  split at h
  · cases h; exact (exmB_ok (ex_19 Wc))
  · cases h; exact (exmB_ok (ex_20 Wc))
  · cases h; exact (exmB_ok (ex_21 Wc))
  · cases h
theorem xfn_BadNumber (Wc : Wx P w K mg) : XFn P K (He.ga K "BadNumber") (He.fAd K ("BadNumber", some "__init__")) "BadNumber.__init__" (defArgs sx_BadNumber) (defBody sx_BadNumber) (defScope sx_BadNumber) (fdAt K ("BadNumber", some "__init__")) (codA K "BadNumber") (cellA K "BadNumber") := Wc.xfn 0 (d := ⟨"BadNumber", "BadNumber.__init__", defArgs sx_BadNumber, defBody sx_BadNumber, defScope sx_BadNumber⟩) rfl (ex_16 Wc)
theorem bd_BadNumber (Wc : Wx P w K mg) : Binds K (fdAt K ("BadNumber", some "__init__")) ["self"] [] := (xfn_BadNumber Wc).binds fun _ _ _ _ _ _ _ us hl => match us, hl with | [_], _ => rfl
theorem ok_BadNumber {base : Heap} (Wc : Wx P w K mg) : FnOk P w K mg base (L2.CX P w) 1 (He.fAd K ("BadNumber", some "__init__")) (fdAt K ("BadNumber", some "__init__")) ["self"] (spI0 ((clG w K) 3)) :=
  init0 (k := 0) (N := ["self", "__class__"]) (xfn_BadNumber Wc) (xcls_ok (ex_5 Wc)) ⟨NdefX.nscope_by (by decide +kernel), rfl, rfl, (fr_super Wc), fun _ => rfl, fun _ => rfl, fun _ => rfl, rfl, rfl, Wc.top⟩ rfl (fun A outer s H E hr => ⟨_, pe_str, fun _ _ _ h => h _⟩)
theorem xfn_BadMarks (Wc : Wx P w K mg) : XFn P K (He.ga K "BadMarks") (He.fAd K ("BadMarks", some "__init__")) "BadMarks.__init__" (defArgs sx_BadMarks) (defBody sx_BadMarks) (defScope sx_BadMarks) (fdAt K ("BadMarks", some "__init__")) (codA K "BadMarks") (cellA K "BadMarks") := Wc.xfn 1 (d := ⟨"BadMarks", "BadMarks.__init__", defArgs sx_BadMarks, defBody sx_BadMarks, defScope sx_BadMarks⟩) rfl (ex_17 Wc)
theorem bd_BadMarks (Wc : Wx P w K mg) : Binds K (fdAt K ("BadMarks", some "__init__")) ["self"] [] := (xfn_BadMarks Wc).binds fun _ _ _ _ _ _ _ us hl => match us, hl with | [_], _ => rfl
theorem ok_BadMarks {base : Heap} (Wc : Wx P w K mg) : FnOk P w K mg base (L2.CX P w) 1 (He.fAd K ("BadMarks", some "__init__")) (fdAt K ("BadMarks", some "__init__")) ["self"] (spI0 ((clG w K) 4)) :=
  init0 (k := 0) (N := ["self", "__class__"]) (xfn_BadMarks Wc) (xcls_ok (ex_7 Wc)) ⟨NdefX.nscope_by (by decide +kernel), rfl, rfl, (fr_super Wc), fun _ => rfl, fun _ => rfl, fun _ => rfl, rfl, rfl, Wc.top⟩ rfl (fun A outer s H E hr => ⟨_, pe_str, fun _ _ _ h => h _⟩)
theorem xfn_BadRule (Wc : Wx P w K mg) : XFn P K (He.ga K "BadRule") (He.fAd K ("BadRule", some "__init__")) "BadRule.__init__" (defArgs sx_BadRule) (defBody sx_BadRule) (defScope sx_BadRule) (fdAt K ("BadRule", some "__init__")) (codA K "BadRule") (cellA K "BadRule") := Wc.xfn 2 (d := ⟨"BadRule", "BadRule.__init__", defArgs sx_BadRule, defBody sx_BadRule, defScope sx_BadRule⟩) rfl (ex_18 Wc)
theorem bd_BadRule (Wc : Wx P w K mg) : Binds K (fdAt K ("BadRule", some "__init__")) ["self", "part"] [] := (xfn_BadRule Wc).binds fun _ _ _ _ _ _ _ us hl => match us, hl with | [_, _], _ => rfl
theorem ok_BadRule {base : Heap} (Wc : Wx P w K mg) : FnOk P w K mg base (L2.CX P w) 1 (He.fAd K ("BadRule", some "__init__")) (fdAt K ("BadRule", some "__init__")) ["self", "part"] (spI1 ((clG w K) 5) "part" (Showy K)) :=
  init1 (k := 0) (N := ["self", "part", "__class__"]) (xfn_BadRule Wc) (xcls_ok (ex_1 Wc)) ⟨NdefX.nscope_by (by decide +kernel), rfl, rfl, (fr_super Wc), fun _ => rfl, fun _ => rfl, fun _ => rfl, rfl, rfl, Wc.top⟩ rfl (noFld_ok (ex_12 Wc)) (fun A outer s H E hr => ⟨_, pe_joined (.cons pe_str (.cons (pe_show hr (pv 1)) (.cons pe_str .nil))), shown_parts (by decide) (by decide)⟩) (fun A outer s H E => pss_one (ps_ost (pv 0) (pv 1)))
theorem df_is_integer (Wc : Wx P w K mg) : FunD K "is_integer" "is_integer" (defArgs s_is_integer) (defBody s_is_integer) (defScope s_is_integer) [] [] (He.fAd K ("is_integer", none)) (fdAt K ("is_integer", none)) := Wc.def_ 0 (d := ⟨("is_integer", none), "is_integer", "is_integer", defArgs s_is_integer, defBody s_is_integer, defScope s_is_integer, [], []⟩) rfl
theorem sc_is_integer : FnScope N_is_integer P_is_integer (defScope s_is_integer) := ⟨rfl, rfl, rfl, by decide +kernel, rfl, by decide +kernel, by decide +kernel⟩
theorem bd_is_integer (Wc : Wx P w K mg) : Binds K (fdAt K ("is_integer", none)) P_is_integer [] := (df_is_integer Wc).bindsN fun _ _ _ _ _ _ us hl => match us, hl with | [_], _ => rfl
theorem df_is_from (Wc : Wx P w K mg) : FunD K "is_from" "is_from" (defArgs s_is_from) (defBody s_is_from) (defScope s_is_from) [] [] (He.fAd K ("is_from", none)) (fdAt K ("is_from", none)) := Wc.def_ 1 (d := ⟨("is_from", none), "is_from", "is_from", defArgs s_is_from, defBody s_is_from, defScope s_is_from, [], []⟩) rfl
theorem sc_is_from : FnScope N_is_from P_is_from (defScope s_is_from) := ⟨rfl, rfl, rfl, by decide +kernel, rfl, by decide +kernel, by decide +kernel⟩
theorem bd_is_from (Wc : Wx P w K mg) : Binds K (fdAt K ("is_from", none)) P_is_from [] := (df_is_from Wc).bindsN fun _ _ _ _ _ _ us hl => match us, hl with | [_, _, _], _ => rfl
theorem df_is_one_of (Wc : Wx P w K mg) : FunD K "is_one_of" "is_one_of" (defArgs s_is_one_of) (defBody s_is_one_of) (defScope s_is_one_of) [] [] (He.fAd K ("is_one_of", none)) (fdAt K ("is_one_of", none)) := Wc.def_ 2 (d := ⟨("is_one_of", none), "is_one_of", "is_one_of", defArgs s_is_one_of, defBody s_is_one_of, defScope s_is_one_of, [], []⟩) rfl
theorem sc_is_one_of : FnScope N_is_one_of P_is_one_of (defScope s_is_one_of) := ⟨rfl, rfl, rfl, by decide +kernel, rfl, by decide +kernel, by decide +kernel⟩
theorem bd_is_one_of (Wc : Wx P w K mg) : Binds K (fdAt K ("is_one_of", none)) P_is_one_of [] := (df_is_one_of Wc).bindsN fun _ _ _ _ _ _ us hl => match us, hl with | [_, _], _ => rfl
theorem df_are_marks (Wc : Wx P w K mg) : FunD K "are_marks" "are_marks" (defArgs s_are_marks) (defBody s_are_marks) (defScope s_are_marks) [] [] (He.fAd K ("are_marks", none)) (fdAt K ("are_marks", none)) := Wc.def_ 3 (d := ⟨("are_marks", none), "are_marks", "are_marks", defArgs s_are_marks, defBody s_are_marks, defScope s_are_marks, [], []⟩) rfl
theorem sc_are_marks : FnScope N_are_marks P_are_marks (defScope s_are_marks) := ⟨rfl, rfl, rfl, by decide +kernel, rfl, by decide +kernel, by decide +kernel⟩
theorem bd_are_marks (Wc : Wx P w K mg) : Binds K (fdAt K ("are_marks", none)) P_are_marks [] := (df_are_marks Wc).bindsN fun _ _ _ _ _ _ us hl => match us, hl with | [_], _ => rfl
theorem df_check_rule (Wc : Wx P w K mg) : FunD K "check_rule" "check_rule" (defArgs s_check_rule) (defBody s_check_rule) (defScope s_check_rule) [] [] (He.fAd K ("check_rule", none)) (fdAt K ("check_rule", none)) := Wc.def_ 4 (d := ⟨("check_rule", none), "check_rule", "check_rule", defArgs s_check_rule, defBody s_check_rule, defScope s_check_rule, [], []⟩) rfl
theorem sc_check_rule : FnScope N_check_rule P_check_rule (defScope s_check_rule) := ⟨rfl, rfl, rfl, by decide +kernel, rfl, by decide +kernel, by decide +kernel⟩
theorem bd_check_rule (Wc : Wx P w K mg) : Binds K (fdAt K ("check_rule", none)) P_check_rule [] := (df_check_rule Wc).bindsN fun _ _ _ _ _ _ us hl => match us, hl with | [_], _ => rfl
theorem df_Book_init (Wc : Wx P w K mg) : FunD K "__init__" "Book.__init__" (defArgs s_Book_init) (defBody s_Book_init) (defScope s_Book_init) [] [] (He.fAd K ("Book", some "__init__")) (fdAt K ("Book", some "__init__")) := Wc.def_ 5 (d := ⟨("Book", some "__init__"), "__init__", "Book.__init__", defArgs s_Book_init, defBody s_Book_init, defScope s_Book_init, [], []⟩) rfl
theorem sc_Book_init : FnScope N_Book_init P_Book_init (defScope s_Book_init) := ⟨rfl, rfl, rfl, by decide +kernel, rfl, by decide +kernel, by decide +kernel⟩
theorem bd_Book_init (Wc : Wx P w K mg) : Binds K (fdAt K ("Book", some "__init__")) P_Book_init [] := (df_Book_init Wc).bindsN fun _ _ _ _ _ _ us hl => match us, hl with | [_, _, _, _, _], _ => rfl
theorem df_Book_days (Wc : Wx P w K mg) : FunD K "days" "Book.days" (defArgs s_Book_days) (defBody s_Book_days) (defScope s_Book_days) [] [] (getA K "Book" "days") (fdOf K (getA K "Book" "days")) := Wc.getter 0 (d := ⟨"Book", "days", "Book.days", defArgs s_Book_days, defBody s_Book_days, defScope s_Book_days⟩) rfl
theorem sc_Book_days : FnScope N_Book_days P_Book_days (defScope s_Book_days) := ⟨rfl, rfl, rfl, by decide +kernel, rfl, by decide +kernel, by decide +kernel⟩
theorem bd_Book_days (Wc : Wx P w K mg) : Binds K (fdOf K (getA K "Book" "days")) P_Book_days [] := (df_Book_days Wc).bindsN fun _ _ _ _ _ _ us hl => match us, hl with | [_], _ => rfl
theorem df_Book_most (Wc : Wx P w K mg) : FunD K "most" "Book.most" (defArgs s_Book_most) (defBody s_Book_most) (defScope s_Book_most) [] [] (getA K "Book" "most") (fdOf K (getA K "Book" "most")) := Wc.getter 1 (d := ⟨"Book", "most", "Book.most", defArgs s_Book_most, defBody s_Book_most, defScope s_Book_most⟩) rfl
theorem sc_Book_most : FnScope N_Book_most P_Book_most (defScope s_Book_most) := ⟨rfl, rfl, rfl, by decide +kernel, rfl, by decide +kernel, by decide +kernel⟩
theorem bd_Book_most (Wc : Wx P w K mg) : Binds K (fdOf K (getA K "Book" "most")) P_Book_most [] := (df_Book_most Wc).bindsN fun _ _ _ _ _ _ us hl => match us, hl with | [_], _ => rfl
theorem df_Book_marks (Wc : Wx P w K mg) : FunD K "marks" "Book.marks" (defArgs s_Book_marks) (defBody s_Book_marks) (defScope s_Book_marks) [] [] (getA K "Book" "marks") (fdOf K (getA K "Book" "marks")) := Wc.getter 2 (d := ⟨"Book", "marks", "Book.marks", defArgs s_Book_marks, defBody s_Book_marks, defScope s_Book_marks⟩) rfl
theorem sc_Book_marks : FnScope N_Book_marks P_Book_marks (defScope s_Book_marks) := ⟨rfl, rfl, rfl, by decide +kernel, rfl, by decide +kernel, by decide +kernel⟩
theorem bd_Book_marks (Wc : Wx P w K mg) : Binds K (fdOf K (getA K "Book" "marks")) P_Book_marks [] := (df_Book_marks Wc).bindsN fun _ _ _ _ _ _ us hl => match us, hl with | [_], _ => rfl
theorem df_Book_rule (Wc : Wx P w K mg) : FunD K "rule" "Book.rule" (defArgs s_Book_rule) (defBody s_Book_rule) (defScope s_Book_rule) [] [] (getA K "Book" "rule") (fdOf K (getA K "Book" "rule")) := Wc.getter 3 (d := ⟨"Book", "rule", "Book.rule", defArgs s_Book_rule, defBody s_Book_rule, defScope s_Book_rule⟩) rfl
theorem sc_Book_rule : FnScope N_Book_rule P_Book_rule (defScope s_Book_rule) := ⟨rfl, rfl, rfl, by decide +kernel, rfl, by decide +kernel, by decide +kernel⟩
theorem bd_Book_rule (Wc : Wx P w K mg) : Binds K (fdOf K (getA K "Book" "rule")) P_Book_rule [] := (df_Book_rule Wc).bindsN fun _ _ _ _ _ _ us hl => match us, hl with | [_], _ => rfl
theorem df_Book_eq (Wc : Wx P w K mg) : FunD K "__eq__" "Book.__eq__" (defArgs s_Book_eq) (defBody s_Book_eq) (defScope s_Book_eq) [] [] (He.fAd K ("Book", some "__eq__")) (fdAt K ("Book", some "__eq__")) := Wc.def_ 6 (d := ⟨("Book", some "__eq__"), "__eq__", "Book.__eq__", defArgs s_Book_eq, defBody s_Book_eq, defScope s_Book_eq, [], []⟩) rfl
theorem sc_Book_eq : FnScope N_Book_eq P_Book_eq (defScope s_Book_eq) := ⟨rfl, rfl, rfl, by decide +kernel, rfl, by decide +kernel, by decide +kernel⟩
theorem bd_Book_eq (Wc : Wx P w K mg) : Binds K (fdAt K ("Book", some "__eq__")) P_Book_eq [] := (df_Book_eq Wc).bindsN fun _ _ _ _ _ _ us hl => match us, hl with | [_, _], _ => rfl
theorem df_Book_turned (Wc : Wx P w K mg) : FunD K "turned" "Book.turned" (defArgs s_Book_turned) (defBody s_Book_turned) (defScope s_Book_turned) [] [] (He.fAd K ("Book", some "turned")) (fdAt K ("Book", some "turned")) := Wc.def_ 7 (d := ⟨("Book", some "turned"), "turned", "Book.turned", defArgs s_Book_turned, defBody s_Book_turned, defScope s_Book_turned, [], []⟩) rfl
theorem sc_Book_turned : FnScope N_Book_turned P_Book_turned (defScope s_Book_turned) := ⟨rfl, rfl, rfl, by decide +kernel, rfl, by decide +kernel, by decide +kernel⟩
theorem bd_Book_turned (Wc : Wx P w K mg) : Binds K (fdAt K ("Book", some "turned")) P_Book_turned [] := (df_Book_turned Wc).bindsN fun _ _ _ _ _ _ us hl => match us, hl with | [_, _, _], _ => rfl
theorem df__law_draws (Wc : Wx P w K mg) : FunD K "_law_draws" "_law_draws" (defArgs s__law_draws) (defBody s__law_draws) (defScope s__law_draws) [] [] (He.fAd K ("_law_draws", none)) (fdAt K ("_law_draws", none)) := Wc.def_ 8 (d := ⟨("_law_draws", none), "_law_draws", "_law_draws", defArgs s__law_draws, defBody s__law_draws, defScope s__law_draws, [], []⟩) rfl
theorem sc__law_draws : FnScope N__law_draws P__law_draws (defScope s__law_draws) := ⟨rfl, rfl, rfl, by decide +kernel, rfl, by decide +kernel, by decide +kernel⟩
theorem bd__law_draws (Wc : Wx P w K mg) : Binds K (fdAt K ("_law_draws", none)) P__law_draws [] := (df__law_draws Wc).bindsN fun _ _ _ _ _ _ us hl => match us, hl with | [_], _ => rfl
theorem df__law_pick (Wc : Wx P w K mg) : FunD K "_law_pick" "_law_pick" (defArgs s__law_pick) (defBody s__law_pick) (defScope s__law_pick) [] [] (He.fAd K ("_law_pick", none)) (fdAt K ("_law_pick", none)) := Wc.def_ 9 (d := ⟨("_law_pick", none), "_law_pick", "_law_pick", defArgs s__law_pick, defBody s__law_pick, defScope s__law_pick, [], []⟩) rfl
theorem sc__law_pick : FnScope N__law_pick P__law_pick (defScope s__law_pick) := ⟨rfl, rfl, rfl, by decide +kernel, rfl, by decide +kernel, by decide +kernel⟩
theorem bd__law_pick (Wc : Wx P w K mg) : Binds K (fdAt K ("_law_pick", none)) P__law_pick [] := (df__law_pick Wc).bindsN fun _ _ _ _ _ _ us hl => match us, hl with | [_, _], _ => rfl
theorem df__law_parts (Wc : Wx P w K mg) : FunD K "_law_parts" "_law_parts" (defArgs s__law_parts) (defBody s__law_parts) (defScope s__law_parts) [] [] (He.fAd K ("_law_parts", none)) (fdAt K ("_law_parts", none)) := Wc.def_ 10 (d := ⟨("_law_parts", none), "_law_parts", "_law_parts", defArgs s__law_parts, defBody s__law_parts, defScope s__law_parts, [], []⟩) rfl
theorem sc__law_parts : FnScope N__law_parts P__law_parts (defScope s__law_parts) := ⟨rfl, rfl, rfl, by decide +kernel, rfl, by decide +kernel, by decide +kernel⟩
theorem bd__law_parts (Wc : Wx P w K mg) : Binds K (fdAt K ("_law_parts", none)) P__law_parts [] := (df__law_parts Wc).bindsN fun _ _ _ _ _ _ us hl => match us, hl with | [], _ => rfl
theorem df__law_marks (Wc : Wx P w K mg) : FunD K "_law_marks" "_law_marks" (defArgs s__law_marks) (defBody s__law_marks) (defScope s__law_marks) [] [] (He.fAd K ("_law_marks", none)) (fdAt K ("_law_marks", none)) := Wc.def_ 11 (d := ⟨("_law_marks", none), "_law_marks", "_law_marks", defArgs s__law_marks, defBody s__law_marks, defScope s__law_marks, [], []⟩) rfl
theorem sc__law_marks : FnScope N__law_marks P__law_marks (defScope s__law_marks) := ⟨rfl, rfl, rfl, by decide +kernel, rfl, by decide +kernel, by decide +kernel⟩
theorem bd__law_marks (Wc : Wx P w K mg) : Binds K (fdAt K ("_law_marks", none)) P__law_marks [] := (df__law_marks Wc).bindsN fun _ _ _ _ _ _ us hl => match us, hl with | [], _ => rfl
theorem df__law_rule (Wc : Wx P w K mg) : FunD K "_law_rule" "_law_rule" (defArgs s__law_rule) (defBody s__law_rule) (defScope s__law_rule) [] [] (He.fAd K ("_law_rule", none)) (fdAt K ("_law_rule", none)) := Wc.def_ 12 (d := ⟨("_law_rule", none), "_law_rule", "_law_rule", defArgs s__law_rule, defBody s__law_rule, defScope s__law_rule, [], []⟩) rfl
theorem sc__law_rule : FnScope N__law_rule P__law_rule (defScope s__law_rule) := ⟨rfl, rfl, rfl, by decide +kernel, rfl, by decide +kernel, by decide +kernel⟩
theorem bd__law_rule (Wc : Wx P w K mg) : Binds K (fdAt K ("_law_rule", none)) P__law_rule [] := (df__law_rule Wc).bindsN fun _ _ _ _ _ _ us hl => match us, hl with | [_], _ => rfl
theorem df__law_drawn (Wc : Wx P w K mg) : FunD K "_law_drawn" "_law_drawn" (defArgs s__law_drawn) (defBody s__law_drawn) (defScope s__law_drawn) [] [] (He.fAd K ("_law_drawn", none)) (fdAt K ("_law_drawn", none)) := Wc.def_ 13 (d := ⟨("_law_drawn", none), "_law_drawn", "_law_drawn", defArgs s__law_drawn, defBody s__law_drawn, defScope s__law_drawn, [], []⟩) rfl
theorem sc__law_drawn : FnScope N__law_drawn P__law_drawn (defScope s__law_drawn) := ⟨rfl, rfl, rfl, by decide +kernel, rfl, by decide +kernel, by decide +kernel⟩
theorem bd__law_drawn (Wc : Wx P w K mg) : Binds K (fdAt K ("_law_drawn", none)) P__law_drawn [] := (df__law_drawn Wc).bindsN fun _ _ _ _ _ _ us hl => match us, hl with | [_, _, _, _], _ => rfl
theorem df__law_made (Wc : Wx P w K mg) : FunD K "_law_made" "_law_made" (defArgs s__law_made) (defBody s__law_made) (defScope s__law_made) [] [] (He.fAd K ("_law_made", none)) (fdAt K ("_law_made", none)) := Wc.def_ 14 (d := ⟨("_law_made", none), "_law_made", "_law_made", defArgs s__law_made, defBody s__law_made, defScope s__law_made, [], []⟩) rfl
theorem sc__law_made : FnScope N__law_made P__law_made (defScope s__law_made) := ⟨rfl, rfl, rfl, by decide +kernel, rfl, by decide +kernel, by decide +kernel⟩
theorem bd__law_made (Wc : Wx P w K mg) : Binds K (fdAt K ("_law_made", none)) P__law_made [] := (df__law_made Wc).bindsN fun _ _ _ _ _ _ us hl => match us, hl with | [_], _ => rfl
theorem df__law_told (Wc : Wx P w K mg) : FunD K "_law_told" "_law_told" (defArgs s__law_told) (defBody s__law_told) (defScope s__law_told) [] [] (He.fAd K ("_law_told", none)) (fdAt K ("_law_told", none)) := Wc.def_ 15 (d := ⟨("_law_told", none), "_law_told", "_law_told", defArgs s__law_told, defBody s__law_told, defScope s__law_told, [], []⟩) rfl
theorem sc__law_told : FnScope N__law_told P__law_told (defScope s__law_told) := ⟨rfl, rfl, rfl, by decide +kernel, rfl, by decide +kernel, by decide +kernel⟩
theorem bd__law_told (Wc : Wx P w K mg) : Binds K (fdAt K ("_law_told", none)) P__law_told [] := (df__law_told Wc).bindsN fun _ _ _ _ _ _ us hl => match us, hl with | [_, _, _], _ => rfl
theorem df__law_mark (Wc : Wx P w K mg) : FunD K "_law_mark" "_law_mark" (defArgs s__law_mark) (defBody s__law_mark) (defScope s__law_mark) [] [] (He.fAd K ("_law_mark", none)) (fdAt K ("_law_mark", none)) := Wc.def_ 16 (d := ⟨("_law_mark", none), "_law_mark", "_law_mark", defArgs s__law_mark, defBody s__law_mark, defScope s__law_mark, [], []⟩) rfl
theorem sc__law_mark : FnScope N__law_mark P__law_mark (defScope s__law_mark) := ⟨rfl, rfl, rfl, by decide +kernel, rfl, by decide +kernel, by decide +kernel⟩
theorem bd__law_mark (Wc : Wx P w K mg) : Binds K (fdAt K ("_law_mark", none)) P__law_mark [] := (df__law_mark Wc).bindsN fun _ _ _ _ _ _ us hl => match us, hl with | [_], _ => rfl
theorem df_law (Wc : Wx P w K mg) : FunD K "law" "law" (defArgs s_law) (defBody s_law) (defScope s_law) [] [] (He.fAd K ("law", none)) (fdAt K ("law", none)) := Wc.def_ 17 (d := ⟨("law", none), "law", "law", defArgs s_law, defBody s_law, defScope s_law, [], []⟩) rfl
theorem sc_law : FnScope N_law P_law (defScope s_law) := ⟨rfl, rfl, rfl, by decide +kernel, rfl, by decide +kernel, by decide +kernel⟩
theorem bd_law (Wc : Wx P w K mg) : Binds K (fdAt K ("law", none)) P_law [] := (df_law Wc).bindsN fun _ _ _ _ _ _ us hl => match us, hl with | [_], _ => rfl

theorem bo_is_integer {base : Heap} (Wc : Wx P w K mg) (cdv : Value) (A : Around) (outer : List Env) (s : Shared) (H : Hp) (E : XK) (hr : Room 0 (A.deeper (envOfC "is_integer" (defScope s_is_integer) s.heap.objs.size (He.fAd K ("is_integer", none)) cdv))) :
    USs (cxOf (L2.CX P w) P w K mg base N_is_integer "is_integer" (defScope s_is_integer) (He.fAd K ("is_integer", none)) cdv A outer s H E) (clG w K) (WD E) (defBody s_is_integer) den_is_integer := by
  exact (s_one (s_ret (u_and (u_isi (.ty "int") (tabB_ok tab_int) rfl (fr_isinstance Wc) (u_v 0) (pe_bltn rfl (fr_int Wc) (by decide +kernel) rfl)) (u_one (u_not (u_isi (.ty "bool") (tabB_ok tab_bool) rfl (fr_isinstance Wc) (u_v 0) (pe_bltn rfl (fr_bool Wc) (by decide +kernel) rfl)))))))
theorem ok_is_integer {base : Heap} (Wc : Wx P w K mg) : FnOk P w K mg base (L2.CX P w) 1 (He.fAd K ("is_integer", none)) (fdAt K ("is_integer", none)) P_is_integer (spD K (clG w K) 1 F_is_integer) := fn_D (df_is_integer Wc) sc_is_integer (by decide) fun cdv A outer s H E hr => bo_is_integer Wc cdv A outer s H E hr

theorem bo_is_from {base : Heap} (Wc : Wx P w K mg) (cdv : Value) (A : Around) (outer : List Env) (s : Shared) (H : Hp) (E : XK) (hr : Room 1 (A.deeper (envOfC "is_from" (defScope s_is_from) s.heap.objs.size (He.fAd K ("is_from", none)) cdv))) :
    USs (cxOf (L2.CX P w) P w K mg base N_is_from "is_from" (defScope s_is_from) (He.fAd K ("is_from", none)) cdv A outer s H E) (clG w K) (WD E) (defBody s_is_from) den_is_from := by
  exact (s_one (s_ret (u_and (u_call isP (ok_is_integer Wc) (hr.mono (by decide)) takesD rfl (gl_is_integer Wc) (df_is_integer Wc).kp (bd_is_integer Wc) (a_cons (u_v 0) a_nil)) (u_one (u_chain op_leAny op_leAny d_cmp d_cmp (u_v 1) (u_v 0) (u_v 2))))))
theorem ok_is_from {base : Heap} (Wc : Wx P w K mg) : FnOk P w K mg base (L2.CX P w) 2 (He.fAd K ("is_from", none)) (fdAt K ("is_from", none)) P_is_from (spD K (clG w K) 3 F_is_from) := fn_D (df_is_from Wc) sc_is_from (by decide) fun cdv A outer s H E hr => bo_is_from Wc cdv A outer s H E hr

theorem bo_is_one_of {base : Heap} (Wc : Wx P w K mg) (cdv : Value) (A : Around) (outer : List Env) (s : Shared) (H : Hp) (E : XK) (hr : Room 0 (A.deeper (envOfC "is_one_of" (defScope s_is_one_of) s.heap.objs.size (He.fAd K ("is_one_of", none)) cdv))) :
    USs (cxOf (L2.CX P w) P w K mg base N_is_one_of "is_one_of" (defScope s_is_one_of) (He.fAd K ("is_one_of", none)) cdv A outer s H E) (clG w K) (WD E) (defBody s_is_one_of) den_is_one_of := by
  exact (s_one (s_ret (u_and (u_isi (.ty "str") (tabB_ok tab_str) rfl (fr_isinstance Wc) (u_v 0) (pe_bltn rfl (fr_str Wc) (by decide +kernel) rfl)) (u_one (u_cmp (op_inAll (room65 hr)) d_inA (u_v 0) (u_v 1))))))
theorem ok_is_one_of {base : Heap} (Wc : Wx P w K mg) : FnOk P w K mg base (L2.CX P w) 1 (He.fAd K ("is_one_of", none)) (fdAt K ("is_one_of", none)) P_is_one_of (spD K (clG w K) 2 F_is_one_of) := fn_D (df_is_one_of Wc) sc_is_one_of (by decide) fun cdv A outer s H E hr => bo_is_one_of Wc cdv A outer s H E hr

theorem bo_are_marks {base : Heap} (Wc : Wx P w K mg) (cdv : Value) (A : Around) (outer : List Env) (s : Shared) (H : Hp) (E : XK) (hr : Room 1 (A.deeper (envOfC "are_marks" (defScope s_are_marks) s.heap.objs.size (He.fAd K ("are_marks", none)) cdv))) :
    USs (cxOf (L2.CX P w) P w K mg base N_are_marks "are_marks" (defScope s_are_marks) (He.fAd K ("are_marks", none)) cdv A outer s H E) (clG w K) (WD E) (defBody s_are_marks) den_are_marks := by
  exact (s_cons (s_if (b_w (w_or (b_not (b_val (u_isi (.ty "tuple") (tabB_ok tab_tuple) rfl (fr_isinstance Wc) (u_v 0) (pe_bltn rfl (fr_tuple Wc) (by decide +kernel) rfl)))) (w_or1 (b_not (b_val (u_B (cr_all rfl) c_all rfl (fr_all Wc) (by decide +kernel) (a_cons (u_lc (own := [("mark", 1)]) [1] rfl (by decide) rfl sc_are_marks.nd (i_tup (u_v 0)) (blkOk_by (N := N_are_marks) (sc := defScope s_are_marks) (by decide +kernel)) (fun _ _ _ _ _ => (pg_name (i := 1) sc_are_marks.nd rfl (by first | exact .inl rfl | exact .inr rfl))) (fun _ _ _ _ _ => ts_nil) (fun _ _ _ _ _ => (u_call isP (ok_is_one_of Wc) (hr.mono (by decide)) Dl.takes0 rfl (gl_is_one_of Wc) (df_is_one_of Wc).kp (bd_is_one_of Wc) (a_cons (u_v 1) (a_cons (u_gv Wc.toWz.toWl (ex_0 Wc)) a_nil))))) a_nil))))))) (s_one (s_ret (u_c pe_bl (fun _ _ => rfl)))) s_nil)
  (s_one (s_ret (u_B (cr_all rfl) c_all rfl (fr_all Wc) (by decide +kernel) (a_cons (u_lc (own := [("one", 2), ("other", 3)]) [2, 3] rfl (by decide) rfl sc_are_marks.nd (i_zip rfl (fr_zip Wc) (u_v 0) (u_slice (u_v 0) (o_some (u_c pe_int (fun _ _ => rfl))) o_none)) (blkOk_by (N := N_are_marks) (sc := defScope s_are_marks) (by decide +kernel)) (fun _ _ _ _ _ => (pg_tup rfl (pgs_cons (pg_name (i := 2) sc_are_marks.nd rfl (by first | exact .inl rfl | exact .inr rfl)) (pgs_cons (pg_name (i := 3) sc_are_marks.nd rfl (by first | exact .inl rfl | exact .inr rfl)) pgs_nil)))) (fun _ _ _ _ _ => ts_nil) (fun _ _ _ _ _ => (u_cmp op_ltAny d_cmp (u_v 2) (u_v 3)))) a_nil)))))
theorem ok_are_marks {base : Heap} (Wc : Wx P w K mg) : FnOk P w K mg base (L2.CX P w) 2 (He.fAd K ("are_marks", none)) (fdAt K ("are_marks", none)) P_are_marks (spD K (clG w K) 1 F_are_marks) := fn_D (df_are_marks Wc) sc_are_marks (by decide) fun cdv A outer s H E hr => bo_are_marks Wc cdv A outer s H E hr

theorem bo_check_rule {base : Heap} (Wc : Wx P w K mg) (cdv : Value) (A : Around) (outer : List Env) (s : Shared) (H : Hp) (E : XK) (hr : Room 2 (A.deeper (envOfC "check_rule" (defScope s_check_rule) s.heap.objs.size (He.fAd K ("check_rule", none)) cdv))) :
    USs (cxOf (L2.CX P w) P w K mg base N_check_rule "check_rule" (defScope s_check_rule) (He.fAd K ("check_rule", none)) cdv A outer s H E) (clG w K) (WD E) (defBody s_check_rule) den_check_rule := by
  obtain ⟨o_PARTS, es_PARTS, ep_PARTS, kvs_PARTS, us_PARTS, st_PARTS, sr_PARTS, sl_PARTS⟩ := stat_PARTS (P := P) Wc
  exact (s_cons (s_if (b_w (w_or (b_not (b_val (u_isi (.ty "dict") (tabB_ok tab_dict) rfl (fr_isinstance Wc) (u_v 0) (pe_bltn rfl (fr_dict Wc) (by decide +kernel) rfl)))) (w_or1 (b_cmp (op_neAll (room65 hr)) d_neA (u_B call_len' c_len rfl (fr_len Wc) PySem.boot_len (a_cons (u_v 0) a_nil)) (u_lenK' st_PARTS sl_PARTS rfl (fr_len Wc) (pe_glob rfl (gl_PARTS Wc) rfl)))))) (s_one (s_raise1 (c := 5) show_chk (xcls_ok (ex_1 Wc)).oex (made_find (ex_2 Wc)) (made_type (ex_2 Wc)) (ok_BadRule Wc) (hr.mono (by decide)) (bd_BadRule Wc) rfl takesD passes_never rfl (gl_BadRule Wc) (u_c pe_str (fun _ _ => rfl)))) s_nil)
  (s_cons (s_if (b_not (b_val (u_B (cr_all rfl) c_all rfl (fr_all Wc) (by decide +kernel) (a_cons (u_lcK (own := [("part", 1)]) [1] rfl (by decide) rfl sc_check_rule.nd (u_v 0) (blkOk_by (N := N_check_rule) (sc := defScope s_check_rule) (by decide +kernel)) (fun _ _ _ _ _ => (pg_name (i := 1) sc_check_rule.nd rfl (by first | exact .inl rfl | exact .inr rfl))) (fun _ _ _ _ _ => ts_nil) (fun _ _ _ _ _ => (u_call isP (ok_is_one_of Wc) (hr.mono (by decide)) Dl.takes0 rfl (gl_is_one_of Wc) (df_is_one_of Wc).kp (bd_is_one_of Wc) (a_cons (u_v 1) (a_cons (u_listK st_PARTS sr_PARTS rfl rfl (fr_list Wc) (pe_glob rfl (gl_PARTS Wc) rfl)) a_nil))))) a_nil)))) (s_one (s_raise1 (c := 5) show_chk (xcls_ok (ex_1 Wc)).oex (made_find (ex_2 Wc)) (made_type (ex_2 Wc)) (ok_BadRule Wc) (hr.mono (by decide)) (bd_BadRule Wc) rfl takesD passes_never rfl (gl_BadRule Wc) (u_c pe_str (fun _ _ => rfl)))) s_nil)
  (s_one (s_for (passes_of rfl) rfl (i_keysK st_PARTS sr_PARTS (pe_glob rfl (gl_PARTS Wc) rfl)) (pg_name (i := 1) sc_check_rule.nd rfl (by first | exact .inl rfl | exact .inr rfl)) (s_one (s_if (b_not (b_val (u_call isP (ok_is_one_of Wc) (hr.mono (by decide)) takesD rfl (gl_is_one_of Wc) (df_is_one_of Wc).kp (bd_is_one_of Wc) (a_cons (u_itemA (room1 hr) (u_v 0) (u_v 1)) (a_cons (u_ixK st_PARTS sr_PARTS (pe_glob rfl (gl_PARTS Wc) rfl) (u_v 1)) a_nil))))) (s_one (s_raise1 (c := 5) show_chk (xcls_ok (ex_1 Wc)).oex (made_find (ex_2 Wc)) (made_type (ex_2 Wc)) (ok_BadRule Wc) (hr.mono (by decide)) (bd_BadRule Wc) rfl takesD passes_never rfl (gl_BadRule Wc) (u_v 1))) s_nil))))))
theorem ok_check_rule {base : Heap} (Wc : Wx P w K mg) : FnOk P w K mg base (L2.CX P w) 3 (He.fAd K ("check_rule", none)) (fdAt K ("check_rule", none)) P_check_rule (spD K (clG w K) 1 F_check_rule) := fn_D (df_check_rule Wc) sc_check_rule (by decide) fun cdv A outer s H E hr => bo_check_rule Wc cdv A outer s H E hr

theorem bo_Book_init {base : Heap} (Wc : Wx P w K mg) (cdv : Value) (A : Around) (outer : List Env) (s : Shared) (H : Hp) (E : XK) (hr : Room 3 (A.deeper (envOfC "Book.__init__" (defScope s_Book_init) s.heap.objs.size (He.fAd K ("Book", some "__init__")) cdv))) :
    USs (cxOf (L2.CX P w) P w K mg base N_Book_init "Book.__init__" (defScope s_Book_init) (He.fAd K ("Book", some "__init__")) cdv A outer s H E) (clG w K) (WD E) (defBody s_Book_init) den_Book_init := by
  obtain ⟨o_PARTS, es_PARTS, ep_PARTS, kvs_PARTS, us_PARTS, st_PARTS, sr_PARTS, sl_PARTS⟩ := stat_PARTS (P := P) Wc
  exact (s_cons (s_if (b_w (w_or (b_not (b_val (u_call isP (ok_is_from Wc) (hr.mono (by decide)) takesD rfl (gl_is_from Wc) (df_is_from Wc).kp (bd_is_from Wc) (a_cons (u_v 1) (a_cons (u_c pe_int (fun _ _ => rfl)) (a_cons (u_gv Wc.toWz.toWl (ex_3 Wc)) a_nil)))))) (w_or1 (b_not (b_val (u_call isP (ok_is_from Wc) (hr.mono (by decide)) takesD rfl (gl_is_from Wc) (df_is_from Wc).kp (bd_is_from Wc) (a_cons (u_v 2) (a_cons (u_c pe_int (fun _ _ => rfl)) (a_cons (u_gv Wc.toWz.toWl (ex_4 Wc)) a_nil))))))))) (s_one (s_raise0 (c := 3) (xcls_ok (ex_5 Wc)).oex (made_find (ex_6 Wc)) (made_type (ex_6 Wc)) (ok_BadNumber Wc) (hr.mono (by decide)) (bd_BadNumber Wc) rfl rfl takesD passes_never rfl (gl_BadNumber Wc))) s_nil)
  (s_cons (s_if (b_not (b_val (u_call isP (ok_are_marks Wc) (hr.mono (by decide)) takesD rfl (gl_are_marks Wc) (df_are_marks Wc).kp (bd_are_marks Wc) (a_cons (u_v 3) a_nil)))) (s_one (s_raise0 (c := 4) (xcls_ok (ex_7 Wc)).oex (made_find (ex_8 Wc)) (made_type (ex_8 Wc)) (ok_BadMarks Wc) (hr.mono (by decide)) (bd_BadMarks Wc) rfl rfl takesD passes_never rfl (gl_BadMarks Wc))) s_nil)
  (s_cons (s_expr (u_call isQ (ok_check_rule Wc) (hr.mono (by decide)) takesD rfl (gl_check_rule Wc) (df_check_rule Wc).kp (bd_check_rule Wc) (a_cons (u_v 4) a_nil)))
  (s_cons (s_setF (c := 0) (cl_Book Wc) (na_Book_many_days Wc) (u_v 0) (u_v 1))
  (s_cons (s_setF (c := 0) (cl_Book Wc) (na_Book_cap Wc) (u_v 0) (u_v 2))
  (s_cons (s_setF (c := 0) (cl_Book Wc) (na_Book_words Wc) (u_v 0) (u_v 3))
  (s_one (s_setF (c := 0) (cl_Book Wc) (na_Book_parts Wc) (u_v 0) (u_dc (own := [("part", 5)]) [5] rfl (by decide) rfl sc_Book_init.nd (i_keysK st_PARTS sr_PARTS (pe_glob rfl (gl_PARTS Wc) rfl)) (blkOk_by (N := N_Book_init) (sc := defScope s_Book_init) (by decide +kernel)) (fun _ _ _ _ _ => (pg_name (i := 5) sc_Book_init.nd rfl (by first | exact .inl rfl | exact .inr rfl))) (fun _ _ _ _ _ => ts_nil) (fun _ _ _ _ _ => (u_v 5)) (fun _ _ _ _ _ => (u_itemA (room1 hr) (u_v 4) (u_v 5))))))))))))
theorem ok_Book_init {base : Heap} (Wc : Wx P w K mg) : FnOk P w K mg base (L2.CX P w) 4 (He.fAd K ("Book", some "__init__")) (fdAt K ("Book", some "__init__")) P_Book_init (spD K (clG w K) 5 F_Book_init) := fn_D (df_Book_init Wc) sc_Book_init (by decide) fun cdv A outer s H E hr => bo_Book_init Wc cdv A outer s H E hr

theorem bo_Book_days {base : Heap} (Wc : Wx P w K mg) (cdv : Value) (A : Around) (outer : List Env) (s : Shared) (H : Hp) (E : XK) (hr : Room 0 (A.deeper (envOfC "Book.days" (defScope s_Book_days) s.heap.objs.size (getA K "Book" "days") cdv))) :
    USs (cxOf (L2.CX P w) P w K mg base N_Book_days "Book.days" (defScope s_Book_days) (getA K "Book" "days") cdv A outer s H E) (clG w K) (WD E) (defBody s_Book_days) den_Book_days := by
  exact (s_one (s_ret (u_attr (c := 0) (cl_Book Wc) (na_Book_many_days Wc) (u_v 0))))
theorem ok_Book_days {base : Heap} (Wc : Wx P w K mg) : FnOk P w K mg base (L2.CX P w) 1 (getA K "Book" "days") (fdOf K (getA K "Book" "days")) P_Book_days (spD K (clG w K) 1 F_Book_days) := fn_D (df_Book_days Wc) sc_Book_days (by decide) fun cdv A outer s H E hr => bo_Book_days Wc cdv A outer s H E hr

theorem bo_Book_most {base : Heap} (Wc : Wx P w K mg) (cdv : Value) (A : Around) (outer : List Env) (s : Shared) (H : Hp) (E : XK) (hr : Room 0 (A.deeper (envOfC "Book.most" (defScope s_Book_most) s.heap.objs.size (getA K "Book" "most") cdv))) :
    USs (cxOf (L2.CX P w) P w K mg base N_Book_most "Book.most" (defScope s_Book_most) (getA K "Book" "most") cdv A outer s H E) (clG w K) (WD E) (defBody s_Book_most) den_Book_most := by
  exact (s_one (s_ret (u_attr (c := 0) (cl_Book Wc) (na_Book_cap Wc) (u_v 0))))
theorem ok_Book_most {base : Heap} (Wc : Wx P w K mg) : FnOk P w K mg base (L2.CX P w) 1 (getA K "Book" "most") (fdOf K (getA K "Book" "most")) P_Book_most (spD K (clG w K) 1 F_Book_most) := fn_D (df_Book_most Wc) sc_Book_most (by decide) fun cdv A outer s H E hr => bo_Book_most Wc cdv A outer s H E hr

theorem bo_Book_marks {base : Heap} (Wc : Wx P w K mg) (cdv : Value) (A : Around) (outer : List Env) (s : Shared) (H : Hp) (E : XK) (hr : Room 0 (A.deeper (envOfC "Book.marks" (defScope s_Book_marks) s.heap.objs.size (getA K "Book" "marks") cdv))) :
    USs (cxOf (L2.CX P w) P w K mg base N_Book_marks "Book.marks" (defScope s_Book_marks) (getA K "Book" "marks") cdv A outer s H E) (clG w K) (WD E) (defBody s_Book_marks) den_Book_marks := by
  exact (s_one (s_ret (u_attr (c := 0) (cl_Book Wc) (na_Book_words Wc) (u_v 0))))
theorem ok_Book_marks {base : Heap} (Wc : Wx P w K mg) : FnOk P w K mg base (L2.CX P w) 1 (getA K "Book" "marks") (fdOf K (getA K "Book" "marks")) P_Book_marks (spD K (clG w K) 1 F_Book_marks) := fn_D (df_Book_marks Wc) sc_Book_marks (by decide) fun cdv A outer s H E hr => bo_Book_marks Wc cdv A outer s H E hr

theorem bo_Book_rule {base : Heap} (Wc : Wx P w K mg) (cdv : Value) (A : Around) (outer : List Env) (s : Shared) (H : Hp) (E : XK) (hr : Room 0 (A.deeper (envOfC "Book.rule" (defScope s_Book_rule) s.heap.objs.size (getA K "Book" "rule") cdv))) :
    USs (cxOf (L2.CX P w) P w K mg base N_Book_rule "Book.rule" (defScope s_Book_rule) (getA K "Book" "rule") cdv A outer s H E) (clG w K) (WD E) (defBody s_Book_rule) den_Book_rule := by
  exact (s_one (s_ret (u_dictC rfl (fr_dict Wc) (by decide +kernel) (a_cons (u_attr (c := 0) (cl_Book Wc) (na_Book_parts Wc) (u_v 0)) a_nil))))
theorem ok_Book_rule {base : Heap} (Wc : Wx P w K mg) : FnOk P w K mg base (L2.CX P w) 1 (getA K "Book" "rule") (fdOf K (getA K "Book" "rule")) P_Book_rule (spD K (clG w K) 1 F_Book_rule) := fn_D (df_Book_rule Wc) sc_Book_rule (by decide) fun cdv A outer s H E hr => bo_Book_rule Wc cdv A outer s H E hr

theorem bo_Book_eq {base : Heap} (Wc : Wx P w K mg) (cdv : Value) (A : Around) (outer : List Env) (s : Shared) (H : Hp) (E : XK) (hr : Room 0 (A.deeper (envOfC "Book.__eq__" (defScope s_Book_eq) s.heap.objs.size (He.fAd K ("Book", some "__eq__")) cdv))) :
    USs (cxOf (L2.CX P w) P w K mg base N_Book_eq "Book.__eq__" (defScope s_Book_eq) (He.fAd K ("Book", some "__eq__")) cdv A outer s H E) (clG w K) (WD E) (defBody s_Book_eq) den_Book_eq := by
  exact (s_cons (s_if (b_w (w_or (b_not (b_val (u_isi (.own _) (tabOL_ok (c := 0) (isi_ok (cl_Book Wc) (ex_9 Wc)) (ex_10 Wc)) rfl (fr_isinstance Wc) (u_v 1) (pe_glob rfl (gl_Book Wc) rfl)))) (w_or (b_cmp (op_neAll (room65 hr)) d_neA (u_attr (c := 0) (cl_Book Wc) (na_Book_many_days Wc) (u_v 0)) (u_attr (c := 0) (cl_Book Wc) (na_Book_many_days Wc) (u_v 1))) (w_or1 (b_cmp (op_neAll (room65 hr)) d_neA (u_attr (c := 0) (cl_Book Wc) (na_Book_cap Wc) (u_v 0)) (u_attr (c := 0) (cl_Book Wc) (na_Book_cap Wc) (u_v 1))))))) (s_one (s_ret (u_c pe_bl (fun _ _ => rfl)))) s_nil)
  (s_one (s_ret (u_and (u_cmp (op_eqAll (room65 hr)) d_eqA (u_attr (c := 0) (cl_Book Wc) (na_Book_words Wc) (u_v 0)) (u_attr (c := 0) (cl_Book Wc) (na_Book_words Wc) (u_v 1))) (u_one (u_cmp (op_eqAll (room65 hr)) d_eqA (u_attr (c := 0) (cl_Book Wc) (na_Book_parts Wc) (u_v 0)) (u_attr (c := 0) (cl_Book Wc) (na_Book_parts Wc) (u_v 1))))))))
theorem ok_Book_eq {base : Heap} (Wc : Wx P w K mg) : FnOk P w K mg base (L2.CX P w) 1 (He.fAd K ("Book", some "__eq__")) (fdAt K ("Book", some "__eq__")) P_Book_eq (spD K (clG w K) 2 F_Book_eq) := fn_D (df_Book_eq Wc) sc_Book_eq (by decide) fun cdv A outer s H E hr => bo_Book_eq Wc cdv A outer s H E hr

theorem bo_Book_turned {base : Heap} (Wc : Wx P w K mg) (cdv : Value) (A : Around) (outer : List Env) (s : Shared) (H : Hp) (E : XK) (hr : Room 5 (A.deeper (envOfC "Book.turned" (defScope s_Book_turned) s.heap.objs.size (He.fAd K ("Book", some "turned")) cdv))) :
    USs (cxOf (L2.CX P w) P w K mg base N_Book_turned "Book.turned" (defScope s_Book_turned) (He.fAd K ("Book", some "turned")) cdv A outer s H E) (clG w K) (WD E) (defBody s_Book_turned) den_Book_turned := by
  obtain ⟨o_PARTS, es_PARTS, ep_PARTS, kvs_PARTS, us_PARTS, st_PARTS, sr_PARTS, sl_PARTS⟩ := stat_PARTS (P := P) Wc
  exact (s_cons (s_if (b_not (b_val (u_call isP (ok_is_one_of Wc) (hr.mono (by decide)) takesD rfl (gl_is_one_of Wc) (df_is_one_of Wc).kp (bd_is_one_of Wc) (a_cons (u_v 1) (a_cons (u_listK st_PARTS sr_PARTS rfl rfl (fr_list Wc) (pe_glob rfl (gl_PARTS Wc) rfl)) a_nil))))) (s_one (s_raise1 (c := 5) show_chk (xcls_ok (ex_1 Wc)).oex (made_find (ex_2 Wc)) (made_type (ex_2 Wc)) (ok_BadRule Wc) (hr.mono (by decide)) (bd_BadRule Wc) rfl takesD passes_never rfl (gl_BadRule Wc) (u_c pe_str (fun _ _ => rfl)))) s_nil)
  (s_one (s_ret (u_fz (u_make (c := 0) (mk_Book Wc) (ok_Book_init Wc) (hr.mono (by decide)) takesD rfl (gl_Book Wc) (bd_Book_init Wc) (a_cons (u_attr (c := 0) (cl_Book Wc) (na_Book_many_days Wc) (u_v 0)) (a_cons (u_attr (c := 0) (cl_Book Wc) (na_Book_cap Wc) (u_v 0)) (a_cons (u_attr (c := 0) (cl_Book Wc) (na_Book_words Wc) (u_v 0)) (a_cons (u_star (u_attr (c := 0) (cl_Book Wc) (na_Book_parts Wc) (u_v 0)) (u_v 1) (u_v 2)) a_nil)))))))))
theorem ok_Book_turned {base : Heap} (Wc : Wx P w K mg) : FnOk P w K mg base (L2.CX P w) 6 (He.fAd K ("Book", some "turned")) (fdAt K ("Book", some "turned")) P_Book_turned (spD K (clG w K) 3 F_Book_turned) := fn_D (df_Book_turned Wc) sc_Book_turned (by decide) fun cdv A outer s H E hr => bo_Book_turned Wc cdv A outer s H E hr

theorem bo__law_draws {base : Heap} (Wc : Wx P w K mg) (cdv : Value) (A : Around) (outer : List Env) (s : Shared) (H : Hp) (E : XK) (hr : Room 0 (A.deeper (envOfC "_law_draws" (defScope s__law_draws) s.heap.objs.size (He.fAd K ("_law_draws", none)) cdv))) :
    USs (cxOf (L2.CX P w) P w K mg base N__law_draws "_law_draws" (defScope s__law_draws) (He.fAd K ("_law_draws", none)) cdv A outer s H E) (clG w K) (WD E) (defBody s__law_draws) den__law_draws := by
  exact (s_one (s_ret (u_cellL (a_cons (u_T (call_listA rfl) c_list rfl (fr_list Wc) (by decide +kernel) (a_cons (u_v 0) a_nil)) (a_cons (u_c pe_int (fun _ _ => rfl)) (a_cons (u_c pe_int (fun _ _ => rfl)) (a_cons (u_c pe_int (fun _ _ => rfl)) a_nil)))))))
theorem ok__law_draws {base : Heap} (Wc : Wx P w K mg) : FnOk P w K mg base (L2.CX P w) 1 (He.fAd K ("_law_draws", none)) (fdAt K ("_law_draws", none)) P__law_draws (spD K (clG w K) 1 F__law_draws) := fn_D (df__law_draws Wc) sc__law_draws (by decide) fun cdv A outer s H E hr => bo__law_draws Wc cdv A outer s H E hr

theorem bo__law_pick {base : Heap} (Wc : Wx P w K mg) (cdv : Value) (A : Around) (outer : List Env) (s : Shared) (H : Hp) (E : XK) (hr : Room 0 (A.deeper (envOfC "_law_pick" (defScope s__law_pick) s.heap.objs.size (He.fAd K ("_law_pick", none)) cdv))) :
    USs (cxOf (L2.CX P w) P w K mg base N__law_pick "_law_pick" (defScope s__law_pick) (He.fAd K ("_law_pick", none)) cdv A outer s H E) (clG w K) (WD E) (defBody s__law_pick) den__law_pick := by
  exact (s_cons (s_if (b_cmp (op_eqAll (room65 hr)) d_eqA (u_itemA (room1 hr) (u_v 0) (u_c pe_int (fun _ _ => rfl))) (u_c pe_int (fun _ _ => rfl))) (s_one (s_if (b_cmp op_ltAny d_cmp (u_itemA (room1 hr) (u_v 0) (u_c pe_int (fun _ _ => rfl))) (u_B call_len' c_len rfl (fr_len Wc) PySem.boot_len (a_cons (u_itemA (room1 hr) (u_v 0) (u_c pe_int (fun _ _ => rfl))) a_nil))) (s_cons (s_set (i := 2) sc__law_pick.nd rfl (by first | exact .inl rfl | exact .inr rfl) (u_itemA (room1 hr) (u_itemA (room1 hr) (u_v 0) (u_c pe_int (fun _ _ => rfl))) (u_itemA (room1 hr) (u_v 0) (u_c pe_int (fun _ _ => rfl)))))
  (s_cons (s_setA (room1 hr) (u_v 0) (u_c pe_int (fun _ _ => rfl)) (u_bin op_addAny d_add (u_itemA (room1 hr) (u_v 0) (u_c pe_int (fun _ _ => rfl))) (u_c pe_int (fun _ _ => rfl))))
  (s_one (s_if (b_cmp op_geAny d_cmp (u_v 2) (u_bin op_pow d_pow (u_c pe_int (fun _ _ => rfl)) (u_c pe_int (fun _ _ => rfl)))) (s_one (s_setA (room1 hr) (u_v 0) (u_c pe_int (fun _ _ => rfl)) (u_v 2))) (s_one (s_setA (room1 hr) (u_v 0) (u_c pe_int (fun _ _ => rfl)) (u_bin op_mod d_mod (u_T call_intA c_int rfl (fr_int Wc) (by decide +kernel) (a_cons (u_bin op_addAny d_add (u_bin op_addAny d_add (u_bin op_mulAny d_mul (u_itemA (room1 hr) (u_v 0) (u_c pe_int (fun _ _ => rfl))) (u_c pe_int (fun _ _ => rfl))) (u_bin op_mulAny d_mul (u_v 2) (u_c pe_int (fun _ _ => rfl)))) (u_c pe_int (fun _ _ => rfl))) a_nil)) (u_c pe_int (fun _ _ => rfl))))))))) (s_one (s_setA (room1 hr) (u_v 0) (u_c pe_int (fun _ _ => rfl)) (u_bin op_mod d_mod (u_T call_intA c_int rfl (fr_int Wc) (by decide +kernel) (a_cons (u_bin op_addAny d_add (u_bin op_mulAny d_mul (u_itemA (room1 hr) (u_v 0) (u_c pe_int (fun _ _ => rfl))) (u_c pe_int (fun _ _ => rfl))) (u_c pe_int (fun _ _ => rfl))) a_nil)) (u_c pe_int (fun _ _ => rfl))))))) s_nil)
  (s_cons (s_if (b_cmp op_gtAny d_cmp (u_itemA (room1 hr) (u_v 0) (u_c pe_int (fun _ _ => rfl))) (u_c pe_int (fun _ _ => rfl))) (s_cons (s_set (i := 3) sc__law_pick.nd rfl (by first | exact .inl rfl | exact .inr rfl) (u_bin op_mod d_mod (u_T call_intA c_int rfl (fr_int Wc) (by decide +kernel) (a_cons (u_itemA (room1 hr) (u_v 0) (u_c pe_int (fun _ _ => rfl))) a_nil)) (u_v 1)))
  (s_cons (s_setA (room1 hr) (u_v 0) (u_c pe_int (fun _ _ => rfl)) (u_bin op_fdiv d_div (u_itemA (room1 hr) (u_v 0) (u_c pe_int (fun _ _ => rfl))) (u_v 1)))
  (s_one (s_ret (u_v 3))))) s_nil)
  (s_one (s_ret (u_bin op_mod d_mod (u_bin op_mod d_mod (u_T call_intA c_int rfl (fr_int Wc) (by decide +kernel) (a_cons (u_bin op_mulAny d_mul (u_itemA (room1 hr) (u_v 0) (u_c pe_int (fun _ _ => rfl))) (u_c pe_int (fun _ _ => rfl))) a_nil)) (u_c pe_int (fun _ _ => rfl))) (u_v 1))))))
theorem ok__law_pick {base : Heap} (Wc : Wx P w K mg) : FnOk P w K mg base (L2.CX P w) 1 (He.fAd K ("_law_pick", none)) (fdAt K ("_law_pick", none)) P__law_pick (spD K (clG w K) 2 F__law_pick) := fn_D (df__law_pick Wc) sc__law_pick (by decide) fun cdv A outer s H E hr => bo__law_pick Wc cdv A outer s H E hr

theorem bo__law_parts {base : Heap} (Wc : Wx P w K mg) (cdv : Value) (A : Around) (outer : List Env) (s : Shared) (H : Hp) (E : XK) (hr : Room 0 (A.deeper (envOfC "_law_parts" (defScope s__law_parts) s.heap.objs.size (He.fAd K ("_law_parts", none)) cdv))) :
    USs (cxOf (L2.CX P w) P w K mg base N__law_parts "_law_parts" (defScope s__law_parts) (He.fAd K ("_law_parts", none)) cdv A outer s H E) (clG w K) (WD E) (defBody s__law_parts) den__law_parts := by
  exact (s_cons (s_set (i := 0) sc__law_parts.nd rfl (by first | exact .inl rfl | exact .inr rfl) (u_lst (a_cons (u_tup (a_cons (u_c pe_str (fun _ _ => rfl)) (a_cons (u_lst (a_cons (u_c pe_str (fun _ _ => rfl)) (a_cons (u_c pe_str (fun _ _ => rfl)) a_nil))) a_nil))) (a_cons (u_tup (a_cons (u_c pe_str (fun _ _ => rfl)) (a_cons (u_lst (a_cons (u_c pe_str (fun _ _ => rfl)) (a_cons (u_c pe_str (fun _ _ => rfl)) a_nil))) a_nil))) (a_cons (u_tup (a_cons (u_c pe_str (fun _ _ => rfl)) (a_cons (u_lst (a_cons (u_c pe_str (fun _ _ => rfl)) (a_cons (u_c pe_str (fun _ _ => rfl)) a_nil))) a_nil))) a_nil)))))
  (s_one (s_ret (u_bin op_addAny d_add (u_v 0) (u_lst (a_cons (u_tup (a_cons (u_c pe_str (fun _ _ => rfl)) (a_cons (u_lst (a_cons (u_c pe_str (fun _ _ => rfl)) (a_cons (u_c pe_str (fun _ _ => rfl)) (a_cons (u_c pe_str (fun _ _ => rfl)) a_nil)))) a_nil))) (a_cons (u_tup (a_cons (u_c pe_str (fun _ _ => rfl)) (a_cons (u_lst (a_cons (u_c pe_str (fun _ _ => rfl)) (a_cons (u_c pe_str (fun _ _ => rfl)) a_nil))) a_nil))) a_nil)))))))
theorem ok__law_parts {base : Heap} (Wc : Wx P w K mg) : FnOk P w K mg base (L2.CX P w) 1 (He.fAd K ("_law_parts", none)) (fdAt K ("_law_parts", none)) P__law_parts (spD K (clG w K) 0 F__law_parts) := fn_D (df__law_parts Wc) sc__law_parts (by decide) fun cdv A outer s H E hr => bo__law_parts Wc cdv A outer s H E hr

theorem bo__law_marks {base : Heap} (Wc : Wx P w K mg) (cdv : Value) (A : Around) (outer : List Env) (s : Shared) (H : Hp) (E : XK) (hr : Room 0 (A.deeper (envOfC "_law_marks" (defScope s__law_marks) s.heap.objs.size (He.fAd K ("_law_marks", none)) cdv))) :
    USs (cxOf (L2.CX P w) P w K mg base N__law_marks "_law_marks" (defScope s__law_marks) (He.fAd K ("_law_marks", none)) cdv A outer s H E) (clG w K) (WD E) (defBody s__law_marks) den__law_marks := by
  exact (s_one (s_ret (u_lst (a_cons (u_c pe_str (fun _ _ => rfl)) (a_cons (u_c pe_str (fun _ _ => rfl)) (a_cons (u_c pe_str (fun _ _ => rfl)) (a_cons (u_c pe_str (fun _ _ => rfl)) (a_cons (u_c pe_str (fun _ _ => rfl)) a_nil))))))))
theorem ok__law_marks {base : Heap} (Wc : Wx P w K mg) : FnOk P w K mg base (L2.CX P w) 1 (He.fAd K ("_law_marks", none)) (fdAt K ("_law_marks", none)) P__law_marks (spD K (clG w K) 0 F__law_marks) := fn_D (df__law_marks Wc) sc__law_marks (by decide) fun cdv A outer s H E hr => bo__law_marks Wc cdv A outer s H E hr

theorem bo__law_rule {base : Heap} (Wc : Wx P w K mg) (cdv : Value) (A : Around) (outer : List Env) (s : Shared) (H : Hp) (E : XK) (hr : Room 1 (A.deeper (envOfC "_law_rule" (defScope s__law_rule) s.heap.objs.size (He.fAd K ("_law_rule", none)) cdv))) :
    USs (cxOf (L2.CX P w) P w K mg base N__law_rule "_law_rule" (defScope s__law_rule) (He.fAd K ("_law_rule", none)) cdv A outer s H E) (clG w K) (WD E) (defBody s__law_rule) den__law_rule := by
  exact (s_cons (s_set (i := 1) sc__law_rule.nd rfl (by first | exact .inl rfl | exact .inr rfl) u_dicC)
  (s_cons (s_for (passes_of rfl) rfl (i_lst (u_call0 isP (ok__law_parts Wc) (hr.mono (by decide)) takesD rfl (gl__law_parts Wc) (df__law_parts Wc).kp (bd__law_parts Wc))) (pg_tup rfl (pgs_cons (pg_name (i := 2) sc__law_rule.nd rfl (by first | exact .inl rfl | exact .inr rfl)) (pgs_cons (pg_name (i := 3) sc__law_rule.nd rfl (by first | exact .inl rfl | exact .inr rfl)) pgs_nil))) (s_one (s_setA (room1 hr) (u_v 1) (u_v 2) (u_itemA (room1 hr) (u_v 3) (u_call isR (ok__law_pick Wc) (hr.mono (by decide)) takesD rfl (gl__law_pick Wc) (df__law_pick Wc).kp (bd__law_pick Wc) (a_cons (u_v 0) (a_cons (u_B call_len' c_len rfl (fr_len Wc) PySem.boot_len (a_cons (u_v 3) a_nil)) a_nil)))))))
  (s_one (s_ret (u_fz (u_v 1))))))
theorem ok__law_rule {base : Heap} (Wc : Wx P w K mg) : FnOk P w K mg base (L2.CX P w) 2 (He.fAd K ("_law_rule", none)) (fdAt K ("_law_rule", none)) P__law_rule (spD K (clG w K) 1 F__law_rule) := fn_D (df__law_rule Wc) sc__law_rule (by decide) fun cdv A outer s H E hr => bo__law_rule Wc cdv A outer s H E hr

theorem bo__law_drawn {base : Heap} (Wc : Wx P w K mg) (cdv : Value) (A : Around) (outer : List Env) (s : Shared) (H : Hp) (E : XK) (hr : Room 2 (A.deeper (envOfC "_law_drawn" (defScope s__law_drawn) s.heap.objs.size (He.fAd K ("_law_drawn", none)) cdv))) :
    USs (cxOf (L2.CX P w) P w K mg base N__law_drawn "_law_drawn" (defScope s__law_drawn) (He.fAd K ("_law_drawn", none)) cdv A outer s H E) (clG w K) (WD E) (defBody s__law_drawn) den__law_drawn := by
  exact (s_cons (s_set (i := 4) sc__law_drawn.nd rfl (by first | exact .inl rfl | exact .inr rfl) (u_dispC (ups_cons (u_c pe_str (fun _ _ => rfl)) (u_bin op_addAny d_add (u_c pe_int (fun _ _ => rfl)) (u_call isR (ok__law_pick Wc) (hr.mono (by decide)) takesD rfl (gl__law_pick Wc) (df__law_pick Wc).kp (bd__law_pick Wc) (a_cons (u_v 0) (a_cons (u_bin op_sub d_II0 (u_v 1) (u_c pe_int (fun _ _ => rfl))) a_nil)))) (ups_cons (u_c pe_str (fun _ _ => rfl)) (u_bin op_addAny d_add (u_c pe_int (fun _ _ => rfl)) (u_call isR (ok__law_pick Wc) (hr.mono (by decide)) takesD rfl (gl__law_pick Wc) (df__law_pick Wc).kp (bd__law_pick Wc) (a_cons (u_v 0) (a_cons (u_v 2) a_nil)))) (ups_cons (u_c pe_str (fun _ _ => rfl)) (u_call isR (ok__law_rule Wc) (hr.mono (by decide)) takesD rfl (gl__law_rule Wc) (df__law_rule Wc).kp (bd__law_rule Wc) (a_cons (u_v 0) a_nil)) ups_nil)))))
  (s_cons (s_set (i := 5) sc__law_drawn.nd rfl (by first | exact .inl rfl | exact .inr rfl) (u_call0 isP (ok__law_marks Wc) (hr.mono (by decide)) takesD rfl (gl__law_marks Wc) (df__law_marks Wc).kp (bd__law_marks Wc)))
  (s_cons (s_while 12 (passes_of rfl) (b_cmp op_gtAny d_cmp (u_B call_len' c_len rfl (fr_len Wc) PySem.boot_len (a_cons (u_v 5) a_nil)) (u_v 3)) (s_cons (s_set (i := 6) sc__law_drawn.nd rfl (by first | exact .inl rfl | exact .inr rfl) (u_call isR (ok__law_pick Wc) (hr.mono (by decide)) takesD rfl (gl__law_pick Wc) (df__law_pick Wc).kp (bd__law_pick Wc) (a_cons (u_v 0) (a_cons (u_B call_len' c_len rfl (fr_len Wc) PySem.boot_len (a_cons (u_v 5) a_nil)) a_nil))))
  (s_one (s_set (i := 5) sc__law_drawn.nd rfl (by first | exact .inl rfl | exact .inr rfl) (u_bin op_addAny d_add (u_slice (u_v 5) o_none (o_some (u_v 6))) (u_slice (u_v 5) (o_some (u_bin op_addAny d_add (u_v 6) (u_c pe_int (fun _ _ => rfl)))) o_none))))))
  (s_cons (s_setA (room1 hr) (u_v 4) (u_c pe_str (fun _ _ => rfl)) (u_T call_tuple_of c_tuple rfl (fr_tuple Wc) (by decide +kernel) (a_cons (u_v 5) a_nil)))
  (s_one (s_ret (u_fz (u_v 4))))))))
theorem ok__law_drawn {base : Heap} (Wc : Wx P w K mg) : FnOk P w K mg base (L2.CX P w) 3 (He.fAd K ("_law_drawn", none)) (fdAt K ("_law_drawn", none)) P__law_drawn (spD K (clG w K) 4 F__law_drawn) := fn_D (df__law_drawn Wc) sc__law_drawn (by decide) fun cdv A outer s H E hr => bo__law_drawn Wc cdv A outer s H E hr

theorem bo__law_made {base : Heap} (Wc : Wx P w K mg) (cdv : Value) (A : Around) (outer : List Env) (s : Shared) (H : Hp) (E : XK) (hr : Room 5 (A.deeper (envOfC "_law_made" (defScope s__law_made) s.heap.objs.size (He.fAd K ("_law_made", none)) cdv))) :
    USs (cxOf (L2.CX P w) P w K mg base N__law_made "_law_made" (defScope s__law_made) (He.fAd K ("_law_made", none)) cdv A outer s H E) (clG w K) (WD E) (defBody s__law_made) den__law_made := by
  exact (s_one (s_ret (u_fz (u_make (c := 0) (mk_Book Wc) (ok_Book_init Wc) (hr.mono (by decide)) takesD rfl (gl_Book Wc) (bd_Book_init Wc) (a_cons (u_itemA (room1 hr) (u_v 0) (u_c pe_str (fun _ _ => rfl))) (a_cons (u_itemA (room1 hr) (u_v 0) (u_c pe_str (fun _ _ => rfl))) (a_cons (u_itemA (room1 hr) (u_v 0) (u_c pe_str (fun _ _ => rfl))) (a_cons (u_itemA (room1 hr) (u_v 0) (u_c pe_str (fun _ _ => rfl))) a_nil))))))))
theorem ok__law_made {base : Heap} (Wc : Wx P w K mg) : FnOk P w K mg base (L2.CX P w) 6 (He.fAd K ("_law_made", none)) (fdAt K ("_law_made", none)) P__law_made (spD K (clG w K) 1 F__law_made) := fn_D (df__law_made Wc) sc__law_made (by decide) fun cdv A outer s H E hr => bo__law_made Wc cdv A outer s H E hr

theorem bo__law_told {base : Heap} (Wc : Wx P w K mg) (cdv : Value) (A : Around) (outer : List Env) (s : Shared) (H : Hp) (E : XK) (hr : Room 6 (A.deeper (envOfC "_law_told" (defScope s__law_told) s.heap.objs.size (He.fAd K ("_law_told", none)) cdv))) :
    USs (cxOf (L2.CX P w) P w K mg base N__law_told "_law_told" (defScope s__law_told) (He.fAd K ("_law_told", none)) cdv A outer s H E) (clG w K) (WD E) (defBody s__law_told) den__law_told := by
  exact (s_cons (s_set (i := 3) sc__law_told.nd rfl (by first | exact .inl rfl | exact .inr rfl) (u_c pe_non (fun _ _ => rfl)))
  (s_cons (s_try rfl rfl sc__law_told.nd takesD (by exact fun W' pn xe tk' po => (s_one (s_set (i := 3) sc__law_told.nd rfl (by first | exact .inl rfl | exact .inr rfl) (u_meth (c := 0) (pl := _) isP (ok_Book_turned Wc) (hr.mono (by decide)) tk' (cl_Book Wc) (me_Book_turned Wc) (bd_Book_turned Wc) (u_v 0) (a_cons (u_v 1) (a_cons (u_v 2) a_nil)))))) (.named (mtok_BadRule Wc) .nil) (by exact (.named (i := 4) rfl rfl ⟨rfl, by decide, .inl (gl_BadRule Wc)⟩ (fun a oe cls d pn hz hf => (xs_one (xs_set (j := 3) sc__law_told.nd rfl (by first | exact .inl rfl | exact .inr rfl) (x_lst (xa_cons (x_of (u_c pe_str (fun _ _ => rfl))) (xa_cons (x_fld (c0 := 5) (xfc_ok (ex_11 Wc)) (noFld_ok (ex_12 Wc)) hz hf (i := 4) rfl (by first | exact .inl rfl | exact .inr (.inl rfl) | exact .inr (.inr rfl))) xa_nil)))))) .nil)))
  (s_one (s_ret (u_v 3)))))
theorem ok__law_told {base : Heap} (Wc : Wx P w K mg) : FnOk P w K mg base (L2.CX P w) 7 (He.fAd K ("_law_told", none)) (fdAt K ("_law_told", none)) P__law_told (spD K (clG w K) 3 F__law_told) := fn_D (df__law_told Wc) sc__law_told (by decide) fun cdv A outer s H E hr => bo__law_told Wc cdv A outer s H E hr

theorem bo__law_mark {base : Heap} (Wc : Wx P w K mg) (cdv : Value) (A : Around) (outer : List Env) (s : Shared) (H : Hp) (E : XK) (hr : Room 0 (A.deeper (envOfC "_law_mark" (defScope s__law_mark) s.heap.objs.size (He.fAd K ("_law_mark", none)) cdv))) :
    USs (cxOf (L2.CX P w) P w K mg base N__law_mark "_law_mark" (defScope s__law_mark) (He.fAd K ("_law_mark", none)) cdv A outer s H E) (clG w K) (WD E) (defBody s__law_mark) den__law_mark := by
  exact (s_one (s_ret (u_lst (a_cons (u_itemA (room1 hr) (u_v 0) (u_c pe_str (fun _ _ => rfl))) (a_cons (u_itemA (room1 hr) (u_v 0) (u_c pe_str (fun _ _ => rfl))) (a_cons (u_itemA (room1 hr) (u_v 0) (u_c pe_str (fun _ _ => rfl))) (a_cons (u_B (call_sortD rfl (room65 hr)) (c_sorted rfl) rfl (fr_sorted Wc) (by decide +kernel) (a_cons (u_lItems rfl (u_itemA (room1 hr) (u_v 0) (u_c pe_str (fun _ _ => rfl))) rfl (fr_list Wc)) a_nil)) a_nil)))))))
theorem ok__law_mark {base : Heap} (Wc : Wx P w K mg) : FnOk P w K mg base (L2.CX P w) 1 (He.fAd K ("_law_mark", none)) (fdAt K ("_law_mark", none)) P__law_mark (spD K (clG w K) 1 F__law_mark) := fn_D (df__law_mark Wc) sc__law_mark (by decide) fun cdv A outer s H E hr => bo__law_mark Wc cdv A outer s H E hr

theorem bo_law {base : Heap} (Wc : Wx P w K mg) (cdv : Value) (A : Around) (outer : List Env) (s : Shared) (H : Hp) (E : XK) (hr : Room 7 (A.deeper (envOfC "law" (defScope s_law) s.heap.objs.size (He.fAd K ("law", none)) cdv))) :
    USs (cxOf (L2.CX P w) P w K mg base N_law "law" (defScope s_law) (He.fAd K ("law", none)) cdv A outer s H E) (clG w K) (WD E) (defBody s_law) den_law := by
  exact (s_cons (s_set (i := 1) sc_law.nd rfl (by first | exact .inl rfl | exact .inr rfl) (u_call isK (ok__law_draws Wc) (hr.mono (by decide)) takesD rfl (gl__law_draws Wc) (df__law_draws Wc).kp (bd__law_draws Wc) (a_cons (u_v 0) a_nil)))
  (s_cons (s_set (i := 2) sc_law.nd rfl (by first | exact .inl rfl | exact .inr rfl) (u_cellL a_nil))
  (s_cons (s_for (passes_of rfl) rfl (i_rng1 rfl (fr_range Wc) (u_c pe_int (fun _ _ => rfl))) (pg_name (i := 3) sc_law.nd rfl (by first | exact .inl rfl | exact .inr rfl)) (s_cons (s_set (i := 4) sc_law.nd rfl (by first | exact .inl rfl | exact .inr rfl) (u_call isR (ok__law_drawn Wc) (hr.mono (by decide)) takesD rfl (gl__law_drawn Wc) (df__law_drawn Wc).kp (bd__law_drawn Wc) (a_cons (u_v 1) (a_cons (u_c pe_int (fun _ _ => rfl)) (a_cons (u_c pe_int (fun _ _ => rfl)) (a_cons (u_call isR (ok__law_pick Wc) (hr.mono (by decide)) takesD rfl (gl__law_pick Wc) (df__law_pick Wc).kp (bd__law_pick Wc) (a_cons (u_v 1) (a_cons (u_c pe_int (fun _ _ => rfl)) a_nil))) a_nil))))))
  (s_cons (s_set (i := 5) sc_law.nd rfl (by first | exact .inl rfl | exact .inr rfl) (u_dictP rfl rfl (fr_dict Wc) (by decide +kernel) (a_cons (u_revL (u_lItems rfl (u_itemA (room1 hr) (u_v 4) (u_c pe_str (fun _ _ => rfl))) rfl (fr_list Wc))) a_nil)))
  (s_cons (s_set (i := 6) sc_law.nd rfl (by first | exact .inl rfl | exact .inr rfl) (u_fz (u_make (c := 0) (mk_Book Wc) (ok_Book_init Wc) (hr.mono (by decide)) takesD rfl (gl_Book Wc) (bd_Book_init Wc) (a_cons (u_itemA (room1 hr) (u_v 4) (u_c pe_str (fun _ _ => rfl))) (a_cons (u_itemA (room1 hr) (u_v 4) (u_c pe_str (fun _ _ => rfl))) (a_cons (u_itemA (room1 hr) (u_v 4) (u_c pe_str (fun _ _ => rfl))) (a_cons (u_v 5) a_nil)))))))
  (s_cons (s_expr (u_bm0 PySem.F.plainAttrs_dict PySem.F.slot_dict_clear PySem.F.type_dict_clear mtd_clear m_clear (u_v 5)))
  (s_cons (s_if (b_w (w_or (b_cmp (op_neAll (room65 hr)) d_neA (u_lItems rfl (u_fz (u_propV isK (c := 0) (ok_Book_rule Wc) (hr.mono (by decide)) (bd_Book_rule Wc) rfl (cl_Book Wc) (Wc.prop 3 (d := ⟨"Book", "rule", "Book.rule", defArgs s_Book_rule, defBody s_Book_rule, defScope s_Book_rule⟩) rfl) (u_v 6) rfl)) rfl (fr_list Wc)) (u_B (call_sortD rfl (room65 hr)) (c_sorted rfl) rfl (fr_sorted Wc) (by decide +kernel) (a_cons (u_lItems rfl (u_itemA (room1 hr) (u_v 4) (u_c pe_str (fun _ _ => rfl))) rfl (fr_list Wc)) a_nil))) (w_or1 (b_cmp (op_eqV (c := 0) (ok_Book_eq Wc) (hr.mono (by decide)) (bd_Book_eq Wc) rfl (me_Book_eq Wc).at_ (me_Book_eq Wc).fn) (d_eqV isP (okT_ok (isi_ok (cl_Book Wc) (ex_9 Wc)) (ex_13 Wc))) (u_v 6) (u_v 4))))) (s_one (s_ret (u_c pe_bl (fun _ _ => rfl)))) s_nil)
  (s_cons (s_if (b_cmp (op_neAll (room65 hr)) d_neA (u_lst (a_cons (u_propV isP (c := 0) (ok_Book_days Wc) (hr.mono (by decide)) (bd_Book_days Wc) rfl (cl_Book Wc) (Wc.prop 0 (d := ⟨"Book", "days", "Book.days", defArgs s_Book_days, defBody s_Book_days, defScope s_Book_days⟩) rfl) (u_v 6) rfl) (a_cons (u_propV isP (c := 0) (ok_Book_most Wc) (hr.mono (by decide)) (bd_Book_most Wc) rfl (cl_Book Wc) (Wc.prop 1 (d := ⟨"Book", "most", "Book.most", defArgs s_Book_most, defBody s_Book_most, defScope s_Book_most⟩) rfl) (u_v 6) rfl) (a_cons (u_propV isP (c := 0) (ok_Book_marks Wc) (hr.mono (by decide)) (bd_Book_marks Wc) rfl (cl_Book Wc) (Wc.prop 2 (d := ⟨"Book", "marks", "Book.marks", defArgs s_Book_marks, defBody s_Book_marks, defScope s_Book_marks⟩) rfl) (u_v 6) rfl) a_nil)))) (u_lst (a_cons (u_itemA (room1 hr) (u_v 4) (u_c pe_str (fun _ _ => rfl))) (a_cons (u_itemA (room1 hr) (u_v 4) (u_c pe_str (fun _ _ => rfl))) (a_cons (u_itemA (room1 hr) (u_v 4) (u_c pe_str (fun _ _ => rfl))) a_nil))))) (s_one (s_ret (u_c pe_bl (fun _ _ => rfl)))) s_nil)
  (s_cons (s_expr (u_bm0 PySem.F.plainAttrs_dict PySem.F.slot_dict_clear PySem.F.type_dict_clear mtd_clear m_clear (u_propV isK (c := 0) (ok_Book_rule Wc) (hr.mono (by decide)) (bd_Book_rule Wc) rfl (cl_Book Wc) (Wc.prop 3 (d := ⟨"Book", "rule", "Book.rule", defArgs s_Book_rule, defBody s_Book_rule, defScope s_Book_rule⟩) rfl) (u_v 6) rfl)))
  (s_cons (s_for (passes_of rfl) rfl (i_lst (u_call0 isP (ok__law_parts Wc) (hr.mono (by decide)) takesD rfl (gl__law_parts Wc) (df__law_parts Wc).kp (bd__law_parts Wc))) (pg_tup rfl (pgs_cons (pg_name (i := 7) sc_law.nd rfl (by first | exact .inl rfl | exact .inr rfl)) (pgs_cons (pg_name (i := 8) sc_law.nd rfl (by first | exact .inl rfl | exact .inr rfl)) pgs_nil))) (s_cons (s_for (passes_of rfl) rfl (i_lst (u_v 8)) (pg_name (i := 9) sc_law.nd rfl (by first | exact .inl rfl | exact .inr rfl)) (s_cons (s_set (i := 10) sc_law.nd rfl (by first | exact .inl rfl | exact .inr rfl) (u_dictC rfl (fr_dict Wc) (by decide +kernel) (a_cons (u_v 4) a_nil)))
  (s_cons (s_setA (room1 hr) (u_v 10) (u_c pe_str (fun _ _ => rfl)) (u_dictC rfl (fr_dict Wc) (by decide +kernel) (a_cons (u_itemA (room1 hr) (u_v 4) (u_c pe_str (fun _ _ => rfl))) a_nil)))
  (s_cons (s_fz2At (i := 10) (p := 2) (s_setA (room1 hr) (u_itemA (room1 hr) (u_v 10) (u_c pe_str (fun _ _ => rfl))) (u_v 7) (u_v 9)))
  (s_one (s_if (b_cmp ((op_neAll (room65 hr)).or (op_ownNe (c := 0) (ok_Book_eq Wc) (hr.mono (by decide)) (room1 hr) (bd_Book_eq Wc) rfl (ex_14 Wc) (me_Book_eq Wc).fn)) (d_ownNe d_neA) (u_call isP (ok__law_told Wc) (hr.mono (by decide)) takesD rfl (gl__law_told Wc) (df__law_told Wc).kp (bd__law_told Wc) (a_cons (u_v 6) (a_cons (u_v 7) (a_cons (u_v 9) a_nil)))) (u_call isP (ok__law_made Wc) (hr.mono (by decide)) takesD rfl (gl__law_made Wc) (df__law_made Wc).kp (bd__law_made Wc) (a_cons (u_v 10) a_nil))) (s_one (s_ret (u_c pe_bl (fun _ _ => rfl)))) s_nil))))))
  (s_one (s_if (b_cmp (op_neAll (room65 hr)) d_neA (u_call isP (ok__law_told Wc) (hr.mono (by decide)) takesD rfl (gl__law_told Wc) (df__law_told Wc).kp (bd__law_told Wc) (a_cons (u_v 6) (a_cons (u_v 7) (a_cons (u_itemA (room1 hr) (u_lst (a_cons (u_c pe_str (fun _ _ => rfl)) (a_cons (u_c pe_non (fun _ _ => rfl)) (a_cons (u_c pe_int (fun _ _ => rfl)) (a_cons (u_tup (a_cons (u_c pe_str (fun _ _ => rfl)) a_nil)) a_nil))))) (u_call isR (ok__law_pick Wc) (hr.mono (by decide)) takesD rfl (gl__law_pick Wc) (df__law_pick Wc).kp (bd__law_pick Wc) (a_cons (u_v 1) (a_cons (u_c pe_int (fun _ _ => rfl)) a_nil)))) a_nil)))) (u_lst (a_cons (u_c pe_str (fun _ _ => rfl)) (a_cons (u_v 7) a_nil)))) (s_one (s_ret (u_c pe_bl (fun _ _ => rfl)))) s_nil))))
  (s_cons (s_if (b_cmp (op_neAll (room65 hr)) d_neA (u_call isP (ok__law_told Wc) (hr.mono (by decide)) takesD rfl (gl__law_told Wc) (df__law_told Wc).kp (bd__law_told Wc) (a_cons (u_v 6) (a_cons (u_itemA (room1 hr) (u_lst (a_cons (u_c pe_str (fun _ _ => rfl)) (a_cons (u_c pe_non (fun _ _ => rfl)) (a_cons (u_c pe_int (fun _ _ => rfl)) (a_cons (u_tup (a_cons (u_c pe_str (fun _ _ => rfl)) a_nil)) (a_cons (u_lst (a_cons (u_c pe_str (fun _ _ => rfl)) a_nil)) a_nil)))))) (u_call isR (ok__law_pick Wc) (hr.mono (by decide)) takesD rfl (gl__law_pick Wc) (df__law_pick Wc).kp (bd__law_pick Wc) (a_cons (u_v 1) (a_cons (u_c pe_int (fun _ _ => rfl)) a_nil)))) (a_cons (u_c pe_str (fun _ _ => rfl)) a_nil)))) (u_lst (a_cons (u_c pe_str (fun _ _ => rfl)) (a_cons (u_c pe_str (fun _ _ => rfl)) a_nil)))) (s_one (s_ret (u_c pe_bl (fun _ _ => rfl)))) s_nil)
  (s_cons (s_if (b_cmp (op_neAll (room65 hr)) d_neA (u_lcW (own := [("_law_one", 11), ("_law_mark_here", 12)]) [11, 12] rfl (by decide) rfl sc_law.nd (u_v 2) (blkOk_by (N := N_law) (sc := defScope s_law) (by decide +kernel)) (fun _ _ _ _ _ => (pg_tup rfl (pgs_cons (pg_name (i := 11) sc_law.nd rfl (by first | exact .inl rfl | exact .inr rfl)) (pgs_cons (pg_name (i := 12) sc_law.nd rfl (by first | exact .inl rfl | exact .inr rfl)) pgs_nil)))) (fun _ _ _ _ _ => (ts_one (b_cmp (op_neAll (room65 hr)) d_neA (u_cmp (op_own (c := 0) (ok_Book_eq Wc) (hr.mono (by decide)) (bd_Book_eq Wc) rfl (me_Book_eq Wc).at_ (me_Book_eq Wc).fn) d_own (u_v 11) (u_v 6)) (u_cmp (op_eqAll (room65 hr)) d_eqA (u_v 12) (u_call isP (ok__law_mark Wc) (hr.mono (by decide)) Dl.takes0 rfl (gl__law_mark Wc) (df__law_mark Wc).kp (bd__law_mark Wc) (a_cons (u_v 4) a_nil)))))) (fun _ _ _ _ _ => (u_v 11))) (u_lst a_nil)) (s_one (s_ret (u_c pe_bl (fun _ _ => rfl)))) s_nil)
  (s_one (s_expr (u_bm PySem.F.plainAttrs_list PySem.F.slot_list_append PySem.F.type_list_append mt_append m_append (u_v 2) (a_cons (u_tup (a_cons (u_v 6) (a_cons (u_call isP (ok__law_mark Wc) (hr.mono (by decide)) takesD rfl (gl__law_mark Wc) (df__law_mark Wc).kp (bd__law_mark Wc) (a_cons (u_v 4) a_nil)) a_nil))) a_nil)))))))))))))))
  (s_one (s_ret (u_c pe_bl (fun _ _ => rfl)))))))
theorem ok_law {base : Heap} (Wc : Wx P w K mg) : FnOk P w K mg base (L2.CX P w) 8 (He.fAd K ("law", none)) (fdAt K ("law", none)) P_law (spD K (clG w K) 1 F_law) := fn_D (df_law Wc) sc_law (by decide) fun cdv A outer s H E hr => bo_law Wc cdv A outer s H E hr
end

end GG
set_option Elab.async false
set_option linter.all false
set_option maxRecDepth 100000
set_option maxHeartbeats 0
namespace GG.HD
open PySem PySem.Spec PyProof.Rows L2 Dl
abbrev R : PySem.W.OpenRow := PySem.W.OpenLaw.row PySem.Challenge.rw_staysbarred_k02_books_kept
abbrev hk : PySem.W.Hook := hookP 6 fa fn ts xs prs ex
def ob (s : PySem.W.SharedT) : AlP := obsP 6 fa fn ts xs prs ex (HandSHeadRun.getT s)
theorem ob_eq (s : PySem.W.SharedT) : ob s = hk.obs s.abs := obsP_eq (HandSHeadRun.getT_eq s)
def loose : List Str := (["__name__", "StayError", "BadNumber", "BadMarks", "BadRule", "MARKS", "PARTS", "MOST_DAYS", "MOST_SPANS", "is_integer", "is_from", "is_one_of", "are_marks", "check_rule", "Book", "_law_draws", "_law_pick", "_law_parts", "_law_marks", "_law_rule", "_law_drawn", "_law_made", "_law_told", "_law_mark"] : List Str)
theorem pieces {α β γ δ ε : Type} {o : Option α} {f1 : α → Bool} {f2 : α → β} {x2 : β} {h : α → (γ × δ) × ε} {v : (γ × δ) × ε} (a : o.map f1 = some true) (b : o.map f2 = some x2) (c : o.map (fun s => (h s).1.1) = some v.1.1) (d : o.map (fun s => (h s).1.2) = some v.1.2) (e : o.map (fun s => (h s).2) = some v.2) : o.map (fun s => (f1 s, f2 s, h s)) = some (true, x2, v) := by
  cases o with
  | none => cases a
  | some s =>
    have a := Option.some.inj a
    have b := Option.some.inj b
    have c := Option.some.inj c
    have d := Option.some.inj d
    have e := Option.some.inj e
    show some (f1 s, f2 s, h s) = _
    rw [a, b, show h s = v from Prod.ext (Prod.ext c d) e]
noncomputable abbrev fin_f (w : World) (os : OsState) := HandSHeadRun.endF (HandSHeadRun.stepQ (HandSHeadRun.denQ HandSHeadRun.tabQ) R.prog (w.withFollow "special-get-raises" false)) 6000 R.prog (w.withFollow "special-get-raises" false) os
open PySem.W PySem.Calls in
theorem run_f1 (w : World) (os : OsState) : (fin_f w os).map (fun s => HandSHeadRun.looksF R.prog (boot_heap (w.withFollow "special-get-raises" false).params) s.abs) = some true := by kernel_rfl
open PySem.W in
theorem run_f2 (w : World) (os : OsState) : (fin_f w os).map (fun s => HandSHeadRun.seenQ (PySem.W.view R.prog [26]) loose (importedModules R.prog.main.body) (fun s => xlAt (PySem.W.view R.prog [26]) [] s && recOk R.toRowW.records s) s.abs) = some (openGood (PySem.W.view R.prog [26]) loose) := by kernel_rfl
theorem run_f3 (w : World) (os : OsState) : (fin_f w os).map (fun s => (ob s).1.1) = some (hk.val (w.withFollow "special-get-raises" false)).1.1 := by kernel_rfl
theorem run_f4 (w : World) (os : OsState) : (fin_f w os).map (fun s => (ob s).1.2) = some (hk.val (w.withFollow "special-get-raises" false)).1.2 := by kernel_rfl
theorem run_f5 (w : World) (os : OsState) : (fin_f w os).map (fun s => (ob s).2) = some (hk.val (w.withFollow "special-get-raises" false)).2 := by kernel_rfl
theorem run_f (w : World) : HandSHeadRun.RunEq R (PySem.W.view R.prog [26]) hk ob 6000 loose (w.withFollow "special-get-raises" false) := fun os => pieces (run_f1 w os) (run_f2 w os) (run_f3 w os) (run_f4 w os) (run_f5 w os)
noncomputable abbrev fin_t (w : World) (os : OsState) := HandSHeadRun.endF (HandSHeadRun.stepQ (HandSHeadRun.denQ HandSHeadRun.tabQ) R.prog (w.withFollow "special-get-raises" true)) 6000 R.prog (w.withFollow "special-get-raises" true) os
open PySem.W PySem.Calls in
theorem run_t1 (w : World) (os : OsState) : (fin_t w os).map (fun s => HandSHeadRun.looksF R.prog (boot_heap (w.withFollow "special-get-raises" true).params) s.abs) = some true := by kernel_rfl
open PySem.W in
theorem run_t2 (w : World) (os : OsState) : (fin_t w os).map (fun s => HandSHeadRun.seenQ (PySem.W.view R.prog [26]) loose (importedModules R.prog.main.body) (fun s => xlAt (PySem.W.view R.prog [26]) [] s && recOk R.toRowW.records s) s.abs) = some (openGood (PySem.W.view R.prog [26]) loose) := by kernel_rfl
theorem run_t3 (w : World) (os : OsState) : (fin_t w os).map (fun s => (ob s).1.1) = some (hk.val (w.withFollow "special-get-raises" true)).1.1 := by kernel_rfl
theorem run_t4 (w : World) (os : OsState) : (fin_t w os).map (fun s => (ob s).1.2) = some (hk.val (w.withFollow "special-get-raises" true)).1.2 := by kernel_rfl
theorem run_t5 (w : World) (os : OsState) : (fin_t w os).map (fun s => (ob s).2) = some (hk.val (w.withFollow "special-get-raises" true)).2 := by kernel_rfl
theorem run_t (w : World) : HandSHeadRun.RunEq R (PySem.W.view R.prog [26]) hk ob 6000 loose (w.withFollow "special-get-raises" true) := fun os => pieces (run_t1 w os) (run_t2 w os) (run_t3 w os) (run_t4 w os) (run_t5 w os)
theorem run (w : World) : HandSHeadRun.RunEq R (PySem.W.view R.prog [26]) hk ob 6000 loose w :=
  PySem.W.byRow2 "special-get-raises" (P := fun w => HandSHeadRun.RunEq R (PySem.W.view R.prog [26]) hk ob 6000 loose w) run_f run_t w
end GG.HD
set_option Elab.async false
set_option linter.all false
set_option maxRecDepth 100000
set_option maxHeartbeats 400000
namespace GG
open PySem PyProof.Rows L2 Dl
/-- the drawing row -/
def rowD (ns : List Int) (a b c : Int) : D := .lst [.lst (ns.map .int), .int a, .int b, .int c]
def Row (d : D) : Prop := ∃ ns a b c, d = rowD ns a b c ∧ 0 ≤ a ∧ 0 ≤ b
@[simp] theorem put0_0 {xs : List D} {r : Sto} {n : Nat} {y : D} (h : n < xs.length) : putAt (.ptr 0) (.int (n : Nat)) y (some (.lst xs) :: r) = some (some (.lst (xs.set n y)) :: r) := by
  have e : ixN xs.length (n : Nat) = some n := by
    unfold ixN
    rw [if_pos (by omega), if_pos (by omega)]
    rfl
  show (match ixN xs.length (n : Nat) with
    | some n => some ((some (D.lst xs) :: r).set 0 (some (.lst (xs.set n y))))
    | none => none) = _
  rw [e]
  rfl
theorem put1 {x0 x1 x2 x3 y : D} : putAt (.ptr 0) (.int 1) y [some (.lst [x0, x1, x2, x3])] = some [some (.lst [x0, y, x2, x3])] := put0_0 (n := 1) (by simp)
theorem put2 {x0 x1 x2 x3 y : D} : putAt (.ptr 0) (.int 2) y [some (.lst [x0, x1, x2, x3])] = some [some (.lst [x0, x1, y, x3])] := put0_0 (n := 2) (by simp)
theorem put3 {x0 x1 x2 x3 y : D} : putAt (.ptr 0) (.int 3) y [some (.lst [x0, x1, x2, x3])] = some [some (.lst [x0, x1, x2, y])] := put0_0 (n := 3) (by simp)
theorem setA_is {dx di dv : DE} {t : Lc} {S : Sto} : dSetA dx di dv t S = Dl.ofE (dv t S) t fun y S1 => Dl.ofE (dx t S1) t fun x S2 => Dl.ofE (di t S2) t fun i S3 => match putAt x i y S3 with
  | some S4 => .nx t S4
  | none => .bad := rfl
theorem script_at {ns : List Int} {a : Int} (h0 : 0 ≤ a) (h : a < ns.length) : ∃ v, atI (ns.map D.int) a = some (.int v) := by
  obtain ⟨n, rfl⟩ := Int.eq_ofNat_of_zero_le h0
  have hn : n < ns.length := by simpa using h
  exact ⟨ns[n], by rw [atI_n, List.getElem?_map, List.getElem?_eq_getElem hn]; rfl⟩
theorem pick_ok {r : D} (h : Row r) {many : Int} (h0 : 0 < many) (h1 : many < 1000) : ∃ v r', F__law_pick [.ptr 0, .int many] [some r] = .ok (.int v) [some r'] ∧ Row r' ∧ 0 ≤ v ∧ v < many := by
  obtain ⟨ns, a, b, c, rfl, ha, hb⟩ := h
  have m1 : ∀ i : Int, cMul i 48271 = true := fun i => by unfold cMul; simp
  have m2 : ∀ i : Int, cMul i 69621 = true := fun i => by unfold cMul; simp
  have m3 : ∀ i : Int, cMul i 16807 = true := fun i => by unfold cMul; simp
  have p18 : ∀ S, fPow (.int 10) (.int 18) S = .ok (.int 1000000000000000000) S := fun S => rfl
  have dv : ∀ i S, fDiv (.int i) (.int many) S = .ok (.int (i / many)) S := fun i S => by
    show (if cDiv i many = true then Out.ok (D.int (i / many)) S else .bad) = _
    rw [if_pos (by unfold cDiv; simp; omega)]
  have q0 : ∀ i : Int, 0 ≤ i % many := fun i => Int.emod_nonneg _ (by omega)
  have q1 : ∀ i : Int, i % many < many := fun i => Int.emod_lt_of_pos _ h0
  have tail : ∀ (x2 : Option D) (a b c : Int), 0 ≤ a → 0 ≤ b → ∃ v r', (match dSeq (dIfS (bTest (dOp fGt (dOp fIxA (dVar 0) (dC (.int 2))) (dC (.int 0)))) (dSeq (dSet 3 (dOp fMod (dB bInt (aCons (dOp fIxA (dVar 0) (dC (.int 2))) aNil)) (dVar 1)))
      (dSeq (dSetA (dVar 0) (dC (.int 2)) (dOp fDiv (dOp fIxA (dVar 0) (dC (.int 2))) (dVar 1))) (dRet (dVar 3)))) dSkip)
      (dRet (dOp fMod (dOp fMod (dB bInt (aCons (dOp fMul (dOp fIxA (dVar 0) (dC (.int 3))) (dC (.int 16807))) aNil)) (dC (.int 2147483629))) (dVar 1))) [some (.ptr 0), some (.int many), x2, none] [some (rowD ns a b c)] with
      | .nx _ S1 => Out.ok D.non S1
      | .rt x S1 => .ok x S1
      | .exc _ c ns vs S1 => .exc c ns vs S1
      | _ => .bad) = .ok (.int v) [some r'] ∧ Row r' ∧ 0 ≤ v ∧ v < many := fun x2 a b c ha hb => by
    by_cases hb0 : 0 < b
    · refine ⟨b % many, rowD ns a (b / many) c, ?_, ⟨ns, a, b / many, c, rfl, ha, Int.ediv_nonneg hb (by omega)⟩, q0 _, q1 _⟩
      simp [rowD, hb0, h0, setA_is, put2, dv]
    · refine ⟨c * 16807 % 2147483629 % many, rowD ns a b c, ?_, ⟨ns, a, b, c, rfl, ha, hb⟩, q0 _, q1 _⟩
      simp [rowD, hb0, h0, m3]
  unfold F__law_pick runF den__law_pick
  by_cases hb0 : b = 0
  · by_cases hl : a < ns.length
    · obtain ⟨v, hv⟩ := script_at ha hl
      by_cases hc : 1000000000000000000 ≤ v
      · have z := tail (some (.int v)) (a + 1) v c (by omega) (by omega)
        simp [rowD, hb0, hl, hv, hc, setA_is, put1, put2, p18] at z ⊢
        exact z
      · have z := tail (some (.int v)) (a + 1) b ((c * 48271 + v * 69621 + 11) % 2147483647) (by omega) hb
        simp [rowD, hb0, hl, hv, hc, setA_is, put1, put3, p18, m1, m2] at z ⊢
        exact z
    · have z := tail none a b ((c * 48271 + 7) % 2147483647) ha hb
      simp [rowD, hb0, hl, setA_is, put3, m1] at z ⊢
      exact z
  · have z := tail none a b c ha hb
    simp [rowD, hb0] at z ⊢
    exact z
end GG
set_option Elab.async false
set_option linter.all false
set_option maxRecDepth 100000
set_option maxHeartbeats 1000000
namespace GG
open PySem PyProof.Rows L2 Dl
theorem below_ints : ∀ ns : List Int, belows 0 (ns.map D.int) = true
  | [] => rfl
  | n :: ns => by
    show (below 0 (.int n) && belows 0 (ns.map D.int)) = true
    rw [below_ints ns]; rfl
theorem below_row {r : D} (h : Row r) : below 0 r = true := by
  obtain ⟨ns, a, b, c, rfl, _, _⟩ := h
  show (belows 0 (ns.map D.int) && _) = true
  rw [below_ints ns]; rfl
/-- a call that has the row alone -/
theorem viaR_row {f : DF} {r r' : D} {xs : List D} {z : D} {S' rest : Sto} (h : Row r) (h' : Row r') (hx : belows 0 xs = true) (hz : below 0 z = true) (e : f (.ptr 0 :: xs) [some r] = .ok z (some r' :: S')) :
    viaR f (.ptr 0 :: xs) (some r :: rest) = .ok z (some r' :: rest) := by
  show (if below 0 r = true ∧ belows 0 xs = true then (match f (.ptr 0 :: xs) [some r] with
      | .ok z (some c' :: _) => if below 0 z = true ∧ below 0 c' = true then Out.ok z ((some r :: rest).set 0 (some c')) else .bad
      | .exc k ns vs (some c' :: _) => if belows 0 vs = true ∧ below 0 c' = true then .exc k ns vs ((some r :: rest).set 0 (some c')) else .bad
      | _ => .bad) else .bad) = _
  rw [if_pos ⟨below_row h, hx⟩, e]
  show (if below 0 z = true ∧ below 0 r' = true then Out.ok z ((some r :: rest).set 0 (some r')) else .bad) = _
  rw [if_pos ⟨hz, below_row h'⟩]
  rfl
theorem pickR {r : D} (h : Row r) {many : Int} (h0 : 0 < many) (h1 : many < 1000) : ∃ v r', (∀ rest, viaR F__law_pick [.ptr 0, .int many] (some r :: rest) = .ok (.int v) (some r' :: rest)) ∧ Row r' ∧ 0 ≤ v ∧ v < many := by
  obtain ⟨v, r', e, h', b0, b1⟩ := pick_ok h h0 h1
  exact ⟨v, r', fun rest => viaR_row h h' rfl rfl e, h', b0, b1⟩
theorem word_at {ws : List Str} {v : Int} (h0 : 0 ≤ v) (h1 : v < ws.length) : ∃ w ∈ ws, atI (ws.map D.str) v = some (.str w) := by
  obtain ⟨n, rfl⟩ := Int.eq_ofNat_of_zero_le h0
  have hn : n < ws.length := by simpa using h1
  exact ⟨ws[n], List.getElem_mem hn, by rw [atI_n, List.getElem?_map, List.getElem?_eq_getElem hn]; rfl⟩
theorem put_new {ks vs : List D} {q : Key} {k v : D} (h : dicHas ks q = false) : dicPut ks vs q k v = (ks ++ [k], vs ++ [v]) := by
  unfold dicPut
  rw [if_neg (by rw [h]; exact Bool.false_ne_true)]
def parts : List (Str × List Str) := [("changed", ["newest", "stays"]), ("ends", ["closed", "open"]), ("lengths", ["coming", "nights"]), ("over", ["first", "newest", "strictest"]), ("shut", ["coming", "nights"])]
theorem parts_ok (S : Sto) : viaP F__law_parts [] S = .ok (.lst (parts.map fun p => .tup [.str p.1, .lst (p.2.map .str)])) S := rfl
/-- a word for each -/
def Each : List Str → List (Str × List Str) → Prop
  | [], [] => True
  | w :: ws, p :: ps => w ∈ p.2 ∧ Each ws ps
  | _, _ => False
/-- the loop over the parts -/
theorem rule_loop : ∀ (ps : List (Str × List Str)) (ks vs : List D) (r : D) (t : Lc), (∀ p ∈ ps, 0 < p.2.length ∧ p.2.length < 1000) → ks.length + ps.length < 1000 → (∀ p ∈ ps, dicHas ks (.inr p.1) = false) → (ps.map (·.1)).Nodup → Row r → t.length = 4 → t[0]? = some (some (.ptr 0)) → t[1]? = some (some (.ptr 1)) →
    ∃ ws r' t', dLoop (.tp [2, 3]) (dSetA (dVar 1) (dVar 2) (dOp fIxA (dVar 3) (dCall 2 (viaR F__law_pick) (aCons (dVar 0) (aCons (dB bLen (aCons (dVar 3) aNil)) aNil))))) (ps.map fun p => .tup [.str p.1, .lst (p.2.map .str)]) t [some r, some (.dic ks vs)]
      = .nx t' [some r', some (.dic (ks ++ ps.map fun p => .str p.1) (vs ++ ws.map .str))] ∧ t'[1]? = some (some (.ptr 1)) ∧ Row r' ∧ Each ws ps
  | [], ks, vs, r, t, _, _, _, _, hr, _, _, h1 => ⟨[], r, t, by simp [dLoop], h1, hr, True.intro⟩
  | p :: ps, ks, vs, r, t, hp, hl, hk, hn, hr, ht, h0, h1 => by
    obtain ⟨x, y, z, u, rfl⟩ : ∃ x y z u, t = [x, y, z, u] := by
      match t, ht with
      | [x, y, z, u], _ => exact ⟨x, y, z, u, rfl⟩
    obtain rfl : x = some (.ptr 0) := by simpa using h0
    obtain rfl : y = some (.ptr 1) := by simpa using h1
    obtain ⟨p0, p1⟩ := hp p List.mem_cons_self
    obtain ⟨v, r1, e1, hr1, b0, b1⟩ := pickR hr (many := p.2.length) (by omega) (by omega)
    obtain ⟨w, hw, ew⟩ := word_at b0 b1
    have hkn := hk p List.mem_cons_self
    simp only [List.map_cons] at hn
    obtain ⟨n1, n2⟩ := List.nodup_cons.mp hn
    have hl' : ks.length < 1000 := by simp at hl; omega
    have ih := rule_loop ps (ks ++ [.str p.1]) (vs ++ [.str w]) r1 [some (.ptr 0), some (.ptr 1), some (.str p.1), some (.lst (p.2.map .str))] (fun q hq => hp q (List.mem_cons_of_mem _ hq)) (by simp at hl ⊢; omega) (fun q hq => by
      have h2 := hk q (List.mem_cons_of_mem _ hq)
      have h3 : p.1 ≠ q.1 := fun e => n1 (e ▸ List.mem_map_of_mem hq)
      have g : ∀ ks : List D, dicHas ks (.inr q.1) = false → dicHas (ks ++ [.str p.1]) (.inr q.1) = false := by
        intro ks
        induction ks with
        | nil =>
          intro _
          show (decide (some (Sum.inr p.1 : Key) = some (.inr q.1)) || false) = false
          rw [Bool.or_false]
          exact decide_eq_false fun e => h3 (Sum.inr.inj (Option.some.inj e))
        | cons k ks ih =>
          intro h
          have h' : (decide (keyD k = some (.inr q.1)) || dicHas ks (.inr q.1)) = false := h
          obtain ⟨h4, h5⟩ := Bool.or_eq_false_iff.mp h'
          show (decide (keyD k = some (.inr q.1)) || dicHas (ks ++ [.str p.1]) (.inr q.1)) = false
          rw [h4, ih h5]; rfl
      exact g ks h2) n2 hr1 rfl rfl rfl
    obtain ⟨ws, r', t', e2, ht', hr', hf⟩ := ih
    refine ⟨w :: ws, r', t', ?_, ht', hr', hw, hf⟩
    have put : putAt (.ptr 1) (.str p.1) (.str w) [some r1, some (.dic ks vs)] = some [some r1, some (.dic (ks ++ [.str p.1]) (vs ++ [.str w]))] := by
      show (if ks.length < 1000 then some ([some r1, some (D.dic ks vs)].set 1 (some (.dic (dicPut ks vs (.inr p.1) (.str p.1) (.str w)).1 (dicPut ks vs (.inr p.1) (.str p.1) (.str w)).2))) else none) = _
      rw [if_pos hl', put_new hkn]
      rfl
    have body : dSetA (dVar 1) (dVar 2) (dOp fIxA (dVar 3) (dCall 2 (viaR F__law_pick) (aCons (dVar 0) (aCons (dB bLen (aCons (dVar 3) aNil)) aNil)))) [some (.ptr 0), some (.ptr 1), some (.str p.1), some (.lst (p.2.map .str))] [some r, some (.dic ks vs)] = .nx [some (.ptr 0), some (.ptr 1), some (.str p.1), some (.lst (p.2.map .str))] [some r1, some (.dic (ks ++ [.str p.1]) (vs ++ [.str w]))] := by
      simp [setA_is, e1, ew, put]
    show (match dSetA (dVar 1) (dVar 2) (dOp fIxA (dVar 3) (dCall 2 (viaR F__law_pick) (aCons (dVar 0) (aCons (dB bLen (aCons (dVar 3) aNil)) aNil)))) [some (.ptr 0), some (.ptr 1), some (.str p.1), some (.lst (p.2.map .str))] [some r, some (.dic ks vs)] with
        | .nx t2 S2 => dLoop _ _ (ps.map fun p : Str × List Str => D.tup [.str p.1, .lst (p.2.map .str)]) t2 S2
        | .ct t2 S2 => dLoop _ _ (ps.map fun p : Str × List Str => D.tup [.str p.1, .lst (p.2.map .str)]) t2 S2
        | .bk t2 S2 => .nx t2 S2
        | o => o) = _
    rw [body]
    show dLoop _ _ _ _ _ = _
    rw [e2]
    simp
/-- a drawn rule: a word for each part -/
def RuleW (ws : List Str) : Prop := Each ws parts
theorem rule_ok {r : D} (h : Row r) : ∃ ws r', (∀ rest, viaR F__law_rule [.ptr 0] (some r :: rest) = .ok (.dic PARTS_ks (ws.map .str)) (some r' :: rest)) ∧ Row r' ∧ RuleW ws := by
  obtain ⟨ws, r', t', e, ht', hr', hf⟩ := rule_loop parts [] [] r [some (.ptr 0), some (.ptr 1), none, none] (by decide +kernel) (by decide +kernel) (by decide +kernel) (by decide +kernel) h rfl rfl rfl
  have hb : belows 0 (ws.map D.str) = true := by
    clear e hf
    induction ws with
    | nil => rfl
    | cons w ws ih => exact ih
  refine ⟨ws, r', fun rest => viaR_row (S' := [none]) h hr' rfl (by show (belows 0 PARTS_ks && belows 0 (ws.map D.str)) = true; rw [hb]; rfl) ?_, hr', hf⟩
  show runF 1 4 den__law_rule [.ptr 0] [some r] = _
  have e' : dFor (.tp [2, 3]) (iLst (dCall 0 (viaP F__law_parts) aNil)) (dSetA (dVar 1) (dVar 2) (dOp fIxA (dVar 3) (dCall 2 (viaR F__law_pick) (aCons (dVar 0) (aCons (dB bLen (aCons (dVar 3) aNil)) aNil))))) [some (.ptr 0), some (.ptr 1), none, none] [some r, some (.dic [] [])] = .nx t' [some r', some (.dic PARTS_ks (ws.map .str))] := e
  show (match (match dFor (.tp [2, 3]) (iLst (dCall 0 (viaP F__law_parts) aNil)) (dSetA (dVar 1) (dVar 2) (dOp fIxA (dVar 3) (dCall 2 (viaR F__law_pick) (aCons (dVar 0) (aCons (dB bLen (aCons (dVar 3) aNil)) aNil))))) [some (.ptr 0), some (.ptr 1), none, none] [some r, some (.dic [] [])] with
    | .nx t1 S1 => dRet (dFz (dVar 1)) t1 S1
    | o => o) with
    | .nx _ S1 => Out.ok D.non S1
    | .rt x S1 => .ok x S1
    | .exc _ c ns vs S1 => .exc c ns vs S1
    | _ => .bad) = _
  rw [e']
  simp [dFz, ht']
end GG
set_option Elab.async false
set_option linter.all false
set_option maxRecDepth 100000
set_option maxHeartbeats 1000000
namespace GG
open PySem PyProof.Rows L2 Dl
def marks : List Str := ["least", "most", "nocome", "nogo", "shut"]
theorem cut_to {xs : List D} {n : Nat} (h : n ≤ xs.length) : Dl.cutD xs none (some (n : Nat)) = xs.take n := by
  unfold Dl.cutD
  rw [HT.sIx_nat, HT.sIx_none, Nat.min_eq_left h]
  simp
theorem cut_from {xs : List D} {n : Nat} (h : n ≤ xs.length) : Dl.cutD xs (some (n : Nat)) none = xs.drop n := by
  unfold Dl.cutD
  rw [HT.sIx_nat, HT.sIx_none, Nat.min_eq_left h]
  rw [List.take_of_length_le (by simp)]
abbrev shrink : DS := dSeq (dSet 6 (dCall 2 (viaR F__law_pick) (aCons (dVar 0) (aCons (dB bLen (aCons (dVar 5) aNil)) aNil))))
  (dSet 5 (dOp fAdd (dSl (dVar 5) oNone (oSome (dVar 6))) (dSl (dVar 5) (oSome (dOp fAdd (dVar 6) (dC (.int 1)))) oNone)))
abbrev toomany : DB := bTest (dOp fGt (dB bLen (aCons (dVar 5) aNil)) (dVar 3))
theorem shrink_ok {ms : List Str} (h0 : 0 < ms.length) (h1 : ms.length < 900) {r : D} (h : Row r) (a b c e u : Option D) (rest : Sto) : ∃ (ms' : List Str) (r' : D) (u' : Option D), shrink [some (.ptr 0), a, b, c, e, some (.lst (ms.map .str)), u] (some r :: rest) = .nx [some (.ptr 0), a, b, c, e, some (.lst (ms'.map .str)), u'] (some r' :: rest) ∧
    ms'.length + 1 = ms.length ∧ ms'.Sublist ms ∧ Row r' := by
  obtain ⟨v, r', e1, h', b0, b1⟩ := pickR h (many := ms.length) (by omega) (by omega)
  obtain ⟨n, rfl⟩ := Int.eq_ofNat_of_zero_le b0
  have hn : n < ms.length := by simpa using b1
  refine ⟨ms.take n ++ ms.drop (n + 1), r', some (.int (n : Nat)), ?_, ?_, ?_, h'⟩
  · have c1 : Dl.cutD (ms.map D.str) none (some (n : Nat)) = (ms.take n).map D.str := by
      rw [cut_to (by simp; omega), List.map_take]
    have c2 : Dl.cutD (ms.map D.str) (some ((n : Nat) + 1 : Int)) none = (ms.drop (n + 1)).map D.str := by
      have z := cut_from (xs := ms.map D.str) (n := n + 1) (by simp; omega)
      rw [List.map_drop, ← z]
      rfl
    have ad : ∀ S, fAdd (.lst ((ms.take n).map D.str)) (.lst ((ms.drop (n + 1)).map D.str)) S = .ok (.lst ((ms.take n).map D.str ++ (ms.drop (n + 1)).map D.str)) S := fun S => by
      show (if _ ≤ sizeLine then Out.ok (D.lst _) S else .bad) = _
      rw [if_pos]
      simp only [List.length_map, List.length_take, List.length_drop]
      exact Nat.le_trans (show _ ≤ 900 by omega) (by decide)
    have s1 : ∀ (t : Lc) (S : Sto), t[5]? = some (some (.lst (ms.map .str))) → t[6]? = some (some (.int (n : Nat))) → dSl (dVar 5) oNone (oSome (dVar 6)) t S = .ok (.lst ((ms.take n).map D.str)) S := fun t S q1 q2 => by
      unfold dSl oNone oSome
      simp [q1, q2, deref, c1]
    have s2 : ∀ (t : Lc) (S : Sto), t[5]? = some (some (.lst (ms.map .str))) → t[6]? = some (some (.int (n : Nat))) → dSl (dVar 5) (oSome (dOp fAdd (dVar 6) (dC (.int 1)))) oNone t S = .ok (.lst ((ms.drop (n + 1)).map D.str)) S := fun t S q1 q2 => by
      unfold dSl oNone oSome
      simp [q1, q2, deref, c2]
    simp [e1]
    rw [s1 _ _ rfl rfl]
    simp
    rw [s2 _ _ rfl rfl]
    simp
    rw [← List.map_take, ← List.map_drop, ad]
    simp
  · simp; omega
  · have z : (ms.take n ++ ms.drop (n + 1)).Sublist (ms.take n ++ ms.drop n) := List.Sublist.append (List.Sublist.refl _) (List.drop_sublist_drop_left _ (Nat.le_succ n))
    rwa [List.take_append_drop] at z
theorem while_min : ∀ (k : Nat) {ms : List Str} {r : D} (h : Row r) (a b e u : Option D) (m : Int) (rest : Sto), 0 ≤ m → ms.length < k → ms.length < 900 → ∃ (ms' : List Str) (r' : D) (u' : Option D), dWhile toomany shrink k [some (.ptr 0), a, b, some (.int m), e, some (.lst (ms.map .str)), u] (some r :: rest) = .nx [some (.ptr 0), a, b, some (.int m), e, some (.lst (ms'.map .str)), u'] (some r' :: rest) ∧
    ms'.Sublist ms ∧ Row r' ∧ (m ≤ ms.length → m ≤ ms'.length)
  | 0, ms, r, h, a, b, e, u, m, rest, hm, hk, _ => absurd hk (Nat.not_lt_zero _)
  | k + 1, ms, r, h, a, b, e, u, m, rest, hm, hk, hl => by
    by_cases hc : m < ms.length
    · obtain ⟨ms1, r1, u1, e1, l1, s1, h1⟩ := shrink_ok (by omega) hl h a b (some (.int m)) e u rest
      obtain ⟨ms2, r2, u2, e2, s2, h2, n2⟩ := while_min k h1 a b e u1 m rest hm (by omega) (by omega) (ms := ms1)
      refine ⟨ms2, r2, u2, ?_, s2.trans s1, h2, fun _ => n2 (by omega)⟩
      unfold dWhile
      have t0 : toomany [some (.ptr 0), a, b, some (.int m), e, some (.lst (ms.map .str)), u] (some r :: rest) = .ok true (some r :: rest) := by simp [hc]
      rw [t0]
      show (match shrink _ _ with
        | .nx t2 S2 => dWhile toomany shrink k t2 S2
        | .ct t2 S2 => dWhile toomany shrink k t2 S2
        | .bk t2 S2 => .nx t2 S2
        | o => o) = _
      rw [e1]
      exact e2
    · refine ⟨ms, r, u, ?_, .refl _, h, fun z => z⟩
      unfold dWhile
      have t0 : toomany [some (.ptr 0), a, b, some (.int m), e, some (.lst (ms.map .str)), u] (some r :: rest) = .ok false (some r :: rest) := by simp; omega
      rw [t0]
      rfl
/-- the drawn thing -/
def tD (d m : Int) (ws ms : List Str) : D := .dic [.str "days", .str "most", .str "rule", .str "marks"] [.int d, .int m, .dic PARTS_ks (ws.map .str), .tup (ms.map .str)]
theorem marks_ok (S : Sto) : viaP F__law_marks [] S = .ok (.lst (marks.map .str)) S := rfl
theorem below_strs : ∀ ms : List Str, belows 0 (ms.map D.str) = true
  | [] => rfl
  | m :: ms => below_strs ms
end GG
set_option Elab.async false
set_option linter.all false
set_option maxRecDepth 100000
set_option maxHeartbeats 1000000
namespace GG
open PySem PyProof.Rows L2 Dl
theorem drawn_min {r : D} (h : Row r) {many : Int} (hm : 0 ≤ many) : ∃ d m ws ms r', (∀ rest, viaR F__law_drawn [.ptr 0, .int 4, .int 3, .int many] (some r :: rest) = .ok (tD d m ws ms) (some r' :: rest)) ∧ Row r' ∧ 2 ≤ d ∧ d ≤ 4 ∧ 1 ≤ m ∧ m ≤ 3 ∧ RuleW ws ∧ ms.Sublist marks ∧ (many ≤ 5 → many ≤ ms.length) := by
  obtain ⟨v1, r1, e1, h1, a1, b1⟩ := pickR h (many := 3) (by decide) (by decide)
  obtain ⟨v2, r2, e2, h2, a2, b2⟩ := pickR h1 (many := 3) (by decide) (by decide)
  obtain ⟨ws, r3, e3, h3, hw⟩ := rule_ok h2
  obtain ⟨ms, r4, u4, e4, s4, h4, n4⟩ := while_min 12 h3 (some (.int 4)) (some (.int 3)) (some (.ptr 1)) none many [some (.dic [.str "days", .str "most", .str "rule"] [.int (2 + v1), .int (1 + v2), .dic PARTS_ks (ws.map .str)])] hm (ms := marks) (by decide) (by decide)
  refine ⟨2 + v1, 1 + v2, ws, ms, r4, fun rest => viaR_row (S' := [none]) h h4 rfl ?_ ?_, h4, by omega, by omega, by omega, by omega, hw, s4, n4⟩
  · simp [tD, below, belows, below_strs, show belows 0 PARTS_ks = true from rfl]
  · have disp : dDispC [((dC (.str "days")), (dOp fAdd (dC (.int 2)) (dCall 2 (viaR F__law_pick) (aCons (dVar 0) (aCons (dOp fSub (dVar 1) (dC (.int 1))) aNil))))), ((dC (.str "most")), (dOp fAdd (dC (.int 1)) (dCall 2 (viaR F__law_pick) (aCons (dVar 0) (aCons (dVar 2) aNil))))), ((dC (.str "rule")), (dCall 1 (viaR F__law_rule) (aCons (dVar 0) aNil)))]
        [some (.ptr 0), some (.int 4), some (.int 3), some (.int many), none, none, none] [some r] = .ok (.ptr 1) [some r3, some (.dic [.str "days", .str "most", .str "rule"] [.int (2 + v1), .int (1 + v2), .dic PARTS_ks (ws.map .str)])] := by
      unfold dDispC
      simp only [dPairs]
      simp [e1, e2, e3]
      rfl
    show runF 4 7 den__law_drawn [.ptr 0, .int 4, .int 3, .int many] [some r] = _
    unfold runF den__law_drawn
    simp only [seq_is, set_is, List.map_cons, List.map_nil, List.replicate, List.cons_append, List.nil_append]
    rw [disp]
    simp [marks_ok]
    rw [e4]
    have pt : putAt (.ptr 1) (.str "marks") (.tup (ms.map .str)) [some r4, some (.dic [.str "days", .str "most", .str "rule"] [.int (2 + v1), .int (1 + v2), .dic PARTS_ks (ws.map .str)])] = some [some r4, some (tD (2 + v1) (1 + v2) ws ms)] := by
      have pn := put_new (ks := [.str "days", .str "most", .str "rule"]) (vs := [.int (2 + v1), .int (1 + v2), .dic PARTS_ks (ws.map .str)]) (q := .inr "marks") (k := .str "marks") (v := .tup (ms.map .str)) (by decide +kernel)
      show (if 3 < 1000 then some ([some r4, _].set 1 (some (.dic (dicPut _ _ (.inr "marks") (.str "marks") (.tup (ms.map .str))).1 (dicPut _ _ (.inr "marks") (.str "marks") (.tup (ms.map .str))).2))) else none) = _
      rw [if_pos (by decide), pn]
      rfl
    have bt : ∀ S, bTuple [.lst (ms.map .str)] S = .ok (.tup (ms.map .str)) S := fun S => rfl
    simp [setA_is, bt, pt, dFz]
theorem drawn_ok {r : D} (h : Row r) {many : Int} (hm : 0 ≤ many) : ∃ d m ws ms r', (∀ rest, viaR F__law_drawn [.ptr 0, .int 4, .int 3, .int many] (some r :: rest) = .ok (tD d m ws ms) (some r' :: rest)) ∧ Row r' ∧ 2 ≤ d ∧ d ≤ 4 ∧ 1 ≤ m ∧ m ≤ 3 ∧ RuleW ws ∧ ms.Sublist marks := by
  obtain ⟨d, m, ws, ms, r', e, h', a, b, c, f, g, i, _⟩ := drawn_min h hm
  exact ⟨d, m, ws, ms, r', e, h', a, b, c, f, g, i⟩
end GG
set_option Elab.async false
set_option linter.all false
set_option maxRecDepth 100000
set_option maxHeartbeats 1000000
namespace GG
open PySem PyProof.Rows L2 Dl
def subs {α : Type} : List α → List (List α)
  | [] => [[]]
  | a :: r => (subs r).map (a :: ·) ++ subs r
theorem mem_subs {α : Type} {xs ys : List α} (h : xs.Sublist ys) : xs ∈ subs ys := by
  induction h with
  | slnil => exact List.mem_singleton.mpr rfl
  | cons a _ ih => exact List.mem_append_right _ ih
  | cons_cons a _ ih => exact List.mem_append_left _ (List.mem_map_of_mem ih)
def picks : List (Str × List Str) → List (List Str)
  | [] => [[]]
  | p :: ps => p.2.flatMap fun w => (picks ps).map (w :: ·)
theorem mem_picks : ∀ {ws : List Str} {ps : List (Str × List Str)}, Each ws ps → ws ∈ picks ps
  | [], [], _ => List.mem_singleton.mpr rfl
  | [], _ :: _, h => h.elim
  | _ :: _, [], h => h.elim
  | w :: ws, p :: ps, ⟨h1, h2⟩ => List.mem_flatMap.mpr ⟨w, h1, List.mem_map_of_mem (mem_picks h2)⟩
def okT : Out D → Bool
  | .ok (.bl true) [] => true
  | _ => false
theorem okT_is {o : Out D} (h : okT o = true) : o = .ok (.bl true) [] := by
  unfold okT at h
  split at h
  · rfl
  · cases h
theorem marks_all : (subs marks).all (fun ms => okT (F_are_marks [.tup (ms.map .str)] [])) = true := by decide +kernel
end GG
set_option Elab.async false
set_option linter.all false
set_option maxRecDepth 100000
set_option maxHeartbeats 1000000
namespace GG
open PySem PyProof.Rows L2 Dl
theorem viaP_ok {f : DF} {xs : List D} {r : D} {S S' : Sto} (hx : belows 0 xs = true) (e : f xs [] = .ok r S') (hr : below 0 r = true) : viaP f xs S = .ok r S := by
  show (if belows 0 xs = true then (match f xs [] with
    | .ok r _ => if below 0 r = true then Out.ok r S else .bad
    | .exc c ns vs _ => if belows 0 vs = true then .exc c ns vs S else .bad
    | .bad => .bad) else .bad) = _
  rw [if_pos hx, e]
  show (if below 0 r = true then Out.ok r S else .bad) = _
  rw [if_pos hr]
theorem isint_ok (v : Int) (S : Sto) : viaP F_is_integer [.int v] S = .ok (.bl true) S := rfl
theorem chain_is {f g : D → D → Sto → Out D} {da db dc : DE} {t : Lc} {S : Sto} : dChain f g da db dc t S = (da t S).bind fun x S1 => (db t S1).bind fun y S2 => (f x y S2).bind fun z S3 => match z with
  | .bl true => (dc t S3).bind fun u S4 => g y u S4
  | .bl false => .ok (.bl false) S3
  | _ => .bad := rfl
theorem from_ok {v low high : Int} (h1 : low ≤ v) (h2 : v ≤ high) (S : Sto) : viaP F_is_from [.int v, .int low, .int high] S = .ok (.bl true) S := by
  refine viaP_ok (S' := []) rfl ?_ rfl
  unfold F_is_from runF den_is_from
  simp [dAnd, isint_ok, chain_is, h1, h2]
theorem are_marks_ok {ms : List Str} (h : ms.Sublist marks) (S : Sto) : viaP F_are_marks [.tup (ms.map .str)] S = .ok (.bl true) S :=
  viaP_ok (by show (belows 0 (ms.map .str) && true) = true; rw [below_strs]; rfl) (okT_is (List.all_eq_true.mp marks_all ms (mem_subs h))) rfl
def okN : Out D → Bool
  | .ok .non [] => true
  | _ => false
theorem okN_is {o : Out D} (h : okN o = true) : o = .ok .non [] := by
  unfold okN at h
  split at h
  · rfl
  · cases h
theorem rule_all : (picks parts).all (fun ws => okN (F_check_rule [.dic PARTS_ks (ws.map .str)] [])) = true := by decide +kernel
theorem check_ok {ws : List Str} (h : RuleW ws) (S : Sto) : viaQ F_check_rule [.dic PARTS_ks (ws.map .str)] S = .ok .non S :=
  viaP_ok (by show ((belows 0 PARTS_ks && belows 0 (ws.map .str)) && true) = true; rw [below_strs]; rfl) (okN_is (List.all_eq_true.mp rule_all ws (mem_picks h))) rfl
/-- the book of a drawn thing -/
def bookD (d m : Int) (ws ms : List Str) : D := .obj 0 ["many_days", "cap", "words", "parts"] [.int d, .int m, .tup (ms.map .str), .dic PARTS_ks (ws.map .str)]
theorem ws5 {ws : List Str} (h : RuleW ws) : ∃ a b c d e, ws = [a, b, c, d, e] := by
  match ws, h with
  | [a, b, c, d, e], _ => exact ⟨a, b, c, d, e, rfl⟩
theorem init_ok {d m : Int} {ws ms : List Str} (h1 : 2 ≤ d) (h2 : d ≤ 4) (h3 : 1 ≤ m) (h4 : m ≤ 3) (hw : RuleW ws) (hm : ms.Sublist marks) : F_Book_init [.ptr 0, .int d, .int m, .tup (ms.map .str), .dic PARTS_ks (ws.map .str)] [some (.obj 0 [] [])] = .ok .non [some (bookD d m ws ms)] := by
  have dc : ∀ S, dDc [5] (.nm 5) (dConst PARTS_ks) bYes (dVar 5) (dOp fIxA (dVar 4) (dVar 5)) [some (.ptr 0), some (.int d), some (.int m), some (.tup (ms.map .str)), some (.dic PARTS_ks (ws.map .str)), none] S = .ok (.dic PARTS_ks (ws.map .str)) S := fun S => by
    obtain ⟨a, b, c, d, e, rfl⟩ := ws5 hw
    kernel_rfl
  unfold F_Book_init runF den_Book_init
  have f1 := from_ok h1 h2
  have f2 := from_ok h3 h4
  simp [f1, f2, are_marks_ok hm, check_ok hw]
  clear f1 f2 dc
  obtain ⟨a, b, c, d, e, rfl⟩ := ws5 hw
  kernel_rfl
theorem below_book {d m : Int} {ws ms : List Str} : below 0 (bookD d m ws ms) = true := by
  simp [bookD, below, belows, below_strs, show belows 0 PARTS_ks = true from rfl]
end GG
set_option Elab.async false
set_option linter.all false
set_option maxRecDepth 100000
set_option maxHeartbeats 1000000
namespace GG
open PySem PyProof.Rows L2 Dl
/-- values that are asked about: leaves and tuples -/
def asked : D → Bool
  | .non => true
  | .bl _ => true
  | .int _ => true
  | .str _ => true
  | .tup xs => belows 0 xs
  | _ => false
def intIn (v : D) (lo hi : Int) : Bool := match v with
  | .int i => decide (lo ≤ i) && decide (i ≤ hi)
  | _ => false
theorem asked_below {v : D} (h : asked v = true) : below 0 v = true := by
  cases v with
  | tup xs => exact h
  | non => rfl
  | bl b => rfl
  | int i => rfl
  | str x => rfl
  | _ => cases h
def isI : D → Bool
  | .int _ => true
  | _ => false
theorem integer_is {v : D} (h : asked v = true) (S : Sto) : viaP F_is_integer [v] S = .ok (.bl (isI v)) S := by
  have hb := asked_below h
  refine viaP_ok (S' := []) (by show (below 0 v && true) = true; rw [hb]; rfl) ?_ rfl
  cases v with
  | non => rfl
  | bl b => rfl
  | int i => rfl
  | str x => rfl
  | tup xs => rfl
  | _ => cases h
theorem from_is {v : D} (h : asked v = true) (lo hi : Int) (S : Sto) : viaP F_is_from [v, .int lo, .int hi] S = .ok (.bl (intIn v lo hi)) S := by
  have hb := asked_below h
  refine viaP_ok (S' := []) (by show (below 0 v && (true && (true && true))) = true; rw [hb]; rfl) ?_ rfl
  show runF 3 3 den_is_from [v, .int lo, .int hi] [] = _
  refine run_rt (ret_rt ?_)
  have c : dCall 1 (viaP F_is_integer) (aCons (dVar 0) aNil) [some v, some (.int lo), some (.int hi)] [] = .ok (.bl (isI v)) [] := call_ok (cons_ok (var_ok rfl) nil_is) rfl (integer_is h [])
  cases v with
  | int i =>
    refine (and_t c).trans ?_
    show _ = Out.ok (D.bl (decide (lo ≤ i) && decide (i ≤ hi))) []
    by_cases z : lo ≤ i
    · rw [decide_eq_true z, Bool.true_and, ← Dl.le_int]
      refine chain_t (var_ok rfl) (var_ok rfl) ?_ (var_ok rfl)
      rw [Dl.le_int, decide_eq_true z]
    · rw [decide_eq_false z, Bool.false_and]
      refine chain_f (var_ok rfl) (var_ok rfl) ?_
      rw [Dl.le_int, decide_eq_false z]
  | non => exact and_f c
  | bl b => exact and_f c
  | str x => exact and_f c
  | tup xs => exact and_f c
  | _ => cases h
end GG
set_option Elab.async false
set_option linter.all false
set_option maxRecDepth 100000
set_option maxHeartbeats 1000000
namespace GG
open PySem PyProof.Rows L2 Dl
/-! The mathematics of marks: spans, rules, values. -/
structure Sp where
  first : Int
  last : Int
  mark : Str
  val : Int
deriving DecidableEq
def Sp.D (x : Sp) : D := .tup [.int x.first, .int x.last, .str x.mark, .int x.val]
structure Ru where
  changed : Str
  ends : Str
  lengths : Str
  over : Str
  shut : Str
def Ru.D (r : Ru) : D := .dic PARTS_ks [.str r.changed, .str r.ends, .str r.lengths, .str r.over, .str r.shut]
theorem ru_changed (r : Ru) (S : Sto) : fIxA r.D (.str "changed") S = .ok (.str r.changed) S := by kernel_rfl
theorem ru_ends (r : Ru) (S : Sto) : fIxA r.D (.str "ends") S = .ok (.str r.ends) S := by kernel_rfl
theorem ru_lengths (r : Ru) (S : Sto) : fIxA r.D (.str "lengths") S = .ok (.str r.lengths) S := by kernel_rfl
theorem ru_over (r : Ru) (S : Sto) : fIxA r.D (.str "over") S = .ok (.str r.over) S := by kernel_rfl
theorem ru_shut (r : Ru) (S : Sto) : fIxA r.D (.str "shut") S = .ok (.str r.shut) S := by kernel_rfl
theorem below_ru (r : Ru) : below 0 r.D = true := by kernel_rfl
theorem below_sp (x : Sp) : below 0 x.D = true := rfl
theorem below_sps : ∀ r : List Sp, belows 0 (r.map Sp.D) = true
  | [] => rfl
  | x :: r => by show (below 0 x.D && belows 0 (r.map Sp.D)) = true; rw [below_sp, below_sps r]; rfl
def rowT (r : List Sp) : D := .tup (r.map Sp.D)
theorem below_rowT (r : List Sp) : below 0 (rowT r) = true := below_sps r
/-- the last day that a span covers -/
def endOf (b : Str) (x : Sp) : Int := if b = "closed" then x.last else x.last - 1
def covB (b : Str) (x : Sp) (day : Int) : Bool := decide (x.first ≤ day) && decide (day ≤ endOf b x)
/-- the values of a mark on a day, as the spans stand -/
def vals (b : Str) (row : List Sp) (mark : Str) (day : Int) : List Int := (row.filter fun x => decide (x.mark = mark) && covB b x day).map Sp.val
def lastOf : Int → List Int → Int
  | x, [] => x
  | _, y :: r => lastOf y r
def valOn (r : Ru) (row : List Sp) (mark : Str) (day : Int) : Option Int := match vals r.ends row mark day with
  | [] => none
  | x :: l => some (if r.over = "first" then x else if r.over = "newest" then lastOf x l else if mark = "most" then lowOf x l else topOf x l)
def oD : Option Int → D
  | none => .non
  | some i => .int i
end GG
set_option Elab.async false
set_option linter.all false
set_option maxRecDepth 100000
set_option maxHeartbeats 1000000
namespace GG
open PySem PyProof.Rows L2 Dl
/-! == and in, of numbers, texts, None, and tuples and lists of these. -/
mutual
def good : D → Bool
  | .non => true
  | .int _ => true
  | .str x => PyData.strOk x
  | .tup xs => goods xs
  | .lst xs => goods xs
  | _ => false
def goods : List D → Bool
  | [] => true
  | x :: xs => good x && goods xs
end
mutual
def hgt : D → Nat
  | .tup xs => hgts xs + 1
  | .lst xs => hgts xs + 1
  | _ => 0
def hgts : List D → Nat
  | [] => 0
  | x :: xs => max (hgt x) (hgts xs)
end
mutual
theorem good_lay : ∀ d : D, good d = true → (pd d).canLay0 = true ∧ (pd d).depth = hgt d
  | .non, _ => ⟨rfl, rfl⟩
  | .int _, _ => ⟨rfl, rfl⟩
  | .str x, h => ⟨h, rfl⟩
  | .tup xs, h => by
    obtain ⟨a, b⟩ := goods_lay xs h
    exact ⟨a, by show PyData.depthAll (pds xs) + 1 = hgts xs + 1; rw [b]⟩
  | .lst xs, h => by
    obtain ⟨a, b⟩ := goods_lay xs h
    exact ⟨a, by show PyData.depthAll (pds xs) + 1 = hgts xs + 1; rw [b]⟩
  | .bl _, h => by cases h
  | .rol _, h => by cases h
  | .dic _ _, h => by cases h
  | .dit _ _, h => by cases h
  | .obj _ _ _, h => by cases h
  | .ptr _, h => by cases h
theorem goods_lay : ∀ ds : List D, goods ds = true → PyData.canLayAll0 (pds ds) = true ∧ PyData.depthAll (pds ds) = hgts ds
  | [], _ => ⟨rfl, rfl⟩
  | d :: ds, h => by
    obtain ⟨h1, h2⟩ := Bool.and_eq_true_iff.mp (show (good d && goods ds) = true from h)
    obtain ⟨a, b⟩ := good_lay d h1
    obtain ⟨c, e⟩ := goods_lay ds h2
    refine ⟨?_, ?_⟩
    · show ((pd d).canLay0 && PyData.canLayAll0 (pds ds)) = true
      rw [a, c]; rfl
    · show max (pd d).depth (PyData.depthAll (pds ds)) = max (hgt d) (hgts ds)
      rw [b, e]
end
mutual
theorem eqv_good : ∀ x y : D, good x = true → good y = true → (PyData.eqv (pd x) (pd y) = true ↔ x = y)
  | .non, y, _, hy => by cases y <;> first | (simp [pd, PyData.eqv]; done) | cases hy
  | .int i, y, _, hy => by cases y <;> first | (simp [pd, PyData.eqv]; done) | cases hy
  | .str s, y, _, hy => by cases y <;> first | (simp [pd, PyData.eqv]; done) | cases hy
  | .tup xs, y, hx, hy => by
    cases y with
    | tup ys =>
      have z := eqv_goods xs ys hx hy
      show PyData.eqvAll (pds xs) (pds ys) = true ↔ _
      rw [z]
      exact ⟨fun e => by rw [e], fun e => by cases e; rfl⟩
    | _ => first | (simp [pd, PyData.eqv]; done) | cases hy
  | .lst xs, y, hx, hy => by
    cases y with
    | lst ys =>
      have z := eqv_goods xs ys hx hy
      show PyData.eqvAll (pds xs) (pds ys) = true ↔ _
      rw [z]
      exact ⟨fun e => by rw [e], fun e => by cases e; rfl⟩
    | _ => first | (simp [pd, PyData.eqv]; done) | cases hy
  | .bl _, _, h, _ => by cases h
  | .rol _, _, h, _ => by cases h
  | .dic _ _, _, h, _ => by cases h
  | .dit _ _, _, h, _ => by cases h
  | .obj _ _ _, _, h, _ => by cases h
  | .ptr _, _, h, _ => by cases h
theorem eqv_goods : ∀ xs ys : List D, goods xs = true → goods ys = true → (PyData.eqvAll (pds xs) (pds ys) = true ↔ xs = ys)
  | [], [], _, _ => by simp [pds, PyData.eqvAll]
  | [], _ :: _, _, _ => by simp [pds, PyData.eqvAll]
  | _ :: _, [], _, _ => by simp [pds, PyData.eqvAll]
  | x :: xs, y :: ys, hx, hy => by
    obtain ⟨h1, h2⟩ := Bool.and_eq_true_iff.mp (show (good x && goods xs) = true from hx)
    obtain ⟨h3, h4⟩ := Bool.and_eq_true_iff.mp (show (good y && goods ys) = true from hy)
    have a := eqv_good x y h1 h3
    have b := eqv_goods xs ys h2 h4
    show (PyData.eqv (pd x) (pd y) && PyData.eqvAll (pds xs) (pds ys)) = true ↔ _
    rw [Bool.and_eq_true, a, b, List.cons.injEq]
end
/-- good, and not too deep -/
def fine (d : D) : Bool := good d && decide (hgt d ≤ 60)
theorem fine_shaped {d : D} (h : fine d = true) : SeqAt.shaped (pd d) = true := by
  obtain ⟨h1, h2⟩ := Bool.and_eq_true_iff.mp h
  obtain ⟨a, b⟩ := good_lay d h1
  have h2 := of_decide_eq_true h2
  show ((pd d).canLay0 && decide ((pd d).depth ≤ 64)) = true
  rw [a, b, decide_eq_true (by omega)]; rfl
theorem fine_deref {d : D} (h : fine d = true) (S : Sto) : deref d S = d := by
  cases d with
  | ptr i => cases h
  | _ => rfl
theorem eqG_is {neg : Bool} {x y : D} {p : Prop} [Decidable p] {S : Sto} (hx : fine x = true) (hy : fine y = true) (h : x = y ↔ p) : fEqG neg x y S = .ok (.bl (xor neg (decide p))) S := by
  unfold fEqG
  rw [fine_deref hx, fine_deref hy, fine_shaped hx, fine_shaped hy]
  have e := eqv_good x y (Bool.and_eq_true_iff.mp hx).1 (Bool.and_eq_true_iff.mp hy).1
  rw [h] at e
  have e2 : PyData.eqv (pd x) (pd y) = decide p := by
    by_cases hp : p
    · rw [decide_eq_true hp]; exact e.mpr hp
    · rw [decide_eq_false hp]
      cases q : PyData.eqv (pd x) (pd y) with
      | true => exact absurd (e.mp q) hp
      | false => rfl
  rw [e2]; rfl
theorem eqA_is {neg : Bool} {x y : D} {p : Prop} [Decidable p] {S : Sto} (hx : fine x = true) (hy : fine y = true) (h : x = y ↔ p) : fEqA neg x y S = .ok (.bl (xor neg (decide p))) S := by
  have g := eqG_is (neg := neg) (S := S) hx hy h
  cases x with
  | non => cases y <;> exact g
  | int i => cases y <;> exact g
  | str s =>
    cases y with
    | str u =>
      rw [Dl.eq_str]
      have : decide (s = u) = decide p := by
        by_cases q : s = u
        · rw [decide_eq_true q, decide_eq_true (h.mp (by rw [q]))]
        · rw [decide_eq_false q, decide_eq_false fun z => q (by have := h.mpr z; cases this; rfl)]
      rw [this]
    | _ => exact g
  | tup xs => cases y <;> exact g
  | lst xs => cases y <;> exact g
  | _ => cases hx
theorem in_any {x : D} {ys : List D} (hx : good x = true) (hy : goods ys = true) : ((pds ys).any fun z => PyData.eqv z (pd x)) = true ↔ x ∈ ys := by
  induction ys with
  | nil => simp [pds]
  | cons y ys ih =>
    obtain ⟨h1, h2⟩ := Bool.and_eq_true_iff.mp (show (good y && goods ys) = true from hy)
    show (PyData.eqv (pd y) (pd x) || ((pds ys).any fun z => PyData.eqv z (pd x))) = true ↔ _
    rw [Bool.or_eq_true, ih h2, eqv_good y x h1 hx, List.mem_cons]
    exact ⟨fun e => e.imp Eq.symm id, fun e => e.imp Eq.symm id⟩
theorem goods_fine {ys : List D} (h : fine (.lst ys) = true) : goods ys = true := (Bool.and_eq_true_iff.mp h).1
theorem in_is {neg : Bool} {x y : D} {ys : List D} {p : Prop} [Decidable p] {S : Sto} (hx : fine x = true) (hy : fine (.lst ys) = true) (hi : itemsOf y S = some ys) (hn : ∀ ks vs, deref y S ≠ .dic ks vs) (h : x ∈ ys ↔ p) : fInA neg x y S = .ok (.bl (xor neg (decide p))) S := by
  have e : fInA neg x y S = fInG neg x y S := by
    unfold fInA
    split
    · rename_i ks vs q h1 h2
      exact absurd h1 (hn ks vs)
    · rfl
  rw [e]
  unfold fInG
  rw [hi]
  have hs : SeqAt.shaped (.list (pds ys)) = true := fine_shaped (d := .lst ys) hy
  show (if (SeqAt.shaped (pd (deref x S)) && SeqAt.shaped (.list (pds ys))) = true then Out.ok (D.bl (xor neg ((pds ys).any fun z => PyData.eqv z (pd (deref x S))))) S else .bad) = _
  rw [fine_deref hx, fine_shaped hx, hs]
  have e := in_any (x := x) (ys := ys) (Bool.and_eq_true_iff.mp hx).1 (goods_fine hy)
  rw [h] at e
  have e2 : ((pds ys).any fun z => PyData.eqv z (pd x)) = decide p := by
    by_cases hp : p
    · rw [decide_eq_true hp]; exact e.mpr hp
    · rw [decide_eq_false hp]
      cases q : ((pds ys).any fun z => PyData.eqv z (pd x)) with
      | true => exact absurd (e.mp q) hp
      | false => rfl
  rw [e2]; rfl
theorem in_lst {neg : Bool} {x : D} {ys : List D} {p : Prop} [Decidable p] {S : Sto} (hx : fine x = true) (hy : fine (.lst ys) = true) (h : x ∈ ys ↔ p) : fInA neg x (.lst ys) S = .ok (.bl (xor neg (decide p))) S := in_is hx hy rfl (fun _ _ e => nomatch e) h
theorem in_tup {neg : Bool} {x : D} {ys : List D} {p : Prop} [Decidable p] {S : Sto} (hx : fine x = true) (hy : fine (.lst ys) = true) (h : x ∈ ys ↔ p) : fInA neg x (.tup ys) S = .ok (.bl (xor neg (decide p))) S := in_is hx hy rfl (fun _ _ e => nomatch e) h
/-- lists of fine things -/
theorem fine_list {f : α → D} {xs : List α} {n : Nat} (hn : n < 60) (h : ∀ x ∈ xs, good (f x) = true ∧ hgt (f x) ≤ n) : fine (.lst (xs.map f)) = true := by
  have z : goods (xs.map f) = true ∧ hgts (xs.map f) ≤ n := by
    induction xs with
    | nil => exact ⟨rfl, Nat.zero_le _⟩
    | cons x xs ih =>
      obtain ⟨a, b⟩ := ih fun y hy => h y (List.mem_cons_of_mem _ hy)
      obtain ⟨c, d⟩ := h x List.mem_cons_self
      refine ⟨?_, ?_⟩
      · show (good (f x) && goods (xs.map f)) = true
        rw [c, a]; rfl
      · show max (hgt (f x)) (hgts (xs.map f)) ≤ n
        omega
  show (goods (xs.map f) && decide (hgts (xs.map f) + 1 ≤ 60)) = true
  rw [z.1, decide_eq_true (by omega)]; rfl
theorem fine_tup {xs : List D} : fine (.tup xs) = fine (.lst xs) := rfl
theorem fine_ints (xs : List Int) : fine (.lst (xs.map .int)) = true := fine_list (n := 0) (by decide) fun _ _ => ⟨rfl, Nat.le_refl _⟩
theorem map_inj {α : Type} {f : α → D} (hf : ∀ x y, f x = f y → x = y) : ∀ {xs ys : List α}, xs.map f = ys.map f ↔ xs = ys
  | [], [] => by simp
  | [], _ :: _ => by simp
  | _ :: _, [] => by simp
  | x :: xs, y :: ys => by
    rw [List.map_cons, List.map_cons, List.cons.injEq, List.cons.injEq, map_inj hf]
    exact ⟨fun e => ⟨hf _ _ e.1, e.2⟩, fun e => ⟨by rw [e.1], e.2⟩⟩
theorem lst_inj {α : Type} {f : α → D} (hf : ∀ x y, f x = f y → x = y) {xs ys : List α} : D.lst (xs.map f) = D.lst (ys.map f) ↔ xs = ys := by
  rw [← map_inj hf]
  exact ⟨fun e => D.lst.inj e, fun e => by rw [e]⟩
theorem tup_inj {α : Type} {f : α → D} (hf : ∀ x y, f x = f y → x = y) {xs ys : List α} : D.tup (xs.map f) = D.tup (ys.map f) ↔ xs = ys := by
  rw [← map_inj hf]
  exact ⟨fun e => D.tup.inj e, fun e => by rw [e]⟩
theorem mem_inj {α : Type} {f : α → D} (hf : ∀ x y, f x = f y → x = y) {x : α} {ys : List α} : f x ∈ ys.map f ↔ x ∈ ys := by
  rw [List.mem_map]
  exact ⟨fun ⟨y, hy, e⟩ => hf _ _ e ▸ hy, fun h => ⟨x, h, rfl⟩⟩
theorem int_inj (x y : Int) (e : D.int x = D.int y) : x = y := by cases e; rfl
theorem str_inj (x y : Str) (e : D.str x = D.str y) : x = y := by cases e; rfl
end GG
set_option Elab.async false
set_option linter.all false
set_option maxRecDepth 100000
set_option maxHeartbeats 1000000
namespace GG
open PySem PyProof.Rows L2 Dl
theorem eq_ints {xs ys : List Int} {neg : Bool} {S : Sto} : fEqA neg (.lst (xs.map .int)) (.lst (ys.map .int)) S = .ok (.bl (xor neg (decide (xs = ys)))) S := eqA_is (fine_ints xs) (fine_ints ys) (lst_inj int_inj)
theorem eq_nil {xs : List Int} {S : Sto} : fEqA false (.lst (xs.map .int)) (.lst []) S = .ok (.bl (decide (xs = []))) S := by
  have z := eq_ints (xs := xs) (ys := []) (neg := false) (S := S)
  rw [Bool.false_xor] at z
  exact z
theorem nil_lst (t : Lc) (S : Sto) : dLst aNil t S = .ok (.lst []) S := rfl
theorem intsOf_map : ∀ xs : List Int, Dl.intsOf (xs.map .int) = some xs
  | [] => rfl
  | x :: xs => by show (Dl.intsOf (xs.map .int)).map (x :: ·) = _; rw [intsOf_map xs]; rfl
theorem last_at : ∀ (l : List Int) (x : Int), atI ((x :: l).map D.int) (-1) = some (.int (lastOf x l))
  | [], x => rfl
  | y :: l, x => by
    have ih := last_at l y
    unfold atI ixN at ih ⊢
    simp only [List.length_map, List.length_cons] at ih ⊢
    rw [if_neg (by omega), if_pos (by omega)] at ih ⊢
    have e1 : ((-1 : Int) + (l.length + 1 : Nat)).toNat = l.length := by omega
    have e2 : ((-1 : Int) + (l.length + 1 + 1 : Nat)).toNat = l.length + 1 := by omega
    first
      | (rw [e1] at ih; rw [e2]; exact ih)
      | skip
theorem neg_ok (i : Int) (S : Sto) : fNeg (.int i) S = .ok (.int (-i)) S := rfl
theorem minL_ok (x : Int) (l : List Int) (S : Sto) : bMinL [.lst ((x :: l).map .int)] S = .ok (.int (lowOf x l)) S := by
  show (match Dl.intsOf ((x :: l).map .int) with
    | some (i :: r) => Out.ok (D.int (lowOf i r)) S
    | _ => .bad) = _
  rw [intsOf_map]
theorem maxL_ok (x : Int) (l : List Int) (S : Sto) : bMaxL [.lst ((x :: l).map .int)] S = .ok (.int (topOf x l)) S := by
  show (match Dl.intsOf ((x :: l).map .int) with
    | some (i :: r) => Out.ok (D.int (topOf i r)) S
    | _ => .bad) = _
  rw [intsOf_map]
theorem below_oD (o : Option Int) : below 0 (oD o) = true := by cases o <;> rfl
end GG
set_option Elab.async false
set_option linter.all false
set_option maxRecDepth 100000
set_option maxHeartbeats 1000000
namespace GG
open PySem PyProof.Rows L2 Dl
/-- lo, lo + 1, .. -/
def upFrom (lo : Int) : Nat → List Int
  | 0 => []
  | n + 1 => lo :: upFrom (lo + 1) n
theorem ints_up : ∀ (n : Nat) (lo : Int), intsFrom lo n = (upFrom lo n).map .int
  | 0, _ => rfl
  | n + 1, lo => by rw [Dl.intsFrom, upFrom, List.map_cons, ints_up n]
theorem up_len : ∀ (n : Nat) (lo : Int), (upFrom lo n).length = n
  | 0, _ => rfl
  | n + 1, lo => by rw [upFrom, List.length_cons, up_len n]
theorem up_mem : ∀ (n : Nat) (lo x : Int), x ∈ upFrom lo n ↔ lo ≤ x ∧ x < lo + n
  | 0, lo, x => by simp [upFrom] <;> omega
  | n + 1, lo, x => by
    rw [upFrom, List.mem_cons, up_mem n]
    omega
/-- come .. go - 1 -/
def nightsOf (come go : Int) : List Int := upFrom come (go - come).toNat
def daysFor (word : Str) (come go : Int) : List Int := if word = "coming" then [come] else nightsOf come go
def valsOn (r : Ru) (row : List Sp) (mark : Str) (days : List Int) : List Int := days.filterMap fun d => valOn r row mark d
theorem isN_oD (o : Option Int) (S : Sto) : fIsN true (oD o) .non S = .ok (.bl o.isSome) S := by cases o <;> rfl
theorem some_loop {t : Lc} {os : List (Option Int)} (h4 : t[4]? = some (some (.lst (os.map oD)))) (h6 : 6 < t.length) (ho : os.length < 1000) (S : Sto) :
    dLc [6] (.nm 6) (iLst (dVar 4)) (bTest (dOp (fIsN true) (dVar 6) (dC .non))) (dVar 6) t S = .ok (.lst ((os.filterMap id).map .int)) S := by
  refine lc_ok (ilst_ok (var_ok h4)) ?_
  have z := lc_pure (g := .nm 6) (ta := bTest (dOp (fIsN true) (dVar 6) (dC .non))) (de := dVar 6) (t := wipeD [6] t) (S := S) (xs := os.map oD) (p := fun d => match d with | .non => false | _ => true) (f := fun d => d) (fun d hd => ?_) [] (by simp; exact Nat.lt_of_lt_of_le ho (by decide))
  · rw [z]
    congr 1
    rw [List.nil_append, List.map_id']
    congr 1
    clear h4 ho z
    induction os with
    | nil => rfl
    | cons o os ih =>
      cases o with
      | none => exact ih
      | some i => show D.int i :: _ = D.int i :: _; rw [ih]
  · obtain ⟨o, ho, rfl⟩ := List.mem_map.mp hd
    refine ⟨(wipeD [6] t).set 6 (some (oD o)), rfl, ?_, fun _ => ?_⟩
    · have e : ((wipeD [6] t).set 6 (some (oD o)))[6]? = some (some (oD o)) := by
        show ((t.set 6 none).set 6 (some (oD o)))[6]? = _
        rw [List.getElem?_set_self (by rw [List.length_set]; exact h6)]
      have n := isN_oD o S
      simp [e, n]
      cases o <;> rfl
    · refine var_ok ?_
      show ((t.set 6 none).set 6 (some (oD o)))[6]? = _
      rw [List.getElem?_set_self (by rw [List.length_set]; exact h6)]
end GG
set_option Elab.async false
set_option linter.all false
set_option maxRecDepth 100000
set_option maxHeartbeats 1000000
namespace GG
open PySem PyProof.Rows L2 Dl
def opt (b : Bool) (w : Str) : List Str := if b = true then [w] else []
theorem when_app {cond : DB} {b : Bool} {w : Str} {k : Nat} {t : Lc} {acc : List Str} (hk : t[k]? = some (some (.ptr 0))) (hc : cond t [some (.lst (acc.map .str))] = .ok b [some (.lst (acc.map .str))]) (hl : acc.length < 100) :
    dIfS cond (dExpr (dBM "list" mAppend (dVar k) (aCons (dC (.str w)) aNil))) dSkip t [some (.lst (acc.map .str))] = .nx t [some (.lst ((acc ++ opt b w).map .str))] := by
  cases b with
  | false =>
    rw [ifs_skip hc]
    show SOut.nx t _ = SOut.nx t [some (.lst ((acc ++ []).map .str))]
    rw [List.append_nil]
  | true =>
    rw [ifs_t hc]
    refine (expr_nx (bm_ok (var_ok hk) rfl (cons_ok rfl nil_is) (append_p (p := 0) rfl (by rw [List.length_map]; exact Nat.lt_of_lt_of_le hl (by decide))))).trans ?_
    show SOut.nx t [some (.lst (acc.map .str ++ [.str w]))] = _
    rw [List.map_append]
    rfl
theorem bools_map (f : α → Bool) : ∀ xs : List α, Dl.boolsOf (xs.map fun x => D.bl (f x)) = some (xs.map f)
  | [] => rfl
  | x :: xs => by
    show (Dl.boolsOf (xs.map fun x => D.bl (f x))).map (f x :: ·) = _
    rw [bools_map f xs]; rfl
theorem any_ok (f : α → Bool) (xs : List α) (S : Sto) : bAny [.lst (xs.map fun x => D.bl (f x))] S = .ok (.bl (xs.any f)) S := by
  show (match Dl.boolsOf (xs.map fun x => D.bl (f x)) with
    | some bs => Out.ok (D.bl (bs.any id)) S
    | none => .bad) = _
  rw [bools_map]
  show Out.ok (D.bl ((xs.map f).any id)) S = _
  rw [List.any_map]; rfl
theorem all_ok (f : α → Bool) (xs : List α) (S : Sto) : bAll [.lst (xs.map fun x => D.bl (f x))] S = .ok (.bl (xs.all f)) S := by
  show (match Dl.boolsOf (xs.map fun x => D.bl (f x)) with
    | some bs => Out.ok (D.bl (bs.all id)) S
    | none => .bad) = _
  rw [bools_map]
  show Out.ok (D.bl ((xs.map f).all id)) S = _
  rw [List.all_map]; rfl
/-- a comprehension without a test over numbers -/
theorem each_ok {de : DE} {di : DA} {t : Lc} {S : Sto} {k : Nat} {xs : List α} {e : α → D} {g : α → D} (hi : di t S = .ok (xs.map e) S) (hl : xs.length < 1000) (h : ∀ x ∈ xs, de ((wipeD [k] t).set k (some (e x))) S = .ok (g x) S) : dLc [k] (.nm k) di bYes de t S = .ok (.lst (xs.map g)) S := by
  refine lc_ok hi ?_
  have key : ∀ (ys : List α) (acc : List D), (∀ x ∈ ys, de ((wipeD [k] t).set k (some (e x))) S = .ok (g x) S) → acc.length + ys.length < sizeLine → lcLoop (.nm k) bYes de (wipeD [k] t) (ys.map e) acc S = .ok (acc ++ ys.map g) S := by
    intro ys
    induction ys with
    | nil => intro acc _ _; rw [List.map_nil, List.map_nil, List.append_nil]; rfl
    | cons y ys ih =>
      intro acc hy hs
      rw [List.length_cons] at hs
      rw [List.map_cons, lc_one (g := .nm k) rfl rfl (hy y List.mem_cons_self) (by omega), ih _ (fun x hx => hy x (List.mem_cons_of_mem _ hx)) (by rw [List.length_append, List.length_singleton]; omega)]
      simp
  have z := key xs [] h (by rw [List.length_nil, Nat.zero_add]; exact Nat.lt_of_lt_of_le hl (by decide))
  rwa [List.nil_append] at z
theorem vals_len (r : Ru) (row : List Sp) (mark : Str) (days : List Int) : (valsOn r row mark days).length ≤ days.length := List.length_filterMap_le _ _
/-- what bars a stay -/
def barsOf (r : Ru) (row : List Sp) (come go : Int) : List Str :=
  opt ((valsOn r row "least" (daysFor r.lengths come go)).any fun v => decide (go - come < v)) "least" ++
  opt ((valsOn r row "most" (daysFor r.lengths come go)).any fun v => decide (v < go - come)) "most" ++
  opt (decide (valOn r row "nocome" come = some 1)) "nocome" ++
  opt (decide (valOn r row "nogo" go = some 1)) "nogo" ++
  opt (decide ((1 : Int) ∈ valsOn r row "shut" (daysFor r.shut come go))) "shut"
theorem opt_len (b : Bool) (w : Str) : (opt b w).length ≤ 1 := by cases b <;> simp [opt]
theorem days_len (word : Str) {come go : Int} (h : go < 900) (h0 : 0 ≤ come) : (daysFor word come go).length < 1000 := by
  unfold daysFor nightsOf
  split
  · simp
  · rw [up_len]; omega
theorem eq_one (o : Option Int) {neg : Bool} (S : Sto) : fEqA neg (oD o) (.int 1) S = .ok (.bl (xor neg (decide (o = some 1)))) S := by
  cases o with
  | none => cases neg <;> rfl
  | some i =>
    show fEqA neg (.int i) (.int 1) S = _
    rw [Dl.eq_int]
    have : decide (i = 1) = decide (some i = some 1) := by simp
    rw [this]
theorem one_in (xs : List Int) {neg : Bool} (S : Sto) : fInA neg (.int 1) (.lst (xs.map .int)) S = .ok (.bl (xor neg (decide ((1 : Int) ∈ xs)))) S := in_lst rfl (fine_ints xs) (mem_inj int_inj (x := 1))
end GG
set_option Elab.async false
set_option linter.all false
set_option maxRecDepth 100000
set_option maxHeartbeats 1000000
namespace GG
open PySem PyProof.Rows L2 Dl
abbrev Stay := Int × Int
def stD (s : Stay) : D := .tup [.int s.1, .int s.2]
theorem st_inj (x y : Stay) (e : stD x = stD y) : x = y := by
  obtain ⟨a, b⟩ := x
  obtain ⟨c, d⟩ := y
  have e := D.tup.inj e
  simp at e
  exact Prod.ext e.1 e.2
theorem below_sts {n : Nat} : ∀ xs : List Stay, belows n (xs.map stD) = true
  | [] => rfl
  | x :: xs => below_sts xs
theorem fine_sts (xs : List Stay) : fine (.lst (xs.map stD)) = true := fine_list (n := 1) (by decide) fun _ _ => ⟨rfl, Nat.le_refl _⟩
def staysOf (d : Int) : List Stay := (upFrom 0 d.toNat).flatMap fun c => (upFrom (c + 1) (d - (c + 1)).toNat).map fun g => (c, g)
theorem stays_mem {d : Int} (h1 : 2 ≤ d) (h2 : d ≤ 4) {s : Stay} : s ∈ staysOf d ↔ 0 ≤ s.1 ∧ s.1 < s.2 ∧ s.2 < d := by
  obtain ⟨c, g⟩ := s
  unfold staysOf
  simp only [List.mem_flatMap, List.mem_map, Prod.mk.injEq, up_mem]
  constructor
  · rintro ⟨x, hx, y, hy, e1, e2⟩
    omega
  · rintro ⟨h3, h4, h5⟩
    exact ⟨c, by omega, g, by omega, rfl, rfl⟩
theorem stays_len {d : Int} (h1 : 2 ≤ d) (h2 : d ≤ 4) : (staysOf d).length < 100 := by
  have : d = 2 ∨ d = 3 ∨ d = 4 := by omega
  rcases this with e | e | e <;> subst e <;> decide
def letOf (r : Ru) (row : List Sp) (d : Int) : List Stay := (staysOf d).filter fun s => decide (barsOf r row s.1 s.2 = [])
theorem marks_fine {ws : List Str} (h : ∀ w ∈ ws, w ∈ marks) : fine (.lst (ws.map .str)) = true := fine_list (n := 0) (by decide) fun w hw => ⟨by
  have : ∀ m ∈ marks, PyData.strOk m = true := by decide +kernel
  exact this w (h w hw), Nat.le_refl _⟩
theorem opt_mem {b : Bool} {w x : Str} (h : x ∈ opt b w) : x = w := by
  cases b with
  | true => simpa [opt] using h
  | false => simp [opt] at h
theorem bars_marks {r : Ru} {row : List Sp} {come go : Int} : ∀ w ∈ barsOf r row come go, w ∈ marks := by
  intro w hw
  unfold barsOf at hw
  simp only [List.mem_append] at hw
  rcases hw with (((h | h) | h) | h) | h <;> (rw [opt_mem h]; decide +kernel)
theorem eq_bars (r : Ru) (row : List Sp) (come go : Int) {neg : Bool} (S : Sto) : fEqA neg (.lst ((barsOf r row come go).map .str)) (.lst []) S = .ok (.bl (xor neg (decide (barsOf r row come go = [])))) S :=
  eqA_is (marks_fine bars_marks) rfl (lst_inj str_inj (ys := []))
theorem tup_of (xs : List D) (S : Sto) (h : xs.length < 1000) : bTuple [.lst xs] S = .ok (.tup xs) S := by rfl
theorem let_mem {r : Ru} {row : List Sp} {d : Int} (h1 : 2 ≤ d) (h2 : d ≤ 4) {s : Stay} : s ∈ letOf r row d ↔ (0 ≤ s.1 ∧ s.1 < s.2 ∧ s.2 < d) ∧ barsOf r row s.1 s.2 = [] := by
  unfold letOf
  rw [List.mem_filter, stays_mem h1 h2, decide_eq_true_iff]
theorem let_len {r : Ru} {row : List Sp} {d : Int} (h1 : 2 ≤ d) (h2 : d ≤ 4) : (letOf r row d).length < 100 := Nat.lt_of_le_of_lt (List.length_filter_le _ _) (stays_len h1 h2)
end GG
set_option Elab.async false
set_option linter.all false
set_option maxRecDepth 100000
set_option maxHeartbeats 1000000
namespace GG
open PySem PyProof.Rows L2 Dl
/-- the days to go of the stays that come on a day -/
def endsOf (lt : List Stay) (day : Int) : List Int := (lt.filter fun s => decide (s.1 = day)).map (·.2)
def isHole (lt : List Stay) (day : Int) : Bool := match endsOf lt day with
  | [] => false
  | x :: l => decide (((x :: l).length : Int) ≤ lastOf x l - x)
def holesOf (lt : List Stay) (d : Int) : List Int := (upFrom 0 d.toNat).filter fun day => isHole lt day
def isLone (r : Ru) (row : List Sp) (lt : List Stay) (day : Int) : Bool := !decide (valOn r row "shut" day = some 1) && !lt.any fun s => decide (s.1 ≤ day) && decide (day < s.2)
def loneOf (r : Ru) (row : List Sp) (lt : List Stay) (d : Int) : List Int := (upFrom 0 (d - 1).toNat).filter fun day => isLone r row lt day
/-- a comprehension over stays -/
theorem each_st {ta : DB} {de : DE} {i j : Nat} {t : Lc} {S : Sto} {xs : List Stay} {p : Stay → Bool} {g : Stay → D} (hl : xs.length < 1000) (h : ∀ s ∈ xs, ta (((wipeD [i, j] t).set i (some (.int s.1))).set j (some (.int s.2))) S = .ok (p s) S ∧ (p s = true → de (((wipeD [i, j] t).set i (some (.int s.1))).set j (some (.int s.2))) S = .ok (g s) S)) :
    lcLoop (.tp [i, j]) ta de (wipeD [i, j] t) (xs.map stD) [] S = .ok ((xs.filter p).map g) S := by
  have key : ∀ (ys : List Stay) (acc : List D), (∀ s ∈ ys, ta (((wipeD [i, j] t).set i (some (.int s.1))).set j (some (.int s.2))) S = .ok (p s) S ∧ (p s = true → de (((wipeD [i, j] t).set i (some (.int s.1))).set j (some (.int s.2))) S = .ok (g s) S)) →
      acc.length + ys.length < sizeLine → lcLoop (.tp [i, j]) ta de (wipeD [i, j] t) (ys.map stD) acc S = .ok (acc ++ (ys.filter p).map g) S := by
    intro ys
    induction ys with
    | nil => intro acc _ _; rw [List.map_nil, List.filter_nil, List.map_nil, List.append_nil]; rfl
    | cons y ys ih =>
      intro acc hy hs
      rw [List.length_cons] at hs
      obtain ⟨a, b⟩ := hy y List.mem_cons_self
      have ih' := fun acc h => ih acc (fun x hx => hy x (List.mem_cons_of_mem _ hx)) h
      rw [List.map_cons]
      cases hp : p y with
      | true =>
        rw [hp] at a
        rw [lc_one (g := .tp [i, j]) (x := stD y) rfl a (b hp) (by omega), ih' _ (by rw [List.length_append, List.length_singleton]; omega), List.filter_cons_of_pos hp]
        simp
      | false =>
        rw [hp] at a
        rw [lc_skip (g := .tp [i, j]) (x := stD y) rfl a, ih' _ (by omega), List.filter_cons_of_neg (by rw [hp]; exact Bool.false_ne_true)]
  have z := key xs [] h (by rw [List.length_nil, Nat.zero_add]; exact Nat.lt_of_lt_of_le hl (by decide))
  rwa [List.nil_append] at z
theorem len_lst' (xs : List D) (S : Sto) : bLen [.lst xs] S = .ok (.int xs.length) S := rfl
abbrev holeB : DS := dSeq (dSet 4 (dLc [5, 6] (.tp [5, 6]) (iTpl (dVar 0)) (bTest (dOp (fEqA false) (dVar 5) (dVar 3))) (dVar 6)))
  (dIfS (bAnd (bTest (dOp (fEqA true) (dVar 4) (dLst aNil))) (bTest (dOp fLe (dB bLen (aCons (dVar 4) aNil)) (dOp fSub (dOp fIxA (dVar 4) (dUn fNeg (dC (.int 1)))) (dOp fIxA (dVar 4) (dC (.int 0))))))) (dExpr (dBM "list" mAppend (dVar 2) (aCons (dVar 3) aNil))) dSkip)
theorem app_int {k j : Nat} {t : Lc} {acc : List Int} {i : Int} (hk : t[k]? = some (some (.ptr 0))) (hj : t[j]? = some (some (.int i))) (hl : acc.length < 1000) : dExpr (dBM "list" mAppend (dVar k) (aCons (dVar j) aNil)) t [some (.lst (acc.map .int))] = .nx t [some (.lst ((acc ++ [i]).map .int))] := by
  refine (expr_nx (bm_ok (var_ok hk) rfl (cons_ok (var_ok hj) nil_is) (append_p (p := 0) rfl (by rw [List.length_map]; exact Nat.lt_of_lt_of_le hl (by decide))))).trans ?_
  show SOut.nx t [some (.lst (acc.map .int ++ [.int i]))] = _
  rw [List.map_append]
  rfl
theorem hole_one (lt : List Stay) (d day : Int) (x4 : Option D) (acc : List Int) (hl : lt.length < 100) (ha : acc.length < 1000) :
    ∃ y4, holeB [some (.tup (lt.map stD)), some (.int d), some (.ptr 0), some (.int day), x4, none, none] [some (.lst (acc.map .int))] = .nx [some (.tup (lt.map stD)), some (.int d), some (.ptr 0), some (.int day), y4, none, none] [some (.lst ((acc ++ if isHole lt day = true then [day] else []).map .int))] := by
  let S : Sto := [some (.lst (acc.map .int))]
  let T : Option D → Lc := fun x => [some (.tup (lt.map stD)), some (.int d), some (.ptr 0), some (.int day), x, none, none]
  have z := each_st (ta := bTest (dOp (fEqA false) (dVar 5) (dVar 3))) (de := dVar 6) (i := 5) (j := 6) (t := T x4) (S := S) (xs := lt) (p := fun s => decide (s.1 = day)) (g := fun s => .int s.2) (by omega) (fun s hs => ⟨by
    have e : fEqA false (.int s.1) (.int day) S = .ok (.bl (decide (s.1 = day))) S := by rw [Dl.eq_int, Bool.false_xor]
    exact test_ok (op_ok (var_ok rfl) (var_ok rfl) e), fun _ => var_ok rfl⟩)
  have e0 : (lt.filter fun s => decide (s.1 = day)).map (fun s => D.int s.2) = (endsOf lt day).map .int := by
    unfold endsOf
    rw [List.map_map]; rfl
  rw [e0] at z
  have s1 : dSet 4 (dLc [5, 6] (.tp [5, 6]) (iTpl (dVar 0)) (bTest (dOp (fEqA false) (dVar 5) (dVar 3))) (dVar 6)) (T x4) S = .nx (T (some (.lst ((endsOf lt day).map .int)))) S := set_nx (lc_ok (itpl_ok (var_ok rfl)) z)
  refine ⟨some (.lst ((endsOf lt day).map .int)), (seq_nx s1).trans ?_⟩
  have en := eq_ints (xs := endsOf lt day) (ys := []) (neg := true) (S := S)
  unfold isHole
  cases he : endsOf lt day with
  | nil =>
    rw [he] at en
    have c : bAnd (bTest (dOp (fEqA true) (dVar 4) (dLst aNil))) (bTest (dOp fLe (dB bLen (aCons (dVar 4) aNil)) (dOp fSub (dOp fIxA (dVar 4) (dUn fNeg (dC (.int 1)))) (dOp fIxA (dVar 4) (dC (.int 0)))))) (T (some (.lst (([] : List Int).map .int)))) S = .ok false S :=
      band_f (test_ok (op_ok (var_ok rfl) rfl en))
    rw [ifs_skip c]
    show SOut.nx _ _ = SOut.nx _ [some (.lst ((acc ++ []).map .int))]
    rw [List.append_nil]
  | cons x l =>
    rw [he] at en
    have la := last_at l x
    have a0 : atI ((x :: l).map D.int) 0 = some (.int x) := Dl.at0
    have ix : ∀ (i : Int) (v : D), atI ((x :: l).map D.int) i = some v → fIxA (.lst ((x :: l).map .int)) (.int i) S = .ok v S := fun i v h => by
      show (match atI ((x :: l).map D.int) i with | some d => Out.ok d S | none => .bad) = _
      rw [h]
    have c2 : dOp fLe (dB bLen (aCons (dVar 4) aNil)) (dOp fSub (dOp fIxA (dVar 4) (dUn fNeg (dC (.int 1)))) (dOp fIxA (dVar 4) (dC (.int 0)))) (T (some (.lst ((x :: l).map .int)))) S = .ok (.bl (decide (((x :: l).length : Int) ≤ lastOf x l - x))) S := by
      refine op_ok (x := .int ((x :: l).length : Nat)) (b_ok (cons_ok (var_ok rfl) nil_is) ?_) (op_ok (op_ok (var_ok rfl) (un_ok rfl (neg_ok 1 S)) (ix _ _ la)) (op_ok (var_ok rfl) rfl (ix _ _ a0)) rfl) Dl.le_int
      rw [len_lst', List.length_map]
    have c : bAnd (bTest (dOp (fEqA true) (dVar 4) (dLst aNil))) (bTest (dOp fLe (dB bLen (aCons (dVar 4) aNil)) (dOp fSub (dOp fIxA (dVar 4) (dUn fNeg (dC (.int 1)))) (dOp fIxA (dVar 4) (dC (.int 0)))))) (T (some (.lst ((x :: l).map .int)))) S = .ok (decide (((x :: l).length : Int) ≤ lastOf x l - x)) S :=
      (band_t (test_ok (op_ok (var_ok rfl) rfl (en.trans (by simp))))).trans (test_ok c2)
    cases hb : decide (((x :: l).length : Int) ≤ lastOf x l - x) with
    | false =>
      rw [hb] at c
      rw [ifs_skip c]
      show SOut.nx _ _ = SOut.nx _ [some (.lst ((acc ++ if decide _ = true then [day] else []).map .int))]
      rw [hb]
      show SOut.nx _ _ = SOut.nx _ [some (.lst ((acc ++ []).map .int))]
      rw [List.append_nil]
    | true =>
      rw [hb] at c
      rw [ifs_t c, app_int (k := 2) (j := 3) rfl rfl ha]
      show _ = SOut.nx _ [some (.lst ((acc ++ if decide _ = true then [day] else []).map .int))]
      rw [hb]
      rfl
theorem filter_snoc {α : Type} (p : α → Bool) (x : α) (xs acc : List α) : acc ++ (x :: xs).filter p = (acc ++ if p x = true then [x] else []) ++ xs.filter p := by
  cases h : p x with
  | true => rw [List.filter_cons_of_pos h]; simp
  | false => rw [List.filter_cons_of_neg (by rw [h]; exact Bool.false_ne_true)]; simp
theorem hole_loop (lt : List Stay) (d : Int) (hl : lt.length < 100) : ∀ (days : List Int) (x3 x4 : Option D) (acc : List Int), acc.length + days.length < 1000 →
    ∃ y3 y4, dLoop (.nm 3) holeB (days.map .int) [some (.tup (lt.map stD)), some (.int d), some (.ptr 0), x3, x4, none, none] [some (.lst (acc.map .int))] = .nx [some (.tup (lt.map stD)), some (.int d), some (.ptr 0), y3, y4, none, none] [some (.lst ((acc ++ days.filter fun day => isHole lt day).map .int))]
  | [], x3, x4, acc, _ => ⟨x3, x4, by rw [List.filter_nil, List.append_nil]; rfl⟩
  | day :: days, x3, x4, acc, ha => by
    rw [List.length_cons] at ha
    obtain ⟨y4, e⟩ := hole_one lt d day x4 acc hl (by omega)
    obtain ⟨z3, z4, e2⟩ := hole_loop lt d hl days (some (.int day)) y4 (acc ++ if isHole lt day = true then [day] else []) (by rw [List.length_append]; split <;> simp <;> omega)
    refine ⟨z3, z4, ?_⟩
    rw [filter_snoc, List.map_cons]
    exact (loop_one (t1 := [some (.tup (lt.map stD)), some (.int d), some (.ptr 0), some (.int day), x4, none, none]) rfl e).trans e2
theorem inB_small {j : Int} (h0 : -1000 ≤ j) (h1 : j < 1000) : Dl.inB j := by unfold Dl.inB; omega
end GG
set_option Elab.async false
set_option linter.all false
set_option maxRecDepth 100000
set_option maxHeartbeats 1000000
namespace GG
open PySem PyProof.Rows L2 Dl
/-! What a row of spans tells; the store of such views. -/
def Ru.ws (r : Ru) : List Str := [r.changed, r.ends, r.lengths, r.over, r.shut]
def bkD (d m : Int) (r : Ru) (ms : List Str) : D := bookD d m r.ws ms
theorem bk_parts (d m : Int) (r : Ru) (ms : List Str) : bkD d m r ms = .obj 0 ["many_days", "cap", "words", "parts"] [.int d, .int m, .tup (ms.map .str), r.D] := rfl
theorem attr_v {de : DE} {t : Lc} {S S1 : Sto} {c : Nat} {ns : List Str} {vs : List D} {f : Str} {d : D} (h0 : de t S = .ok (.obj c ns vs) S1) (hl : lookD ns vs f = some d) : dAttr c f de t S = .ok d S1 := by
  unfold dAttr
  rw [h0]
  show (match objOf (.obj c ns vs) S1 with
    | some (c', ns, vs) => if c' = c then (match lookD ns vs f with
      | some d => Out.ok d S1
      | none => .bad) else .bad
    | none => .bad) = _
  show (if c = c then (match lookD ns vs f with
      | some d => Out.ok d S1
      | none => .bad) else .bad) = _
  rw [if_pos rfl, hl]
theorem bk_days {de : DE} {t : Lc} {S S1 : Sto} {d m : Int} {r : Ru} {ms : List Str} (h : de t S = .ok (bkD d m r ms) S1) : dAttr 0 "many_days" de t S = .ok (.int d) S1 := attr_v (h.trans (by rw [bk_parts])) (by kernel_rfl)
theorem bk_cap {de : DE} {t : Lc} {S S1 : Sto} {d m : Int} {r : Ru} {ms : List Str} (h : de t S = .ok (bkD d m r ms) S1) : dAttr 0 "cap" de t S = .ok (.int m) S1 := attr_v (h.trans (by rw [bk_parts])) (by kernel_rfl)
theorem bk_words {de : DE} {t : Lc} {S S1 : Sto} {d m : Int} {r : Ru} {ms : List Str} (h : de t S = .ok (bkD d m r ms) S1) : dAttr 0 "words" de t S = .ok (.tup (ms.map .str)) S1 := attr_v (h.trans (by rw [bk_parts])) (by kernel_rfl)
theorem bk_rule {de : DE} {t : Lc} {S S1 : Sto} {d m : Int} {r : Ru} {ms : List Str} (h : de t S = .ok (bkD d m r ms) S1) : dAttr 0 "parts" de t S = .ok r.D S1 := attr_v (h.trans (by rw [bk_parts])) (by kernel_rfl)
theorem below_bk (d m : Int) (r : Ru) (ms : List Str) : below 0 (bkD d m r ms) = true := by
  rw [bk_parts]
  show (true && (true && (belows 0 (ms.map .str) && (below 0 r.D && true)))) = true
  rw [below_strs, below_ru]; rfl
def viewOf (r : Ru) (d : Int) (row : List Sp) : D := .obj 20 ["stays", "holes", "lone"] [.tup ((letOf r row d).map stD), .lst ((holesOf (letOf r row d) d).map .int), .lst ((loneOf r row (letOf r row d) d).map .int)]
theorem below_view (r : Ru) (d : Int) (row : List Sp) : below 0 (viewOf r d row) = true := by
  show (belows 0 _ && (belows 0 _ && (belows 0 _ && true))) = true
  rw [below_sts, below_ints, below_ints]; rfl
theorem snoc_at {S : Sto} {x : Option D} : (S ++ [x])[S.length]? = some x := by rw [List.getElem?_append_right (Nat.le_refl _), Nat.sub_self]; rfl
theorem snoc_set {S : Sto} {x y : Option D} : (S ++ [x]).set S.length y = S ++ [y] := by rw [List.set_append_right _ _ (Nat.le_refl _), Nat.sub_self]; rfl
theorem setF_snoc {c : Nat} {f : Str} {dx dv : DE} {t : Lc} {S : Sto} {y : D} {ns : List Str} {vs : List D} (hv : dv t (S ++ [some (.obj c ns vs)]) = .ok y (S ++ [some (.obj c ns vs)])) (h0 : dx t (S ++ [some (.obj c ns vs)]) = .ok (.ptr S.length) (S ++ [some (.obj c ns vs)])) (hn : ns.length < 1000) :
    dSetF c f dx dv t (S ++ [some (.obj c ns vs)]) = .nx t (S ++ [some (.obj c (putD f y ns vs).1 (putD f y ns vs).2)]) := by
  have z := setF_p (f := f) hv h0 (snoc_at (S := S)) hn
  rwa [snoc_set] at z
theorem attr_snoc {c : Nat} {f : Str} {dx : DE} {t : Lc} {S : Sto} {y : D} {ns : List Str} {vs : List D} (h0 : dx t (S ++ [some (.obj c ns vs)]) = .ok (.ptr S.length) (S ++ [some (.obj c ns vs)])) (hl : lookD ns vs f = some y) : dAttr c f dx t (S ++ [some (.obj c ns vs)]) = .ok y (S ++ [some (.obj c ns vs)]) := attr_p h0 snoc_at hl
end GG
set_option Elab.async false
set_option linter.all false
set_option maxRecDepth 100000
set_option maxHeartbeats 1000000
namespace GG
open PySem PyProof.Rows L2 Dl
def nkSp (x : Sp) : NestedKey := .tup [.num x.first, .num x.last, .text x.mark, .num x.val]
theorem nk_sp (x : Sp) : nk x.D = some (nkSp x) := rfl
theorem nks_row : ∀ row : List Sp, nks (row.map Sp.D) = some (row.map nkSp)
  | [] => rfl
  | x :: row => by
    show (match nk x.D, nks (row.map Sp.D) with
      | some k, some ks => some (k :: ks)
      | _, _ => none) = _
    rw [nk_sp, nks_row row]; rfl
theorem dep_row : ∀ row : List Sp, NestedKey.depthAll (row.map nkSp) ≤ 1
  | [] => Nat.zero_le _
  | x :: row => by
    have ih := dep_row row
    show max (NestedKey.depth (nkSp x)) (NestedKey.depthAll (row.map nkSp)) ≤ 1
    have : NestedKey.depth (nkSp x) = 1 := rfl
    omega
theorem nkD_row (row : List Sp) : nkD (rowT row) = some (NestedKey.tup (row.map nkSp)) := by
  show (match nks (row.map Sp.D) with
    | some qs => if NestedKey.depthAll qs ≤ 7 then some (NestedKey.tup qs) else none
    | none => none) = _
  rw [nks_row]
  exact if_pos (Nat.le_trans (dep_row row) (by decide))
theorem nkSp_inj (x y : Sp) (h : nkSp x = nkSp y) : x = y := by
  obtain ⟨a, b, c, d⟩ := x
  obtain ⟨e, f, g, i⟩ := y
  have h := NestedKey.tup.inj h
  simp at h
  obtain ⟨rfl, rfl, rfl, rfl⟩ := h
  rfl
theorem nkRow_inj : ∀ {x y : List Sp}, x.map nkSp = y.map nkSp → x = y
  | [], [], _ => rfl
  | [], _ :: _, h => by simp at h
  | _ :: _, [], h => by simp at h
  | x :: xs, y :: ys, h => by
    rw [List.map_cons, List.map_cons] at h
    obtain ⟨a, b⟩ := List.cons.inj h
    rw [nkSp_inj x y a, nkRow_inj b]
theorem row_key {x y : List Sp} : nkD (rowT x) = some (NestedKey.tup (y.map nkSp)) ↔ x = y := by
  rw [nkD_row]
  exact ⟨fun h => nkRow_inj (NestedKey.tup.inj (Option.some.inj h)), fun h => by rw [h]⟩
/-- the views that were asked for -/
def known (r : Ru) (d : Int) (rs : List (List Sp)) : D := .dit (rs.map rowT) (rs.map (viewOf r d))
theorem get_known (r : Ru) (d : Int) (row : List Sp) : ∀ rs : List (List Sp), nGet (rs.map rowT) (rs.map (viewOf r d)) (.tup (row.map nkSp)) = if row ∈ rs then some (viewOf r d row) else none
  | [] => rfl
  | x :: rs => by
    rw [List.map_cons, List.map_cons]
    show (if nkD (rowT x) = some (.tup (row.map nkSp)) then some (viewOf r d x) else nGet (rs.map rowT) (rs.map (viewOf r d)) (.tup (row.map nkSp))) = _
    rw [get_known r d row rs]
    by_cases h : x = row
    · rw [if_pos (row_key.mpr h), if_pos (by rw [h]; exact List.mem_cons_self), h]
    · rw [if_neg (fun e => h (row_key.mp e))]
      by_cases h2 : row ∈ rs
      · rw [if_pos h2, if_pos (List.mem_cons_of_mem _ h2)]
      · rw [if_neg h2, if_neg (by rw [List.mem_cons]; exact fun e => e.elim (fun z => h z.symm) h2)]
def addRow (rs : List (List Sp)) (row : List Sp) : List (List Sp) := if row ∈ rs then rs else rs ++ [row]
theorem put_known (r : Ru) (d : Int) (row : List Sp) (rs : List (List Sp)) (h : row ∉ rs) : D.dit (nPut (rs.map rowT) (rs.map (viewOf r d)) (.tup (row.map nkSp)) (rowT row) (viewOf r d row)).1 (nPut (rs.map rowT) (rs.map (viewOf r d)) (.tup (row.map nkSp)) (rowT row) (viewOf r d row)).2 = known r d (addRow rs row) := by
  unfold nPut addRow known
  rw [get_known, if_neg h, if_neg h]
  simp
def viewsD (d m : Int) (r : Ru) (ms : List Str) (k : Nat) : D := .obj 21 ["book_of", "known"] [bkD d m r ms, .ptr k]
theorem below_known (r : Ru) (d : Int) (rs : List (List Sp)) {n : Nat} : below n (known r d rs) = true := by
  have h1 : ∀ rs : List (List Sp), belows 0 (rs.map rowT) = true := fun rs => by
    induction rs with
    | nil => rfl
    | cons x rs ih => show (below 0 (rowT x) && belows 0 (rs.map rowT)) = true; rw [below_rowT, ih]; rfl
  have h2 : ∀ rs : List (List Sp), belows 0 (rs.map (viewOf r d)) = true := fun rs => by
    induction rs with
    | nil => rfl
    | cons x rs ih => show (below 0 (viewOf r d x) && belows 0 (rs.map (viewOf r d))) = true; rw [below_view, ih]; rfl
  have : below 0 (known r d rs) = true := by show (belows 0 (rs.map rowT) && belows 0 (rs.map (viewOf r d))) = true; rw [h1, h2]; rfl
  exact below_up (Nat.zero_le n) _ this
theorem make_snoc {c n : Nat} {f : DF} {da : DA} {t : Lc} {S : Sto} {xs : List D} {y : D} (h : da t S = .ok xs S) (hl : xs.length + 1 = n) (e : f (.ptr S.length :: xs) (S ++ [some (.obj c [] [])]) = .ok .non (S ++ [some y])) : dFz (dMake c n f da) t S = .ok y (S ++ [none]) := by
  have m : dMake c n f da t S = .ok (.ptr S.length) (S ++ [some y]) := by
    unfold dMake
    rw [h]
    show (if xs.length + 1 = n then (f (.ptr S.length :: xs) (S ++ [some (.obj c [] [])])).bind fun z S2 => match z with
      | .non => Out.ok (D.ptr S.length) S2
      | _ => .bad
      else .bad) = _
    rw [if_pos hl, e]; rfl
  rw [fz_ok m snoc_at, snoc_set]
theorem notin_dit {t : Lc} {S : Sto} {da db : DE} {k : Nat} {x : D} {ks vs : List D} {q : NestedKey} {neg : Bool} (ha : da t S = .ok x S) (hb : db t S = .ok (.ptr k) S) (hk : S[k]? = some (some (.dit ks vs))) (hq : nkD x = some q) : dOp (fInN neg) da db t S = .ok (.bl (xor neg (nGet ks vs q).isSome)) S := by
  refine op_ok ha hb ?_
  unfold fInN
  rw [deref_at hk, hq]
theorem ix_dit {t : Lc} {S : Sto} {da db : DE} {k : Nat} {x y : D} {ks vs : List D} {q : NestedKey} (ha : da t S = .ok (.ptr k) S) (hb : db t S = .ok x S) (hk : S[k]? = some (some (.dit ks vs))) (hq : nkD x = some q) (hg : nGet ks vs q = some y) : dOp fIxN da db t S = .ok y S := by
  refine op_ok ha hb ?_
  unfold fIxN
  rw [deref_at hk, hq]
  show (match nGet ks vs q with | some d => Out.ok d S | none => .bad) = _
  rw [hg]
theorem set_dit {t : Lc} {S S1 : Sto} {dx di dv : DE} {k : Nat} {x y : D} {ks vs : List D} {q : NestedKey} (hv : dv t S = .ok y S1) (hx : dx t S1 = .ok (.ptr k) S1) (hi : di t S1 = .ok x S1) (hk : S1[k]? = some (some (.dit ks vs))) (hq : nkD x = some q) (hl : ks.length < 1000000) :
    dSetN dx di dv t S = .nx t (S1.set k (some (.dit (nPut ks vs q x y).1 (nPut ks vs q x y).2))) := by
  unfold dSetN
  rw [hv]
  show Dl.ofE (dx t S1) t _ = _
  rw [hx]
  show Dl.ofE (di t S1) t _ = _
  rw [hi]
  show (match putAtN (.ptr k) x y S1 with
    | some S4 => SOut.nx t S4
    | none => .bad) = _
  have e : putAtN (.ptr k) x y S1 = some (S1.set k (some (.dit (nPut ks vs q x y).1 (nPut ks vs q x y).2))) := by
    unfold putAtN
    dsimp only
    rw [hk, hq]
    exact if_pos hl
  rw [e]
theorem cells_set {n : Nat} {S : Sto} {k : Nat} {d : D} (h : cellsBelow n S = true) (hd : below n d = true) : cellsBelow n (S.set k (some d)) = true := by
  unfold cellsBelow at h ⊢
  rw [List.all_eq_true] at h ⊢
  intro x hx
  rcases List.mem_or_eq_of_mem_set hx with h1 | h1
  · exact h x h1
  · subst h1; exact hd
theorem set_same {α : Type} : ∀ {l : List α} {k : Nat} {x : α}, l[k]? = some x → l.set k x = l
  | [], _, _, h => by simp at h
  | y :: l, 0, x, h => by simp at h; rw [h]; rfl
  | y :: l, k + 1, x, h => by
    show y :: l.set k x = y :: l
    rw [set_same (by simpa using h)]
theorem set_app {α : Type} {S T : List α} {k : Nat} {x : α} (h : k < S.length) : (S ++ T).set k x = S.set k x ++ T := List.set_append_left _ _ h
end GG
set_option Elab.async false
set_option linter.all false
set_option maxRecDepth 100000
set_option maxHeartbeats 1000000
namespace GG
open PySem PyProof.Rows L2 Dl
/-! Deeds, and the rows that they lead to. -/
inductive Deed where
  | change (i v : Int) | drop (i : Int) | set (s : Sp)
deriving DecidableEq
def Deed.D : Deed → D
  | .change i v => .tup [.str "change", .int i, .int v]
  | .drop i => .tup [.str "drop", .int i]
  | .set s => .tup [.str "set", .int s.first, .int s.last, .str s.mark, .int s.val]
def isLen (m : Str) : Bool := decide (m = "least") || decide (m = "most")
/-- a value for a mark -/
def okVal (m : Str) (v : D) (d : Int) : Bool := if isLen m = true then intIn v 1 d else intIn v 0 1
theorem marks_cases {m : Str} (h : m ∈ marks) : m = "least" ∨ m = "most" ∨ m = "nocome" ∨ m = "nogo" ∨ m = "shut" := by
  simpa only [marks, List.mem_cons, List.not_mem_nil, or_false] using h
/-! ### slices and sums of tuples -/
theorem slt_ok {de : DE} {dl dh : DO} {t : Lc} {S S1 S2 S3 : Sto} {xs : List D} {l h : Option Int} (h1 : de t S = .ok (.tup xs) S1) (h2 : dl t S1 = .ok l S2) (h3 : dh t S2 = .ok h S3) : dSl de dl dh t S = .ok (.tup (Dl.cutD xs l h)) S3 := by
  unfold dSl
  rw [h1]
  show (dl t S1).bind _ = _
  rw [h2]
  show (dh t S2).bind _ = _
  rw [h3]
  rfl
theorem onone (t : Lc) (S : Sto) : oNone t S = .ok none S := rfl
theorem add_tup {xs ys : List D} {S : Sto} (h : xs.length + ys.length ≤ 1000) : fAdd (.tup xs) (.tup ys) S = .ok (.tup (xs ++ ys)) S := by
  show (if xs.length + ys.length ≤ sizeLine then Out.ok (D.tup (xs ++ ys)) S else .bad) = _
  exact if_pos (Nat.le_trans h (by decide))
theorem take_map {α : Type} (f : α → D) (xs : List α) (n : Nat) (h : n ≤ xs.length) : Dl.cutD (xs.map f) none (some (n : Nat)) = (xs.take n).map f := by
  rw [cut_to (by rw [List.length_map]; exact h), List.map_take]
theorem drop_map {α : Type} (f : α → D) (xs : List α) (n : Nat) (h : n ≤ xs.length) : Dl.cutD (xs.map f) (some (n : Nat)) none = (xs.drop n).map f := by
  rw [cut_from (by rw [List.length_map]; exact h), List.map_drop]
/-- spans without one -/
def without (row : List Sp) (n : Nat) : List Sp := row.take n ++ row.drop (n + 1)
def withVal (x : Sp) (v : Int) : Sp := ⟨x.first, x.last, x.mark, v⟩
def changedTo (r : Ru) (d : Int) (row : List Sp) (n : Nat) (v : Int) : Option (List Sp) := match row[n]? with
  | none => none
  | some x => if v = x.val ∨ okVal x.mark (.int v) d = false then none else if r.changed = "newest" then some (without row n ++ [withVal x v]) else some (row.take n ++ withVal x v :: row.drop (n + 1))
def ledTo (d m : Int) (r : Ru) (row : List Sp) : Deed → Option (List Sp)
  | .set s => if (row.length : Int) < m then some (row ++ [s]) else none
  | .drop i => if (row.length : Int) ≤ i then none else some (without row i.toNat)
  | .change i v => if (row.length : Int) ≤ i then none else changedTo r d row i.toNat v
def rowO : Option (List Sp) → D
  | none => .non
  | some row => rowT row
theorem below_rowO (o : Option (List Sp)) : below 0 (rowO o) = true := by
  cases o with
  | none => rfl
  | some row => exact below_rowT row
theorem tstar_ok {de : DE} {dr : DA} {t : Lc} {S S1 S2 : Sto} {xs ys : List D} (h : de t S = .ok (.tup xs) S1) (h2 : dr t S1 = .ok ys S2) : aStar de dr t S = .ok (xs ++ ys) S2 := star_ok h rfl h2
end GG
set_option Elab.async false
set_option linter.all false
set_option maxRecDepth 100000
set_option maxHeartbeats 1000000
namespace GG
open PySem PyProof.Rows L2 Dl
/-! What is a deed, and what it leads to. -/
theorem nofit {ta : DB} {a b : DS} {t : Lc} {S : Sto} (h : ta t S = .ok false S) : dSeq (dIfS ta a dSkip) b t S = b t S := seq_nx (ifs_skip h)
theorem fits {ta : DB} {a b : DS} {t : Lc} {S S1 : Sto} {d : D} (h : ta t S = .ok true S) (h2 : a t S = .rt d S1) : dSeq (dIfS ta a dSkip) b t S = .rt d S1 := seq_rt ((ifs_t h).trans h2)
theorem one_of {ms : List Str} (hm : ∀ w ∈ ms, w ∈ marks) {w : Str} (hw : fine (.str w) = true) (S : Sto) : viaP F_is_one_of [.str w, .tup (ms.map .str)] S = .ok (.bl (decide (w ∈ ms))) S := by
  refine viaP_ok (S' := []) (by show (true && (belows 0 (ms.map .str) && true)) = true; rw [below_strs]; rfl) ?_ rfl
  exact run_rt (ret_rt ((and_t rfl).trans (op_ok (var_ok rfl) (var_ok rfl) ((in_tup hw (marks_fine hm) (mem_inj str_inj)).trans (by rw [Bool.false_xor])))))
def leI (f l : D) : Bool := match f, l with
  | .int a, .int b => decide (a ≤ b)
  | _, _ => false
def okSpan (d : Int) (ms : List Str) (f l : D) (w : Str) (v : D) : Bool := decide (w ∈ ms) && (intIn f 0 (d - 1) && intIn l 0 (d - 1)) && (leI f l && okVal w v d)
theorem int_of {v : D} {a b : Int} (h : intIn v a b = true) : ∃ i, v = .int i := by
  cases v with
  | int i => exact ⟨i, rfl⟩
  | _ => cases h
theorem belows4 {f l v : D} {w : Str} (hf : asked f = true) (hl : asked l = true) (hv : asked v = true) : belows 0 [f, l, .str w, v] = true := by
  show (below 0 f && (below 0 l && (true && (below 0 v && true)))) = true
  rw [asked_below hf, asked_below hl, asked_below hv]; rfl
def okDeed (d m : Int) (ms : List Str) : Deed → Bool
  | .set s => okSpan d ms (.int s.first) (.int s.last) s.mark (.int s.val)
  | .drop i => intIn (.int i) 0 (m - 1)
  | .change i v => intIn (.int i) 0 (m - 1) && intIn (.int v) 0 d
theorem mark_fine {w : Str} (h : w ∈ marks) : fine (.str w) = true := by
  rcases marks_cases h with h | h | h | h | h <;> subst h <;> decide +kernel
theorem below_deed (x : Deed) : below 0 x.D = true := by cases x <;> rfl
end GG
set_option Elab.async false
set_option linter.all false
set_option maxRecDepth 100000
set_option maxHeartbeats 1000000
namespace GG
open PySem PyProof.Rows L2 Dl
/-! What a deed makes worse. -/
inductive Find where
  | hole (day : Int) | lone (day : Int) | looser | tighter
deriving DecidableEq
def Find.D : Find → D
  | .hole i => .tup [.str "hole", .int i]
  | .lone i => .tup [.str "lone", .int i]
  | .looser => .tup [.str "looser", .str ""]
  | .tighter => .tup [.str "tighter", .str ""]
theorem each_if {ta : DB} {de : DE} {k : Nat} {t : Lc} {S : Sto} {α : Type} {e : α → D} {xs : List α} {p : α → Bool} {g : α → D} (hl : xs.length < 1000) (h : ∀ x ∈ xs, ta ((wipeD [k] t).set k (some (e x))) S = .ok (p x) S ∧ (p x = true → de ((wipeD [k] t).set k (some (e x))) S = .ok (g x) S)) :
    lcLoop (.nm k) ta de (wipeD [k] t) (xs.map e) [] S = .ok ((xs.filter p).map g) S := by
  have key : ∀ (ys : List α) (acc : List D), (∀ x ∈ ys, ta ((wipeD [k] t).set k (some (e x))) S = .ok (p x) S ∧ (p x = true → de ((wipeD [k] t).set k (some (e x))) S = .ok (g x) S)) → acc.length + ys.length < sizeLine →
      lcLoop (.nm k) ta de (wipeD [k] t) (ys.map e) acc S = .ok (acc ++ (ys.filter p).map g) S := by
    intro ys
    induction ys with
    | nil => intro acc _ _; simp; rfl
    | cons y ys ih =>
      intro acc hy hs
      simp only [List.length_cons] at hs
      have hy0 := hy y List.mem_cons_self
      have hyr := fun z hz => hy z (List.mem_cons_of_mem y hz)
      simp only [List.map_cons, List.filter_cons]
      by_cases q : p y = true
      · rw [if_pos q, lc_one (g := .nm k) (x := e y) rfl (hy0.1.trans (by rw [q])) (hy0.2 q) (by omega), ih _ hyr (by simp; omega)]
        simp
      · have q' : p y = false := by simpa using q
        rw [if_neg q, lc_skip (g := .nm k) (x := e y) rfl (hy0.1.trans (by rw [q'])), ih _ hyr (by omega)]
  have z := key xs [] h (by simp; exact Nat.lt_of_lt_of_le hl (by decide))
  simpa using z
def Deed.isSet : Deed → Bool
  | .set _ => true
  | _ => false
def Deed.isDrop : Deed → Bool
  | .drop _ => true
  | _ => false
structure Vw where
  stays : List Stay
  holes : List Int
  lone : List Int
def vwOf (r : Ru) (d : Int) (row : List Sp) : Vw := ⟨letOf r row d, holesOf (letOf r row d) d, loneOf r row (letOf r row d) d⟩
def finds0 (b a : Vw) : List Find := (a.holes.filter fun x => decide (x ∉ b.holes)).map .hole ++ (a.lone.filter fun x => decide (x ∉ b.lone)).map .lone
def looserIf (x : Deed) (b a : Vw) : Bool := x.isSet && a.stays.any fun s => decide (s ∉ b.stays)
def tighterIf (x : Deed) (b a : Vw) : Bool := x.isDrop && b.stays.any fun s => decide (s ∉ a.stays)
def finds (x : Deed) (b a : Vw) : List Find := finds0 b a ++ (if looserIf x b a = true then [.looser] else []) ++ (if tighterIf x b a = true then [.tighter] else [])
def Vw.D (v : Vw) : D := .obj 20 ["stays", "holes", "lone"] [.tup (v.stays.map stD), .lst (v.holes.map .int), .lst (v.lone.map .int)]
theorem below_vw (v : Vw) : below 0 v.D = true := by
  show (belows 0 (v.stays.map stD) && (belows 0 (v.holes.map .int) && (belows 0 (v.lone.map .int) && true))) = true
  rw [below_sts, below_ints, below_ints]; rfl
theorem extend_p {S : Sto} {p : Nat} {ys zs : List D} (h : S[p]? = some (some (.lst ys))) (hl : ys.length + zs.length ≤ sizeLine) : mExtend (.ptr p) [.lst zs] S = .ok .non (S.set p (some (.lst (ys ++ zs)))) := by
  unfold mExtend
  have e : deref (.lst zs) S = .lst zs := rfl
  dsimp only
  rw [h, e]
  exact if_pos hl
theorem lcC_ok {vs : List Nat} {g : Tg} {di : DA} {ta : DB} {de : DE} {t : Lc} {S S1 S2 : Sto} {xs ys : List D} (h : di t S = .ok xs S1) (hl : lcLoop g ta de (wipeD vs t) xs [] S1 = .ok ys S2) : dLcC vs g di ta de t S = .ok (.ptr S2.length) (S2 ++ [some (.lst ys)]) := by
  unfold dLcC
  rw [h]
  show (lcLoop g ta de (wipeD vs t) xs [] S1).bind _ = _
  rw [hl]; rfl
theorem below_finds {n : Nat} : ∀ xs : List Find, belows n (xs.map Find.D) = true
  | [] => rfl
  | x :: xs => by
    show (below n x.D && belows n (xs.map Find.D)) = true
    rw [below_finds xs]
    cases x <;> rfl
theorem at_holes {de : DE} {t : Lc} {S : Sto} {v : Vw} (h : de t S = .ok v.D S) : dAttr 20 "holes" de t S = .ok (.lst (v.holes.map .int)) S := attr_v h (by kernel_rfl)
theorem at_lone {de : DE} {t : Lc} {S : Sto} {v : Vw} (h : de t S = .ok v.D S) : dAttr 20 "lone" de t S = .ok (.lst (v.lone.map .int)) S := attr_v h (by kernel_rfl)
theorem at_stays {de : DE} {t : Lc} {S : Sto} {v : Vw} (h : de t S = .ok v.D S) : dAttr 20 "stays" de t S = .ok (.tup (v.stays.map stD)) S := attr_v h (by kernel_rfl)
theorem int_notin (i : Int) (xs : List Int) (S : Sto) : fInA true (.int i) (.lst (xs.map .int)) S = .ok (.bl (decide (i ∉ xs))) S := (in_lst (neg := true) rfl (fine_ints xs) (mem_inj int_inj (x := i))).trans (by rw [Bool.true_xor, decide_not])
theorem st_fine (s : Stay) : fine (stD s) = true := rfl
theorem st_notin (s : Stay) (xs : List Stay) (S : Sto) : fInA true (stD s) (.tup (xs.map stD)) S = .ok (.bl (decide (s ∉ xs))) S := (in_tup (neg := true) (st_fine s) (fine_sts xs) (mem_inj st_inj (x := s))).trans (by rw [Bool.true_xor, decide_not])
/-- one of two endings -/
theorem put_if {cond : DB} {b : Bool} {y : DE} {f : Find} {t : Lc} {acc : List Find} (hc : cond t [some (.lst (acc.map Find.D))] = .ok b [some (.lst (acc.map Find.D))]) (hy : ∀ S, y t S = .ok f.D S) (ht : t[3]? = some (some (.ptr 0))) (hl : acc.length < 1000) :
    dIfS cond (dExpr (dBM "list" mAppend (dVar 3) (aCons y aNil))) dSkip t [some (.lst (acc.map Find.D))] = .nx t [some (.lst ((acc ++ if b = true then [f] else []).map Find.D))] := by
  cases b with
  | false =>
    rw [ifs_skip hc]
    show SOut.nx _ _ = SOut.nx _ [some (.lst ((acc ++ []).map Find.D))]
    rw [List.append_nil]
  | true =>
    rw [ifs_t hc]
    refine (expr_nx (bm_ok (var_ok ht) rfl (cons_ok (hy _) nil_is) (append_p (p := 0) rfl (by rw [List.length_map]; exact Nat.lt_of_lt_of_le hl (by decide))))).trans ?_
    show SOut.nx t [some (.lst (acc.map Find.D ++ [f.D]))] = SOut.nx t [some (.lst ((acc ++ [f]).map Find.D))]
    rw [List.map_append]; rfl
end GG
set_option Elab.async false
set_option linter.all false
set_option maxRecDepth 100000
set_option maxHeartbeats 1000000
namespace GG
open PySem PyProof.Rows L2 Dl
/-! A record in the store, and what takes a deed in. -/
theorem app_get {α : Type} {S l : List α} {i : Nat} : (S ++ l)[S.length + i]? = l[i]? := by rw [List.getElem?_append_right (Nat.le_add_right _ _), Nat.add_sub_cancel_left]
theorem app_put {α : Type} {S l : List α} {i : Nat} {x : α} : (S ++ l).set (S.length + i) x = S ++ l.set i x := by rw [List.set_append_right _ _ (Nat.le_add_right _ _), Nat.add_sub_cancel_left]
theorem meth_v {c N : Nat} {g : Str} {h : DF} {dx : DE} {dr : DA} {t : Lc} {S S1 S2 : Sto} {ns : List Str} {vs xs : List D} (h0 : dx t S = .ok (.obj c ns vs) S1) (hm : ns.contains g = false) (ha : dr t S1 = .ok xs S2) (hl : xs.length + 1 = N) : dMeth c g N h dx dr t S = h (.obj c ns vs :: xs) S2 := by
  unfold dMeth
  rw [h0]
  show (if c = c ∧ ns.contains g = false then (dr t S1).bind fun xs S2 => if xs.length + 1 = N then h (.obj c ns vs :: xs) S2 else .bad else .bad) = _
  rw [if_pos ⟨rfl, hm⟩, ha]
  exact if_pos hl
structure St where
  row : List Sp
  rs : List (List Sp)
  done : List Deed
  noted : List (Nat × Find)
def ntD (x : Nat × Find) : D := .tup [.int x.1, x.2.D]
theorem vw_is (r : Ru) (d : Int) (row : List Sp) : viewOf r d row = (vwOf r d row).D := rfl
def recD (d m : Int) (r : Ru) (ms : List Str) (n : Nat) (row : List Sp) (lt : List Stay) : D := .obj 14 ["source", "views", "at_spans", "row_done", "noted", "let_now"] [bkD d m r ms, viewsD d m r ms (n + 2), rowT row, .ptr (n + 3), .ptr (n + 4), .tup (lt.map stD)]
/-- the five cells of a record, its object's text apart -/
def cells (d m : Int) (r : Ru) (ms : List Str) (n : Nat) (row : List Sp) (lt : List Stay) (rs : List (List Sp)) (done : List Deed) (noted : List (Nat × Find)) : Sto :=
  [some (recD d m r ms n row lt), none, some (known r d rs), some (.lst (done.map Deed.D)), some (.lst (noted.map ntD))]
def recS (d m : Int) (r : Ru) (ms : List Str) (S : Sto) (s : St) : Sto := S ++ cells d m r ms S.length s.row (letOf r s.row d) s.rs s.done s.noted
theorem below_deeds {n : Nat} : ∀ xs : List Deed, belows n (xs.map Deed.D) = true
  | [] => rfl
  | x :: xs => by
    show (below n x.D && belows n (xs.map Deed.D)) = true
    rw [below_up (Nat.zero_le n) _ (below_deed x), below_deeds xs]; rfl
theorem below_noted {n : Nat} : ∀ xs : List (Nat × Find), belows n (xs.map ntD) = true
  | [] => rfl
  | x :: xs => by
    show ((true && (below n x.2.D && true)) && belows n (xs.map ntD)) = true
    rw [below_noted xs]
    cases x.2 <;> rfl
theorem below_rec (d m : Int) (r : Ru) (ms : List Str) (n : Nat) (row : List Sp) (lt : List Stay) : below (n + 5) (recD d m r ms n row lt) = true := by
  show (below (n + 5) (bkD d m r ms) && ((below (n + 5) (bkD d m r ms) && (decide (n + 2 < n + 5) && true)) && (below (n + 5) (rowT row) && (decide (n + 3 < n + 5) && (decide (n + 4 < n + 5) && (belows (n + 5) (lt.map stD) && true)))))) = true
  rw [below_up (Nat.zero_le _) _ (below_bk d m r ms), below_up (Nat.zero_le _) _ (below_rowT row), below_sts, decide_eq_true (show n + 2 < n + 5 by omega), decide_eq_true (show n + 3 < n + 5 by omega), decide_eq_true (show n + 4 < n + 5 by omega)]
  rfl
theorem cells_app {n m : Nat} {S T : Sto} (h : n ≤ m) (hs : cellsBelow n S = true) (ht : cellsBelow m T = true) : cellsBelow m (S ++ T) = true := by
  unfold cellsBelow at *
  rw [List.all_append, ht, Bool.and_true]
  rw [List.all_eq_true] at hs ⊢
  intro x hx
  have z := hs x hx
  cases x with
  | none => rfl
  | some d => exact below_up h _ z
theorem sane_cells {d m : Int} {r : Ru} {ms : List Str} {S : Sto} (hs : Sane S) {row : List Sp} {lt : List Stay} {rs : List (List Sp)} {done : List Deed} {noted : List (Nat × Find)} : Sane (S ++ cells d m r ms S.length row lt rs done noted) := by
  unfold Sane
  rw [List.length_append]
  refine cells_app (Nat.le_add_right _ _) hs ?_
  show (below (S.length + 5) (recD d m r ms S.length row lt) && (true && (below (S.length + 5) (known r d rs) && (belows (S.length + 5) (done.map Deed.D) && (belows (S.length + 5) (noted.map ntD) && true))))) = true
  rw [below_rec, below_known, below_deeds, below_noted]; rfl
def takeIn (d : Int) (r : Ru) (s : St) (x : Deed) (q : List Sp) : St := ⟨q, addRow (addRow s.rs s.row) q, s.done ++ [x], s.noted ++ (finds x (vwOf r d s.row) (vwOf r d q)).map fun f => (s.done.length + 1, f)⟩
theorem add_len (rs : List (List Sp)) (q : List Sp) : (addRow rs q).length ≤ rs.length + 1 := by
  unfold addRow
  split
  · exact Nat.le_succ _
  · simp
theorem add_again (rs : List (List Sp)) (q : List Sp) : addRow (addRow rs q) q = addRow rs q := by
  unfold addRow
  by_cases h : q ∈ rs
  · rw [if_pos h, if_pos h]
  · rw [if_neg h, if_pos (by simp)]
theorem vw_small (r : Ru) {d : Int} (row : List Sp) (h1 : 2 ≤ d) (h2 : d ≤ 4) : (vwOf r d row).holes.length < 100 ∧ (vwOf r d row).lone.length < 100 ∧ (vwOf r d row).stays.length < 100 := by
  refine ⟨Nat.lt_of_le_of_lt (List.length_filter_le _ _) ?_, Nat.lt_of_le_of_lt (List.length_filter_le _ _) ?_, let_len h1 h2⟩
  · rw [up_len]; omega
  · rw [up_len]; omega
theorem finds_len {x : Deed} {b a : Vw} (ha : a.holes.length < 100 ∧ a.lone.length < 100 ∧ a.stays.length < 100) : (finds x b a).length < 300 := by
  have h1 : (a.holes.filter fun x => decide (x ∉ b.holes)).length ≤ a.holes.length := List.length_filter_le _ _
  have h2 : (a.lone.filter fun x => decide (x ∉ b.lone)).length ≤ a.lone.length := List.length_filter_le _ _
  unfold finds finds0
  simp only [List.length_append, List.length_map]
  split <;> split <;> simp only [List.length_cons, List.length_nil] <;> omega
theorem ty_list {S : Sto} {k : Nat} {xs : List D} (h : S[k]? = some (some (.lst xs))) : tyD "list" (.ptr k) S = true := by
  unfold tyD
  rw [deref_at h]; rfl
theorem finds_ten (r : Ru) {d : Int} (h2 : d ≤ 4) {x : Deed} {b : Vw} {q : List Sp} : (finds x b (vwOf r d q)).length ≤ 10 := by
  have h1 : ((vwOf r d q).holes.filter fun x => decide (x ∉ b.holes)).length ≤ 4 := by
    refine Nat.le_trans (List.length_filter_le _ _) (Nat.le_trans (List.length_filter_le _ _) ?_)
    rw [up_len]; omega
  have h2 : ((vwOf r d q).lone.filter fun x => decide (x ∉ b.lone)).length ≤ 4 := by
    refine Nat.le_trans (List.length_filter_le _ _) (Nat.le_trans (List.length_filter_le _ _) ?_)
    rw [up_len]; omega
  unfold finds finds0
  simp only [List.length_append, List.length_map]
  split <;> split <;> simp only [List.length_cons, List.length_nil] <;> omega
theorem len_ptr {S : Sto} {k : Nat} {xs : List D} (h : S[k]? = some (some (.lst xs))) : bLen [.ptr k] S = .ok (.int xs.length) S := by
  unfold bLen
  dsimp only
  rw [deref_at h]
abbrev Sx (d m : Int) (r : Ru) (ms : List Str) (S : Sto) (row : List Sp) (lt : List Stay) (rs : List (List Sp)) (done : List Deed) (noted : List (Nat × Find)) : Sto := S ++ cells d m r ms S.length row lt rs done noted
theorem rec_at {d m : Int} {r : Ru} {ms : List Str} {S : Sto} {t : Lc} {i : Nat} (ht : t[i]? = some (some (.ptr S.length))) {row : List Sp} {lt : List Stay} {rs : List (List Sp)} {done : List Deed} {noted : List (Nat × Find)} {f : Str} {y : D}
    (h : lookD ["source", "views", "at_spans", "row_done", "noted", "let_now"] [bkD d m r ms, viewsD d m r ms (S.length + 2), rowT row, .ptr (S.length + 3), .ptr (S.length + 4), .tup (lt.map stD)] f = some y) : dAttr 14 f (dVar i) t (Sx d m r ms S row lt rs done noted) = .ok y (Sx d m r ms S row lt rs done noted) :=
  attr_p (p := S.length) (var_ok ht) (app_get (i := 0)) h
theorem rec_put {d m : Int} {r : Ru} {ms : List Str} {S : Sto} {t : Lc} {i : Nat} (ht : t[i]? = some (some (.ptr S.length))) {row row2 : List Sp} {lt lt2 : List Stay} {rs rs2 : List (List Sp)} {done : List Deed} {noted : List (Nat × Find)} {f : Str} {y : D} {dv : DE}
    (hv : dv t (Sx d m r ms S row lt rs done noted) = .ok y (Sx d m r ms S row lt rs2 done noted))
    (h : D.obj 14 (putD f y ["source", "views", "at_spans", "row_done", "noted", "let_now"] [bkD d m r ms, viewsD d m r ms (S.length + 2), rowT row, .ptr (S.length + 3), .ptr (S.length + 4), .tup (lt.map stD)]).1 (putD f y ["source", "views", "at_spans", "row_done", "noted", "let_now"] [bkD d m r ms, viewsD d m r ms (S.length + 2), rowT row, .ptr (S.length + 3), .ptr (S.length + 4), .tup (lt.map stD)]).2 = recD d m r ms S.length row2 lt2) :
    dSetF 14 f (dVar i) dv t (Sx d m r ms S row lt rs done noted) = .nx t (Sx d m r ms S row2 lt2 rs2 done noted) := by
  refine (setF_p (p := S.length) hv (var_ok ht) (app_get (i := 0)) (by decide)).trans ?_
  rw [h]
  show SOut.nx t ((S ++ cells d m r ms S.length row lt rs2 done noted).set (S.length + 0) _) = _
  rw [app_put]; rfl
end GG
set_option Elab.async false
set_option linter.all false
set_option maxRecDepth 100000
set_option maxHeartbeats 1000000
namespace GG
open PySem PyProof.Rows L2 Dl
/-! A new record, and what replays deeds. -/
theorem known_nil (r : Ru) (d : Int) : known r d [] = .dit [] [] := rfl
theorem put_end {S : Sto} {c : Nat} {f : Str} {dv : DE} {t : Lc} {S0 : Sto} {y : D} {ns : List Str} {vs : List D} {l : Sto} {i : Nat} (hv : dv t S0 = .ok y (S ++ some (.obj c ns vs) :: l)) (ht : t[i]? = some (some (.ptr S.length))) (hn : ns.length < 1000) :
    dSetF c f (dVar i) dv t S0 = .nx t (S ++ some (.obj c (putD f y ns vs).1 (putD f y ns vs).2) :: l) := by
  refine (setF_p (p := S.length) hv (var_ok ht) (app_get (i := 0)) hn).trans ?_
  show SOut.nx t ((S ++ some (.obj c ns vs) :: l).set (S.length + 0) _) = _
  rw [app_put]; rfl
def st0 : St := ⟨[], [[]], [], []⟩
end GG
set_option Elab.async false
set_option linter.all false
set_option maxRecDepth 100000
set_option maxHeartbeats 1000000
namespace GG
open PySem PyProof.Rows L2 Dl
/-! Deeds replayed. -/
def goOn (d m : Int) (r : Ru) (ms : List Str) : St → List Deed → Option St
  | s, [] => some s
  | s, x :: xs => if okDeed d m ms x = true then (match ledTo d m r s.row x with
    | none => none
    | some q => goOn d m r ms (takeIn d r s x q) xs) else none
def Inv (m : Int) (s : St) : Prop := (∀ x ∈ s.row, x.mark ∈ marks) ∧ (s.row.length : Int) ≤ m ∧ s.rs.length ≤ 2 * s.done.length + 1 ∧ s.noted.length ≤ 10 * s.done.length
theorem shape_of {d m : Int} {ms : List Str} {x : Deed} (h : okDeed d m ms x = true) : (∃ s, x = .set s) ∨ (∃ n : Nat, x = .drop n) ∨ ∃ (n : Nat) (v : Int), x = .change n v := by
  cases x with
  | set s => exact .inl ⟨s, rfl⟩
  | drop i =>
    have h : (decide ((0 : Int) ≤ i) && decide (i ≤ m - 1)) = true := h
    have h0 := of_decide_eq_true (Bool.and_eq_true_iff.mp h).1
    exact .inr (.inl ⟨i.toNat, by rw [Int.toNat_of_nonneg h0]⟩)
  | change i v =>
    have h : ((decide ((0 : Int) ≤ i) && decide (i ≤ m - 1)) && intIn (.int v) 0 d) = true := h
    have h0 := of_decide_eq_true (Bool.and_eq_true_iff.mp (Bool.and_eq_true_iff.mp h).1).1
    exact .inr (.inr ⟨i.toNat, v, by rw [Int.toNat_of_nonneg h0]⟩)
theorem set_mark {d m : Int} {ms : List Str} (hm : ∀ w ∈ ms, w ∈ marks) {x : Deed} (h : okDeed d m ms x = true) : ∀ s, x = .set s → s.mark ∈ marks := by
  rintro s rfl
  have h : (decide (s.mark ∈ ms) && (intIn (.int s.first) 0 (d - 1) && intIn (.int s.last) 0 (d - 1)) && (leI (.int s.first) (.int s.last) && okVal s.mark (.int s.val) d)) = true := h
  exact hm _ (of_decide_eq_true (Bool.and_eq_true_iff.mp (Bool.and_eq_true_iff.mp h).1).1)
theorem without_mem {row : List Sp} {n : Nat} {x : Sp} (h : x ∈ without row n) : x ∈ row := by
  unfold without at h
  rcases List.mem_append.mp h with h | h
  · exact List.mem_of_mem_take h
  · exact List.mem_of_mem_drop h
theorem without_len {row : List Sp} {n : Nat} (h : n < row.length) : (without row n).length = row.length - 1 := by
  unfold without
  simp
  omega
theorem led_marks {d m : Int} {r : Ru} {row q : List Sp} {x : Deed} (hx : ∀ s, x = .set s → s.mark ∈ marks) (hr : ∀ y ∈ row, y.mark ∈ marks) (h : ledTo d m r row x = some q) : ∀ y ∈ q, y.mark ∈ marks := by
  cases x with
  | set s =>
    have h : (if (row.length : Int) < m then some (row ++ [s]) else none) = some q := h
    split at h
    · cases h
      intro y hy
      rcases List.mem_append.mp hy with h1 | h1
      · exact hr y h1
      · rw [List.mem_singleton.mp h1]; exact hx s rfl
    · cases h
  | drop i =>
    have h : (if (row.length : Int) ≤ i then none else some (without row i.toNat)) = some q := h
    split at h
    · cases h
    · cases h
      exact fun y hy => hr y (without_mem hy)
  | change i v =>
    have h : (if (row.length : Int) ≤ i then none else changedTo r d row i.toNat v) = some q := h
    split at h
    · cases h
    · unfold changedTo at h
      split at h
      · cases h
      · rename_i z hz
        have hzm := hr z (List.mem_of_getElem? hz)
        split at h
        · cases h
        · split at h <;> cases h <;> intro y hy
          · rcases List.mem_append.mp hy with h1 | h1
            · exact hr y (without_mem h1)
            · rw [List.mem_singleton.mp h1]; exact hzm
          · rcases List.mem_append.mp hy with h1 | h1
            · exact hr y (List.mem_of_mem_take h1)
            · rcases List.mem_cons.mp h1 with h2 | h2
              · rw [h2]; exact hzm
              · exact hr y (List.mem_of_mem_drop h2)
theorem led_len {d m : Int} {r : Ru} {row q : List Sp} {x : Deed} (hr : (row.length : Int) ≤ m) (hx : (∃ s, x = .set s) ∨ (∃ n : Nat, x = .drop n) ∨ ∃ (n : Nat) (v : Int), x = .change n v) (h : ledTo d m r row x = some q) : (q.length : Int) ≤ m := by
  rcases hx with ⟨s, rfl⟩ | ⟨n, rfl⟩ | ⟨n, v, rfl⟩
  · have h : (if (row.length : Int) < m then some (row ++ [s]) else none) = some q := h
    split at h
    · cases h
      rw [List.length_append, List.length_singleton]
      omega
    · cases h
  · have h : (if (row.length : Int) ≤ (n : Int) then none else some (without row n)) = some q := h
    split at h
    · cases h
    · cases h
      rw [without_len (by omega)]
      omega
  · have h : (if (row.length : Int) ≤ (n : Int) then none else changedTo r d row n v) = some q := h
    split at h
    · cases h
    · rename_i hlt
      unfold changedTo at h
      split at h
      · cases h
      · split at h
        · cases h
        · split at h <;> cases h
          · rw [List.length_append, List.length_singleton, without_len (by omega)]
            omega
          · simp only [List.length_append, List.length_cons, List.length_take, List.length_drop]
            omega
theorem inv_step {d m : Int} {r : Ru} {ms : List Str} (hm : ∀ w ∈ ms, w ∈ marks) (h1 : 2 ≤ d) (h2 : d ≤ 4) {s : St} {x : Deed} {q : List Sp} (ok : okDeed d m ms x = true) (hl : ledTo d m r s.row x = some q) (i : Inv m s) : Inv m (takeIn d r s x q) := by
  obtain ⟨i1, i2, i3, i4⟩ := i
  refine ⟨led_marks (set_mark hm ok) i1 hl, led_len i2 (shape_of ok) hl, ?_, ?_⟩
  · have l1 := add_len s.rs s.row
    have l2 := add_len (addRow s.rs s.row) q
    show (addRow (addRow s.rs s.row) q).length ≤ 2 * (s.done ++ [x]).length + 1
    rw [List.length_append, List.length_singleton]
    omega
  · have fl := finds_ten (r := r) (d := d) h2 (x := x) (b := vwOf r d s.row) (q := q)
    show (s.noted ++ (finds x (vwOf r d s.row) (vwOf r d q)).map _).length ≤ 10 * (s.done ++ [x]).length
    rw [List.length_append, List.length_append, List.length_map, List.length_singleton]
    omega
theorem numb_ok {k : Nat} (h : k < 100) (S : Sto) : okNumb (.int k) S = true := by
  have z : (List.range 100).all (fun k => okNumb (.int (k : Nat)) []) = true := by decide +kernel
  exact List.all_eq_true.mp z k (List.mem_range.mpr h)
theorem inv0 {m : Int} (h : 1 ≤ m) : Inv m st0 := ⟨fun _ h => (nomatch h), by show (0 : Int) ≤ m; omega, by decide, by decide⟩
end GG
set_option Elab.async false
set_option linter.all false
set_option maxRecDepth 100000
set_option maxHeartbeats 1000000
namespace GG
open PySem PyProof.Rows L2 Dl
/-! The law's own deeds. -/
theorem add_lst {xs ys : List D} {S : Sto} (h : xs.length + ys.length ≤ 100000) : fAdd (.lst xs) (.lst ys) S = .ok (.lst (xs ++ ys)) S := by
  show (if xs.length + ys.length ≤ sizeLine then Out.ok (D.lst (xs ++ ys)) S else .bad) = _
  exact if_pos (Nat.le_trans h (by decide))
abbrev tX (d m : Int) (r : Ru) (ms : List Str) : D := tD d m r.ws ms
theorem t_days (d m : Int) (r : Ru) (ms : List Str) (S : Sto) : fIxA (tX d m r ms) (.str "days") S = .ok (.int d) S := by kernel_rfl
theorem t_most (d m : Int) (r : Ru) (ms : List Str) (S : Sto) : fIxA (tX d m r ms) (.str "most") S = .ok (.int m) S := by kernel_rfl
theorem t_rule (d m : Int) (r : Ru) (ms : List Str) (S : Sto) : fIxA (tX d m r ms) (.str "rule") S = .ok r.D S := by kernel_rfl
theorem t_marks (d m : Int) (r : Ru) (ms : List Str) (S : Sto) : fIxA (tX d m r ms) (.str "marks") S = .ok (.tup (ms.map .str)) S := by kernel_rfl
theorem below_t (d m : Int) (r : Ru) (ms : List Str) : below 0 (tX d m r ms) = true := by
  show (belows 0 [.str "days", .str "most", .str "rule", .str "marks"] && (true && (true && (below 0 r.D && (belows 0 (ms.map .str) && true))))) = true
  rw [below_ru, below_strs]; rfl
def valuesOf (d : Int) (w : Str) : List Int := if isLen w = true then upFrom 1 d.toNat else [0, 1]
theorem values_len {d : Int} (h2 : d ≤ 4) (w : Str) : (valuesOf d w).length ≤ 4 := by
  unfold valuesOf
  split
  · rw [up_len]; omega
  · decide
theorem values_mem {d : Int} (h1 : 2 ≤ d) {w : Str} {v : Int} : v ∈ valuesOf d w ↔ okVal w (.int v) d = true := by
  unfold valuesOf okVal
  split
  · rw [up_mem]
    show _ ↔ (decide (1 ≤ v) && decide (v ≤ d)) = true
    rw [Bool.and_eq_true, decide_eq_true_iff, decide_eq_true_iff]
    omega
  · show _ ↔ (decide (0 ≤ v) && decide (v ≤ 1)) = true
    rw [Bool.and_eq_true, decide_eq_true_iff, decide_eq_true_iff]
    simp
    omega
/-- a loop that puts lists together -/
theorem loop_cat {α β : Type} {k : Nat} {B : DS} {e : α → D} {enc : β → D} {f : α → List β} {P : Lc → Prop} {S : Sto} : ∀ (xs : List α), (∀ x ∈ xs, ∀ (acc : List β) (t : Lc), P t → t[1]? = some (some (.lst (acc.map enc))) → acc.length + (f x).length ≤ 100000 → ∃ t', B (t.set k (some (e x))) S = .nx t' S ∧ P t' ∧ t'[1]? = some (some (.lst ((acc ++ f x).map enc)))) →
    ∀ (acc : List β) (t : Lc), P t → t[1]? = some (some (.lst (acc.map enc))) → acc.length + (xs.flatMap f).length ≤ 100000 → ∃ t', dLoop (.nm k) B (xs.map e) t S = .nx t' S ∧ P t' ∧ t'[1]? = some (some (.lst ((acc ++ xs.flatMap f).map enc)))
  | [], _, acc, t, hP, ha, _ => ⟨t, rfl, hP, by simpa using ha⟩
  | x :: xs, h, acc, t, hP, ha, hl => by
    rw [List.flatMap_cons, List.length_append] at hl
    obtain ⟨t1, e1, p1, a1⟩ := h x List.mem_cons_self acc t hP ha (by omega)
    obtain ⟨t2, e2, p2, a2⟩ := loop_cat xs (fun y hy => h y (List.mem_cons_of_mem _ hy)) (acc ++ f x) t1 p1 a1 (by rw [List.length_append]; omega)
    refine ⟨t2, (loop_one (t1 := t.set k (some (e x))) rfl e1).trans e2, p2, ?_⟩
    rw [a2, List.flatMap_cons, List.append_assoc]
theorem flat_len {α β : Type} {f : α → List β} {c : Nat} : ∀ {xs : List α}, (∀ x ∈ xs, (f x).length ≤ c) → (xs.flatMap f).length ≤ xs.length * c
  | [], _ => by simp
  | x :: xs, h => by
    rw [List.flatMap_cons, List.length_append, List.length_cons, Nat.succ_mul]
    have a := h x List.mem_cons_self
    have b := flat_len (f := f) (fun y hy => h y (List.mem_cons_of_mem _ hy)) (xs := xs)
    omega
def spansAt (d : Int) (f l : Int) (w : Str) : List Sp := (valuesOf d w).map fun v => ⟨f, l, w, v⟩
def spansOf (d : Int) (ms : List Str) : List Sp := (upFrom 0 d.toNat).flatMap fun f => (upFrom f (d - f).toNat).flatMap fun l => ms.flatMap fun w => spansAt d f l w
theorem at_len {d f l : Int} {w : Str} (h2 : d ≤ 4) : (spansAt d f l w).length ≤ 4 := by unfold spansAt; rw [List.length_map]; exact values_len h2 w
theorem last_len {d f l : Int} {ms : List Str} (hs : ms.length ≤ 5) (h2 : d ≤ 4) : (ms.flatMap fun w => spansAt d f l w).length ≤ 20 := by
  have := flat_len (f := fun w => spansAt d f l w) (c := 4) (xs := ms) fun w _ => at_len h2
  omega
theorem first_len {d f : Int} {ms : List Str} (hs : ms.length ≤ 5) (h0 : 0 ≤ f) (h2 : d ≤ 4) : ((upFrom f (d - f).toNat).flatMap fun l => ms.flatMap fun w => spansAt d f l w).length ≤ 80 := by
  have z := flat_len (f := fun l => ms.flatMap fun w => spansAt d f l w) (c := 20) (xs := upFrom f (d - f).toNat) fun l _ => last_len hs h2
  rw [up_len] at z
  have : (d - f).toNat ≤ 4 := by omega
  omega
theorem spans_len {d : Int} {ms : List Str} (hs : ms.length ≤ 5) (h2 : d ≤ 4) : (spansOf d ms).length ≤ 320 := by
  have z := flat_len (f := fun f => (upFrom f (d - f).toNat).flatMap fun l => ms.flatMap fun w => spansAt d f l w) (c := 80) (xs := upFrom 0 d.toNat) fun f hf => first_len hs ((up_mem _ _ _).mp hf).1 h2
  rw [up_len] at z
  have : d.toNat ≤ 4 := by omega
  show (List.flatMap _ _).length ≤ 320
  omega
end GG
set_option Elab.async false
set_option linter.all false
set_option maxRecDepth 100000
set_option maxHeartbeats 1000000
namespace GG
open PySem PyProof.Rows L2 Dl
def changesOf (d m : Int) : List Deed := (upFrom 0 m.toNat).flatMap fun k => (upFrom 0 (d + 1).toNat).map fun v => .change k v
def everyOf (d m : Int) (ms : List Str) : List Deed := changesOf d m ++ (upFrom 0 m.toNat).map .drop ++ (spansOf d ms).map .set
theorem changes_len {d m : Int} (h2 : d ≤ 4) (m3 : m ≤ 3) : (changesOf d m).length ≤ 15 := by
  have z := flat_len (f := fun k => (upFrom 0 (d + 1).toNat).map fun v => Deed.change k v) (c := 5) (xs := upFrom 0 m.toNat) fun k _ => by rw [List.length_map, up_len]; omega
  rw [up_len] at z
  have : m.toNat ≤ 3 := by omega
  show (List.flatMap _ _).length ≤ 15
  omega
theorem every_len {d m : Int} {ms : List Str} (hs : ms.length ≤ 5) (h2 : d ≤ 4) (m3 : m ≤ 3) : (everyOf d m ms).length ≤ 400 := by
  have a := changes_len h2 m3
  have b := spans_len (d := d) hs h2
  unfold everyOf
  rw [List.length_append, List.length_append, List.length_map, List.length_map, up_len]
  omega
theorem row_at {row : List Sp} {n : Nat} {z : Sp} (h : row[n]? = some z) (S : Sto) : fIxA (rowT row) (.int (n : Nat)) S = .ok z.D S := by
  show (match atI (row.map Sp.D) (n : Nat) with | some d => Out.ok d S | none => .bad) = _
  rw [atI_n, List.getElem?_map, h]; rfl
end GG
set_option Elab.async false
set_option linter.all false
set_option maxRecDepth 100000
set_option maxHeartbeats 1000000
namespace GG
open PySem PyProof.Rows L2 Dl
/-! The law's histories. -/
theorem spans_mem {d : Int} {ms : List Str} (h1 : 2 ≤ d) {s : Sp} : s ∈ spansOf d ms ↔ (0 ≤ s.first ∧ s.first ≤ s.last ∧ s.last < d) ∧ s.mark ∈ ms ∧ okVal s.mark (.int s.val) d = true := by
  unfold spansOf spansAt
  simp only [List.mem_flatMap, List.mem_map]
  constructor
  · rintro ⟨f, hf, l, hl, w, hw, v, hv, rfl⟩
    have hf := (up_mem _ _ _).mp hf
    have hl := (up_mem _ _ _).mp hl
    exact ⟨⟨hf.1, hl.1, by show l < d; omega⟩, hw, (values_mem h1).mp hv⟩
  · rintro ⟨⟨a, b, c⟩, hw, hv⟩
    exact ⟨s.first, (up_mem _ _ _).mpr ⟨a, by omega⟩, s.last, (up_mem _ _ _).mpr ⟨b, by omega⟩, s.mark, hw, s.val, (values_mem h1).mpr hv, rfl⟩
theorem intIn_iff {i a b : Int} : intIn (.int i) a b = true ↔ a ≤ i ∧ i ≤ b := by
  show (decide (a ≤ i) && decide (i ≤ b)) = true ↔ _
  rw [Bool.and_eq_true, decide_eq_true_iff, decide_eq_true_iff]
/-- the law's deeds are the deeds -/
theorem every_mem {d m : Int} {ms : List Str} (h1 : 2 ≤ d) (m1 : 1 ≤ m) {x : Deed} : x ∈ everyOf d m ms ↔ okDeed d m ms x = true := by
  unfold everyOf changesOf
  simp only [List.mem_append, List.mem_flatMap, List.mem_map]
  cases x with
  | set s =>
    show _ ↔ okSpan d ms (.int s.first) (.int s.last) s.mark (.int s.val) = true
    constructor
    · rintro ((⟨k, _, v, _, e⟩ | ⟨k, _, e⟩) | ⟨s', hs, e⟩)
      · cases e
      · cases e
      · cases e
        obtain ⟨⟨a, b, c⟩, hw, hv⟩ := (spans_mem h1).mp hs
        unfold okSpan
        rw [decide_eq_true hw, intIn_iff.mpr ⟨a, by omega⟩, intIn_iff.mpr ⟨by omega, by omega⟩, hv]
        show (true && (true && true) && (decide (s.first ≤ s.last) && true)) = true
        rw [decide_eq_true b]; rfl
    · intro h
      unfold okSpan at h
      simp only [Bool.and_eq_true] at h
      obtain ⟨⟨hw, h3, h4⟩, h5, h6⟩ := h
      have h5 := of_decide_eq_true (show decide (s.first ≤ s.last) = true from h5)
      have h3 := intIn_iff.mp h3
      have h4 := intIn_iff.mp h4
      exact .inr ⟨s, (spans_mem h1).mpr ⟨⟨h3.1, h5, by omega⟩, of_decide_eq_true hw, h6⟩, rfl⟩
  | drop i =>
    show _ ↔ intIn (.int i) 0 (m - 1) = true
    rw [intIn_iff]
    constructor
    · rintro ((⟨k, _, v, _, e⟩ | ⟨k, hk, e⟩) | ⟨s', hs, e⟩)
      · cases e
      · cases e
        have := (up_mem _ _ _).mp hk
        omega
      · cases e
    · intro h
      exact .inl (.inr ⟨i, (up_mem _ _ _).mpr ⟨h.1, by omega⟩, rfl⟩)
  | change i v =>
    show _ ↔ (intIn (.int i) 0 (m - 1) && intIn (.int v) 0 d) = true
    rw [Bool.and_eq_true, intIn_iff, intIn_iff]
    constructor
    · rintro ((⟨k, hk, v, hv, e⟩ | ⟨k, hk, e⟩) | ⟨s', hs, e⟩)
      · cases e
        have := (up_mem _ _ _).mp hk
        have := (up_mem _ _ _).mp hv
        omega
      · cases e
      · cases e
    · intro h
      exact .inl (.inl ⟨i, (up_mem _ _ _).mpr ⟨h.1.1, by omega⟩, v, (up_mem _ _ _).mpr ⟨h.2.1, by omega⟩, rfl⟩)
theorem deed_good {x : Deed} (h : ∀ s, x = .set s → s.mark ∈ marks) : good x.D = true ∧ hgt x.D ≤ 1 := by
  cases x with
  | drop i => exact ⟨by kernel_rfl, Nat.le_refl 1⟩
  | change i v => exact ⟨by kernel_rfl, Nat.le_refl 1⟩
  | set s =>
    obtain ⟨f, l, w, v⟩ := s
    rcases marks_cases (h _ rfl) with h | h | h | h | h <;> dsimp only at h <;> subst h <;> exact ⟨by kernel_rfl, Nat.le_refl 1⟩
theorem deeds_fine {xs : List Deed} (h : ∀ x ∈ xs, ∀ s, x = .set s → s.mark ∈ marks) : fine (.lst (xs.map Deed.D)) = true := fine_list (n := 1) (by decide) fun x hx => deed_good (h x hx)
theorem sp_eq {a b : Sp} (h : a.D = b.D) : a = b := by
  obtain ⟨f, l, w, v⟩ := a
  obtain ⟨f', l', w', v'⟩ := b
  have h := D.tup.inj h
  simp at h
  obtain ⟨rfl, rfl, rfl, rfl⟩ := h
  rfl
theorem deed_inj (x y : Deed) (h : x.D = y.D) : x = y := by
  cases x <;> cases y <;> unfold Deed.D at h <;> have h := D.tup.inj h <;> simp at h
  · obtain ⟨rfl, rfl⟩ := h; rfl
  · rw [h]
  · obtain ⟨a, b, c, e⟩ := h
    rename_i s s'
    obtain ⟨f, l, w, v⟩ := s
    obtain ⟨f', l', w', v'⟩ := s'
    dsimp only at a b c e
    subst a b c e
    rfl
theorem eq_deeds {neg : Bool} {xs : List Deed} (h : ∀ x ∈ xs, ∀ s, x = .set s → s.mark ∈ marks) (S : Sto) : fEqA neg (.lst (xs.map Deed.D)) (.lst []) S = .ok (.bl (xor neg (decide (xs = [])))) S :=
  eqA_is (deeds_fine h) rfl (lst_inj deed_inj (ys := []))
theorem isN_row (o : Option (List Sp)) (S : Sto) : fIsN true (rowO o) .non S = .ok (.bl o.isSome) S := by cases o <;> rfl
def ableOf (d m : Int) (r : Ru) (ms : List Str) (row : List Sp) : List Deed := (everyOf d m ms).filter fun x => (ledTo d m r row x).isSome
def Deed.word : Deed → Str
  | .change _ _ => "change"
  | .drop _ => "drop"
  | .set _ => "set"
abbrev kinds : List Str := ["change", "drop", "set"]
abbrev kindT : DB := bTest (dOp (fEqA false) (dOp fIxA (dVar 8) (dC (.int 0))) (dOp fIxA (dLst (aCons (dC (.str "change")) (aCons (dC (.str "drop")) (aCons (dC (.str "set")) aNil)))) (dCall 2 (viaR F__law_pick) (aCons (dVar 0) (aCons (dC (.int 3)) aNil)))))
theorem word_ix (x : Deed) (S : Sto) : fIxA x.D (.int 0) S = .ok (.str x.word) S := by cases x <;> rfl
theorem some_of {t0 : Lc} (h0 : t0[0]? = some (some (.ptr 0))) (hl : 8 < t0.length) (rest : Sto) : ∀ (ys acc : List Deed) (r : D), Row r → acc.length + ys.length < 100000 → ∃ (zs : List Deed) (r' : D), (∀ z ∈ zs, z ∈ ys) ∧ zs.length ≤ ys.length ∧ Row r' ∧ lcLoop (.nm 8) kindT (dVar 8) (wipeD [8] t0) (ys.map Deed.D) (acc.map Deed.D) (some r :: rest) = .ok ((acc ++ zs).map Deed.D) (some r' :: rest)
  | [], acc, r, hr, _ => ⟨[], r, fun _ h => (nomatch h), Nat.le_refl _, hr, by rw [List.append_nil]; rfl⟩
  | y :: ys, acc, r, hr, hn => by
    rw [List.length_cons] at hn
    obtain ⟨v, r1, e1, h1, b0, b1⟩ := pickR hr (many := 3) (by decide) (by decide)
    obtain ⟨w, hw, ew⟩ := word_at (ws := kinds) b0 b1
    let t1 : Lc := (wipeD [8] t0).set 8 (some y.D)
    have own : t1[8]? = some (some y.D) := List.getElem?_set_self (by show 8 < (t0.set 8 none).length; rw [List.length_set]; exact hl)
    have at0 : t1[0]? = some (some (.ptr 0)) := (List.getElem?_set_ne (by decide)).trans ((List.getElem?_set_ne (by decide)).trans h0)
    have c : kindT t1 (some r :: rest) = .ok (decide (y.word = w)) (some r1 :: rest) := by
      refine test_ok (op_ok (op_ok (var_ok own) rfl (word_ix y _)) (op_ok (x := .lst (kinds.map .str)) (y := .int v) rfl (call_ok (n := 2) (cons_ok (x := .ptr 0) (var_ok at0) (cons_ok rfl nil_is)) rfl (e1 rest)) (z := .str w) (S3 := some r1 :: rest) ?_) (by rw [Dl.eq_str, Bool.false_xor]))
      show (match atI (kinds.map D.str) v with | some d => Out.ok d _ | none => .bad) = _
      rw [ew]
    by_cases h : y.word = w
    · obtain ⟨zs, r', hz, hl2, hr', e⟩ := some_of h0 hl rest ys (acc ++ [y]) r1 h1 (by rw [List.length_append, List.length_singleton]; omega)
      rw [decide_eq_true h] at c
      refine ⟨y :: zs, r', fun z hz' => ?_, by rw [List.length_cons, List.length_cons]; omega, hr', ?_⟩
      · rcases List.mem_cons.mp hz' with h | h
        · rw [h]; exact List.mem_cons_self
        · exact List.mem_cons_of_mem _ (hz z h)
      · rw [List.map_cons, lc_one (g := .nm 8) (x := y.D) (t1 := t1) rfl c (var_ok own) (by rw [List.length_map]; exact Nat.lt_of_lt_of_le (show acc.length < 100000 by omega) (by decide))]
        rw [List.append_assoc] at e
        rw [List.map_append] at e
        exact e
    · obtain ⟨zs, r', hz, hl2, hr', e⟩ := some_of h0 hl rest ys acc r1 h1 (by omega)
      rw [decide_eq_false h] at c
      refine ⟨zs, r', fun z hz' => List.mem_cons_of_mem _ (hz z hz'), by rw [List.length_cons]; omega, hr', ?_⟩
      rw [List.map_cons, lc_skip (g := .nm 8) (x := y.D) (t1 := t1) rfl c]
      exact e
theorem goOn_snoc {d m : Int} {r : Ru} {ms : List Str} {x : Deed} (ok : okDeed d m ms x = true) {q : List Sp} : ∀ {xs : List Deed} {s0 s : St}, goOn d m r ms s0 xs = some s → ledTo d m r s.row x = some q → goOn d m r ms s0 (xs ++ [x]) = some (takeIn d r s x q)
  | [], s0, s, h, hl => by
    cases h
    show (if okDeed d m ms x = true then (match ledTo d m r s0.row x with
      | none => none
      | some q => goOn d m r ms (takeIn d r s0 x q) []) else none) = _
    rw [if_pos ok, hl]; rfl
  | y :: ys, s0, s, h, hl => by
    have h : (if okDeed d m ms y = true then (match ledTo d m r s0.row y with
      | none => none
      | some q => goOn d m r ms (takeIn d r s0 y q) ys) else none) = some s := h
    show (if okDeed d m ms y = true then (match ledTo d m r s0.row y with
      | none => none
      | some q => goOn d m r ms (takeIn d r s0 y q) (ys ++ [x])) else none) = _
    split at h
    · rename_i hy
      rw [if_pos hy]
      cases hl2 : ledTo d m r s0.row y with
      | none => rw [hl2] at h; cases h
      | some q2 => rw [hl2] at h; exact goOn_snoc ok h hl
    · cases h
theorem atI_last {xs : List D} {y : D} : atI (xs ++ [y]) (-1) = some y := by
  unfold atI ixN
  rw [List.length_append, List.length_singleton, if_neg (by omega), if_pos (by omega)]
  have e : ((-1 : Int) + (xs.length + 1 : Nat)).toNat = xs.length := by omega
  first
    | (rw [e]; simp)
    | (simp only [e]; simp)
theorem ix_ptr {S : Sto} {k : Nat} {xs : List D} {i : Int} {y : D} (h : S[k]? = some (some (.lst xs))) (hi : atI xs i = some y) : fIxA (.ptr k) (.int i) S = .ok y S := by
  unfold fIxA fIx
  rw [deref_at h]
  show (match atI xs i with | some d => Out.ok d S | none => .bad) = _
  rw [hi]
theorem deed_at {xs : List Deed} {v : Int} (h0 : 0 ≤ v) (h1 : v < xs.length) : ∃ x ∈ xs, atI (xs.map Deed.D) v = some x.D := by
  obtain ⟨n, rfl⟩ := Int.eq_ofNat_of_zero_le h0
  have hn : n < xs.length := by omega
  exact ⟨xs[n], List.getElem_mem hn, by rw [atI_n, List.getElem?_map, List.getElem?_eq_getElem hn]; rfl⟩
end GG
set_option Elab.async false
set_option linter.all false
set_option maxRecDepth 100000
set_option maxHeartbeats 1000000
namespace GG
open PySem PyProof.Rows L2 Dl
/-! The law's book. -/
theorem made_is {d m : Int} {r : Ru} {ms : List Str} (h1 : 2 ≤ d) (h2 : d ≤ 4) (m1 : 1 ≤ m) (m3 : m ≤ 3) (hw : RuleW r.ws) (hm : ms.Sublist marks) (S : Sto) : viaP F__law_made [tX d m r ms] S = .ok (bkD d m r ms) S := by
  refine viaP_ok (S' := [none]) (by show (below 0 (tX d m r ms) && true) = true; rw [below_t]; rfl) ?_ (below_bk d m r ms)
  show runF 1 1 den__law_made _ _ = _
  have z : dFz (dMake 0 5 F_Book_init (aCons (dOp fIxA (dVar 0) (dC (.str "days"))) (aCons (dOp fIxA (dVar 0) (dC (.str "most"))) (aCons (dOp fIxA (dVar 0) (dC (.str "marks"))) (aCons (dOp fIxA (dVar 0) (dC (.str "rule"))) aNil))))) [some (tX d m r ms)] [] = .ok (bkD d m r ms) ([] ++ [none]) :=
    make_snoc (S := []) (xs := [.int d, .int m, .tup (ms.map .str), .dic PARTS_ks (r.ws.map .str)]) (cons_ok (op_ok (var_ok rfl) rfl (t_days d m r ms [])) (cons_ok (op_ok (var_ok rfl) rfl (t_most d m r ms [])) (cons_ok (op_ok (var_ok rfl) rfl (t_marks d m r ms [])) (cons_ok (op_ok (var_ok rfl) rfl (t_rule d m r ms [])) nil_is)))) rfl (init_ok h1 h2 m1 m3 hw hm)
  exact run_rt (ret_rt z)
theorem ru_of {ws : List Str} (h : RuleW ws) : ∃ r : Ru, ws = r.ws := by
  obtain ⟨a, b, c, d, e, rfl⟩ := ws5 h
  exact ⟨⟨a, b, c, d, e⟩, rfl⟩
theorem list_at {xs : List D} {v : Int} (h0 : 0 ≤ v) (h1 : v < xs.length) : ∃ x ∈ xs, atI xs v = some x := by
  obtain ⟨n, rfl⟩ := Int.eq_ofNat_of_zero_le h0
  have hn : n < xs.length := by omega
  exact ⟨xs[n], List.getElem_mem hn, by rw [atI_n, List.getElem?_eq_getElem hn]⟩
end GG
set_option Elab.async false
set_option linter.all false
set_option maxRecDepth 100000
set_option maxHeartbeats 1000000
namespace GG
open PySem PyProof.Rows L2 Dl
/-! Another word for a part; idle. -/
def Ru.put (r : Ru) (p w : Str) : Ru := if p = "changed" then { r with changed := w } else if p = "ends" then { r with ends := w } else if p = "lengths" then { r with lengths := w } else if p = "over" then { r with over := w } else { r with shut := w }
def putWs (ws : List Str) (p w : Str) : List Str := match ws with
  | [a, b, c, d, e] => if p = "changed" then [w, b, c, d, e] else if p = "ends" then [a, w, c, d, e] else if p = "lengths" then [a, b, w, d, e] else if p = "over" then [a, b, c, w, e] else [a, b, c, d, w]
  | l => l
theorem five {p : Str × List Str} (h : p ∈ parts) : p = (("changed" : Str), (["newest", "stays"] : List Str)) ∨ p = (("ends" : Str), (["closed", "open"] : List Str)) ∨ p = (("lengths" : Str), (["coming", "nights"] : List Str)) ∨ p = (("over" : Str), (["first", "newest", "strictest"] : List Str)) ∨ p = (("shut" : Str), (["coming", "nights"] : List Str)) := by
  simpa only [parts, List.mem_cons, List.not_mem_nil, or_false] using h
theorem p1 (r : Ru) (w : Str) : r.put "changed" w = { r with changed := w } := if_pos rfl
theorem p2 (r : Ru) (w : Str) : r.put "ends" w = { r with ends := w } := (if_neg (by decide +kernel)).trans (if_pos rfl)
theorem p3 (r : Ru) (w : Str) : r.put "lengths" w = { r with lengths := w } := (if_neg (by decide +kernel)).trans ((if_neg (by decide +kernel)).trans (if_pos rfl))
theorem p4 (r : Ru) (w : Str) : r.put "over" w = { r with over := w } := (if_neg (by decide +kernel)).trans ((if_neg (by decide +kernel)).trans ((if_neg (by decide +kernel)).trans (if_pos rfl)))
theorem p5 (r : Ru) (w : Str) : r.put "shut" w = { r with shut := w } := (if_neg (by decide +kernel)).trans ((if_neg (by decide +kernel)).trans ((if_neg (by decide +kernel)).trans (if_neg (by decide +kernel))))
theorem put_rule {r : Ru} (h : RuleW r.ws) {p : Str × List Str} (hp : p ∈ parts) {w : Str} (hw : w ∈ p.2) : RuleW (r.put p.1 w).ws := by
  obtain ⟨a, b, c, d, e, _⟩ := h
  rcases five hp with rfl | rfl | rfl | rfl | rfl
  · rw [p1]; exact ⟨hw, b, c, d, e, True.intro⟩
  · rw [p2]; exact ⟨a, hw, c, d, e, True.intro⟩
  · rw [p3]; exact ⟨a, b, hw, d, e, True.intro⟩
  · rw [p4]; exact ⟨a, b, c, hw, e, True.intro⟩
  · rw [p5]; exact ⟨a, b, c, d, hw, True.intro⟩
section
variable {d m : Int} {r r' : Ru} {ms : List Str} {bw : Bool}
abbrev starE : DE := dStar (dAttr 0 "parts" (dVar 0)) (dVar 1) (dVar 2)
theorem turned_ok (h1 : 2 ≤ d) (h2 : d ≤ 4) (m1 : 1 ≤ m) (m3 : m ≤ 3) (hm : ms.Sublist marks) (hw : RuleW r.ws) {p : Str × List Str} (hp : p ∈ parts) {w : Str} (hi : w ∈ p.2) (S : Sto) : viaP F_Book_turned [bkD d m r ms, .str p.1, .str w] S = .ok (bkD d m (r.put p.1 w) ms) S := by
  have hr := put_rule hw hp hi
  let T : Lc := [some (bkD d m r ms), some (.str p.1), some (.str w)]
  have st : starE T [] = .ok (.dic PARTS_ks ((r.put p.1 w).ws.map .str)) [] := by
    show starE [some (bkD d m r ms), some (.str p.1), some (.str w)] [] = _
    rcases five hp with rfl | rfl | rfl | rfl | rfl
    · rw [p1]; kernel_rfl
    · rw [p2]; kernel_rfl
    · rw [p3]; kernel_rfl
    · rw [p4]; kernel_rfl
    · rw [p5]; kernel_rfl
  have o : viaP F_is_one_of [.str p.1, .lst PARTS_ks] [] = .ok (.bl true) [] := by
    rcases five hp with rfl | rfl | rfl | rfl | rfl <;> kernel_rfl
  have c : bNot (bTest (dCall 2 (viaP F_is_one_of) (aCons (dVar 1) (aCons (dC (.lst PARTS_ks)) aNil)))) T [] = .ok false [] := bnot_ok (c := true) (test_ok (call_ok (n := 2) (cons_ok (x := .str p.1) (var_ok rfl) (cons_ok (x := .lst PARTS_ks) rfl nil_is)) rfl o))
  refine viaP_ok (S' := [none]) (by show (below 0 (bkD d m r ms) && (true && (true && true))) = true; rw [below_bk]; rfl) ?_ (below_bk _ _ _ _)
  have z : dFz (dMake 0 5 F_Book_init (aCons (dAttr 0 "many_days" (dVar 0)) (aCons (dAttr 0 "cap" (dVar 0)) (aCons (dAttr 0 "words" (dVar 0)) (aCons starE aNil))))) T [] = .ok (bkD d m (r.put p.1 w) ms) ([] ++ [none]) :=
    make_snoc (S := []) (xs := [.int d, .int m, .tup (ms.map .str), .dic PARTS_ks ((r.put p.1 w).ws.map .str)]) (cons_ok (bk_days (var_ok rfl)) (cons_ok (bk_cap (var_ok rfl)) (cons_ok (bk_words (var_ok rfl)) (cons_ok st nil_is)))) rfl (init_ok h1 h2 m1 m3 hr hm)
  exact run_rt ((seq_nx (ifs_skip c)).trans (ret_rt z))
end
end GG
set_option Elab.async false
set_option linter.all false
set_option maxRecDepth 100000
set_option maxHeartbeats 1000000
namespace GG
open PySem PyProof.Rows L2 Dl
/-! k02: a book of a rule that is still to change; ==; refusals. -/
section
variable {d m : Int} {r r' : Ru} {ms : List Str}
def revD (r : Ru) : D := .dic [.str "shut", .str "over", .str "lengths", .str "ends", .str "changed"] [.str r.shut, .str r.over, .str r.lengths, .str r.ends, .str r.changed]
theorem viaQ_cell {f : DF} {S : Sto} {k : Nat} {c : D} {T : Sto} (hk : S[k]? = some (some c)) (hb : below 0 c = true) (e : f [.ptr 0] [some c] = .ok .non (some c :: T)) : viaQ f [.ptr k] S = .ok .non S := by
  have hs : S.set k (some c) = S := by
    apply List.ext_getElem?
    intro i
    by_cases h : k = i
    · subst h
      rw [List.getElem?_set_self (List.getElem?_eq_some_iff.mp hk).1, hk]
    · rw [List.getElem?_set_ne h]
  show (match S[k]? with
    | some (some c) => if below 0 c = true ∧ belows 0 [] = true then (match f [.ptr 0] [some c] with
      | .ok z (some c' :: _) => if below 0 z = true ∧ below 0 c' = true then Out.ok z (S.set k (some c')) else .bad
      | .exc j ns vs (some c' :: _) => if belows 0 vs = true ∧ below 0 c' = true then .exc j ns vs (S.set k (some c')) else .bad
      | _ => .bad) else .bad
    | _ => .bad) = _
  rw [hk]
  show (if below 0 c = true ∧ belows 0 [] = true then (match f [.ptr 0] [some c] with
      | .ok z (some c' :: _) => if below 0 z = true ∧ below 0 c' = true then Out.ok z (S.set k (some c')) else .bad
      | .exc j ns vs (some c' :: _) => if belows 0 vs = true ∧ below 0 c' = true then .exc j ns vs (S.set k (some c')) else .bad
      | _ => .bad) else .bad) = _
  rw [if_pos ⟨hb, rfl⟩, e]
  show (if below 0 D.non = true ∧ below 0 c = true then Out.ok D.non (S.set k (some c)) else .bad) = _
  rw [if_pos ⟨rfl, hb⟩, hs]
theorem check_rev (h : RuleW r.ws) : F_check_rule [.ptr 0] [some (revD r)] = .ok .non [some (revD r)] := by
  obtain ⟨a, b, c, d, e⟩ := r
  obtain ⟨h1, h2, h3, h4, h5, _⟩ := h
  simp only [List.mem_cons, List.not_mem_nil, or_false] at h1 h2 h3 h4 h5
  rcases h1 with rfl | rfl <;> rcases h2 with rfl | rfl <;> rcases h3 with rfl | rfl <;> rcases h4 with rfl | rfl | rfl <;> rcases h5 with rfl | rfl <;> kernel_rfl
theorem check_cell (h : RuleW r.ws) {S : Sto} {k : Nat} (hk : S[k]? = some (some (revD r))) : viaQ F_check_rule [.ptr k] S = .ok .non S := viaQ_cell hk (by kernel_rfl) (check_rev h)
theorem dc_one {g : Tg} {dt : DB} {dk dv : DE} {t t1 : Lc} {x y z : D} {xs : List D} {acc : List D × List D} {S : Sto} {q : Key} (h1 : g.set x t = some t1) (h2 : dt t1 S = .ok true S) (h3 : dk t1 S = .ok y S) (h4 : dv t1 S = .ok z S) (hq : keyD y = some q) (hl : acc.1.length < 1000) :
    dcLoop g dt dk dv t (x :: xs) acc S = dcLoop g dt dk dv t xs (dicPut acc.1 acc.2 q y z) S := by
  simp only [dcLoop, h1, h2, h3, h4, calm_ok, bind_ok, if_true, hq, if_pos hl]
theorem dc_one' {g : Tg} {dt : DB} {dk dv : DE} {t t1 : Lc} {x y z : D} {xs : List D} {acc acc' : List D × List D} {S : Sto} {q : Key} (h1 : g.set x t = some t1) (h2 : dt t1 S = .ok true S) (h3 : dk t1 S = .ok y S) (h4 : dv t1 S = .ok z S) (hq : keyD y = some q) (hl : acc.1.length < 1000) (hp : dicPut acc.1 acc.2 q y z = acc') :
    dcLoop g dt dk dv t (x :: xs) acc S = dcLoop g dt dk dv t xs acc' S := (dc_one h1 h2 h3 h4 hq hl).trans (by rw [hp])
abbrev partsE : DE := dDc [5] (.nm 5) (dConst PARTS_ks) bYes (dVar 5) (dOp fIxA (dVar 4) (dVar 5))
theorem parts_cell {S : Sto} {k : Nat} (hk : S[k]? = some (some (revD r))) (a0 a1 a2 a3 a5 : Option D) : partsE [a0, a1, a2, a3, some (.ptr k), a5] S = .ok r.D S := by
  have ix : ∀ (p w : Str), fIxA (revD r) (.str p) S = .ok (.str w) S → dOp fIxA (dVar 4) (dVar 5) [a0, a1, a2, a3, some (.ptr k), some (.str p)] S = .ok (.str w) S := fun p w h => by
    refine op_ok (x := .ptr k) (y := .str p) (var_ok rfl) (var_ok rfl) ?_
    unfold fIxA at h ⊢
    rw [deref_at hk]
    exact h
  have i1 := ix "changed" r.changed (by kernel_rfl)
  have i2 := ix "ends" r.ends (by kernel_rfl)
  have i3 := ix "lengths" r.lengths (by kernel_rfl)
  have i4 := ix "over" r.over (by kernel_rfl)
  have i5 := ix "shut" r.shut (by kernel_rfl)
  have l : dcLoop (.nm 5) bYes (dVar 5) (dOp fIxA (dVar 4) (dVar 5)) [a0, a1, a2, a3, some (.ptr k), none] [.str "changed", .str "ends", .str "lengths", .str "over", .str "shut"] ([], []) S = .ok (PARTS_ks, r.ws.map .str) S := by
    refine (dc_one' (q := .inr "changed") (acc := (([] : List D), ([] : List D))) (acc' := (([.str "changed"] : List D), ([.str r.changed] : List D))) rfl rfl (var_ok (d := .str "changed") rfl) i1 rfl (show ([] : List D).length < 1000 by decide) (by kernel_rfl)).trans ?_
    refine (dc_one' (q := .inr "ends") (acc := (([.str "changed"] : List D), ([.str r.changed] : List D))) (acc' := (([.str "changed", .str "ends"] : List D), ([.str r.changed, .str r.ends] : List D))) rfl rfl (var_ok (d := .str "ends") rfl) i2 rfl (show ([.str "changed"] : List D).length < 1000 by decide) (by kernel_rfl)).trans ?_
    refine (dc_one' (q := .inr "lengths") (acc := (([.str "changed", .str "ends"] : List D), ([.str r.changed, .str r.ends] : List D))) (acc' := (([.str "changed", .str "ends", .str "lengths"] : List D), ([.str r.changed, .str r.ends, .str r.lengths] : List D))) rfl rfl (var_ok (d := .str "lengths") rfl) i3 rfl (show ([.str "changed", .str "ends"] : List D).length < 1000 by decide) (by kernel_rfl)).trans ?_
    refine (dc_one' (q := .inr "over") (acc := (([.str "changed", .str "ends", .str "lengths"] : List D), ([.str r.changed, .str r.ends, .str r.lengths] : List D))) (acc' := (([.str "changed", .str "ends", .str "lengths", .str "over"] : List D), ([.str r.changed, .str r.ends, .str r.lengths, .str r.over] : List D))) rfl rfl (var_ok (d := .str "over") rfl) i4 rfl (show ([.str "changed", .str "ends", .str "lengths"] : List D).length < 1000 by decide) (by kernel_rfl)).trans ?_
    refine (dc_one' (q := .inr "shut") (acc := (([.str "changed", .str "ends", .str "lengths", .str "over"] : List D), ([.str r.changed, .str r.ends, .str r.lengths, .str r.over] : List D))) (acc' := (([.str "changed", .str "ends", .str "lengths", .str "over", .str "shut"] : List D), ([.str r.changed, .str r.ends, .str r.lengths, .str r.over, .str r.shut] : List D))) rfl rfl (var_ok (d := .str "shut") rfl) i5 rfl (show ([.str "changed", .str "ends", .str "lengths", .str "over"] : List D).length < 1000 by decide) (by kernel_rfl)).trans ?_
    rfl
  show (dcLoop (.nm 5) bYes (dVar 5) (dOp fIxA (dVar 4) (dVar 5)) [a0, a1, a2, a3, some (.ptr k), none] [.str "changed", .str "ends", .str "lengths", .str "over", .str "shut"] ([], []) S).bind _ = _
  rw [l]; rfl
abbrev numC : DB := bOr (bNot (bTest (dCall 3 (viaP F_is_from) (aCons (dVar 1) (aCons (dC (.int 2)) (aCons (dC (.int 4)) aNil)))))) (bNot (bTest (dCall 3 (viaP F_is_from) (aCons (dVar 2) (aCons (dC (.int 1)) (aCons (dC (.int 3)) aNil))))))
abbrev mrkC : DB := bNot (bTest (dCall 1 (viaP F_are_marks) (aCons (dVar 3) aNil)))
theorem num_c (h1 : 2 ≤ d) (h2 : d ≤ 4) (m1 : 1 ≤ m) (m3 : m ≤ 3) (a0 a3 a4 a5 : Option D) (S : Sto) : numC [a0, some (.int d), some (.int m), a3, a4, a5] S = .ok false S :=
  (bor_f (bnot_ok (c := true) (test_ok (call_ok (n := 3) (cons_ok (x := .int d) (var_ok rfl) (cons_ok (x := .int 2) rfl (cons_ok (x := .int 4) rfl nil_is))) rfl (from_ok h1 h2 S))))).trans
    (bnot_ok (c := true) (test_ok (call_ok (n := 3) (cons_ok (x := .int m) (var_ok rfl) (cons_ok (x := .int 1) rfl (cons_ok (x := .int 3) rfl nil_is))) rfl (from_ok m1 m3 S))))
theorem mrk_c (hm : ms.Sublist marks) (a0 a1 a2 a4 a5 : Option D) (S : Sto) : mrkC [a0, a1, a2, some (.tup (ms.map .str)), a4, a5] S = .ok false S :=
  bnot_ok (c := true) (test_ok (call_ok (n := 1) (cons_ok (x := .tup (ms.map .str)) (var_ok rfl) nil_is) rfl (are_marks_ok hm S)))
theorem init_cell (h1 : 2 ≤ d) (h2 : d ≤ 4) (m1 : 1 ≤ m) (m3 : m ≤ 3) (hw : RuleW r.ws) (hm : ms.Sublist marks) {S : Sto} {k : Nat} (hk : S[k]? = some (some (revD r))) :
    F_Book_init [.ptr S.length, .int d, .int m, .tup (ms.map .str), .ptr k] (S ++ [some (.obj 0 [] [])]) = .ok .non (S ++ [some (bkD d m r ms)]) := by
  show runF 5 6 den_Book_init _ _ = _
  have kl : k < S.length := (List.getElem?_eq_some_iff.mp hk).1
  have at_ : ∀ o : Option D, (S ++ [o])[k]? = some (some (revD r)) := fun o => by rw [List.getElem?_append_left kl]; exact hk
  let T : Lc := [some (.ptr S.length), some (.int d), some (.int m), some (.tup (ms.map .str)), some (.ptr k), none]
  have s0 : dIfS numC (dRaise0 3) dSkip T (S ++ [some (.obj 0 [] [])]) = .nx T (S ++ [some (.obj 0 [] [])]) := ifs_skip (num_c h1 h2 m1 m3 _ _ _ _ _)
  have s1 : dIfS mrkC (dRaise0 4) dSkip T (S ++ [some (.obj 0 [] [])]) = .nx T (S ++ [some (.obj 0 [] [])]) := ifs_skip (mrk_c hm _ _ _ _ _ _)
  have s2 : dExpr (dCall 1 (viaQ F_check_rule) (aCons (dVar 4) aNil)) T (S ++ [some (.obj 0 [] [])]) = .nx T (S ++ [some (.obj 0 [] [])]) := expr_nx (call_ok (n := 1) (cons_ok (x := .ptr k) (var_ok rfl) nil_is) rfl (check_cell hw (at_ _)))
  have s3 : dSetF 0 "many_days" (dVar 0) (dVar 1) T (S ++ [some (.obj 0 [] [])]) = .nx T (S ++ [some (.obj 0 ["many_days"] [.int d])]) := setF_snoc (var_ok rfl) (var_ok rfl) (by decide)
  have s4 : dSetF 0 "cap" (dVar 0) (dVar 2) T (S ++ [some (.obj 0 ["many_days"] [.int d])]) = .nx T (S ++ [some (.obj 0 ["many_days", "cap"] [.int d, .int m])]) := (setF_snoc (y := .int m) (var_ok rfl) (var_ok rfl) (by decide)).trans (by kernel_rfl)
  have s5 : dSetF 0 "words" (dVar 0) (dVar 3) T (S ++ [some (.obj 0 ["many_days", "cap"] [.int d, .int m])]) = .nx T (S ++ [some (.obj 0 ["many_days", "cap", "words"] [.int d, .int m, .tup (ms.map .str)])]) := (setF_snoc (y := .tup (ms.map .str)) (var_ok rfl) (var_ok rfl) (by decide)).trans (by kernel_rfl)
  have s6 : dSetF 0 "parts" (dVar 0) partsE T (S ++ [some (.obj 0 ["many_days", "cap", "words"] [.int d, .int m, .tup (ms.map .str)])]) = .nx T (S ++ [some (bkD d m r ms)]) := (setF_snoc (parts_cell (at_ _) _ _ _ _ _) (var_ok rfl) (by decide)).trans (by kernel_rfl)
  exact run_nx ((seq_nx s0).trans ((seq_nx s1).trans ((seq_nx s2).trans ((seq_nx s3).trans ((seq_nx s4).trans ((seq_nx s5).trans s6))))))
/-! ### the rule's pairs -/
def ruP (r : Ru) : List D := [.tup [.str "changed", .str r.changed], .tup [.str "ends", .str r.ends], .tup [.str "lengths", .str r.lengths], .tup [.str "over", .str r.over], .tup [.str "shut", .str r.shut]]
theorem items_ru {de : DE} {t : Lc} {S S1 : Sto} (h : de t S = .ok r.D S1) : dLItems de t S = .ok (.lst (ruP r)) S1 := by
  unfold dLItems
  rw [h]
  rfl
def ruOf : List Str → Ru
  | [a, b, c, d, e] => ⟨a, b, c, d, e⟩
  | _ => ⟨"", "", "", "", ""⟩
theorem ruP_all : (picks parts).all (fun ws => fine (.lst (ruP (ruOf ws))) && srtX (ruP (ruOf ws)) && decide ((ruP (ruOf ws)).Pairwise fun a b => PySem.W.dataLe false encP a b = true)) = true := by decide +kernel
theorem ruOf_ws : ruOf r.ws = r := rfl
theorem ruP_is (h : RuleW r.ws) : fine (.lst (ruP r)) = true ∧ ∀ S, bSorted [.lst (ruP r)] S = .ok (.lst (ruP r)) S := by
  have z := List.all_eq_true.mp ruP_all r.ws (mem_picks h)
  rw [ruOf_ws] at z
  simp only [Bool.and_eq_true, decide_eq_true_eq] at z
  obtain ⟨⟨a, b⟩, c⟩ := z
  refine ⟨a, fun S => ?_⟩
  show (if srtX (ruP r) = true then Out.ok (D.lst (sortD (ruP r))) S else .bad) = _
  rw [if_pos b]
  have : sortD (ruP r) = ruP r := List.mergeSort_of_pairwise c
  rw [this]
end
end GG
set_option Elab.async false
set_option linter.all false
set_option maxRecDepth 100000
set_option maxHeartbeats 1000000
namespace GG
open PySem PyProof.Rows L2 Dl
/-! k02: == of books, words refused. -/
section
variable {d m d' m' : Int} {r r' : Ru} {ms ms' : List Str}
def isB (o : Out D) (b : Bool) : Bool := match o with
  | .ok (.bl c) _ => c == b
  | _ => false
theorem eqD_B {xs ys us vs : List D} {b : Bool} (h : isB (fEqA false (.dic xs ys) (.dic us vs) []) b = true) (S : Sto) : fEqA false (.dic xs ys) (.dic us vs) S = .ok (.bl b) S := by
  have e : ∀ S, fEqA false (.dic xs ys) (.dic us vs) S = match tabOf xs ys, tabOf us vs with
    | some a, some b => .ok (.bl (xor false (a.length == b.length && hitsV b a))) S
    | _, _ => .bad := fun S => rfl
  rw [e] at h
  rw [e]
  cases ha : tabOf xs ys with
  | none => rw [ha] at h; cases h
  | some a =>
    cases hb : tabOf us vs with
    | none => rw [ha, hb] at h; cases h
    | some c =>
      rw [ha, hb] at h
      have h : ((false ^^ (a.length == c.length && hitsV c a)) == b) = true := h
      show Out.ok (D.bl (false ^^ (a.length == c.length && hitsV c a))) S = _
      rw [eq_of_beq h]
theorem words_eq : (picks parts).all (fun ws => (picks parts).all fun ws' => isB (fEqA false (.dic PARTS_ks (ws.map .str)) (.dic PARTS_ks (ws'.map .str)) []) (decide (ws = ws'))) = true := by decide +kernel
theorem parts_eq (h : RuleW r.ws) (h' : RuleW r'.ws) (S : Sto) : fEqA false r.D r'.D S = .ok (.bl (decide (r.ws = r'.ws))) S :=
  eqD_B (xs := PARTS_ks) (ys := r.ws.map .str) (us := PARTS_ks) (vs := r'.ws.map .str) (List.all_eq_true.mp (List.all_eq_true.mp words_eq r.ws (mem_picks h)) r'.ws (mem_picks h')) S
/-- two books are the same -/
def same (d m : Int) (r : Ru) (ms : List Str) (d' m' : Int) (r' : Ru) (ms' : List Str) : Prop := d = d' ∧ m = m' ∧ ms = ms' ∧ r.ws = r'.ws
instance : Decidable (same d m r ms d' m' r' ms') := by unfold same; infer_instance
theorem bk_isi (S : Sto) (a : Option D) : dIsi (tabOL 0 ["dict"]) (dVar 1) [a, some (bkD d m r ms)] S = .ok (.bl true) S := by kernel_rfl
abbrev isC : DB := bNot (bTest (dIsi (tabOL 0 ["dict"]) (dVar 1)))
theorem strs_eq {neg : Bool} (hm : ∀ w ∈ ms, w ∈ marks) (hm' : ∀ w ∈ ms', w ∈ marks) (S : Sto) : fEqA neg (.tup (ms.map .str)) (.tup (ms'.map .str)) S = .ok (.bl (xor neg (decide (ms = ms')))) S :=
  eqA_is (marks_fine hm) (marks_fine hm') (tup_inj str_inj)
theorem bk_eq (hw : RuleW r.ws) (hw' : RuleW r'.ws) (hm : ∀ w ∈ ms, w ∈ marks) (hm' : ∀ w ∈ ms', w ∈ marks) (S : Sto) : viaP F_Book_eq [bkD d m r ms, bkD d' m' r' ms'] S = .ok (.bl (decide (same d m r ms d' m' r' ms'))) S := by
  refine viaP_ok (S' := []) (by show (below 0 (bkD d m r ms) && (below 0 (bkD d' m' r' ms') && true)) = true; rw [below_bk, below_bk]; rfl) ?_ rfl
  show runF 2 2 den_Book_eq [bkD d m r ms, bkD d' m' r' ms'] [] = _
  let T : Lc := [some (bkD d m r ms), some (bkD d' m' r' ms')]
  have c1 : bTest (dOp (fEqA true) (dAttr 0 "many_days" (dVar 0)) (dAttr 0 "many_days" (dVar 1))) T [] = .ok (!decide (d = d')) [] := test_ok (op_ok (bk_days (var_ok rfl)) (bk_days (var_ok rfl)) ((Dl.eq_int).trans (by rw [Bool.true_xor])))
  have c2 : bTest (dOp (fEqA true) (dAttr 0 "cap" (dVar 0)) (dAttr 0 "cap" (dVar 1))) T [] = .ok (!decide (m = m')) [] := test_ok (op_ok (bk_cap (var_ok rfl)) (bk_cap (var_ok rfl)) ((Dl.eq_int).trans (by rw [Bool.true_xor])))
  have c0 : isC T [] = .ok false [] := bnot_ok (test_ok (bk_isi _ _))
  by_cases h1 : d = d'
  case neg =>
    rw [decide_eq_false h1] at c1
    have z : bOr isC (bOr (bTest (dOp (fEqA true) (dAttr 0 "many_days" (dVar 0)) (dAttr 0 "many_days" (dVar 1)))) (bTest (dOp (fEqA true) (dAttr 0 "cap" (dVar 0)) (dAttr 0 "cap" (dVar 1))))) T [] = .ok true [] := (bor_f c0).trans (bor_t c1)
    rw [decide_eq_false (fun h : same d m r ms d' m' r' ms' => h1 h.1)]
    exact run_rt (seq_rt ((ifs_t z).trans (ret_rt rfl)))
  by_cases h2 : m = m'
  case neg =>
    rw [decide_eq_true h1] at c1
    rw [decide_eq_false h2] at c2
    have z : bOr isC (bOr (bTest (dOp (fEqA true) (dAttr 0 "many_days" (dVar 0)) (dAttr 0 "many_days" (dVar 1)))) (bTest (dOp (fEqA true) (dAttr 0 "cap" (dVar 0)) (dAttr 0 "cap" (dVar 1))))) T [] = .ok true [] := (bor_f c0).trans ((bor_f c1).trans c2)
    rw [decide_eq_false (fun h : same d m r ms d' m' r' ms' => h2 h.2.1)]
    exact run_rt (seq_rt ((ifs_t z).trans (ret_rt rfl)))
  rw [decide_eq_true h1] at c1
  rw [decide_eq_true h2] at c2
  have z : bOr isC (bOr (bTest (dOp (fEqA true) (dAttr 0 "many_days" (dVar 0)) (dAttr 0 "many_days" (dVar 1)))) (bTest (dOp (fEqA true) (dAttr 0 "cap" (dVar 0)) (dAttr 0 "cap" (dVar 1))))) T [] = .ok false [] := (bor_f c0).trans ((bor_f c1).trans c2)
  have w1 : dOp (fEqA false) (dAttr 0 "words" (dVar 0)) (dAttr 0 "words" (dVar 1)) T [] = .ok (.bl (decide (ms = ms'))) [] := op_ok (bk_words (var_ok rfl)) (bk_words (var_ok rfl)) ((strs_eq hm hm' []).trans (by rw [Bool.false_xor]))
  have w2 : dOp (fEqA false) (dAttr 0 "parts" (dVar 0)) (dAttr 0 "parts" (dVar 1)) T [] = .ok (.bl (decide (r.ws = r'.ws))) [] := op_ok (bk_rule (var_ok rfl)) (bk_rule (var_ok rfl)) (parts_eq hw hw' [])
  refine run_rt ((seq_nx (ifs_skip z)).trans (ret_rt ?_))
  by_cases h3 : ms = ms'
  · rw [decide_eq_true h3] at w1
    refine (and_t w1).trans (w2.trans ?_)
    congr 2
    exact decide_eq_decide.mpr ⟨fun h => ⟨h1, h2, h3, h⟩, fun h => h.2.2.2⟩
  · rw [decide_eq_false h3] at w1
    rw [decide_eq_false (fun h : same d m r ms d' m' r' ms' => h3 h.2.2.1)]
    exact and_f w1
theorem own_eq (hw : RuleW r.ws) (hw' : RuleW r'.ws) (hm : ∀ w ∈ ms, w ∈ marks) (hm' : ∀ w ∈ ms', w ∈ marks) (S : Sto) : fEqO 0 F_Book_eq (bkD d m r ms) (bkD d' m' r' ms') S = .ok (.bl (decide (same d m r ms d' m' r' ms'))) S := by
  show (if (0 : Nat) = 0 ∧ (0 : Nat) = 0 then (viaP F_Book_eq [bkD d m r ms, bkD d' m' r' ms'] S).calm.bind _ else Out.bad) = _
  rw [if_pos ⟨rfl, rfl⟩, bk_eq hw hw' hm hm']
  rfl
theorem own_ne (hw : RuleW r.ws) (hm : ∀ w ∈ ms, w ∈ marks) (S : Sto) : fNeO 0 F_Book_eq (bkD d m r ms) (bkD d m r ms) S = .ok (.bl false) S := by
  show (if (0 : Nat) = 0 ∧ (0 : Nat) = 0 then (viaP F_Book_eq [bkD d m r ms, bkD d m r ms] S).calm.bind _ else Out.bad) = _
  rw [if_pos ⟨rfl, rfl⟩, bk_eq hw hw hm hm, decide_eq_true (show same d m r ms d m r ms from ⟨rfl, rfl, rfl, rfl⟩)]
  rfl
/-- a book is no dict -/
theorem eq_dict (S : Sto) : fEqV 0 (Dl.okT 0 ["dict"]) (viaP F_Book_eq) (bkD d m r ms) (tX d m r ms) S = .ok (.bl false) S := by
  have e : viaP F_Book_eq [bkD d m r ms, tX d m r ms] S = .ok (.bl false) S := by
    refine viaP_ok (S' := []) (by show (below 0 (bkD d m r ms) && (below 0 (tX d m r ms) && true)) = true; rw [below_bk, below_t]; rfl) ?_ rfl
    show runF 2 2 den_Book_eq [bkD d m r ms, tX d m r ms] [] = _
    have z : bOr isC (bOr (bTest (dOp (fEqA true) (dAttr 0 "many_days" (dVar 0)) (dAttr 0 "many_days" (dVar 1)))) (bTest (dOp (fEqA true) (dAttr 0 "cap" (dVar 0)) (dAttr 0 "cap" (dVar 1))))) [some (bkD d m r ms), some (tX d m r ms)] [] = .ok true [] := bor_t (by kernel_rfl)
    exact run_rt (seq_rt ((ifs_t z).trans (ret_rt rfl)))
  show (if (0 : Nat) = 0 ∧ Dl.okT 0 ["dict"] (.b "dict") = true then (viaP F_Book_eq [bkD d m r ms, tX d m r ms] S).calm.bind _ else Out.bad) = _
  rw [if_pos ⟨rfl, by decide +kernel⟩, e]
  rfl
/-! ### words refused -/
def putV (p : Str) (v : D) : List D → List D := fun vs => match vs with
  | [a, b, c, d, e] => if p = "changed" then [v, b, c, d, e] else if p = "ends" then [a, v, c, d, e] else if p = "lengths" then [a, b, v, d, e] else if p = "over" then [a, b, c, v, e] else [a, b, c, d, v]
  | l => l
def odds : List D := [.str "no", .non, .int 3, .tup [.str "open"]]
def excP (o : Out D) (p : Str) : Bool := match o with
  | .exc 5 [f] [.str q] [] => decide (f = "part") && decide (q = p)
  | _ => false
theorem excP_is {o : Out D} {p : Str} (h : excP o p = true) : o = .exc 5 ["part"] [.str p] [] := by
  unfold excP at h
  split at h
  · rename_i f q
    rw [Bool.and_eq_true, decide_eq_true_eq, decide_eq_true_eq] at h
    rw [h.1, h.2]
  · cases h
theorem odd_all : (picks parts).all (fun ws => parts.all fun p => odds.all fun v => excP (F_check_rule [.dic PARTS_ks (putV p.1 v (ws.map .str))] []) p.1) = true := by decide +kernel
theorem check_odd (hw : RuleW r.ws) {p : Str × List Str} (hp : p ∈ parts) {v : D} (hv : v ∈ odds) (hb : belows 0 (putV p.1 v (r.ws.map .str)) = true) (S : Sto) : viaQ F_check_rule [.dic PARTS_ks (putV p.1 v (r.ws.map .str))] S = .exc 5 ["part"] [.str p.1] S := by
  have e := excP_is (List.all_eq_true.mp (List.all_eq_true.mp (List.all_eq_true.mp odd_all r.ws (mem_picks hw)) p hp) v hv)
  show viaP F_check_rule [.dic PARTS_ks (putV p.1 v (r.ws.map .str))] S = _
  exact viaP_exc (by show ((belows 0 PARTS_ks && belows 0 (putV p.1 v (r.ws.map .str))) && true) = true; rw [hb]; rfl) e rfl
theorem below_odd {p : Str × List Str} (hp : p ∈ parts) {v : D} (hv : v ∈ odds) : belows 0 (putV p.1 v (r.ws.map .str)) = true := by
  simp only [odds, List.mem_cons, List.not_mem_nil, or_false] at hv
  rcases five hp with rfl | rfl | rfl | rfl | rfl <;> rcases hv with rfl | rfl | rfl | rfl <;> kernel_rfl
theorem init_odd (h1 : 2 ≤ d) (h2 : d ≤ 4) (m1 : 1 ≤ m) (m3 : m ≤ 3) (hm : ms.Sublist marks) (hw : RuleW r.ws) {p : Str × List Str} (hp : p ∈ parts) {v : D} (hv : v ∈ odds) (S : Sto) :
    F_Book_init [.ptr S.length, .int d, .int m, .tup (ms.map .str), .dic PARTS_ks (putV p.1 v (r.ws.map .str))] (S ++ [some (.obj 0 [] [])]) = .exc 5 ["part"] [.str p.1] (S ++ [some (.obj 0 [] [])]) := by
  show runF 5 6 den_Book_init _ _ = _
  let T : Lc := [some (.ptr S.length), some (.int d), some (.int m), some (.tup (ms.map .str)), some (.dic PARTS_ks (putV p.1 v (r.ws.map .str))), none]
  have s0 : dIfS numC (dRaise0 3) dSkip T (S ++ [some (.obj 0 [] [])]) = .nx T (S ++ [some (.obj 0 [] [])]) := ifs_skip (num_c h1 h2 m1 m3 _ _ _ _ _)
  have s1 : dIfS mrkC (dRaise0 4) dSkip T (S ++ [some (.obj 0 [] [])]) = .nx T (S ++ [some (.obj 0 [] [])]) := ifs_skip (mrk_c hm _ _ _ _ _ _)
  have s2 : dExpr (dCall 1 (viaQ F_check_rule) (aCons (dVar 4) aNil)) T (S ++ [some (.obj 0 [] [])]) = .exc T 5 ["part"] [.str p.1] (S ++ [some (.obj 0 [] [])]) := expr_exc (call_exc (n := 1) (cons_ok (x := .dic PARTS_ks (putV p.1 v (r.ws.map .str))) (var_ok rfl) nil_is) rfl (check_odd hw hp hv (below_odd hp hv) _))
  exact run_exc ((seq_nx s0).trans ((seq_nx s1).trans (seq_exc s2)))
theorem star_odd {p : Str × List Str} (hp : p ∈ parts) {v : D} (hv : v ∈ odds) : starE [some (bkD d m r ms), some (.str p.1), some v] [] = .ok (.dic PARTS_ks (putV p.1 v (r.ws.map .str))) [] := by
  simp only [odds, List.mem_cons, List.not_mem_nil, or_false] at hv
  rcases five hp with rfl | rfl | rfl | rfl | rfl <;> rcases hv with rfl | rfl | rfl | rfl <;> kernel_rfl
theorem one_part {p : Str × List Str} (hp : p ∈ parts) (S : Sto) : viaP F_is_one_of [.str p.1, .lst PARTS_ks] S = .ok (.bl true) S := by
  rcases five hp with rfl | rfl | rfl | rfl | rfl <;> kernel_rfl
theorem below_o {v : D} (hv : v ∈ odds) : below 0 v = true := by
  simp only [odds, List.mem_cons, List.not_mem_nil, or_false] at hv
  rcases hv with rfl | rfl | rfl | rfl <;> rfl
theorem turned_odd (h1 : 2 ≤ d) (h2 : d ≤ 4) (m1 : 1 ≤ m) (m3 : m ≤ 3) (hm : ms.Sublist marks) (hw : RuleW r.ws) {p : Str × List Str} (hp : p ∈ parts) {v : D} (hv : v ∈ odds) (S : Sto) : viaP F_Book_turned [bkD d m r ms, .str p.1, v] S = .exc 5 ["part"] [.str p.1] S := by
  refine viaP_exc (S' := [some (.obj 0 [] [])]) (by show (below 0 (bkD d m r ms) && (true && (below 0 v && true))) = true; rw [below_bk, below_o hv]; rfl) ?_ rfl
  show runF 3 3 den_Book_turned _ _ = _
  let T : Lc := [some (bkD d m r ms), some (.str p.1), some v]
  have c : bNot (bTest (dCall 2 (viaP F_is_one_of) (aCons (dVar 1) (aCons (dC (.lst PARTS_ks)) aNil)))) T [] = .ok false [] := bnot_ok (c := true) (test_ok (call_ok (n := 2) (cons_ok (x := .str p.1) (var_ok rfl) (cons_ok (x := .lst PARTS_ks) rfl nil_is)) rfl (one_part hp [])))
  have a : aCons (dAttr 0 "many_days" (dVar 0)) (aCons (dAttr 0 "cap" (dVar 0)) (aCons (dAttr 0 "words" (dVar 0)) (aCons starE aNil))) T [] = .ok [.int d, .int m, .tup (ms.map .str), .dic PARTS_ks (putV p.1 v (r.ws.map .str))] [] :=
    cons_ok (bk_days (var_ok rfl)) (cons_ok (bk_cap (var_ok rfl)) (cons_ok (bk_words (var_ok rfl)) (cons_ok (star_odd hp hv) nil_is)))
  have mk : dMake 0 5 F_Book_init (aCons (dAttr 0 "many_days" (dVar 0)) (aCons (dAttr 0 "cap" (dVar 0)) (aCons (dAttr 0 "words" (dVar 0)) (aCons starE aNil)))) T [] = .exc 5 ["part"] [.str p.1] [some (.obj 0 [] [])] := by
    unfold dMake
    rw [a]
    show (if 5 = 5 then (F_Book_init [.ptr 0, .int d, .int m, .tup (ms.map .str), .dic PARTS_ks (putV p.1 v (r.ws.map .str))] [some (.obj 0 [] [])]).bind _ else Out.bad) = _
    rw [if_pos rfl, show F_Book_init [.ptr 0, .int d, .int m, .tup (ms.map .str), .dic PARTS_ks (putV p.1 v (r.ws.map .str))] [some (.obj 0 [] [])] = .exc 5 ["part"] [.str p.1] [some (.obj 0 [] [])] from init_odd h1 h2 m1 m3 hm hw hp hv []]
    rfl
  have fzx : dFz (dMake 0 5 F_Book_init (aCons (dAttr 0 "many_days" (dVar 0)) (aCons (dAttr 0 "cap" (dVar 0)) (aCons (dAttr 0 "words" (dVar 0)) (aCons starE aNil))))) T [] = .exc 5 ["part"] [.str p.1] [some (.obj 0 [] [])] := by
    unfold dFz
    rw [mk]
    rfl
  exact run_exc ((seq_nx (ifs_skip c)).trans (ret_exc fzx))
def odd2 : List D := [.str "no", .non, .int 3, .tup [.str "ends"], .lst [.str "over"]]
theorem turned_odd2 {v : D} (hv : v ∈ odd2) (S : Sto) : viaP F_Book_turned [bkD d m r ms, v, .str "open"] S = .exc 5 ["part"] [.str ""] S := by
  simp only [odd2, List.mem_cons, List.not_mem_nil, or_false] at hv
  have key : below 0 v = true ∧ bNot (bTest (dCall 2 (viaP F_is_one_of) (aCons (dVar 1) (aCons (dC (.lst PARTS_ks)) aNil)))) [some (bkD d m r ms), some v, some (.str "open")] [] = .ok true [] := by
    rcases hv with rfl | rfl | rfl | rfl | rfl <;> exact ⟨rfl, by kernel_rfl⟩
  refine viaP_exc (S' := []) (by show (below 0 (bkD d m r ms) && (below 0 v && (true && true))) = true; rw [below_bk, key.1]; rfl) ?_ rfl
  show runF 3 3 den_Book_turned _ _ = _
  exact run_exc (seq_exc ((ifs_t key.2).trans (raise1_ok (x := .str "") rfl (by kernel_rfl))))
/-! ### what the law hears -/
theorem told_word (h1 : 2 ≤ d) (h2 : d ≤ 4) (m1 : 1 ≤ m) (m3 : m ≤ 3) (hm : ms.Sublist marks) (hw : RuleW r.ws) {p : Str × List Str} (hp : p ∈ parts) {w : Str} (hi : w ∈ p.2) (S : Sto) : viaP F__law_told [bkD d m r ms, .str p.1, .str w] S = .ok (bkD d m (r.put p.1 w) ms) S := by
  refine viaP_ok (S' := []) (by show (below 0 (bkD d m r ms) && (true && (true && true))) = true; rw [below_bk]; rfl) ?_ (below_bk _ _ _ _)
  show runF 3 5 den__law_told _ _ = _
  let T : Lc := [some (bkD d m r ms), some (.str p.1), some (.str w), some .non, none]
  have e : dSet 3 (dMeth 0 "turned" 3 (viaP F_Book_turned) (dVar 0) (aCons (dVar 1) (aCons (dVar 2) aNil))) T [] = .nx [some (bkD d m r ms), some (.str p.1), some (.str w), some (bkD d m (r.put p.1 w) ms), none] [] :=
    set_nx ((meth_v (N := 3) (ns := ["many_days", "cap", "words", "parts"]) (c := 0) (var_ok (d := bkD d m r ms) rfl) (by decide +kernel) (cons_ok (x := .str p.1) (var_ok rfl) (cons_ok (x := .str w) (var_ok rfl) nil_is)) rfl).trans (turned_ok h1 h2 m1 m3 hm hw hp hi []))
  exact run_rt ((seq_nx (t1 := T) (S1 := []) rfl).trans ((seq_nx (try_nx e)).trans (ret_rt (var_ok rfl))))
theorem told_exc {p v : D} {q : Str} (hb : below 0 p = true ∧ below 0 v = true) (e : ∀ S, viaP F_Book_turned [bkD d m r ms, p, v] S = .exc 5 ["part"] [.str q] S) (S : Sto) : viaP F__law_told [bkD d m r ms, p, v] S = .ok (.lst [.str "bad", .str q]) S := by
  refine viaP_ok (S' := []) (by show (below 0 (bkD d m r ms) && (below 0 p && (below 0 v && true))) = true; rw [below_bk, hb.1, hb.2]; rfl) ?_ rfl
  show runF 3 5 den__law_told _ _ = _
  let T : Lc := [some (bkD d m r ms), some p, some v, some .non, none]
  have x : dSet 3 (dMeth 0 "turned" 3 (viaP F_Book_turned) (dVar 0) (aCons (dVar 1) (aCons (dVar 2) aNil))) T [] = .exc T 5 ["part"] [.str q] [] :=
    set_exc ((meth_v (N := 3) (ns := ["many_days", "cap", "words", "parts"]) (c := 0) (var_ok (d := bkD d m r ms) rfl) (by decide +kernel) (cons_ok (x := p) (var_ok rfl) (cons_ok (x := v) (var_ok rfl) nil_is)) rfl).trans (e []))
  refine run_rt ((seq_nx (t1 := T) (S1 := []) rfl).trans ((seq_nx (t1 := [some (bkD d m r ms), some p, some v, some (.lst [.str "bad", .str q]), none]) (S1 := []) ((try_exc x).trans ?_)).trans (ret_rt (var_ok rfl))))
  kernel_rfl
end
end GG
set_option Elab.async false
set_option linter.all false
set_option maxRecDepth 100000
set_option maxHeartbeats 1000000
namespace GG
open PySem PyProof.Rows L2 Dl
abbrev W0 : DS := dSet 1 (dCall 1 (viaK F__law_draws) (aCons (dVar 0) aNil))
abbrev W1 : DS := dSet 2 (dCellL aNil)
abbrev W2 : DS := dFor (.nm 3) (iRng1 (dC (.int 5))) (dSeq (dSet 4 (dCall 4 (viaR F__law_drawn) (aCons (dVar 1) (aCons (dC (.int 4)) (aCons (dC (.int 3)) (aCons (dCall 2 (viaR F__law_pick) (aCons (dVar 1) (aCons (dC (.int 6)) aNil))) aNil)))))) (dSeq (dSet 5 (dDictP (aCons (dRevL (dLItems (dOp fIxA (dVar 4) (dC (.str "rule"))))) aNil))) (dSeq (dSet 6 (dFz (dMake 0 5 F_Book_init (aCons (dOp fIxA (dVar 4) (dC (.str "days"))) (aCons (dOp fIxA (dVar 4) (dC (.str "most"))) (aCons (dOp fIxA (dVar 4) (dC (.str "marks"))) (aCons (dVar 5) aNil))))))) (dSeq (dExpr (dBM "dict" mClear (dVar 5) aNil)) (dSeq (dIfS (bOr (bTest (dOp (fEqA true) (dLItems (dFz (dPropV 0 (viaK F_Book_rule) (dVar 6)))) (dB bSorted (aCons (dLItems (dOp fIxA (dVar 4) (dC (.str "rule")))) aNil)))) (bTest (dOp (fEqV 0 (Dl.okT 0 ["dict"]) (viaP F_Book_eq)) (dVar 6) (dVar 4)))) (dRet (dC (.bl false))) dSkip) (dSeq (dIfS (bTest (dOp (fEqA true) (dLst (aCons (dPropV 0 (viaP F_Book_days) (dVar 6)) (aCons (dPropV 0 (viaP F_Book_most) (dVar 6)) (aCons (dPropV 0 (viaP F_Book_marks) (dVar 6)) aNil)))) (dLst (aCons (dOp fIxA (dVar 4) (dC (.str "days"))) (aCons (dOp fIxA (dVar 4) (dC (.str "most"))) (aCons (dOp fIxA (dVar 4) (dC (.str "marks"))) aNil)))))) (dRet (dC (.bl false))) dSkip) (dSeq (dExpr (dBM "dict" mClear (dPropV 0 (viaK F_Book_rule) (dVar 6)) aNil)) (dSeq (dFor (.tp [7, 8]) (iLst (dCall 0 (viaP F__law_parts) aNil)) (dSeq (dFor (.nm 9) (iLst (dVar 8)) (dSeq (dSet 10 (dDictC (aCons (dVar 4) aNil))) (dSeq (dSetA (dVar 10) (dC (.str "rule")) (dDictC (aCons (dOp fIxA (dVar 4) (dC (.str "rule"))) aNil))) (dSeq (dFz2At 10 2 (dSetA (dOp fIxA (dVar 10) (dC (.str "rule"))) (dVar 7) (dVar 9))) (dIfS (bTest (dOp (fNeO 0 F_Book_eq) (dCall 3 (viaP F__law_told) (aCons (dVar 6) (aCons (dVar 7) (aCons (dVar 9) aNil)))) (dCall 1 (viaP F__law_made) (aCons (dVar 10) aNil)))) (dRet (dC (.bl false))) dSkip))))) (dIfS (bTest (dOp (fEqA true) (dCall 3 (viaP F__law_told) (aCons (dVar 6) (aCons (dVar 7) (aCons (dOp fIxA (dLst (aCons (dC (.str "no")) (aCons (dC .non) (aCons (dC (.int 3)) (aCons (dTup (aCons (dC (.str "open")) aNil)) aNil))))) (dCall 2 (viaR F__law_pick) (aCons (dVar 1) (aCons (dC (.int 4)) aNil)))) aNil)))) (dLst (aCons (dC (.str "bad")) (aCons (dVar 7) aNil))))) (dRet (dC (.bl false))) dSkip))) (dSeq (dIfS (bTest (dOp (fEqA true) (dCall 3 (viaP F__law_told) (aCons (dVar 6) (aCons (dOp fIxA (dLst (aCons (dC (.str "no")) (aCons (dC .non) (aCons (dC (.int 3)) (aCons (dTup (aCons (dC (.str "ends")) aNil)) (aCons (dLst (aCons (dC (.str "over")) aNil)) aNil)))))) (dCall 2 (viaR F__law_pick) (aCons (dVar 1) (aCons (dC (.int 5)) aNil)))) (aCons (dC (.str "open")) aNil)))) (dLst (aCons (dC (.str "bad")) (aCons (dC (.str "")) aNil))))) (dRet (dC (.bl false))) dSkip) (dSeq (dIfS (bTest (dOp (fEqA true) (dLcW [11, 12] (.tp [11, 12]) (dVar 2) (bTest (dOp (fEqA true) (dOp (fEqO 0 F_Book_eq) (dVar 11) (dVar 6)) (dOp (fEqA false) (dVar 12) (dCall 1 (viaP F__law_mark) (aCons (dVar 4) aNil))))) (dVar 11)) (dLst aNil))) (dRet (dC (.bl false))) dSkip) (dExpr (dBM "list" mAppend (dVar 2) (aCons (dTup (aCons (dVar 6) (aCons (dCall 1 (viaP F__law_mark) (aCons (dVar 4) aNil)) aNil))) aNil)))))))))))))
abbrev W3 : DS := dRet (dC (.bl true))
abbrev B0 : DS := dSet 4 (dCall 4 (viaR F__law_drawn) (aCons (dVar 1) (aCons (dC (.int 4)) (aCons (dC (.int 3)) (aCons (dCall 2 (viaR F__law_pick) (aCons (dVar 1) (aCons (dC (.int 6)) aNil))) aNil)))))
abbrev B1 : DS := dSet 5 (dDictP (aCons (dRevL (dLItems (dOp fIxA (dVar 4) (dC (.str "rule"))))) aNil))
abbrev B2 : DS := dSet 6 (dFz (dMake 0 5 F_Book_init (aCons (dOp fIxA (dVar 4) (dC (.str "days"))) (aCons (dOp fIxA (dVar 4) (dC (.str "most"))) (aCons (dOp fIxA (dVar 4) (dC (.str "marks"))) (aCons (dVar 5) aNil))))))
abbrev B3 : DS := dExpr (dBM "dict" mClear (dVar 5) aNil)
abbrev B4 : DS := dIfS (bOr (bTest (dOp (fEqA true) (dLItems (dFz (dPropV 0 (viaK F_Book_rule) (dVar 6)))) (dB bSorted (aCons (dLItems (dOp fIxA (dVar 4) (dC (.str "rule")))) aNil)))) (bTest (dOp (fEqV 0 (Dl.okT 0 ["dict"]) (viaP F_Book_eq)) (dVar 6) (dVar 4)))) (dRet (dC (.bl false))) dSkip
abbrev B5 : DS := dIfS (bTest (dOp (fEqA true) (dLst (aCons (dPropV 0 (viaP F_Book_days) (dVar 6)) (aCons (dPropV 0 (viaP F_Book_most) (dVar 6)) (aCons (dPropV 0 (viaP F_Book_marks) (dVar 6)) aNil)))) (dLst (aCons (dOp fIxA (dVar 4) (dC (.str "days"))) (aCons (dOp fIxA (dVar 4) (dC (.str "most"))) (aCons (dOp fIxA (dVar 4) (dC (.str "marks"))) aNil)))))) (dRet (dC (.bl false))) dSkip
abbrev B6 : DS := dExpr (dBM "dict" mClear (dPropV 0 (viaK F_Book_rule) (dVar 6)) aNil)
abbrev B7 : DS := dFor (.tp [7, 8]) (iLst (dCall 0 (viaP F__law_parts) aNil)) (dSeq (dFor (.nm 9) (iLst (dVar 8)) (dSeq (dSet 10 (dDictC (aCons (dVar 4) aNil))) (dSeq (dSetA (dVar 10) (dC (.str "rule")) (dDictC (aCons (dOp fIxA (dVar 4) (dC (.str "rule"))) aNil))) (dSeq (dFz2At 10 2 (dSetA (dOp fIxA (dVar 10) (dC (.str "rule"))) (dVar 7) (dVar 9))) (dIfS (bTest (dOp (fNeO 0 F_Book_eq) (dCall 3 (viaP F__law_told) (aCons (dVar 6) (aCons (dVar 7) (aCons (dVar 9) aNil)))) (dCall 1 (viaP F__law_made) (aCons (dVar 10) aNil)))) (dRet (dC (.bl false))) dSkip))))) (dIfS (bTest (dOp (fEqA true) (dCall 3 (viaP F__law_told) (aCons (dVar 6) (aCons (dVar 7) (aCons (dOp fIxA (dLst (aCons (dC (.str "no")) (aCons (dC .non) (aCons (dC (.int 3)) (aCons (dTup (aCons (dC (.str "open")) aNil)) aNil))))) (dCall 2 (viaR F__law_pick) (aCons (dVar 1) (aCons (dC (.int 4)) aNil)))) aNil)))) (dLst (aCons (dC (.str "bad")) (aCons (dVar 7) aNil))))) (dRet (dC (.bl false))) dSkip))
abbrev B8 : DS := dIfS (bTest (dOp (fEqA true) (dCall 3 (viaP F__law_told) (aCons (dVar 6) (aCons (dOp fIxA (dLst (aCons (dC (.str "no")) (aCons (dC .non) (aCons (dC (.int 3)) (aCons (dTup (aCons (dC (.str "ends")) aNil)) (aCons (dLst (aCons (dC (.str "over")) aNil)) aNil)))))) (dCall 2 (viaR F__law_pick) (aCons (dVar 1) (aCons (dC (.int 5)) aNil)))) (aCons (dC (.str "open")) aNil)))) (dLst (aCons (dC (.str "bad")) (aCons (dC (.str "")) aNil))))) (dRet (dC (.bl false))) dSkip
abbrev B9 : DS := dIfS (bTest (dOp (fEqA true) (dLcW [11, 12] (.tp [11, 12]) (dVar 2) (bTest (dOp (fEqA true) (dOp (fEqO 0 F_Book_eq) (dVar 11) (dVar 6)) (dOp (fEqA false) (dVar 12) (dCall 1 (viaP F__law_mark) (aCons (dVar 4) aNil))))) (dVar 11)) (dLst aNil))) (dRet (dC (.bl false))) dSkip
abbrev B10 : DS := dExpr (dBM "list" mAppend (dVar 2) (aCons (dTup (aCons (dVar 6) (aCons (dCall 1 (viaP F__law_mark) (aCons (dVar 4) aNil)) aNil))) aNil))
abbrev C0 : DS := dFor (.nm 9) (iLst (dVar 8)) (dSeq (dSet 10 (dDictC (aCons (dVar 4) aNil))) (dSeq (dSetA (dVar 10) (dC (.str "rule")) (dDictC (aCons (dOp fIxA (dVar 4) (dC (.str "rule"))) aNil))) (dSeq (dFz2At 10 2 (dSetA (dOp fIxA (dVar 10) (dC (.str "rule"))) (dVar 7) (dVar 9))) (dIfS (bTest (dOp (fNeO 0 F_Book_eq) (dCall 3 (viaP F__law_told) (aCons (dVar 6) (aCons (dVar 7) (aCons (dVar 9) aNil)))) (dCall 1 (viaP F__law_made) (aCons (dVar 10) aNil)))) (dRet (dC (.bl false))) dSkip))))
abbrev C1 : DS := dIfS (bTest (dOp (fEqA true) (dCall 3 (viaP F__law_told) (aCons (dVar 6) (aCons (dVar 7) (aCons (dOp fIxA (dLst (aCons (dC (.str "no")) (aCons (dC .non) (aCons (dC (.int 3)) (aCons (dTup (aCons (dC (.str "open")) aNil)) aNil))))) (dCall 2 (viaR F__law_pick) (aCons (dVar 1) (aCons (dC (.int 4)) aNil)))) aNil)))) (dLst (aCons (dC (.str "bad")) (aCons (dVar 7) aNil))))) (dRet (dC (.bl false))) dSkip
abbrev D0 : DS := dSet 10 (dDictC (aCons (dVar 4) aNil))
abbrev D1 : DS := dSetA (dVar 10) (dC (.str "rule")) (dDictC (aCons (dOp fIxA (dVar 4) (dC (.str "rule"))) aNil))
abbrev D2 : DS := dFz2At 10 2 (dSetA (dOp fIxA (dVar 10) (dC (.str "rule"))) (dVar 7) (dVar 9))
abbrev D3 : DS := dIfS (bTest (dOp (fNeO 0 F_Book_eq) (dCall 3 (viaP F__law_told) (aCons (dVar 6) (aCons (dVar 7) (aCons (dVar 9) aNil)))) (dCall 1 (viaP F__law_made) (aCons (dVar 10) aNil)))) (dRet (dC (.bl false))) dSkip
section
variable {d m : Int} {r : Ru} {ms : List Str}
theorem put_dicX {S : Sto} {ks vs : List D} {q : Int ⊕ Str} {c : Nat} {i y : D} (h : S[c]? = some (some (.dic ks vs))) (hq : keyD i = some q) (hl : ks.length < 1000) : putAt (.ptr c) i y S = some (S.set c (some (.dic (dicPut ks vs q i y).1 (dicPut ks vs q i y).2))) := by
  unfold Dl.putAt
  dsimp only
  rw [h]
  dsimp only
  rw [hq]
  exact if_pos hl
theorem setA_ok {t : Lc} {S S1 S4 : Sto} {dx di dv : DE} {x i y : D} (h1 : dv t S = .ok y S1) (h2 : dx t S1 = .ok x S1) (h3 : di t S1 = .ok i S1) (h4 : putAt x i y S1 = some S4) : dSetA dx di dv t S = .nx t S4 := by
  rw [setA_is, h1]
  show (Dl.ofE (dx t S1) t fun x S2 => Dl.ofE (di t S2) t fun i S3 => match putAt x i y S3 with
    | some S4 => SOut.nx t S4
    | none => .bad) = _
  rw [h2]
  show (Dl.ofE (di t S1) t fun i S3 => match putAt x i y S3 with
    | some S4 => SOut.nx t S4
    | none => .bad) = _
  rw [h3]
  show (match putAt x i y S1 with
    | some S4 => SOut.nx t S4
    | none => .bad) = _
  rw [h4]
theorem ne_same {x : D} (h : fine x = true) (S : Sto) : fEqA true x x S = .ok (.bl false) S := (eqA_is (neg := true) (p := True) h h ⟨fun _ => trivial, fun _ => rfl⟩).trans (by rw [decide_true]; rfl)
abbrev K4 : List D := [.str "days", .str "most", .str "rule", .str "marks"]
/-- the law's places -/
abbrev TL (scr : D) (a3 : Option D) (d m : Int) (r : Ru) (ms : List Str) (a5 : Option D) (a7 a8 a9 a10 : Option D) : Lc := [some scr, some (.ptr 0), some (.ptr 1), a3, some (tX d m r ms), a5, some (bkD d m r ms), a7, a8, a9, a10, none, none]
abbrev wordL : DS := dSeq D0 (dSeq D1 (dSeq D2 D3))
abbrev partL : DS := dSeq C0 C1
theorem word_turn (h1 : 2 ≤ d) (h2 : d ≤ 4) (m1 : 1 ≤ m) (m3 : m ≤ 3) (hs : ms.Sublist marks) (hw : RuleW r.ws) (scr : D) {p : Str × List Str} (hp : p ∈ parts) {w : Str} (hi : w ∈ p.2) (B : Sto) (a3 a5 a8 a10 : Option D) :
    wordL (TL scr a3 d m r ms a5 (some (.str p.1)) a8 (some (.str w)) a10) B = .nx (TL scr a3 d m r ms a5 (some (.str p.1)) a8 (some (.str w)) (some (tX d m (r.put p.1 w) ms))) (B ++ [none, none]) := by
  have hm : ∀ w ∈ ms, w ∈ marks := fun w h => hs.subset h
  have hr := put_rule hw hp hi
  let T : Option D → Lc := fun z => TL scr a3 d m r ms a5 (some (.str p.1)) a8 (some (.str w)) z
  let V1 : List D := [.int d, .int m, .dic PARTS_ks (r.ws.map .str), .tup (ms.map .str)]
  let V2 : List D := [.int d, .int m, .ptr (B.length + 1), .tup (ms.map .str)]
  let R1 : List D := r.ws.map .str
  let R2 : List D := (r.put p.1 w).ws.map .str
  have s1 : D0 (T a10) B = .nx (T (some (.ptr B.length))) (B ++ [some (.dic K4 V1)]) := rfl
  have l1 : (B ++ [some (D.dic K4 V1)]).length = B.length + 1 := by rw [List.length_append]; rfl
  have v2 : dDictC (aCons (dOp fIxA (dVar 4) (dC (.str "rule"))) aNil) (T (some (.ptr B.length))) (B ++ [some (.dic K4 V1)]) = .ok (.ptr (B.length + 1)) (B ++ [some (.dic K4 V1), some (.dic PARTS_ks R1)]) := by
    have a : aCons (dOp fIxA (dVar 4) (dC (.str "rule"))) aNil (T (some (.ptr B.length))) (B ++ [some (.dic K4 V1)]) = .ok [r.D] (B ++ [some (.dic K4 V1)]) := cons_ok (op_ok (x := tX d m r ms) (y := .str "rule") (var_ok rfl) rfl (t_rule d m r ms _)) nil_is
    unfold dDictC
    rw [a]
    show Out.ok (D.ptr (B ++ [some (D.dic K4 V1)]).length) ((B ++ [some (D.dic K4 V1)]) ++ [some (.dic PARTS_ks R1)]) = _
    rw [l1, List.append_assoc]; rfl
  have g1 : (B ++ [some (D.dic K4 V1), some (D.dic PARTS_ks R1)])[B.length]? = some (some (.dic K4 V1)) := app_get (i := 0)
  have pt1 : putAt (.ptr B.length) (.str "rule") (.ptr (B.length + 1)) (B ++ [some (.dic K4 V1), some (.dic PARTS_ks R1)]) = some (B ++ [some (.dic K4 V2), some (.dic PARTS_ks R1)]) := by
    rw [put_dicX (q := .inr "rule") g1 rfl (by decide)]
    have : (dicPut K4 V1 (.inr "rule") (.str "rule") (.ptr (B.length + 1))).1 = K4 ∧ (dicPut K4 V1 (.inr "rule") (.str "rule") (.ptr (B.length + 1))).2 = V2 := ⟨by kernel_rfl, by kernel_rfl⟩
    rw [this.1, this.2]
    exact congrArg some (app_put (i := 0))
  have s2 : D1 (T (some (.ptr B.length))) (B ++ [some (.dic K4 V1)]) = .nx (T (some (.ptr B.length))) (B ++ [some (.dic K4 V2), some (.dic PARTS_ks R1)]) :=
    setA_ok v2 (var_ok (d := .ptr B.length) rfl) rfl pt1
  have g2 : (B ++ [some (D.dic K4 V2), some (D.dic PARTS_ks R1)])[B.length]? = some (some (.dic K4 V2)) := app_get (i := 0)
  have g3 : (B ++ [some (D.dic K4 V2), some (D.dic PARTS_ks R1)])[B.length + 1]? = some (some (.dic PARTS_ks R1)) := app_get (i := 1)
  have ix : dOp fIxA (dVar 10) (dC (.str "rule")) (T (some (.ptr B.length))) (B ++ [some (.dic K4 V2), some (.dic PARTS_ks R1)]) = .ok (.ptr (B.length + 1)) (B ++ [some (.dic K4 V2), some (.dic PARTS_ks R1)]) := by
    refine op_ok (x := .ptr B.length) (y := .str "rule") (var_ok rfl) rfl ?_
    unfold fIxA
    rw [deref_at g2]
    kernel_rfl
  have pt2 : putAt (.ptr (B.length + 1)) (.str p.1) (.str w) (B ++ [some (.dic K4 V2), some (.dic PARTS_ks R1)]) = some (B ++ [some (.dic K4 V2), some (.dic PARTS_ks R2)]) := by
    rw [put_dicX (q := .inr p.1) g3 rfl (by decide +kernel)]
    have : (dicPut PARTS_ks R1 (.inr p.1) (.str p.1) (.str w)).1 = PARTS_ks ∧ (dicPut PARTS_ks R1 (.inr p.1) (.str p.1) (.str w)).2 = R2 := by
      show (dicPut PARTS_ks (r.ws.map .str) (.inr p.1) (.str p.1) (.str w)).1 = PARTS_ks ∧ (dicPut PARTS_ks (r.ws.map .str) (.inr p.1) (.str p.1) (.str w)).2 = (r.put p.1 w).ws.map .str
      rcases five hp with rfl | rfl | rfl | rfl | rfl
      · rw [p1]; exact ⟨by kernel_rfl, by kernel_rfl⟩
      · rw [p2]; exact ⟨by kernel_rfl, by kernel_rfl⟩
      · rw [p3]; exact ⟨by kernel_rfl, by kernel_rfl⟩
      · rw [p4]; exact ⟨by kernel_rfl, by kernel_rfl⟩
      · rw [p5]; exact ⟨by kernel_rfl, by kernel_rfl⟩
    rw [this.1, this.2]
    exact congrArg some (app_put (i := 1))
  have q3 : dSetA (dOp fIxA (dVar 10) (dC (.str "rule"))) (dVar 7) (dVar 9) (T (some (.ptr B.length))) (B ++ [some (.dic K4 V2), some (.dic PARTS_ks R1)]) = .nx (T (some (.ptr B.length))) (B ++ [some (.dic K4 V2), some (.dic PARTS_ks R2)]) :=
    setA_ok (var_ok (d := .str w) rfl) ix (var_ok (d := .str p.1) rfl) pt2
  have g4 : (B ++ [some (D.dic K4 V2), some (D.dic PARTS_ks R2)])[B.length]? = some (some (.dic K4 V2)) := app_get (i := 0)
  have g5 : (B ++ [some (D.dic K4 V2), some (D.dic PARTS_ks R2)])[B.length + 1]? = some (some (.dic PARTS_ks R2)) := app_get (i := 1)
  have s3 : D2 (T (some (.ptr B.length))) (B ++ [some (.dic K4 V2), some (.dic PARTS_ks R1)]) = .nx (T (some (tX d m (r.put p.1 w) ms))) (B ++ [none, none]) := by
    refine (fz2_nx (k := B.length) (j := B.length + 1) q3 rfl g4 rfl g5 (by omega)).trans ?_
    rw [show ((B ++ [some (D.dic K4 V2), some (D.dic PARTS_ks R2)]).set (B.length + 1) none).set B.length none = B ++ [none, none] by
      rw [app_put (i := 1)]
      exact app_put (i := 0)]
    rfl
  have s4 : D3 (T (some (tX d m (r.put p.1 w) ms))) (B ++ [none, none]) = .nx (T (some (tX d m (r.put p.1 w) ms))) (B ++ [none, none]) :=
    ifs_skip (test_ok (op_ok (x := bkD d m (r.put p.1 w) ms) (y := bkD d m (r.put p.1 w) ms) (call_ok (n := 3) (cons_ok (x := bkD d m r ms) (var_ok rfl) (cons_ok (x := .str p.1) (var_ok rfl) (cons_ok (x := .str w) (var_ok rfl) nil_is))) rfl (told_word h1 h2 m1 m3 hs hw hp hi _))
      (call_ok (n := 1) (cons_ok (x := tX d m (r.put p.1 w) ms) (var_ok rfl) nil_is) rfl (made_is h1 h2 m1 m3 hr hs _)) (own_ne hr hm _)))
  exact (seq_nx s1).trans ((seq_nx s2).trans ((seq_nx s3).trans s4))
theorem word_loop (h1 : 2 ≤ d) (h2 : d ≤ 4) (m1 : 1 ≤ m) (m3 : m ≤ 3) (hs : ms.Sublist marks) (hw : RuleW r.ws) (scr : D) {p : Str × List Str} (hp : p ∈ parts) (q b : Option D) (a3 a5 a8 : Option D) : ∀ (ws : List Str) (J : Sto) (a9 a10 : Option D), (∀ w ∈ ws, w ∈ p.2) →
    ∃ b9 b10 J', dLoop (.nm 9) wordL (ws.map .str) (TL scr a3 d m r ms a5 (some (.str p.1)) a8 a9 a10) (q :: b :: J) = .nx (TL scr a3 d m r ms a5 (some (.str p.1)) a8 b9 b10) (q :: b :: J')
  | [], J, a9, a10, _ => ⟨a9, a10, J, rfl⟩
  | w :: ws, J, a9, a10, hi => by
    have e1 := word_turn (r := r) h1 h2 m1 m3 hs hw scr hp (hi w List.mem_cons_self) (q :: b :: J) a3 a5 a8 a10
    obtain ⟨b9, b10, J', e2⟩ := word_loop h1 h2 m1 m3 hs hw scr hp q b a3 a5 a8 ws (J ++ [none, none]) (some (.str w)) (some (tX d m (r.put p.1 w) ms)) (fun x hx => hi x (List.mem_cons_of_mem _ hx))
    exact ⟨b9, b10, J', (loop_one (t1 := TL scr a3 d m r ms a5 (some (.str p.1)) a8 (some (.str w)) a10) rfl e1).trans e2⟩
theorem bad_fine {p : Str} (h : PyData.strOk p = true) : fine (.lst [.str "bad", .str p]) = true := by
  have e : PyData.strOk ("bad" : Str) = true := by decide +kernel
  show ((PyData.strOk ("bad" : Str) && (PyData.strOk p && true)) && true) = true
  rw [h, e]; rfl
theorem hgts_strs : ∀ ms : List Str, hgts (ms.map D.str) = 0
  | [] => rfl
  | x :: xs => by show max 0 (hgts (xs.map D.str)) = 0; rw [hgts_strs xs]; rfl
theorem part_str {p : Str × List Str} (hp : p ∈ parts) : PyData.strOk p.1 = true := by
  rcases five hp with rfl | rfl | rfl | rfl | rfl <;> decide +kernel
theorem part_turn (h1 : 2 ≤ d) (h2 : d ≤ 4) (m1 : 1 ≤ m) (m3 : m ≤ 3) (hs : ms.Sublist marks) (hw : RuleW r.ws) (scr : D) {p : Str × List Str} (hp : p ∈ parts) {q : D} (hq : Row q) (b : Option D) (J : Sto) (a3 a5 a9 a10 : Option D) :
    ∃ q' b9 b10 J', Row q' ∧ partL (TL scr a3 d m r ms a5 (some (.str p.1)) (some (.lst (p.2.map .str))) a9 a10) (some q :: b :: J) = .nx (TL scr a3 d m r ms a5 (some (.str p.1)) (some (.lst (p.2.map .str))) b9 b10) (some q' :: b :: J') := by
  obtain ⟨b9, b10, J', e1⟩ := word_loop (r := r) h1 h2 m1 m3 hs hw scr hp (some q) b a3 a5 (some (.lst (p.2.map .str))) p.2 J a9 a10 (fun _ h => h)
  have s1 : C0 (TL scr a3 d m r ms a5 (some (.str p.1)) (some (.lst (p.2.map .str))) a9 a10) (some q :: b :: J) = .nx (TL scr a3 d m r ms a5 (some (.str p.1)) (some (.lst (p.2.map .str))) b9 b10) (some q :: b :: J') := for_ok (ilst_ok (xs := p.2.map .str) (var_ok rfl)) e1
  obtain ⟨v, q', e2, hq', v0, v1⟩ := pickR hq (many := 4) (by decide) (by decide)
  obtain ⟨x, hx, ex⟩ := list_at (xs := odds) v0 (by simpa [odds] using v1)
  have ix : dOp fIxA (dLst (aCons (dC (.str "no")) (aCons (dC .non) (aCons (dC (.int 3)) (aCons (dTup (aCons (dC (.str "open")) aNil)) aNil))))) (dCall 2 (viaR F__law_pick) (aCons (dVar 1) (aCons (dC (.int 4)) aNil))) (TL scr a3 d m r ms a5 (some (.str p.1)) (some (.lst (p.2.map .str))) b9 b10) (some q :: b :: J') = .ok x (some q' :: b :: J') := by
    refine op_ok (x := .lst odds) (y := .int v) rfl (call_ok (n := 2) (cons_ok (x := .ptr 0) (var_ok rfl) (cons_ok (x := .int 4) rfl nil_is)) rfl (e2 _)) ?_
    show (match atI odds v with | some d => Out.ok d _ | none => .bad) = _
    rw [ex]
  have s2 : C1 (TL scr a3 d m r ms a5 (some (.str p.1)) (some (.lst (p.2.map .str))) b9 b10) (some q :: b :: J') = .nx (TL scr a3 d m r ms a5 (some (.str p.1)) (some (.lst (p.2.map .str))) b9 b10) (some q' :: b :: J') :=
    ifs_skip (test_ok (op_ok (x := .lst [.str "bad", .str p.1]) (y := .lst [.str "bad", .str p.1]) (call_ok (n := 3) (cons_ok (x := bkD d m r ms) (var_ok rfl) (cons_ok (x := .str p.1) (var_ok rfl) (cons_ok ix nil_is))) rfl (told_exc ⟨rfl, below_o hx⟩ (fun S => turned_odd h1 h2 m1 m3 hs hw hp hx S) _)) rfl (ne_same (bad_fine (part_str hp)) _)))
  exact ⟨q', b9, b10, J', hq', (seq_nx s1).trans s2⟩
theorem part_loop (h1 : 2 ≤ d) (h2 : d ≤ 4) (m1 : 1 ≤ m) (m3 : m ≤ 3) (hs : ms.Sublist marks) (hw : RuleW r.ws) (scr : D) (b : Option D) (a3 a5 : Option D) : ∀ (ps : List (Str × List Str)) (q : D) (J : Sto) (a7 a8 a9 a10 : Option D), Row q → (∀ p ∈ ps, p ∈ parts) →
    ∃ q' b7 b8 b9 b10 J', Row q' ∧ dLoop (.tp [7, 8]) partL (ps.map fun p => .tup [.str p.1, .lst (p.2.map .str)]) (TL scr a3 d m r ms a5 a7 a8 a9 a10) (some q :: b :: J) = .nx (TL scr a3 d m r ms a5 b7 b8 b9 b10) (some q' :: b :: J')
  | [], q, J, a7, a8, a9, a10, hq, _ => ⟨q, a7, a8, a9, a10, J, hq, rfl⟩
  | p :: ps, q, J, a7, a8, a9, a10, hq, hp => by
    obtain ⟨q1, b9, b10, J1, hq1, e1⟩ := part_turn (r := r) h1 h2 m1 m3 hs hw scr (hp p List.mem_cons_self) hq b J a3 a5 a9 a10
    obtain ⟨q', c7, c8, c9, c10, J', hq', e2⟩ := part_loop h1 h2 m1 m3 hs hw scr b a3 a5 ps q1 J1 (some (.str p.1)) (some (.lst (p.2.map .str))) b9 b10 hq1 (fun x hx => hp x (List.mem_cons_of_mem _ hx))
    exact ⟨q', c7, c8, c9, c10, J', hq', (loop_one (t1 := TL scr a3 d m r ms a5 (some (.str p.1)) (some (.lst (p.2.map .str))) a9 a10) rfl e1).trans e2⟩
/-! ### the properties -/
theorem rule_prop {de : DE} {t : Lc} {S S1 : Sto} (h : de t S = .ok (bkD d m r ms) S1) : dPropV 0 (viaK F_Book_rule) de t S = .ok (.ptr S1.length) (S1 ++ [some r.D]) := by
  have e : viaK F_Book_rule [bkD d m r ms] S1 = .ok (.ptr S1.length) (S1 ++ [some r.D]) := by
    show runF 1 1 den_Book_rule [bkD d m r ms] S1 = _
    refine run_rt (ret_rt ?_)
    have a : aCons (dAttr 0 "parts" (dVar 0)) aNil [some (bkD d m r ms)] S1 = .ok [r.D] S1 := cons_ok (bk_rule (var_ok rfl)) nil_is
    show dDictC (aCons (dAttr 0 "parts" (dVar 0)) aNil) [some (bkD d m r ms)] S1 = _
    unfold dDictC
    rw [a]; rfl
  unfold dPropV
  rw [h]
  show (if 0 = 0 then (viaK F_Book_rule [bkD d m r ms] S1).calm else .bad) = _
  rw [if_pos rfl, e]; rfl
theorem val_prop {f : DF} {x : D} {de : DE} {t : Lc} {S S1 : Sto} (h : de t S = .ok (bkD d m r ms) S1) (hb : below 0 x = true) (e : f [bkD d m r ms] [] = .ok x []) : dPropV 0 (viaP f) de t S = .ok x S1 := by
  have e : viaP f [bkD d m r ms] S1 = .ok x S1 := viaP_ok (by show (below 0 (bkD d m r ms) && true) = true; rw [below_bk]; rfl) e hb
  unfold dPropV
  rw [h]
  show (if 0 = 0 then (viaP f [bkD d m r ms] S1).calm else .bad) = _
  rw [if_pos rfl, e]; rfl
/-! ### one with another -/
structure Bk where
  d : Int
  m : Int
  r : Ru
  ms : List Str
def Bk.Ok (b : Bk) : Prop := RuleW b.r.ws ∧ ∀ w ∈ b.ms, w ∈ marks
def mkD (d m : Int) (r : Ru) (ms : List Str) : D := .lst [.int d, .int m, .tup (ms.map .str), .lst (ruP r)]
def Bk.D (b : Bk) : D := .tup [bkD b.d b.m b.r b.ms, mkD b.d b.m b.r b.ms]
theorem mark_is (hw : RuleW r.ws) (S : Sto) : viaP F__law_mark [tX d m r ms] S = .ok (mkD d m r ms) S := by
  refine viaP_ok (S' := []) (by show (below 0 (tX d m r ms) && true) = true; rw [below_t]; rfl) ?_ (by show (true && (true && (belows 0 (ms.map .str) && (true && true)))) = true; rw [below_strs]; rfl)
  show runF 1 1 den__law_mark _ _ = _
  refine run_rt (ret_rt (lst_ok (xs := [.int d, .int m, .tup (ms.map .str), .lst (ruP r)]) (cons_ok (op_ok (var_ok rfl) rfl (t_days d m r ms [])) (cons_ok (op_ok (var_ok rfl) rfl (t_most d m r ms [])) (cons_ok (op_ok (var_ok rfl) rfl (t_marks d m r ms [])) (cons_ok ?_ nil_is)))) (show 4 ≤ sizeLine by decide)))
  exact b_ok (cons_ok (items_ru (op_ok (var_ok rfl) rfl (t_rule d m r ms []))) nil_is) ((ruP_is hw).2 [])
theorem mk_fine (hw : RuleW r.ws) (hm : ∀ w ∈ ms, w ∈ marks) : fine (mkD d m r ms) = true := by
  have f1 := marks_fine hm
  have f2 := (ruP_is hw).1
  obtain ⟨g1, k1⟩ := Bool.and_eq_true_iff.mp f1
  obtain ⟨g2, k2⟩ := Bool.and_eq_true_iff.mp f2
  have k1 : hgts (ms.map D.str) + 1 ≤ 60 := of_decide_eq_true k1
  have g1 : goods (ms.map D.str) = true := g1
  have g2 : goods (ruP r) = true := g2
  have e1 := hgts_strs ms
  have e2 : hgts (ruP r) = 1 := by kernel_rfl
  show ((true && (true && (goods (ms.map D.str) && (goods (ruP r) && true)))) && decide (max 0 (max 0 (max (hgts (ms.map D.str) + 1) (max (hgts (ruP r) + 1) 0))) + 1 ≤ 60)) = true
  rw [g1, g2, e1, e2]; rfl
theorem ruP_inj {r' : Ru} : ruP r = ruP r' ↔ r.ws = r'.ws := by
  unfold ruP Ru.ws
  simp only [List.cons.injEq, D.tup.injEq, D.str.injEq, true_and, and_true]
theorem mk_eq {d' m' : Int} {r' : Ru} {ms' : List Str} (hw : RuleW r.ws) (hw' : RuleW r'.ws) (hm : ∀ w ∈ ms, w ∈ marks) (hm' : ∀ w ∈ ms', w ∈ marks) (S : Sto) : fEqA false (mkD d m r ms) (mkD d' m' r' ms') S = .ok (.bl (decide (same d m r ms d' m' r' ms'))) S := by
  refine (eqA_is (p := same d m r ms d' m' r' ms') (mk_fine hw hm) (mk_fine hw' hm') ?_).trans (by rw [Bool.false_xor])
  unfold mkD same
  have s := tup_inj (xs := ms) (ys := ms') str_inj
  rw [D.lst.injEq, List.cons.injEq, List.cons.injEq, List.cons.injEq, List.cons.injEq, D.int.injEq, D.int.injEq, D.lst.injEq, ruP_inj, s]
  exact ⟨fun h => ⟨h.1, h.2.1, h.2.2.1, h.2.2.2.1⟩, fun h => ⟨h.1, h.2.1, h.2.2.1, h.2.2.2, rfl⟩⟩
theorem bl_ne (b : Bool) (S : Sto) : fEqA true (.bl b) (.bl b) S = .ok (.bl false) S := by cases b <;> kernel_rfl
theorem lcW_skip {p n i : Nat} {g : Tg} {dt : DB} {de : DE} {t t1 : Lc} {acc xs : List D} {x : D} {S : Sto} (hS : S[p]? = some (some (.lst xs))) (hx : xs[i]? = some x) (h1 : g.set x t = some t1) (h2 : dt t1 S = .ok false S) : lcLoopW p g dt de t (n + 1) i acc S = lcLoopW p g dt de t n (i + 1) acc S := by
  show (match S[p]? with
    | some (some (.lst xs)) => (match xs[i]? with
      | none => Out.ok acc S
      | some d => match g.set d t with
        | none => .bad
        | some t1 => (dt t1 S).calm.bind fun b S1 => if b = true then (de t1 S1).calm.bind fun y S2 => if acc.length < sizeLine then lcLoopW p g dt de t n (i + 1) (acc ++ [y]) S2 else .bad else lcLoopW p g dt de t n (i + 1) acc S1)
    | _ => .bad) = _
  simp only [hS, hx, h1, h2, calm_ok, bind_ok, Bool.false_eq_true, if_false]
theorem lcW_end {p n i : Nat} {g : Tg} {dt : DB} {de : DE} {t : Lc} {acc xs : List D} {S : Sto} (hS : S[p]? = some (some (.lst xs))) (hx : xs[i]? = none) : lcLoopW p g dt de t (n + 1) i acc S = .ok acc S := by
  show (match S[p]? with
    | some (some (.lst xs)) => (match xs[i]? with
      | none => Out.ok acc S
      | some d => match g.set d t with
        | none => .bad
        | some t1 => (dt t1 S).calm.bind fun b S1 => if b = true then (de t1 S1).calm.bind fun y S2 => if acc.length < sizeLine then lcLoopW p g dt de t n (i + 1) (acc ++ [y]) S2 else .bad else lcLoopW p g dt de t n (i + 1) acc S1)
    | _ => .bad) = _
  simp only [hS, hx]
abbrev oneT : DB := bTest (dOp (fEqA true) (dOp (fEqO 0 F_Book_eq) (dVar 11) (dVar 6)) (dOp (fEqA false) (dVar 12) (dCall 1 (viaP F__law_mark) (aCons (dVar 4) aNil))))
theorem before_loop (hw : RuleW r.ws) (hm : ∀ w ∈ ms, w ∈ marks) (scr : D) (a3 a5 a7 a8 a9 a10 : Option D) (q : Option D) (J : Sto) (bs : List Bk) (hb : ∀ b ∈ bs, b.Ok) : ∀ (k n i : Nat), i + k = bs.length → k < n →
    lcLoopW 1 (.tp [11, 12]) oneT (dVar 11) (TL scr a3 d m r ms a5 a7 a8 a9 a10) n i [] (q :: some (.lst (bs.map Bk.D)) :: J) = .ok [] (q :: some (.lst (bs.map Bk.D)) :: J)
  | 0, n + 1, i, hi, _ => lcW_end (xs := bs.map Bk.D) rfl (by rw [List.getElem?_eq_none_iff, List.length_map]; omega)
  | k + 1, n + 1, i, hi, hn => by
    have hl : i < bs.length := by omega
    obtain ⟨o1, o2⟩ := hb _ (List.getElem_mem hl)
    refine (lcW_skip (xs := bs.map Bk.D) (x := bs[i].D) (t1 := [some scr, some (.ptr 0), some (.ptr 1), a3, some (tX d m r ms), a5, some (bkD d m r ms), a7, a8, a9, a10, some (bkD bs[i].d bs[i].m bs[i].r bs[i].ms), some (mkD bs[i].d bs[i].m bs[i].r bs[i].ms)]) rfl (by rw [List.getElem?_map, List.getElem?_eq_getElem hl]; rfl) rfl ?_).trans (before_loop hw hm scr a3 a5 a7 a8 a9 a10 q J bs hb k n (i + 1) (by omega) (by omega))
    exact test_ok (op_ok (op_ok (x := bkD bs[i].d bs[i].m bs[i].r bs[i].ms) (y := bkD d m r ms) (var_ok rfl) (var_ok rfl) (own_eq o1 hw o2 hm _)) (op_ok (x := mkD bs[i].d bs[i].m bs[i].r bs[i].ms) (y := mkD d m r ms) (var_ok rfl) (call_ok (n := 1) (cons_ok (x := tX d m r ms) (var_ok rfl) nil_is) rfl (mark_is hw _)) (mk_eq o1 hw o2 hm _)) (bl_ne _ _))
/-! ### a turn -/
abbrev turnL : DS := dSeq B0 (dSeq B1 (dSeq B2 (dSeq B3 (dSeq B4 (dSeq B5 (dSeq B6 (dSeq B7 (dSeq B8 (dSeq B9 B10)))))))))
theorem len2 {q b : Option D} {J : Sto} {o : Option D} : (q :: b :: J) ++ [o] = q :: b :: (J ++ [o]) := rfl
theorem turn_ok (scr : D) {q : D} (hq : Row q) (bs : List Bk) (hb : ∀ b ∈ bs, b.Ok) (hl : bs.length < 100) (J : Sto) (a3 a4 a5 a6 a7 a8 a9 a10 : Option D) : ∃ q' b4 b5 b6 b7 b8 b9 b10 J' x, Row q' ∧ Bk.Ok x ∧
    turnL [some scr, some (.ptr 0), some (.ptr 1), a3, a4, a5, a6, a7, a8, a9, a10, none, none] (some q :: some (.lst (bs.map Bk.D)) :: J) = .nx [some scr, some (.ptr 0), some (.ptr 1), a3, b4, b5, b6, b7, b8, b9, b10, none, none] (some q' :: some (.lst ((bs ++ [x]).map Bk.D)) :: J') := by
  let L : Option D := some (.lst (bs.map Bk.D))
  obtain ⟨v, q1, e0, hq1, v0, v1⟩ := pickR hq (many := 6) (by decide) (by decide)
  obtain ⟨d, m, ws, ms, q2, e1, hq2, h1, h2, m1, m3, hw, hs⟩ := drawn_ok hq1 v0
  obtain ⟨r, rfl⟩ := ru_of hw
  have hm : ∀ w ∈ ms, w ∈ marks := fun w h => hs.subset h
  let T0 : Lc := [some scr, some (.ptr 0), some (.ptr 1), a3, some (tX d m r ms), a5, a6, a7, a8, a9, a10, none, none]
  have s0 : B0 [some scr, some (.ptr 0), some (.ptr 1), a3, a4, a5, a6, a7, a8, a9, a10, none, none] (some q :: L :: J) = .nx T0 (some q2 :: L :: J) :=
    set_nx (call_ok (n := 4) (cons_ok (x := .ptr 0) (var_ok rfl) (cons_ok (x := .int 4) rfl (cons_ok (x := .int 3) rfl (cons_ok (call_ok (n := 2) (cons_ok (x := .ptr 0) (var_ok rfl) (cons_ok (x := .int 6) rfl nil_is)) rfl (e0 _)) nil_is)))) rfl (e1 _))
  let S : Sto := some q2 :: L :: J
  let T1 : Lc := [some scr, some (.ptr 0), some (.ptr 1), a3, some (tX d m r ms), some (.ptr S.length), a6, a7, a8, a9, a10, none, none]
  have s1 : B1 T0 S = .nx T1 (S ++ [some (revD r)]) := by
    refine set_nx (d := .ptr S.length) ?_
    have a : aCons (dRevL (dLItems (dOp fIxA (dVar 4) (dC (.str "rule"))))) aNil T0 S = .ok [.lst (ruP r).reverse] S := by
      refine cons_ok ?_ nil_is
      have i := items_ru (r := r) (op_ok (t := T0) (S := S) (da := dVar 4) (db := dC (.str "rule")) (var_ok rfl) rfl (t_rule d m r ms S))
      unfold dRevL
      rw [i]; rfl
    unfold dDictP
    rw [a]
    show (match mergeP (ruP r).reverse ([], []) with
      | some b => Out.ok (D.ptr S.length) (S ++ [some (D.dic b.1 b.2)])
      | none => .bad) = _
    have e : mergeP (ruP r).reverse ([], []) = some ([.str "shut", .str "over", .str "lengths", .str "ends", .str "changed"], [.str r.shut, .str r.over, .str r.lengths, .str r.ends, .str r.changed]) := by kernel_rfl
    rw [e]; rfl
  let S1 : Sto := S ++ [some (revD r)]
  have at1 : S1[S.length]? = some (some (revD r)) := snoc_at
  let T2 : Lc := TL scr a3 d m r ms (some (.ptr S.length)) a7 a8 a9 a10
  have s2 : B2 T1 S1 = .nx T2 (S1 ++ [none]) := set_nx (make_snoc (S := S1) (xs := [.int d, .int m, .tup (ms.map .str), .ptr S.length]) (cons_ok (op_ok (var_ok rfl) rfl (t_days d m r ms _)) (cons_ok (op_ok (var_ok rfl) rfl (t_most d m r ms _)) (cons_ok (op_ok (var_ok rfl) rfl (t_marks d m r ms _)) (cons_ok (var_ok rfl) nil_is)))) rfl (init_cell h1 h2 m1 m3 hw hs at1))
  have at2 : (S1 ++ [none])[S.length]? = some (some (revD r)) := by rw [List.getElem?_append_left (List.getElem?_eq_some_iff.mp at1).1]; exact at1
  let S3 : Sto := some q2 :: L :: (J ++ [some (.dic [] []), none])
  have s3 : B3 T2 (S1 ++ [none]) = .nx T2 S3 := by
    refine (expr_nx (bm_ok (x := .ptr S.length) (z := .non) (S3 := (S1 ++ [none]).set S.length (some (.dic [] []))) (var_ok rfl) ?_ nil_is ?_)).trans ?_
    · unfold tyD
      rw [deref_at at2]
      rfl
    · unfold mClear
      dsimp only
      rw [at2]
      rfl
    · have : (S1 ++ [none]).set S.length (some (.dic [] [])) = S3 := by
        show ((S ++ [some (revD r)]) ++ [none]).set S.length _ = _
        rw [List.append_assoc]
        exact app_put (S := S) (i := 0)
      rw [this]
  have s4 : B4 T2 S3 = .nx T2 (S3 ++ [none]) := by
    have p : dLItems (dFz (dPropV 0 (viaK F_Book_rule) (dVar 6))) T2 S3 = .ok (.lst (ruP r)) (S3 ++ [none]) := items_ru ((fz_ok (rule_prop (d := d) (m := m) (r := r) (ms := ms) (var_ok rfl)) snoc_at).trans (by rw [snoc_set]))
    have q : dB bSorted (aCons (dLItems (dOp fIxA (dVar 4) (dC (.str "rule")))) aNil) T2 (S3 ++ [none]) = .ok (.lst (ruP r)) (S3 ++ [none]) := b_ok (cons_ok (items_ru (op_ok (var_ok rfl) rfl (t_rule d m r ms _))) nil_is) ((ruP_is hw).2 _)
    exact ifs_skip ((bor_f (test_ok (op_ok p q (ne_same (ruP_is hw).1 _)))).trans (test_ok (op_ok (x := bkD d m r ms) (y := tX d m r ms) (var_ok rfl) (var_ok rfl) (eq_dict _))))
  let S4 : Sto := S3 ++ [none]
  have s5 : B5 T2 S4 = .nx T2 S4 := by
    let X : List D := [.int d, .int m, .tup (ms.map .str)]
    have p : dLst (aCons (dPropV 0 (viaP F_Book_days) (dVar 6)) (aCons (dPropV 0 (viaP F_Book_most) (dVar 6)) (aCons (dPropV 0 (viaP F_Book_marks) (dVar 6)) aNil))) T2 S4 = .ok (.lst X) S4 :=
      lst_ok (xs := X) (cons_ok (val_prop (d := d) (m := m) (r := r) (ms := ms) (var_ok rfl) rfl (show runF 1 1 den_Book_days _ _ = _ from run_rt (ret_rt (bk_days (var_ok rfl))))) (cons_ok (val_prop (d := d) (m := m) (r := r) (ms := ms) (var_ok rfl) rfl (show runF 1 1 den_Book_most _ _ = _ from run_rt (ret_rt (bk_cap (var_ok rfl))))) (cons_ok (val_prop (d := d) (m := m) (r := r) (ms := ms) (var_ok rfl) (by show belows 0 _ = true; exact below_strs ms) (show runF 1 1 den_Book_marks _ _ = _ from run_rt (ret_rt (bk_words (var_ok rfl))))) nil_is))) (show 3 ≤ sizeLine by decide)
    have q : dLst (aCons (dOp fIxA (dVar 4) (dC (.str "days"))) (aCons (dOp fIxA (dVar 4) (dC (.str "most"))) (aCons (dOp fIxA (dVar 4) (dC (.str "marks"))) aNil))) T2 S4 = .ok (.lst X) S4 :=
      lst_ok (xs := X) (cons_ok (op_ok (var_ok rfl) rfl (t_days d m r ms _)) (cons_ok (op_ok (var_ok rfl) rfl (t_most d m r ms _)) (cons_ok (op_ok (var_ok rfl) rfl (t_marks d m r ms _)) nil_is))) (show 3 ≤ sizeLine by decide)
    have f : fine (.lst X) = true := by
      obtain ⟨g, k⟩ := Bool.and_eq_true_iff.mp (mk_fine (d := d) (m := m) hw hm)
      have g : (true && (true && (goods (ms.map D.str) && (goods (ruP r) && true)))) = true := g
      have g1 : goods (ms.map D.str) = true := by
        rw [Bool.true_and, Bool.true_and] at g
        exact (Bool.and_eq_true_iff.mp g).1
      have k1 := hgts_strs ms
      show ((true && (true && (goods (ms.map D.str) && true))) && decide (max 0 (max 0 (max (hgts (ms.map D.str) + 1) 0)) + 1 ≤ 60)) = true
      rw [g1, k1]; rfl
    exact ifs_skip (test_ok (op_ok p q (ne_same f _)))
  let S6 : Sto := S4 ++ [some (.dic [] [])]
  have s6 : B6 T2 S4 = .nx T2 S6 := by
    refine (expr_nx (bm_ok (x := .ptr S4.length) (z := .non) (S3 := (S4 ++ [some r.D]).set S4.length (some (.dic [] []))) (rule_prop (d := d) (m := m) (r := r) (ms := ms) (var_ok rfl)) ?_ nil_is ?_)).trans ?_
    · unfold tyD
      rw [deref_at (S := S4 ++ [some r.D]) (k := S4.length) snoc_at]
      rfl
    · unfold mClear
      dsimp only
      rw [show (S4 ++ [some r.D])[S4.length]? = some (some r.D) from snoc_at]
      rfl
    · rw [snoc_set]
  obtain ⟨q7, b7, b8, b9, b10, J7, hq7, e7⟩ := part_loop (r := r) h1 h2 m1 m3 hs hw scr L a3 (some (.ptr S.length)) parts q2 (J ++ [some (.dic [] []), none] ++ [none] ++ [some (.dic [] [])]) a7 a8 a9 a10 hq2 (fun _ h => h)
  let T7 : Lc := TL scr a3 d m r ms (some (.ptr S.length)) b7 b8 b9 b10
  have s7 : B7 T2 S6 = .nx T7 (some q7 :: L :: J7) := for_ok (ilst_ok (call_ok (n := 0) nil_is rfl (parts_ok _))) e7
  obtain ⟨u, q8, e8, hq8, u0, u1⟩ := pickR hq7 (many := 5) (by decide) (by decide)
  obtain ⟨x, hx, ex⟩ := list_at (xs := odd2) u0 (by simpa [odd2] using u1)
  have bx : below 0 x = true := by
    simp only [odd2, List.mem_cons, List.not_mem_nil, or_false] at hx
    rcases hx with rfl | rfl | rfl | rfl | rfl <;> rfl
  have s8 : B8 T7 (some q7 :: L :: J7) = .nx T7 (some q8 :: L :: J7) := by
    have ix : dOp fIxA (dLst (aCons (dC (.str "no")) (aCons (dC .non) (aCons (dC (.int 3)) (aCons (dTup (aCons (dC (.str "ends")) aNil)) (aCons (dLst (aCons (dC (.str "over")) aNil)) aNil)))))) (dCall 2 (viaR F__law_pick) (aCons (dVar 1) (aCons (dC (.int 5)) aNil))) T7 (some q7 :: L :: J7) = .ok x (some q8 :: L :: J7) := by
      refine op_ok (x := .lst odd2) (y := .int u) rfl (call_ok (n := 2) (cons_ok (x := .ptr 0) (var_ok rfl) (cons_ok (x := .int 5) rfl nil_is)) rfl (e8 _)) ?_
      show (match atI odd2 u with | some d => Out.ok d _ | none => .bad) = _
      rw [ex]
    exact ifs_skip (test_ok (op_ok (x := .lst [.str "bad", .str ""]) (y := .lst [.str "bad", .str ""]) (call_ok (n := 3) (cons_ok (x := bkD d m r ms) (var_ok rfl) (cons_ok ix (cons_ok (x := .str "open") rfl nil_is))) rfl (told_exc ⟨bx, rfl⟩ (fun S => turned_odd2 hx S) _)) rfl (ne_same (bad_fine (by decide +kernel)) _)))
  have s9 : B9 T7 (some q8 :: L :: J7) = .nx T7 (some q8 :: L :: J7) := by
    have l : dLcW [11, 12] (.tp [11, 12]) (dVar 2) oneT (dVar 11) T7 (some q8 :: L :: J7) = .ok (.lst []) (some q8 :: L :: J7) := by
      unfold dLcW
      show (lcLoopW 1 (.tp [11, 12]) oneT (dVar 11) (TL scr a3 d m r ms (some (.ptr S.length)) b7 b8 b9 b10) 1000000 0 [] (some q8 :: some (.lst (bs.map Bk.D)) :: J7)).bind _ = _
      rw [before_loop hw hm scr a3 (some (.ptr S.length)) b7 b8 b9 b10 (some q8) J7 bs hb bs.length 1000000 0 (by omega) (by omega)]
      rfl
    exact ifs_skip (test_ok (op_ok (x := .lst []) (y := .lst []) l rfl (ne_same rfl _)))
  refine ⟨q8, some (tX d m r ms), some (.ptr S.length), some (bkD d m r ms), b7, b8, b9, b10, J7, ⟨d, m, r, ms⟩, hq8, ⟨hw, hm⟩, ?_⟩
  have s10 : B10 T7 (some q8 :: L :: J7) = .nx T7 (some q8 :: some (.lst ((bs ++ [(⟨d, m, r, ms⟩ : Bk)]).map Bk.D)) :: J7) := by
    refine (expr_nx (bm_ok (x := .ptr 1) (var_ok rfl) (ty_list (xs := bs.map Bk.D) rfl) (cons_ok (x := Bk.D ⟨d, m, r, ms⟩) (tup_ok (xs := [bkD d m r ms, mkD d m r ms]) (cons_ok (x := bkD d m r ms) (var_ok rfl) (cons_ok (call_ok (n := 1) (cons_ok (x := tX d m r ms) (var_ok rfl) nil_is) rfl (mark_is hw _)) nil_is)) (show 2 ≤ sizeLine by decide)) nil_is) (append_p (ys := bs.map Bk.D) rfl (by rw [List.length_map]; exact Nat.lt_of_lt_of_le hl (by decide))))).trans ?_
    rw [List.map_append]; rfl
  exact (seq_nx s0).trans ((seq_nx s1).trans ((seq_nx s2).trans ((seq_nx s3).trans ((seq_nx s4).trans ((seq_nx s5).trans ((seq_nx s6).trans ((seq_nx s7).trans ((seq_nx s8).trans ((seq_nx s9).trans s10)))))))))
theorem turns_ok (scr : D) : ∀ (n : Nat) (i : Int) {q : D} (_ : Row q) (bs : List Bk) (_ : ∀ b ∈ bs, b.Ok) (_ : bs.length + n < 100) (J : Sto) (a3 a4 a5 a6 a7 a8 a9 a10 : Option D), ∃ t' S',
    dLoop (.nm 3) turnL (intsFrom i n) [some scr, some (.ptr 0), some (.ptr 1), a3, a4, a5, a6, a7, a8, a9, a10, none, none] (some q :: some (.lst (bs.map Bk.D)) :: J) = .nx t' S'
  | 0, i, q, _, bs, _, _, J, a3, a4, a5, a6, a7, a8, a9, a10 => ⟨_, _, rfl⟩
  | n + 1, i, q, hq, bs, hb, hl, J, a3, a4, a5, a6, a7, a8, a9, a10 => by
    obtain ⟨q', b4, b5, b6, b7, b8, b9, b10, J', x, hq', hx, e⟩ := turn_ok scr hq bs hb (by omega) J (some (.int i)) a4 a5 a6 a7 a8 a9 a10
    obtain ⟨t', S', e2⟩ := turns_ok scr n (i + 1) hq' (bs ++ [x]) (fun b h => (List.mem_append.mp h).elim (hb b) fun h => by rw [List.mem_singleton.mp h]; exact hx) (by rw [List.length_append, List.length_singleton]; omega) J' (some (.int i)) b4 b5 b6 b7 b8 b9 b10
    exact ⟨t', S', (loop_one rfl e).trans e2⟩
end
theorem law_true : ∀ ns : List Int, ns.length ≤ 63 → ∃ S, F_law [.rol (ns.map .int)] [] = .ok (.bl true) S := fun ns _ => by
  let scr : D := .rol (ns.map .int)
  have hp : Row (rowD ns 0 0 7) := ⟨ns, 0, 0, 7, rfl, by decide, by decide⟩
  let N : Option D := none
  have w0 : W0 [some scr, N, N, N, N, N, N, N, N, N, N, N, N] [] = .nx [some scr, some (.ptr 0), N, N, N, N, N, N, N, N, N, N, N] [some (rowD ns 0 0 7)] := set_nx (call_ok (cons_ok (var_ok rfl) nil_is) rfl rfl)
  have w1 : W1 [some scr, some (.ptr 0), N, N, N, N, N, N, N, N, N, N, N] [some (rowD ns 0 0 7)] = .nx [some scr, some (.ptr 0), some (.ptr 1), N, N, N, N, N, N, N, N, N, N] [some (rowD ns 0 0 7), some (.lst [])] := rfl
  obtain ⟨t', S', e⟩ := turns_ok scr 5 0 hp [] (fun _ h => nomatch h) (by decide) [] N N N N N N N N
  have w2 : W2 [some scr, some (.ptr 0), some (.ptr 1), N, N, N, N, N, N, N, N, N, N] [some (rowD ns 0 0 7), some (.lst [])] = .nx t' S' := for_ok (irng1_ok (j := 5) rfl (by decide)) e
  exact ⟨_, run_rt ((seq_nx w0).trans ((seq_nx w1).trans ((seq_nx w2).trans (ret_rt rfl))))⟩
end GG
set_option Elab.async false
set_option linter.all false
set_option maxRecDepth 100000
set_option maxHeartbeats 0
open PySem PySem.W PySem.Calls PyProof.Rows
theorem PySem.Challenge.cw_staysbarred_k02_books_kept_holds : PySem.Challenge.rw_staysbarred_k02_books_kept.Holds := by
  w_on; o_law
  refine HandSHeadRun.head_any (r := OpenLaw.row PySem.Challenge.rw_staysbarred_k02_books_kept) (q := view (OpenLaw.row PySem.Challenge.rw_staysbarred_k02_books_kept).prog [26]) (H := GG.HD.hk) (ob := GG.HD.ob) (M := 6000) (loose := GG.HD.loose)
    (d := HandSHeadRun.topDef (OpenLaw.row PySem.Challenge.rw_staysbarred_k02_books_kept).prog 26) (kwd := []) GG.HD.ob_eq (by kernel_rfl) (fun s => by kernel_rfl) GG.HD.run (by kernel_rfl) (by kernel_rfl) (by kernel_rfl) (by rfl) (by first | assumption | decide +kernel) (by decide +kernel)
    ⟨rfl, rfl, rfl, rfl, rfl, by decide +kernel⟩ ?hw ?hc
  case hw => w_witness2
  case hc =>
    refine Dl.walk_D (l := PySem.Challenge.rw_staysbarred_k02_books_kept) (n := 63) (k := 8) (x := "_law_script") (f := GG.F_law) rfl (by decide) (by kernel_rfl) ⟨rfl, by decide, by decide⟩ GG.law_true ?F
    intro w mg fa h Y G hmg0
    obtain ⟨K, KX, c⟩ := Y
    have hmg : mg ("law" : PySem.Str) = some (.ref fa) := by
      have e : (HandSHeadRun.topDef (OpenLaw.row PySem.Challenge.rw_staysbarred_k02_books_kept).prog 26).name = ("law" : PySem.Str) := by kernel_rfl
      rw [← e]; exact hmg0
    have Wc : GG.Wx GG.prog w K mg := ⟨⟨⟨c.t, c.more, h, KX, G⟩, c.y, rfl, by kernel_rfl⟩, c.p, c.q⟩
    cases hmg.symm.trans (GG.gl_law Wc)
    exact ⟨K, GG.clG w K, _, KX, fun s v => L2.FunD.bindsA (ps := ["_law_script"]) (GG.df_law Wc) (fun _ _ _ _ _ _ us hl => match us, hl with | [_], _ => rfl) s [v] rfl, fun base => GG.ok_law Wc⟩
