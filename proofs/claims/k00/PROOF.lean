import PyProof.Rows.All
import Wide.All
import OpenK.AllK
import Wide.FinOn
import PyProof.EqAt
import PyProof.EqKinds
import PyProof.TupleCall
import HandS.Base
import HandS.Call
import HandS.List
import HandS.Comp
import HandS.Dict
import HandS.Iter
import HandS.Ends
import HandS.Exc
import HandS.ExcOwn
import HandS.TryOnly
import HandS.Words
import HandS.WordsExc
import HandS.TupAny
import HandS.Defaults
import HandS.HeadHook1
import HandS.ExcValue
import HandS.ExcInit
import HandS.Wide
import HandS.TupMul
import HandS.Text
import HandS.Conv
import HandS.RaiseMore
import HandS.Style
import HandS.IsInst
import HandS.Small
import HandS.Zip
import KE.GoesEnum
import HandS.HeadEnd
import HandS.HeadHook2
import HandS.Strs
import KE.KExcSuper
import KE.KExcInit
import KE.KExcIs
import KE.KSuper
import HandS.ExcIs
import HandS.ExcField
import PySem.Challenge.RW_lentandback_k00_errors_apart
import HandS.Head0
import HandS.Head1
import HandS.Head2
import KE.KStateDown
-- PMbase
set_option Elab.async false
set_option linter.all false
set_option maxRecDepth 100000
set_option maxHeartbeats 4000000
/-! PM: Python defs as plain Lean functions over data and a store of lists and dicts; what a function gives is what the def gives. -/
namespace PM
open PySem L2

/-! ### data -/
/-- a value as data: tuples by their items, lists and dicts by their place in the store, defs and classes by their names -/
inductive D where
  | non | bl (b : Bool) | int (i : Int) | str (s : Str) | tup (ds : List D) | ro (ds : List D) | loc (n : Nat) | glo (x : Str) | ty (n : String) | exo (c : Str) (ns : List Str) (ds : List D)
mutual
def D.beq : D → D → Bool
  | .non, .non => true
  | .bl a, .bl b => a == b
  | .int a, .int b => decide (a = b)
  | .str a, .str b => decide (a = b)
  | .tup a, .tup b => D.beqs a b
  | .ro a, .ro b => D.beqs a b
  | .loc a, .loc b => decide (a = b)
  | .glo a, .glo b => decide (a = b)
  | .ty a, .ty b => decide (a = b)
  | .exo c ns a, .exo e ms b => decide (c = e) && (decide (ns = ms) && D.beqs a b)
  | _, _ => false
def D.beqs : List D → List D → Bool
  | [], [] => true
  | a :: r, b :: t => D.beq a b && D.beqs r t
  | _, _ => false
end
mutual
theorem D.beq_iff : ∀ a b : D, D.beq a b = true ↔ a = b
  | .non, b => by cases b <;> simp [D.beq]
  | .bl x, b => by cases b <;> simp [D.beq]
  | .int x, b => by cases b <;> simp [D.beq]
  | .str x, b => by cases b <;> simp [D.beq]
  | .tup xs, b => by
    cases b with
    | tup ys =>
      have h := D.beqs_iff xs ys
      simp only [D.beq, D.tup.injEq]
      exact h
    | _ => simp [D.beq]
  | .ro xs, b => by
    cases b with
    | ro ys =>
      have h := D.beqs_iff xs ys
      simp only [D.beq, D.ro.injEq]
      exact h
    | _ => simp [D.beq]
  | .loc x, b => by cases b <;> simp [D.beq]
  | .glo x, b => by cases b <;> simp [D.beq]
  | .ty x, b => by cases b <;> simp [D.beq]
  | .exo c ns xs, b => by
    cases b with
    | exo e ms ys =>
      have h := D.beqs_iff xs ys
      simp only [D.beq, D.exo.injEq, Bool.and_eq_true, decide_eq_true_eq]
      rw [h]
    | _ => simp [D.beq]
theorem D.beqs_iff : ∀ a b : List D, D.beqs a b = true ↔ a = b
  | [], b => by cases b <;> simp [D.beqs]
  | x :: xs, b => by
    cases b with
    | nil => simp [D.beqs]
    | cons y ys =>
      have h1 := D.beq_iff x y
      have h2 := D.beqs_iff xs ys
      simp only [D.beqs, Bool.and_eq_true, List.cons.injEq]
      rw [h1, h2]
end
instance : DecidableEq D := fun a b => if h : D.beq a b = true then .isTrue ((D.beq_iff a b).mp h) else .isFalse fun e => h ((D.beq_iff a b).mpr e)
inductive Cell where
  | lst (ds : List D) | ro (ds : List D) | dct (kvs : List (Key × D))
  deriving DecidableEq
abbrev Store := List Cell
abbrev Env := List (Option D)
/-- an exception: its class's name, its fields -/
structure Exn where
  cls : Str
  fs : List (Str × D)
/-- what comes of a piece: a value, or an exception (with the slots as they stood), or nothing that is told -/
inductive Res (α : Type) where
  | ok (a : α) (st : Store) | exc (e : Exn) (env : Env) (st : Store) | stuck
def Res.bind {α β : Type} (r : Res α) (k : α → Store → Res β) : Res β := match r with
  | .ok a st => k a st
  | .exc e env st => .exc e env st
  | .stuck => .stuck
@[simp] theorem Res.bind_ok {α β : Type} {a : α} {st : Store} {k : α → Store → Res β} : (Res.ok a st).bind k = k a st := rfl
@[simp] theorem Res.bind_exc {α β : Type} {e : Exn} {env : Env} {st : Store} {k : α → Store → Res β} : (Res.exc e env st).bind k = .exc e env st := rfl
@[simp] theorem Res.bind_stuck {α β : Type} {k : α → Store → Res β} : (Res.stuck).bind k = .stuck := rfl
theorem Res.bind_assoc {α β γ : Type} (r : Res α) (k : α → Store → Res β) (l : β → Store → Res γ) : (r.bind k).bind l = r.bind fun a st => (k a st).bind l := by
  cases r <;> rfl

/-! ### how data stands in the heap -/
/-- a list that nobody writes: known to the object, or one of the text -/
def SqR (K : PySem.W.Frag) (H : Hp) (a : Addr) (xs : List V) : Prop := (∃ o, H a = some (.frz o (.lst xs))) ∨
  ∃ (o : Obj) (its : Array Value) (n : Nat), K.lookup a = some o ∧ o.cls = .type "list" ∧ o.dict = none ∧ o.data = .seq its n ∧ its.size ≤ sizeLine ∧ Vals xs its.toList
theorem SqR.sq {K : PySem.W.Frag} {H : Hp} {a : Addr} {xs : List V} (h : SqR K H a xs) : SqL K H a xs := by
  rcases h with h | h
  · exact .inl (.inr h)
  · exact .inr h
/-- a class by its name: one of the text, or ValueError -/
def clsV (K : PySem.W.Frag) (c : Str) : Value := if c = "ValueError" then .type "ValueError" else .ref (He.ga K c)
/-- an exception object at a, its fields' values vs -/
def ExA (K : PySem.W.Frag) (H : Hp) (ρ : List Addr) (c : Str) (ns : List Str) (vs : List V) (a : Addr) : Prop :=
  a ∉ ρ ∧ ((ns = [] ∧ vs = [] ∧ H a = some (ExO (clsV K c) a)) ∨ ∃ (dx : Addr) (fs : List (Str × V)), dx ∉ ρ ∧ H a = some (exo a (He.ga K c) (some dx)) ∧ H dx = some (exd dx fs) ∧ fs.map (·.1) = ns ∧ fs.map (·.2) = vs ∧ c ≠ "ValueError")
theorem ExA.mono {K : PySem.W.Frag} {H H' : Hp} {ρ ρ' : List Addr} (hE : ∀ a φ, H a = some (.ext φ) → a ∉ ρ → H' a = some (.ext φ) ∧ a ∉ ρ') {c : Str} {ns : List Str} {vs : List V} {a : Addr} (h : ExA K H ρ c ns vs a) : ExA K H' ρ' c ns vs a := by
  obtain ⟨h0, h | ⟨dx, fs, h1, h2, h3, h4⟩⟩ := h
  · obtain ⟨q1, q2⟩ := hE a _ h.2.2 h0
    exact ⟨q2, .inl ⟨h.1, h.2.1, q1⟩⟩
  · obtain ⟨q1, q2⟩ := hE a _ h2 h0
    obtain ⟨q3, q4⟩ := hE dx _ h3 h1
    exact ⟨q2, .inr ⟨dx, fs, q4, q1, q3, h4⟩⟩
mutual
inductive Rv (K : PySem.W.Frag) (H : Hp) (ρ : List Addr) : V → D → Prop
  | non : Rv K H ρ .non .non
  | bl (b : Bool) : Rv K H ρ (.bl b) (.bl b)
  | int (i : Int) : Rv K H ρ (.int i) (.int i)
  | str (s : Str) : Rv K H ρ (.str s) (.str s)
  | tup {a : Addr} {vs : List V} {ds : List D} : SqT K H a vs → Rvs K H ρ vs ds → Rv K H ρ (.ref a) (.tup ds)
  | ro {a : Addr} {vs : List V} {ds : List D} : SqR K H a vs → Rvs K H ρ vs ds → Rv K H ρ (.ref a) (.ro ds)
  | loc {n : Nat} {a : Addr} : ρ[n]? = some a → Rv K H ρ (.ref a) (.loc n)
  | glo (x : Str) : Rv K H ρ (.ref (He.ga K x)) (.glo x)
  | ty (n : String) : Rv K H ρ (.ty n) (.ty n)
  | exo {a : Addr} {c : Str} {ns : List Str} {vs : List V} {ds : List D} : ExA K H ρ c ns vs a → Rvs K H ρ vs ds → Rv K H ρ (.ref a) (.exo c ns ds)
inductive Rvs (K : PySem.W.Frag) (H : Hp) (ρ : List Addr) : List V → List D → Prop
  | nil : Rvs K H ρ [] []
  | cons {v : V} {vs : List V} {d : D} {ds : List D} : Rv K H ρ v d → Rvs K H ρ vs ds → Rvs K H ρ (v :: vs) (d :: ds)
end

section
variable {K : PySem.W.Frag} {H H' : Hp} {ρ ρ' : List Addr}
mutual
theorem Rv.mono (hT : ∀ a xs, SqT K H a xs → SqT K H' a xs) (hR : ∀ a xs, SqR K H a xs → SqR K H' a xs) (hL : ∀ (n : Nat) (a : Addr), ρ[n]? = some a → ρ'[n]? = some a) (hE : ∀ a φ, H a = some (.ext φ) → a ∉ ρ → H' a = some (.ext φ) ∧ a ∉ ρ') : ∀ {d : D} {v : V}, Rv K H ρ v d → Rv K H' ρ' v d
  | _, _, .non => .non
  | _, _, .bl b => .bl b
  | _, _, .int i => .int i
  | _, _, .str s => .str s
  | _, _, .tup h r => .tup (hT _ _ h) (Rvs.mono hT hR hL hE r)
  | _, _, .ro h r => .ro (hR _ _ h) (Rvs.mono hT hR hL hE r)
  | _, _, .loc h => .loc (hL _ _ h)
  | _, _, .glo x => .glo x
  | _, _, .ty n => .ty n
  | _, _, .exo h r => .exo (h.mono hE) (Rvs.mono hT hR hL hE r)
theorem Rvs.mono (hT : ∀ a xs, SqT K H a xs → SqT K H' a xs) (hR : ∀ a xs, SqR K H a xs → SqR K H' a xs) (hL : ∀ (n : Nat) (a : Addr), ρ[n]? = some a → ρ'[n]? = some a) (hE : ∀ a φ, H a = some (.ext φ) → a ∉ ρ → H' a = some (.ext φ) ∧ a ∉ ρ') : ∀ {ds : List D} {vs : List V}, Rvs K H ρ vs ds → Rvs K H' ρ' vs ds
  | _, _, .nil => .nil
  | _, _, .cons h r => .cons (Rv.mono hT hR hL hE h) (Rvs.mono hT hR hL hE r)
end
theorem Rvs.length : ∀ {vs : List V} {ds : List D}, Rvs K H ρ vs ds → vs.length = ds.length
  | _, _, .nil => rfl
  | _, _, .cons _ r => by rw [List.length_cons, List.length_cons, r.length]
theorem Rvs.get : ∀ {vs : List V} {ds : List D} {i : Nat} {d : D}, Rvs K H ρ vs ds → ds[i]? = some d → ∃ v, vs[i]? = some v ∧ Rv K H ρ v d
  | _, _, i, _, .nil, e => by simp at e
  | _, _, 0, _, .cons h _, e => by
    simp only [List.getElem?_cons_zero, Option.some.injEq] at e
    subst e
    exact ⟨_, rfl, h⟩
  | _, _, i + 1, d, .cons _ r, e => by
    obtain ⟨v, h1, h2⟩ := Rvs.get (i := i) (d := d) r (by simpa using e)
    exact ⟨v, by simpa using h1, h2⟩
theorem Rvs.get' : ∀ {vs : List V} {ds : List D} {i : Nat} {v : V}, Rvs K H ρ vs ds → vs[i]? = some v → ∃ d, ds[i]? = some d ∧ Rv K H ρ v d
  | _, _, i, _, .nil, e => by simp at e
  | _, _, 0, _, .cons h _, e => by
    simp only [List.getElem?_cons_zero, Option.some.injEq] at e
    subst e
    exact ⟨_, rfl, h⟩
  | _, _, i + 1, d, .cons _ r, e => by
    obtain ⟨v, h1, h2⟩ := Rvs.get' (i := i) (v := d) r (by simpa using e)
    exact ⟨v, by simpa using h1, h2⟩
theorem Rvs.append : ∀ {vs ws : List V} {ds es : List D}, Rvs K H ρ vs ds → Rvs K H ρ ws es → Rvs K H ρ (vs ++ ws) (ds ++ es)
  | _, _, _, _, .nil, r => r
  | _, _, _, _, .cons h t, r => .cons h (Rvs.append t r)
theorem Rvs.take : ∀ {vs : List V} {ds : List D} (n : Nat), Rvs K H ρ vs ds → Rvs K H ρ (vs.take n) (ds.take n)
  | _, _, 0, _ => .nil
  | _, _, _ + 1, .nil => .nil
  | _, _, n + 1, .cons h r => .cons h (Rvs.take n r)
theorem Rvs.drop : ∀ {vs : List V} {ds : List D} (n : Nat), Rvs K H ρ vs ds → Rvs K H ρ (vs.drop n) (ds.drop n)
  | _, _, 0, r => r
  | _, _, _ + 1, .nil => .nil
  | _, _, n + 1, .cons _ r => Rvs.drop n r
theorem Rvs.one {v : V} {d : D} (h : Rv K H ρ v d) : Rvs K H ρ [v] [d] := .cons h .nil
theorem Rvs.set {v : V} {d : D} (h : Rv K H ρ v d) : ∀ {vs : List V} {ds : List D} (i : Nat), Rvs K H ρ vs ds → Rvs K H ρ (vs.set i v) (ds.set i d)
  | _, _, _, .nil => .nil
  | _, _, 0, .cons _ t => .cons h t
  | _, _, i + 1, .cons q t => .cons q (Rvs.set h i t)
theorem Rvs.reverse : ∀ {vs : List V} {ds : List D}, Rvs K H ρ vs ds → Rvs K H ρ vs.reverse ds.reverse
  | _, _, .nil => .nil
  | _, _, .cons h t => by
    rw [List.reverse_cons, List.reverse_cons]
    exact Rvs.append t.reverse (Rvs.one h)
theorem Rvs.eraseIdx : ∀ {vs : List V} {ds : List D} (i : Nat), Rvs K H ρ vs ds → Rvs K H ρ (vs.eraseIdx i) (ds.eraseIdx i)
  | _, _, _, .nil => .nil
  | _, _, 0, .cons _ t => t
  | _, _, i + 1, .cons q t => .cons q (Rvs.eraseIdx i t)
end

/-- an object for a cell -/
def HOOk (K : PySem.W.Frag) (H : Hp) (ρ : List Addr) (o : HO) : Cell → Prop
  | .lst ds => ∃ vs, o = .lst vs ∧ Rvs K H ρ vs ds
  | .ro ds => ∃ vs ob, o = .frz ob (.lst vs) ∧ Rvs K H ρ vs ds
  | .dct kvs => ∃ ws : List (Key × V), o = .dK ws ∧ ws.map (·.1) = kvs.map (·.1) ∧ Rvs K H ρ (ws.map (·.2)) (kvs.map (·.2))
/-- the store at its addresses -/
structure StOk (K : PySem.W.Frag) (H : Hp) (ρ : List Addr) (st : Store) : Prop where
  len : ρ.length = st.length
  nd : ρ.Nodup
  cell : ∀ (n : Nat) (c : Cell), st[n]? = some c → ∃ a o, ρ[n]? = some a ∧ H a = some o ∧ HOOk K H ρ o c
/-- the slots -/
def EnvOk (K : PySem.W.Frag) (H : Hp) (ρ : List Addr) (σ : L2.St) (env : Env) : Prop :=
  σ.length = env.length ∧ ∀ (i : Nat) (d : D), env[i]? = some (some d) → ∃ v, σ[i]? = some (some v) ∧ Rv K H ρ v d
/-- the heap has grown: what does not change stands, the store has the old places -/
structure Gr (K : PySem.W.Frag) (H : Hp) (ρ : List Addr) (H' : Hp) (ρ' : List Addr) : Prop where
  tups : ∀ a xs, SqT K H a xs → SqT K H' a xs
  ros : ∀ a xs, SqR K H a xs → SqR K H' a xs
  locs : ∀ (n : Nat) (a : Addr), ρ[n]? = some a → ρ'[n]? = some a
  keep : ∀ a o, H a = some o → a ∉ ρ → H' a = some o
  fresh : ∀ a, a ∈ ρ' → a ∉ ρ → H a = none
section
variable {K : PySem.W.Frag} {H H1 H2 : Hp} {ρ ρ1 ρ2 : List Addr} {σ : L2.St} {env : Env} {st : Store} {v : V} {d : D} {vs : List V} {ds : List D}
theorem Gr.refl : Gr K H ρ H ρ := ⟨fun _ _ h => h, fun _ _ h => h, fun _ _ h => h, fun _ _ h _ => h, fun _ h n => absurd h n⟩
theorem Gr.out (g : Gr K H ρ H1 ρ1) {a : Addr} {o : HO} (h : H a = some o) (n : a ∉ ρ) : a ∉ ρ1 := fun z => by
  rw [g.fresh a z n] at h
  cases h
theorem Gr.trans (a : Gr K H ρ H1 ρ1) (b : Gr K H1 ρ1 H2 ρ2) : Gr K H ρ H2 ρ2 := ⟨fun c xs h => b.tups c xs (a.tups c xs h), fun c xs h => b.ros c xs (a.ros c xs h), fun n c h => b.locs n c (a.locs n c h), fun c o h n => b.keep c o (a.keep c o h n) (a.out h n), fun c h n => by
  by_cases z : c ∈ ρ1
  · exact a.fresh c z n
  · have q := b.fresh c h z
    cases e : H c with
    | none => rfl
    | some o =>
      rw [a.keep c o e n] at q
      cases q⟩
theorem Rv.gr (g : Gr K H ρ H1 ρ1) (h : Rv K H ρ v d) : Rv K H1 ρ1 v d := h.mono g.tups g.ros g.locs fun a φ q n => ⟨g.keep a _ q n, g.out q n⟩
theorem Rvs.gr (g : Gr K H ρ H1 ρ1) (h : Rvs K H ρ vs ds) : Rvs K H1 ρ1 vs ds := h.mono g.tups g.ros g.locs fun a φ q n => ⟨g.keep a _ q n, g.out q n⟩
theorem EnvOk.gr (g : Gr K H ρ H1 ρ1) (h : EnvOk K H ρ σ env) : EnvOk K H1 ρ1 σ env := ⟨h.1, fun i d e => by
  obtain ⟨v, e1, r⟩ := h.2 i d e
  exact ⟨v, e1, r.gr g⟩⟩
theorem EnvOk.set (h : EnvOk K H ρ σ env) (r : Rv K H ρ v d) (i : Nat) : EnvOk K H ρ (σ.set i (some v)) (env.set i (some d)) := by
  refine ⟨by simpa using h.1, fun j d' e => ?_⟩
  by_cases hj : i = j
  · subst hj
    by_cases hl : i < env.length
    · rw [List.getElem?_set_self hl] at e
      cases e
      exact ⟨v, by rw [List.getElem?_set_self (by rw [h.1]; exact hl)], r⟩
    · rw [List.getElem?_eq_none_iff.mpr (by simpa using hl)] at e
      cases e
  · rw [List.getElem?_set_ne hj] at e
    obtain ⟨w, e1, r1⟩ := h.2 j d' e
    exact ⟨w, by rw [List.getElem?_set_ne hj]; exact e1, r1⟩
theorem HOOk.gr {o : HO} : ∀ {c : Cell}, Gr K H ρ H1 ρ1 → HOOk K H ρ o c → HOOk K H1 ρ1 o c
  | .lst _, g, ⟨vs, e, r⟩ => ⟨vs, e, r.gr g⟩
  | .ro _, g, ⟨vs, ob, e, r⟩ => ⟨vs, ob, e, r.gr g⟩
  | .dct _, g, ⟨ws, e, k, r⟩ => ⟨ws, e, k, r.gr g⟩
/-- something is laid at a free place -/
theorem sqT_new {p a : Addr} {o : HO} {xs : List V} (hp : H p = none) (h : SqT K H a xs) : SqT K (upd H p o) a xs := by
  rcases h with (h | ⟨o', h⟩) | h
  · exact .inl (.inl (by rw [upd_ne (ne_of_none h hp)]; exact h))
  · exact .inl (.inr ⟨o', by rw [upd_ne (ne_of_none h hp)]; exact h⟩)
  · exact .inr h
theorem sqR_new {p a : Addr} {o : HO} {xs : List V} (hp : H p = none) (h : SqR K H a xs) : SqR K (upd H p o) a xs := by
  rcases h with ⟨o', h⟩ | h
  · exact .inl ⟨o', by rw [upd_ne (ne_of_none h hp)]; exact h⟩
  · exact .inr h
theorem Gr.new {p : Addr} {o : HO} (hp : H p = none) : Gr K H ρ (upd H p o) ρ := ⟨fun _ _ h => sqT_new hp h, fun _ _ h => sqR_new hp h, fun _ _ h => h, fun a u h _ => by rw [upd_ne (ne_of_none h hp)]; exact h, fun _ h n => absurd h n⟩
theorem Gr.new' {p : Addr} {o : HO} (hp : H p = none) : Gr K H ρ (upd H p o) (ρ ++ [p]) := ⟨fun _ _ h => sqT_new hp h, fun _ _ h => sqR_new hp h, fun n a h => by
  rw [List.getElem?_append_left (List.getElem?_eq_some_iff.mp h).1]
  exact h, fun a u h _ => by rw [upd_ne (ne_of_none h hp)]; exact h, fun a h n => by
  rcases List.mem_append.mp h with z | z
  · exact absurd z n
  · rw [List.mem_singleton.mp z]
    exact hp⟩
/-- a list that stands already comes into the store -/
theorem Gr.adopt {p : Addr} : Gr K H ρ H1 ρ1 → H p = none → Gr K H ρ H1 (ρ1 ++ [p]) := fun g hp => ⟨g.tups, g.ros, fun n a h => by
  have h1 := g.locs n a h
  rw [List.getElem?_append_left (List.getElem?_eq_some_iff.mp h1).1]
  exact h1, g.keep, fun a h n => by
  rcases List.mem_append.mp h with z | z
  · exact g.fresh a z n
  · rw [List.mem_singleton.mp z]
    exact hp⟩
theorem StOk.free (R : StOk K H ρ st) {p : Addr} (hp : H p = none) : p ∉ ρ := fun hm => by
  obtain ⟨n, hn, e⟩ := List.mem_iff_getElem.mp hm
  have hs : n < st.length := by rw [← R.len]; exact hn
  obtain ⟨a, o, e1, e2, _⟩ := R.cell n st[n] (List.getElem?_eq_getElem hs)
  rw [List.getElem?_eq_getElem hn, e] at e1
  cases e1
  rw [hp] at e2
  cases e2
/-- behind a thing that is no cell -/
theorem StOk.new (R : StOk K H ρ st) {p : Addr} {o : HO} (hp : H p = none) : StOk K (upd H p o) ρ st := ⟨R.len, R.nd, fun n c e => by
  obtain ⟨a, o', e1, e2, e3⟩ := R.cell n c e
  exact ⟨a, o', e1, by rw [upd_ne (ne_of_none e2 hp)]; exact e2, e3.gr (Gr.new hp)⟩⟩
/-- behind a new cell -/
theorem StOk.alloc (R : StOk K H ρ st) {p : Addr} {o : HO} {c : Cell} (hp : H p = none) (h : HOOk K H ρ o c) : StOk K (upd H p o) (ρ ++ [p]) (st ++ [c]) := by
  refine ⟨by rw [List.length_append, List.length_append, R.len]; rfl, ?_, fun n c' e => ?_⟩
  · rw [List.nodup_append]
    refine ⟨R.nd, List.nodup_cons.mpr ⟨List.not_mem_nil, List.nodup_nil⟩, fun a ha b hb e => ?_⟩
    rw [List.mem_singleton] at hb
    subst hb
    subst e
    exact R.free hp ha
  · by_cases hn : n < st.length
    · rw [List.getElem?_append_left hn] at e
      obtain ⟨a, o', e1, e2, e3⟩ := R.cell n c' e
      refine ⟨a, o', by rw [List.getElem?_append_left (by rw [R.len]; exact hn)]; exact e1, by rw [upd_ne (ne_of_none e2 hp)]; exact e2, e3.gr (Gr.new' hp)⟩
    · rw [List.getElem?_append_right (Nat.le_of_not_lt hn)] at e
      have h0 : n - st.length = 0 := by
        by_cases z : n - st.length = 0
        · exact z
        · rw [List.getElem?_eq_none_iff.mpr (by show 1 ≤ _; omega)] at e
          cases e
      rw [h0] at e
      cases e
      have hn' : n = ρ.length := by rw [R.len]; omega
      subst hn'
      exact ⟨p, o, by simp, upd_same, h.gr (Gr.new' hp)⟩
/-- a list that stands already comes into the store -/
theorem StOk.adopt (R : StOk K H ρ st) {p : Addr} {o : HO} {c : Cell} (hp : H p = some o) (hn : p ∉ ρ) (h : HOOk K H ρ o c) : StOk K H (ρ ++ [p]) (st ++ [c]) := by
  have ne : ∀ φ, H p ≠ some (.ext φ) := fun φ z => by
    rw [hp] at z
    cases z
    cases c with
    | lst ds =>
      obtain ⟨vs, e, r⟩ := h
      cases e
    | ro ds =>
      obtain ⟨vs, ob, e, r⟩ := h
      cases e
    | dct kvs =>
      obtain ⟨ws, e, k, r⟩ := h
      cases e
  have hE : ∀ a φ, H a = some (.ext φ) → a ∉ ρ → H a = some (.ext φ) ∧ a ∉ ρ ++ [p] := fun a φ q n => ⟨q, fun z => by
    rcases List.mem_append.mp z with z | z
    · exact n z
    · rw [List.mem_singleton.mp z] at q
      exact ne φ q⟩
  have gr : ∀ {o : HO} {c : Cell}, HOOk K H ρ o c → HOOk K H (ρ ++ [p]) o c := fun {o c} z => by
    have lo : ∀ (n : Nat) (a : Addr), ρ[n]? = some a → (ρ ++ [p])[n]? = some a := fun n a q => by
      rw [List.getElem?_append_left (List.getElem?_eq_some_iff.mp q).1]
      exact q
    cases c with
    | lst ds =>
      obtain ⟨vs, e, r⟩ := z
      exact ⟨vs, e, r.mono (fun _ _ q => q) (fun _ _ q => q) lo hE⟩
    | ro ds =>
      obtain ⟨vs, ob, e, r⟩ := z
      exact ⟨vs, ob, e, r.mono (fun _ _ q => q) (fun _ _ q => q) lo hE⟩
    | dct kvs =>
      obtain ⟨ws, e, k, r⟩ := z
      exact ⟨ws, e, k, r.mono (fun _ _ q => q) (fun _ _ q => q) lo hE⟩
  refine ⟨by rw [List.length_append, List.length_append, R.len]; rfl, ?_, fun n c' e => ?_⟩
  · rw [List.nodup_append]
    refine ⟨R.nd, List.nodup_cons.mpr ⟨List.not_mem_nil, List.nodup_nil⟩, fun a ha b hb e => ?_⟩
    rw [List.mem_singleton] at hb
    subst hb
    subst e
    exact hn ha
  · by_cases hl : n < st.length
    · rw [List.getElem?_append_left hl] at e
      obtain ⟨a, o', e1, e2, e3⟩ := R.cell n c' e
      refine ⟨a, o', by rw [List.getElem?_append_left (by rw [R.len]; exact hl)]; exact e1, e2, gr e3⟩
    · rw [List.getElem?_append_right (Nat.le_of_not_lt hl)] at e
      have h0 : n - st.length = 0 := by
        by_cases z : n - st.length = 0
        · exact z
        · rw [List.getElem?_eq_none_iff.mpr (by show 1 ≤ _; omega)] at e
          cases e
      rw [h0] at e
      cases e
      have hn' : n = ρ.length := by rw [R.len]; omega
      subst hn'
      exact ⟨p, o, by simp, hp, gr h⟩
def Mutb : Cell → Prop
  | .ro _ => False
  | _ => True
theorem sqT_set {p a : Addr} {o o' : HO} {xs : List V} (hp : H p = some o) (h1 : ∀ ys, o ≠ .tup ys) (h2 : ∀ ob u, o ≠ .frz ob u) (h : SqT K H a xs) : SqT K (upd H p o') a xs := by
  rcases h with (h | ⟨ob, h⟩) | h
  · have ne : a ≠ p := fun z => by
      rw [z, hp] at h
      exact h1 _ (Option.some.inj h)
    exact .inl (.inl (by rw [upd_ne ne]; exact h))
  · have ne : a ≠ p := fun z => by
      rw [z, hp] at h
      exact h2 _ _ (Option.some.inj h)
    exact .inl (.inr ⟨ob, by rw [upd_ne ne]; exact h⟩)
  · exact .inr h
theorem sqR_set {p a : Addr} {o o' : HO} {xs : List V} (hp : H p = some o) (h2 : ∀ ob u, o ≠ .frz ob u) (h : SqR K H a xs) : SqR K (upd H p o') a xs := by
  rcases h with ⟨ob, h⟩ | h
  · have ne : a ≠ p := fun z => by
      rw [z, hp] at h
      exact h2 _ _ (Option.some.inj h)
    exact .inl ⟨ob, by rw [upd_ne ne]; exact h⟩
  · exact .inr h
theorem HOOk.mut {o : HO} {c : Cell} (h : HOOk K H ρ o c) (m : Mutb c) : (∀ ys, o ≠ .tup ys) ∧ ∀ ob u, o ≠ .frz ob u := by
  cases c with
  | lst ds =>
    obtain ⟨vs, rfl, _⟩ := h
    exact ⟨fun _ e => (by cases e), fun _ _ e => (by cases e)⟩
  | ro ds => exact m.elim
  | dct kvs =>
    obtain ⟨ws, rfl, _⟩ := h
    exact ⟨fun _ e => (by cases e), fun _ _ e => (by cases e)⟩
theorem Gr.set {p : Addr} {o o' : HO} {c : Cell} {n : Nat} (hn : ρ[n]? = some p) (hp : H p = some o) (h : HOOk K H ρ o c) (m : Mutb c) : Gr K H ρ (upd H p o') ρ := ⟨fun _ _ z => sqT_set hp (h.mut m).1 (h.mut m).2 z, fun _ _ z => sqR_set hp (h.mut m).2 z, fun _ _ z => z,
  fun a u e z => by rw [upd_ne (fun q => z (by rw [q]; exact List.mem_of_getElem? hn))]; exact e, fun _ z q => absurd z q⟩
/-- a cell is written -/
theorem StOk.set (R : StOk K H ρ st) {n : Nat} {p : Addr} {o o' : HO} {c c' : Cell} (hn : ρ[n]? = some p) (hp : H p = some o) (h : HOOk K H ρ o c) (m : Mutb c) (h' : HOOk K H ρ o' c') : StOk K (upd H p o') ρ (st.set n c') := by
  refine ⟨by rw [List.length_set, R.len], R.nd, fun j c2 e => ?_⟩
  by_cases hj : n = j
  · subst hj
    have hl : n < st.length := by rw [← R.len]; exact (List.getElem?_eq_some_iff.mp hn).1
    rw [List.getElem?_set_self hl] at e
    cases e
    exact ⟨p, o', hn, upd_same, h'.gr (Gr.set hn hp h m)⟩
  · rw [List.getElem?_set_ne hj] at e
    obtain ⟨a, o2, e1, e2, e3⟩ := R.cell j c2 e
    have ne : a ≠ p := fun z => by
      subst z
      obtain ⟨q1, q2⟩ := List.getElem?_eq_some_iff.mp hn
      obtain ⟨q3, q4⟩ := List.getElem?_eq_some_iff.mp e1
      exact hj ((List.getElem_inj R.nd).mp (q2.trans q4.symm))
    exact ⟨a, o2, e1, by rw [upd_ne ne]; exact e2, e3.gr (Gr.set hn hp h m)⟩
theorem StOk.at (R : StOk K H ρ st) {n : Nat} {c : Cell} {a : Addr} (h : st[n]? = some c) (ha : ρ[n]? = some a) : ∃ o, H a = some o ∧ HOOk K H ρ o c := by
  obtain ⟨b, o, e1, e2, e3⟩ := R.cell n c h
  rw [ha] at e1
  cases e1
  exact ⟨o, e2, e3⟩
end

/-! ### how a piece goes -/
/-- what is wished of an exception, at the level of data -/
abbrev XW := Exn → Env → Hp → List Addr → Store → Prop
def Go (K : PySem.W.Frag) (W : XW) (H : Hp) (ρ : List Addr) {α : Type} (r : Res α) (P : α → Hp → List Addr → Store → Prop) : Prop := match r with
  | .ok a st => ∀ H' ρ', Gr K H ρ H' ρ' → StOk K H' ρ' st → P a H' ρ' st
  | .exc e env st => ∀ H' ρ', Gr K H ρ H' ρ' → StOk K H' ρ' st → W e env H' ρ' st
  | .stuck => False
section
variable {K : PySem.W.Frag} {H H1 : Hp} {ρ ρ1 : List Addr} {α β : Type} {W : XW}
theorem Go.gr {r : Res α} {P : α → Hp → List Addr → Store → Prop} (g : Gr K H ρ H1 ρ1) (h : Go K W H ρ r P) : Go K W H1 ρ1 r P := by
  cases r with
  | ok a st => exact fun H' ρ' g' => h H' ρ' (g.trans g')
  | exc e env st => exact fun H' ρ' g' => h H' ρ' (g.trans g')
  | stuck => exact h
theorem Go.bind {r : Res α} {k : α → Store → Res β} {P : β → Hp → List Addr → Store → Prop} (h : Go K W H ρ (r.bind k) P) : Go K W H ρ r fun a H' ρ' st' => Go K W H' ρ' (k a st') P := by
  cases r with
  | ok a st => exact fun H' ρ' g _ => Go.gr (r := k a st) g h
  | exc e env st => exact h
  | stuck => exact h
theorem Go.imp {r : Res α} {P P' : α → Hp → List Addr → Store → Prop} (h : Go K W H ρ r P) (i : ∀ a H' ρ' st', Gr K H ρ H' ρ' → StOk K H' ρ' st' → P a H' ρ' st' → P' a H' ρ' st') : Go K W H ρ r P' := by
  cases r with
  | ok a st => exact fun H' ρ' g R => i a H' ρ' st g R (h H' ρ' g R)
  | exc e env st => exact h
  | stuck => exact h
theorem Go.impX {W' : XW} {r : Res α} {P : α → Hp → List Addr → Store → Prop} (h : Go K W H ρ r P) (i : ∀ e env H' ρ' st', Gr K H ρ H' ρ' → StOk K H' ρ' st' → W e env H' ρ' st' → W' e env H' ρ' st') : Go K W' H ρ r P := by
  cases r with
  | ok a st => exact h
  | exc e env st => exact fun H' ρ' g R => i e env H' ρ' st g R (h H' ρ' g R)
  | stuck => exact h
theorem Go.ok {a : α} {st : Store} {P : α → Hp → List Addr → Store → Prop} (h : Go K W H ρ (.ok a st) P) (g : Gr K H ρ H1 ρ1) (R : StOk K H1 ρ1 st) : P a H1 ρ1 st := h H1 ρ1 g R
end
/-- an exception as it flies -/
def RelX (K : PySem.W.Frag) (H : Hp) (ρ : List Addr) (e : Exn) (cls : Value) (od : Option Addr) : Prop :=
  cls = .ref (He.ga K e.cls) ∧ ((od = none ∧ e.fs = []) ∨ ∃ (d : Addr) (fs : List (Str × V)), od = some d ∧ H d = some (.xd fs) ∧ fs.map (·.1) = e.fs.map (·.1) ∧ Rvs K H ρ (fs.map (·.2)) (e.fs.map (·.2)))
/-- the layer's wish, as one of data; a def's -/
def wx (K : PySem.W.Frag) (W : WX) : XW := fun e env H ρ _ => ∀ cls od σ, RelX K H ρ e cls od → EnvOk K H ρ σ env → W cls od σ H
def wd (K : PySem.W.Frag) (E : XK) : XW := fun e _ H ρ _ => ∀ cls od, RelX K H ρ e cls od → E cls od H
abbrev EM := Env → Store → Res D
abbrev TM := Env → Store → Res Bool
abbrev AM := Env → Store → Res (List D)
inductive Fl where
  | nx (env : Env) | ret (d : D) | bk (env : Env) | ct (env : Env)
abbrev SM := Env → Store → Res Fl
def tE (K : PySem.W.Frag) (W : WX) (m : EM) : TE := fun σ H Q => ∃ env ρ st, StOk K H ρ st ∧ EnvOk K H ρ σ env ∧ Go K (wx K W) H ρ (m env st) fun d H' ρ' _ => ∀ v, Rv K H' ρ' v d → Q v H'
def tT (K : PySem.W.Frag) (W : WX) (m : TM) : TT := fun σ H Q => ∃ env ρ st, StOk K H ρ st ∧ EnvOk K H ρ σ env ∧ Go K (wx K W) H ρ (m env st) fun b H' _ _ => Q b H'
def tA (K : PySem.W.Frag) (W : WX) (m : AM) : TA := fun σ H Q => ∃ env ρ st, StOk K H ρ st ∧ EnvOk K H ρ σ env ∧ Go K (wx K W) H ρ (m env st) fun ds H' ρ' _ => ∀ vs, Rvs K H' ρ' vs ds → Q vs H'
def fin (K : PySem.W.Frag) (D : Ends) : Fl → Hp → List Addr → Store → Prop
  | .nx env, H, ρ, _ => ∀ σ, EnvOk K H ρ σ env → D.nx σ H
  | .ret d, H, ρ, _ => ∀ v, Rv K H ρ v d → D.rt v H
  | .bk env, H, ρ, _ => ∀ σ, EnvOk K H ρ σ env → D.bk σ H
  | .ct env, H, ρ, _ => ∀ σ, EnvOk K H ρ σ env → D.ct σ H
def tS (K : PySem.W.Frag) (W : WX) (m : SM) : TS := fun D σ H => ∃ env ρ st, StOk K H ρ st ∧ EnvOk K H ρ σ env ∧ Go K (wx K W) H ρ (m env st) (fin K D)
section
variable {K : PySem.W.Frag} {W : WX} {H : Hp} {ρ : List Addr} {σ : L2.St} {env : Env} {st : Store} {β : Type} {P : β → Hp → List Addr → Store → Prop}
theorem tE_run {m : EM} {k : D → Store → Res β} {Q : VK} (R : StOk K H ρ st) (N : EnvOk K H ρ σ env) (h : Go K (wx K W) H ρ ((m env st).bind k) P)
    (hq : ∀ v d H1 ρ1 st1, Gr K H ρ H1 ρ1 → StOk K H1 ρ1 st1 → EnvOk K H1 ρ1 σ env → Rv K H1 ρ1 v d → Go K (wx K W) H1 ρ1 (k d st1) P → Q v H1) : tE K W m σ H Q :=
  ⟨env, ρ, st, R, N, h.bind.imp fun d H' ρ' st' g R' q v r => hq v d H' ρ' st' g R' (N.gr g) r q⟩
theorem tT_run {m : TM} {k : Bool → Store → Res β} {Q : Bool → Hp → Prop} (R : StOk K H ρ st) (N : EnvOk K H ρ σ env) (h : Go K (wx K W) H ρ ((m env st).bind k) P)
    (hq : ∀ b H1 ρ1 st1, Gr K H ρ H1 ρ1 → StOk K H1 ρ1 st1 → EnvOk K H1 ρ1 σ env → Go K (wx K W) H1 ρ1 (k b st1) P → Q b H1) : tT K W m σ H Q :=
  ⟨env, ρ, st, R, N, h.bind.imp fun b H' ρ' st' g R' q => hq b H' ρ' st' g R' (N.gr g) q⟩
theorem tA_run {m : AM} {k : List D → Store → Res β} {Q : List V → Hp → Prop} (R : StOk K H ρ st) (N : EnvOk K H ρ σ env) (h : Go K (wx K W) H ρ ((m env st).bind k) P)
    (hq : ∀ vs ds H1 ρ1 st1, Gr K H ρ H1 ρ1 → StOk K H1 ρ1 st1 → EnvOk K H1 ρ1 σ env → Rvs K H1 ρ1 vs ds → Go K (wx K W) H1 ρ1 (k ds st1) P → Q vs H1) : tA K W m σ H Q :=
  ⟨env, ρ, st, R, N, h.bind.imp fun ds H' ρ' st' g R' q vs r => hq vs ds H' ρ' st' g R' (N.gr g) r q⟩
end

/-! ### the judgements -/
section
variable {X : Cx} {e : Expr} {s : Stmt} {ss : List Stmt}
theorem pe_imp {t t' : TE} (h : PE X e t) (i : ∀ {pins : List (Addr × Obj)} {s : Shared} (σ : L2.St) (H : Hp) (Q : VK), Inv X pins σ H s → t' σ H Q → t σ H Q) : PE X e t' := ⟨fun pins s σ H Q I hw => h.run pins s σ H Q I (i σ H Q I hw)⟩
theorem pt_imp {t t' : TT} (h : PT X e t) (i : ∀ {pins : List (Addr × Obj)} {s : Shared} (σ : L2.St) (H : Hp) (Q : Bool → Hp → Prop), Inv X pins σ H s → t' σ H Q → t σ H Q) : PT X e t' := ⟨fun pins s σ H Q I hw => h.run pins s σ H Q I (i σ H Q I hw)⟩
theorem pw_imp {t t' : TT} (h : PW X e t) (i : ∀ {pins : List (Addr × Obj)} {s : Shared} (σ : L2.St) (H : Hp) (Q : Bool → Hp → Prop), Inv X pins σ H s → t' σ H Q → t σ H Q) : PW X e t' := ⟨fun wh pins s σ H Q I hw => h.run wh pins s σ H Q I (i σ H Q I hw)⟩
theorem pa_imp {es : List Expr} {t t' : TA} (h : PA X es t) (i : ∀ {pins : List (Addr × Obj)} {s : Shared} (σ : L2.St) (H : Hp) (Q : List V → Hp → Prop), Inv X pins σ H s → t' σ H Q → t σ H Q) : PA X es t' := ⟨fun pos pins s σ H Q I hw => h.run pos pins s σ H Q I (i σ H Q I hw)⟩
theorem ps_imp {t t' : TS} (h : PS X s t) (i : ∀ {pins : List (Addr × Obj)} {sh : Shared} (D : Ends) (σ : L2.St) (H : Hp), Inv X pins σ H sh → t' D σ H → t D σ H) : PS X s t' := ⟨fun pins sh σ H D I hw => h.run pins sh σ H D I (i D σ H I hw)⟩
theorem pss_imp {t t' : TS} (h : PSs X ss t) (i : ∀ {pins : List (Addr × Obj)} {sh : Shared} (D : Ends) (σ : L2.St) (H : Hp), Inv X pins σ H sh → t' D σ H → t D σ H) : PSs X ss t' := ⟨fun pins sh σ H D I hw => h.run pins sh σ H D I (i D σ H I hw)⟩
end
end PM
-- PMexpr
set_option Elab.async false
set_option linter.all false
set_option maxRecDepth 100000
set_option maxHeartbeats 4000000
/-! PM, expressions. -/
namespace PM
open PySem L2
def Res.of {α : Type} : Option (α × Store) → Res α
  | some (a, st) => .ok a st
  | none => .stuck
@[simp] theorem Res.of_some {α : Type} {a : α} {st : Store} : Res.of (some (a, st)) = .ok a st := rfl
@[simp] theorem Res.of_none {α : Type} : Res.of (none : Option (α × Store)) = .stuck := rfl
/-! ### names, constants -/
def mV (i : Nat) : EM := fun env st => match env[i]? with
  | some (some d) => .ok d st
  | _ => .stuck
def mC (d : D) : EM := fun _ st => .ok d st
section
variable {X : Cx} {W : WX}
theorem pm_v {e : Expr} {i : Nat} (h : PE X e (tVar i)) : PE X e (tE X.K W (mV i)) := pe_imp h fun σ H Q I ⟨env, ρ, st, R, N, h⟩ => by
  unfold mV at h
  cases e : env[i]? with
  | none =>
    rw [e] at h
    exact h.elim
  | some o =>
    rw [e] at h
    cases o with
    | none => exact h.elim
    | some d =>
      obtain ⟨v, e1, r⟩ := N.2 i d e
      exact ⟨v, e1, h H ρ Gr.refl R v r⟩
theorem pm_c {e : Expr} {v : V} {d : D} (h : PE X e (tC v)) (r : ∀ H ρ, Rv X.K H ρ v d) : PE X e (tE X.K W (mC d)) := pe_imp h fun σ H Q I ⟨env, ρ, st, R, N, h⟩ => h H ρ Gr.refl R v (r H ρ)
theorem pm_int {i j pos} : PE X (.Constant (.int i) j pos) (tE X.K W (mC (.int i))) := pm_c pe_int fun _ _ => .int i
theorem pm_bl {b j pos} : PE X (.Constant (.bool b) j pos) (tE X.K W (mC (.bl b))) := pm_c pe_bl fun _ _ => .bl b
theorem pm_non {j pos} : PE X (.Constant .none j pos) (tE X.K W (mC .non)) := pm_c pe_non fun _ _ => .non
theorem pm_str {x j pos} : PE X (.Constant (.str x) j pos) (tE X.K W (mC (.str x))) := pm_c pe_str fun _ _ => .str x
end
/-! ### operators by values -/
abbrev Op2 := D → D → Store → Option (D × Store)
def m2 (f : Op2) (a b : EM) : EM := fun env st => (a env st).bind fun x st1 => (b env st1).bind fun y st2 => Res.of (f x y st2)
/-- g says what f does -/
def Ops (X : Cx) (f : Value → Value → Sem Value) (g : Op2) : Prop := ∃ r, OpR X f r ∧ ∀ {H : Hp} {ρ : List Addr} {st : Store} {x y : D} {v u : V} {d : D} {st' : Store} {Q : VK},
  StOk X.K H ρ st → Rv X.K H ρ v x → Rv X.K H ρ u y → g x y st = some (d, st') → (∀ H' ρ', Gr X.K H ρ H' ρ' → StOk X.K H' ρ' st' → ∀ z, Rv X.K H' ρ' z d → Q z H') → r v u H Q
section
variable {X : Cx} {W : WX} {a b : Expr} {ma mb : EM} {g : Op2} {pos : Pos}
theorem tOp_of {r : R2} {σ : L2.St} {H : Hp} {Q : VK} (hr : ∀ {H : Hp} {ρ : List Addr} {st : Store} {x y : D} {v u : V} {d : D} {st' : Store} {Q : VK},
    StOk X.K H ρ st → Rv X.K H ρ v x → Rv X.K H ρ u y → g x y st = some (d, st') → (∀ H' ρ', Gr X.K H ρ H' ρ' → StOk X.K H' ρ' st' → ∀ z, Rv X.K H' ρ' z d → Q z H') → r v u H Q)
    (h : tE X.K W (m2 g ma mb) σ H Q) : tOp r (tE X.K W ma) (tE X.K W mb) σ H Q := by
  obtain ⟨env, ρ, st, R, N, h⟩ := h
  refine tE_run R N h fun v x H1 ρ1 st1 g1 R1 N1 r1 h1 => tE_run R1 N1 h1 fun u y H2 ρ2 st2 g2 R2 N2 r2 h2 => ?_
  cases e : g x y st2 with
  | none =>
    rw [e] at h2
    exact h2.elim
  | some p =>
    obtain ⟨d, st3⟩ := p
    rw [e] at h2
    exact hr R2 (r1.gr g2) r2 e fun H' ρ' g3 R3 z rz => h2 H' ρ' g3 R3 z rz
theorem pm_op {op : Operator} (ho : Ops X (binaryOp op) g) (ha : PE X a (tE X.K W ma)) (hb : PE X b (tE X.K W mb)) : PE X (.BinOp a op b pos) (tE X.K W (m2 g ma mb)) := by
  obtain ⟨r, h1, h2⟩ := ho
  exact pe_imp (pe_op h1 ha hb) fun σ H Q I h => tOp_of h2 h
theorem pm_cmp {op : CmpOp} (ho : Ops X (compareOp op) g) (ha : PE X a (tE X.K W ma)) (hb : PE X b (tE X.K W mb)) (hm : behindInMarks op b = false) : PE X (.Compare a [op] [b] pos) (tE X.K W (m2 g ma mb)) := by
  obtain ⟨r, h1, h2⟩ := ho
  exact pe_imp (pe_cmpR h1 ha hb hm) fun σ H Q I h => tOp_of h2 h
/-- a bool as a test -/
def mT (m : EM) : TM := fun env st => (m env st).bind fun d st1 => match d with
  | .bl k => .ok k st1
  | _ => .stuck
theorem tE_mT {m : EM} {σ : L2.St} {H : Hp} {Q : Bool → Hp → Prop} (h : tT X.K W (mT m) σ H Q) : tE X.K W m σ H fun x H' => ∃ k, x = .bl k ∧ Q k H' := by
  obtain ⟨env, ρ, st, R, N, h⟩ := h
  refine tE_run R N h fun v d H1 ρ1 st1 g1 R1 N1 r1 h1 => ?_
  cases d with
  | bl k =>
    cases r1
    exact ⟨k, rfl, h1 H1 ρ1 Gr.refl R1⟩
  | _ => exact h1.elim
theorem pmt_cmp {op : CmpOp} (ho : Ops X (compareOp op) g) (ha : PE X a (tE X.K W ma)) (hb : PE X b (tE X.K W mb)) (hm : behindInMarks op b = false) : PT X (.Compare a [op] [b] pos) (tT X.K W (mT (m2 g ma mb))) := by
  obtain ⟨r, h1, h2⟩ := ho
  refine pt_imp (pt_cmpR h1 ha hb hm) fun σ H Q I h => ?_
  exact tOp_of h2 (tE_mT h)
theorem pmt_val {e : Expr} {m : EM} (h : PE X e (tE X.K W m)) (he : ∀ whole, isTrue e X.env whole = (do let v ← whole; standAt e.pos; holding [v] (truthy v)) := by intro _; rfl) : PT X e (tT X.K W (mT m)) :=
  pt_imp (pt_val h he) fun σ H Q I h => tE_mT h
/-! ### and, or, not -/
def mAndT (a b : TM) : TM := fun env st => (a env st).bind fun k st1 => if k = true then b env st1 else .ok false st1
def mOrT (a b : TM) : TM := fun env st => (a env st).bind fun k st1 => if k = true then .ok true st1 else b env st1
def mNotT (a : TM) : TM := fun env st => (a env st).bind fun k st1 => .ok (!k) st1
variable {ta tb : TM} {rest : List Expr}
theorem pmw_and1 (ha : PT X a (tT X.K W ta)) : PW X (.BoolOp .And [a] pos) (tT X.K W ta) := pw_and1 ha
theorem pmw_or1 (ha : PT X a (tT X.K W ta)) : PW X (.BoolOp .Or [a] pos) (tT X.K W ta) := pw_or1 ha
theorem pmw_and (ha : PT X a (tT X.K W ta)) (hb : PW X (.BoolOp .And (b :: rest) pos) (tT X.K W tb)) : PW X (.BoolOp .And (a :: b :: rest) pos) (tT X.K W (mAndT ta tb)) := by
  refine pw_imp (pw_and ha hb) fun σ H Q I ⟨env, ρ, st, R, N, h⟩ => ?_
  refine tT_run R N h fun k H1 ρ1 st1 g1 R1 N1 h1 => ?_
  cases k with
  | true => exact ⟨env, ρ1, st1, R1, N1, h1⟩
  | false => exact h1 H1 ρ1 Gr.refl R1
theorem pmw_or (ha : PT X a (tT X.K W ta)) (hb : PW X (.BoolOp .Or (b :: rest) pos) (tT X.K W tb)) : PW X (.BoolOp .Or (a :: b :: rest) pos) (tT X.K W (mOrT ta tb)) := by
  refine pw_imp (pw_or ha hb) fun σ H Q I ⟨env, ρ, st, R, N, h⟩ => ?_
  refine tT_run R N h fun k H1 ρ1 st1 g1 R1 N1 h1 => ?_
  cases k with
  | false => exact ⟨env, ρ1, st1, R1, N1, h1⟩
  | true => exact h1 H1 ρ1 Gr.refl R1
theorem pmt_not (ha : PT X a (tT X.K W ta)) : PT X (.UnaryOp .Not a pos) (tT X.K W (mNotT ta)) := by
  refine pt_imp (pt_not ha) fun σ H Q I ⟨env, ρ, st, R, N, h⟩ => ?_
  refine tT_run R N h fun k H1 ρ1 st1 g1 R1 N1 h1 => ?_
  exact h1 H1 ρ1 Gr.refl R1
def mAnd (a b : EM) : EM := fun env st => (a env st).bind fun d st1 => match d with
  | .bl true => b env st1
  | .bl false => .ok (.bl false) st1
  | _ => .stuck
def mOr (a b : EM) : EM := fun env st => (a env st).bind fun d st1 => match d with
  | .bl true => .ok (.bl true) st1
  | .bl false => b env st1
  | _ => .stuck
def mNot (a : EM) : EM := fun env st => (a env st).bind fun d st1 => match d with
  | .bl k => .ok (.bl (!k)) st1
  | _ => .stuck
theorem pm_one {op : BoolOp} {m : EM} (h : PE X a (tE X.K W m)) : PE X (.BoolOp op [a] pos) (tE X.K W m) := pe_one h
theorem pm_and (ha : PE X a (tE X.K W ma)) (hb : PE X (.BoolOp .And (b :: rest) pos) (tE X.K W mb)) : PE X (.BoolOp .And (a :: b :: rest) pos) (tE X.K W (mAnd ma mb)) := by
  refine pe_imp (pe_and ha hb) fun σ H Q I ⟨env, ρ, st, R, N, h⟩ => ?_
  refine tE_run R N h fun v d H1 ρ1 st1 g1 R1 N1 r1 h1 => ?_
  cases d with
  | bl k =>
    cases r1
    refine ⟨k, rfl, ?_⟩
    cases k with
    | true => exact ⟨env, ρ1, st1, R1, N1, h1⟩
    | false => exact h1 H1 ρ1 Gr.refl R1 _ (.bl false)
  | _ => exact h1.elim
theorem pm_or (ha : PE X a (tE X.K W ma)) (hb : PE X (.BoolOp .Or (b :: rest) pos) (tE X.K W mb)) : PE X (.BoolOp .Or (a :: b :: rest) pos) (tE X.K W (mOr ma mb)) := by
  refine pe_imp (pe_or ha hb) fun σ H Q I ⟨env, ρ, st, R, N, h⟩ => ?_
  refine tE_run R N h fun v d H1 ρ1 st1 g1 R1 N1 r1 h1 => ?_
  cases d with
  | bl k =>
    cases r1
    refine ⟨k, rfl, ?_⟩
    cases k with
    | false => exact ⟨env, ρ1, st1, R1, N1, h1⟩
    | true => exact h1 H1 ρ1 Gr.refl R1 _ (.bl true)
  | _ => exact h1.elim
theorem pm_not (ha : PE X a (tE X.K W ma)) : PE X (.UnaryOp .Not a pos) (tE X.K W (mNot ma)) := by
  refine pe_imp (pe_not ha) fun σ H Q I ⟨env, ρ, st, R, N, h⟩ => ?_
  refine tE_run R N h fun v d H1 ρ1 st1 g1 R1 N1 r1 h1 => ?_
  cases d with
  | bl k =>
    cases r1
    exact ⟨k, rfl, h1 H1 ρ1 Gr.refl R1 _ (.bl _)⟩
  | _ => exact h1.elim
def mIf (c : TM) (a b : EM) : EM := fun env st => (c env st).bind fun k st1 => if k = true then a env st1 else b env st1
theorem pm_if {c : Expr} {tc : TM} (hc : PT X c (tT X.K W tc)) (ha : PE X a (tE X.K W ma)) (hb : PE X b (tE X.K W mb)) : PE X (.IfExp c a b pos) (tE X.K W (mIf tc ma mb)) := by
  refine pe_imp (pe_ifExp hc ha hb) fun σ H Q I ⟨env, ρ, st, R, N, h⟩ => ?_
  refine tT_run R N h fun k H1 ρ1 st1 g1 R1 N1 h1 => ?_
  cases k with
  | true => exact ⟨env, ρ1, st1, R1, N1, h1⟩
  | false => exact ⟨env, ρ1, st1, R1, N1, h1⟩
/-! ### arguments, displays -/
def aNil : AM := fun _ st => .ok [] st
def aCons (m : EM) (r : AM) : AM := fun env st => (m env st).bind fun d st1 => (r env st1).bind fun ds st2 => .ok (d :: ds) st2
theorem pma_nil : PA X [] (tA X.K W aNil) := pa_imp pa_nil fun σ H Q I ⟨env, ρ, st, R, N, h⟩ => h H ρ Gr.refl R [] .nil
theorem pma_cons {e : Expr} {es : List Expr} {m : EM} {r : AM} (ha : PE X e (tE X.K W m)) (hr : PA X es (tA X.K W r)) (hs : starEach (e :: es) X.env = (false, eval e X.env) :: starEach es X.env := by rfl) : PA X (e :: es) (tA X.K W (aCons m r)) := by
  refine pa_imp (pa_cons ha hr hs) fun σ H Q I ⟨env, ρ, st, R, N, h⟩ => ?_
  refine tE_run R N h fun v d H1 ρ1 st1 g1 R1 N1 r1 h1 => tA_run R1 N1 h1 fun vs ds H2 ρ2 st2 g2 R2 N2 r2 h2 => ?_
  exact h2 H2 ρ2 Gr.refl R2 _ (.cons (r1.gr g2) r2)
def mTup (t : AM) : EM := fun env st => (t env st).bind fun ds st1 => if ds.length ≤ sizeLine then .ok (.tup ds) st1 else .stuck
def mLst (t : AM) : EM := fun env st => (t env st).bind fun ds st1 => if ds.length ≤ sizeLine then .ok (.loc st1.length) (st1 ++ [.lst ds]) else .stuck
theorem Rv.ofTup {K : PySem.W.Frag} {H : Hp} {ρ : List Addr} {p : Addr} {vs : List V} {ds : List D} (h : H p = some (.tup vs)) (r : Rvs K H ρ vs ds) : Rv K H ρ (.ref p) (.tup ds) := .tup (SqT.of h) r
theorem go_newT {H : Hp} {ρ : List Addr} {st : Store} {vs : List V} {ds : List D} {Q : VK} (R : StOk X.K H ρ st) (r : Rvs X.K H ρ vs ds) (h : ∀ H' ρ', Gr X.K H ρ H' ρ' → StOk X.K H' ρ' st → ∀ z, Rv X.K H' ρ' z (.tup ds) → Q z H') : ∀ p, H p = none → Q (.ref p) (upd H p (.tup vs)) :=
  fun p hp => h _ ρ (Gr.new hp) (R.new hp) _ (.tup (SqT.of upd_same) (r.gr (Gr.new hp)))
theorem go_newL {H : Hp} {ρ : List Addr} {st : Store} {vs : List V} {ds : List D} {Q : VK} (R : StOk X.K H ρ st) (r : Rvs X.K H ρ vs ds) (h : ∀ H' ρ', Gr X.K H ρ H' ρ' → StOk X.K H' ρ' (st ++ [.lst ds]) → ∀ z, Rv X.K H' ρ' z (.loc st.length) → Q z H') : ∀ p, H p = none → Q (.ref p) (upd H p (.lst vs)) :=
  fun p hp => h _ (ρ ++ [p]) (Gr.new' hp) (R.alloc hp ⟨vs, rfl, r⟩) _ (.loc (by rw [← R.len]; simp))
theorem pm_tup {es : List Expr} {t : AM} {x1} (h : PA X es (tA X.K W t)) : PE X (.Tuple es x1 pos) (tE X.K W (mTup t)) := by
  refine pe_imp (pe_tup h) fun σ H Q I ⟨env, ρ, st, R, N, h⟩ => ?_
  refine tA_run R N h fun vs ds H1 ρ1 st1 g1 R1 N1 r1 h1 => ?_
  by_cases hz : ds.length ≤ sizeLine
  · rw [if_pos hz] at h1
    exact ⟨by rw [r1.length]; exact hz, go_newT R1 r1 h1⟩
  · rw [if_neg hz] at h1
    exact h1.elim
theorem pm_lst {es : List Expr} {t : AM} (h : PA X es (tA X.K W t)) : PE X (.List es pos) (tE X.K W (mLst t)) := by
  refine pe_imp (pe_lst h) fun σ H Q I ⟨env, ρ, st, R, N, h⟩ => ?_
  refine tA_run R N h fun vs ds H1 ρ1 st1 g1 R1 N1 r1 h1 => ?_
  by_cases hz : ds.length ≤ sizeLine
  · rw [if_pos hz] at h1
    exact ⟨by rw [r1.length]; exact hz, go_newL R1 r1 h1⟩
  · rw [if_neg hz] at h1
    exact h1.elim
/-! ### calls of builtins -/
abbrev OpN := List D → Store → Option (D × Store)
def mB (g : OpN) (t : AM) : EM := fun env st => (t env st).bind fun ds st1 => Res.of (g ds st1)
def Calls (X : Cx) (f : Value) (g : OpN) : Prop := ∃ r, CallR X f r ∧ ∀ {H : Hp} {ρ : List Addr} {st : Store} {ds : List D} {vs : List V} {d : D} {st' : Store} {Q : VK},
  StOk X.K H ρ st → Rvs X.K H ρ vs ds → g ds st = some (d, st') → (∀ H' ρ', Gr X.K H ρ H' ρ' → StOk X.K H' ρ' st' → ∀ z, Rv X.K H' ρ' z d → Q z H') → r vs H Q
theorem tCB_of {g : OpN} {t : AM} {r : List V → Hp → VK → Prop} {σ : L2.St} {H : Hp} {Q : VK} (hr : ∀ {H : Hp} {ρ : List Addr} {st : Store} {ds : List D} {vs : List V} {d : D} {st' : Store} {Q : VK},
    StOk X.K H ρ st → Rvs X.K H ρ vs ds → g ds st = some (d, st') → (∀ H' ρ', Gr X.K H ρ H' ρ' → StOk X.K H' ρ' st' → ∀ z, Rv X.K H' ρ' z d → Q z H') → r vs H Q) (h : tE X.K W (mB g t) σ H Q) : tCB r (tA X.K W t) σ H Q := by
  obtain ⟨env, ρ, st, R, N, h⟩ := h
  refine tA_run R N h fun vs ds H1 ρ1 st1 g1 R1 N1 r1 h1 => ?_
  cases e : g ds st1 with
  | none =>
    rw [e] at h1
    exact h1.elim
  | some p =>
    obtain ⟨d, st3⟩ := p
    rw [e] at h1
    exact hr R1 r1 e fun H' ρ' g3 R3 z rz => h1 H' ρ' g3 R3 z rz
theorem pm_callB {id : String} {g : OpN} {x : Str} {e : Expr} {es : List Expr} {t : AM} {p : Pos} (hc : Calls X (.builtin id) g) (hg : Gl X x) (hm : X.mg x = none) (hv : bootBuiltins x = some (.builtin id)) (ha : PA X (e :: es) (tA X.K W t)) (hn : x ≠ "__name__" := by decide) (hdb : (x == ("__debug__" : Str)) = false := by decide)
    (he : starEach (e :: es) X.env = (false, eval e X.env) :: starEach es X.env := by rfl) (hpl : (backTo pos (starEach es X.env)).any (·.1) = false := by rfl) : PE X (.Call (.Name x p) (e :: es) [] pos) (tE X.K W (mB g t)) := by
  obtain ⟨r, h1, h2⟩ := hc
  exact pe_imp (pe_callB h1 hg hm hv ha hn hdb he hpl) fun σ H Q I h => tCB_of h2 h
theorem pm_callTy {T : String} {g : OpN} {x : Str} {e : Expr} {es : List Expr} {t : AM} {p : Pos} (hc : Calls X (.type T) g) (hg : Gl X x) (hm : X.mg x = none) (hv : bootBuiltins x = some (.type T)) (ha : PA X (e :: es) (tA X.K W t)) (hn : x ≠ "__name__" := by decide) (hdb : (x == ("__debug__" : Str)) = false := by decide)
    (he : starEach (e :: es) X.env = (false, eval e X.env) :: starEach es X.env := by rfl) (hpl : (backTo pos (starEach es X.env)).any (·.1) = false := by rfl) : PE X (.Call (.Name x p) (e :: es) [] pos) (tE X.K W (mB g t)) := by
  obtain ⟨r, h1, h2⟩ := hc
  exact pe_imp (pe_callTy h1 hg hm hv ha hn hdb he hpl) fun σ H Q I h => tCB_of h2 h
end
end PM
-- PMops
set_option Elab.async false
set_option linter.all false
set_option maxRecDepth 100000
set_option maxHeartbeats 4000000
/-! PM, operators. -/
namespace PM
open PySem L2
section
variable {K : PySem.W.Frag} {H : Hp} {ρ : List Addr} {st : Store}
/-- a list as it may be read, written -/
def rdL (st : Store) (n : Nat) : Option (List D) := match st[n]? with
  | some (.lst ds) => some ds
  | some (.ro ds) => some ds
  | _ => none
def wrL (st : Store) (n : Nat) : Option (List D) := match st[n]? with
  | some (.lst ds) => some ds
  | _ => none
def rdK (st : Store) (n : Nat) : Option (List (Key × D)) := match st[n]? with
  | some (.dct kvs) => some kvs
  | _ => none
theorem wrL_some {n : Nat} {ds : List D} (h : wrL st n = some ds) : st[n]? = some (.lst ds) := by
  unfold wrL at h
  split at h
  · cases h
    assumption
  · cases h
theorem rdK_some {n : Nat} {kvs : List (Key × D)} (h : rdK st n = some kvs) : st[n]? = some (.dct kvs) := by
  unfold rdK at h
  split at h
  · cases h
    assumption
  · cases h
theorem StOk.wr (R : StOk K H ρ st) {n : Nat} {a : Addr} {ds : List D} (ha : ρ[n]? = some a) (h : wrL st n = some ds) : ∃ vs, H a = some (.lst vs) ∧ Rvs K H ρ vs ds := by
  obtain ⟨o, e, vs, rfl, r⟩ := R.at (wrL_some h) ha
  exact ⟨vs, e, r⟩
theorem StOk.rd (R : StOk K H ρ st) {n : Nat} {a : Addr} {ds : List D} (ha : ρ[n]? = some a) (h : rdL st n = some ds) : ∃ vs, SqL K H a vs ∧ Rvs K H ρ vs ds := by
  unfold rdL at h
  split at h
  · rename_i e
    cases h
    obtain ⟨o, e, vs, rfl, r⟩ := R.at e ha
    exact ⟨vs, SqL.of e, r⟩
  · rename_i e
    cases h
    obtain ⟨o, e, vs, ob, rfl, r⟩ := R.at e ha
    exact ⟨vs, .inl (.inr ⟨ob, e⟩), r⟩
  · cases h
theorem StOk.dk (R : StOk K H ρ st) {n : Nat} {a : Addr} {kvs : List (Key × D)} (ha : ρ[n]? = some a) (h : rdK st n = some kvs) : ∃ ws : List (Key × V), H a = some (.dK ws) ∧ ws.map (·.1) = kvs.map (·.1) ∧ Rvs K H ρ (ws.map (·.2)) (kvs.map (·.2)) := by
  obtain ⟨o, e, ws, rfl, r⟩ := R.at (rdK_some h) ha
  exact ⟨ws, e, r⟩
theorem Rv.int_inv {v : V} {i : Int} (h : Rv K H ρ v (.int i)) : v = .int i := by cases h; rfl
theorem Rv.str_inv {v : V} {s : Str} (h : Rv K H ρ v (.str s)) : v = .str s := by cases h; rfl
theorem Rv.bl_inv {v : V} {b : Bool} (h : Rv K H ρ v (.bl b)) : v = .bl b := by cases h; rfl
theorem Rv.non_inv {v : V} (h : Rv K H ρ v .non) : v = .non := by cases h; rfl
theorem Rv.tup_inv {v : V} {ds : List D} (h : Rv K H ρ v (.tup ds)) : ∃ a vs, v = .ref a ∧ SqT K H a vs ∧ Rvs K H ρ vs ds := by
  cases h with
  | tup h1 h2 => exact ⟨_, _, rfl, h1, h2⟩
theorem Rv.ro_inv {v : V} {ds : List D} (h : Rv K H ρ v (.ro ds)) : ∃ a vs, v = .ref a ∧ SqR K H a vs ∧ Rvs K H ρ vs ds := by
  cases h with
  | ro h1 h2 => exact ⟨_, _, rfl, h1, h2⟩
theorem Rv.loc_inv {v : V} {n : Nat} (h : Rv K H ρ v (.loc n)) : ∃ a, v = .ref a ∧ ρ[n]? = some a := by
  cases h with
  | loc h => exact ⟨_, rfl, h⟩
end
/-! ### + - * // % ** -/
theorem ite_some {α : Type} {c : Prop} [Decidable c] {o : Option α} {a : α} (h : (if c then o else none) = some a) : c ∧ o = some a := by
  by_cases hc : c
  · rw [if_pos hc] at h
    exact ⟨hc, h⟩
  · rw [if_neg hc] at h
    cases h
theorem bind_some {α β : Type} {o : Option α} {k : α → Option β} {b : β} (h : o.bind k = some b) : ∃ a, o = some a ∧ k a = some b := by
  cases o with
  | none => cases h
  | some a => exact ⟨a, rfl, h⟩
def newL (st : Store) (ds : List D) : Option (D × Store) := if ds.length ≤ sizeLine then some (.loc st.length, st ++ [.lst ds]) else none
def addD : Op2
  | .int i, .int j, st => some (.int (i + j), st)
  | .str a, .str b, st => if a.length + b.length ≤ sizeLine then some (.str (a ++ b), st) else none
  | .tup a, .tup b, st => if a.length + b.length ≤ sizeLine then some (.tup (a ++ b), st) else none
  | .loc m, .loc n, st => (wrL st m).bind fun xs => (wrL st n).bind fun ys => newL st (xs ++ ys)
  | _, _, _ => none
section
variable {X : Cx}
theorem go_list {H : Hp} {ρ : List Addr} {st st' : Store} {vs : List V} {ds : List D} {d : D} {Q : VK} (R : StOk X.K H ρ st) (r : Rvs X.K H ρ vs ds) (e : newL st ds = some (d, st')) (q : ∀ H' ρ', Gr X.K H ρ H' ρ' → StOk X.K H' ρ' st' → ∀ z, Rv X.K H' ρ' z d → Q z H') :
    vs.length ≤ sizeLine ∧ ∀ p, H p = none → Q (.ref p) (upd H p (.lst vs)) := by
  obtain ⟨hz, e⟩ := ite_some e
  cases e
  exact ⟨by rw [r.length]; exact hz, go_newL R r q⟩
theorem ops_add : Ops X (binaryOp .Add) addD := by
  refine ⟨_, op_add.or (op_add_str.or (op_catA.or op_cat)), fun {H ρ st x y v u d st' Q} R rx ry e q => ?_⟩
  cases x with
  | int i =>
    cases y with
    | int j =>
      cases e
      rw [rx.int_inv, ry.int_inv]
      exact .inl ⟨i, j, rfl, rfl, q H ρ Gr.refl R _ (.int _)⟩
    | _ => cases e
  | str a =>
    cases y with
    | str b =>
      obtain ⟨hz, e⟩ := ite_some (show (if a.length + b.length ≤ sizeLine then some (D.str (a ++ b), st) else none) = some (d, st') from e)
      cases e
      rw [rx.str_inv, ry.str_inv]
      exact .inr (.inl ⟨a, b, rfl, rfl, hz, q H ρ Gr.refl R _ (.str _)⟩)
    | _ => cases e
  | tup as =>
    cases y with
    | tup bs =>
      obtain ⟨hz, e⟩ := ite_some (show (if as.length + bs.length ≤ sizeLine then some (D.tup (as ++ bs), st) else none) = some (d, st') from e)
      cases e
      obtain ⟨p, xs, rfl, h1, r1⟩ := rx.tup_inv
      obtain ⟨p2, ys, rfl, h2, r2⟩ := ry.tup_inv
      refine .inr (.inr (.inl ⟨p, p2, xs, ys, rfl, rfl, h1, h2, by rw [r1.length, r2.length]; exact hz, fun z => ?_, fun _ z => ?_, fun _ _ => ?_⟩))
      · subst z
        cases r1
        exact q H ρ Gr.refl R _ (.tup h2 r2)
      · subst z
        cases r2
        exact q H ρ Gr.refl R _ (.tup h1 (by rw [List.append_nil]; exact r1))
      · exact go_newT R (r1.append r2) q
    | _ => cases e
  | loc m =>
    cases y with
    | loc n =>
      obtain ⟨a, rfl, ha⟩ := rx.loc_inv
      obtain ⟨b, rfl, hb⟩ := ry.loc_inv
      obtain ⟨xs, e1, e⟩ := bind_some (show ((wrL st m).bind fun xs => (wrL st n).bind fun ys => newL st (xs ++ ys)) = some (d, st') from e)
      obtain ⟨ys, e2, e⟩ := bind_some e
      obtain ⟨vs, h1, r1⟩ := R.wr ha e1
      obtain ⟨ws, h2, r2⟩ := R.wr hb e2
      obtain ⟨hz, k⟩ := go_list R (r1.append r2) e q
      exact .inr (.inr (.inr ⟨a, b, vs, ws, rfl, rfl, h1, h2, by rw [← List.length_append]; exact hz, k⟩))
    | _ => cases e
  | _ => cases e
/-- two ints, under a condition -/
def intD (c : Int → Int → Bool) (f : Int → Int → Int) : Op2
  | .int i, .int j, st => if c i j = true then some (.int (f i j), st) else none
  | _, _, _ => none
theorem ops_int {g : Value → Value → Sem Value} {C : Int → Int → Prop} {c : Int → Int → Bool} {f : Int → Int → Int} (h : OpR X g (rI C fun i j => .int (f i j))) (hc : ∀ i j, c i j = true → C i j) : Ops X g (intD c f) := by
  refine ⟨_, h, fun {H ρ st x y v u d st' Q} R rx ry e q => ?_⟩
  cases x with
  | int i =>
    cases y with
    | int j =>
      obtain ⟨hz, e⟩ := ite_some (show (if c i j = true then some (D.int (f i j), st) else none) = some (d, st') from e)
      cases e
      rw [rx.int_inv, ry.int_inv]
      exact ⟨i, j, rfl, rfl, hc i j hz, q H ρ Gr.refl R _ (.int _)⟩
    | _ => cases e
  | _ => cases e
def subD : Op2
  | .int i, .int j, st => some (.int (i - j), st)
  | _, _, _ => none
theorem ops_sub : Ops X (binaryOp .Sub) subD := by
  refine ⟨_, op_sub, fun {H ρ st x y v u d st' Q} R rx ry e q => ?_⟩
  cases x with
  | int i =>
    cases y with
    | int j =>
      cases e
      rw [rx.int_inv, ry.int_inv]
      exact ⟨i, j, rfl, rfl, q H ρ Gr.refl R _ (.int _)⟩
    | _ => cases e
  | _ => cases e
/-- // by a positive divisor of at most 2 ^ 9000 -/
def divD : Op2 := intD (fun _ j => decide (0 < j ∧ j.natAbs.log2 < 9000)) (fun i j => i / j)
theorem ops_div : Ops X (binaryOp .FloorDiv) divD := ops_int op_fdivW fun i j h => of_decide_eq_true (p := 0 < j ∧ j.natAbs.log2 < 9000) h
def modD : Op2 := intD (fun _ j => decide (0 < j)) (fun i j => i % j)
theorem ops_mod : Ops X (binaryOp .Mod) modD := ops_int op_mod fun i j h => of_decide_eq_true h
def cPow (i j : Int) : Bool := decide (0 ≤ j ∧ j ≤ 1000000 ∧ i.natAbs < 2 ^ 64)
def powD : Op2 := intD cPow (fun i j => i ^ j.toNat)
theorem ops_pow : Ops X (binaryOp .Pow) powD := ops_int op_pow fun i j h => of_decide_eq_true (p := 0 ≤ j ∧ j ≤ 1000000 ∧ i.natAbs < 2 ^ 64) h
/-- *: ints with a factor below 2 ^ 64, or together below a million bits; a list -/
def cMul (i j : Int) : Bool := decide (((-(2 ^ 64) < i ∧ i < 2 ^ 64) ∨ (-(2 ^ 64) < j ∧ j < 2 ^ 64)) ∨ i.natAbs.log2 + j.natAbs.log2 < 1000000)
def mulD : Op2
  | .int i, .int j, st => if cMul i j = true then some (.int (i * j), st) else none
  | .loc m, .int k, st => (wrL st m).bind fun xs => if (-(2 ^ 63) ≤ k ∧ k < 2 ^ 63) ∧ xs.length * k.toNat ≤ sizeLine then some (.loc st.length, st ++ [.lst (List.replicate k.toNat xs).flatten]) else none
  | _, _, _ => none
theorem Rvs.rep {K : PySem.W.Frag} {H : Hp} {ρ : List Addr} {vs : List V} {ds : List D} (r : Rvs K H ρ vs ds) : ∀ n : Nat, Rvs K H ρ (List.replicate n vs).flatten (List.replicate n ds).flatten
  | 0 => .nil
  | n + 1 => by
    rw [List.replicate_succ, List.replicate_succ, List.flatten_cons, List.flatten_cons]
    exact r.append (Rvs.rep r n)
theorem ops_mul : Ops X (binaryOp .Mult) mulD := by
  refine ⟨_, (op_mul.or op_mulW).or op_rep, fun {H ρ st x y v u d st' Q} R rx ry e q => ?_⟩
  cases x with
  | int i =>
    cases y with
    | int j =>
      rw [rx.int_inv, ry.int_inv]
      obtain ⟨hz, e⟩ := ite_some (show (if cMul i j = true then some (D.int (i * j), st) else none) = some (d, st') from e)
      cases e
      rcases of_decide_eq_true hz with hz | hz
      · exact .inl (.inl ⟨i, j, rfl, rfl, hz, q H ρ Gr.refl R _ (.int _)⟩)
      · exact .inl (.inr ⟨i, j, rfl, rfl, hz, q H ρ Gr.refl R _ (.int _)⟩)
    | _ => cases e
  | loc m =>
    cases y with
    | int k =>
      obtain ⟨a, rfl, ha⟩ := rx.loc_inv
      rw [ry.int_inv]
      obtain ⟨xs, e1, e⟩ := bind_some (show ((wrL st m).bind fun xs => if (-(2 ^ 63) ≤ k ∧ k < 2 ^ 63) ∧ xs.length * k.toNat ≤ sizeLine then some (D.loc st.length, st ++ [Cell.lst (List.replicate k.toNat xs).flatten]) else none) = some (d, st') from e)
      obtain ⟨hz, e⟩ := ite_some e
      cases e
      obtain ⟨vs, h1, r1⟩ := R.wr ha e1
      exact .inr ⟨a, k, vs, rfl, rfl, h1, hz.1.1, hz.1.2, by rw [r1.length]; exact hz.2, go_newL R (r1.rep _) q⟩
    | _ => cases e
  | _ => cases e
end
end PM
-- PMcmp
set_option Elab.async false
set_option linter.all false
set_option maxRecDepth 100000
set_option maxHeartbeats 4000000
/-! PM, comparisons. -/
namespace PM
open PySem L2
/-! ### data as it is compared and shown -/
def pyL (f : D → Option PyData) : List D → Option (List PyData)
  | [] => some []
  | d :: ds => (f d).bind fun p => (pyL f ds).map fun ps => p :: ps
def pyStep (st : Store) (rec : List D → Option (List PyData)) : D → Option PyData
  | .non => some .none
  | .bl b => some (.bool b)
  | .int i => some (.int i)
  | .str s => some (.str s)
  | .tup ds => (rec ds).map .tuple
  | .ro ds => (rec ds).map .list
  | .loc l => (rdL st l).bind fun ds => (rec ds).map .list
  | _ => none
def pyOf (st : Store) : Nat → D → Option PyData
  | 0, d => pyStep st (fun _ => none) d
  | n + 1, d => pyStep st (pyL (pyOf st n)) d
abbrev pyOfs (st : Store) (n : Nat) (ds : List D) : Option (List PyData) := pyL (pyOf st n) ds
section
variable {K : PySem.W.Frag} {H : Hp} {ρ : List Addr} {st : Store}
theorem map_some {α β : Type} {o : Option α} {k : α → β} {b : β} (h : o.map k = some b) : ∃ a, o = some a ∧ k a = b := by
  cases o with
  | none => cases h
  | some a => exact ⟨a, rfl, Option.some.inj h⟩
theorem dp_all (R : StOk K H ρ st) (n : Nat) (ih : ∀ (d : D) (v : V) (p : PyData), Rv K H ρ v d → pyOf st n d = some p → Dp K H v p) : ∀ (ds : List D) (vs : List V) (ps : List PyData), Rvs K H ρ vs ds → pyOfs st n ds = some ps → DpAll K H vs ps
  | [], _, ps, .nil, e => by
    cases e
    exact .nil
  | d :: ds, _, ps, .cons h r, e => by
    rw [pyOfs, pyL] at e
    obtain ⟨p, e1, e⟩ := bind_some e
    obtain ⟨qs, e2, rfl⟩ := map_some e
    exact .cons (ih d _ p h e1) (dp_all R n ih ds _ qs r e2)
theorem dp_of (R : StOk K H ρ st) : ∀ (n : Nat) (d : D) (v : V) (p : PyData), Rv K H ρ v d → pyOf st n d = some p → Dp K H v p := by
  intro n
  induction n with
  | zero =>
    intro d v p h e
    cases h <;> simp only [pyOf, pyStep, Option.some.injEq, Option.map_none, Option.bind_none, reduceCtorEq] at e
    · subst e; exact .non
    · subst e; exact .bl _
    · subst e; exact .int _
    · subst e; exact .str _
    · obtain ⟨_, _, e⟩ := bind_some e
      cases e
  | succ n ih =>
    intro d v p h e
    cases h with
    | tup h1 h2 =>
      rw [pyOf, pyStep] at e
      obtain ⟨ps, e1, rfl⟩ := map_some e
      exact .tup h1 (dp_all R n ih _ _ _ h2 e1)
    | ro h1 h2 =>
      rw [pyOf, pyStep] at e
      obtain ⟨ps, e1, rfl⟩ := map_some e
      exact .lst h1.sq (dp_all R n ih _ _ _ h2 e1)
    | loc ha =>
      rw [pyOf, pyStep] at e
      obtain ⟨ds, e1, e⟩ := bind_some e
      obtain ⟨ps, e2, rfl⟩ := map_some e
      obtain ⟨vs, h1, r1⟩ := R.rd ha e1
      exact .lst h1 (dp_all R n ih _ _ _ r1 e2)
    | _ =>
      simp only [pyOf, pyStep, Option.some.injEq, Option.map_none, Option.bind_none, reduceCtorEq] at e
      try (subst e; constructor)
end
/-! ### == and != -/
def eqG (neg : Bool) (x y : D) (st : Store) : Option (D × Store) := (pyOf st 70 x).bind fun p => (pyOf st 70 y).bind fun q =>
  if SeqAt.shaped p = true ∧ SeqAt.shaped q = true then some (.bl (if neg then !PyData.eqv p q else PyData.eqv p q), st) else none
def eqD : Op2
  | .str a, .str b, st => some (.bl (decide (a = b)), st)
  | .int a, .int b, st => some (.bl (decide (a = b)), st)
  | .bl a, .bl b, st => some (.bl (decide (a = b)), st)
  | x, y, st => eqG false x y st
def neD : Op2
  | .str a, .str b, st => some (.bl (!decide (a = b)), st)
  | .int a, .int b, st => some (.bl (!decide (a = b)), st)
  | .bl a, .bl b, st => some (.bl (!decide (a = b)), st)
  | x, y, st => eqG true x y st
theorem eqD_gen (x y : D) (st : Store) : (∃ a b, x = .str a ∧ y = .str b) ∨ (∃ a b, x = .int a ∧ y = .int b) ∨ (∃ a b, x = .bl a ∧ y = .bl b) ∨ (eqD x y st = eqG false x y st ∧ neD x y st = eqG true x y st) := by
  cases x <;> cases y <;> first
    | exact .inl ⟨_, _, rfl, rfl⟩
    | exact .inr (.inl ⟨_, _, rfl, rfl⟩)
    | exact .inr (.inr (.inl ⟨_, _, rfl, rfl⟩))
    | exact .inr (.inr (.inr ⟨rfl, rfl⟩))
section
variable {X : Cx}
theorem V_int_eq {a b : Int} : decide (V.int a = V.int b) = decide (a = b) := by simp
theorem ops_eq (hu : X.A.units + 64 < cLine) : Ops X (compareOp .Eq) eqD := by
  refine ⟨_, op_eq.or (op_eqD hu), fun {H ρ st x y v u d st' Q} R rx ry e q => ?_⟩
  rcases eqD_gen x y st with ⟨a, b, rfl, rfl⟩ | ⟨a, b, rfl, rfl⟩ | ⟨a, b, rfl, rfl⟩ | ⟨e1, _⟩
  · cases e
    rw [rx.str_inv, ry.str_inv]
    have h := q H ρ Gr.refl R _ (.bl _)
    exact .inl ⟨rfl, by simpa using h⟩
  · cases e
    rw [rx.int_inv, ry.int_inv]
    have h := q H ρ Gr.refl R _ (.bl _)
    exact .inl ⟨rfl, by simpa using h⟩
  · cases e
    rw [rx.bl_inv, ry.bl_inv]
    have h := q H ρ Gr.refl R _ (.bl _)
    exact .inl ⟨rfl, by simpa using h⟩
  · rw [e1] at e
    obtain ⟨p, h1, e⟩ := bind_some e
    obtain ⟨p2, h2, e⟩ := bind_some e
    obtain ⟨hz, e⟩ := ite_some e
    cases e
    exact .inr ⟨p, p2, dp_of R _ _ _ _ rx h1, dp_of R _ _ _ _ ry h2, hz.1, hz.2, q H ρ Gr.refl R _ (.bl _)⟩
theorem ops_ne (hu : X.A.units + 64 < cLine) : Ops X (compareOp .NotEq) neD := by
  refine ⟨_, op_ne.or (op_neD hu), fun {H ρ st x y v u d st' Q} R rx ry e q => ?_⟩
  rcases eqD_gen x y st with ⟨a, b, rfl, rfl⟩ | ⟨a, b, rfl, rfl⟩ | ⟨a, b, rfl, rfl⟩ | ⟨_, e1⟩
  · cases e
    rw [rx.str_inv, ry.str_inv]
    have h := q H ρ Gr.refl R _ (.bl _)
    exact .inl ⟨rfl, by simpa using h⟩
  · cases e
    rw [rx.int_inv, ry.int_inv]
    have h := q H ρ Gr.refl R _ (.bl _)
    exact .inl ⟨rfl, by simpa using h⟩
  · cases e
    rw [rx.bl_inv, ry.bl_inv]
    have h := q H ρ Gr.refl R _ (.bl _)
    exact .inl ⟨rfl, by simpa using h⟩
  · rw [e1] at e
    obtain ⟨p, h1, e⟩ := bind_some e
    obtain ⟨p2, h2, e⟩ := bind_some e
    obtain ⟨hz, e⟩ := ite_some e
    cases e
    exact .inr ⟨p, p2, dp_of R _ _ _ _ rx h1, dp_of R _ _ _ _ ry h2, hz.1, hz.2, q H ρ Gr.refl R _ (.bl _)⟩
/-! ### order -/
def ordD (f : Int → Int → Bool) (g : List Nat → List Nat → Bool) : Op2
  | .int a, .int b, st => some (.bl (f a b), st)
  | .str a, .str b, st => some (.bl (g a.cps.toList b.cps.toList), st)
  | _, _, _ => none
theorem ops_ord {f : Int → Int → Bool} {g : List Nat → List Nat → Bool} {op : Value → Value → Sem Value} (hi : OpR X op (rI0 fun i j => .bl (f i j))) (hs : OpR X op (fun x y H Q => ∃ i j, x = .str i ∧ y = .str j ∧ Q (.bl (g i.cps.toList j.cps.toList)) H)) : Ops X op (ordD f g) := by
  refine ⟨_, hi.or hs, fun {H ρ st x y v u d st' Q} R rx ry e q => ?_⟩
  cases x with
  | int i =>
    cases y with
    | int j =>
      cases e
      rw [rx.int_inv, ry.int_inv]
      exact .inl ⟨i, j, rfl, rfl, q H ρ Gr.refl R _ (.bl _)⟩
    | _ => cases e
  | str i =>
    cases y with
    | str j =>
      cases e
      rw [rx.str_inv, ry.str_inv]
      exact .inr ⟨i, j, rfl, rfl, q H ρ Gr.refl R _ (.bl _)⟩
    | _ => cases e
  | _ => cases e
def ltD : Op2 := ordD (fun a b => decide (a < b)) (fun a b => decide (a < b))
def leD : Op2 := ordD (fun a b => decide (a ≤ b)) (fun a b => !decide (b < a))
def gtD : Op2 := ordD (fun a b => decide (b < a)) (fun a b => decide (b < a))
def geD : Op2 := ordD (fun a b => decide (b ≤ a)) (fun a b => !decide (a < b))
theorem ops_lt : Ops X (compareOp .Lt) ltD := ops_ord op_lt op_lt_str
theorem ops_le : Ops X (compareOp .LtE) leD := ops_ord op_le op_le_str
theorem ops_gt : Ops X (compareOp .Gt) gtD := ops_ord op_gt op_gt_str
theorem ops_ge : Ops X (compareOp .GtE) geD := ops_ord op_ge op_ge_str
/-! ### in -/
def flatD : D → Bool
  | .non => true
  | .bl _ => true
  | .int _ => true
  | .str _ => true
  | _ => false
def toV : D → V
  | .bl b => .bl b
  | .int i => .int i
  | .str s => .str s
  | _ => .non
theorem Rv.flat {K : PySem.W.Frag} {H : Hp} {ρ : List Addr} {v : V} {d : D} (h : Rv K H ρ v d) (f : flatD d = true) : v = toV d ∧ flatV v = true := by
  cases h <;> first | exact ⟨rfl, rfl⟩ | cases f
theorem Rvs.flat {K : PySem.W.Frag} {H : Hp} {ρ : List Addr} : ∀ {vs : List V} {ds : List D}, Rvs K H ρ vs ds → ds.all flatD = true → vs = ds.map toV ∧ vs.all flatV = true
  | _, _, .nil, _ => ⟨rfl, rfl⟩
  | _, _, .cons h r, f => by
    rw [List.all_cons, Bool.and_eq_true] at f
    obtain ⟨rfl, h2⟩ := h.flat f.1
    obtain ⟨rfl, r2⟩ := Rvs.flat r f.2
    exact ⟨rfl, by rw [List.all_cons, h2, r2]; rfl⟩
/-- the items of a list or a tuple -/
def items (st : Store) : D → Option (List D)
  | .tup ds => some ds
  | .ro ds => some ds
  | .loc n => rdL st n
  | _ => none
theorem items_sq {K : PySem.W.Frag} {H : Hp} {ρ : List Addr} {st : Store} (R : StOk K H ρ st) {v : V} {d : D} {ds : List D} (h : Rv K H ρ v d) (e : items st d = some ds) : ∃ a vs, v = .ref a ∧ (SqL K H a vs ∨ SqT K H a vs) ∧ Rvs K H ρ vs ds := by
  cases h with
  | tup h1 h2 =>
    cases e
    exact ⟨_, _, rfl, .inr h1, h2⟩
  | ro h1 h2 =>
    cases e
    exact ⟨_, _, rfl, .inl h1.sq, h2⟩
  | loc ha =>
    obtain ⟨vs, h1, r⟩ := R.rd ha e
    exact ⟨_, vs, rfl, .inl h1, r⟩
  | _ => cases e
def inSeq (neg : Bool) (x y : D) (st : Store) : Option (D × Store) := (items st y).bind fun ds => if flatD x = true ∧ ds.all flatD = true then some (.bl (if neg then !inV (toV x) (ds.map toV) else inV (toV x) (ds.map toV)), st) else none
def inD : Op2
  | .str a, .str b, st => some (.bl (!(Builtin.Str.occurrences b a 0 b.length 1).isEmpty), st)
  | x, y, st => inSeq false x y st
def ninD : Op2
  | .str a, .str b, st => some (.bl (!(!(Builtin.Str.occurrences b a 0 b.length 1).isEmpty)), st)
  | x, y, st => inSeq true x y st
theorem inD_gen (x y : D) (st : Store) : (∃ a b, x = .str a ∧ y = .str b) ∨ (inD x y st = inSeq false x y st ∧ ninD x y st = inSeq true x y st) := by
  cases x <;> cases y <;> first
    | exact .inl ⟨_, _, rfl, rfl⟩
    | exact .inr ⟨rfl, rfl⟩
theorem ops_in : Ops X (compareOp .In) inD := by
  refine ⟨_, op_in_str.or op_in_seq, fun {H ρ st x y v u d st' Q} R rx ry e q => ?_⟩
  rcases inD_gen x y st with ⟨a, b, rfl, rfl⟩ | ⟨e1, _⟩
  · cases e
    rw [rx.str_inv, ry.str_inv]
    exact .inl ⟨a, b, rfl, rfl, q H ρ Gr.refl R _ (.bl _)⟩
  · rw [e1] at e
    obtain ⟨ds, h1, e⟩ := bind_some e
    obtain ⟨hz, e⟩ := ite_some e
    cases e
    obtain ⟨a, vs, rfl, hs, r⟩ := items_sq R ry h1
    obtain ⟨rfl, f1⟩ := rx.flat hz.1
    obtain ⟨rfl, f2⟩ := r.flat hz.2
    exact .inr ⟨a, _, rfl, hs, f1, f2, q H ρ Gr.refl R _ (.bl _)⟩
theorem ops_nin : Ops X (compareOp .NotIn) ninD := by
  refine ⟨_, op_notin_str.or op_notIn_seq, fun {H ρ st x y v u d st' Q} R rx ry e q => ?_⟩
  rcases inD_gen x y st with ⟨a, b, rfl, rfl⟩ | ⟨_, e1⟩
  · cases e
    rw [rx.str_inv, ry.str_inv]
    exact .inl ⟨a, b, rfl, rfl, q H ρ Gr.refl R _ (.bl _)⟩
  · rw [e1] at e
    obtain ⟨ds, h1, e⟩ := bind_some e
    obtain ⟨hz, e⟩ := ite_some e
    cases e
    obtain ⟨a, vs, rfl, hs, r⟩ := items_sq R ry h1
    obtain ⟨rfl, f1⟩ := rx.flat hz.1
    obtain ⟨rfl, f2⟩ := r.flat hz.2
    exact .inr ⟨a, _, rfl, hs, f1, f2, q H ρ Gr.refl R _ (.bl _)⟩
/-! ### is -/
def isD (neg : Bool) : Op2
  | x, .non, st => some (.bl (if neg then !decide (x = .non) else decide (x = .non)), st)
  | .bl a, .bl b, st => some (.bl (if neg then !decide (a = b) else decide (a = b)), st)
  | _, _, _ => none
theorem Rv.isNon {K : PySem.W.Frag} {H : Hp} {ρ : List Addr} {v : V} {d : D} (h : Rv K H ρ v d) : decide (v = .non) = decide (d = .non) := by
  cases h <;> simp
theorem ops_is : Ops X (compareOp .Is) (isD false) := by
  refine ⟨_, op_isN.or op_isBl, fun {H ρ st x y v u d st' Q} R rx ry e q => ?_⟩
  cases y with
  | non =>
    have e2 : some (D.bl (decide (x = .non)), st) = some (d, st') := by cases x <;> exact e
    cases e2
    refine .inl ⟨ry.non_inv, ?_⟩
    rw [rx.isNon]
    exact q H ρ Gr.refl R _ (.bl _)
  | bl b =>
    cases x with
    | bl a =>
      cases e
      rw [rx.bl_inv, ry.bl_inv]
      exact .inr ⟨a, b, rfl, rfl, q H ρ Gr.refl R _ (.bl _)⟩
    | _ => cases e
  | _ => cases x <;> cases e
theorem ops_isn : Ops X (compareOp .IsNot) (isD true) := by
  refine ⟨_, op_notN.or op_notBl, fun {H ρ st x y v u d st' Q} R rx ry e q => ?_⟩
  cases y with
  | non =>
    have e2 : some (D.bl (!decide (x = .non)), st) = some (d, st') := by cases x <;> exact e
    cases e2
    refine .inl ⟨ry.non_inv, ?_⟩
    rw [rx.isNon]
    exact q H ρ Gr.refl R _ (.bl _)
  | bl b =>
    cases x with
    | bl a =>
      cases e
      rw [rx.bl_inv, ry.bl_inv]
      exact .inr ⟨a, b, rfl, rfl, q H ρ Gr.refl R _ (.bl _)⟩
    | _ => cases e
  | _ => cases x <;> cases e
end
end PM
-- PMcall
set_option Elab.async false
set_option linter.all false
set_option maxRecDepth 100000
set_option maxHeartbeats 4000000
/-! PM, built-ins, items, slices, methods. -/
namespace PM
open PySem L2
section
variable {X : Cx} {W : WX}
/-! ### built-in functions -/
def lenB : OpN
  | [.str s], st => if s.length ≤ sizeLine then some (.int s.length, st) else none
  | [d], st => (items st d).map fun ds => (.int ds.length, st)
  | _, _ => none
theorem calls_len : Calls X (.builtin "len") lenB := by
  refine ⟨_, call_len, fun {H ρ st ds vs d st' Q} R r e q => ?_⟩
  cases r with
  | nil => cases e
  | cons h r =>
    cases r with
    | cons _ _ => rename_i x _ _ _ _ _ _; cases x <;> cases e
    | nil =>
      have go : ∀ {x : D} {v : V}, Rv X.K H ρ v x → ((items st x).map fun ds => (D.int ds.length, st)) = some (d, st') → ∃ x n, [v] = [x] ∧ LenV X.K x H n ∧ Q (.int n) H := fun {x v} h e => by
        obtain ⟨ds, e1, e2⟩ := map_some e
        cases e2
        obtain ⟨a, vs, rfl, hs, r⟩ := items_sq R h e1
        refine ⟨_, ds.length, rfl, ?_, q H ρ Gr.refl R _ (.int _)⟩
        rcases hs with hs | hs
        · exact .inl ⟨vs, hs, r.length.symm⟩
        · exact .inr ⟨vs, hs, r.length.symm⟩
      cases h with
      | str s =>
        obtain ⟨hz, e⟩ := ite_some (show (if s.length ≤ sizeLine then some (D.int s.length, st) else none) = some (d, st') from e)
        cases e
        exact ⟨_, s.length, rfl, ⟨hz, rfl⟩, q H ρ Gr.refl R _ (.int _)⟩
      | tup h1 h2 => exact go (.tup h1 h2) e
      | ro h1 h2 => exact go (.ro h1 h2) e
      | loc ha => exact go (.loc ha) e
      | _ => cases e
def absB : OpN
  | [.int i], st => some (.int (if i < 0 then -i else i), st)
  | _, _ => none
def minB : OpN
  | [.int i, .int j], st => some (.int (if j < i then j else i), st)
  | _, _ => none
def maxB : OpN
  | [.int i, .int j], st => some (.int (if j > i then j else i), st)
  | _, _ => none
def intB : OpN
  | [.int i], st => some (.int i, st)
  | [.bl k], st => some (.int (if k then 1 else 0), st)
  | [.str a], st => (PySem.intText? a).bind fun n => if a.length ≤ 640 then some (.int n, st) else none
  | _, _ => none
def strB : OpN
  | [.int i], st => if i.natAbs.log2 < 1920 then some (.str (toString i), st) else none
  | [.str a], st => some (.str a, st)
  | _, _ => none
def ordB : OpN
  | [.str a], st => if a.length = 1 then some (.int (a.cps.getD 0 0 : Nat), st) else none
  | _, _ => none
theorem Rvs.inv1 {K : PySem.W.Frag} {H : Hp} {ρ : List Addr} {vs : List V} {d : D} (r : Rvs K H ρ vs [d]) : ∃ v, vs = [v] ∧ Rv K H ρ v d := by
  cases r with
  | cons h r =>
    cases r
    exact ⟨_, rfl, h⟩
theorem Rvs.inv2 {K : PySem.W.Frag} {H : Hp} {ρ : List Addr} {vs : List V} {d e : D} (r : Rvs K H ρ vs [d, e]) : ∃ v u, vs = [v, u] ∧ Rv K H ρ v d ∧ Rv K H ρ u e := by
  cases r with
  | cons h r =>
    cases r with
    | cons h2 r =>
      cases r
      exact ⟨_, _, rfl, h, h2⟩
theorem calls_abs : Calls X (.builtin "abs") absB := by
  refine ⟨_, call_abs, fun {H ρ st ds vs d st' Q} R r e q => ?_⟩
  unfold absB at e
  split at e
  · cases e
    obtain ⟨v, rfl, h⟩ := r.inv1
    rw [h.int_inv]
    exact ⟨_, rfl, q H ρ Gr.refl R _ (.int _)⟩
  · cases e
theorem calls_min (hc : X.calm = true) : Calls X (.builtin "min") minB := by
  refine ⟨_, call_min2 hc, fun {H ρ st ds vs d st' Q} R r e q => ?_⟩
  unfold minB at e
  split at e
  · cases e
    obtain ⟨v, u, rfl, h, h2⟩ := r.inv2
    rw [h.int_inv, h2.int_inv]
    exact ⟨_, _, rfl, q H ρ Gr.refl R _ (.int _)⟩
  · cases e
theorem calls_max (hc : X.calm = true) : Calls X (.builtin "max") maxB := by
  refine ⟨_, call_max2 hc, fun {H ρ st ds vs d st' Q} R r e q => ?_⟩
  unfold maxB at e
  split at e
  · cases e
    obtain ⟨v, u, rfl, h, h2⟩ := r.inv2
    rw [h.int_inv, h2.int_inv]
    exact ⟨_, _, rfl, q H ρ Gr.refl R _ (.int _)⟩
  · cases e
theorem calls_int : Calls X (.type "int") intB := by
  refine ⟨_, call_int1.or call_int_str, fun {H ρ st ds vs d st' Q} R r e q => ?_⟩
  unfold intB at e
  split at e
  · cases e
    obtain ⟨v, rfl, h⟩ := r.inv1
    rw [h.int_inv]
    exact .inl (.inl ⟨_, rfl, q H ρ Gr.refl R _ (.int _)⟩)
  · cases e
    obtain ⟨v, rfl, h⟩ := r.inv1
    rw [h.bl_inv]
    exact .inl (.inr ⟨_, rfl, q H ρ Gr.refl R _ (.int _)⟩)
  · obtain ⟨n, e1, e⟩ := bind_some e
    obtain ⟨hz, e⟩ := ite_some e
    cases e
    obtain ⟨v, rfl, h⟩ := r.inv1
    rw [h.str_inv]
    exact .inr ⟨_, n, rfl, e1, hz, q H ρ Gr.refl R _ (.int _)⟩
  · cases e
theorem calls_str : Calls X (.type "str") strB := by
  refine ⟨_, call_str_int.or SkE.call_str_str, fun {H ρ st ds vs d st' Q} R r e q => ?_⟩
  unfold strB at e
  split at e
  · obtain ⟨hz, e⟩ := ite_some e
    cases e
    obtain ⟨v, rfl, h⟩ := r.inv1
    rw [h.int_inv]
    exact .inl ⟨_, rfl, hz, q H ρ Gr.refl R _ (.str _)⟩
  · cases e
    obtain ⟨v, rfl, h⟩ := r.inv1
    rw [h.str_inv]
    exact .inr ⟨_, rfl, q H ρ Gr.refl R _ (.str _)⟩
  · cases e
theorem calls_ord : Calls X (.builtin "ord") ordB := by
  refine ⟨_, call_ord, fun {H ρ st ds vs d st' Q} R r e q => ?_⟩
  unfold ordB at e
  split at e
  · obtain ⟨hz, e⟩ := ite_some e
    cases e
    obtain ⟨v, rfl, h⟩ := r.inv1
    rw [h.str_inv]
    exact ⟨_, rfl, hz, q H ρ Gr.refl R _ (.int _)⟩
  · cases e
def listB : OpN
  | [d], st => (items st d).bind fun ds => newL st ds
  | _, _ => none
def tupleB : OpN
  | [.tup ds], st => some (.tup ds, st)
  | [.ro ds], st => if ds.length ≤ sizeLine then some (.tup ds, st) else none
  | [.loc n], st => (rdL st n).bind fun ds => if ds.length ≤ sizeLine then some (.tup ds, st) else none
  | _, _ => none
theorem calls_list : Calls X (.type "list") listB := by
  refine ⟨_, call_list_of, fun {H ρ st ds vs d st' Q} R r e q => ?_⟩
  unfold listB at e
  split at e
  · obtain ⟨xs, e1, e⟩ := bind_some e
    obtain ⟨v, rfl, h⟩ := r.inv1
    obtain ⟨a, us, rfl, hs, r2⟩ := items_sq R h e1
    obtain ⟨_, k⟩ := go_list R r2 e q
    exact ⟨a, us, rfl, hs, k⟩
  · cases e
theorem calls_tuple : Calls X (.type "tuple") tupleB := by
  refine ⟨_, call_tuple_of, fun {H ρ st ds vs d st' Q} R r e q => ?_⟩
  unfold tupleB at e
  split at e
  · cases e
    obtain ⟨v, rfl, h⟩ := r.inv1
    obtain ⟨a, us, rfl, hs, r2⟩ := h.tup_inv
    exact ⟨a, us, rfl, .inr ⟨hs, q H ρ Gr.refl R _ (.tup hs r2)⟩⟩
  · obtain ⟨hz, e⟩ := ite_some e
    cases e
    obtain ⟨v, rfl, h⟩ := r.inv1
    obtain ⟨a, us, rfl, hs, r2⟩ := h.ro_inv
    exact ⟨a, us, rfl, .inl ⟨hs.sq, go_newT R r2 q⟩⟩
  · obtain ⟨xs, e1, e⟩ := bind_some e
    obtain ⟨hz, e⟩ := ite_some e
    cases e
    obtain ⟨v, rfl, h⟩ := r.inv1
    obtain ⟨a, rfl, ha⟩ := h.loc_inv
    obtain ⟨us, hs, r2⟩ := R.rd ha e1
    exact ⟨a, us, rfl, .inl ⟨hs, go_newT R r2 q⟩⟩
  · cases e
/-! ### isinstance -/
def cellTy : Cell → String
  | .dct _ => "dict"
  | _ => "list"
def tyOfD (st : Store) : D → Option String
  | .non => some "NoneType"
  | .bl _ => some "bool"
  | .int _ => some "int"
  | .str _ => some "str"
  | .tup _ => some "tuple"
  | .ro _ => some "list"
  | .loc n => (st[n]?).map cellTy
  | _ => none
def isiB : OpN
  | [x, .ty T], st => (tyOfD st x).bind fun t => (kitB t T).map fun b => (.bl b, st)
  | _, _ => none
theorem tyX_of {K : PySem.W.Frag} {H : Hp} {ρ : List Addr} {st : Store} (R : StOk K H ρ st) {v : V} {d : D} {t : String} (h : Rv K H ρ v d) (e : tyOfD st d = some t) : TyX K H v (.type t) := by
  cases h with
  | non => cases e; exact .base .non
  | bl b => cases e; exact .base (.bl b)
  | int i => cases e; exact .base (.int i)
  | str s => cases e; exact .base (.str s)
  | tup h1 h2 =>
    cases e
    rcases h1 with (h1 | ⟨o, h1⟩) | ⟨o, its, n, h1, h2, _⟩
    · exact .base (.tup h1)
    · exact .fTuple h1
    · exact .kTuple h1 h2
  | ro h1 h2 =>
    cases e
    rcases h1 with ⟨o, h1⟩ | ⟨o, its, n, h1, h2, _⟩
    · exact .base (.frz h1)
    · exact .kList h1 h2
  | loc ha =>
    rw [tyOfD] at e
    obtain ⟨c, e1, e⟩ := map_some e
    obtain ⟨o, e2, h3⟩ := R.at e1 ha
    cases c with
    | lst ds =>
      cases e
      obtain ⟨vs, rfl, _⟩ := h3
      exact .base (.lst e2)
    | ro ds =>
      cases e
      obtain ⟨vs, ob, rfl, _⟩ := h3
      exact .base (.frz e2)
    | dct kvs =>
      cases e
      obtain ⟨ws, rfl, _⟩ := h3
      exact .base (.dK e2)
  | _ => cases e
theorem calls_isi : Calls X (.builtin "isinstance") isiB := by
  refine ⟨_, call_isi, fun {H ρ st ds vs d st' Q} R r e q => ?_⟩
  unfold isiB at e
  split at e
  · obtain ⟨t, e1, e⟩ := bind_some e
    obtain ⟨b, e2, e3⟩ := map_some e
    cases e3
    obtain ⟨v, u, rfl, h, h2⟩ := r.inv2
    cases h2
    exact ⟨_, _, _, _, b, rfl, .ty _, tyX_of R h e1, kit_ty e2, q H ρ Gr.refl R _ (.bl _)⟩
  · cases e
end
end PM
-- PMsub
set_option Elab.async false
set_option linter.all false
set_option maxRecDepth 100000
set_option maxHeartbeats 4000000
/-! PM, items, slices, methods. -/
namespace PM
open PySem L2
/-! ### dicts by text and number keys -/
def keyD : D → Option Key
  | .int i => some (.inl i)
  | .str s => some (.inr s)
  | _ => none
theorem Rv.key {K : PySem.W.Frag} {H : Hp} {ρ : List Addr} {v : V} {d : D} {k : Key} (h : Rv K H ρ v d) (e : keyD d = some k) : v = kV k := by
  cases h <;> cases e <;> rfl
def dGet (kvs : List (Key × D)) (k : Key) : Option D := (kvs.find? fun kv => decide (kv.1 = k)).map (·.2)
def dPut (kvs : List (Key × D)) (k : Key) (v : D) : List (Key × D) :=
  if (kvs.any fun kv => decide (kv.1 = k)) = true then kvs.map (fun kv => if kv.1 = k then (kv.1, v) else kv) else kvs ++ [(k, v)]
section
variable {K : PySem.W.Frag} {H : Hp} {ρ : List Addr}
theorem dget_of {k : Key} : ∀ {ws : List (Key × V)} {kvs : List (Key × D)}, ws.map (·.1) = kvs.map (·.1) → Rvs K H ρ (ws.map (·.2)) (kvs.map (·.2)) → ∀ {d : D}, dGet kvs k = some d → ∃ v, valV ws k = some v ∧ Rv K H ρ v d
  | [], [], _, _, d, e => by cases e
  | [], _ :: _, h, _, _, _ => by cases h
  | _ :: _, [], h, _, _, _ => by cases h
  | (k1, v) :: ws, (k2, d2) :: kvs, h, r, d, e => by
    simp only [List.map_cons, List.cons.injEq] at h
    obtain ⟨rfl, h⟩ := h
    cases r with
    | cons r1 r2 =>
      by_cases hk : k1 = k
      · refine ⟨v, valV_pos hk, ?_⟩
        unfold dGet at e
        rw [List.find?_cons, decide_eq_true hk] at e
        cases e
        exact r1
      · rw [valV_neg hk]
        refine dget_of h r2 ?_
        unfold dGet at e ⊢
        rw [List.find?_cons, decide_eq_false hk] at e
        exact e
theorem any_keys {k : Key} : ∀ {ws : List (Key × V)} {kvs : List (Key × D)}, ws.map (·.1) = kvs.map (·.1) → (ws.any fun kv => decide (kv.1 = k)) = kvs.any fun kv => decide (kv.1 = k)
  | [], [], _ => rfl
  | [], _ :: _, h => by cases h
  | _ :: _, [], h => by cases h
  | (k1, v) :: ws, (k2, d2) :: kvs, h => by
    simp only [List.map_cons, List.cons.injEq] at h
    obtain ⟨rfl, h⟩ := h
    rw [List.any_cons, List.any_cons, any_keys h]
theorem map_put {k : Key} {v : V} {d : D} (rv : Rv K H ρ v d) : ∀ {ws : List (Key × V)} {kvs : List (Key × D)}, ws.map (·.1) = kvs.map (·.1) → Rvs K H ρ (ws.map (·.2)) (kvs.map (·.2)) →
    (ws.map (fun kv => if kv.1 = k then (kv.1, v) else kv)).map (·.1) = (kvs.map (fun kv => if kv.1 = k then (kv.1, d) else kv)).map (·.1) ∧
    Rvs K H ρ ((ws.map (fun kv => if kv.1 = k then (kv.1, v) else kv)).map (·.2)) ((kvs.map (fun kv => if kv.1 = k then (kv.1, d) else kv)).map (·.2))
  | [], [], _, _ => ⟨rfl, .nil⟩
  | [], _ :: _, h, _ => by cases h
  | _ :: _, [], h, _ => by cases h
  | (k1, v1) :: ws, (k2, d2) :: kvs, h, r => by
    simp only [List.map_cons, List.cons.injEq] at h
    obtain ⟨rfl, h⟩ := h
    cases r with
    | cons r1 r2 =>
      obtain ⟨i1, i2⟩ := map_put (k := k) rv h r2
      simp only [List.map_cons]
      by_cases hk : k1 = k
      · simp only [if_pos hk]
        exact ⟨by rw [i1], .cons rv i2⟩
      · simp only [if_neg hk]
        exact ⟨by rw [i1], .cons r1 i2⟩
theorem dput_of {k : Key} {v : V} {d : D} (rv : Rv K H ρ v d) {ws : List (Key × V)} {kvs : List (Key × D)} (h : ws.map (·.1) = kvs.map (·.1)) (r : Rvs K H ρ (ws.map (·.2)) (kvs.map (·.2))) :
    (putK ws k v).map (·.1) = (dPut kvs k d).map (·.1) ∧ Rvs K H ρ ((putK ws k v).map (·.2)) ((dPut kvs k d).map (·.2)) := by
  unfold putK dPut
  rw [any_keys h]
  by_cases c : (kvs.any fun kv => decide (kv.1 = k)) = true
  · rw [if_pos c, if_pos c]
    exact map_put rv h r
  · rw [if_neg c, if_neg c, List.map_append, List.map_append, List.map_append, List.map_append, h]
    exact ⟨rfl, r.append (Rvs.one rv)⟩
/-- a display -/
def dMerge (kvs more : List (Key × D)) : List (Key × D) := more.foldl (fun acc kv => dPut acc kv.1 kv.2) kvs
theorem dmerge_of : ∀ {more : List (Key × V)} {moreD : List (Key × D)} {ws : List (Key × V)} {kvs : List (Key × D)}, more.map (·.1) = moreD.map (·.1) → Rvs K H ρ (more.map (·.2)) (moreD.map (·.2)) → ws.map (·.1) = kvs.map (·.1) → Rvs K H ρ (ws.map (·.2)) (kvs.map (·.2)) →
    (mergeK ws more).map (·.1) = (dMerge kvs moreD).map (·.1) ∧ Rvs K H ρ ((mergeK ws more).map (·.2)) ((dMerge kvs moreD).map (·.2))
  | [], [], _, _, _, _, h, r => ⟨h, r⟩
  | [], _ :: _, _, _, h, _, _, _ => by cases h
  | _ :: _, [], _, _, h, _, _, _ => by cases h
  | (k1, v1) :: more, (k2, d2) :: moreD, ws, kvs, h, r, h2, r2 => by
    simp only [List.map_cons, List.cons.injEq] at h
    obtain ⟨rfl, h⟩ := h
    cases r with
    | cons r1 rr =>
      obtain ⟨i1, i2⟩ := dput_of (k := k1) r1 h2 r2
      exact dmerge_of (more := more) (moreD := moreD) h rr i1 i2
theorem Rvs.atI {vs : List V} {ds : List D} {i : Int} {d : D} (r : Rvs K H ρ vs ds) (e : atI ds i = some d) : ∃ v, atI vs i = some v ∧ Rv K H ρ v d := by
  unfold L2.atI at e ⊢
  rw [r.length]
  obtain ⟨j, e1, e2⟩ := bind_some e
  obtain ⟨v, h1, h2⟩ := r.get e2
  exact ⟨v, by rw [e1]; exact h1, h2⟩
end
/-! ### a[i] -/
def ixD : Op2
  | .str s, .int i, st => if s.length ≤ sizeLine then (atI s.cps.toList i).map fun c => (.str ⟨#[c]⟩, st) else none
  | .tup ds, .int i, st => (atI ds i).map fun d => (d, st)
  | .ro ds, .int i, st => (atI ds i).map fun d => (d, st)
  | .loc n, k, st => match rdK st n with
    | some kvs => (keyD k).bind fun k => (dGet kvs k).map fun d => (d, st)
    | none => match k with
      | .int i => (rdL st n).bind fun ds => (atI ds i).map fun d => (d, st)
      | _ => none
  | _, _, _ => none
section
variable {X : Cx} {W : WX} {a b : Expr} {ma mb : EM} {pos : Pos}
def rIxK : R2 := fun x y H Q => ∃ (a : Addr) (v : V), x = .ref a ∧ DGet H a y (some v) ∧ Q v H
theorem ix_dict (hu : X.A.units + 1 < cLine) : IxR X rIxK := by
  intro value slice pins s σ H x y v u Q I rx ry h hs
  obtain ⟨a, w, rfl, g, q⟩ := h
  obtain rfl : v = Value.ref a := rx
  exact PyProof.Rows.tail_any (dict_typeIs I g) PySem.F.slot_dict_getitem.lookup (d_getItem hu I g ry fun w' s3 I3 rw' => ⟨w, H, I3, rw', q⟩) hs
def Ixs (X : Cx) (g : Op2) : Prop := ∃ r, IxR X r ∧ ∀ {H : Hp} {ρ : List Addr} {st : Store} {x y : D} {v u : V} {d : D} {st' : Store} {Q : VK},
  StOk X.K H ρ st → Rv X.K H ρ v x → Rv X.K H ρ u y → g x y st = some (d, st') → (∀ H' ρ', Gr X.K H ρ H' ρ' → StOk X.K H' ρ' st' → ∀ z, Rv X.K H' ρ' z d → Q z H') → r v u H Q
theorem pm_sub {g : Op2} (ho : Ixs X g) (ha : PE X a (tE X.K W ma)) (hb : PE X b (tE X.K W mb)) (hs : PlainIx b) : PE X (.Subscript a b pos) (tE X.K W (m2 g ma mb)) := by
  obtain ⟨r, h1, h2⟩ := ho
  exact pe_imp (pe_ix h1 ha hb hs) fun σ H Q I h => tOp_of h2 h
theorem ixs_ix (hu : X.A.units + 1 < cLine) : Ixs X ixD := by
  refine ⟨_, (ix_list.or (ix_tup.or ix_str)).or (ix_dict hu), fun {H ρ st x y v u d st' Q} R rx ry e q => ?_⟩
  unfold ixD at e
  split at e
  · rename_i s i
    obtain ⟨hz, e⟩ := ite_some e
    obtain ⟨c, e1, e2⟩ := map_some e
    cases e2
    rw [rx.str_inv, ry.int_inv]
    exact .inl (.inr (.inr ⟨s, i, c, rfl, rfl, hz, e1, q H ρ Gr.refl R _ (.str _)⟩))
  · rename_i ds i
    obtain ⟨c, e1, e2⟩ := map_some e
    cases e2
    obtain ⟨p, vs, rfl, h1, r1⟩ := rx.tup_inv
    rw [ry.int_inv]
    obtain ⟨w, e3, rw'⟩ := r1.atI e1
    exact .inl (.inr (.inl ⟨p, vs, i, w, rfl, rfl, h1, e3, q H ρ Gr.refl R _ rw'⟩))
  · rename_i ds i
    obtain ⟨c, e1, e2⟩ := map_some e
    cases e2
    obtain ⟨p, vs, rfl, h1, r1⟩ := rx.ro_inv
    rw [ry.int_inv]
    obtain ⟨w, e3, rw'⟩ := r1.atI e1
    exact .inl (.inl ⟨p, vs, i, w, rfl, rfl, h1.sq, e3, q H ρ Gr.refl R _ rw'⟩)
  · rename_i n k
    obtain ⟨p, rfl, hp⟩ := rx.loc_inv
    split at e
    · rename_i kvs ek
      obtain ⟨k', e1, e⟩ := bind_some e
      obtain ⟨c, e2, e3⟩ := map_some e
      cases e3
      obtain ⟨ws, h1, h2, r1⟩ := R.dk hp ek
      obtain ⟨w, e4, rw'⟩ := dget_of h2 r1 e2
      refine .inr ⟨p, w, rfl, ?_, q H ρ Gr.refl R _ rw'⟩
      rw [ry.key e1, ← e4]
      exact DGet.k h1
    · split at e
      · rename_i i
        obtain ⟨ds, e1, e⟩ := bind_some e
        obtain ⟨c, e2, e3⟩ := map_some e
        cases e3
        rw [ry.int_inv]
        obtain ⟨vs, h1, r1⟩ := R.rd hp e1
        obtain ⟨w, e4, rw'⟩ := r1.atI e2
        exact .inl (.inl ⟨p, vs, i, w, rfl, rfl, h1, e4, q H ρ Gr.refl R _ rw'⟩)
      · cases e
  · cases e
/-! ### a[lo:hi] -/
abbrev OM := PM.Env → Store → Res (Option Int)
def tO (K : PySem.W.Frag) (W : WX) (m : OM) : TO := fun σ H Q => ∃ env ρ st, StOk K H ρ st ∧ EnvOk K H ρ σ env ∧ Go K (wx K W) H ρ (m env st) fun o H' _ _ => Q o H'
theorem tO_run {K : PySem.W.Frag} {H : Hp} {ρ : List Addr} {σ : L2.St} {env : PM.Env} {st : Store} {β : Type} {P : β → Hp → List Addr → Store → Prop} {m : OM} {k : Option Int → Store → Res β} {Q : Option Int → Hp → Prop} (R : StOk K H ρ st) (N : EnvOk K H ρ σ env) (h : Go K (wx K W) H ρ ((m env st).bind k) P)
    (hq : ∀ o H1 ρ1 st1, Gr K H ρ H1 ρ1 → StOk K H1 ρ1 st1 → EnvOk K H1 ρ1 σ env → Go K (wx K W) H1 ρ1 (k o st1) P → Q o H1) : tO K W m σ H Q :=
  ⟨env, ρ, st, R, N, h.bind.imp fun o H' ρ' st' g R' q => hq o H' ρ' st' g R' (N.gr g) q⟩
def oNo : OM := fun _ st => .ok none st
def oSome (m : EM) : OM := fun env st => (m env st).bind fun d st1 => match d with
  | .int i => .ok (some i) st1
  | _ => .stuck
theorem pmo_none : PO X none (tO X.K W oNo) := ⟨fun pins s σ H Q I ⟨env, ρ, st, R, N, h⟩ => po_none.run pins s σ H Q I (h H ρ Gr.refl R)⟩
theorem pmo_some {e : Expr} {m : EM} (he : PE X e (tE X.K W m)) : PO X (some e) (tO X.K W (oSome m)) := ⟨fun pins s σ H Q I ⟨env, ρ, st, R, N, h⟩ => (po_some he).run pins s σ H Q I (tE_run R N h fun v d H1 ρ1 st1 g1 R1 N1 r1 h1 => by
  cases d with
  | int i => exact ⟨i, r1.int_inv, h1 H1 ρ1 Gr.refl R1⟩
  | _ => exact h1.elim)⟩
def cutL {α : Type} (xs : List α) (lo hi : Option Int) : List α := (xs.drop (HT.sIx xs.length 0 lo)).take (HT.sIx xs.length xs.length hi - HT.sIx xs.length 0 lo)
def slD (x : D) (lo hi : Option Int) (st : Store) : Option (D × Store) := match x with
  | .str s => if s.length ≤ sizeLine then some (.str (cutS s lo hi), st) else none
  | .tup ds => some (.tup (cutL ds lo hi), st)
  | .ro ds => some (.loc st.length, st ++ [.lst (cutL ds lo hi)])
  | .loc n => (rdL st n).map fun ds => (.loc st.length, st ++ [.lst (cutL ds lo hi)])
  | _ => none
def mSl (a : EM) (lo hi : OM) : EM := fun env st => (a env st).bind fun x st1 => (lo env st1).bind fun l st2 => (hi env st2).bind fun u st3 => Res.of (slD x l u st3)
theorem Rvs.cut {K : PySem.W.Frag} {H : Hp} {ρ : List Addr} {vs : List V} {ds : List D} (r : Rvs K H ρ vs ds) (lo hi : Option Int) : Rvs K H ρ (cutV vs lo hi) (cutL ds lo hi) := by
  unfold cutV cutL
  rw [r.length]
  exact (r.drop _).take _
theorem cut_whole {α : Type} {xs : List α} {lo hi : Option Int} (h : HT.sIx xs.length 0 lo = 0 ∧ HT.sIx xs.length xs.length hi = xs.length) : cutL xs lo hi = xs := by
  unfold cutL
  rw [h.1, h.2, List.drop_zero, Nat.sub_zero, List.take_length]
theorem pm_slice {lo hi : Option Expr} {ml mh : OM} {p2 : Pos} (ha : PE X a (tE X.K W ma)) (hl : PO X lo (tO X.K W ml)) (hh : PO X hi (tO X.K W mh)) : PE X (.Subscript a (.Slice lo hi none p2) pos) (tE X.K W (mSl ma ml mh)) := by
  refine pe_imp (pe_slice (sl_str.or (sl_tupA.or sl_list)) ha hl hh) fun σ H Q I ⟨env, ρ, st, R, N, h⟩ => ?_
  refine tE_run R N h fun v d H1 ρ1 st1 g1 R1 N1 r1 h1 => tO_run R1 N1 h1 fun l H2 ρ2 st2 g2 R2 N2 h2 => tO_run R2 N2 h2 fun u H3 ρ3 st3 g3 R3 N3 h3 => ?_
  have r3 := (r1.gr g2).gr g3
  cases d with
  | str s =>
    by_cases hz : s.length ≤ sizeLine
    · rw [show slD (.str s) l u st3 = some (.str (cutS s l u), st3) from if_pos hz] at h3
      exact .inl ⟨s, r3.str_inv, hz, h3 H3 ρ3 Gr.refl R3 _ (.str _)⟩
    · rw [show slD (.str s) l u st3 = none from if_neg hz] at h3
      exact h3.elim
  | tup ds =>
    obtain ⟨p, vs, rfl, s1, r4⟩ := r3.tup_inv
    refine .inr (.inl ⟨p, vs, rfl, s1, fun hw => ?_, fun _ => ?_⟩)
    · rw [r4.length] at hw
      have e : slD (.tup ds) l u st3 = some (.tup ds, st3) := by
        show some (D.tup (cutL ds l u), st3) = _
        rw [cut_whole hw]
      rw [e] at h3
      exact h3 H3 ρ3 Gr.refl R3 _ (.tup s1 r4)
    · exact go_newT R3 (r4.cut l u) fun H' ρ' g R' z rz => h3 H' ρ' g R' z rz
  | ro ds =>
    obtain ⟨p, vs, rfl, s1, r4⟩ := r3.ro_inv
    exact .inr (.inr ⟨p, vs, rfl, s1.sq, go_newL R3 (r4.cut l u) fun H' ρ' g R' z rz => h3 H' ρ' g R' z rz⟩)
  | loc n =>
    obtain ⟨p, rfl, hp⟩ := r3.loc_inv
    cases e : rdL st3 n with
    | none =>
      rw [show slD (.loc n) l u st3 = none by show (rdL st3 n).map _ = none; rw [e]; rfl] at h3
      exact h3.elim
    | some ds =>
      rw [show slD (.loc n) l u st3 = some (.loc st3.length, st3 ++ [.lst (cutL ds l u)]) by show (rdL st3 n).map _ = _; rw [e]; rfl] at h3
      obtain ⟨vs, s1, r4⟩ := R3.rd hp e
      exact .inr (.inr ⟨p, vs, rfl, s1, go_newL R3 (r4.cut l u) fun H' ρ' g R' z rz => h3 H' ρ' g R' z rz⟩)
  | _ => exact h3.elim
end
end PM
-- PMmeth
set_option Elab.async false
set_option linter.all false
set_option maxRecDepth 100000
set_option maxHeartbeats 4000000
/-! PM, methods, displays of dicts. -/
namespace PM
open PySem L2
section
variable {X : Cx} {W : WX} {o e : Expr} {es : List Expr} {mo : EM} {t : AM} {name : Str} {apos cpos : Pos} {T id : String}
def mMt (ty : D → Store → Bool) (g : D → List D → Store → Option (D × Store)) (o : EM) (t : AM) : EM := fun env st => (o env st).bind fun x st1 => if ty x st1 = true then (t env st1).bind fun ds st2 => Res.of (g x ds st2) else .stuck
def isLst (x : D) (st : Store) : Bool := match x with
  | .loc n => (rdL st n).isSome
  | _ => false
def isStr (x : D) (_ : Store) : Bool := match x with
  | .str _ => true
  | _ => false
def Mths (X : Cx) (id : String) (T : String) (ty : D → Store → Bool) (g : D → List D → Store → Option (D × Store)) : Prop :=
  (∀ {H : Hp} {ρ : List Addr} {st : Store} {x : D} {v : V}, StOk X.K H ρ st → Rv X.K H ρ v x → ty x st = true → tyV X.K T v H) ∧
  ∃ r, MtR X id r ∧ ∀ {H : Hp} {ρ : List Addr} {st : Store} {x : D} {v : V} {ds : List D} {vs : List V} {d : D} {st' : Store} {Q : VK},
    StOk X.K H ρ st → Rv X.K H ρ v x → Rvs X.K H ρ vs ds → g x ds st = some (d, st') → (∀ H' ρ', Gr X.K H ρ H' ρ' → StOk X.K H' ρ' st' → ∀ z, Rv X.K H' ρ' z d → Q z H') → r v vs H Q
theorem ty_list {H : Hp} {ρ : List Addr} {st : Store} {x : D} {v : V} (R : StOk X.K H ρ st) (h : Rv X.K H ρ v x) (e : isLst x st = true) : tyV X.K "list" v H := by
  unfold isLst at e
  split at e
  · rename_i n
    obtain ⟨a, rfl, ha⟩ := h.loc_inv
    obtain ⟨ds, hd⟩ := Option.isSome_iff_exists.mp e
    obtain ⟨vs, h1, _⟩ := R.rd ha hd
    exact .inl ⟨rfl, vs, h1⟩
  · cases e
theorem ty_str {H : Hp} {ρ : List Addr} {st : Store} {x : D} {v : V} (_ : StOk X.K H ρ st) (h : Rv X.K H ρ v x) (e : isStr x st = true) : tyV X.K "str" v H := by
  unfold isStr at e
  split at e
  · rw [h.str_inv]
    rfl
  · cases e
theorem mt_run {ty : D → Store → Bool} {g : D → List D → Store → Option (D × Store)} {r : V → List V → Hp → VK → Prop} {σ : L2.St} {H : Hp} {Q : VK}
    (h1 : ∀ {H : Hp} {ρ : List Addr} {st : Store} {x : D} {v : V}, StOk X.K H ρ st → Rv X.K H ρ v x → ty x st = true → tyV X.K T v H)
    (h2 : ∀ {H : Hp} {ρ : List Addr} {st : Store} {x : D} {v : V} {ds : List D} {vs : List V} {d : D} {st' : Store} {Q : VK},
    StOk X.K H ρ st → Rv X.K H ρ v x → Rvs X.K H ρ vs ds → g x ds st = some (d, st') → (∀ H' ρ', Gr X.K H ρ H' ρ' → StOk X.K H' ρ' st' → ∀ z, Rv X.K H' ρ' z d → Q z H') → r v vs H Q)
    (h : tE X.K W (mMt ty g mo t) σ H Q) : tBM X.K T r (tE X.K W mo) (tA X.K W t) σ H Q := by
  obtain ⟨env, ρ, st, R, N, h⟩ := h
  refine tE_run R N h fun v x H1 ρ1 st1 g1 R1 N1 r1 h3 => ?_
  by_cases hc : ty x st1 = true
  · rw [if_pos hc] at h3
    refine ⟨h1 R1 r1 hc, tA_run R1 N1 h3 fun vs ds H2 ρ2 st2 g2 R2 N2 r2 h4 => ?_⟩
    cases e : g x ds st2 with
    | none =>
      rw [e] at h4
      exact h4.elim
    | some p =>
      obtain ⟨d, st3⟩ := p
      rw [e] at h4
      exact h2 R2 (r1.gr g2) r2 e fun H' ρ' g3 R3 z rz => h4 H' ρ' g3 R3 z rz
  · rw [if_neg hc] at h3
    exact h3.elim
theorem pm_bm {ty : D → Store → Bool} {g : D → List D → Store → Option (D × Store)} (hm : Mths X id T ty g) (pa : PlainAttrs T) (slot : Slot T name id) (hty : typeOf (.builtin id) = pure (.type "method_descriptor")) (ho : PE X o (tE X.K W mo)) (ha : PA X (e :: es) (tA X.K W t))
    (hbase : attributeBase o name X.env (eval o X.env) = eval o X.env := by rfl)
    (hfew : ((backTo cpos (starEach (e :: es) X.env)).all (fun x => !x.1) && (backToKw cpos (keywordEach [] X.env)).all (fun x => x.1.isSome)
      && decide ((e :: es).length + ([] : List Keyword).length + (if ([] : List Keyword).isEmpty then 0 else 1) < 30)) = true := by rfl)
    (hline : (apos.endLine == cpos.line) = true := by rfl) (hs : starEach (e :: es) X.env = (false, eval e X.env) :: starEach es X.env := by rfl) (hplain : (backTo cpos (starEach es X.env)).any (·.1) = false := by rfl) :
    PE X (.Call (.Attribute o name apos) (e :: es) [] cpos) (tE X.K W (mMt ty g mo t)) := by
  obtain ⟨h1, r, h2, h3⟩ := hm
  exact pe_imp (pe_bm pa slot hty h2 ho ha hbase hfew hline hs hplain) fun σ H Q I h => mt_run h1 h3 h
theorem pm_bm0 {ty : D → Store → Bool} {g : D → List D → Store → Option (D × Store)} (hm : Mths X id T ty g) (pa : PlainAttrs T) (slot : Slot T name id) (hty : typeOf (.builtin id) = pure (.type "method_descriptor")) (ho : PE X o (tE X.K W mo))
    (hbase : attributeBase o name X.env (eval o X.env) = eval o X.env := by rfl) (hline : (apos.endLine == cpos.line) = true := by rfl) : PE X (.Call (.Attribute o name apos) [] [] cpos) (tE X.K W (mMt ty g mo aNil)) := by
  obtain ⟨h1, r, h2, h3⟩ := hm
  refine pe_imp (pe_bm0 pa slot hty h2 ho hbase hline) fun σ H Q I h => ?_
  obtain ⟨env, ρ, st, R, N, h⟩ := h
  refine tE_run R N h fun v x H1 ρ1 st1 g1 R1 N1 r1 h4 => ?_
  by_cases hc : ty x st1 = true
  · rw [if_pos hc] at h4
    refine ⟨h1 R1 r1 hc, ?_⟩
    have h5 : Go X.K (wx X.K W) H1 ρ1 (Res.of (g x [] st1)) fun d H' ρ' _ => ∀ v, Rv X.K H' ρ' v d → Q v H' := h4
    cases e : g x [] st1 with
    | none =>
      rw [e] at h5
      exact h5.elim
    | some p =>
      obtain ⟨d, st3⟩ := p
      rw [e] at h5
      exact h3 R1 r1 .nil e fun H' ρ' g3 R3 z rz => h5 H' ρ' g3 R3 z rz
  · rw [if_neg hc] at h4
    exact h4.elim
/-! ### lists -/
theorem go_set {H : Hp} {ρ : List Addr} {st : Store} {n : Nat} {a : Addr} {ds ds' : List D} {vs vs' : List V} {P : Hp → Prop} (R : StOk X.K H ρ st) (ha : ρ[n]? = some a) (e : wrL st n = some ds) (h : H a = some (.lst vs)) (r : Rvs X.K H ρ vs ds) (r' : Rvs X.K H ρ vs' ds')
    (q : ∀ H' ρ', Gr X.K H ρ H' ρ' → StOk X.K H' ρ' (st.set n (.lst ds')) → P H') : P (upd H a (.lst vs')) :=
  q _ ρ (Gr.set (c := .lst ds) ha h ⟨vs, rfl, r⟩ trivial) (R.set (c := .lst ds) ha h ⟨vs, rfl, r⟩ trivial ⟨vs', rfl, r'⟩)
def appendG (x : D) (as : List D) (st : Store) : Option (D × Store) := match x, as with
  | .loc n, [d] => (wrL st n).bind fun ds => if ds.length < sizeLine then some (.non, st.set n (.lst (ds ++ [d]))) else none
  | _, _ => none
theorem mths_append : Mths X "list.append" "list" isLst appendG := by
  refine ⟨ty_list, rAppend, mt_append, fun {H ρ st x v ds vs d st' Q} R rx r e q => ?_⟩
  unfold appendG at e
  split at e
  · rename_i n d0
    obtain ⟨xs, e1, e⟩ := bind_some e
    obtain ⟨hz, e⟩ := ite_some e
    cases e
    obtain ⟨a, rfl, ha⟩ := rx.loc_inv
    obtain ⟨u, rfl, ru⟩ := r.inv1
    obtain ⟨ws, h1, r1⟩ := R.wr ha e1
    refine ⟨a, ws, u, rfl, rfl, h1, by rw [r1.length]; exact hz, go_set (P := Q .non) R ha e1 h1 r1 (r1.append (Rvs.one ru)) fun H' ρ' g R' => q H' ρ' g R' _ .non⟩
  · cases e
def popG (x : D) (as : List D) (st : Store) : Option (D × Store) := match x, as with
  | .loc n, [] => (wrL st n).bind fun ds => (ds[ds.length - 1]?).map fun d => (d, st.set n (.lst ds.dropLast))
  | _, _ => none
theorem Rvs.dropLast {K : PySem.W.Frag} {H : Hp} {ρ : List Addr} {vs : List V} {ds : List D} (r : Rvs K H ρ vs ds) : Rvs K H ρ vs.dropLast ds.dropLast := by
  rw [List.dropLast_eq_take, List.dropLast_eq_take, r.length]
  exact r.take _
theorem mths_pop : Mths X "list.pop" "list" isLst popG := by
  refine ⟨ty_list, rPop, mt_pop, fun {H ρ st x v ds vs d st' Q} R rx r e q => ?_⟩
  unfold popG at e
  split at e
  · rename_i n
    obtain ⟨xs, e1, e⟩ := bind_some e
    obtain ⟨c, e2, e3⟩ := map_some e
    cases e3
    obtain ⟨a, rfl, ha⟩ := rx.loc_inv
    cases r
    obtain ⟨ws, h1, r1⟩ := R.wr ha e1
    obtain ⟨w, h2, r2⟩ := r1.get e2
    refine ⟨a, ws, w, rfl, rfl, h1, by rw [r1.length]; exact h2, go_set (P := Q w) R ha e1 h1 r1 r1.dropLast fun H' ρ' g R' => q H' ρ' g R' _ (r2.gr g)⟩
  · cases e
def popAtG (x : D) (as : List D) (st : Store) : Option (D × Store) := match x, as with
  | .loc n, [.int i] => (wrL st n).bind fun ds => if -(2 ^ 63) ≤ i ∧ i < 2 ^ 63 then (seqIndex? i ds.length).bind fun k => (ds[k]?).map fun d => (d, st.set n (.lst (ds.eraseIdx k))) else none
  | _, _ => none
theorem mths_popAt : Mths X "list.pop" "list" isLst popAtG := by
  refine ⟨ty_list, rPopAt, mt_popAt, fun {H ρ st x v ds vs d st' Q} R rx r e q => ?_⟩
  unfold popAtG at e
  split at e
  · rename_i n i
    obtain ⟨xs, e1, e⟩ := bind_some e
    obtain ⟨hz, e⟩ := ite_some e
    obtain ⟨k, e2, e⟩ := bind_some e
    obtain ⟨c, e3, e4⟩ := map_some e
    cases e4
    obtain ⟨a, rfl, ha⟩ := rx.loc_inv
    obtain ⟨u, rfl, ru⟩ := r.inv1
    rw [ru.int_inv]
    obtain ⟨ws, h1, r1⟩ := R.wr ha e1
    obtain ⟨w, h2, r2⟩ := r1.get e3
    refine ⟨a, ws, i, k, w, rfl, rfl, h1, hz.1, hz.2, by rw [r1.length]; exact e2, h2, go_set (P := Q w) R ha e1 h1 r1 (r1.eraseIdx k) fun H' ρ' g R' => q H' ρ' g R' _ (r2.gr g)⟩
  · cases e
def extendG (x : D) (as : List D) (st : Store) : Option (D × Store) := match x, as with
  | .loc n, [.loc m] => (wrL st n).bind fun ds => (wrL st m).bind fun es => if ds.length + es.length ≤ sizeLine then some (.non, st.set n (.lst (ds ++ es))) else none
  | _, _ => none
theorem mths_extend : Mths X "list.extend" "list" isLst extendG := by
  refine ⟨ty_list, rExtend, mt_extend, fun {H ρ st x v ds vs d st' Q} R rx r e q => ?_⟩
  unfold extendG at e
  split at e
  · rename_i n m
    obtain ⟨xs, e1, e⟩ := bind_some e
    obtain ⟨ys, e2, e⟩ := bind_some e
    obtain ⟨hz, e⟩ := ite_some e
    cases e
    obtain ⟨a, rfl, ha⟩ := rx.loc_inv
    obtain ⟨u, rfl, ru⟩ := r.inv1
    obtain ⟨b, rfl, hb⟩ := ru.loc_inv
    obtain ⟨ws, h1, r1⟩ := R.wr ha e1
    obtain ⟨zs, h2, r2⟩ := R.wr hb e2
    refine ⟨a, b, ws, zs, rfl, rfl, h1, h2, by rw [r1.length, r2.length]; exact hz, go_set (P := Q .non) R ha e1 h1 r1 (r1.append r2) fun H' ρ' g R' => q H' ρ' g R' _ .non⟩
  · cases e
/-! ### texts -/
def strsOf : List D → Option (List Str)
  | [] => some []
  | .str s :: r => (strsOf r).map fun ss => s :: ss
  | _ => none
theorem Rvs.strs {K : PySem.W.Frag} {H : Hp} {ρ : List Addr} : ∀ {ds : List D} {vs : List V} {ss : List Str}, Rvs K H ρ vs ds → strsOf ds = some ss → vs = ss.map V.str
  | [], _, _, .nil, e => by cases e; rfl
  | .str s :: ds, _, _, .cons h r, e => by
    obtain ⟨ss, e1, rfl⟩ := map_some (show (strsOf ds).map (fun ss => s :: ss) = some _ from e)
    rw [h.str_inv, Rvs.strs r e1]
    rfl
def joinG (x : D) (as : List D) (st : Store) : Option (D × Store) := match x, as with
  | .str a, [d] => (items st d).bind fun ds => (strsOf ds).bind fun ys => if (ys.map (·.length)).sum + ys.length * a.length ≤ 16777216 then some (.str (Txt.join a ys), st) else none
  | _, _ => none
theorem mths_join : Mths X "str.join" "str" isStr joinG := by
  refine ⟨ty_str, _, mt_join, fun {H ρ st x v ds vs d st' Q} R rx r e q => ?_⟩
  unfold joinG at e
  split at e
  · rename_i a d0
    obtain ⟨xs, e1, e⟩ := bind_some e
    obtain ⟨ys, e2, e⟩ := bind_some e
    obtain ⟨hz, e⟩ := ite_some e
    cases e
    obtain ⟨u, rfl, ru⟩ := r.inv1
    obtain ⟨p, ws, rfl, hs, r1⟩ := items_sq R ru e1
    have e3 := r1.strs e2
    subst e3
    rw [rx.str_inv]
    exact ⟨a, p, ys, rfl, rfl, hs, hz, q H ρ Gr.refl R _ (.str _)⟩
  · cases e
/-! ### {k: v, ..} with written text keys -/
def mKs : List (Str × EM) → PM.Env → Store → Res (List (Key × D))
  | [], _, st => .ok [] st
  | (k, m) :: r, env, st => (m env st).bind fun d st1 => (mKs r env st1).bind fun kvs st2 => .ok ((.inr k, d) :: kvs) st2
def mDct (ms : List (Str × EM)) : EM := fun env st => (mKs ms env st).bind fun kvs st1 => if kvs.length ≤ 15 then .ok (.loc st1.length) (st1 ++ [.dct (dMerge [] kvs)]) else .stuck
theorem tPairs_run {σ : L2.St} {β : Type} {P : β → Hp → List Addr → Store → Prop} : ∀ (ms : List (Str × EM)) {H : Hp} {ρ : List Addr} {env : PM.Env} {st : Store} {k : List (Key × D) → Store → Res β} {Q : List (V × V) → Hp → Prop},
    StOk X.K H ρ st → EnvOk X.K H ρ σ env → Go X.K (wx X.K W) H ρ ((mKs ms env st).bind k) P →
    (∀ (kvs : List (Key × D)) (ws : List (Key × V)) H1 ρ1 st1, Gr X.K H ρ H1 ρ1 → StOk X.K H1 ρ1 st1 → ws.map (·.1) = kvs.map (·.1) → Rvs X.K H1 ρ1 (ws.map (·.2)) (kvs.map (·.2)) → Go X.K (wx X.K W) H1 ρ1 (k kvs st1) P → Q (ws.map fun kv => (kV kv.1, kv.2)) H1) →
    tPairs (ms.map fun km => (tC (.str km.1), tE X.K W km.2)) σ H Q
  | [], H, ρ, env, st, k, Q, R, N, h, q => q [] [] H ρ st Gr.refl R rfl .nil h
  | (x, m) :: ms, H, ρ, env, st, k, Q, R, N, h, q => by
    rw [mKs, Res.bind_assoc] at h
    refine tE_run R N h fun v d H1 ρ1 st1 g1 R1 N1 r1 h1 => ?_
    rw [Res.bind_assoc] at h1
    refine tPairs_run ms R1 N1 h1 fun kvs ws H2 ρ2 st2 g2 R2 e2 r2 h2 => ?_
    exact q ((.inr x, d) :: kvs) ((.inr x, v) :: ws) H2 ρ2 st2 (g1.trans g2) R2 (by rw [List.map_cons, List.map_cons, e2]) (.cons (r1.gr g2) r2) h2
theorem pm_dct {keys : List (Option Expr)} {values : List Expr} {pos : Pos} {ms : List (Str × EM)} (h : PPs X pos keys values (ms.map fun km => (tC (.str km.1), tE X.K W km.2))) (hall : keys.all (·.isSome) = true) (hl : keys.length = values.length) (h0 : keys ≠ []) (h15 : keys.length ≤ 15) :
    PE X (.Dict keys values pos) (tE X.K W (mDct ms)) := by
  refine pe_imp (pe_disp h hall hl h0 h15) fun σ H Q I ⟨env, ρ, st, R, N, h⟩ => ?_
  intro p hp
  have g0 : Gr X.K H ρ (upd H p (.dK [])) ρ := Gr.new hp
  have np : p ∉ ρ := R.free hp
  have h' : Go X.K (wx X.K W) H ρ ((mKs ms env st).bind fun kvs st' => Res.ok (kvs, st') st') fun x _ _ _ => mKs ms env st = .ok x.1 x.2 := by
    unfold mDct at h
    cases e : mKs ms env st with
    | ok kvs st' => exact fun _ _ _ _ => rfl
    | exc x ev st' =>
      rw [e] at h
      exact h
    | stuck =>
      rw [e] at h
      exact h
  refine tPairs_run ms (R.new hp) (N.gr g0) (h'.gr g0) fun kvs ws H1 ρ1 st1 g1 R1 e1 r1 h1 => ?_
  have ek : mKs ms env st = .ok kvs st1 := h1 H1 ρ1 Gr.refl R1
  unfold mDct at h
  rw [ek, Res.bind_ok] at h
  have ep : H1 p = some (.dK []) := g1.keep p _ upd_same np
  by_cases hz : kvs.length ≤ 15
  · rw [if_pos hz] at h
    refine ⟨ep, ws, rfl, by rw [← List.length_map (f := (·.1)), e1, List.length_map]; exact hz, ?_⟩
    have np1 : p ∉ ρ1 := g1.out upd_same np
    obtain ⟨m1, m2⟩ := dmerge_of (ws := []) (kvs := []) e1 r1 rfl .nil
    have R2 : StOk X.K H1 (ρ1 ++ [p]) (st1 ++ [.dct []]) := R1.adopt ep np1 ⟨[], rfl, rfl, .nil⟩
    have e2 : (ρ1 ++ [p])[st1.length]? = some p := by rw [← R1.len]; simp
    have lo : ∀ (n : Nat) (a : Addr), ρ1[n]? = some a → (ρ1 ++ [p])[n]? = some a := fun n a z => by
      rw [List.getElem?_append_left (List.getElem?_eq_some_iff.mp z).1]
      exact z
    have c0 : HOOk X.K H1 (ρ1 ++ [p]) (.dK []) (.dct []) := ⟨[], rfl, rfl, .nil⟩
    have c1 : HOOk X.K H1 (ρ1 ++ [p]) (.dK (mergeK [] ws)) (.dct (dMerge [] kvs)) := ⟨_, rfl, m1, m2.mono (fun _ _ z => z) (fun _ _ z => z) lo fun a φ q n => ⟨q, fun z => (List.mem_append.mp z).elim n fun z => by
      rw [List.mem_singleton.mp z, ep] at q
      cases q⟩⟩
    have R3 := R2.set (n := st1.length) e2 ep c0 trivial c1
    rw [show (st1 ++ [Cell.dct []]).set st1.length (.dct (dMerge [] kvs)) = st1 ++ [.dct (dMerge [] kvs)] by simp] at R3
    have gB : Gr X.K H1 (ρ1 ++ [p]) (upd H1 p (.dK (mergeK [] ws))) (ρ1 ++ [p]) := Gr.set e2 ep c0 trivial
    have gC : Gr X.K H ρ (upd H1 p (.dK (mergeK [] ws))) (ρ1 ++ [p]) := by
      refine ⟨fun a xs z => gB.tups a xs (g1.tups a xs (g0.tups a xs z)), fun a xs z => gB.ros a xs (g1.ros a xs (g0.ros a xs z)), fun n a z => lo n a (g1.locs n a z), fun a o z n => ?_, fun a z n => ?_⟩
      · have ne : a ≠ p := ne_of_none z hp
        rw [upd_ne ne]
        exact g1.keep a o (g0.keep a o z n) n
      · rcases List.mem_append.mp z with z | z
        · have q := g1.fresh a z n
          by_cases ne : a = p
          · rw [ne]
            exact hp
          · rw [upd_ne ne] at q
            exact q
        · rw [List.mem_singleton.mp z]
          exact hp
    exact h _ _ gC R3 _ (.loc e2)
  · rw [if_neg hz] at h
    exact h.elim
end
end PM
-- PMiter
set_option Elab.async false
set_option linter.all false
set_option maxRecDepth 100000
set_option maxHeartbeats 4000000
/-! PM, what is walked. -/
namespace PM
open PySem L2 PyProof.Rows
/-! ### enumerate(v) of a tuple, a text -/
set_option maxHeartbeats 4000000 in
theorem meets_enum1 {v : Value} {o : Obj} {H : Heap → Prop} (B : Begins v o H) :
    Meets (Builtin.«enumerate.__new__» ⟨[.type "enumerate", v], []⟩) (fun _ R s => H s.heap ∧
      R (.ok (.ret (.ref (s.heap.push o).objs.size)))
        { s with heap := (s.heap.push o).push { cls := .type "enumerate", data := .fields #[.none, .bool false, .ref s.heap.objs.size, rawInt 0, .none, .none] } }) := by
  refine .of_wp fun prog w A R s ⟨hH, hR⟩ => ?_
  obtain ⟨hp, g, d, tk, os⟩ := s
  have sub := sub_enumerate
  have it : ∀ {A' : Around} {E Q : Value → Shared → Prop}, Q (.ref hp.objs.size) ⟨hp.push o, g, d, tk, os⟩ → wpAny (model prog w) A' (pyIter v) Q E ⟨hp, g, d, tk, os⟩ := fun q => B.iter prog w _ _ ⟨hp, g, d, tk, os⟩ _ hH q
  wp_walk using it
  refine wpAny_stack_any fun st => wpAny_pure ?_
  split
  · rename_i c _ _ _ _ _
    cases (c == Value.type "enumerate") <;> (wp_walk using it; exact ⟨_, rfl, hR⟩)
  · wp_walk using it
    exact ⟨_, rfl, hR⟩
theorem call_enum1 {prog : Program} {w : World} {A : Around} {E : Value → Shared → Prop} {s : Shared} {v : Value} {o : Obj} {H : Heap → Prop} {Q : Value → Shared → Prop} (B : Begins v o H) (hH : H s.heap)
    (h : ∀ h', IsEnum h' (s.heap.objs.size + 1) s.heap.objs.size 0 .none → h'.get? s.heap.objs.size = some o → (∀ b u, s.heap.get? b = some u → h'.get? b = some u) → Q (.ref (s.heap.objs.size + 1)) { s with heap := h' }) :
    wpAny (model prog w) A (call (.type "enumerate") [v]) Q E s := by
  refine callType_new F.called_enumerate (by decide) (F.typeCall_enumerate_1 _) (F.newCall_enumerate_1 _) (fun obj => F.args_object_init_2 obj _) F.entry_enumerate_new (meets_enum1 B) ⟨hH, ?_⟩
  have z : (s.heap.push o).objs.size = s.heap.objs.size + 1 := Heap.size_push ..
  show _ ∧ _
  rw [z]
  have he := Heap.get?_push_size (s.heap.push o) (o := { cls := .type "enumerate", data := .fields #[.none, .bool false, .ref s.heap.objs.size, rawInt 0, .none, .none] }) rfl
  rw [z] at he
  exact ⟨⟨_, he, rfl⟩, h _ he (Heap.get?_push_of_some _ (Heap.get?_push_size _ B.free)) fun b u x => Heap.get?_push_of_some _ (Heap.get?_push_of_some _ x)⟩
/-- the items of a tuple, of a text in new pairs -/
def IteT (K : PySem.W.Frag) (a : Addr) : It :=
  ⟨fun i H => ∃ (xs : List V) (x : V), SqT K H a xs ∧ xs[i]? = some x, fun i H v H' => ∃ T x, v = .ref T ∧ H T = none ∧ H' = upd H T (.tup [.int (i : Nat), x]) ∧ ∀ xs, SqT K H a xs → xs[i]? = some x, fun i H => ∃ xs : List V, SqT K H a xs ∧ xs.length = i⟩
def IteS (z : Str) : It :=
  ⟨fun i _ => i < z.cps.size, fun i H v H' => ∃ T c, v = .ref T ∧ H T = none ∧ z.cps[i]? = some c ∧ H' = upd H T (.tup [.int (i : Nat), .str ⟨#[c]⟩]), fun i _ => z.cps.size = i⟩
/-- behind next of an enumerate object -/
theorem enum_new {X : Cx} {pins : List (Addr × Obj)} {s : Shared} {σ : L2.St} {H : Hp} {e it : Addr} {i : Nat} {x : V} {u : Value} {h' : Heap} {tk : Nat} (I : Inv X pins σ H s) (hf : ∀ b ∈ [e, it], FpOk X pins H b) (he0 : e < s.heap.objs.size) (hi0 : it < s.heap.objs.size) (ru : RelV x u)
    (hT : h'.get? s.heap.objs.size = some { cls := .type "tuple", data := .seq #[.int i tk, u] }) (hk : ∀ b o, b ≠ e → b ≠ it → s.heap.get? b = some o → h'.get? b = some o) {h'' : Heap} (sb : Heap.SameBut e h' h'') :
    Inv X pins σ (upd H s.heap.objs.size (.tup [.int (i : Nat), x])) { s with heap := h'', toks := tk + 1 } ∧ ∀ b ∈ [e, it], upd H s.heap.objs.size (.tup [.int (i : Nat), x]) b = none := by
  have hT2 : h''.get? s.heap.objs.size = some { cls := .type "tuple", data := .seq #[.int i tk, u] } := (sb.2 _ (Nat.ne_of_gt he0)).trans hT
  have new : ObjOk X.prog X.w (upd H s.heap.objs.size (.tup [.int (i : Nat), x])) h'' s.heap.objs.size (.tup [.int (i : Nat), x]) :=
    ⟨by show 2 ≤ sizeLine; decide, [.int i tk, u], .cons ⟨_, rfl⟩ (.cons ru .nil), ⟨_, hT2, rfl, _, rfl⟩⟩
  refine ⟨I.turnedNew (ch := [e, it]) (fun b ob hb q => ?_) hf (Nat.le_refl _) new, fun b hb => ?_⟩
  · have n1 : b ≠ e := fun z => hb (by simp [z])
    have n2 : b ≠ it := fun z => hb (by simp [z])
    exact (sb.2 b n1).trans (hk b ob n1 n2 q)
  · have hlt : b < s.heap.objs.size := by
      have h2 : b = e ∨ b = it := by simpa using hb
      rcases h2 with z | z <;> (rw [z]; assumption)
    rw [upd_ne (Nat.ne_of_lt hlt)]
    exact (hf b hb).1
theorem turn_enumT {P : Program} {w : World} {K : PySem.W.Frag} {elts : List Expr} {kk : Nat} {tpos : Pos} (a e it : Addr) :
    Turn P w K (.Tuple elts kk tpos) (IteT K a) [e, it] e (fun i h => (∃ old, IsEnum h e it ((i : Nat) : Int) old) ∧ h.IsTupleIter it a i ∧ e ≠ it) where
  mem := by simp
  obj := fun i h ⟨⟨old, he⟩, ⟨o, ho, hc, hd⟩, _⟩ b hb => by
    have h2 : b = e ∨ b = it := by simpa using hb
    rcases h2 with z | z
    · subst z
      exact ⟨_, he, fun v q => nomatch q⟩
    · subst z
      exact ⟨o, ho, fun v q => by rw [hd] at q; cases q⟩
  keep := fun i h h' ⟨⟨old, he⟩, hi, hne⟩ k => ⟨⟨old, k e (by simp) _ he⟩, hi.at fun o q => k it (by simp) o q, hne⟩
  item := by
    intro X hP hw hK hc i pins s σ H E I hf ⟨⟨old, he⟩, hit, hne⟩ ⟨xs, x, hq, hx⟩
    subst hP hw hK
    obtain ⟨its, rv, ht, hz⟩ := I.tuple hq
    obtain ⟨u, hu, ru⟩ := rv.get hx
    have hta : a ≠ it := fun z => by
      have h1 := ht
      obtain ⟨o, e1, c1, _⟩ := h1
      obtain ⟨o2, e2, c2, _⟩ := hit
      rw [z, e2] at e1
      cases e1
      rw [c2] at c1
      exact absurd (Value.type.inj c1) (by decide)
    have hea : e ∉ [it, a] := by
      simp only [List.mem_cons, List.not_mem_nil, or_false, not_or]
      refine ⟨hne, fun z => ?_⟩
      obtain ⟨o, e1, c1, _⟩ := ht
      rw [← z, he] at e1
      cases e1
      exact absurd (Value.type.inj c1) (by decide)
    have D := Draws.tuple (prog := X.prog) (w := X.w) (A := X.A.in1) (I.ok.hd hc) it a hta its.toArray
    refine wpAny_pyNext_enum_itemD D he ⟨hit, ht⟩ (by rw [List.size_toArray]; exact (List.getElem?_eq_some_iff.mp hu).1) hne hea fun y h' tk hy ho hst hT hsz hk => ?_
    have ey : y = u := by
      have h1 : its.toArray[i]? = some y := hy
      rw [List.getElem?_toArray, hu] at h1
      exact (Option.some.inj h1).symm
    subst ey
    refine ⟨_, rfl, wpAny_letOwnedTupleGo_enum (s := { s with heap := h', toks := tk + 1 }) ho fun h'' he' sb => ?_⟩
    obtain ⟨I1, nf⟩ := enum_new I hf (Heap.lt_size he) (by obtain ⟨_, q, _⟩ := hit; exact Heap.lt_size q) ru hT hk sb
    refine ⟨.ref s.heap.objs.size, _, I1, rfl, ⟨_, x, rfl, I.hok.fresh (Nat.le_refl _), rfl, fun ys hy => by rw [I.tuple_inj hy hq]; exact hx⟩, ⟨⟨y, ?_⟩, hst.1.at fun o q => (sb.2 it (Ne.symm hne)).trans q, hne⟩, nf⟩
    rw [show ((i + 1 : Nat) : Int) = (i : Int) + 1 by omega]
    exact he'
  done := by
    intro X hP hw hK hc i pins s σ H E I hf ⟨⟨old, he⟩, hit, hne⟩ ⟨xs, hq, hx⟩
    subst hP hw hK
    obtain ⟨its, rv, ht, hz⟩ := I.tuple hq
    obtain ⟨f0, f1, f2, f3, f4, f5⟩ := hf it (by simp)
    have hta : a ≠ it := fun z => by
      obtain ⟨o, e1, c1, _⟩ := ht
      obtain ⟨o2, e2, c2, _⟩ := hit
      rw [z, e2] at e1
      cases e1
      rw [c2] at c1
      exact absurd (Value.type.inj c1) (by decide)
    have D := Draws.tuple (prog := X.prog) (w := X.w) (A := X.A.in1) (I.ok.hd hc) it a hta its.toArray
    have hn : its.toArray.size = i := by rw [List.size_toArray, ← rv.length, hx]
    exact wpAny_pyNext_enum_endD D he (by rw [hn]; exact ⟨hit, ht⟩) fun h' eb => ⟨rfl, I.turned (t' := s.toks) (fun b o hb q => eb b o hb q) f0 f1 f3 f4 f5⟩
  self := fun A i s Q E st h => by
    obtain ⟨⟨_, he⟩, _⟩ := st
    exact wpAny_pyIter_enum he h
end PM
-- PMloop
set_option Elab.async false
set_option linter.all false
set_option maxRecDepth 100000
set_option maxHeartbeats 4000000
/-! PM, what is walked; targets; for. -/
namespace PM
open PySem L2 PyProof.Rows
/-- what is walked: its items; a list must stand as it was -/
structure Wk where
  its : List D
  alive : Option (Nat × Cell)
def Wk.ok (w : Wk) (st : Store) : Bool := match w.alive with
  | none => true
  | some (n, c) => decide (st[n]? = some c)
def ItOk (K : PySem.W.Frag) (J : It) (wk : Wk) (H0 : Hp) (ρ0 : List Addr) : Prop := ∀ H ρ st, Gr K H0 ρ0 H ρ → StOk K H ρ st → wk.ok st = true →
  (∀ i d, wk.its[i]? = some d → J.go i H ∧ ∀ x H', J.yld i H x H' → Gr K H ρ H' ρ ∧ StOk K H' ρ st ∧ Rv K H' ρ x d) ∧ J.stop wk.its.length H
abbrev IM := PM.Env → Store → Res Wk
def tI (K : PySem.W.Frag) (W : WX) (m : IM) : TI := fun σ H R => ∃ env ρ st, StOk K H ρ st ∧ EnvOk K H ρ σ env ∧ Go K (wx K W) H ρ (m env st) fun wk H' ρ' st' => ∀ J, ItOk K J wk H' ρ' → R J H'
section
variable {K : PySem.W.Frag} {W : WX} {H : Hp} {ρ : List Addr} {σ : L2.St} {env : PM.Env} {st : Store} {β : Type} {P : β → Hp → List Addr → Store → Prop}
/-- with what it gives -/
theorem tE_run2 {m : EM} {k : D → Store → Res β} {Q : VK} (R : StOk K H ρ st) (N : EnvOk K H ρ σ env) (h : Go K (wx K W) H ρ ((m env st).bind k) P)
    (hq : ∀ v d H1 ρ1 st1, m env st = .ok d st1 → Gr K H ρ H1 ρ1 → StOk K H1 ρ1 st1 → EnvOk K H1 ρ1 σ env → Rv K H1 ρ1 v d → Go K (wx K W) H1 ρ1 (k d st1) P → Q v H1) : tE K W m σ H Q := by
  refine ⟨env, ρ, st, R, N, ?_⟩
  cases e : m env st with
  | ok d st1 =>
    rw [e] at h
    exact fun H' ρ' g R' v r => hq v d H' ρ' st1 e g R' (N.gr g) r (Go.gr g h)
  | exc x ev st1 =>
    rw [e] at h
    exact h
  | stuck =>
    rw [e] at h
    exact h
theorem tA_run2 {m : AM} {k : List D → Store → Res β} {Q : List V → Hp → Prop} (R : StOk K H ρ st) (N : EnvOk K H ρ σ env) (h : Go K (wx K W) H ρ ((m env st).bind k) P)
    (hq : ∀ vs ds H1 ρ1 st1, m env st = .ok ds st1 → Gr K H ρ H1 ρ1 → StOk K H1 ρ1 st1 → EnvOk K H1 ρ1 σ env → Rvs K H1 ρ1 vs ds → Go K (wx K W) H1 ρ1 (k ds st1) P → Q vs H1) : tA K W m σ H Q := by
  refine ⟨env, ρ, st, R, N, ?_⟩
  cases e : m env st with
  | ok d st1 =>
    rw [e] at h
    exact fun H' ρ' g R' v r => hq v d H' ρ' st1 e g R' (N.gr g) r (Go.gr g h)
  | exc x ev st1 =>
    rw [e] at h
    exact h
  | stuck =>
    rw [e] at h
    exact h
end
section
variable {X : Cx} {W : WX} {tg e : Expr} {m : EM}
theorem pi_or {w1 w2 : TI} (h1 : PI X tg e w1) (h2 : PI X tg e w2) : PI X tg e (fun σ H R => w1 σ H R ∨ w2 σ H R) := ⟨fun pins s σ H R I q => by
  rcases q with q | q
  · exact h1.run pins s σ H R I q
  · exact h2.run pins s σ H R I q⟩
theorem pi_imp {w1 w2 : TI} (h : PI X tg e w1) (i : ∀ (σ : L2.St) (H : Hp) (R : It → Hp → Prop), w2 σ H R → w1 σ H R) : PI X tg e w2 := ⟨fun pins s σ H R I q => h.run pins s σ H R I (i σ H R q)⟩
def chars (z : Str) : List D := z.cps.toList.map fun c => .str ⟨#[c]⟩
/-- a list, a tuple, a text -/
def seqWk (d : D) (st : Store) : Option Wk := match d with
  | .tup ds => some ⟨ds, none⟩
  | .ro ds => some ⟨ds, none⟩
  | .str z => some ⟨chars z, none⟩
  | .loc n => (rdL st n).bind fun ds => (st[n]?).map fun c => ⟨ds, some (n, c)⟩
  | _ => none
def mSeq (m : EM) : IM := fun env st => (m env st).bind fun d st1 => Res.of ((seqWk d st1).map fun w => (w, st1))
theorem rdL_of {st st1 : Store} {n : Nat} {ds : List D} {c : Cell} (h : rdL st n = some ds) (hc : st[n]? = some c) (h1 : st1[n]? = some c) : rdL st1 n = some ds := by
  unfold rdL at h ⊢
  rw [hc] at h
  rw [h1]
  exact h
theorem itOk_list {H : Hp} {ρ : List Addr} {st : Store} {n : Nat} {a : Addr} {ds : List D} {c : Cell} (ha : ρ[n]? = some a) (e : rdL st n = some ds) (hc : st[n]? = some c) : ItOk X.K (Itl X.K a) ⟨ds, some (n, c)⟩ H ρ := by
  intro H1 ρ1 st1 g R k
  have hc1 : st1[n]? = some c := of_decide_eq_true k
  obtain ⟨vs, hs, r⟩ := R.rd (g.locs n a ha) (rdL_of e hc hc1)
  refine ⟨fun i d hd => ?_, vs, hs, by rw [r.length]; exact Nat.le_refl _⟩
  obtain ⟨v, hv, rv⟩ := r.get hd
  refine ⟨⟨vs, v, hs, hv⟩, fun x H' y => ?_⟩
  obtain ⟨rfl, y⟩ := y
  have ex : x = v := Option.some.inj ((y vs hs).symm.trans hv)
  rw [ex]
  exact ⟨Gr.refl, R, rv⟩
theorem itOk_tup {H : Hp} {ρ : List Addr} {a : Addr} {ds : List D} {vs : List V} (hs : SqT X.K H a vs) (r : Rvs X.K H ρ vs ds) : ItOk X.K (Itt X.K a) ⟨ds, none⟩ H ρ := by
  intro H1 ρ1 st1 g R k
  have hs1 := g.tups a vs hs
  have r1 := r.gr g
  refine ⟨fun i d hd => ?_, vs, hs1, by rw [r.length]; exact Nat.le_refl _⟩
  obtain ⟨v, hv, rv⟩ := r1.get hd
  refine ⟨⟨vs, v, hs1, hv⟩, fun x H' y => ?_⟩
  obtain ⟨rfl, y⟩ := y
  have ex : x = v := Option.some.inj ((y vs hs1).symm.trans hv)
  rw [ex]
  exact ⟨Gr.refl, R, rv⟩
theorem itOk_ro {H : Hp} {ρ : List Addr} {a : Addr} {ds : List D} {vs : List V} (hs : SqR X.K H a vs) (r : Rvs X.K H ρ vs ds) : ItOk X.K (Itl X.K a) ⟨ds, none⟩ H ρ := by
  intro H1 ρ1 st1 g R k
  have hs1 := (g.ros a vs hs).sq
  have r1 := r.gr g
  refine ⟨fun i d hd => ?_, vs, hs1, by rw [r1.length]; exact Nat.le_refl _⟩
  obtain ⟨v, hv, rv⟩ := r1.get hd
  refine ⟨⟨vs, v, hs1, hv⟩, fun x H' y => ?_⟩
  obtain ⟨rfl, y⟩ := y
  have ex : x = v := Option.some.inj ((y vs hs1).symm.trans hv)
  rw [ex]
  exact ⟨Gr.refl, R, rv⟩
theorem itOk_str {H : Hp} {ρ : List Addr} (z : Str) : ItOk X.K (Its z) ⟨chars z, none⟩ H ρ := by
  intro H1 ρ1 st1 g R k
  have el : (chars z).length = z.cps.size := by unfold chars; simp
  refine ⟨fun i d hd => ?_, ?_⟩
  · unfold chars at hd
    rw [List.getElem?_map] at hd
    obtain ⟨c, hc, rfl⟩ := map_some hd
    have hc1 : z.cps[i]? = some c := by simpa using hc
    have hi : i < z.cps.size := (Array.getElem?_eq_some_iff.mp hc1).1
    refine ⟨hi, fun x H' y => ?_⟩
    obtain ⟨rfl, c', hc', rfl⟩ := y
    rw [hc1] at hc'
    cases hc'
    exact ⟨Gr.refl, R, .str _⟩
  · show z.cps.size ≤ (chars z).length
    rw [el]
    exact Nat.le_refl _
theorem pmi_seq (he : PE X e (tE X.K W m)) : PI X tg e (tI X.K W (mSeq m)) := by
  refine pi_imp (pi_or (pi_list he) (pi_or (pi_tup he) (pi_str he))) fun σ H Q ⟨env, ρ, st, R, N, h⟩ => ?_
  have h0 := h
  unfold mSeq at h0
  cases e1 : m env st with
  | stuck =>
    rw [e1] at h0
    exact h0.elim
  | exc x ev s1 =>
    rw [e1] at h0
    exact .inl ⟨env, ρ, st, R, N, by rw [e1]; exact h0⟩
  | ok d st1 =>
    rw [e1, Res.bind_ok] at h0
    have key : ∀ {v d' H1 ρ1 st1'}, m env st = .ok d' st1' → Gr X.K H ρ H1 ρ1 → StOk X.K H1 ρ1 st1' → Rv X.K H1 ρ1 v d' → d' = d ∧ st1' = st1 := fun {v d' H1 ρ1 st1'} he _ _ _ => by
      rw [e1] at he
      cases he
      exact ⟨rfl, rfl⟩
    cases d with
    | loc n =>
      refine .inl (tE_run2 R N h fun v d' H1 ρ1 st1' he g1 R1 N1 r1 h1 => ?_)
      obtain ⟨rfl, rfl⟩ := key he g1 R1 r1
      obtain ⟨a, rfl, ha⟩ := r1.loc_inv
      cases e2 : rdL st1' n with
      | none =>
        rw [show seqWk (.loc n) st1' = none by show (rdL st1' n).bind _ = none; rw [e2]; rfl] at h0
        exact h0.elim
      | some ds =>
        cases e3 : st1'[n]? with
        | none =>
          unfold rdL at e2
          rw [e3] at e2
          cases e2
        | some c =>
          rw [show seqWk (.loc n) st1' = some ⟨ds, some (n, c)⟩ by show (rdL st1' n).bind _ = _; rw [e2]; show (st1'[n]?).map _ = _; rw [e3]; rfl] at h0
          obtain ⟨vs, hs, _⟩ := R1.rd ha e2
          exact ⟨a, rfl, ⟨vs, hs⟩, h0 H1 ρ1 g1 R1 _ (itOk_list ha e2 e3)⟩
    | tup ds =>
      refine .inr (.inl (tE_run2 R N h fun v d' H1 ρ1 st1' he g1 R1 N1 r1 h1 => ?_))
      obtain ⟨rfl, rfl⟩ := key he g1 R1 r1
      obtain ⟨a, vs, rfl, hs, r2⟩ := r1.tup_inv
      exact ⟨a, rfl, ⟨vs, hs⟩, h0 H1 ρ1 g1 R1 _ (itOk_tup hs r2)⟩
    | ro ds =>
      refine .inl (tE_run2 R N h fun v d' H1 ρ1 st1' he g1 R1 N1 r1 h1 => ?_)
      obtain ⟨rfl, rfl⟩ := key he g1 R1 r1
      obtain ⟨a, vs, rfl, hs, r2⟩ := r1.ro_inv
      exact ⟨a, rfl, ⟨vs, hs.sq⟩, h0 H1 ρ1 g1 R1 _ (itOk_ro hs r2)⟩
    | str z =>
      refine .inr (.inr (tE_run2 R N h fun v d' H1 ρ1 st1' he g1 R1 N1 r1 h1 => ?_))
      obtain ⟨rfl, rfl⟩ := key he g1 R1 r1
      exact ⟨z, r1.str_inv, h0 H1 ρ1 g1 R1 _ (itOk_str z)⟩
    | _ => exact h0.elim
/-! ### range -/
def rngs (lo c : Int) (n : Nat) : List D := (List.range n).map fun i : Nat => .int (lo + (i : Int) * c)
theorem rngs_get {lo c : Int} {n i : Nat} {d : D} (h : (rngs lo c n)[i]? = some d) : i < n ∧ d = .int (lo + (i : Int) * c) := by
  unfold rngs at h
  rw [List.getElem?_map] at h
  obtain ⟨j, hj, rfl⟩ := map_some h
  obtain ⟨h1, h2⟩ := List.getElem?_eq_some_iff.mp hj
  rw [List.getElem_range] at h2
  subst h2
  rw [List.length_range] at h1
  exact ⟨h1, rfl⟩
theorem rngs_len {lo c : Int} {n : Nat} : (rngs lo c n).length = n := by
  unfold rngs
  simp
def rngOk (i j : Int) : Bool := decide (-(2 ^ 62) ≤ i ∧ i < 2 ^ 62 ∧ -(2 ^ 62) ≤ j ∧ j < 2 ^ 62)
def rngWk : List D → Option Wk
  | [.int j] => if rngOk 0 j = true then some ⟨rngs 0 1 j.toNat, none⟩ else none
  | [.int i, .int j] => if rngOk i j = true then some ⟨rngs i 1 (j - i).toNat, none⟩ else none
  | [.int i, .int j, .int c] => if c ≠ 0 ∧ c.natAbs < 1073741824 ∧ Builtin.Range.small i j c = true ∧ 0 ≤ Builtin.Range.rangeSize i j c then some ⟨rngs i c (Builtin.Range.rangeSize i j c).toNat, none⟩ else none
  | _ => none
def mRng (t : AM) : IM := fun env st => (t env st).bind fun ds st1 => Res.of ((rngWk ds).map fun w => (w, st1))
theorem itOk_rng {H : Hp} {ρ : List Addr} (lo : Int) (n : Nat) : ItOk X.K (Itr lo n) ⟨rngs lo 1 n, none⟩ H ρ := by
  intro H1 ρ1 st1 g R k
  refine ⟨fun i d hd => ?_, ?_⟩
  · obtain ⟨hi, rfl⟩ := rngs_get hd
    refine ⟨hi, fun x H' y => ?_⟩
    obtain ⟨rfl, rfl⟩ := y
    rw [Int.mul_one]
    exact ⟨Gr.refl, R, .int _⟩
  · show n ≤ (rngs lo 1 n).length
    rw [rngs_len]
    exact Nat.le_refl _
theorem itOk_rngC {H : Hp} {ρ : List Addr} (lo c : Int) (n : Nat) : ItOk X.K (Itc lo c n) ⟨rngs lo c n, none⟩ H ρ := by
  intro H1 ρ1 st1 g R k
  refine ⟨fun i d hd => ?_, ?_⟩
  · obtain ⟨hi, rfl⟩ := rngs_get hd
    refine ⟨hi, fun x H' y => ?_⟩
    obtain ⟨rfl, rfl⟩ := y
    exact ⟨Gr.refl, R, .int _⟩
  · show n ≤ (rngs lo c n).length
    rw [rngs_len]
    exact Nat.le_refl _
theorem pmi_range1 {a : Expr} {t : AM} {p pos : Pos} (hg : Gl X "range") (hm : X.mg "range" = none) (ha : PA X [a] (tA X.K W t)) (hs : starEach [a] X.env = [(false, eval a X.env)] := by rfl)
    (h1 : ∀ env st ds st1, t env st = .ok ds st1 → ds.length = 1) : PI X tg (.Call (.Name "range" p) [a] [] pos) (tI X.K W (mRng t)) := by
  refine pi_imp (pi_range1 hg hm ha hs) fun σ H Q ⟨env, ρ, st, R, N, h⟩ => ?_
  refine tA_run2 R N h fun vs ds H1 ρ1 st1 he g1 R1 N1 r1 h2 => ?_
  have hl := h1 _ _ _ _ he
  unfold rngWk at h2
  split at h2
  · rename_i j
    by_cases hz : rngOk 0 j = true
    · rw [if_pos hz] at h2
      obtain ⟨v, rfl, rv⟩ := r1.inv1
      have z := of_decide_eq_true hz
      exact ⟨j, by rw [rv.int_inv], z.2.2.1, z.2.2.2, h2 H1 ρ1 Gr.refl R1 _ (itOk_rng 0 _)⟩
    · rw [if_neg hz] at h2
      exact h2.elim
  · simp at hl
  · simp at hl
  · exact h2.elim
theorem pmi_range2 {a b : Expr} {t : AM} {p pos : Pos} (hg : Gl X "range") (hm : X.mg "range" = none) (ha : PA X [a, b] (tA X.K W t)) (hs : starEach [a, b] X.env = [(false, eval a X.env), (false, eval b X.env)] := by rfl) (hs2 : starEach [b] X.env = [(false, eval b X.env)] := by rfl)
    (h1 : ∀ env st ds st1, t env st = .ok ds st1 → ds.length = 2) : PI X tg (.Call (.Name "range" p) [a, b] [] pos) (tI X.K W (mRng t)) := by
  refine pi_imp (pi_range2 hg hm ha hs hs2) fun σ H Q ⟨env, ρ, st, R, N, h⟩ => ?_
  refine tA_run2 R N h fun vs ds H1 ρ1 st1 he g1 R1 N1 r1 h2 => ?_
  have hl := h1 _ _ _ _ he
  unfold rngWk at h2
  split at h2
  · simp at hl
  · rename_i i j
    by_cases hz : rngOk i j = true
    · rw [if_pos hz] at h2
      obtain ⟨v, u, rfl, rv, ru⟩ := r1.inv2
      exact ⟨i, j, by rw [rv.int_inv, ru.int_inv], of_decide_eq_true hz, h2 H1 ρ1 Gr.refl R1 _ (itOk_rng i _)⟩
    · rw [if_neg hz] at h2
      exact h2.elim
  · simp at hl
  · exact h2.elim
theorem Rvs.inv3 {K : PySem.W.Frag} {H : Hp} {ρ : List Addr} {vs : List V} {d e f : D} (r : Rvs K H ρ vs [d, e, f]) : ∃ v u w, vs = [v, u, w] ∧ Rv K H ρ v d ∧ Rv K H ρ u e ∧ Rv K H ρ w f := by
  cases r with
  | cons h r =>
    obtain ⟨u, w, rfl, h2, h3⟩ := r.inv2
    exact ⟨_, _, _, rfl, h, h2, h3⟩
theorem pmi_range3 {a b c : Expr} {t : AM} {p pos : Pos} (hg : Gl X "range") (hm : X.mg "range" = none) (ha : PA X [a, b, c] (tA X.K W t))
    (hs : starEach [a, b, c] X.env = (false, eval a X.env) :: starEach [b, c] X.env := by rfl) (hpl : (backTo pos (starEach [b, c] X.env)).any (·.1) = false := by rfl)
    (h1 : ∀ env st ds st1, t env st = .ok ds st1 → ds.length = 3) : PI X tg (.Call (.Name "range" p) [a, b, c] [] pos) (tI X.K W (mRng t)) := by
  refine pi_imp (pi_range3 hg hm ha hs hpl) fun σ H Q ⟨env, ρ, st, R, N, h⟩ => ?_
  refine tA_run2 R N h fun vs ds H1 ρ1 st1 he g1 R1 N1 r1 h2 => ?_
  have hl := h1 _ _ _ _ he
  unfold rngWk at h2
  split at h2
  · simp at hl
  · simp at hl
  · rename_i i j c
    by_cases hz : c ≠ 0 ∧ c.natAbs < 1073741824 ∧ Builtin.Range.small i j c = true ∧ 0 ≤ Builtin.Range.rangeSize i j c
    · rw [if_pos hz] at h2
      obtain ⟨v, u, w, rfl, rv, ru, rw'⟩ := r1.inv3
      exact ⟨i, j, c, _, by rw [rv.int_inv, ru.int_inv, rw'.int_inv], ⟨hz.1, hz.2.1, hz.2.2.1, (Int.toNat_of_nonneg hz.2.2.2).symm⟩, h2 H1 ρ1 Gr.refl R1 _ (itOk_rngC i c _)⟩
    · rw [if_neg hz] at h2
      exact h2.elim
  · exact h2.elim
theorem a_len {m : EM} {r : AM} {k : Nat} (h : ∀ env st ds st1, r env st = .ok ds st1 → ds.length = k) : ∀ env st ds st1, aCons m r env st = .ok ds st1 → ds.length = k + 1 := fun env st ds st1 e => by
  unfold aCons at e
  cases e1 : m env st with
  | ok d s1 =>
    rw [e1, Res.bind_ok] at e
    cases e2 : r env s1 with
    | ok ds' s2 =>
      rw [e2, Res.bind_ok] at e
      cases e
      rw [List.length_cons, h _ _ _ _ e2]
    | exc x ev s2 =>
      rw [e2] at e
      cases e
    | stuck =>
      rw [e2] at e
      cases e
  | exc x ev s2 =>
    rw [e1] at e
    cases e
  | stuck =>
    rw [e1] at e
    cases e
theorem a_len0 : ∀ env st ds st1, aNil env st = .ok ds st1 → ds.length = 0 := fun env st ds st1 e => by
  cases e
  rfl
end
end PM
-- PMenum
set_option Elab.async false
set_option linter.all false
set_option maxRecDepth 100000
set_option maxHeartbeats 4000000
/-! PM, enumerate, zip. -/
namespace PM
open PySem L2 PyProof.Rows
theorem turn_enumS {P : Program} {w : World} {K : PySem.W.Frag} {elts : List Expr} {kk : Nat} {tpos : Pos} (z : Str) (t : Tok) (e it : Addr) :
    Turn P w K (.Tuple elts kk tpos) (IteS z) [e, it] e (fun i h => (∃ old, IsEnum h e it ((i : Nat) : Int) old) ∧ h.IsStrIter it (strIterType z) z t i ∧ e ≠ it) where
  mem := by simp
  obj := fun i h ⟨⟨old, he⟩, ⟨o, ho, hc, hd⟩, _⟩ b hb => by
    have h2 : b = e ∨ b = it := by simpa using hb
    rcases h2 with z | z
    · subst z
      exact ⟨_, he, fun v q => nomatch q⟩
    · subst z
      exact ⟨o, ho, fun v q => by rw [hd] at q; cases q⟩
  keep := fun i h h' ⟨⟨old, he⟩, ⟨o, ho, r⟩, hne⟩ k => ⟨⟨old, k e (by simp) _ he⟩, ⟨o, k it (by simp) o ho, r⟩, hne⟩
  item := by
    intro X hP hw hK hc i pins s σ H E I hf ⟨⟨old, he⟩, hit, hne⟩ hi
    subst hP hw hK
    have hea : e ∉ [it] := by simpa using hne
    have D := Draws.text (prog := X.prog) (w := X.w) (A := X.A.in1) (I.ok.hd hc) it z t
    refine wpAny_pyNext_enum_itemD D he hit hi hne hea fun y h' tk hy ho hst hT hsz hk => ?_
    obtain ⟨c, u, hcz, rfl⟩ := hy
    refine ⟨_, rfl, wpAny_letOwnedTupleGo_enum (s := { s with heap := h', toks := tk + 1 }) ho fun h'' he' sb => ?_⟩
    obtain ⟨I1, nf⟩ := enum_new (x := .str ⟨#[c]⟩) I hf (Heap.lt_size he) (by obtain ⟨_, q, _⟩ := hit; exact Heap.lt_size q) ⟨u, rfl⟩ hT hk sb
    refine ⟨.ref s.heap.objs.size, _, I1, rfl, ⟨_, c, rfl, I.hok.fresh (Nat.le_refl _), hcz, rfl⟩, ⟨⟨Value.str ⟨#[c]⟩ u, ?_⟩, ?_, hne⟩, nf⟩
    · rw [show ((i + 1 : Nat) : Int) = (i : Int) + 1 by omega]
      exact he'
    · obtain ⟨o, ho2, r⟩ := hst
      exact ⟨o, (sb.2 it (Ne.symm hne)).trans ho2, r⟩
  done := by
    intro X hP hw hK hc i pins s σ H E I hf ⟨⟨old, he⟩, hit, hne⟩ hx
    subst hP hw hK
    obtain ⟨f0, f1, f2, f3, f4, f5⟩ := hf it (by simp)
    have D := Draws.text (prog := X.prog) (w := X.w) (A := X.A.in1) (I.ok.hd hc) it z t
    have hn : z.cps.size = i := hx
    exact wpAny_pyNext_enum_endD D he (by rw [hn]; exact hit) fun h' eb => ⟨rfl, I.turned (t' := s.toks) (fun b o hb q => eb b o hb q) f0 f1 f3 f4 f5⟩
  self := fun A i s Q E st h => by
    obtain ⟨⟨_, he⟩, _⟩ := st
    exact wpAny_pyIter_enum he h
section
variable {X : Cx} {W : WX} {e : Expr} {p pos tpos : Pos} {elts : List Expr} {kk : Nat}
theorem two_new {X : Cx} {pins : List (Addr × Obj)} {σ : L2.St} {H : Hp} {s : Shared} (I : Inv X pins σ H s) : ∀ b ∈ [s.heap.objs.size + 1, s.heap.objs.size], FpOk X pins H b := fun b hb => by
  have hle : s.heap.objs.size ≤ b := by
    have e' : b = s.heap.objs.size + 1 ∨ b = s.heap.objs.size := by simpa using hb
    omega
  exact I.fpOk hle (I.hok.fresh hle)
theorem pi_enumT {ta : TA} (hg : Gl X "enumerate") (hm : X.mg "enumerate" = none) (ha : PA X [e] ta) (hs : starEach [e] X.env = [(false, eval e X.env)] := by rfl) :
    PI X (.Tuple elts kk tpos) (.Call (.Name "enumerate" p) [e] [] pos) (fun σ H R => ta σ H fun vs H1 => ∃ a xs, vs = [V.ref a] ∧ SqT X.K H1 a xs ∧ R (IteT X.K a) H1) := by
  refine ⟨fun pins s σ H R I h => ?_⟩
  refine Call_ (ld_blt I hg hm boot_enumerate (PyProof.Rows.callWith_type1 (thn (ha.run pos pins s σ H _ I h) fun us s1 ⟨vs, H1, I1, r1, q1⟩ => ?_) hs rfl))
  obtain ⟨a, xs, rfl, hq, q⟩ := q1
  obtain ⟨u, rfl, ru⟩ := vals1 r1
  obtain rfl : u = Value.ref a := ru
  obtain ⟨its, rv, ht, hz⟩ := I1.tuple hq
  refine call_enum1 (begins_tuple a its.toArray) ht fun h' he hit hk => wpAny_pyIter_enum he ?_
  have I2 : Inv X pins σ H1 { s1 with heap := h' } := I1.kept (t' := s1.toks) hk
  exact ⟨_, _, _, _, H1, rfl, I2, turn_enumT a (s1.heap.objs.size + 1) s1.heap.objs.size, ⟨⟨.none, he⟩, ⟨_, hit, rfl, rfl⟩, Nat.succ_ne_self _⟩, two_new I1, q⟩
theorem pi_enumS {ta : TA} (hg : Gl X "enumerate") (hm : X.mg "enumerate" = none) (ha : PA X [e] ta) (hs : starEach [e] X.env = [(false, eval e X.env)] := by rfl) :
    PI X (.Tuple elts kk tpos) (.Call (.Name "enumerate" p) [e] [] pos) (fun σ H R => ta σ H fun vs H1 => ∃ z, vs = [V.str z] ∧ R (IteS z) H1) := by
  refine ⟨fun pins s σ H R I h => ?_⟩
  refine Call_ (ld_blt I hg hm boot_enumerate (PyProof.Rows.callWith_type1 (thn (ha.run pos pins s σ H _ I h) fun us s1 ⟨vs, H1, I1, r1, q1⟩ => ?_) hs rfl))
  obtain ⟨z, rfl, q⟩ := q1
  obtain ⟨u, rfl, ru⟩ := vals1 r1
  obtain ⟨t, rfl⟩ := ru
  refine call_enum1 (begins_text z t) trivial fun h' he hit hk => wpAny_pyIter_enum he ?_
  have I2 : Inv X pins σ H1 { s1 with heap := h' } := I1.kept (t' := s1.toks) hk
  exact ⟨_, _, _, _, H1, rfl, I2, turn_enumS z t (s1.heap.objs.size + 1) s1.heap.objs.size, ⟨⟨.none, he⟩, ⟨_, hit, rfl, rfl⟩, Nat.succ_ne_self _⟩, two_new I1, q⟩
/-! ### the same by data -/
def enumL : Nat → List D → List D
  | _, [] => []
  | k, d :: ds => .tup [.int (k : Nat), d] :: enumL (k + 1) ds
theorem enumL_get : ∀ {ds : List D} {k i : Nat} {d : D}, (enumL k ds)[i]? = some d → ∃ c, ds[i]? = some c ∧ d = .tup [.int ((k + i : Nat) : Int), c]
  | [], _, _, _, h => by cases h
  | x :: ds, k, 0, d, h => by
    cases h
    exact ⟨x, rfl, rfl⟩
  | x :: ds, k, i + 1, d, h => by
    obtain ⟨c, h1, h2⟩ := enumL_get (ds := ds) (k := k + 1) (i := i) (d := d) (by simpa [enumL] using h)
    exact ⟨c, by simpa using h1, by rw [h2, show k + 1 + i = k + (i + 1) by omega]⟩
theorem enumL_len : ∀ (ds : List D) (k : Nat), (enumL k ds).length = ds.length
  | [], _ => rfl
  | x :: ds, k => by rw [enumL, List.length_cons, List.length_cons, enumL_len ds]
def enumWk (st : Store) : List D → Option Wk
  | [d] => (seqWk d st).map fun w => ⟨enumL 0 w.its, w.alive⟩
  | _ => none
def mEnum (t : AM) : IM := fun env st => (t env st).bind fun ds st1 => Res.of ((enumWk st1 ds).map fun w => (w, st1))
theorem new_pair {K : PySem.W.Frag} {H : Hp} {ρ : List Addr} {st : Store} {T : Addr} {x y : V} {c d : D} (R : StOk K H ρ st) (hT : H T = none) (rx : Rv K H ρ x c) (ry : Rv K H ρ y d) :
    Gr K H ρ (upd H T (.tup [x, y])) ρ ∧ StOk K (upd H T (.tup [x, y])) ρ st ∧ Rv K (upd H T (.tup [x, y])) ρ (.ref T) (.tup [c, d]) :=
  ⟨Gr.new hT, R.new hT, .tup (SqT.of upd_same) (.cons (rx.gr (Gr.new hT)) (.cons (ry.gr (Gr.new hT)) .nil))⟩
theorem pmi_enum {t : AM} (hg : Gl X "enumerate") (hm : X.mg "enumerate" = none) (ha : PA X [e] (tA X.K W t)) (hs : starEach [e] X.env = [(false, eval e X.env)] := by rfl) :
    PI X (.Tuple elts kk tpos) (.Call (.Name "enumerate" p) [e] [] pos) (tI X.K W (mEnum t)) := by
  refine pi_imp (pi_or (pi_enum hg hm ha hs) (pi_or (pi_enumT hg hm ha hs) (pi_enumS hg hm ha hs))) fun σ H Q ⟨env, ρ, st, R, N, h⟩ => ?_
  have h0 := h
  unfold mEnum at h0
  cases e1 : t env st with
  | stuck =>
    rw [e1] at h0
    exact h0.elim
  | exc x ev s1 =>
    rw [e1] at h0
    exact .inl ⟨env, ρ, st, R, N, by rw [e1]; exact h0⟩
  | ok ds st1 =>
    rw [e1, Res.bind_ok] at h0
    have key : ∀ {ds' st1'}, t env st = .ok ds' st1' → ds' = ds ∧ st1' = st1 := fun {ds' st1'} he => by
      rw [e1] at he
      cases he
      exact ⟨rfl, rfl⟩
    unfold enumWk at h0
    split at h0
    · rename_i d
      cases d with
      | loc n =>
        refine .inl (tA_run2 R N h fun vs ds' H1 ρ1 st1' he g1 R1 N1 r1 h1 => ?_)
        obtain ⟨rfl, rfl⟩ := key he
        obtain ⟨v, rfl, rv⟩ := r1.inv1
        obtain ⟨a, rfl, ha⟩ := rv.loc_inv
        cases e2 : rdL st1' n with
        | none =>
          rw [show seqWk (.loc n) st1' = none by show (rdL st1' n).bind _ = none; rw [e2]; rfl] at h0
          exact h0.elim
        | some xs =>
          cases e3 : st1'[n]? with
          | none =>
            unfold rdL at e2
            rw [e3] at e2
            cases e2
          | some c =>
            rw [show seqWk (.loc n) st1' = some ⟨xs, some (n, c)⟩ by show (rdL st1' n).bind _ = _; rw [e2]; show (st1'[n]?).map _ = _; rw [e3]; rfl] at h0
            obtain ⟨ws, hs, _⟩ := R1.rd ha e2
            refine ⟨a, ws, rfl, hs, h0 H1 ρ1 g1 R1 _ fun H2 ρ2 st2 g2 R2 k => ?_⟩
            have hc1 : st2[n]? = some c := of_decide_eq_true k
            obtain ⟨us, hs2, r2⟩ := R2.rd (g2.locs n a ha) (rdL_of e2 e3 hc1)
            refine ⟨fun i d hd => ?_, us, hs2, by rw [r2.length, enumL_len]; exact Nat.le_refl _⟩
            obtain ⟨c', hc', rfl⟩ := enumL_get hd
            obtain ⟨v, hv, rv'⟩ := r2.get hc'
            refine ⟨⟨us, v, hs2, hv⟩, fun x H' y => ?_⟩
            obtain ⟨T, x', rfl, hT, rfl, y⟩ := y
            have ex : x' = v := Option.some.inj ((y us hs2).symm.trans hv)
            rw [ex, Nat.zero_add]
            exact new_pair R2 hT (.int _) rv'
      | tup xs =>
        refine .inr (.inl (tA_run2 R N h fun vs ds' H1 ρ1 st1' he g1 R1 N1 r1 h1 => ?_))
        obtain ⟨rfl, rfl⟩ := key he
        obtain ⟨v, rfl, rv⟩ := r1.inv1
        obtain ⟨a, us, rfl, hs, r2⟩ := rv.tup_inv
        refine ⟨a, us, rfl, hs, h0 H1 ρ1 g1 R1 _ fun H2 ρ2 st2 g2 R2 k => ?_⟩
        have hs2 := g2.tups a us hs
        have r3 := r2.gr g2
        refine ⟨fun i d hd => ?_, us, hs2, by rw [r3.length, enumL_len]⟩
        obtain ⟨c', hc', rfl⟩ := enumL_get hd
        obtain ⟨v, hv, rv'⟩ := r3.get hc'
        refine ⟨⟨us, v, hs2, hv⟩, fun x H' y => ?_⟩
        obtain ⟨T, x', rfl, hT, rfl, y⟩ := y
        have ex : x' = v := Option.some.inj ((y us hs2).symm.trans hv)
        rw [ex, Nat.zero_add]
        exact new_pair R2 hT (.int _) rv'
      | ro xs =>
        refine .inl (tA_run2 R N h fun vs ds' H1 ρ1 st1' he g1 R1 N1 r1 h1 => ?_)
        obtain ⟨rfl, rfl⟩ := key he
        obtain ⟨v, rfl, rv⟩ := r1.inv1
        obtain ⟨a, us, rfl, hs, r2⟩ := rv.ro_inv
        refine ⟨a, us, rfl, hs.sq, h0 H1 ρ1 g1 R1 _ fun H2 ρ2 st2 g2 R2 k => ?_⟩
        have hs2 := (g2.ros a us hs).sq
        have r3 := r2.gr g2
        refine ⟨fun i d hd => ?_, us, hs2, by rw [r3.length, enumL_len]; exact Nat.le_refl _⟩
        obtain ⟨c', hc', rfl⟩ := enumL_get hd
        obtain ⟨v, hv, rv'⟩ := r3.get hc'
        refine ⟨⟨us, v, hs2, hv⟩, fun x H' y => ?_⟩
        obtain ⟨T, x', rfl, hT, rfl, y⟩ := y
        have ex : x' = v := Option.some.inj ((y us hs2).symm.trans hv)
        rw [ex, Nat.zero_add]
        exact new_pair R2 hT (.int _) rv'
      | str z =>
        refine .inr (.inr (tA_run2 R N h fun vs ds' H1 ρ1 st1' he g1 R1 N1 r1 h1 => ?_))
        obtain ⟨rfl, rfl⟩ := key he
        obtain ⟨v, rfl, rv⟩ := r1.inv1
        refine ⟨z, by rw [rv.str_inv], h0 H1 ρ1 g1 R1 _ fun H2 ρ2 st2 g2 R2 k => ?_⟩
        have el : (chars z).length = z.cps.size := by unfold chars; simp
        refine ⟨fun i d hd => ?_, ?_⟩
        · obtain ⟨c', hc', rfl⟩ := enumL_get hd
          unfold chars at hc'
          rw [List.getElem?_map] at hc'
          obtain ⟨c, hc, rfl⟩ := map_some hc'
          have hc1 : z.cps[i]? = some c := by simpa using hc
          refine ⟨(Array.getElem?_eq_some_iff.mp hc1).1, fun x H' y => ?_⟩
          obtain ⟨T, c2, rfl, hT, hc2, rfl⟩ := y
          rw [hc1] at hc2
          cases hc2
          rw [Nat.zero_add]
          exact new_pair R2 hT (.int _) (.str _)
        · show z.cps.size = _
          rw [enumL_len, el]
      | _ => exact h0.elim
    · exact h0.elim
/-! ### zip of two tuples -/
def zipL : List D → List D → List D
  | x :: xs, y :: ys => .tup [x, y] :: zipL xs ys
  | _, _ => []
theorem zipL_get : ∀ {xs ys : List D} {i : Nat} {d : D}, (zipL xs ys)[i]? = some d → ∃ c e, xs[i]? = some c ∧ ys[i]? = some e ∧ d = .tup [c, e]
  | [], _, _, _, h => by
    rw [zipL] at h
    · cases h
    · intro _ _ _ _ h; cases h
  | _ :: _, [], _, _, h => by
    rw [zipL] at h
    · cases h
    · intro _ _ _ _ _ h; cases h
  | x :: xs, y :: ys, 0, d, h => by
    cases h
    exact ⟨x, y, rfl, rfl, rfl⟩
  | x :: xs, y :: ys, i + 1, d, h => by
    obtain ⟨c, e, h1, h2, h3⟩ := zipL_get (xs := xs) (ys := ys) (i := i) (d := d) (by simpa [zipL] using h)
    exact ⟨c, e, by simpa using h1, by simpa using h2, h3⟩
theorem zipL_len : ∀ (xs ys : List D), (zipL xs ys).length = min xs.length ys.length
  | [], ys => by
    rw [zipL]
    · simp
    · intro _ _ _ _ h; cases h
  | _ :: _, [] => by
    rw [zipL]
    · simp
    · intro _ _ _ _ _ h; cases h
  | x :: xs, y :: ys => by
    rw [zipL, List.length_cons, zipL_len xs ys, List.length_cons, List.length_cons]
    omega
def zipWk : List D → Option Wk
  | [.tup xs, .tup ys] => some ⟨zipL xs ys, none⟩
  | _ => none
def mZip (t : AM) : IM := fun env st => (t env st).bind fun ds st1 => Res.of ((zipWk ds).map fun w => (w, st1))
theorem pmi_zip {e2 : Expr} {t : AM} (hg : Gl X "zip") (hm : X.mg "zip" = none) (ha : PA X [e, e2] (tA X.K W t)) (hs : starEach [e, e2] X.env = (false, eval e X.env) :: starEach [e2] X.env := by rfl) (hpl : (backTo pos (starEach [e2] X.env)).any (·.1) = false := by rfl) :
    PI X (.Tuple elts kk tpos) (.Call (.Name "zip" p) [e, e2] [] pos) (tI X.K W (mZip t)) := by
  refine pi_imp (RZ.pi_zipA hg hm ha hs hpl) fun σ H Q ⟨env, ρ, st, R, N, h⟩ => ?_
  refine tA_run R N h fun vs ds H1 ρ1 st1 g1 R1 N1 r1 h1 => ?_
  unfold zipWk at h1
  split at h1
  · rename_i xs ys
    obtain ⟨v, u, rfl, rv, ru⟩ := r1.inv2
    obtain ⟨a, vs, rfl, hs1, r2⟩ := rv.tup_inv
    obtain ⟨b, us, rfl, hs2, r3⟩ := ru.tup_inv
    refine ⟨a, b, vs, us, rfl, .inr ⟨hs1, hs2, h1 H1 ρ1 Gr.refl R1 _ fun H2 ρ2 st2 g2 R2 k => ?_⟩⟩
    have t1 := g2.tups a vs hs1
    have t2 := g2.tups b us hs2
    have q1 := r2.gr g2
    have q2 := r3.gr g2
    refine ⟨fun i d hd => ?_, vs, us, t1, t2, ?_⟩
    · obtain ⟨c, e, hc, he, rfl⟩ := zipL_get hd
      obtain ⟨v, hv, rv'⟩ := q1.get hc
      obtain ⟨u, hu, ru'⟩ := q2.get he
      refine ⟨⟨vs, us, v, u, t1, t2, hv, hu⟩, fun x H' y => ?_⟩
      obtain ⟨T, x', y', rfl, hT, rfl, y1, y2⟩ := y
      have e1 : x' = v := Option.some.inj ((y1 vs t1).symm.trans hv)
      have e2 : y' = u := Option.some.inj ((y2 us t2).symm.trans hu)
      rw [e1, e2]
      exact new_pair R2 hT rv' ru'
    · show vs.length ≤ (zipL xs ys).length ∨ us.length ≤ (zipL xs ys).length
      rw [zipL_len, q1.length, q2.length]
      omega
  · exact h1.elim
end
end PM
-- PMstmt
set_option Elab.async false
set_option linter.all false
set_option maxRecDepth 100000
set_option maxHeartbeats 4000000
/-! PM, targets, statements, loops. -/
namespace PM
open PySem L2
/-! ### targets -/
inductive Pat where
  | nm (i : Nat) | tup (ps : List Pat)
mutual
def asg (st : Store) : Pat → D → PM.Env → Option PM.Env
  | .nm i, d, env => some (env.set i (some d))
  | .tup ps, d, env => (items st d).bind fun ds => if ds.length = ps.length then asgs st ps ds env else none
def asgs (st : Store) : List Pat → List D → PM.Env → Option PM.Env
  | [], [], env => some env
  | p :: ps, d :: ds, env => (asg st p d env).bind fun env' => asgs st ps ds env'
  | _, _, _ => none
end
mutual
def Pat.slots : Pat → List Nat
  | .nm i => [i]
  | .tup ps => Pat.slotss ps
def Pat.slotss : List Pat → List Nat
  | [] => []
  | p :: ps => p.slots ++ Pat.slotss ps
end
def SameBut (sl : List Nat) (σ σ' : L2.St) : Prop := σ'.length = σ.length ∧ ∀ i, i ∉ sl → σ'[i]? = σ[i]?
def tG (K : PySem.W.Frag) (p : Pat) : TG := fun v σ H Q => ∃ d env ρ st env', StOk K H ρ st ∧ EnvOk K H ρ σ env ∧ Rv K H ρ v d ∧ asg st p d env = some env' ∧ ∀ σ', EnvOk K H ρ σ' env' → SameBut p.slots σ σ' → Q σ' H
def tGs (K : PySem.W.Frag) (ps : List Pat) : TGs := fun vs σ H Q => ∃ ds env ρ st env', StOk K H ρ st ∧ EnvOk K H ρ σ env ∧ Rvs K H ρ vs ds ∧ asgs st ps ds env = some env' ∧ ∀ σ', EnvOk K H ρ σ' env' → SameBut (Pat.slotss ps) σ σ' → Q σ' H
theorem SameBut.refl {sl : List Nat} {σ : L2.St} : SameBut sl σ σ := ⟨rfl, fun _ _ => rfl⟩
theorem SameBut.app {a b : List Nat} {σ σ1 σ2 : L2.St} (h : SameBut a σ σ1) (g : SameBut b σ1 σ2) : SameBut (a ++ b) σ σ2 := ⟨g.1.trans h.1, fun i hi => (g.2 i fun z => hi (List.mem_append_right _ z)).trans (h.2 i fun z => hi (List.mem_append_left _ z))⟩
section
variable {X : Cx} {W : WX} {pos : Pos}
theorem pg_imp {tg : Expr} {g g' : TG} (h : PG X tg g) (i : ∀ v σ H Q, g' v σ H Q → g v σ H Q) : PG X tg g' := ⟨fun pins s σ H v u Q I r q => h.run pins s σ H v u Q I r (i v σ H Q q)⟩
theorem pgs_imp {tg : List Expr} {g g' : TGs} (h : PGs X tg g) (i : ∀ v σ H Q, g' v σ H Q → g v σ H Q) : PGs X tg g' := ⟨fun pins s σ H v u Q I r q => h.run pins s σ H v u Q I r (i v σ H Q q)⟩
theorem tG_nm {i : Nat} {v : V} {σ : L2.St} {H : Hp} {Q : L2.St → Hp → Prop} (h : tG X.K (.nm i) v σ H Q) : gName i v σ H Q := by
  obtain ⟨d, env, ρ, st, env', R, N, r, e, q⟩ := h
  rw [asg] at e
  cases e
  exact q _ (N.set r i) ⟨by simp, fun j hj => by
    rw [Pat.slots] at hj
    exact List.getElem?_set_ne fun z => hj (by simp [z])⟩
theorem pmg_name {i : Nat} {x : Str} (hN : X.N.Nodup) (hi : X.N[i]? = some x) (hx : Loc X.env.scope x) (hf : X.fn x = true ∨ X.env.scope.names.lookup x = some .local := by first | exact .inl rfl | exact .inr rfl | assumption) : PG X (.Name x pos) (tG X.K (.nm i)) :=
  pg_imp (pg_name hN hi hx hf) fun _ _ _ _ => tG_nm
theorem pmgs_nil : PGs X [] (tGs X.K []) := pgs_imp pgs_nil fun vs σ H Q ⟨ds, env, ρ, st, env', R, N, r, e, q⟩ => by
  cases r with
  | nil =>
    rw [asgs] at e
    cases e
    exact ⟨rfl, q σ N SameBut.refl⟩
  | cons _ _ =>
    rw [asgs] at e
    cases e
    all_goals intros; contradiction
theorem pmgs_cons {e : Expr} {es : List Expr} {p : Pat} {ps : List Pat} (h1 : PG X e (tG X.K p)) (h2 : PGs X es (tGs X.K ps))
    (hs : (assignEach (e :: es) X.env).map (·.2) = assign e X.env :: (assignEach es X.env).map (·.2) := by rfl) : PGs X (e :: es) (tGs X.K (p :: ps)) := by
  refine pgs_imp (pgs_cons h1 h2 hs) fun vs σ H Q ⟨ds, env, ρ, st, env', R, N, r, e, q⟩ => ?_
  cases r with
  | nil =>
    rw [asgs] at e
    cases e
    all_goals intros; contradiction
  | cons r1 r2 =>
    rw [asgs] at e
    obtain ⟨env1, e1, e2⟩ := bind_some e
    exact ⟨_, _, rfl, _, env, ρ, st, env1, R, N, r1, e1, fun σ' N' b1 => ⟨_, env1, ρ, st, env', R, N', r2, e2, fun σ2 N2 b2 => q σ2 N2 (by rw [Pat.slotss]; exact b1.app b2)⟩⟩
theorem pmg_tup {es : List Expr} {k : Nat} {ps : List Pat} (hc : X.calm = true) (h : PGs X es (tGs X.K ps))
    (hn : (assignEach es X.env).length = ps.length := by rfl) (hst : (assignEach es X.env).findIdx? (·.1) = none := by rfl) : PG X (.Tuple es k pos) (tG X.K (.tup ps)) := by
  have h1 := pg_tup (pos := pos) (k := k) hc h hn hst
  have h2 := pg_lst (pos := pos) (k := k) hc h hn hst
  refine ⟨fun pins s σ H v u Q I r q => ?_⟩
  obtain ⟨d, env, ρ, st, env', R, N, rv, e, q⟩ := q
  rw [asg] at e
  obtain ⟨ds, e1, e2⟩ := bind_some e
  obtain ⟨hz, e3⟩ := ite_some e2
  obtain ⟨a, vs, rfl, hs, r2⟩ := items_sq R rv e1
  rcases hs with hs | hs
  · exact h2.run pins s σ H _ u Q I r ⟨a, vs, rfl, hs, by rw [r2.length, hz], ds, env, ρ, st, env', R, N, r2, e3, fun σ2 N2 b2 => q σ2 N2 (by rw [Pat.slots]; exact b2)⟩
  · exact h1.run pins s σ H _ u Q I r ⟨a, vs, rfl, hs, by rw [r2.length, hz], ds, env, ρ, st, env', R, N, r2, e3, fun σ2 N2 b2 => q σ2 N2 (by rw [Pat.slots]; exact b2)⟩
/-! ### small statements -/
def sNext : SM := fun env st => .ok (.nx env) st
def sBreak : SM := fun env st => .ok (.bk env) st
def sCont : SM := fun env st => .ok (.ct env) st
def sSeq (a b : SM) : SM := fun env st => (a env st).bind fun f st1 => match f with
  | .nx env1 => b env1 st1
  | f => .ok f st1
def sRet (m : EM) : SM := fun env st => (m env st).bind fun d st1 => .ok (.ret d) st1
def sRetN : SM := fun _ st => .ok (.ret .non) st
def sIf (t : TM) (a b : SM) : SM := fun env st => (t env st).bind fun k st1 => if k = true then a env st1 else b env st1
def sExpr (m : EM) : SM := fun env st => (m env st).bind fun _ st1 => .ok (.nx env) st1
def nxO (o : Option PM.Env) (st : Store) : Res Fl := match o with
  | some env => .ok (.nx env) st
  | none => .stuck
def sAsg (m : EM) (p : Pat) : SM := fun env st => (m env st).bind fun d st1 => nxO (asg st1 p d env) st1
def par2 (i j : Nat) (env : PM.Env) : List D → Option PM.Env
  | [a, b] => some ((env.set i (some a)).set j (some b))
  | _ => none
def par3 (i j l : Nat) (env : PM.Env) : List D → Option PM.Env
  | [a, b, c] => some (((env.set i (some a)).set j (some b)).set l (some c))
  | _ => none
def sPar (i j : Nat) (t : AM) : SM := fun env st => (t env st).bind fun ds st1 => nxO (par2 i j env ds) st1
def sPar3 (i j l : Nat) (t : AM) : SM := fun env st => (t env st).bind fun ds st1 => nxO (par3 i j l env ds) st1
theorem pms_pass : PS X (.Pass pos) (tS X.K W sNext) := ps_imp ps_pass fun D σ H I ⟨env, ρ, st, R, N, h⟩ => h H ρ Gr.refl R σ N
theorem pmss_nil : PSs X [] (tS X.K W sNext) := pss_imp pss_nil fun D σ H I ⟨env, ρ, st, R, N, h⟩ => h H ρ Gr.refl R σ N
theorem pms_break : PS X (.Break pos) (tS X.K W sBreak) := ps_imp ps_break fun D σ H I ⟨env, ρ, st, R, N, h⟩ => h H ρ Gr.refl R σ N
theorem pms_cont : PS X (.Continue pos) (tS X.K W sCont) := ps_imp ps_continue fun D σ H I ⟨env, ρ, st, R, N, h⟩ => h H ρ Gr.refl R σ N
variable {s : Stmt} {ss : List Stmt} {e c : Expr} {m : EM} {a b : SM} {t : TM}
theorem tSeq_of {D : Ends} {σ : L2.St} {H : Hp} (h : tS X.K W (sSeq a b) D σ H) : tS X.K W a { D with nx := tS X.K W b D } σ H := by
  obtain ⟨env, ρ, st, R, N, h⟩ := h
  refine ⟨env, ρ, st, R, N, (Go.bind h).imp fun f H1 ρ1 st1 g1 R1 q => ?_⟩
  cases f with
  | nx env1 => exact fun σ1 N1 => ⟨env1, ρ1, st1, R1, N1, q⟩
  | ret d => exact q H1 ρ1 Gr.refl R1
  | bk env1 => exact q H1 ρ1 Gr.refl R1
  | ct env1 => exact q H1 ρ1 Gr.refl R1
theorem pmss_cons (h1 : PS X s (tS X.K W a)) (h2 : PSs X ss (tS X.K W b)) : PSs X (s :: ss) (tS X.K W (sSeq a b)) := pss_imp (pss_cons h1 h2) fun D σ H I h => tSeq_of h
theorem pmss_one (h1 : PS X s (tS X.K W a)) : PSs X [s] (tS X.K W a) := pss_one h1
theorem pms_ret (he : PE X e (tE X.K W m)) : PS X (.Return (some e) pos) (tS X.K W (sRet m)) := ps_imp (ps_ret he) fun D σ H I ⟨env, ρ, st, R, N, h⟩ =>
  tE_run R N h fun v d H1 ρ1 st1 g1 R1 N1 r1 h1 => h1 H1 ρ1 Gr.refl R1 v r1
theorem pms_retN : PS X (.Return none pos) (tS X.K W sRetN) := ps_imp ps_retN fun D σ H I ⟨env, ρ, st, R, N, h⟩ => h H ρ Gr.refl R _ .non
theorem pms_expr (he : PE X e (tE X.K W m)) (hs : swapsWith e none pos.line X.env = pure false := by rfl) : PS X (.Expr e pos) (tS X.K W (sExpr m)) := ps_imp (ps_expr he hs) fun D σ H I ⟨env, ρ, st, R, N, h⟩ =>
  tE_run R N h fun v d H1 ρ1 st1 g1 R1 N1 r1 h1 => h1 H1 ρ1 Gr.refl R1 σ N1
theorem pms_if {s1 s2 : List Stmt} (hc : PT X c (tT X.K W t)) (ha : PSs X s1 (tS X.K W a)) (hb : PSs X s2 (tS X.K W b)) : PS X (.If c s1 s2 pos) (tS X.K W (sIf t a b)) := by
  refine ps_imp (ps_if hc ha hb) fun D σ H I ⟨env, ρ, st, R, N, h⟩ => tT_run R N h fun k H1 ρ1 st1 g1 R1 N1 h1 => ?_
  cases k with
  | true => exact ⟨env, ρ1, st1, R1, N1, h1⟩
  | false => exact ⟨env, ρ1, st1, R1, N1, h1⟩
theorem nxO_fin {K : PySem.W.Frag} {W : WX} {D : Ends} {H : Hp} {ρ : List Addr} {st : Store} {o : Option PM.Env} (R : StOk K H ρ st) (h : Go K (wx K W) H ρ (nxO o st) (fin K D)) : ∃ env', o = some env' ∧ ∀ σ', EnvOk K H ρ σ' env' → D.nx σ' H := by
  cases o with
  | none => exact h.elim
  | some env' => exact ⟨env', rfl, fun σ' N' => h H ρ Gr.refl R σ' N'⟩
theorem pms_asg_of {p : Pat} {g : TG} (h : PS X s (tAsg (tE X.K W m) g)) (hg : ∀ v σ H Q, tG X.K p v σ H Q → g v σ H Q) : PS X s (tS X.K W (sAsg m p)) := ps_imp h fun D σ H I ⟨env, ρ, st, R, N, h⟩ =>
  tE_run R N h fun v d H1 ρ1 st1 g1 R1 N1 r1 h1 => by
    obtain ⟨env', e1, q⟩ := nxO_fin R1 h1
    exact hg _ _ _ _ ⟨d, env, ρ1, st1, env', R1, N1, r1, e1, fun σ2 N2 _ => q σ2 N2⟩
theorem pms_set {i : Nat} {x : Str} {pos' : Pos} (hN : X.N.Nodup) (hi : X.N[i]? = some x) (hx : Loc X.env.scope x) (he : PE X e (tE X.K W m)) (hs : swapsWith e (some (.Name x pos')) pos.line X.env = pure false := by rfl) (hf : X.fn x = true ∨ X.env.scope.names.lookup x = some .local := by first | exact .inl rfl | exact .inr rfl | assumption) :
    PS X (.Assign [.Name x pos'] e pos) (tS X.K W (sAsg m (.nm i))) := pms_asg_of (ps_set hN hi hx he hs hf) fun _ _ _ _ => tG_nm
theorem pms_asg {tg : Expr} {p : Pat} (he : PE X e (tE X.K W m)) (hg : PG X tg (tG X.K p)) (hs : swapsWithSole [tg] e pos.line X.env = pure false := by rfl) (hw : swappedStores [tg] e X.env = pure none := by rfl)
    (h1 : (assignEach [tg] X.env).map (·.2) = [assign tg X.env] := by rfl) : PS X (.Assign [tg] e pos) (tS X.K W (sAsg m p)) := pms_asg_of (ps_asg he hg hs hw h1) fun _ _ _ _ h => h
theorem pms_par {i j : Nat} {x y : Str} {e1 e2 : Expr} {ta : AM} {px py pt : Pos} {kt k2 pt2} (hc : X.calm = true) (hN : X.N.Nodup) (hi : X.N[i]? = some x) (hj : X.N[j]? = some y) (hij : i ≠ j)
    (hx : X.env.scope.names.lookup x = some .local) (hy : X.env.scope.names.lookup y = some .local) (ha : PA X [e1, e2] (tA X.K W ta))
    (hw : swappedStores [.Tuple [.Name x px, .Name y py] kt pt] (.Tuple [e1, e2] k2 pt2) X.env = pure (some [x, y]))
    (hs : swapsWithSole [.Tuple [.Name x px, .Name y py] kt pt] (.Tuple [e1, e2] k2 pt2) pos.line X.env = pure false := by rfl) :
    PS X (.Assign [.Tuple [.Name x px, .Name y py] kt pt] (.Tuple [e1, e2] k2 pt2) pos) (tS X.K W (sPar i j ta)) := by
  refine ps_imp (ps_par hc hN hi hj hij hx hy ha hw hs) fun D σ H I ⟨env, ρ, st, R, N, h⟩ => tA_run R N h fun vs ds H1 ρ1 st1 g1 R1 N1 r1 h1 => ?_
  obtain ⟨env', e1, q⟩ := nxO_fin R1 h1
  unfold par2 at e1
  split at e1
  · cases e1
    obtain ⟨v, u, rfl, rv, ru⟩ := r1.inv2
    exact ⟨v, u, rfl, q _ ((N1.set rv i).set ru j)⟩
  · cases e1
theorem pms_par3 {i j l : Nat} {x y z : Str} {e1 e2 e3 : Expr} {ta : AM} {px py pz pt : Pos} {kt k2 pt2} (hc : X.calm = true) (hN : X.N.Nodup) (hi : X.N[i]? = some x) (hj : X.N[j]? = some y) (hl : X.N[l]? = some z) (hij : i ≠ j) (hil : i ≠ l) (hjl : j ≠ l)
    (hx : X.env.scope.names.lookup x = some .local) (hy : X.env.scope.names.lookup y = some .local) (hz : X.env.scope.names.lookup z = some .local) (ha : PA X [e1, e2, e3] (tA X.K W ta))
    (hw : swappedStores [.Tuple [.Name x px, .Name y py, .Name z pz] kt pt] (.Tuple [e1, e2, e3] k2 pt2) X.env = pure (some [x, y, z]))
    (hs : swapsWithSole [.Tuple [.Name x px, .Name y py, .Name z pz] kt pt] (.Tuple [e1, e2, e3] k2 pt2) pos.line X.env = pure false := by rfl) :
    PS X (.Assign [.Tuple [.Name x px, .Name y py, .Name z pz] kt pt] (.Tuple [e1, e2, e3] k2 pt2) pos) (tS X.K W (sPar3 i j l ta)) := by
  refine ps_imp (ps_par3 hc hN hi hj hl hij hil hjl hx hy hz ha hw hs) fun D σ H I ⟨env, ρ, st, R, N, h⟩ => tA_run R N h fun vs ds H1 ρ1 st1 g1 R1 N1 r1 h1 => ?_
  obtain ⟨env', e1, q⟩ := nxO_fin R1 h1
  unfold par3 at e1
  split at e1
  · cases e1
    obtain ⟨v, u, w, rfl, rv, ru, rw'⟩ := r1.inv3
    exact ⟨v, u, w, rfl, q _ (((N1.set rv i).set ru j).set rw' l)⟩
  · cases e1
/-! ### o[i] = e -/
def putD (x k v : D) (st : Store) : Option Store := match x with
  | .loc n => match rdK st n with
    | some kvs => (keyD k).bind fun key => if kvs.length < sizeLine then some (st.set n (.dct (dPut kvs key v))) else none
    | none => match k with
      | .int i => (wrL st n).bind fun ds => (ixN ds.length i).map fun j => st.set n (.lst (ds.set j v))
      | _ => none
  | _ => none
def nxS (o : Option Store) (env : PM.Env) : Res Fl := match o with
  | some st => .ok (.nx env) st
  | none => .stuck
def sPut (m mo mi : EM) : SM := fun env st => (m env st).bind fun v st1 => (mo env st1).bind fun x st2 => (mi env st2).bind fun k st3 => nxS (putD x k v st3) env
theorem pset_or {t u : TSet} (h1 : PSet X t) (h2 : PSet X u) : PSet X fun o i v H Q => t o i v H Q ∨ u o i v H Q := fun pins s σ H o i v ov iv w Q I r1 r2 r3 h => by
  rcases h with h | h
  · exact h1 pins s σ H o i v ov iv w Q I r1 r2 r3 h
  · exact h2 pins s σ H o i v ov iv w Q I r1 r2 r3 h
theorem put_of {H : Hp} {ρ : List Addr} {st st' : Store} {x k v : D} {xv kv vv : V} {Q : Hp → Prop} (R : StOk X.K H ρ st) (rx : Rv X.K H ρ xv x) (rk : Rv X.K H ρ kv k) (rv : Rv X.K H ρ vv v) (e : putD x k v st = some st')
    (q : ∀ H' ρ', Gr X.K H ρ H' ρ' → StOk X.K H' ρ' st' → Q H') : rSetL xv kv vv H Q ∨ rSetD xv kv vv H Q := by
  unfold putD at e
  split at e
  · rename_i n
    obtain ⟨p, rfl, hp⟩ := rx.loc_inv
    split at e
    · rename_i kvs ek
      obtain ⟨key, e1, e⟩ := bind_some e
      obtain ⟨hz, e⟩ := ite_some e
      cases e
      obtain ⟨ws, h1, h2, r1⟩ := R.dk hp ek
      have hl : ws.length = kvs.length := by
        have := congrArg List.length h2
        simpa using this
      obtain ⟨i1, i2⟩ := dput_of (k := key) rv h2 r1
      have old : HOOk X.K H ρ (.dK ws) (.dct kvs) := ⟨ws, rfl, h2, r1⟩
      have new : HOOk X.K H ρ (.dK (putK ws key vv)) (.dct (dPut kvs key v)) := ⟨_, rfl, i1, i2⟩
      refine .inr ⟨p, upd H p (.dK (putK ws key vv)), rfl, ?_, q _ ρ (Gr.set hp h1 old trivial) (R.set hp h1 old trivial new)⟩
      rw [rk.key e1]
      exact DPut.k h1 (by rw [hl]; exact hz)
    · split at e
      · rename_i i
        obtain ⟨ds, e1, e⟩ := bind_some e
        obtain ⟨j, e2, e3⟩ := map_some e
        cases e3
        obtain ⟨vs, h1, r1⟩ := R.wr hp e1
        rw [rk.int_inv]
        have old : HOOk X.K H ρ (.lst vs) (.lst ds) := ⟨vs, rfl, r1⟩
        have new : HOOk X.K H ρ (.lst (vs.set j vv)) (.lst (ds.set j v)) := ⟨_, rfl, Rvs.set rv j r1⟩
        exact .inl ⟨p, vs, i, j, rfl, rfl, h1, by rw [r1.length]; exact e2, q _ ρ (Gr.set hp h1 old trivial) (R.set hp h1 old trivial new)⟩
      · cases e
  · cases e
theorem pms_put {o i : Expr} {mo mi : EM} {p2 : Pos} (hu : X.A.units + 1 < cLine) (he : PE X e (tE X.K W m)) (ho : PE X o (tE X.K W mo)) (hi : PE X i (tE X.K W mi))
    (ha : ∀ v, assign (.Subscript o i p2) X.env v = (do
      let ov ← holding [v] (eval o X.env)
      let iv ← holding [v, ov] (eval i X.env)
      standAt p2
      holding [v, ov, iv] (setItem ov iv v)
      release [v, ov, iv] []) := by intro _; rfl)
    (hs : swapsWithSole [.Subscript o i p2] e pos.line X.env = pure false := by rfl) (hw : swappedStores [.Subscript o i p2] e X.env = pure none := by rfl)
    (h1 : (assignEach [.Subscript o i p2] X.env).map (·.2) = [assign (.Subscript o i p2) X.env] := by rfl) : PS X (.Assign [.Subscript o i p2] e pos) (tS X.K W (sPut m mo mi)) := by
  refine ps_imp (ps_asg he (pg_sub (pos := p2) ho hi (pset_or set_list (set_dict hu)) ha) hs hw h1) fun D σ H I ⟨env, ρ, st, R, N, h⟩ => ?_
  refine tE_run R N h fun v d H1 ρ1 st1 g1 R1 N1 r1 h1 => tE_run R1 N1 h1 fun x dx H2 ρ2 st2 g2 R2 N2 r2 h2 => tE_run R2 N2 h2 fun y dy H3 ρ3 st3 g3 R3 N3 r3 h3 => ?_
  cases e5 : putD dx dy d st3 with
  | none =>
    rw [e5] at h3
    exact h3.elim
  | some st4 =>
    rw [e5] at h3
    exact put_of R3 (r2.gr g3) r3 ((r1.gr g2).gr g3) e5 fun H4 ρ4 g4 R4 => h3 H4 ρ4 g4 R4 σ (N3.gr g4)
/-! ### x += e -/
def iaddD : Op2
  | .int i, .int j, st => some (.int (i + j), st)
  | _, _, _ => none
def isubD : Op2
  | .int i, .int j, st => some (.int (i - j), st)
  | _, _, _ => none
def sAug (i : Nat) (g : Op2) (m : EM) : SM := fun env st => match env[i]? with
  | some (some x) => (m env st).bind fun y st1 => (Res.of (g x y st1)).bind fun z st2 => .ok (.nx (env.set i (some z))) st2
  | _ => .stuck
theorem pms_aug {i : Nat} {x : Str} {op : Operator} {ti : TIp} {g : Op2} {pos' : Pos} (hN : X.N.Nodup) (hi : X.N[i]? = some x) (hx : Loc X.env.scope x) (he : PE X e (tE X.K W m)) (ho : PIp X op ti)
    (hg : ∀ {H : Hp} {ρ : List Addr} {st : Store} {x y : D} {v u : V} {d : D} {st' : Store} {Q : VK}, StOk X.K H ρ st → Rv X.K H ρ v x → Rv X.K H ρ u y → g x y st = some (d, st') → (∀ H' ρ', Gr X.K H ρ H' ρ' → StOk X.K H' ρ' st' → ∀ z, Rv X.K H' ρ' z d → Q z H') → ti v u H Q)
    (hf : X.fn x = true ∨ X.env.scope.names.lookup x = some .local := by first | exact .inl rfl | exact .inr rfl | assumption) : PS X (.AugAssign (.Name x pos') op e pos) (tS X.K W (sAug i g m)) := by
  refine ps_imp (ps_aug hN hi hx he ho hf) fun D σ H I ⟨env, ρ, st, R, N, h⟩ => ?_
  unfold sAug at h
  split at h
  · rename_i d0 e0
    obtain ⟨v0, e1, r0⟩ := N.2 i d0 e0
    refine ⟨v0, e1, tE_run R N h fun v d H1 ρ1 st1 g1 R1 N1 r1 h1 => ?_⟩
    cases e5 : g d0 d st1 with
    | none =>
      rw [e5] at h1
      exact h1.elim
    | some pr =>
      obtain ⟨z, st2⟩ := pr
      rw [e5] at h1
      exact hg R1 (r0.gr g1) r1 e5 fun H2 ρ2 g2 R2 z' rz => h1 H2 ρ2 g2 R2 _ ((N1.gr g2).set rz i)
  · exact h.elim
theorem iadd_ok {H : Hp} {ρ : List Addr} {st : Store} {x y : D} {v u : V} {d : D} {st' : Store} {Q : VK} (R : StOk X.K H ρ st) (rx : Rv X.K H ρ v x) (ry : Rv X.K H ρ u y) (e : iaddD x y st = some (d, st')) (q : ∀ H' ρ', Gr X.K H ρ H' ρ' → StOk X.K H' ρ' st' → ∀ z, Rv X.K H' ρ' z d → Q z H') : ipI (fun i j => i + j) v u H Q := by
  unfold iaddD at e
  split at e
  · cases e
    exact ⟨_, _, rx.int_inv, ry.int_inv, q H ρ Gr.refl R _ (.int _)⟩
  · cases e
theorem isub_ok {H : Hp} {ρ : List Addr} {st : Store} {x y : D} {v u : V} {d : D} {st' : Store} {Q : VK} (R : StOk X.K H ρ st) (rx : Rv X.K H ρ v x) (ry : Rv X.K H ρ u y) (e : isubD x y st = some (d, st')) (q : ∀ H' ρ', Gr X.K H ρ H' ρ' → StOk X.K H' ρ' st' → ∀ z, Rv X.K H' ρ' z d → Q z H') : ipI (fun i j => i - j) v u H Q := by
  unfold isubD at e
  split at e
  · cases e
    exact ⟨_, _, rx.int_inv, ry.int_inv, q H ρ Gr.refl R _ (.int _)⟩
  · cases e
/-! ### for, while -/
def forL (wk : Wk) (p : Pat) (body : SM) : List D → PM.Env → Store → Res Fl
  | [], env, st => if wk.ok st = true then .ok (.nx env) st else .stuck
  | d :: ds, env, st => if wk.ok st = true then (match asg st p d env with
    | none => .stuck
    | some env' => (body env' st).bind fun f st' => match f with
      | .nx e => forL wk p body ds e st'
      | .ct e => forL wk p body ds e st'
      | .bk e => .ok (.nx e) st'
      | .ret d => .ok (.ret d) st') else .stuck
def sFor (mi : IM) (p : Pat) (body : SM) : SM := fun env st => (mi env st).bind fun wk st1 => forL wk p body wk.its env st1
theorem tFor_of {mi : IM} {p : Pat} {body : SM} {D : Ends} {σ : L2.St} {H : Hp} (h : tS X.K W (sFor mi p body) D σ H) : tFor (tI X.K W mi) (tG X.K p) (tS X.K W body) D σ H := by
  obtain ⟨env, ρ, st, R, N, h⟩ := h
  refine ⟨env, ρ, st, R, N, (Go.bind h).imp fun wk H0 ρ0 st0 g0 R0 h0 J it => ?_⟩
  refine ⟨fun i m σ1 H1 => m = wk.its.length - i ∧ i ≤ wk.its.length ∧ ∃ env ρ st, Gr X.K H0 ρ0 H1 ρ ∧ StOk X.K H1 ρ st ∧ EnvOk X.K H1 ρ σ1 env ∧ Go X.K (wx X.K W) H1 ρ (forL wk p body (wk.its.drop i) env st) (fin X.K D),
    ⟨_, rfl, Nat.zero_le _, env, ρ0, st0, Gr.refl, R0, N.gr g0, h0⟩, ?_⟩
  rintro i m σ1 H1 ⟨rfl, hi, env1, ρ1, st1, g1, R1, N1, h1⟩
  by_cases hlt : i < wk.its.length
  · rw [List.drop_eq_getElem_cons hlt, forL] at h1
    by_cases hk : wk.ok st1 = true
    · rw [if_pos hk] at h1
      obtain ⟨it1, it2⟩ := it H1 ρ1 st1 g1 R1 hk
      obtain ⟨go, yl⟩ := it1 i wk.its[i] (List.getElem?_eq_getElem hlt)
      refine .inr ⟨go, fun σ' H' => i + 1 ≤ wk.its.length ∧ ∃ env ρ st, Gr X.K H0 ρ0 H' ρ ∧ StOk X.K H' ρ st ∧ EnvOk X.K H' ρ σ' env ∧ Go X.K (wx X.K W) H' ρ (forL wk p body (wk.its.drop (i + 1)) env st) (fin X.K D),
        fun σ' H' q => ⟨_, by omega, rfl, q⟩, fun x H2 y => ?_⟩
      obtain ⟨g2, R2, rx⟩ := yl x H2 y
      cases e : asg st1 p wk.its[i] env1 with
      | none =>
        rw [e] at h1
        exact h1.elim
      | some env2 =>
        rw [e] at h1
        refine ⟨_, env1, ρ1, st1, env2, R2, N1.gr g2, rx, e, fun σ2 N2 _ => ⟨env2, ρ1, st1, R2, N2, (Go.bind (Go.gr g2 h1)).imp fun f H3 ρ3 st3 g3 R3 q3 => ?_⟩⟩
        have g03 := (g1.trans g2).trans g3
        cases f with
        | nx env3 => exact fun σ3 N3 => ⟨hlt, env3, ρ3, st3, g03, R3, N3, q3⟩
        | ct env3 => exact fun σ3 N3 => ⟨hlt, env3, ρ3, st3, g03, R3, N3, q3⟩
        | bk env3 => exact fun σ3 N3 => q3 H3 ρ3 Gr.refl R3 σ3 N3
        | ret d => exact q3 H3 ρ3 Gr.refl R3
    · rw [if_neg hk] at h1
      exact h1.elim
  · have he : i = wk.its.length := by omega
    subst he
    rw [List.drop_length, forL] at h1
    by_cases hk : wk.ok st1 = true
    · rw [if_pos hk] at h1
      exact .inl ⟨(it H1 ρ1 st1 g1 R1 hk).2, h1 H1 ρ1 Gr.refl R1 σ1 N1⟩
    · rw [if_neg hk] at h1
      exact h1.elim
theorem pms_for {tg iter : Expr} {body : List Stmt} {mi : IM} {p : Pat} {mb : SM} (hp : PassesOwn (model X.prog X.w) X.A X.env X.xe) (hc : X.calm = true) (hi : PI X tg iter (tI X.K W mi)) (hg : PG X tg (tG X.K p)) (hb : PSs X body (tS X.K W mb))
    (hs : ∀ x, foldedSetIterable iter X.env x = pure x := by intro _; rfl) : PS X (.For tg iter body [] pos) (tS X.K W (sFor mi p mb)) :=
  ps_imp (ps_for hp hc hi hg hb hs) fun D σ H I h => tFor_of h
def whileL (t : TM) (body : SM) : Nat → PM.Env → Store → Res Fl
  | 0, _, _ => .stuck
  | n + 1, env, st => (t env st).bind fun k st1 => if k = true then ((body env st1).bind fun f st' => match f with
      | .nx e => whileL t body n e st'
      | .ct e => whileL t body n e st'
      | .bk e => .ok (.nx e) st'
      | .ret d => .ok (.ret d) st') else .ok (.nx env) st1
theorem pms_while {body : List Stmt} {mb : SM} {n : Nat} (hp : PassesOwn (model X.prog X.w) X.A X.env X.xe) (hc : PT X c (tT X.K W t)) (hb : PSs X body (tS X.K W mb)) : PS X (.While c body [] pos) (tS X.K W (whileL t mb n)) := by
  refine ps_imp (ps_while hp hc hb) fun D σ H I ⟨env, ρ, st, R, N, h⟩ => ?_
  refine ⟨fun m σ1 H1 => ∃ env ρ st, StOk X.K H1 ρ st ∧ EnvOk X.K H1 ρ σ1 env ∧ Go X.K (wx X.K W) H1 ρ (whileL t mb m env st) (fin X.K D), ⟨n, env, ρ, st, R, N, h⟩, ?_⟩
  rintro m σ1 H1 ⟨env1, ρ1, st1, R1, N1, h1⟩
  cases m with
  | zero => exact h1.elim
  | succ m =>
    rw [whileL] at h1
    refine tT_run R1 N1 h1 fun k H2 ρ2 st2 g2 R2 N2 h2 => ?_
    cases k with
    | false => exact h2 H2 ρ2 Gr.refl R2 σ1 N2
    | true =>
      rw [if_pos rfl] at h2 ⊢
      refine ⟨fun σ' H' => ∃ env ρ st, StOk X.K H' ρ st ∧ EnvOk X.K H' ρ σ' env ∧ Go X.K (wx X.K W) H' ρ (whileL t mb m env st) (fin X.K D), fun σ' H' q => ⟨m, Nat.lt_succ_self m, q⟩, env1, ρ2, st2, R2, N2, (Go.bind h2).imp fun f H3 ρ3 st3 g3 R3 q3 => ?_⟩
      cases f with
      | nx env3 => exact fun σ3 N3 => ⟨env3, ρ3, st3, R3, N3, q3⟩
      | ct env3 => exact fun σ3 N3 => ⟨env3, ρ3, st3, R3, N3, q3⟩
      | bk env3 => exact fun σ3 N3 => q3 H3 ρ3 Gr.refl R3 σ3 N3
      | ret d => exact q3 H3 ρ3 Gr.refl R3
end
end PM
-- PMcomp
set_option Elab.async false
set_option linter.all false
set_option maxRecDepth 100000
set_option maxHeartbeats 4000000
/-! PM, list comprehensions. -/
namespace PM
open PySem L2
def Res.opt {α : Type} : Res α → Option (α × Store)
  | .ok a st => some (a, st)
  | _ => none
theorem Res.opt_some {α : Type} {r : Res α} {a : α} {st : Store} (h : r.opt = some (a, st)) : r = .ok a st := by
  cases r with
  | ok b s =>
    cases h
    rfl
  | _ => cases h
@[simp] theorem Res.opt_ok {α : Type} {a : α} {st : Store} : (Res.ok a st).opt = some (a, st) := rfl
def wipeD (env : PM.Env) : List Nat → PM.Env
  | [] => env
  | v :: vs => (wipeD env vs).set v none
theorem EnvOk.wipe {K : PySem.W.Frag} {H : Hp} {ρ : List Addr} {σ : L2.St} {env : PM.Env} (h : EnvOk K H ρ σ env) : ∀ vs : List Nat, EnvOk K H ρ (L2.wipe σ vs) (wipeD env vs)
  | [] => h
  | v :: vs => by
    obtain ⟨h1, h2⟩ := EnvOk.wipe h vs
    refine ⟨by rw [L2.wipe, wipeD, List.length_set, List.length_set, h1], fun i d e => ?_⟩
    rw [wipeD] at e
    rw [L2.wipe]
    by_cases hi : v = i
    · subst hi
      by_cases hl : v < (wipeD env vs).length
      · rw [List.getElem?_set_self hl] at e
        cases e
      · rw [List.getElem?_eq_none_iff.mpr (by simpa using hl)] at e
        cases e
    · rw [List.getElem?_set_ne hi] at e ⊢
      exact h2 i d e
theorem wipe_in {σ : L2.St} {i : Nat} : ∀ {vs : List Nat}, i ∈ vs → i < σ.length → (L2.wipe σ vs)[i]? = some none
  | v :: vs, h, hl => by
    rw [L2.wipe]
    by_cases hi : v = i
    · subst hi
      rw [List.getElem?_set_self (by rw [wipe_length]; exact hl)]
    · rw [List.getElem?_set_ne hi]
      rcases List.mem_cons.mp h with z | z
      · exact absurd z.symm hi
      · exact wipe_in z hl
theorem wipe_same {σ σ' : L2.St} {sl vs : List Nat} (h : SameBut sl (L2.wipe σ vs) σ') (hs : ∀ i ∈ sl, i ∈ vs) : L2.wipe σ' vs = L2.wipe σ vs := by
  have hl : σ'.length = σ.length := by rw [h.1, wipe_length]
  refine List.ext_getElem? fun i => ?_
  by_cases hi : i ∈ vs
  · by_cases hb : i < σ.length
    · rw [wipe_in hi hb, wipe_in hi (by rw [hl]; exact hb)]
    · rw [List.getElem?_eq_none_iff.mpr (by rw [wipe_length]; omega), List.getElem?_eq_none_iff.mpr (by rw [wipe_length]; omega)]
  · rw [wipe_out hi, h.2 i fun z => hi (hs i z)]
section
variable {K : PySem.W.Frag} {H H1 : Hp} {ρ ρ1 : List Addr} {st : Store} {p : Addr} {o o' : HO}
/-- a list outside the store is written -/
theorem Gr.side (g : Gr K H1 ρ1 H ρ) (h1 : H1 p = none) (hp : H p = some o) (n1 : ∀ ys, o ≠ .tup ys) (n2 : ∀ ob u, o ≠ .frz ob u) : Gr K H1 ρ1 (upd H p o') ρ :=
  ⟨fun a xs h => sqT_set hp n1 n2 (g.tups a xs h), fun a xs h => sqR_set hp n2 (g.ros a xs h), g.locs, fun a u e n => by rw [upd_ne (ne_of_none e h1)]; exact g.keep a u e n, g.fresh⟩
theorem ext_set (hp : H p = some o) (n3 : ∀ φ, o ≠ .ext φ) : ∀ (a : Addr) (φ : Heap → Prop), H a = some (.ext φ) → a ∉ ρ → upd H p o' a = some (.ext φ) ∧ a ∉ ρ := fun a φ q n => ⟨by
  rw [upd_ne fun z => by
    rw [z, hp] at q
    exact n3 φ (Option.some.inj q)]
  exact q, n⟩
theorem StOk.side (R : StOk K H ρ st) (hp : H p = some o) (n : p ∉ ρ) (n1 : ∀ ys, o ≠ .tup ys) (n2 : ∀ ob u, o ≠ .frz ob u) (n3 : ∀ φ, o ≠ .ext φ) : StOk K (upd H p o') ρ st := by
  have mv : ∀ {vs : List V} {ds : List D}, Rvs K H ρ vs ds → Rvs K (upd H p o') ρ vs ds := fun r => r.mono (fun _ _ q => sqT_set hp n1 n2 q) (fun _ _ q => sqR_set hp n2 q) (fun _ _ q => q) (ext_set hp n3)
  refine ⟨R.len, R.nd, fun j c e => ?_⟩
  obtain ⟨a, u, e1, e2, e3⟩ := R.cell j c e
  have ne : a ≠ p := fun z => n (by rw [← z]; exact List.mem_of_getElem? e1)
  refine ⟨a, u, e1, by rw [upd_ne ne]; exact e2, ?_⟩
  cases c with
  | lst ds =>
    obtain ⟨vs, q, r⟩ := e3
    exact ⟨vs, q, mv r⟩
  | ro ds =>
    obtain ⟨vs, ob, q, r⟩ := e3
    exact ⟨vs, ob, q, mv r⟩
  | dct kvs =>
    obtain ⟨ws, q, k, r⟩ := e3
    exact ⟨ws, q, k, mv r⟩
end
/-- the items that a comprehension gives -/
def compL (wk : Wk) (p : Pat) (tt : TM) (te : EM) (wenv : PM.Env) : List D → Store → Option (List D × Store)
  | [], st => if wk.ok st = true then some ([], st) else none
  | d :: ds, st => if wk.ok st = true then (asg st p d wenv).bind fun env' => (tt env' st).opt.bind fun b => if b.1 = true then (te env' b.2).opt.bind fun y => (compL wk p tt te wenv ds y.2).map fun r => (y.1 :: r.1, r.2) else compL wk p tt te wenv ds b.2 else none
def lcWk (wk : Wk) (p : Pat) (tt : TM) (te : EM) (vs : List Nat) (env : PM.Env) (st : Store) : Option (D × Store) :=
  if wk.its.length ≤ sizeLine then (compL wk p tt te (wipeD env vs) wk.its st).map fun r => (.loc r.2.length, r.2 ++ [.lst r.1]) else none
def mLc (mi : IM) (p : Pat) (tt : TM) (te : EM) (vs : List Nat) : EM := fun env st => (mi env st).bind fun wk st1 => Res.of (lcWk wk p tt te vs env st1)
abbrev W0 : WX := fun _ _ _ _ => False
section
variable {X : Cx} {W : WX} {pos : Pos}
theorem tLc_of {mi : IM} {p : Pat} {tt : TM} {te : EM} {vs : List Nat} {σ : L2.St} {H : Hp} {Q : VK} (hv : ∀ i ∈ p.slots, i ∈ vs) (h : tE X.K W (mLc mi p tt te vs) σ H Q) : tLc (tI X.K W mi) (tG X.K p) (tT X.K W0 tt) (tE X.K W0 te) vs σ H Q := by
  obtain ⟨env, ρ, st, R, N, h⟩ := h
  refine ⟨env, ρ, st, R, N, (Go.bind h).imp fun wk H0 ρ0 st0 g0 R0 h0 J it Dl hD => ?_⟩
  have NW : EnvOk X.K H0 ρ0 (L2.wipe σ vs) (wipeD env vs) := (N.gr g0).wipe vs
  unfold lcWk at h0
  by_cases hz : wk.its.length ≤ sizeLine
  case neg =>
    rw [if_neg hz] at h0
    exact h0.elim
  rw [if_pos hz] at h0
  cases eF : compL wk p tt te (wipeD env vs) wk.its st0 with
  | none =>
    rw [eF] at h0
    exact h0.elim
  | some rF =>
  obtain ⟨ysF, stF⟩ := rF
  rw [eF] at h0
  refine ⟨fun i m H1 => m = wk.its.length - i ∧ i ≤ wk.its.length ∧ ∃ (accV : List V) (accD rest : List D) (ρ : List Addr) (st : Store), Gr X.K H0 ρ0 H1 ρ ∧ StOk X.K H1 ρ st ∧ H1 Dl = some (.lst accV) ∧ Dl ∉ ρ ∧ Rvs X.K H1 ρ accV accD ∧ accD.length ≤ i ∧
      compL wk p tt te (wipeD env vs) (wk.its.drop i) st = some (rest, stF) ∧ ysF = accD ++ rest,
    ⟨_, rfl, Nat.zero_le _, [], [], ysF, ρ0, st0, Gr.new hD, R0.new hD, upd_same, R0.free hD, .nil, Nat.le_refl _, eF, rfl⟩, ?_⟩
  rintro i m H1 ⟨rfl, hi, accV, accD, rest, ρ1, st1, g1, R1, hDl, hn, rA, hA, e1, e2⟩
  have nt : ∀ {vs : List V}, (∀ ys, HO.lst vs ≠ .tup ys) ∧ ∀ ob u, HO.lst vs ≠ .frz ob u := fun {vs} => ⟨fun _ z => (by cases z), fun _ _ z => (by cases z)⟩
  by_cases hlt : i < wk.its.length
  · rw [List.drop_eq_getElem_cons hlt, compL] at e1
    obtain ⟨hk, e1⟩ := ite_some e1
    obtain ⟨env', ea, e1⟩ := bind_some e1
    obtain ⟨⟨b, st2⟩, eb, e1⟩ := bind_some e1
    have eb' := Res.opt_some eb
    obtain ⟨it1, it2⟩ := it H1 ρ1 st1 g1 R1 hk
    obtain ⟨go, yl⟩ := it1 i wk.its[i] (List.getElem?_eq_getElem hlt)
    refine .inr ⟨go, fun H' => i + 1 ≤ wk.its.length ∧ ∃ (accV : List V) (accD rest : List D) (ρ : List Addr) (st : Store), Gr X.K H0 ρ0 H' ρ ∧ StOk X.K H' ρ st ∧ H' Dl = some (.lst accV) ∧ Dl ∉ ρ ∧ Rvs X.K H' ρ accV accD ∧ accD.length ≤ i + 1 ∧
      compL wk p tt te (wipeD env vs) (wk.its.drop (i + 1)) st = some (rest, stF) ∧ ysF = accD ++ rest, fun H' q => ⟨_, by omega, rfl, q⟩, fun x H2 y => ?_⟩
    obtain ⟨g2, R2, rx⟩ := yl x H2 y
    have g02 := g1.trans g2
    have hDl2 := g2.keep Dl _ hDl hn
    refine ⟨_, wipeD env vs, ρ1, st1, env', R2, NW.gr g02, rx, ea, fun σ2 N2 sb => ⟨wipe_same sb hv, env', ρ1, st1, R2, N2, ?_⟩⟩
    rw [eb']
    intro H3 ρ3 g3 R3
    have hDl3 := g3.keep Dl _ hDl2 hn
    have hn3 := g3.out hDl2 hn
    have rA3 := (rA.gr g2).gr g3
    have g03 := g02.trans g3
    cases b with
    | false =>
      have e1 : compL wk p tt te (wipeD env vs) (wk.its.drop (i + 1)) st2 = some (rest, stF) := e1
      simp only [Bool.false_eq_true, if_false]
      exact ⟨hlt, accV, accD, rest, ρ3, st2, g03, R3, hDl3, hn3, rA3, by omega, e1, e2⟩
    | true =>
      have e1 : ((te env' st2).opt.bind fun y => (compL wk p tt te (wipeD env vs) (wk.its.drop (i + 1)) y.2).map fun r => (y.1 :: r.1, r.2)) = some (rest, stF) := e1
      simp only [if_true]
      obtain ⟨⟨y, st3⟩, ey, e1⟩ := bind_some e1
      have ey' := Res.opt_some ey
      obtain ⟨⟨rest', stF'⟩, er, e3⟩ := map_some e1
      cases e3
      refine ⟨env', ρ3, st2, R3, N2.gr g3, ?_⟩
      rw [ey']
      intro H4 ρ4 g4 R4 yv ry
      have hDl4 := g4.keep Dl _ hDl3 hn3
      have hn4 := g4.out hDl3 hn3
      have g04 := g03.trans g4
      have rA4 := rA3.gr g4
      refine ⟨accV, hDl4, by rw [rA.length]; omega, hlt, accV ++ [yv], accD ++ [y], rest', ρ4, st3, g04.side hD hDl4 nt.1 nt.2, R4.side hDl4 hn4 nt.1 nt.2 (fun _ z => by cases z), upd_same, hn4, (rA4.append (Rvs.one ry)).mono (fun _ _ q => sqT_set hDl4 nt.1 nt.2 q) (fun _ _ q => sqR_set hDl4 nt.2 q) (fun _ _ q => q) (ext_set hDl4 fun _ z => by cases z),
        by simp only [List.length_append, List.length_singleton]; omega, er, by rw [e2]; simp⟩
  · have he : i = wk.its.length := by omega
    subst he
    rw [List.drop_length, compL] at e1
    obtain ⟨hk, e1⟩ := ite_some e1
    cases e1
    refine .inl ⟨(it H1 ρ1 _ g1 R1 hk).2, ?_⟩
    rw [List.append_nil] at e2
    subst e2
    exact h0 H1 (ρ1 ++ [Dl]) (g1.adopt hD) (R1.adopt hDl hn ⟨accV, rfl, rA⟩) _ (.loc (by rw [← R1.len]; simp))
theorem pts_imp {ifs : List Expr} {t t' : TT} (h : PTs X ifs t) (i : ∀ (σ : L2.St) (H : Hp) (Q : Bool → Hp → Prop), t' σ H Q → t σ H Q) : PTs X ifs t' := ⟨fun pins s σ H Q I q => h.run pins s σ H Q I (i σ H Q q)⟩
def mYes : TM := fun _ st => .ok true st
theorem pmts_nil : PTs X [] (tT X.K W mYes) := pts_imp pts_nil fun σ H Q ⟨env, ρ, st, R, N, h⟩ => h H ρ Gr.refl R
theorem pmts_one {c : Expr} {t : TM} (h : PT X c (tT X.K W t)) : PTs X [c] (tT X.K W t) := pts_one h
theorem pm_lc {elt tg iter : Expr} {ifs : List Expr} {scope : Scope} {own : List (Str × Nat)} {mi : IM} {p : Pat} {tt : TM} {te : EM} (hc : X.calm = true) (hN : X.N.Nodup) (hi : PI X tg iter (tI X.K W mi)) (ok : blkC X.N X.env.scope scope own = true) (hv : ∀ i ∈ p.slots, i ∈ own.map (·.2))
    (hg : ∀ (s : Shared) (H : Hp) (C : Addr) (cl : List (Str × Addr)) (fp : List Addr), PG (X.blk s H scope (compEnvC scope cl C X.env) fp) tg (tG X.K p)) (ht : ∀ (s : Shared) (H : Hp) (C : Addr) (cl : List (Str × Addr)) (fp : List Addr), PTs (X.blk s H scope (compEnvC scope cl C X.env) fp) ifs (tT X.K W0 tt))
    (he : ∀ (s : Shared) (H : Hp) (C : Addr) (cl : List (Str × Addr)) (fp : List Addr), PE (X.blk s H scope (compEnvC scope cl C X.env) fp) elt (tE X.K W0 te)) (hs : ∀ x, foldedSetIterable iter X.env x = pure x := by intro _; rfl) :
    PE X (.ListComp elt [⟨tg, iter, ifs, 0⟩] scope pos) (tE X.K W (mLc mi p tt te (own.map (·.2)))) :=
  pe_imp (pe_lc hc hN hi (blkOk_by ok) hg ht he hs) fun σ H Q I h => tLc_of hv h
theorem pms_setLc {i : Nat} {y : Str} {py spos : Pos} {elt tg iter : Expr} {ifs : List Expr} {scope : Scope} {own : List (Str × Nat)} {mi : IM} {p : Pat} {tt : TM} {te : EM} (hc : X.calm = true) (hN : X.N.Nodup) (hy : X.N[i]? = some y) (hyl : X.env.scope.names.lookup y = some .local)
    (hsw : swapsWith (.ListComp elt [⟨tg, iter, ifs, 0⟩] scope pos) (some (.Name y py)) spos.line X.env = pure true) (hi : PI X tg iter (tI X.K W mi)) (ok : blkC X.N X.env.scope scope own = true) (hv : ∀ i ∈ p.slots, i ∈ own.map (·.2))
    (hg : ∀ (s : Shared) (H : Hp) (C : Addr) (cl : List (Str × Addr)) (fp : List Addr), PG (X.blk s H scope (compEnvC scope cl C X.env) fp) tg (tG X.K p)) (ht : ∀ (s : Shared) (H : Hp) (C : Addr) (cl : List (Str × Addr)) (fp : List Addr), PTs (X.blk s H scope (compEnvC scope cl C X.env) fp) ifs (tT X.K W0 tt))
    (he : ∀ (s : Shared) (H : Hp) (C : Addr) (cl : List (Str × Addr)) (fp : List Addr), PE (X.blk s H scope (compEnvC scope cl C X.env) fp) elt (tE X.K W0 te)) (hs : ∀ x, foldedSetIterable iter X.env x = pure x := by intro _; rfl) :
    PS X (.Assign [.Name y py] (.ListComp elt [⟨tg, iter, ifs, 0⟩] scope pos) spos) (tS X.K W (sAsg (mLc mi p tt te (own.map (·.2))) (.nm i))) := by
  refine ps_imp (ps_setLc hc hN hy hyl hsw hi (blkOk_by ok) hg ht he hs) fun D σ H I ⟨env, ρ, st, R, N, h⟩ => ?_
  refine tLc_of hv ?_
  refine tE_run R N h fun v d H1 ρ1 st1 g1 R1 N1 r1 h1 => ?_
  exact h1 H1 ρ1 Gr.refl R1 _ (N1.set r1 i)
end
end PM
-- PMfun
set_option Elab.async false
set_option linter.all false
set_option maxRecDepth 100000
set_option maxHeartbeats 4000000
/-! PM, defs: what a def promises, calls, a law's end. The list of guards is known to be empty throughout, so that containers can be shown. -/
namespace PM
open PySem L2 PySem.Spec PyProof.Rows
/-- a def by data -/
abbrev FM := List D → Store → Res D
def spM (K : PySem.W.Frag) (fM : FM) : Sp := fun vs H Q E => ∃ ρ st ds, StOk K H ρ st ∧ Rvs K H ρ vs ds ∧ Go K (wd K E) H ρ (fM ds st) fun d H' ρ' _ => ∀ v, Rv K H' ρ' v d → Q v H'
structure FnG (P : Program) (w : World) (K : PySem.W.Frag) (mg : Str → Option Value) (base : Heap) (k : Nat) (f : Addr) (fd : FuncData) (ps : List Str) (sp : Sp) : Prop where
  long : ∀ vs H Q E, sp vs H Q E → vs.length = ps.length
  go : ∀ {A : Around} {up : List PySem.Env} {s : Shared} {H : Hp} {given : Args} {us : List Value} {vs : List V} {Q : VK} {E : XK}, Room k A → A.guards = some [] → Env0 P w K mg base A up s H → BindsTo s fd given (ps.zip us) → Vals vs us → sp vs H Q E →
    codeAny (model P w) A (.call (.ref f) given) (CR (L2.CX P w) up P w H s Q E) s
def outF : Res Fl → Res D
  | .ok (.ret d) st => .ok d st
  | .ok (.nx _) st => .ok .non st
  | .ok _ _ => .stuck
  | .exc e _ st => .exc e [] st
  | .stuck => .stuck
/-- a def of n parameters and m names, by its body -/
def mDef (n m : Nat) (b : SM) : FM := fun ds st => if ds.length = n then outF (b (ds.map some ++ List.replicate (m - n) none) st) else .stuck
def stuckF : FM := fun _ _ => .stuck
abbrev wf (E : XK) : WX := fun cls d _ H => E cls d H
section
variable {P : Program} {w : World} {K : PySem.W.Frag} {mg : Str → Option Value} {base : Heap} {H : Hp} {ρ : List Addr} {E : XK} {Q : VK}
theorem envOk_start {N : List Str} {vs : List V} {ds : List D} {n m : Nat} (hN : N.length = m) (hl : ds.length = n) (r : Rvs K H ρ vs ds) : EnvOk K H ρ (L2.start N vs) (ds.map some ++ List.replicate (m - n) none) := by
  have hv := r.length
  unfold L2.start
  refine ⟨by simp [hN, hl, hv], fun i d e => ?_⟩
  by_cases hi : i < ds.length
  · rw [List.getElem?_append_left (by simpa using hi), List.getElem?_map] at e
    obtain ⟨d', e1, e2⟩ := map_some e
    cases e2
    obtain ⟨v, e3, rv⟩ := r.get e1
    refine ⟨v, ?_, rv⟩
    rw [List.getElem?_append_left (by simp [hv]; exact hi), List.getElem?_map, e3]
    rfl
  · rw [List.getElem?_append_right (by simpa using Nat.le_of_not_lt hi), List.getElem?_replicate] at e
    split at e <;> cases e
theorem mDef_len {n m : Nat} {b : SM} {vs : List V} (h : spM K (mDef n m b) vs H Q E) : vs.length = n := by
  obtain ⟨ρ, st, ds, R, r, h⟩ := h
  unfold mDef at h
  by_cases hl : ds.length = n
  · rw [r.length, hl]
  · rw [if_neg hl] at h
    exact h.elim
theorem mDef_body {N : List Str} {n m : Nat} {b : SM} {vs : List V} (hN : N.length = m) (h : spM K (mDef n m b) vs H Q E) : tS K (wf E) b { nx := fun _ H' => Q .non H', rt := Q } (L2.start N vs) H := by
  obtain ⟨ρ, st, ds, R, r, h⟩ := h
  unfold mDef at h
  by_cases hl : ds.length = n
  case neg =>
    rw [if_neg hl] at h
    exact h.elim
  rw [if_pos hl] at h
  refine ⟨_, ρ, st, R, envOk_start hN hl r, ?_⟩
  generalize b (ds.map some ++ List.replicate (m - n) none) st = o at h
  match o, h with
  | .ok (.ret d) st', h => exact fun H' ρ' g R' => h H' ρ' g R'
  | .ok (.nx env) st', h => exact fun H' ρ' g R' σ N' => h H' ρ' g R' _ .non
  | .ok (.bk env) st', h => exact False.elim h
  | .ok (.ct env) st', h => exact False.elim h
  | .exc e env st', h => exact fun H' ρ' g R' cls od σ rx N' => h H' ρ' g R' cls od rx
  | .stuck, h => exact False.elim h
/-- THE RULE: a def's body keeps its promise -/
theorem fn_g {x qual : Str} {params : Arguments} {body : List Stmt} {scope : Scope} {dvs : List V} {kws : List (Str × V)} {f : Addr} {fd : FuncData} {N ps : List Str} {k n m : Nat} {b : SM}
    (F : FunD K x qual params body scope dvs kws f fd) (S : FnScope N ps scope) (hn : ps.length = n) (hN : N.length = m)
    (hb : ∀ (cdv : Value) (A : Around) (up : List PySem.Env) (s : Shared) (H : Hp) (E : XK), Room k (A.deeper (envOfC qual scope s.heap.objs.size f cdv)) → A.guards = some [] →
      PSs (cxOf (L2.CX P w) P w K mg base N qual scope f cdv A up s H E) body (tS K (wf E) b)) : FnG P w K mg base (k + 1) f fd ps (spM K (mDef n m b)) := by
  obtain ⟨c1, c2, c3, c4, c5, c6, c7, cdv, c8, c9, hfd, look, code, -, -⟩ := F.ex
  subst hfd
  refine ⟨fun vs H Q E h => (mDef_len h).trans hn.symm, ?_⟩
  intro A up s H given us vs Q E room gu env0 bind rel sp
  have inK := env0.mod.kin.keeps fun p o q => (env0.bs p o q).1
  have long : vs.length = ps.length := (mDef_len sp).trans hn.symm
  refine codeAny_call_function room.depth (inK _ _ look) rfl S.co S.gen rfl (PySem.W.codeRec_of inK code) (bind _ _ _ _ (wpAny_newFunctionEnv_cells S.kind (fun y hy => ?_) fun env he s1 ic => ?_))
  · rcases S.par y.1 (List.of_mem_zip hy).1 with z | z
    · exact .inl z
    · exact .inr ⟨z, PySem.W.cellsFrom_some _ _ _ (.inl z)⟩
  · subst he
    have nolim := env0.mod.nolimit.keeps fun p o q => (env0.bs p o q).1
    refine ⟨nolim.keeps ic.toInCall.keep, codeAny_func (wpAny_mono ((hb cdv A up s H E (room.deeper _) gu).run [] s1 (L2.start N vs) H _ (inv_start S room.hd env0 long rel ic) (mDef_body hN sp)) ?_ fun _ _ z => z)⟩
    intro fl s2 q
    cases fl with
    | next =>
      obtain ⟨σ2, H2, J, q⟩ := q
      exact ⟨V.non, H2, J.os, J.bare, J.base, J.hok, rfl, q⟩
    | ret u =>
      obtain ⟨v, σ2, H2, J, rv, q⟩ := q
      exact ⟨v, H2, J.os, J.bare, J.base, J.hok, rv, q⟩
    | brk =>
      obtain ⟨_, _, _, q⟩ := q
      exact q.elim
    | cont =>
      obtain ⟨_, _, _, q⟩ := q
      exact q.elim
/-- nothing is promised -/
theorem fn_stuck {k : Nat} {f : Addr} {fd : FuncData} {ps : List Str} : FnG P w K mg base k f fd ps (spM K stuckF) :=
  ⟨fun vs H Q E ⟨_, _, _, _, _, h⟩ => h.elim, fun _ _ _ _ _ ⟨_, _, _, _, _, h⟩ => h.elim⟩
end
/-! ### calls -/
def Res.at {α : Type} (r : Res α) (env : PM.Env) : Res α := match r with
  | .ok a st => .ok a st
  | .exc e _ st => .exc e env st
  | .stuck => .stuck
def mCall (f : FM) (t : AM) : EM := fun env st => (t env st).bind fun ds st1 => (f ds st1).at env
/-- positional values, then the keywords' in the parameters' order -/
def permL {α : Type} (perm : List Nat) (xs : List α) : List α := perm.filterMap fun i => xs[i]?
def mCallK (f : FM) (perm : List Nat) (t tk : AM) : EM := fun env st => (t env st).bind fun ds st1 => (tk env st1).bind fun es st2 => (f (ds ++ permL perm es) st2).at env
theorem Rvs.perm {K : PySem.W.Frag} {H : Hp} {ρ : List Addr} {vs : List V} {ds : List D} (r : Rvs K H ρ vs ds) : ∀ perm : List Nat, Rvs K H ρ (permL perm vs) (permL perm ds)
  | [] => .nil
  | i :: perm => by
    have t := Rvs.perm r perm
    unfold permL at t ⊢
    cases e : ds[i]? with
    | none =>
      have e2 : vs[i]? = none := List.getElem?_eq_none_iff.mpr (by rw [r.length]; exact List.getElem?_eq_none_iff.mp e)
      rw [List.filterMap_cons_none e, List.filterMap_cons_none e2]
      exact t
    | some d =>
      obtain ⟨v, e2, rv⟩ := r.get e
      rw [List.filterMap_cons_some e, List.filterMap_cons_some e2]
      exact .cons rv t
theorem vals_perm {vs : List V} {us : List Value} (r : Vals vs us) : ∀ perm : List Nat, Vals (permL perm vs) (permL perm us)
  | [] => .nil
  | i :: perm => by
    have t := vals_perm r perm
    unfold permL at t ⊢
    cases e : vs[i]? with
    | none =>
      have e2 : us[i]? = none := r.none_of e
      rw [List.filterMap_cons_none e, List.filterMap_cons_none e2]
      exact t
    | some d =>
      obtain ⟨v, e2, rv⟩ := r.get e
      rw [List.filterMap_cons_some e, List.filterMap_cons_some e2]
      exact .cons rv t
section
variable {X : Cx} {W : WX} {k : Nat} {f : Addr} {fd : FuncData} {ps ks : List Str} {fM : FM} {x : Str} {p pos : Pos} {e : Expr} {es : List Expr} {kws : List Keyword} {t tk : AM}
theorem go_at {α : Type} {H : Hp} {ρ : List Addr} {σ : L2.St} {env : PM.Env} {r : Res α} {P : α → Hp → List Addr → Store → Prop} (N : EnvOk X.K H ρ σ env) (h : Go X.K (wx X.K W) H ρ (r.at env) P) : Go X.K (wd X.K (WE W σ)) H ρ r P := by
  cases r with
  | ok a st => exact h
  | exc e ev st => exact fun H' ρ' g R cls od rx => h H' ρ' g R cls od σ rx (N.gr g)
  | stuck => exact h
theorem run_g {pins : List (Addr × Obj)} {σ : L2.St} {H : Hp} {s : Shared} {Q : VK} {us us' : List Value} {kw : List (Str × Value)} {vs : List V} (G : FnG X.prog X.w X.K X.mg X.base k f fd ps (spM X.K fM)) (hr : Room k X.A) (gu : X.A.guards = some []) (tk : L2.Takes X W)
    (I : Inv X pins σ H s) (b : BindsTo s fd ⟨us, kw⟩ (ps.zip us')) (r : Vals vs us') (h : spM X.K fM vs H Q (WE W σ)) : wpAny (model X.prog X.w) X.A (call (.ref f) us kw) (EP X pins σ Q) X.xe s := by
  refine wpAny_call (codeAny_mono (G.go hr gu I.env0 b r h) ?_)
  intro o s' q
  cases o with
  | error z => exact passAt tk σ pins H s z s' I q
  | ok fl => cases fl with
    | ret u => exact I.after q
    | next => exact False.elim q
    | brk => exact False.elim q
    | cont => exact False.elim q
/-- how the def of that name stands: its address, its promise, how it is bound -/
structure Def (P : Program) (w : World) (K : PySem.W.Frag) (mg : Str → Option Value) (base : Heap) (k : Nat) (x : Str) (ps : List Str) (fM : FM) (f : Addr) (fd : FuncData) : Prop where
  fn : FnG P w K mg base k f fd ps (spM K fM)
  mg : mg x = some (.ref f)
  kp : PySem.W.keepIn K (.ref f) = true
  bd : Binds K fd ps []
theorem pm_call (F : Def X.prog X.w X.K X.mg X.base k x ps fM f fd) (hr : Room k X.A) (gu : X.A.guards = some []) (tk : L2.Takes X W) (hg : Gl X x) (ha : PA X (e :: es) (tA X.K W t)) (hdb : (x == ("__debug__" : Str)) = false := by decide)
    (he : starEach (e :: es) X.env = (false, eval e X.env) :: starEach es X.env := by rfl) (hpl : (backTo pos (starEach es X.env)).any (·.1) = false := by rfl) : PE X (.Call (.Name x p) (e :: es) [] pos) (tE X.K W (mCall fM t)) := by
  refine ⟨fun pins s σ H Q I ⟨env, ρ, st, R, N, h⟩ => wpAny_Call_Name_kw (ld_glob I hg F.mg ?_ hdb)⟩
  have go : tA X.K W t σ H fun vs H1 => spM X.K fM vs H1 Q (WE W σ) := tA_run R N h fun vs ds H1 ρ1 st1 g1 R1 N1 r1 h1 => ⟨ρ1, st1, ds, R1, r1, go_at N1 h1⟩
  refine PySem.W.callWith_K (h₀ := X.base) I.ok.mod.kin F.kp (thn (ha.run pos pins s σ H _ I go) ?_) he hpl
  rintro us s1 ⟨vs, H1, I1, r, q⟩
  have lu : (us ++ []).length = ps.length := by rw [List.append_nil, ← r.length]; exact F.fn.long _ _ _ _ q
  have b := F.bd s1 us I1.kIn lu
  rw [List.append_nil] at b
  exact ⟨I1.kIn, run_g F.fn hr gu tk I1 b r q⟩
theorem pm_call0 (F : Def X.prog X.w X.K X.mg X.base k x ps fM f fd) (hr : Room k X.A) (gu : X.A.guards = some []) (tk : L2.Takes X W) (hg : Gl X x) (hdb : (x == ("__debug__" : Str)) = false := by decide) : PE X (.Call (.Name x p) [] [] pos) (tE X.K W (mCall fM aNil)) := by
  refine ⟨fun pins s σ H Q I ⟨env, ρ, st, R, N, h⟩ => wpAny_Call_Name_kw (ld_glob I hg F.mg ?_ hdb)⟩
  have q : spM X.K fM [] H Q (WE W σ) := ⟨ρ, st, [], R, .nil, go_at N h⟩
  exact PySem.W.callWith_K0 I.kIn F.kp (run_g (us := []) F.fn hr gu tk I (F.bd s [] I.kIn (F.fn.long _ _ _ _ q)) .nil q)
/-! ### with keywords -/
theorem pk_imp {t t' : TA} (h : PK X kws t) (i : ∀ (σ : L2.St) (H : Hp) (Q : List V → Hp → Prop), t' σ H Q → t σ H Q) : PK X kws t' := ⟨fun pos pins s σ H Q I q => h.run pos pins s σ H Q I (i σ H Q q)⟩
theorem pmk_nil : PK X [] (tA X.K W aNil) := pk_imp pk_nil fun σ H Q ⟨env, ρ, st, R, N, h⟩ => h H ρ Gr.refl R [] .nil
theorem pmk_cons {m : EM} {r : AM} {nm : Option Str} {kpos : Pos} (ha : PE X e (tE X.K W m)) (hr : PK X kws (tA X.K W r)) : PK X (⟨nm, e, kpos⟩ :: kws) (tA X.K W (aCons m r)) := by
  refine pk_imp (pk_cons ha hr) fun σ H Q ⟨env, ρ, st, R, N, h⟩ => ?_
  refine tE_run R N h fun v d H1 ρ1 st1 g1 R1 N1 r1 h1 => tA_run R1 N1 h1 fun vs ds H2 ρ2 st2 g2 R2 N2 r2 h2 => ?_
  exact h2 H2 ρ2 Gr.refl R2 _ (.cons (r1.gr g2) r2)
def BindsK (fd : FuncData) (ps ks : List Str) (n : Nat) (perm : List Nat) : Prop := ∀ (s : Shared) (us ws : List Value), us.length = n → ws.length = ks.length → BindsTo s fd ⟨us, ks.zip ws⟩ (ps.zip (us ++ permL perm ws))
theorem binds_k {K : PySem.W.Frag} {x qual : Str} {params : Arguments} {body : List Stmt} {scope : Scope} {kwd : List (Str × V)} {n : Nat} {perm : List Nat} (F : FunD K x qual params body scope [] kwd f fd)
    (h : ∀ (kV doc pm : Value) (an : Option Addr) (cdv ct : Value) (us ws : List Value), us.length = n → ws.length = ks.length → bindArgs (PySem.W.fnOf x qual params body scope .none kV doc pm an cdv ct) ⟨us, ks.zip ws⟩ = pure (ps.zip (us ++ permL perm ws))) : BindsK fd ps ks n perm := by
  obtain ⟨c1, c2, c3, c4, c5, c6, c7, cdv, c8, c9, hfd, look, code, dfl, -⟩ := F.ex
  subst hfd
  intro s us ws l1 l2
  rcases dfl with ⟨-, rfl⟩ | ⟨z, -⟩
  · exact .of_eq (h c4 c5 c6 c7 cdv c8 us ws l1 l2)
  · exact absurd rfl z
theorem pm_callK0 {perm : List Nat} (F : Def X.prog X.w X.K X.mg X.base k x ps fM f fd) (B : BindsK fd ps ks 0 perm) (hr : Room k X.A) (gu : X.A.guards = some []) (tk' : L2.Takes X W) (hg : Gl X x) (hkw : PK X kws (tA X.K W tk)) (hl : ∀ env st ds st1, tk env st = .ok ds st1 → ds.length = ks.length)
    (hall : (backToKw pos (keywordEach kws X.env)).all (·.1.isSome) = true := by rfl) (hks : (backToKw pos (keywordEach kws X.env)).filterMap (·.1) = ks := by rfl) (hdb : (x == ("__debug__" : Str)) = false := by decide)
    (hpl : ((backTo pos (starEach [] X.env)).any (·.1) || (backToKw pos (keywordEach kws X.env)).any (·.1.isNone)) = false := by rfl) : PE X (.Call (.Name x p) [] kws pos) (tE X.K W (mCallK fM perm aNil tk)) := by
  refine ⟨fun pins s σ H Q I ⟨env, ρ, st, R, N, h⟩ => wpAny_Call_Name_kw (ld_glob I hg F.mg ?_ hdb)⟩
  have go : tA X.K W tk σ H fun vs H1 => vs.length = ks.length ∧ spM X.K fM (permL perm vs) H1 Q (WE W σ) := tA_run2 R N h fun vs ds H1 ρ1 st1 e1 g1 R1 N1 r1 h1 => ⟨r1.length.trans (hl _ _ _ _ e1), ρ1, st1, permL perm ds, R1, r1.perm perm, go_at N1 h1⟩
  refine PySem.W.callWith_KW0 (h₀ := X.base) I.ok.mod.kin F.kp hall (thn (hkw.run pos pins s σ H _ I go) ?_) hpl
  rintro ws s1 ⟨vs, H1, I1, r, l, q⟩
  rw [hks]
  exact ⟨I1.kIn, run_g F.fn hr gu tk' I1 (B s1 [] ws rfl (r.length.symm.trans l)) (vals_perm r perm) q⟩
theorem pm_callK {perm : List Nat} {n : Nat} (F : Def X.prog X.w X.K X.mg X.base k x ps fM f fd) (B : BindsK fd ps ks n perm) (hr : Room k X.A) (gu : X.A.guards = some []) (tk' : L2.Takes X W) (hg : Gl X x) (ha : PA X (e :: es) (tA X.K W t)) (hkw : PK X kws (tA X.K W tk))
    (hn : ∀ env st ds st1, t env st = .ok ds st1 → ds.length = n) (hl : ∀ env st ds st1, tk env st = .ok ds st1 → ds.length = ks.length)
    (hall : (backToKw pos (keywordEach kws X.env)).all (·.1.isSome) = true := by rfl) (hks : (backToKw pos (keywordEach kws X.env)).filterMap (·.1) = ks := by rfl) (hdb : (x == ("__debug__" : Str)) = false := by decide)
    (he : starEach (e :: es) X.env = (false, eval e X.env) :: starEach es X.env := by rfl)
    (hpl : ((backTo pos (starEach (e :: es) X.env)).any (·.1) || (backToKw pos (keywordEach kws X.env)).any (·.1.isNone)) = false := by rfl) : PE X (.Call (.Name x p) (e :: es) kws pos) (tE X.K W (mCallK fM perm t tk)) := by
  refine ⟨fun pins s σ H Q I ⟨env, ρ, st, R, N, h⟩ => wpAny_Call_Name_kw (ld_glob I hg F.mg ?_ hdb)⟩
  have go : tA X.K W t σ H fun vs H1 => vs.length = n ∧ tA X.K W tk σ H1 fun zs H2 => zs.length = ks.length ∧ spM X.K fM (vs ++ permL perm zs) H2 Q (WE W σ) := tA_run2 R N h fun vs ds H1 ρ1 st1 e1 g1 R1 N1 r1 h1 =>
    ⟨r1.length.trans (hn _ _ _ _ e1), tA_run2 R1 N1 h1 fun zs es H2 ρ2 st2 e2 g2 R2 N2 r2 h2 => ⟨r2.length.trans (hl _ _ _ _ e2), ρ2, st2, ds ++ permL perm es, R2, (r1.gr g2).append (r2.perm perm), go_at N2 h2⟩⟩
  refine PySem.W.callWith_KW (h₀ := X.base) I.ok.mod.kin F.kp hall (thn (ha.run pos pins s σ H _ I go) ?_) hpl he
  rintro us s1 ⟨vs, H1, I1, r, l, q⟩
  refine thn (hkw.run pos pins s1 σ H1 _ I1 q) ?_
  rintro ws s2 ⟨zs, H2, I2, r2, l2, q2⟩
  rw [hks]
  exact ⟨I2.kIn, run_g F.fn hr gu tk' I2 (B s2 us ws (r.length.symm.trans l) (r2.length.symm.trans l2)) (r.append (vals_perm r2 perm)) q2⟩
end
end PM
-- PMend
set_option Elab.async false
set_option linter.all false
set_option maxRecDepth 100000
set_option maxHeartbeats 4000000
/-! PM, a law's end: the script is a list that nobody writes; the store is empty. -/
namespace PM
open PySem L2 PySem.Spec PyProof.Rows
/-- tracked is the script alone, where it is none of the text's own objects -/
def onlyH (K : PySem.W.Frag) (a : Addr) (o : Obj) (xs : List V) : Hp := fun b => if b = a ∧ K.lookup a = none then some (.frz o (.lst xs)) else none
theorem onlyH_inv {K : PySem.W.Frag} {a b : Addr} {o : Obj} {xs : List V} {u : HO} (h : onlyH K a o xs b = some u) : b = a ∧ K.lookup a = none ∧ u = .frz o (.lst xs) := by
  unfold onlyH at h
  obtain ⟨⟨h1, h2⟩, h3⟩ := ite_some h
  exact ⟨h1, h2, (Option.some.inj h3).symm⟩
def scriptD (ns : List Int) : D := .ro (ns.map .int)
theorem rvs_ints {K : PySem.W.Frag} {H : Hp} {ρ : List Addr} : ∀ ns : List Int, Rvs K H ρ (ns.map V.int) (ns.map D.int)
  | [] => .nil
  | n :: ns => .cons (.int n) (rvs_ints ns)
section
variable {P : Program} {w : World} {K : PySem.W.Frag} {mg mb : Str → Option Value} {k : Nat} {fa a : Addr} {fd : FuncData} {x : Str} {fM : FM} {s : Shared} {vs : List Value} {ns : List Int}
theorem call_end (inK : K.In s.heap) (glob : s.heap.Ns mainGlobals mg) (bui : s.heap.Ns builtinsNs mb) (boot : ∀ x : Str, x ≠ "__name__" → mb x = bootBuiltins x) (nolim : s.heap.NoLimit) (nogen : s.gens = #[])
    (obj : s.heap.get? a = some { cls := .type "list", data := .seq vs.toArray }) (ints' : IntsAre vs ns) (few : ns.length ≤ sizeLine) (room : Room k callerA)
    (F : ∀ base : Heap, K.In base → base.Ns mainGlobals mg → FnG P w K mg base k fa fd [x] (spM K fM)) (bind : ∀ (s : Shared) (u : Value), BindsTo s fd ⟨[u], []⟩ [(x, u)]) (law : ∃ st, fM [scriptD ns] [] = .ok (.bl true) st) :
    codeAny (model P w) callerA (.call (.ref fa) ⟨[.ref a], []⟩) (fun r s' => r = .ok (.ret (.bool true)) ∧ OldK s.heap s'.heap ∧ s'.os = s.os ∧ AllBare s'.gens) s := by
  have rv := vals_ints ints'
  generalize hob : ({ cls := .type "list", data := .seq vs.toArray } : Obj) = ob at obj
  generalize hH : onlyH K a ob (ns.map V.int) = H
  have inv : ∀ {b u}, H b = some u → b = a ∧ K.lookup a = none ∧ u = .frz ob (.lst (ns.map V.int)) := fun {b u} h => onlyH_inv (by rw [hH]; exact h)
  have hok : HOk P w H s.heap := fun b u h => by
    obtain ⟨rfl, _, rfl⟩ := inv h
    exact ⟨obj, by rw [List.length_map]; exact few, vs, _, rv, by rw [obj, ← hob]⟩
  have sq : SqR K H a (ns.map V.int) := by
    cases e : K.lookup a with
    | none => exact .inl ⟨ob, by rw [← hH]; exact if_pos ⟨rfl, e⟩⟩
    | some o =>
      have e1 := inK a o e
      rw [obj] at e1
      cases e1
      subst hob
      exact .inr ⟨_, vs.toArray, _, e, rfl, rfl, rfl, by rw [List.size_toArray, ints'.length]; exact few, by simpa using rv⟩
  have free : ∀ {b : Addr} {o : Obj} {es : Array DictEntry} {n : Nat}, s.heap.get? b = some o → o.data = .dict es n → H b = none := fun {b o es n} e d => by
    cases q : H b with
    | none => rfl
    | some u =>
      obtain ⟨rfl, _, _⟩ := inv q
      rw [obj] at e
      cases e
      subst hob
      cases d
  have ns' : ∀ {b : Addr} {m : Str → Option Value}, s.heap.Ns b m → (hidT s.heap H).Ns b m := fun {b m} ⟨o, es, n, e, d, r⟩ => ⟨o, es, n, hidT_get e (free e d), d, r⟩
  have inK' : K.In (hidT s.heap H) := fun b o e => hidT_get (inK b o e) (by
    cases q : H b with
    | none => rfl
    | some u =>
      obtain ⟨rfl, z, _⟩ := inv q
      rw [z] at e
      cases e)
  obtain ⟨mc, n1, n2⟩ := nolim
  have env0 : Env0 P w K mg (hidT s.heap H) callerA [] s H := ⟨rfl, ⟨inK', ns' glob, ⟨mb, ns' bui, boot⟩, ⟨mc, ns' n1, n2⟩⟩, fun b o e => of_hidT e, Nat.le_of_eq (hidT_size _ _), trivial, (fun b hb => absurd (show b ∈ ([] : List Addr) from hb) List.not_mem_nil), hok, .of_eq nogen⟩
  obtain ⟨stL, hL⟩ := law
  have sp : spM K fM [.ref a] H (fun v _ => v = .bl true) fun _ _ _ => False := by
    refine ⟨[], [], [scriptD ns], ⟨rfl, List.nodup_nil, fun n c e => by cases e⟩, .cons (.ro sq (rvs_ints ns)) .nil, ?_⟩
    rw [hL]
    exact fun H' ρ' g R v r => r.bl_inv
  refine codeAny_mono ((F _ inK' (ns' glob)).go (us := [.ref a]) (vs := [.ref a]) room rfl env0 (bind s (.ref a)) (.cons rfl .nil) sp) fun r s' q => ?_
  cases r with
  | error z =>
    obtain ⟨_, _, _, _, _, _, _, _, _, _, _, _, q⟩ := q
    exact q.elim
  | ok fl => cases fl with
    | next => exact False.elim q
    | brk => exact False.elim q
    | cont => exact False.elim q
    | ret u =>
      obtain ⟨v, H', os, bare, un, hok', r', rfl⟩ := q
      cases (show u = Value.bool true from r')
      refine ⟨rfl, OldK.of_keep fun b o e => ?_, os, bare⟩
      cases q : H b with
      | none => exact un.keep b o e q (fun z => absurd (show b ∈ ([] : List Addr) from z) List.not_mem_nil) List.not_mem_nil
      | some u =>
        obtain ⟨rfl, _, rfl⟩ := inv q
        rw [obj] at e
        cases e
        exact (hok' _ _ (un.frzs _ _ _ q)).1
end
theorem walk_g {l : PySem.W.OpenLaw} {n k : Nat} {q : Program} {loose : List Str} {XP : (Str → Option Value) → Heap → Prop} {YP : World → Heap → Prop} {d : DefRec} {x : Str} (hn : l.most = some n) (hn2 : n ≤ sizeLine) (hdf : d.params.defaults = []) (room : Room k callerA)
    (F : ∀ (w : World) (mg : Str → Option Value) (fa : Addr) (h : Heap), YP w h → h.Ns mainGlobals mg → mg d.name = some (.ref fa) → ∃ (K : PySem.W.Frag) (fd : FuncData) (fM : FM), K.In h ∧ (∀ (s : Shared) (u : Value), BindsTo s fd ⟨[u], []⟩ [(x, u)]) ∧
      (∀ ns : List Int, ns.length ≤ n → ∃ st, fM [scriptD ns] [] = .ok (.bl true) st) ∧ ∀ base : Heap, K.In base → base.Ns mainGlobals mg → FnG l.prog w K mg base k fa fd [x] (spM K fM)) : PySem.W.WalkO q loose XP YP l.row.toRowW d [] (fun f vs => PySem.call f vs) :=
  Att.attach_call hn hdf fun w s₀ s₁ mg mb fa o pm cd doc a vs ns G Y ho hd hcd hmg obj hi few hg => by
    obtain ⟨K, fd, fM, inK, bind, law, hF⟩ := F w mg fa _ Y G.T.g hmg
    exact call_end inK G.T.g G.T.b G.T.builtins G.T.nolimit hg obj hi (Nat.le_trans few hn2) room hF bind (law ns few)
end PM
-- PMmore
set_option Elab.async false
set_option linter.all false
set_option maxRecDepth 100000
set_option maxHeartbeats 4000000
/-! PM, more: a sign turned, chains, repr. -/
namespace PM
open PySem L2
theorem r1 {k : Nat} {A : Around} (r : Room k A) : A.units + 1 < cLine := by have := r.un; omega
theorem r72 {k : Nat} {A : Around} (r : Room k A) : A.units + 72 < cLine := by have := r.un; omega
section
variable {X : Cx} {W : WX} {a b c : Expr} {ma mb mc : EM} {g g' : Op2} {pos : Pos}
def negD : D → Option D
  | .int i => some (.int (-i))
  | _ => none
def mNeg (m : EM) : EM := fun env st => (m env st).bind fun d st1 => Res.of ((negD d).map fun z => (z, st1))
theorem pm_neg (ha : PE X a (tE X.K W ma)) : PE X (.UnaryOp .USub a pos) (tE X.K W (mNeg ma)) := by
  refine pe_imp (pe_un un_neg ha) fun σ H Q I ⟨env, ρ, st, R, N, h⟩ => tE_run R N h fun v d H1 ρ1 st1 g1 R1 N1 r1 h1 => ?_
  cases d with
  | int i => exact ⟨i, r1.int_inv, h1 H1 ρ1 Gr.refl R1 _ (.int _)⟩
  | _ => exact h1.elim
/-! ### a < b < c -/
def mChain (g g' : Op2) (a b c : EM) : EM := fun env st => (a env st).bind fun x st1 => (b env st1).bind fun y st2 => (Res.of (g x y st2)).bind fun z st3 => match z with
  | .bl true => (c env st3).bind fun w st4 => Res.of (g' y w st4)
  | .bl false => .ok (.bl false) st3
  | _ => .stuck
theorem tChain_of {r r' : R2} {σ : L2.St} {H : Hp} {Q : VK} (hr : ∀ {H : Hp} {ρ : List Addr} {st : Store} {x y : D} {v u : V} {d : D} {st' : Store} {Q : VK},
    StOk X.K H ρ st → Rv X.K H ρ v x → Rv X.K H ρ u y → g x y st = some (d, st') → (∀ H' ρ', Gr X.K H ρ H' ρ' → StOk X.K H' ρ' st' → ∀ z, Rv X.K H' ρ' z d → Q z H') → r v u H Q)
    (hr' : ∀ {H : Hp} {ρ : List Addr} {st : Store} {x y : D} {v u : V} {d : D} {st' : Store} {Q : VK},
    StOk X.K H ρ st → Rv X.K H ρ v x → Rv X.K H ρ u y → g' x y st = some (d, st') → (∀ H' ρ', Gr X.K H ρ H' ρ' → StOk X.K H' ρ' st' → ∀ z, Rv X.K H' ρ' z d → Q z H') → r' v u H Q)
    (h : tE X.K W (mChain g g' ma mb mc) σ H Q) : tChain r r' (tE X.K W ma) (tE X.K W mb) (tE X.K W mc) σ H Q := by
  obtain ⟨env, ρ, st, R, N, h⟩ := h
  refine tE_run R N h fun v x H1 ρ1 st1 g1 R1 N1 r1 h1 => tE_run R1 N1 h1 fun u y H2 ρ2 st2 g2 R2 N2 r2 h2 => ?_
  cases e : g x y st2 with
  | none =>
    rw [e] at h2
    exact h2.elim
  | some p =>
    obtain ⟨d, st3⟩ := p
    rw [e] at h2
    refine hr R2 (r1.gr g2) r2 e fun H3 ρ3 g3 R3 z rz => ?_
    have h3 := Go.gr g3 h2
    cases d with
    | bl k =>
      refine ⟨k, rz.bl_inv, ?_⟩
      cases k with
      | false => exact h3 H3 ρ3 Gr.refl R3 _ (.bl false)
      | true =>
        rw [if_pos rfl]
        refine tE_run R3 (N2.gr g3) h3 fun w dw H4 ρ4 st4 g4 R4 N4 r4 h4 => ?_
        cases e' : g' y dw st4 with
        | none =>
          rw [e'] at h4
          exact h4.elim
        | some p =>
          obtain ⟨d, st5⟩ := p
          rw [e'] at h4
          exact hr' R4 ((r2.gr g3).gr g4) r4 e' fun H5 ρ5 g5 R5 z rz => h4 H5 ρ5 g5 R5 z rz
    | _ => exact h3.elim
theorem pm_chain {op op' : CmpOp} (ho : Ops X (compareOp op) g) (ho' : Ops X (compareOp op') g') (ha : PE X a (tE X.K W ma)) (hb : PE X b (tE X.K W mb)) (hc : PE X c (tE X.K W mc))
    (hm : lastMarks [op, op'] [b, c] = false := by with_unfolding_all rfl) : PE X (.Compare a [op, op'] [b, c] pos) (tE X.K W (mChain g g' ma mb mc)) := by
  obtain ⟨r, h1, h2⟩ := ho
  obtain ⟨r', h1', h2'⟩ := ho'
  exact pe_imp (pe_chain h1 h1' ha hb hc hm) fun σ H Q I h => tChain_of h2 h2' h
theorem pmt_chain {op op' : CmpOp} (ho : Ops X (compareOp op) g) (ho' : Ops X (compareOp op') g') (ha : PE X a (tE X.K W ma)) (hb : PE X b (tE X.K W mb)) (hc : PE X c (tE X.K W mc))
    (hm : lastMarks [op, op'] [b, c] = false := by with_unfolding_all rfl) : PT X (.Compare a [op, op'] [b, c] pos) (tT X.K W (mT (mChain g g' ma mb mc))) := by
  obtain ⟨r, h1, h2⟩ := ho
  obtain ⟨r', h1', h2'⟩ := ho'
  exact pt_imp (pt_chain h1 h1' ha hb hc hm) fun σ H Q I h => tChain_of h2 h2' (tE_mT h)
/-! ### repr(e) -/
def reprOk (p : PyData) : Bool := p.showable && !p.hasDict && decide (p.depth ≤ 70) && decide (p.shown.length ≤ sizeLine)
def reprB : OpN
  | [d], st => (pyOf st 70 d).bind fun p => if reprOk p = true then some (.str p.shown, st) else none
  | _, _ => none
theorem reprOk_inv {p : PyData} (h : reprOk p = true) : p.showable = true ∧ p.hasDict = false ∧ p.depth ≤ 70 ∧ p.shown.length ≤ sizeLine := by
  unfold reprOk at h
  simp only [Bool.and_eq_true, Bool.not_eq_true', decide_eq_true_eq] at h
  exact ⟨h.1.1.1, h.1.1.2, h.1.2, h.2⟩
theorem call_reprD (gu : X.A.guards = some []) (hu : X.A.units + 72 < cLine) : CallR X (.builtin "repr") (fun xs H Q => ∃ x p, xs = [x] ∧ Dp X.K H x p ∧ reprOk p = true ∧ Q (.str p.shown) H) := by
  intro pins s σ H xs us Q I r h
  obtain ⟨x, p, rfl, dp, ok, q⟩ := h
  obtain ⟨h1, h2, h3, h4⟩ := reprOk_inv ok
  obtain ⟨u, rfl, ru⟩ := vals1 r
  obtain ⟨as, rd⟩ := Dp.reads I p x u dp ru
  have fin : ∀ tk t, EP X pins σ Q (.str p.shown t) { s with toks := tk } := fun tk t => ⟨.str p.shown, H, I.tok _, ⟨t, rfl⟩, q⟩
  have go : ∀ a, u = .ref a → wpAny (model X.prog X.w) X.A (call (.builtin "repr") [u]) (EP X pins σ Q) X.xe s := fun a e => by
    subst e
    exact repr_of_reads' rd h1 (PyData.noDict_hsm h2) gu (by omega) (fun _ _ z => z) (fun h' t tk k => ⟨.str p.shown, H, I.kept (t' := tk) k, ⟨t, rfl⟩, q⟩) h4
  cases dp with
  | non =>
    cases (show u = Value.none from ru)
    exact P.repr_of_none (by simpa only [PyData.shown] using fin _ s.toks)
  | bl b =>
    cases (show u = Value.bool b from ru)
    exact P.repr_of_bool (by simpa only [PyData.shown] using fin _ s.toks)
  | int i =>
    obtain ⟨t, rfl⟩ := ru
    exact P.repr_of_int (by simpa [PyData.showable] using h1) (by simpa only [PyData.shown] using fin _ s.toks)
  | str z =>
    obtain ⟨t, rfl⟩ := ru
    exact P.repr_of_str (by simpa only [PyData.shown] using fin _ s.toks) (by simpa only [PyData.shown] using h4)
  | tup _ _ => exact go _ ru
  | lst _ _ => exact go _ ru
theorem calls_repr (gu : X.A.guards = some []) (hu : X.A.units + 72 < cLine) : Calls X (.builtin "repr") reprB := by
  refine ⟨_, call_reprD gu hu, fun {H ρ st ds vs d st' Q} R r e q => ?_⟩
  unfold reprB at e
  split at e
  · obtain ⟨p, e1, e⟩ := bind_some e
    obtain ⟨ok, e⟩ := ite_some e
    cases e
    obtain ⟨v, rfl, h⟩ := r.inv1
    exact ⟨v, p, rfl, dp_of R _ _ _ _ h e1, ok, q H ρ Gr.refl R _ (.str _)⟩
  · cases e
end
end PM
-- PMset
set_option Elab.async false
set_option linter.all false
set_option maxRecDepth 100000
set_option maxHeartbeats 4000000
namespace PM
open PySem L2
def distinct (ss : List Str) : Nat := (ss.foldl (fun acc x => if x ∈ acc then acc else acc ++ [x]) []).length
def lenSetD (d : D) : Option D := match d with
  | .tup ds => (strsOf ds).bind fun ss => if ss.length + 1 < 4096 then some (.int (distinct ss : Nat)) else none
  | _ => none
def mLenSet (m : EM) : EM := fun env st => (m env st).bind fun d st1 => Res.of ((lenSetD d).map fun z => (z, st1))
end PM
namespace PMS
open PySem PySem.Spec PyProof.Rows L2 PM
def stepU (acc : List Str) (x : Str) : List Str := if x ∈ acc then acc else acc ++ [x]
/-- the unlike ones of the first i -/
def uqs (xs : List Str) (i : Nat) : List Str := (xs.take i).foldl stepU []
theorem uqs_succ {xs : List Str} {i : Nat} {x : Str} (h : xs[i]? = some x) : uqs xs (i + 1) = stepU (uqs xs i) x := by
  unfold uqs
  rw [List.take_add_one, h, List.foldl_append]
  rfl
theorem stepU_len {us : List Str} {x : Str} : (stepU us x).length = if decide (x ∈ us) = true then us.length else us.length + 1 := by
  unfold stepU
  by_cases h : x ∈ us
  · rw [if_pos h, if_pos (decide_eq_true h)]
  · rw [if_neg h, if_neg (by simpa using h), List.length_append]
    rfl
theorem stepU_mem {us : List Str} {x y : Str} : decide (y ∈ stepU us x) = (decide (y ∈ us) || decide (y = x)) := by
  unfold stepU
  by_cases h : x ∈ us
  · rw [if_pos h, Bool.eq_iff_iff]
    simp only [decide_eq_true_eq, Bool.or_eq_true]
    exact ⟨.inl, fun z => z.elim id fun e => by rw [e]; exact h⟩
  · rw [if_neg h, Bool.eq_iff_iff]
    simp
theorem uqs_len {xs : List Str} : ∀ {i : Nat}, (uqs xs i).length ≤ i
  | 0 => Nat.zero_le _
  | i + 1 => by
    have ih := uqs_len (xs := xs) (i := i)
    cases h : xs[i]? with
    | none =>
      have e : uqs xs (i + 1) = uqs xs i := by
        unfold uqs
        rw [List.take_add_one, h]
        simp
      rw [e]
      omega
    | some x =>
      rw [uqs_succ h, stepU_len]
      split <;> omega
section
variable {prog : Program} {w : World} {A : Around} {R : Result → Shared → Prop} {I : Addr} {fp wr : List Addr} {G : Array GenState → Array GenState → Prop} {n : Nat} {P : Nat → Value → Prop} {St : Nat → Shared → Prop}
/-- a set of just these texts -/
def UqAt (prog : Program) (w : World) (h : Heap) (a : Addr) (us : List Str) : Prop := h.SetOf (PySem.strKind prog w) a (fun y => decide (y ∈ us)) us.length
theorem UqAt.keep {h h' : Heap} {a : Addr} {us : List Str} (u : UqAt prog w h a us) (k : ∀ o, h.get? a = some o → h'.get? a = some o) : UqAt prog w h' a us := by
  obtain ⟨o, es, ep, t, ho, r⟩ := u
  exact ⟨o, es, ep, t, k o ho, r⟩
theorem texts_loop (W : WalksS prog w A.in1 I fp wr G n P St) (a : Addr) (haf : a ∉ fp) (xs : List Str) (hx : xs.length = n) (hb : n + 1 < 4096) (hv : ∀ i v, P i v → ∃ x t, xs[i]? = some x ∧ v = .str x t) :
    ∀ (m i : Nat) (s : Shared), n - i = m → i ≤ n → St i s → UqAt prog w s.heap a (uqs xs i) →
      (∀ s', Moved (a :: wr) G s s' → UqAt prog w s'.heap a (uqs xs n) → R (.ok (.ret .none)) s') → codeAny (model prog w) A (.builtin "set.update.loop" ⟨[.ref a, .ref I], []⟩) R s := by
  have haw : a ∉ wr := fun z => haf (W.sub _ z)
  have hin : ∀ b ∈ wr, b ∈ a :: wr := fun b z => List.mem_cons_of_mem _ z
  intro m
  induction m with
  | zero =>
    intro i s hm hi hs hu hR
    obtain rfl : i = n := by omega
    refine codeAny_builtin PyProof.Rows.F.entry_set_update_loop (?_ : wpAny _ _ _ _ _ s); rw [Around.under_plainId PyProof.Rows.F.plain_set_update_loop _]
    show wpAny _ A.in1 (pyNext (.ref I) >>= _) _ _ s; refine wpAny_bind (W.done s _ _ hs fun s1 hm1 => ?_)
    show wpAny _ A.in1 (ret Value.none) _ _ s1; exact wpAny_pure (hR s1 (hm1.mono hin) (hu.keep fun o e => hm1.heap a o haw e))
  | succ m ih =>
    intro i s hm hi hs hu hR
    have hlt : i < n := by omega
    refine codeAny_builtin PyProof.Rows.F.entry_set_update_loop (?_ : wpAny _ _ _ _ _ s); rw [Around.under_plainId PyProof.Rows.F.plain_set_update_loop _]
    show wpAny _ A.in1 (pyNext (.ref I) >>= _) _ _ s; refine wpAny_bind (W.item i s _ _ hlt hs fun v s1 hP hs1 hm1 => ?_)
    obtain ⟨x, t, hxi, rfl⟩ := hv i v hP
    have hu1 : UqAt prog w s1.heap a (uqs xs i) := hu.keep fun o e => hm1.heap a o haw e
    have hl := uqs_len (xs := xs) (i := i)
    show wpAny _ A.in1 (holding [Value.str x t] (setAdd a (.str x t)) >>= _) _ _ s1
    refine wpAny_bind (wpAny_holding ?_); unfold setAdd; refine wpAny_holding (wpAny_bind ((PySem.strKind prog w).pyHash (k := x) (strKind_is _ _ _ _) ?_))
    refine wpAny_setAddHashed_of (knd := PySem.strKind prog w) (s := { s1 with toks := s1.toks + 1 }) (strKind_is _ _ _ _) rfl hu1 (by unfold scanBound; omega) fun h' hsb hS2 => ?_
    have hu2 : UqAt prog w h' a (uqs xs (i + 1)) := by
      unfold UqAt
      rw [uqs_succ hxi]
      exact SetOf_congr hS2 (fun y => stepU_mem.symm) stepU_len.symm
    refine wpAny_pure ⟨plainId_quiet PyProof.Rows.F.plain_set_update_loop _, ih (i + 1) _ (by omega) hlt (W.frame _ s1 _ _ hs1 (Nat.le_succ _) fun b hbf o e => ?_) hu2 fun s2 hm2 hu3 => ?_⟩
    · rw [hsb.2 b (fun z : b = a => haf (by rw [← z]; exact hbf))]; exact e
    · refine hR s2 (Moved.trans W.gtrans ((hm1.mono hin).then_heap (Nat.le_succ _) fun b o hbn e => ?_) hm2) hu3
      rw [hsb.2 b (fun z : b = a => hbn (by rw [z]; exact List.mem_cons_self))]; exact e
end
section
variable {prog : Program} {w : World} {A : Around} {E : Value → Shared → Prop} {s : Shared}
set_option maxHeartbeats 3200000 in
theorem call_set_texts {q : Addr} {items : Array Value} {xs : List Str} {Q : Value → Shared → Prop} (hh : A.handled = none) (hq : s.heap.IsTuple q items) (hi : PyProof.Rows.StrsAre items.toList xs) (hb : xs.length + 1 < 4096)
    (h : ∀ (h' : Heap) (tk : Nat), UqAt prog w h' s.heap.objs.size (uqs xs xs.length) → (∀ b o, b < s.heap.objs.size → s.heap.get? b = some o → h'.get? b = some o) → Q (.ref s.heap.objs.size) { s with heap := h', toks := tk }) : wpAny (model prog w) A (call (.type "set") [.ref q]) Q E s := by
  obtain ⟨c, tl, mro_⟩ := PySem.F.called_set.mro
  have made_ := PySem.F.called_set.made
  have sub_ := PySem.F.called_set.sub
  refine wpAny_call (codeAny_of_tree ?_); show wpAny _ _ (callAny (.type "set") _) _ _ _
  refine wpAny_pure ⟨Code.quiet_builtin _ (by decide +kernel), codeAny_builtin PySem.F.entry_type_call ?_⟩; rw [Around.under_plain (weight_type_call_type "set" [.ref q] []) rfl]
  have n1 := PySem.F.called_set.notType
  have n2 := PySem.F.called_set.canCreate
  have n3 := PySem.F.typeCall_set_1 (.ref q)
  repeat (any_goals (first | assumption | wp_step))
  refine codeAny_mono (code_set_new_1 (.ref q) (E := E) (Q₁ := fun z s1 => ∃ ld : Bool, z = .ref s.heap.objs.size ∧ s1 = { s with heap := s.heap.push { cls := .type "set", dict := none, data := .set #[] 0 (.fresh 0 0 ld) } }) fun ld => ⟨ld, rfl, rfl⟩) fun r s1 hr => ?_
  cases r with
  | error e => exact hr
  | ok fl =>
    cases fl with
    | ret z =>
      obtain ⟨ld, rfl, rfl⟩ := hr
      have own : (s.heap.push { cls := .type "set", dict := none, data := .set #[] 0 (.fresh 0 0 ld) }).get? s.heap.objs.size = some { cls := .type "set", dict := none, data := .set #[] 0 (.fresh 0 0 ld) } := Heap.get?_push_size _ rfl
      have tyS : Shared.TypeIs { s with heap := s.heap.push { cls := .type "set", dict := none, data := .set #[] 0 (.fresh 0 0 ld) } } (.ref s.heap.objs.size) "set" := ⟨_, own, rfl⟩
      have i1 := PySem.F.called_set.init.lookup
      have i2 := PySem.F.called_set.init.bind (.ref s.heap.objs.size)
      repeat (any_goals (first | assumption | wp_step))
      refine codeAny_mono (codeAny_call_builtin (R := wants (fun r s2 => r = .none ∧ ∃ h' tk, s2 = { s with heap := h', toks := tk } ∧ UqAt prog w h' s.heap.objs.size (uqs xs xs.length) ∧ (∀ b o, b < s.heap.objs.size → s.heap.get? b = some o → h'.get? b = some o)) E) PySem.F.called_set.init.plain PySem.F.entry_set_init (check_set_init_1 tyS ?_)) fun r2 s2 hr2 => ?_
      · obtain ⟨ob, hob, hcl, nl, hdl⟩ := hq
        obtain ⟨oc, od, oda, os⟩ := ob
        simp only at hcl hdl
        subst hcl; subst hdl
        have hob2 : (s.heap.push { cls := .type "set", dict := none, data := .set #[] 0 (.fresh 0 0 ld) }).get? q = some { cls := .type "tuple", dict := od, data := .seq items nl, slots := os } := Heap.get?_push_of_some _ hob
        have t1 := PySem.F.sub_tuple_set
        have t2 := PySem.F.sub_tuple_frozenset
        have t3 : (Value.type "tuple" == Value.type "dict") = false := by decide
        have tq : (s.heap.push { cls := .type "set", dict := none, data := .set #[] 0 (.fresh 0 0 ld) }).IsTuple q items := ⟨_, hob2, rfl, nl, rfl⟩
        unfold Builtin.«set.__init__» noKeywords Builtin.Frozenset.updateFrom; generalize hPI : pyIter = PI
        wp_walk
        subst hPI
        refine wpAny_pyIter_tuple tq (wpAny_bind (wpAny_runValue ?_))
        have qlt : q < s.heap.objs.size := Heap.lt_size hob
        have hn3 : A.in1.in1.in1.handled = none := by simp [hh]
        have sz1 : (s.heap.push { cls := .type "set", dict := none, data := .set #[] 0 (.fresh 0 0 ld) }).objs.size = s.heap.objs.size + 1 := Heap.size_push ..
        have qne : q ≠ (s.heap.push { cls := .type "set", dict := none, data := .set #[] 0 (.fresh 0 0 ld) }).objs.size := by rw [sz1]; exact Nat.ne_of_lt (Nat.lt_succ_of_lt qlt)
        have snot : s.heap.objs.size ∉ [(s.heap.push { cls := .type "set", dict := none, data := .set #[] 0 (.fresh 0 0 ld) }).objs.size, q] := by
          rw [sz1]
          simp only [List.mem_cons, List.not_mem_nil, or_false, not_or]
          exact ⟨Nat.ne_of_lt (Nat.lt_succ_self _), Nat.ne_of_gt qlt⟩
        have hsz : xs.length = items.size := by rw [← StrsAre.len_eq hi, Array.length_toList]
        have hval : ∀ (i : Nat) (v : Value), items[i]? = some v → ∃ x t, xs[i]? = some x ∧ v = .str x t := fun i v hv => by
          have hlt : i < xs.length := by rw [hsz]; exact (Array.getElem?_eq_some_iff.mp hv).1
          obtain ⟨t, e⟩ := SS.strs_at hi i v (by rw [Array.getElem?_toList]; exact hv)
          exact ⟨xs[i], t, List.getElem?_eq_getElem hlt, by rw [e, List.getD_eq_getElem?_getD, List.getElem?_eq_getElem hlt]; rfl⟩
        refine texts_loop ((Walks.tuple hn3 _ q qne items).toS) s.heap.objs.size snot xs hsz (by omega) hval (items.size - 0) 0 _ (by omega) (Nat.zero_le _) ⟨⟨_, Heap.get?_push_size _ rfl, rfl, rfl⟩, (tq.push _)⟩ ?s0 ?sR
        case s0 =>
          have g0 : ((s.heap.push { cls := .type "set", dict := none, data := .set #[] 0 (.fresh 0 0 ld) }).push { cls := .type "tuple_iterator", data := .fields #[.ref q, .int 0 0] }).get? s.heap.objs.size = some { cls := .type "set", dict := none, data := .set #[] 0 (.fresh 0 0 ld) } := Heap.get?_push_of_some _ own
          exact SetOf_congr ((setObjOf_fresh (knd := PySem.strKind prog w) ld).setOf g0 (by unfold scanBound; omega)) (fun _ => rfl) rfl
        case sR =>
          intro s' hm hu
          rw [← hsz] at hu
          obtain ⟨h', g', d', tk', os'⟩ := s'
          obtain rfl : g' = s.gens := hm.gens
          obtain rfl : d' = s.drawn := hm.drawn
          obtain rfl : os' = s.os := hm.os
          show wpAny _ _ _ _ _ _
          refine wpAny_pure (?_ : wpAny _ _ (ret Value.none) _ _ _)
          refine wpAny_pure ⟨rfl, h', tk', rfl, hu, fun b o hb e => hm.heap b o ?_ (Heap.get?_push_of_some _ (Heap.get?_push_of_some _ e))⟩
          rw [sz1]
          simp only [List.mem_cons, List.not_mem_nil, or_false, not_or]
          exact ⟨Nat.ne_of_lt hb, Nat.ne_of_lt (Nat.lt_succ_of_lt hb)⟩
      · cases r2 with
        | error e => exact hr2
        | ok f2 =>
          cases f2 with
          | ret r =>
            obtain ⟨rfl, h', tk, rfl, hu, hk⟩ := hr2
            repeat (any_goals (first | assumption | wp_step))
            exact h _ _ hu hk
          | _ => exact hr2.elim
    | _ => exact hr.elim
end
end PMS
namespace PM
open PySem PySem.Spec PyProof.Rows L2 PMS
section
variable {X : Cx} {W : WX} {a : Expr} {m : EM} {p p2 q pos : Pos}
def tLenU (K : PySem.W.Frag) (ta : TE) : TE := fun σ H Q => ta σ H fun x H1 => ∃ l, ∃ xs : List Str, x = .ref l ∧ SqT K H1 l (xs.map V.str) ∧ xs.length + 1 < 4096 ∧ Q (.int (distinct xs : Nat)) H1
theorem distinct_uqs {xs : List Str} : (uqs xs xs.length).length = distinct xs := by
  unfold uqs distinct
  rw [List.take_length]
  rfl
theorem pe_lenU {ta : TE} (hc : X.calm = true) (hg : Gl X "len") (hm : X.mg "len" = none) (hg2 : Gl X "set") (hm2 : X.mg "set" = none) (ha : PE X a ta)
    (na : starEach [a] X.env = (false, eval a X.env) :: starEach [] X.env := by rfl) : PE X (.Call (.Name "len" p) [.Call (.Name "set" p2) [a] [] q] [] pos) (tLenU X.K ta) := by
  refine ⟨fun pins s σ H Q I h => Call_ (ld_blt I hg hm boot_len ?_)⟩
  refine PyProof.Rows.callWith_builtin1 (PyProof.Rows.args_cons (?_ : wpAny _ _ _ _ _ _) rfl) rfl rfl
  refine Call_ (ld_blt I hg2 hm2 boot_set (PyProof.Rows.callWith_type1 (PyProof.Rows.args_cons (thn (ha.run pins s σ H _ I h) fun v s1 ⟨x, H1, I1, r1, q1⟩ => PyProof.Rows.args_nil ?_) na) na rfl))
  obtain ⟨l, xs, rfl, hq, h1, q1⟩ := q1
  cases r1
  obtain ⟨its, r, pl, hz⟩ := I1.tuple hq
  refine call_set_texts (I1.ok.hd hc) pl (by simpa using strsAre_of r) h1 fun h' tk hS hk => PyProof.Rows.args_nil ?_
  have hl := uqs_len (xs := xs) (i := xs.length)
  obtain ⟨o, es, ep, t, ho, hex, hd, _, _, _, hf, hn⟩ := hS
  have I2 : Inv X pins σ H1 { s1 with heap := h', toks := tk } := I1.kept fun b o e => hk b o (Heap.lt_size e) e
  refine call_len_set ho hex hd hf (by rw [hn]; omega) ⟨.int (distinct xs : Nat), H1, I2.tok _, ⟨_, by rw [hn, distinct_uqs]⟩, q1⟩
theorem pm_lenSet (hc : X.calm = true) (hg : Gl X "len") (hm : X.mg "len" = none) (hg2 : Gl X "set") (hm2 : X.mg "set" = none) (ha : PE X a (tE X.K W m))
    (na : starEach [a] X.env = (false, eval a X.env) :: starEach [] X.env := by rfl) : PE X (.Call (.Name "len" p) [.Call (.Name "set" p2) [a] [] q] [] pos) (tE X.K W (mLenSet m)) := by
  refine pe_imp (pe_lenU hc hg hm hg2 hm2 ha na) fun σ H Q I ⟨env, ρ, st, R, N, h⟩ => tE_run R N h fun v d H1 ρ1 st1 g1 R1 N1 r1 h1 => ?_
  cases d with
  | tup ds =>
    obtain ⟨b, vs, rfl, hs, rvs⟩ := r1.tup_inv
    cases e : strsOf ds with
    | none =>
      have e2 : lenSetD (.tup ds) = none := by rw [lenSetD, e]; rfl
      rw [e2] at h1
      exact h1.elim
    | some ss =>
      obtain rfl := rvs.strs e
      by_cases hl : ss.length + 1 < 4096
      · have e2 : lenSetD (.tup ds) = some (.int (distinct ss : Nat)) := by rw [lenSetD, e]; exact if_pos hl
        rw [e2] at h1
        exact ⟨b, ss, rfl, hs, hl, h1 H1 ρ1 Gr.refl R1 _ (.int _)⟩
      · have e2 : lenSetD (.tup ds) = none := by rw [lenSetD, e]; exact if_neg hl
        rw [e2] at h1
        exact h1.elim
  | _ => exact h1.elim
end
end PM
-- PMpure
set_option Elab.async false
set_option linter.all false
set_option maxRecDepth 100000
set_option maxHeartbeats 4000000
/-! PM, plain: what a piece gives, without a heap. -/
namespace PM
open PySem L2
def Wp {α : Type} (r : Res α) (Q : α → Store → Prop) : Prop := match r with
  | .ok a st => Q a st
  | _ => False
theorem Wp.imp {α : Type} {r : Res α} {Q Q' : α → Store → Prop} (h : Wp r Q) (i : ∀ a st, Q a st → Q' a st) : Wp r Q' := by
  cases r with
  | ok a st => exact i a st h
  | _ => exact h
theorem wp_ok {α : Type} {a : α} {st : Store} {Q : α → Store → Prop} : Wp (.ok a st) Q = Q a st := rfl
theorem wp_bind {α β : Type} {r : Res α} {k : α → Store → Res β} {Q : β → Store → Prop} : Wp (r.bind k) Q = Wp r fun a st => Wp (k a st) Q := by
  cases r <;> rfl
theorem wp_some {α : Type} {a : α} {st : Store} {Q : α → Store → Prop} : Wp (Res.of (some (a, st))) Q = Q a st := rfl
theorem wp_at {α : Type} {r : Res α} {env : PM.Env} {Q : α → Store → Prop} : Wp (r.at env) Q = Wp r Q := by
  cases r <;> rfl
theorem wp_ex {α : Type} {r : Res α} {Q : α → Store → Prop} : Wp r Q ↔ ∃ a st, r = .ok a st ∧ Q a st := by
  cases r with
  | ok a st => exact ⟨fun h => ⟨a, st, rfl, h⟩, fun ⟨_, _, e, h⟩ => by cases e; exact h⟩
  | exc e env st => exact ⟨fun h => h.elim, fun ⟨_, _, e, _⟩ => by cases e⟩
  | stuck => exact ⟨fun h => h.elim, fun ⟨_, _, e, _⟩ => by cases e⟩
theorem Wp.eq {α : Type} {r : Res α} {a : α} {st : Store} {Q : α → Store → Prop} (e : r = .ok a st) (h : Q a st) : Wp r Q := by
  rw [e]
  exact h
/-- a statement's end -/
def outQ (Q : D → Store → Prop) : Fl → Store → Prop
  | .ret d, st => Q d st
  | .nx _, st => Q .non st
  | _, _ => False
theorem wp_out {r : Res Fl} {Q : D → Store → Prop} : Wp (outF r) Q = Wp r (outQ Q) := by
  cases r with
  | ok f st => cases f <;> rfl
  | _ => rfl
theorem wp_def {n m : Nat} {b : SM} {ds : List D} {st : Store} {Q : D → Store → Prop} (h : ds.length = n) : Wp (mDef n m b ds st) Q = Wp (b (ds.map some ++ List.replicate (m - n) none) st) (outQ Q) := by
  unfold mDef
  rw [if_pos h, wp_out]
/-! ### a for -/
theorem wp_forL {wk : Wk} {p : Pat} {body : SM} {Q : Fl → Store → Prop} (I : Nat → PM.Env → Store → Prop)
    (hs : ∀ i d env st, wk.its[i]? = some d → I i env st → wk.ok st = true ∧ ∃ env', asg st p d env = some env' ∧ Wp (body env' st) fun f st' => match f with
      | .nx e => I (i + 1) e st'
      | .ct e => I (i + 1) e st'
      | .bk e => Q (.nx e) st'
      | .ret d => Q (.ret d) st')
    (hd : ∀ env st, I wk.its.length env st → wk.ok st = true ∧ Q (.nx env) st) : ∀ (n i : Nat) (env : PM.Env) (st : Store), wk.its.length - i = n → i ≤ wk.its.length → I i env st → Wp (forL wk p body (wk.its.drop i) env st) Q := by
  intro n
  induction n with
  | zero =>
    intro i env st hn hi h
    have e : i = wk.its.length := by omega
    subst e
    obtain ⟨h1, h2⟩ := hd env st h
    rw [List.drop_length, forL, if_pos h1]
    exact h2
  | succ n ih =>
    intro i env st hn hi h
    have hlt : i < wk.its.length := by omega
    obtain ⟨h1, env', h2, h3⟩ := hs i wk.its[i] env st (List.getElem?_eq_getElem hlt) h
    rw [List.drop_eq_getElem_cons hlt, forL, if_pos h1, h2]
    show Wp ((body env' st).bind _) Q
    rw [wp_bind]
    refine h3.imp fun f st' q => ?_
    cases f with
    | nx e => exact ih (i + 1) e st' (by omega) hlt q
    | ct e => exact ih (i + 1) e st' (by omega) hlt q
    | bk e => exact q
    | ret d => exact q
theorem wp_for {wk : Wk} {p : Pat} {body : SM} {Q : Fl → Store → Prop} {env : PM.Env} {st : Store} (I : Nat → PM.Env → Store → Prop) (h0 : I 0 env st)
    (hs : ∀ i d env st, wk.its[i]? = some d → I i env st → wk.ok st = true ∧ ∃ env', asg st p d env = some env' ∧ Wp (body env' st) fun f st' => match f with
      | .nx e => I (i + 1) e st'
      | .ct e => I (i + 1) e st'
      | .bk e => Q (.nx e) st'
      | .ret d => Q (.ret d) st')
    (hd : ∀ env st, I wk.its.length env st → wk.ok st = true ∧ Q (.nx env) st) : Wp (forL wk p body wk.its env st) Q :=
  wp_forL I hs hd _ 0 env st rfl (Nat.zero_le _) h0
/-! ### a comprehension -/
theorem wp_compL {wk : Wk} {p : Pat} {tt : TM} {te : EM} {wenv : PM.Env} {Q : List D → Store → Prop} (I : Nat → List D → Store → Prop)
    (hs : ∀ i d acc st, wk.its[i]? = some d → I i acc st → wk.ok st = true ∧ ∃ env', asg st p d wenv = some env' ∧ Wp (tt env' st) fun b st1 => if b = true then Wp (te env' st1) fun y st2 => I (i + 1) (acc ++ [y]) st2 else I (i + 1) acc st1)
    (hd : ∀ acc st, I wk.its.length acc st → wk.ok st = true ∧ Q acc st) : ∀ (n i : Nat) (acc : List D) (st : Store), wk.its.length - i = n → i ≤ wk.its.length → I i acc st → ∃ r st', compL wk p tt te wenv (wk.its.drop i) st = some (r, st') ∧ Q (acc ++ r) st' := by
  intro n
  induction n with
  | zero =>
    intro i acc st hn hi h
    have e : i = wk.its.length := by omega
    subst e
    obtain ⟨h1, h2⟩ := hd acc st h
    refine ⟨[], st, ?_, by rw [List.append_nil]; exact h2⟩
    rw [List.drop_length, compL, if_pos h1]
  | succ n ih =>
    intro i acc st hn hi h
    have hlt : i < wk.its.length := by omega
    obtain ⟨h1, env', h2, h3⟩ := hs i wk.its[i] acc st (List.getElem?_eq_getElem hlt) h
    rw [List.drop_eq_getElem_cons hlt, compL, if_pos h1, h2]
    obtain ⟨b, st1, e1, h4⟩ := wp_ex.mp h3
    show ∃ r st', ((tt env' st).opt.bind fun b => _) = some (r, st') ∧ _
    rw [e1]
    cases b with
    | false =>
      rw [if_neg Bool.false_ne_true] at h4
      exact ih (i + 1) acc st1 (by omega) hlt h4
    | true =>
      rw [if_pos rfl] at h4
      obtain ⟨y, st2, e2, h5⟩ := wp_ex.mp h4
      obtain ⟨r, st', e3, q⟩ := ih (i + 1) (acc ++ [y]) st2 (by omega) hlt h5
      refine ⟨y :: r, st', ?_, by rw [List.append_assoc] at q; exact q⟩
      show ((te env' st1).opt.bind fun y => (compL wk p tt te wenv (wk.its.drop (i + 1)) y.2).map fun r => (y.1 :: r.1, r.2)) = some (y :: r, st')
      rw [e2]
      show ((compL wk p tt te wenv (wk.its.drop (i + 1)) st2).map fun r => (y :: r.1, r.2)) = some (y :: r, st')
      rw [e3]
      rfl
theorem wp_lc {wk : Wk} {p : Pat} {tt : TM} {te : EM} {vs : List Nat} {env : PM.Env} {st : Store} {Q : D → Store → Prop} (I : Nat → List D → Store → Prop) (hz : wk.its.length ≤ sizeLine) (h0 : I 0 [] st)
    (hs : ∀ i d acc st, wk.its[i]? = some d → I i acc st → wk.ok st = true ∧ ∃ env', asg st p d (wipeD env vs) = some env' ∧ Wp (tt env' st) fun b st1 => if b = true then Wp (te env' st1) fun y st2 => I (i + 1) (acc ++ [y]) st2 else I (i + 1) acc st1)
    (hd : ∀ acc st, I wk.its.length acc st → wk.ok st = true ∧ Q (.loc st.length) (st ++ [.lst acc])) : Wp (Res.of (lcWk wk p tt te vs env st)) Q := by
  obtain ⟨r, st', e, q⟩ := wp_compL (Q := fun acc st => Q (.loc st.length) (st ++ [.lst acc])) I hs hd _ 0 [] st rfl (Nat.zero_le _) h0
  unfold lcWk
  rw [if_pos hz]
  rw [List.drop_zero] at e
  rw [e]
  exact q
end PM
-- PMplain
set_option Elab.async false
set_option linter.all false
set_option maxRecDepth 100000
set_option maxHeartbeats 4000000
/-! PM, plain data: ints, texts, None, tuples of such. -/
namespace PM
open PySem L2
def Pl : Nat → D → Bool
  | _, .non => true
  | _, .int i => decide (i.natAbs < 10 ^ 12)
  | _, .str s => PyData.strOk s
  | n + 1, .tup ds => ds.all (Pl n)
  | _, _ => false
def D.py : Nat → D → PyData
  | _, .int i => .int i
  | _, .str s => .str s
  | n + 1, .tup ds => .tuple (ds.map (D.py n))
  | _, _ => .none
theorem pl_tup {n : Nat} {ds : List D} (h : Pl n (.tup ds) = true) : ∃ k, n = k + 1 ∧ ∀ d ∈ ds, Pl k d = true := by
  cases n with
  | zero => cases h
  | succ k =>
    refine ⟨k, rfl, ?_⟩
    rw [Pl] at h
    exact List.all_eq_true.mp h
theorem pl_of {k : Nat} {ds : List D} (h : ∀ d ∈ ds, Pl k d = true) : Pl (k + 1) (.tup ds) = true := by
  rw [Pl]
  exact List.all_eq_true.mpr h
theorem Pl.mono : ∀ {n m : Nat} {d : D}, Pl n d = true → n ≤ m → Pl m d = true := by
  intro n
  induction n with
  | zero =>
    intro m d h hm
    cases d with
    | non => cases m <;> rfl
    | int i => cases m <;> exact h
    | str s => cases m <;> exact h
    | _ => cases h
  | succ n ih =>
    intro m d h hm
    obtain ⟨k, rfl⟩ : ∃ k, m = k + 1 := ⟨m - 1, by omega⟩
    cases d with
    | non => rfl
    | int i => exact h
    | str s => exact h
    | tup ds =>
      obtain ⟨j, e, h1⟩ := pl_tup h
      cases e
      exact pl_of fun d hd => ih (h1 d hd) (by omega)
    | _ => cases h
theorem pyL_map {f : D → Option PyData} {g : D → PyData} : ∀ {ds : List D}, (∀ d ∈ ds, f d = some (g d)) → pyL f ds = some (ds.map g)
  | [], _ => rfl
  | d :: ds, h => by
    rw [pyL, h d List.mem_cons_self]
    show ((pyL f ds).map fun ps => g d :: ps) = _
    rw [pyL_map fun e he => h e (List.mem_cons_of_mem _ he)]
    rfl
theorem pyOf_pl {st : Store} : ∀ {n m : Nat} {d : D}, Pl n d = true → n ≤ m → pyOf st m d = some (D.py n d) := by
  intro n
  induction n with
  | zero =>
    intro m d h hm
    cases d with
    | non => cases m <;> rfl
    | int i => cases m <;> rfl
    | str s => cases m <;> rfl
    | _ => cases h
  | succ n ih =>
    intro m d h hm
    obtain ⟨k, rfl⟩ : ∃ k, m = k + 1 := ⟨m - 1, by omega⟩
    cases d with
    | non => rfl
    | int i => rfl
    | str s => rfl
    | tup ds =>
      obtain ⟨j, e, h1⟩ := pl_tup h
      cases e
      show (pyL (pyOf st k) ds).map PyData.tuple = _
      rw [pyL_map (g := D.py n) fun d hd => ih (h1 d hd) (by omega)]
      rfl
    | _ => cases h
theorem all_py {f : PyData → Bool} {fs : List PyData → Bool} (h0 : fs [] = true) (hc : ∀ x xs, fs (x :: xs) = (f x && fs xs)) {g : D → PyData} : ∀ {ds : List D}, (∀ d ∈ ds, f (g d) = true) → fs (ds.map g) = true
  | [], _ => h0
  | d :: ds, h => by
    rw [List.map_cons, hc, h d List.mem_cons_self, all_py h0 hc fun e he => h e (List.mem_cons_of_mem _ he)]
    rfl
theorem any_py {f : PyData → Bool} {fs : List PyData → Bool} (h0 : fs [] = false) (hc : ∀ x xs, fs (x :: xs) = (f x || fs xs)) {g : D → PyData} : ∀ {ds : List D}, (∀ d ∈ ds, f (g d) = false) → fs (ds.map g) = false
  | [], _ => h0
  | d :: ds, h => by
    rw [List.map_cons, hc, h d List.mem_cons_self, any_py h0 hc fun e he => h e (List.mem_cons_of_mem _ he)]
    rfl
theorem depth_py {g : D → PyData} {n : Nat} : ∀ {ds : List D}, (∀ d ∈ ds, (g d).depth ≤ n) → PyData.depthAll (ds.map g) ≤ n
  | [], _ => Nat.zero_le _
  | d :: ds, h => by
    rw [List.map_cons, PyData.depthAll]
    have h1 := h d List.mem_cons_self
    have h2 := depth_py (ds := ds) fun e he => h e (List.mem_cons_of_mem _ he)
    omega
structure PyOk (n : Nat) (p : PyData) : Prop where
  lay : p.canLay0 = true
  deep : p.depth ≤ n
  shows : p.showable = true
  nodict : p.hasDict = false
  short : p.leavesShort 13 = true
theorem log_small {i : Int} (h : i.natAbs < 10 ^ 12) : i.natAbs.log2 < 1920 := by
  by_cases z : i.natAbs = 0
  · rw [z]
    decide
  · have h1 : i.natAbs < 2 ^ 1920 := Nat.lt_trans h (by decide)
    exact (Nat.log2_lt z).mpr h1
theorem py_ok : ∀ {n : Nat} {d : D}, Pl n d = true → PyOk n (D.py n d) := by
  have non : ∀ n, PyOk n .none := fun n => ⟨by rw [PyData.canLay0], by rw [PyData.depth]; exact Nat.zero_le _, by rw [PyData.showable], by rw [PyData.hasDict], by rw [PyData.leavesShort]⟩
  have int : ∀ n (i : Int), i.natAbs < 10 ^ 12 → PyOk n (.int i) := fun n i h => ⟨by rw [PyData.canLay0], by rw [PyData.depth]; exact Nat.zero_le _, by rw [PyData.showable]; exact decide_eq_true (log_small h), by rw [PyData.hasDict], by
    rw [PyData.leavesShort]
    have e := int_text_length_le10 (a := i) (k := 12) (by decide) h
    refine decide_eq_true ?_
    rw [PyData.shown, ofString_length]
    exact e⟩
  have str : ∀ n (s : Str), PyData.strOk s = true → PyOk n (.str s) := fun n s h => ⟨by rw [PyData.canLay0]; exact h, by rw [PyData.depth]; exact Nat.zero_le _, by rw [PyData.showable], by rw [PyData.hasDict], by
    rw [PyData.leavesShort]
    rw [PyData.strOk] at h
    rw [List.all_eq_true]
    intro c hc
    have h2 := (Array.all_eq_true_iff_forall_mem.mp h) c (by simpa using hc)
    have h3 : c < 0x110000 := of_decide_eq_true h2
    exact decide_eq_true (Nat.lt_trans h3 (by decide))⟩
  intro n
  induction n with
  | zero =>
    intro d h
    cases d with
    | non => exact non 0
    | int i => exact int 0 i (of_decide_eq_true h)
    | str s => exact str 0 s h
    | _ => cases h
  | succ n ih =>
    intro d h
    cases d with
    | non => exact non _
    | int i => exact int _ i (of_decide_eq_true h)
    | str s => exact str _ s h
    | tup ds =>
      obtain ⟨j, e, h1⟩ := pl_tup h
      cases e
      have h2 : ∀ d ∈ ds, PyOk n (D.py n d) := fun d hd => ih (h1 d hd)
      show PyOk (n + 1) (.tuple (ds.map (D.py n)))
      refine ⟨?_, ?_, ?_, ?_, ?_⟩
      · rw [PyData.canLay0]
        exact all_py (fs := PyData.canLayAll0) (by rw [PyData.canLayAll0]) (fun x xs => by rw [PyData.canLayAll0]) fun d hd => (h2 d hd).lay
      · rw [PyData.depth]
        have := depth_py fun d hd => (h2 d hd).deep
        omega
      · rw [PyData.showable]
        exact all_py (fs := PyData.showableAll) (by rw [PyData.showableAll]) (fun x xs => by rw [PyData.showableAll]) fun d hd => (h2 d hd).shows
      · rw [PyData.hasDict]
        exact any_py (fs := PyData.hasDictAll) (by rw [PyData.hasDictAll]) (fun x xs => by rw [PyData.hasDictAll]) fun d hd => (h2 d hd).nodict
      · rw [PyData.leavesShort]
        exact all_py (fs := PyData.leavesShortAll 13) (by rw [PyData.leavesShortAll]) (fun x xs => by rw [PyData.leavesShortAll]) fun d hd => (h2 d hd).short
    | _ => cases h
theorem eqv_map {g : D → PyData} : ∀ {ds es : List D}, (∀ d ∈ ds, ∀ e ∈ es, PyData.eqv (g d) (g e) = decide (d = e)) → PyData.eqvAll (ds.map g) (es.map g) = decide (ds = es)
  | [], [], _ => by rw [List.map_nil, PyData.eqvAll]; rfl
  | [], e :: es, _ => by rw [List.map_nil, List.map_cons, PyData.eqvAll]; rfl
  | d :: ds, [], _ => by rw [List.map_nil, List.map_cons, PyData.eqvAll]; rfl
  | d :: ds, e :: es, h => by
    rw [List.map_cons, List.map_cons, PyData.eqvAll, h d List.mem_cons_self e List.mem_cons_self, eqv_map fun a ha b hb => h a (List.mem_cons_of_mem _ ha) b (List.mem_cons_of_mem _ hb), Bool.eq_iff_iff]
    simp
theorem eqv_py : ∀ {n : Nat} {d e : D}, Pl n d = true → Pl n e = true → PyData.eqv (D.py n d) (D.py n e) = decide (d = e) := by
  intro n
  induction n with
  | zero =>
    intro d e h h2
    cases d <;> cases e <;> first | cases h <;> done | cases h2 <;> done | (simp only [D.py, PyData.eqv]; rw [Bool.eq_iff_iff]; simp)
  | succ n ih =>
    intro d e h h2
    cases d with
    | tup ds =>
      obtain ⟨j, q, h1⟩ := pl_tup h
      cases q
      cases e with
      | tup es =>
        obtain ⟨j, q, h3⟩ := pl_tup h2
        cases q
        show PyData.eqv (.tuple (ds.map (D.py n))) (.tuple (es.map (D.py n))) = _
        rw [PyData.eqv, eqv_map fun a ha b hb => ih (h1 a ha) (h3 b hb)]
        simp
      | non => simp only [D.py, PyData.eqv]; rfl
      | int i => simp only [D.py, PyData.eqv]; rfl
      | str s => simp only [D.py, PyData.eqv]; rfl
      | _ => cases h2
    | non => cases e <;> first | cases h2 <;> done | (simp only [D.py, PyData.eqv]; rw [Bool.eq_iff_iff]; simp)
    | int i => cases e <;> first | cases h2 <;> done | (simp only [D.py, PyData.eqv]; rw [Bool.eq_iff_iff]; simp)
    | str s => cases e <;> first | cases h2 <;> done | (simp only [D.py, PyData.eqv]; rw [Bool.eq_iff_iff]; simp)
    | _ => cases h
theorem shaped_pl {n : Nat} {d : D} (h : Pl n d = true) (hn : n ≤ 64) : SeqAt.shaped (D.py n d) = true := by
  have k := py_ok h
  unfold SeqAt.shaped
  rw [k.lay, decide_eq_true (Nat.le_trans k.deep hn)]
  rfl
theorem eqG_pl {neg : Bool} {n : Nat} {x y : D} {st : Store} (hx : Pl n x = true) (hy : Pl n y = true) (hn : n ≤ 64) : eqG neg x y st = some (.bl (if neg then !decide (x = y) else decide (x = y)), st) := by
  unfold eqG
  rw [pyOf_pl hx (by omega), pyOf_pl hy (by omega)]
  show (if SeqAt.shaped (D.py n x) = true ∧ SeqAt.shaped (D.py n y) = true then _ else _) = _
  rw [if_pos ⟨shaped_pl hx hn, shaped_pl hy hn⟩, eqv_py hx hy]
theorem eqD_pl {n : Nat} {x y : D} {st : Store} (hx : Pl n x = true) (hy : Pl n y = true) (hn : n ≤ 64) : eqD x y st = some (.bl (decide (x = y)), st) := by
  rcases eqD_gen x y st with ⟨a, b, rfl, rfl⟩ | ⟨a, b, rfl, rfl⟩ | ⟨a, b, rfl, rfl⟩ | ⟨e, _⟩
  · simp [eqD]
  · simp [eqD]
  · cases n <;> cases hx
  · rw [e, eqG_pl hx hy hn]
    rfl
theorem neD_pl {n : Nat} {x y : D} {st : Store} (hx : Pl n x = true) (hy : Pl n y = true) (hn : n ≤ 64) : neD x y st = some (.bl (!decide (x = y)), st) := by
  rcases eqD_gen x y st with ⟨a, b, rfl, rfl⟩ | ⟨a, b, rfl, rfl⟩ | ⟨a, b, rfl, rfl⟩ | ⟨_, e⟩
  · simp [neD]
  · simp [neD]
  · cases n <;> cases hx
  · rw [e, eqG_pl hx hy hn]
    rfl
/-! ### repr -/
theorem reprOk_of {n : Nat} {p : PyData} (h : PyOk n p) (hn : n ≤ 70) (hw : p.weight ≤ 2 ^ 20) : reprOk p = true := by
  unfold reprOk
  rw [h.shows, h.nodict, decide_eq_true (Nat.le_trans h.deep hn), decide_eq_true (PyData.shown_fits (B := 13) (by decide) (by decide) h.short hw)]
  rfl
theorem repr_of {d : D} {st : Store} {n : Nat} {p : PyData} (e : pyOf st 70 d = some p) (h : PyOk n p) (hn : n ≤ 70) (hw : p.weight ≤ 2 ^ 20) : reprB [d] st = some (.str p.shown, st) := by
  show ((pyOf st 70 d).bind fun p => if reprOk p = true then some (D.str p.shown, st) else none) = _
  rw [e]
  exact if_pos (reprOk_of h hn hw)
/-- a list of such -/
theorem lst_ok {n : Nat} {ps : List PyData} (h : ∀ p ∈ ps, PyOk n p) : PyOk (n + 1) (.list ps) := by
  have gen : ∀ {f : PyData → Bool} {fs : List PyData → Bool}, fs [] = true → (∀ x xs, fs (x :: xs) = (f x && fs xs)) → (∀ p ∈ ps, f p = true) → fs ps = true := fun {f fs} h0 hc => by
    clear h
    induction ps with
    | nil => exact fun _ => h0
    | cons p ps ih =>
      intro k
      rw [hc, k p List.mem_cons_self, ih fun q hq => k q (List.mem_cons_of_mem _ hq)]
      rfl
  have genF : ∀ {f : PyData → Bool} {fs : List PyData → Bool}, fs [] = false → (∀ x xs, fs (x :: xs) = (f x || fs xs)) → (∀ p ∈ ps, f p = false) → fs ps = false := fun {f fs} h0 hc => by
    clear h gen
    induction ps with
    | nil => exact fun _ => h0
    | cons p ps ih =>
      intro k
      rw [hc, k p List.mem_cons_self, ih fun q hq => k q (List.mem_cons_of_mem _ hq)]
      rfl
  refine ⟨?_, ?_, ?_, ?_, ?_⟩
  · rw [PyData.canLay0]
    exact gen (fs := PyData.canLayAll0) (by rw [PyData.canLayAll0]) (fun x xs => by rw [PyData.canLayAll0]) fun d hd => (h d hd).lay
  · rw [PyData.depth]
    have : PyData.depthAll ps ≤ n := by
      clear gen genF
      induction ps with
      | nil => exact Nat.zero_le _
      | cons p ps ih =>
        rw [PyData.depthAll]
        have h1 := (h p List.mem_cons_self).deep
        have h2 := ih fun q hq => h q (List.mem_cons_of_mem _ hq)
        omega
    omega
  · rw [PyData.showable]
    exact gen (fs := PyData.showableAll) (by rw [PyData.showableAll]) (fun x xs => by rw [PyData.showableAll]) fun d hd => (h d hd).shows
  · rw [PyData.hasDict]
    exact genF (fs := PyData.hasDictAll) (by rw [PyData.hasDictAll]) (fun x xs => by rw [PyData.hasDictAll]) fun d hd => (h d hd).nodict
  · rw [PyData.leavesShort]
    exact gen (fs := PyData.leavesShortAll 13) (by rw [PyData.leavesShortAll]) (fun x xs => by rw [PyData.leavesShortAll]) fun d hd => (h d hd).short
end PM
-- PMdraw
set_option Elab.async false
set_option linter.all false
set_option maxRecDepth 100000
set_option maxHeartbeats 4000000
/-! PM, the laws' draws: what _law_begun, _law_blended, _law_draw, _law_pick give. -/
namespace PM
open PySem L2
theorem seqWk_new {st : Store} {ds : List D} : seqWk (.loc st.length) (st ++ [.lst ds]) = some ⟨ds, some (st.length, .lst ds)⟩ := by
  show (rdL (st ++ [Cell.lst ds]) st.length).bind _ = _
  unfold rdL
  simp
def bBegun : SM := (sSeq (sAsg (mLc (mSeq (mV 0)) (.nm 2) (mT (m2 geD (mB absB (aCons (mV 2) aNil)) (m2 powD (mC (.int 10)) (mC (.int 18))))) (m2 subD (mB absB (aCons (mV 2) aNil)) (m2 powD (mC (.int 10)) (mC (.int 18)))) [2]) (.nm 1)) (sRet (mDct [("great", (mV 1)), ("cells", (mLc (mSeq (mV 0)) (.nm 2) mYes (mB absB (aCons (mV 2) aNil)) [2])), ("left", (mC (.int 0))), ("turn", (mC (.int 0)))])))
def bBlended : SM := (sSeq (sPar 1 3 (aCons (m2 addD (m2 ixD (mV 0) (mC (.str "turn"))) (mC (.int 1))) (aCons (mC (.int 0)) aNil))) (sSeq (sPut (mV 1) (mV 0) (mC (.str "turn"))) (sSeq (sFor (mSeq (mLst (aCons (mC (.int 2147481673)) (aCons (mC (.int 2147481629)) (aCons (mC (.int 2147481571)) aNil))))) (.nm 2) (sSeq (sAsg (m2 addD (m2 mulD (mC (.int 45841)) (mV 1)) (m2 divD (mV 2) (mC (.int 83)))) (.nm 4)) (sSeq (sFor (mSeq (m2 ixD (mV 0) (mC (.str "cells")))) (.nm 5) (sAsg (m2 modD (mB intB (aCons (m2 addD (m2 addD (m2 mulD (mV 4) (mC (.int 67453))) (mV 5)) (mV 1)) aNil)) (mV 2)) (.nm 4))) (sAsg (m2 addD (m2 mulD (mV 3) (mC (.int 2147483647))) (m2 modD (mB intB (aCons (m2 powD (mV 4) (mC (.int 5))) aNil)) (mV 2))) (.nm 3))))) (sRet (mV 3)))))
def bDraw (fB : FM) : SM := (sSeq (sIf (mT (m2 eqD (m2 ixD (mV 0) (mC (.str "left"))) (mC (.int 0)))) (sPut (mIf (mT (m2 neD (m2 ixD (mV 0) (mC (.str "great"))) (mLst aNil))) (mMt isLst popAtG (m2 ixD (mV 0) (mC (.str "great"))) (aCons (mC (.int 0)) aNil)) (mCall fB (aCons (mV 0) aNil))) (mV 0) (mC (.str "left"))) sNext) (sSeq (sAsg (m2 modD (mB intB (aCons (m2 ixD (mV 0) (mC (.str "left"))) aNil)) (mV 1)) (.nm 2)) (sSeq (sPut (m2 divD (m2 ixD (mV 0) (mC (.str "left"))) (mV 1)) (mV 0) (mC (.str "left"))) (sRet (mV 2)))))
def bPick (fD : FM) : SM := (sRet (m2 ixD (mV 1) (mCall fD (aCons (mV 0) (aCons (mB lenB (aCons (mV 1) aNil)) aNil)))))

/-! ### the store: the state in front -/
def hd (gs cs : List Int) (l t : Int) : Store := [.lst (gs.map .int), .lst (cs.map .int), .dct [(.inr "great", .loc 0), (.inr "cells", .loc 1), (.inr "left", .int l), (.inr "turn", .int t)]]
/-- the state holds, b draws may come -/
def Wd (b : Nat) (st rest : Store) : Prop := ∃ gs cs l t, (∀ x ∈ gs, (0 : Int) ≤ x) ∧ (∀ x ∈ cs, (0 : Int) ≤ x) ∧ (0 : Int) ≤ l ∧ (0 : Int) ≤ t ∧ t + (b : Int) ≤ 2 ^ 47 ∧ st = hd gs cs l t ++ rest
section
variable {b b' : Nat} {st rest : Store}
theorem Wd.len (h : Wd b st rest) : st.length = rest.length + 3 := by
  obtain ⟨gs, cs, l, t, _, _, _, _, _, rfl⟩ := h
  simp [hd]
theorem Wd.at (h : Wd b st rest) (i : Nat) : st[i + 3]? = rest[i]? := by
  obtain ⟨gs, cs, l, t, _, _, _, _, _, rfl⟩ := h
  rfl
theorem Wd.add (h : Wd b st rest) (g : Store) : Wd b (st ++ g) (rest ++ g) := by
  obtain ⟨gs, cs, l, t, h1, h2, h3, h4, h5, rfl⟩ := h
  exact ⟨gs, cs, l, t, h1, h2, h3, h4, h5, by rw [List.append_assoc]⟩
theorem Wd.set (h : Wd b st rest) (i : Nat) (c : Cell) : Wd b (st.set (i + 3) c) (rest.set i c) := by
  obtain ⟨gs, cs, l, t, h1, h2, h3, h4, h5, rfl⟩ := h
  exact ⟨gs, cs, l, t, h1, h2, h3, h4, h5, rfl⟩
theorem Wd.mono (h : Wd b st rest) (hb : b' ≤ b) : Wd b' st rest := by
  obtain ⟨gs, cs, l, t, h1, h2, h3, h4, h5, rfl⟩ := h
  exact ⟨gs, cs, l, t, h1, h2, h3, h4, by omega, rfl⟩
end
section
variable {gs cs : List Int} {l t k : Int} {rest : Store}
theorem ix_left : ixD (.loc 2) (.str "left") (hd gs cs l t ++ rest) = some (.int l, hd gs cs l t ++ rest) := by kernel_rfl
theorem ix_turn : ixD (.loc 2) (.str "turn") (hd gs cs l t ++ rest) = some (.int t, hd gs cs l t ++ rest) := by kernel_rfl
theorem ix_great : ixD (.loc 2) (.str "great") (hd gs cs l t ++ rest) = some (.loc 0, hd gs cs l t ++ rest) := by kernel_rfl
theorem ix_cells : ixD (.loc 2) (.str "cells") (hd gs cs l t ++ rest) = some (.loc 1, hd gs cs l t ++ rest) := by kernel_rfl
theorem put_left : putD (.loc 2) (.str "left") (.int k) (hd gs cs l t ++ rest) = some (hd gs cs k t ++ rest) := by kernel_rfl
theorem put_turn : putD (.loc 2) (.str "turn") (.int k) (hd gs cs l t ++ rest) = some (hd gs cs l k ++ rest) := by kernel_rfl
end
theorem mod_ok {i j : Int} {st : Store} (h : 0 < j) : modD (.int i) (.int j) st = some (.int (i % j), st) := by
  show (if decide (0 < j) = true then some (D.int (i % j), st) else none) = _
  rw [if_pos (decide_eq_true h)]
theorem div_ok {i j : Int} {st : Store} (h : 0 < j) (h2 : j < 2 ^ 64) : divD (.int i) (.int j) st = some (.int (i / j), st) := by
  have h3 : j.natAbs.log2 < 9000 := by
    by_cases z : j.natAbs = 0
    · rw [z]; decide
    · exact (Nat.log2_lt z).mpr (Nat.lt_of_lt_of_le (m := 2 ^ 64) (by omega) (Nat.pow_le_pow_right (by decide) (by decide)))
  show (if decide (0 < j ∧ j.natAbs.log2 < 9000) = true then some (D.int (i / j), st) else none) = _
  rw [if_pos (decide_eq_true ⟨h, h3⟩)]
theorem mul_ok {i j : Int} {st : Store} (h : 0 ≤ j) (h2 : j < 2 ^ 64) : mulD (.int i) (.int j) st = some (.int (i * j), st) := by
  show (if cMul i j = true then some (D.int (i * j), st) else none) = _
  refine if_pos (decide_eq_true (.inl (.inr ⟨?_, h2⟩)))
  have : (-(2 ^ 64) : Int) < 0 := by decide
  omega
theorem mul_ok' {i j : Int} {st : Store} (h : 0 ≤ i) (h2 : i < 2 ^ 64) : mulD (.int i) (.int j) st = some (.int (i * j), st) := by
  show (if cMul i j = true then some (D.int (i * j), st) else none) = _
  refine if_pos (decide_eq_true (.inl (.inl ⟨?_, h2⟩)))
  have : (-(2 ^ 64) : Int) < 0 := by decide
  omega
theorem pow_ok {i : Int} {st : Store} (h : 0 ≤ i) (h2 : i < 2 ^ 64) : powD (.int i) (.int 5) st = some (.int (i ^ 5), st) := by
  show (if cPow i 5 = true then some (D.int (i ^ 5), st) else none) = _
  refine if_pos (decide_eq_true ⟨by decide, by decide, ?_⟩)
  have e : ((2 : Int) ^ 64) = ((2 ^ 64 : Nat) : Int) := by norm_cast
  omega
section
variable {i j : Int} {a b : Str} {st : Store}
theorem eq_i : eqD (.int i) (.int j) st = some (.bl (decide (i = j)), st) := rfl
theorem ne_i : neD (.int i) (.int j) st = some (.bl (!decide (i = j)), st) := rfl
theorem lt_i : ltD (.int i) (.int j) st = some (.bl (decide (i < j)), st) := rfl
theorem le_i : leD (.int i) (.int j) st = some (.bl (decide (i ≤ j)), st) := rfl
theorem gt_i : gtD (.int i) (.int j) st = some (.bl (decide (j < i)), st) := rfl
theorem ge_i : geD (.int i) (.int j) st = some (.bl (decide (j ≤ i)), st) := rfl
theorem eq_s : eqD (.str a) (.str b) st = some (.bl (decide (a = b)), st) := rfl
theorem ne_s : neD (.str a) (.str b) st = some (.bl (!decide (a = b)), st) := rfl
end
theorem add_ii {i j : Int} {st : Store} : addD (.int i) (.int j) st = some (.int (i + j), st) := rfl
theorem sub_ii {i j : Int} {st : Store} : subD (.int i) (.int j) st = some (.int (i - j), st) := rfl
theorem int_i {i : Int} {st : Store} : intB [.int i] st = some (.int i, st) := rfl
/-- blended -/
theorem blended_ok {b : Nat} {st rest : Store} (h : Wd (b + 1) st rest) : Wp (mDef 1 6 bBlended [.loc 2] st) fun d st' => ∃ k : Int, d = .int k ∧ 0 ≤ k ∧ ∃ g, Wd b st' (rest ++ g) ∧ ∀ c, st[0]? = some c → st'[0]? = some c := by
  obtain ⟨gs, cs, l, t, h1, h2, h3, h4, h5, rfl⟩ := h
  rw [wp_def (show [D.loc 2].length = 1 from rfl)]
  simp only [bBlended, wp_bind, wp_ok, wp_some, wp_at, Res.bind_ok, Res.bind_stuck, Res.of_some, sSeq, sRet, sRetN, sNext, sBreak, sCont, sIf, sExpr, sAsg, sPar, sPar3, par2, par3, nxO, nxS, sPut, sFor, asg, asgs, m2, mV, mC, mT, mAndT, mOrT, mNotT, mYes, mAnd, mOr, mNot, mIf, aNil, aCons, mTup, mLst, mB, mSl, oNo, oSome, mMt, mSeq, mRng, mEnum, mZip, mCall, mCallK, mNeg, mChain, mLenSet, mLc, List.map_cons, List.map_nil, List.replicate, List.cons_append, List.nil_append, List.getElem?_cons_zero, List.getElem?_cons_succ, List.set_cons_zero, List.set_cons_succ, List.length_cons, List.length_nil, outQ, Nat.sub_zero, Nat.reduceSub, sizeLine_eq, Nat.reduceAdd, Nat.reduceLeDiff, if_true, Option.map_some, seqWk_new, add_ii, sub_ii, int_i, eq_i, ne_i, lt_i, le_i, gt_i, ge_i, eq_s, ne_s, Bool.false_eq_true, if_false, decide_true, decide_false, eq_self, Int.reduceEq, Int.reduceLT, Int.reduceLE, Int.reduceSub, Int.reduceAdd, Int.reduceNeg, Int.reduceMul, or_true, true_or, or_false, false_or, Bool.not_true, Bool.not_false, ix_turn, ix_cells, put_turn]
  generalize hS : hd gs cs l (t + 1) ++ rest = S
  have e1 : (hd gs cs l (t + 1) ++ rest ++ [Cell.lst [D.int 2147481673, D.int 2147481629, D.int 2147481571]])[1]? = some (.lst (cs.map .int)) := rfl
  have hcell : ixD (.loc 2) (.str "cells") (S ++ [Cell.lst [D.int 2147481673, D.int 2147481629, D.int 2147481571]]) = some (.loc 1, S ++ [Cell.lst [D.int 2147481673, D.int 2147481629, D.int 2147481571]]) := by
    rw [← hS, List.append_assoc]
    exact ix_cells
  have hseq : seqWk (.loc 1) (S ++ [Cell.lst [D.int 2147481673, D.int 2147481629, D.int 2147481571]]) = some ⟨cs.map .int, some (1, .lst (cs.map .int))⟩ := by
    rw [hS] at e1
    show (rdL _ 1).bind _ = _
    unfold rdL
    rw [e1]
    rfl
  refine wp_for (fun i env st => st = S ++ [Cell.lst [D.int 2147481673, D.int 2147481629, D.int 2147481571]] ∧ ∃ (f : Int) (x y z : Option D), 0 ≤ f ∧ env = [some (.loc 2), some (.int (t + 1)), x, some (.int f), y, z]) ⟨rfl, 0, none, none, none, Int.le_refl 0, rfl⟩ ?_ ?_
  · rintro i d env st' hd ⟨rfl, f, x, y, z, hf, rfl⟩
    obtain ⟨q, rfl, hq1, hq2⟩ : ∃ q : Int, d = .int q ∧ 1000 < q ∧ q < 2 ^ 31 := by
      rcases i with _ | _ | _ | i
      · cases hd; exact ⟨_, rfl, by decide, by decide⟩
      · cases hd; exact ⟨_, rfl, by decide, by decide⟩
      · cases hd; exact ⟨_, rfl, by decide, by decide⟩
      · simp at hd
    refine ⟨by simp [Wk.ok], _, rfl, ?_⟩
    have em : ∀ s, mulD (.int 45841) (.int (t + 1)) s = some (.int (45841 * (t + 1)), s) := fun s => mul_ok' (by decide) (by decide)
    have ed : ∀ s, divD (.int q) (.int 83) s = some (.int (q / 83), s) := fun s => div_ok (by decide) (by decide)
    simp only [wp_bind, wp_ok, wp_some, wp_at, Res.bind_ok, Res.bind_stuck, Res.of_some, sSeq, sRet, sRetN, sNext, sBreak, sCont, sIf, sExpr, sAsg, sPar, sPar3, par2, par3, nxO, nxS, sPut, sFor, asg, asgs, m2, mV, mC, mT, mAndT, mOrT, mNotT, mYes, mAnd, mOr, mNot, mIf, aNil, aCons, mTup, mLst, mB, mSl, oNo, oSome, mMt, mSeq, mRng, mEnum, mZip, mCall, mCallK, mNeg, mChain, mLenSet, mLc, List.map_cons, List.map_nil, List.replicate, List.cons_append, List.nil_append, List.getElem?_cons_zero, List.getElem?_cons_succ, List.set_cons_zero, List.set_cons_succ, List.length_cons, List.length_nil, outQ, Nat.sub_zero, Nat.reduceSub, sizeLine_eq, Nat.reduceAdd, Nat.reduceLeDiff, if_true, Option.map_some, seqWk_new, add_ii, sub_ii, int_i, eq_i, ne_i, lt_i, le_i, gt_i, ge_i, eq_s, ne_s, Bool.false_eq_true, if_false, decide_true, decide_false, eq_self, Int.reduceEq, Int.reduceLT, Int.reduceLE, Int.reduceSub, Int.reduceAdd, Int.reduceNeg, Int.reduceMul, or_true, true_or, or_false, false_or, Bool.not_true, Bool.not_false, em, ed, hcell, hseq]
    refine wp_for (fun i env st => st = S ++ [Cell.lst [D.int 2147481673, D.int 2147481629, D.int 2147481571]] ∧ ∃ (bl : Int) (z : Option D), 0 ≤ bl ∧ bl < 2 ^ 64 ∧ env = [some (.loc 2), some (.int (t + 1)), some (.int q), some (.int f), some (.int bl), z]) ⟨rfl, _, z, ?_, ?_, rfl⟩ ?_ ?_
    · have : 0 ≤ q / 83 := Int.ediv_nonneg (by omega) (by decide)
      omega
    · have : q / 83 ≤ q := Int.ediv_le_self _ (by omega)
      have e64 : (2 : Int) ^ 64 = 18446744073709551616 := by decide
      have e47 : (2 : Int) ^ 47 = 140737488355328 := by decide
      have e31 : (2 : Int) ^ 31 = 2147483648 := by decide
      omega
    · rintro j d env st' hd ⟨rfl, bl, z, hb1, hb2, rfl⟩
      have hd' : (cs.map D.int)[j]? = some d := hd
      rw [List.getElem?_map] at hd'
      obtain ⟨c, hc, rfl⟩ := map_some hd'
      refine ⟨?_, _, rfl, ?_⟩
      · rw [hS] at e1
        exact decide_eq_true e1
      have em : ∀ s, mulD (.int bl) (.int 67453) s = some (.int (bl * 67453), s) := fun s => mul_ok (by decide) (by decide)
      have eo : ∀ (v : Int) s, modD (.int v) (.int q) s = some (.int (v % q), s) := fun v s => mod_ok (by omega)
      simp only [wp_bind, wp_ok, wp_some, wp_at, Res.bind_ok, Res.bind_stuck, Res.of_some, sSeq, sRet, sRetN, sNext, sBreak, sCont, sIf, sExpr, sAsg, sPar, sPar3, par2, par3, nxO, nxS, sPut, sFor, asg, asgs, m2, mV, mC, mT, mAndT, mOrT, mNotT, mYes, mAnd, mOr, mNot, mIf, aNil, aCons, mTup, mLst, mB, mSl, oNo, oSome, mMt, mSeq, mRng, mEnum, mZip, mCall, mCallK, mNeg, mChain, mLenSet, mLc, List.map_cons, List.map_nil, List.replicate, List.cons_append, List.nil_append, List.getElem?_cons_zero, List.getElem?_cons_succ, List.set_cons_zero, List.set_cons_succ, List.length_cons, List.length_nil, outQ, Nat.sub_zero, Nat.reduceSub, sizeLine_eq, Nat.reduceAdd, Nat.reduceLeDiff, if_true, Option.map_some, seqWk_new, add_ii, sub_ii, int_i, eq_i, ne_i, lt_i, le_i, gt_i, ge_i, eq_s, ne_s, Bool.false_eq_true, if_false, decide_true, decide_false, eq_self, Int.reduceEq, Int.reduceLT, Int.reduceLE, Int.reduceSub, Int.reduceAdd, Int.reduceNeg, Int.reduceMul, or_true, true_or, or_false, false_or, Bool.not_true, Bool.not_false, em, eo]
      refine ⟨trivial, _, _, Int.emod_nonneg _ (by omega), ?_, rfl⟩
      have := Int.emod_lt_of_pos (bl * 67453 + c + (t + 1)) (show 0 < q by omega)
      have e64 : (2 : Int) ^ 64 = 18446744073709551616 := by decide
      have e31 : (2 : Int) ^ 31 = 2147483648 := by decide
      omega
    · rintro env st' ⟨rfl, bl, z, hb1, hb2, rfl⟩
      refine ⟨?_, ?_⟩
      · rw [hS] at e1
        exact decide_eq_true e1
      have em : ∀ (v : Int) s, mulD (.int v) (.int 2147483647) s = some (.int (v * 2147483647), s) := fun v s => mul_ok (by decide) (by decide)
      have ep : ∀ s, powD (.int bl) (.int 5) s = some (.int (bl ^ 5), s) := fun s => pow_ok hb1 hb2
      have eo : ∀ (v : Int) s, modD (.int v) (.int q) s = some (.int (v % q), s) := fun v s => mod_ok (by omega)
      simp only [wp_bind, wp_ok, wp_some, wp_at, Res.bind_ok, Res.bind_stuck, Res.of_some, sSeq, sRet, sRetN, sNext, sBreak, sCont, sIf, sExpr, sAsg, sPar, sPar3, par2, par3, nxO, nxS, sPut, sFor, asg, asgs, m2, mV, mC, mT, mAndT, mOrT, mNotT, mYes, mAnd, mOr, mNot, mIf, aNil, aCons, mTup, mLst, mB, mSl, oNo, oSome, mMt, mSeq, mRng, mEnum, mZip, mCall, mCallK, mNeg, mChain, mLenSet, mLc, List.map_cons, List.map_nil, List.replicate, List.cons_append, List.nil_append, List.getElem?_cons_zero, List.getElem?_cons_succ, List.set_cons_zero, List.set_cons_succ, List.length_cons, List.length_nil, outQ, Nat.sub_zero, Nat.reduceSub, sizeLine_eq, Nat.reduceAdd, Nat.reduceLeDiff, if_true, Option.map_some, seqWk_new, add_ii, sub_ii, int_i, eq_i, ne_i, lt_i, le_i, gt_i, ge_i, eq_s, ne_s, Bool.false_eq_true, if_false, decide_true, decide_false, eq_self, Int.reduceEq, Int.reduceLT, Int.reduceLE, Int.reduceSub, Int.reduceAdd, Int.reduceNeg, Int.reduceMul, or_true, true_or, or_false, false_or, Bool.not_true, Bool.not_false, em, eo, ep]
      refine ⟨trivial, _, _, _, _, ?_, rfl⟩
      have := Int.emod_nonneg (bl ^ 5) (show q ≠ 0 by omega)
      omega
  · rintro env st' ⟨rfl, f, x, y, z, hf, rfl⟩
    refine ⟨by simp [Wk.ok], ?_⟩
    simp only [wp_bind, wp_ok, wp_some, wp_at, Res.bind_ok, Res.bind_stuck, Res.of_some, sSeq, sRet, sRetN, sNext, sBreak, sCont, sIf, sExpr, sAsg, sPar, sPar3, par2, par3, nxO, nxS, sPut, sFor, asg, asgs, m2, mV, mC, mT, mAndT, mOrT, mNotT, mYes, mAnd, mOr, mNot, mIf, aNil, aCons, mTup, mLst, mB, mSl, oNo, oSome, mMt, mSeq, mRng, mEnum, mZip, mCall, mCallK, mNeg, mChain, mLenSet, mLc, List.map_cons, List.map_nil, List.replicate, List.cons_append, List.nil_append, List.getElem?_cons_zero, List.getElem?_cons_succ, List.set_cons_zero, List.set_cons_succ, List.length_cons, List.length_nil, outQ, Nat.sub_zero, Nat.reduceSub, sizeLine_eq, Nat.reduceAdd, Nat.reduceLeDiff, if_true, Option.map_some, seqWk_new, add_ii, sub_ii, int_i, eq_i, ne_i, lt_i, le_i, gt_i, ge_i, eq_s, ne_s, Bool.false_eq_true, if_false, decide_true, decide_false, eq_self, Int.reduceEq, Int.reduceLT, Int.reduceLE, Int.reduceSub, Int.reduceAdd, Int.reduceNeg, Int.reduceMul, or_true, true_or, or_false, false_or, Bool.not_true, Bool.not_false]
    refine ⟨f, rfl, hf, [Cell.lst [D.int 2147481673, D.int 2147481629, D.int 2147481571]], ⟨gs, cs, l, t + 1, h1, h2, h3, by omega, by omega, by rw [← hS, List.append_assoc]⟩, fun c hc => ?_⟩
    rw [← hS]
    exact hc
theorem wp_seq {a b : SM} {env : PM.Env} {st : Store} {Q : Fl → Store → Prop} (h : Wp (a env st) fun f st' => match f with
    | .nx e => Wp (b e st') Q
    | f => Q f st') : Wp (sSeq a b env st) Q := by
  unfold sSeq
  rw [wp_bind]
  refine h.imp fun f st' q => ?_
  cases f <;> exact q
theorem pyL_ints {st : Store} {n : Nat} : ∀ gs : List Int, pyL (pyOf st n) (gs.map .int) = some (gs.map PyData.int)
  | [] => rfl
  | g :: gs => by
    have e : pyOf st n (.int g) = some (.int g) := by cases n <;> rfl
    rw [List.map_cons, pyL, e]
    show ((pyL (pyOf st n) (gs.map .int)).map fun ps => PyData.int g :: ps) = _
    rw [pyL_ints gs]
    rfl
theorem shaped_ints (gs : List Int) : SeqAt.shaped (.list (gs.map PyData.int)) = true := by
  have h1 : PyData.canLayAll0 (gs.map PyData.int) = true := by
    induction gs with
    | nil => rw [List.map_nil, PyData.canLayAll0]
    | cons g gs ih => rw [List.map_cons, PyData.canLayAll0, PyData.canLay0, ih]; rfl
  have h2 : PyData.depthAll (gs.map PyData.int) = 0 := by
    clear h1
    induction gs with
    | nil => rw [List.map_nil, PyData.depthAll]
    | cons g gs ih => rw [List.map_cons, PyData.depthAll, PyData.depth, ih]; rfl
  unfold SeqAt.shaped
  rw [PyData.canLay0, PyData.depth, h1, h2]
  rfl
theorem ne_great {gs cs : List Int} {l t : Int} {rest : Store} : neD (.loc 0) (.loc (hd gs cs l t ++ rest).length) (hd gs cs l t ++ rest ++ [.lst []]) = some (.bl (!decide (gs = [])), hd gs cs l t ++ rest ++ [.lst []]) := by
  have e1 : pyOf (hd gs cs l t ++ rest ++ [.lst []]) 70 (.loc 0) = some (.list (gs.map PyData.int)) := by
    show (rdL (hd gs cs l t ++ rest ++ [.lst []]) 0).bind (fun ds => (pyL (pyOf (hd gs cs l t ++ rest ++ [.lst []]) 69) ds).map PyData.list) = _
    rw [show rdL (hd gs cs l t ++ rest ++ [.lst []]) 0 = some (gs.map .int) from rfl]
    show (pyL _ _).map _ = _
    rw [pyL_ints]
    rfl
  have e2 : pyOf (hd gs cs l t ++ rest ++ [.lst []]) 70 (.loc (hd gs cs l t ++ rest).length) = some (.list ([].map PyData.int)) := by
    show (rdL (hd gs cs l t ++ rest ++ [.lst []]) (hd gs cs l t ++ rest).length).bind (fun ds => (pyL (pyOf (hd gs cs l t ++ rest ++ [.lst []]) 69) ds).map PyData.list) = _
    rw [show rdL (hd gs cs l t ++ rest ++ [.lst []]) (hd gs cs l t ++ rest).length = some [] by unfold rdL; simp]
    rfl
  show eqG true _ _ _ = _
  unfold eqG
  rw [e1, e2]
  show (if SeqAt.shaped (.list (gs.map PyData.int)) = true ∧ SeqAt.shaped (.list (([] : List Int).map PyData.int)) = true then _ else _) = _
  rw [if_pos ⟨shaped_ints gs, shaped_ints []⟩]
  cases gs with
  | nil => rw [PyData.eqv, List.map_nil, PyData.eqvAll]; rfl
  | cons g gs => rw [PyData.eqv, List.map_nil, List.map_cons, PyData.eqvAll]; simp
theorem pop_great {g : Int} {gs cs : List Int} {l t : Int} {rest : Store} : popAtG (.loc 0) [.int 0] (hd (g :: gs) cs l t ++ rest) = some (.int g, hd gs cs l t ++ rest) := by
  have e : seqIndex? 0 ((g :: gs).map D.int).length = some 0 := by
    rw [seqIndex_of (Int.le_refl 0) (by simp)]
    rfl
  show ((wrL (hd (g :: gs) cs l t ++ rest) 0).bind fun ds => if -(2 ^ 63) ≤ (0 : Int) ∧ (0 : Int) < 2 ^ 63 then (seqIndex? 0 ds.length).bind fun k => (ds[k]?).map fun d => (d, (hd (g :: gs) cs l t ++ rest).set 0 (.lst (ds.eraseIdx k))) else none) = _
  rw [show wrL (hd (g :: gs) cs l t ++ rest) 0 = some ((g :: gs).map D.int) from rfl]
  show (if -(2 ^ 63) ≤ (0 : Int) ∧ (0 : Int) < 2 ^ 63 then (seqIndex? 0 ((g :: gs).map D.int).length).bind _ else none) = _
  rw [if_pos (by decide), e]
  rfl
theorem draw_ok {b : Nat} {st rest : Store} {fB : FM} {sz : Int} (h : Wd (b + 1) st rest) (hs : 0 < sz) (hs2 : sz < 2 ^ 64)
    (hB : ∀ st rest, Wd (b + 1) st rest → Wp (fB [.loc 2] st) fun d st' => ∃ k : Int, d = .int k ∧ 0 ≤ k ∧ ∃ g, Wd b st' (rest ++ g)) :
    Wp (mDef 2 3 (bDraw fB) [.loc 2, .int sz] st) fun d st' => ∃ k : Int, d = .int k ∧ 0 ≤ k ∧ k < sz ∧ ∃ g, Wd b st' (rest ++ g) := by
  rw [wp_def (show [D.loc 2, D.int sz].length = 2 from rfl)]
  unfold bDraw
  generalize hT : sSeq (sAsg (m2 modD (mB intB (aCons (m2 ixD (mV 0) (mC (.str "left"))) aNil)) (mV 1)) (.nm 2)) (sSeq (sPut (m2 divD (m2 ixD (mV 0) (mC (.str "left"))) (mV 1)) (mV 0) (mC (.str "left"))) (sRet (mV 2))) = tl
  refine wp_seq ?_
  have eo : ∀ (v : Int) s, modD (.int v) (.int sz) s = some (.int (v % sz), s) := fun v s => mod_ok hs
  have ed : ∀ (v : Int) s, divD (.int v) (.int sz) s = some (.int (v / sz), s) := fun v s => div_ok hs hs2
  have tail : ∀ st g, Wd b st (rest ++ g) → Wp (tl [some (.loc 2), some (.int sz), none] st)
      (outQ fun d st' => ∃ k : Int, d = .int k ∧ 0 ≤ k ∧ k < sz ∧ ∃ g, Wd b st' (rest ++ g)) := by
    rintro st g ⟨gs, cs, l, t, h1, h2, h3, h4, h5, rfl⟩
    rw [← hT]
    simp only [wp_bind, wp_ok, wp_some, wp_at, Res.bind_ok, Res.bind_stuck, Res.of_some, sSeq, sRet, sRetN, sNext, sBreak, sCont, sIf, sExpr, sAsg, sPar, sPar3, par2, par3, nxO, nxS, sPut, sFor, asg, asgs, m2, mV, mC, mT, mAndT, mOrT, mNotT, mYes, mAnd, mOr, mNot, mIf, aNil, aCons, mTup, mLst, mB, mSl, oNo, oSome, mMt, mSeq, mRng, mEnum, mZip, mCall, mCallK, mNeg, mChain, mLenSet, mLc, List.map_cons, List.map_nil, List.replicate, List.cons_append, List.nil_append, List.getElem?_cons_zero, List.getElem?_cons_succ, List.set_cons_zero, List.set_cons_succ, List.length_cons, List.length_nil, outQ, Nat.sub_zero, Nat.reduceSub, sizeLine_eq, Nat.reduceAdd, Nat.reduceLeDiff, if_true, Option.map_some, seqWk_new, add_ii, sub_ii, int_i, eq_i, ne_i, lt_i, le_i, gt_i, ge_i, eq_s, ne_s, Bool.false_eq_true, if_false, decide_true, decide_false, eq_self, Int.reduceEq, Int.reduceLT, Int.reduceLE, Int.reduceSub, Int.reduceAdd, Int.reduceNeg, Int.reduceMul, or_true, true_or, or_false, false_or, Bool.not_true, Bool.not_false, ix_left, eo, ed, put_left]
    exact ⟨_, rfl, Int.emod_nonneg _ (by omega), Int.emod_lt_of_pos _ hs, g, gs, cs, _, t, h1, h2, Int.ediv_nonneg h3 (by omega), h4, h5, rfl⟩
  obtain ⟨gs, cs, l, t, h1, h2, h3, h4, h5, rfl⟩ := h
  have eq : ∀ s, eqD (.int l) (.int 0) s = some (.bl (decide (l = 0)), s) := fun _ => rfl
  simp only [wp_bind, wp_ok, wp_some, wp_at, Res.bind_ok, Res.bind_stuck, Res.of_some, sSeq, sRet, sRetN, sNext, sBreak, sCont, sIf, sExpr, sAsg, sPar, sPar3, par2, par3, nxO, nxS, sPut, sFor, asg, asgs, m2, mV, mC, mT, mAndT, mOrT, mNotT, mYes, mAnd, mOr, mNot, mIf, aNil, aCons, mTup, mLst, mB, mSl, oNo, oSome, mMt, mSeq, mRng, mEnum, mZip, mCall, mCallK, mNeg, mChain, mLenSet, mLc, List.map_cons, List.map_nil, List.replicate, List.cons_append, List.nil_append, List.getElem?_cons_zero, List.getElem?_cons_succ, List.set_cons_zero, List.set_cons_succ, List.length_cons, List.length_nil, outQ, Nat.sub_zero, Nat.reduceSub, sizeLine_eq, Nat.reduceAdd, Nat.reduceLeDiff, if_true, Option.map_some, seqWk_new, add_ii, sub_ii, int_i, eq_i, ne_i, lt_i, le_i, gt_i, ge_i, eq_s, ne_s, Bool.false_eq_true, if_false, decide_true, decide_false, eq_self, Int.reduceEq, Int.reduceLT, Int.reduceLE, Int.reduceSub, Int.reduceAdd, Int.reduceNeg, Int.reduceMul, or_true, true_or, or_false, false_or, Bool.not_true, Bool.not_false, ix_left, eq]
  by_cases hl : l = 0
  case neg =>
    simp only [hl, decide_false, Bool.false_eq_true, if_false, wp_ok]
    refine tail _ [] ⟨gs, cs, l, t, h1, h2, h3, h4, by omega, by rw [List.append_nil]⟩
  simp only [hl, decide_true, if_true, wp_bind, ix_great, wp_some, wp_ok, List.map_nil, ne_great]
  subst hl
  cases gs with
  | nil =>
    simp only [decide_true, Bool.not_true, Bool.false_eq_true, if_false, wp_at]
    refine (hB _ _ (Wd.add ⟨[], cs, 0, t, h1, h2, h3, h4, h5, rfl⟩ [.lst []])).imp fun d st' ⟨k, e, hk, g, w⟩ => ?_
    subst e
    obtain ⟨gs', cs', l', t', q1, q2, q3, q4, q5, rfl⟩ := w
    simp only [wp_bind, wp_ok, wp_some, wp_at, Res.bind_ok, Res.bind_stuck, Res.of_some, sSeq, sRet, sRetN, sNext, sBreak, sCont, sIf, sExpr, sAsg, sPar, sPar3, par2, par3, nxO, nxS, sPut, sFor, asg, asgs, m2, mV, mC, mT, mAndT, mOrT, mNotT, mYes, mAnd, mOr, mNot, mIf, aNil, aCons, mTup, mLst, mB, mSl, oNo, oSome, mMt, mSeq, mRng, mEnum, mZip, mCall, mCallK, mNeg, mChain, mLenSet, mLc, List.map_cons, List.map_nil, List.replicate, List.cons_append, List.nil_append, List.getElem?_cons_zero, List.getElem?_cons_succ, List.set_cons_zero, List.set_cons_succ, List.length_cons, List.length_nil, outQ, Nat.sub_zero, Nat.reduceSub, sizeLine_eq, Nat.reduceAdd, Nat.reduceLeDiff, if_true, Option.map_some, seqWk_new, add_ii, sub_ii, int_i, eq_i, ne_i, lt_i, le_i, gt_i, ge_i, eq_s, ne_s, Bool.false_eq_true, if_false, decide_true, decide_false, eq_self, Int.reduceEq, Int.reduceLT, Int.reduceLE, Int.reduceSub, Int.reduceAdd, Int.reduceNeg, Int.reduceMul, or_true, true_or, or_false, false_or, Bool.not_true, Bool.not_false, put_left]
    exact tail _ ([.lst []] ++ g) ⟨gs', cs', k, t', q1, q2, hk, q4, q5, by simp only [List.append_assoc]⟩
  | cons g gs =>
    have el : isLst (.loc 0) (hd (g :: gs) cs 0 t ++ rest ++ [Cell.lst []]) = true := rfl
    have ep : popAtG (.loc 0) [.int 0] (hd (g :: gs) cs 0 t ++ rest ++ [Cell.lst []]) = some (.int g, hd gs cs 0 t ++ rest ++ [Cell.lst []]) := by
      rw [List.append_assoc, List.append_assoc]
      exact pop_great
    have ex : ixD (.loc 2) (.str "great") (hd (g :: gs) cs 0 t ++ rest ++ [Cell.lst []]) = some (.loc 0, hd (g :: gs) cs 0 t ++ rest ++ [Cell.lst []]) := by
      rw [List.append_assoc]
      exact ix_great
    have eu : putD (.loc 2) (.str "left") (.int g) (hd gs cs 0 t ++ rest ++ [Cell.lst []]) = some (hd gs cs g t ++ rest ++ [Cell.lst []]) := by
      rw [List.append_assoc, List.append_assoc]
      exact put_left
    simp only [reduceCtorEq, decide_false, Bool.not_false, if_true, wp_bind, wp_ok, wp_some, wp_at, Res.bind_ok, Res.bind_stuck, Res.of_some, sSeq, sRet, sRetN, sNext, sBreak, sCont, sIf, sExpr, sAsg, sPar, sPar3, par2, par3, nxO, nxS, sPut, sFor, asg, asgs, m2, mV, mC, mT, mAndT, mOrT, mNotT, mYes, mAnd, mOr, mNot, mIf, aNil, aCons, mTup, mLst, mB, mSl, oNo, oSome, mMt, mSeq, mRng, mEnum, mZip, mCall, mCallK, mNeg, mChain, mLenSet, mLc, List.map_cons, List.map_nil, List.replicate, List.cons_append, List.nil_append, List.getElem?_cons_zero, List.getElem?_cons_succ, List.set_cons_zero, List.set_cons_succ, List.length_cons, List.length_nil, outQ, Nat.sub_zero, Nat.reduceSub, sizeLine_eq, Nat.reduceAdd, Nat.reduceLeDiff, if_true, Option.map_some, seqWk_new, add_ii, sub_ii, int_i, eq_i, ne_i, lt_i, le_i, gt_i, ge_i, eq_s, ne_s, Bool.false_eq_true, if_false, decide_true, decide_false, eq_self, Int.reduceEq, Int.reduceLT, Int.reduceLE, Int.reduceSub, Int.reduceAdd, Int.reduceNeg, Int.reduceMul, or_true, true_or, or_false, false_or, Bool.not_true, Bool.not_false, ex, el, ep, eu]
    exact tail _ [.lst []] ⟨gs, cs, g, t, fun x hx => h1 x (List.mem_cons_of_mem _ hx), h2, h1 g List.mem_cons_self, h4, by omega, by rw [List.append_assoc]⟩
theorem atI_lt {α : Type} {xs : List α} {k : Int} (h0 : 0 ≤ k) (h1 : k < xs.length) : ∃ x ∈ xs, L2.atI xs k = some x := by
  have hk : k.toNat < xs.length := by omega
  refine ⟨xs[k.toNat], List.getElem_mem hk, ?_⟩
  have e := atI_nat (xs := xs) (j := k.toNat) (v := xs[k.toNat]) (List.getElem?_eq_getElem hk)
  rwa [Int.toNat_of_nonneg h0] at e
theorem pickL_ok {b i : Nat} {st rest : Store} {fD : FM} {ds : List D} (h : Wd (b + 1) st rest) (hi : rest[i]? = some (.lst ds)) (hn : ds ≠ []) (hl : ds.length < 2 ^ 60)
    (hD : ∀ sz st rest, (0 : Int) < sz → sz < 2 ^ 64 → Wd (b + 1) st rest → Wp (fD [.loc 2, .int sz] st) fun d st' => ∃ k : Int, d = .int k ∧ 0 ≤ k ∧ k < sz ∧ ∃ g, Wd b st' (rest ++ g)) :
    Wp (mDef 2 2 (bPick fD) [.loc 2, .loc (i + 3)] st) fun d st' => d ∈ ds ∧ ∃ g, Wd b st' (rest ++ g) := by
  rw [wp_def (show [D.loc 2, D.loc (i + 3)].length = 2 from rfl)]
  have e1 : rdL st (i + 3) = some ds := by
    unfold rdL
    rw [h.at, hi]
  have e2 : lenB [.loc (i + 3)] st = some (.int ds.length, st) := by
    show (rdL st (i + 3)).map _ = _
    rw [e1]
    rfl
  simp only [bPick, wp_bind, wp_ok, wp_some, wp_at, Res.bind_ok, Res.bind_stuck, Res.of_some, sSeq, sRet, sRetN, sNext, sBreak, sCont, sIf, sExpr, sAsg, sPar, sPar3, par2, par3, nxO, nxS, sPut, sFor, asg, asgs, m2, mV, mC, mT, mAndT, mOrT, mNotT, mYes, mAnd, mOr, mNot, mIf, aNil, aCons, mTup, mLst, mB, mSl, oNo, oSome, mMt, mSeq, mRng, mEnum, mZip, mCall, mCallK, mNeg, mChain, mLenSet, mLc, List.map_cons, List.map_nil, List.replicate, List.cons_append, List.nil_append, List.getElem?_cons_zero, List.getElem?_cons_succ, List.set_cons_zero, List.set_cons_succ, List.length_cons, List.length_nil, outQ, Nat.sub_zero, Nat.reduceSub, sizeLine_eq, Nat.reduceAdd, Nat.reduceLeDiff, if_true, Option.map_some, seqWk_new, add_ii, sub_ii, int_i, eq_i, ne_i, lt_i, le_i, gt_i, ge_i, eq_s, ne_s, Bool.false_eq_true, if_false, decide_true, decide_false, eq_self, Int.reduceEq, Int.reduceLT, Int.reduceLE, Int.reduceSub, Int.reduceAdd, Int.reduceNeg, Int.reduceMul, or_true, true_or, or_false, false_or, Bool.not_true, Bool.not_false, e2]
  have hp : 0 < ds.length := List.length_pos_iff.mpr hn
  refine (hD ds.length st rest (by omega) (by omega) h).imp fun d st' ⟨k, e, hk, hk2, g, w⟩ => ?_
  subst e
  obtain ⟨x, hx, ex⟩ := atI_lt hk hk2
  have e3 : st'[i + 3]? = some (.lst ds) := by
    rw [w.at, List.getElem?_append_left (List.getElem?_eq_some_iff.mp hi).1, hi]
  have e4 : ixD (.loc (i + 3)) (.int k) st' = some (x, st') := by
    have r1 : rdK st' (i + 3) = none := by
      unfold rdK
      rw [e3]
    have r2 : rdL st' (i + 3) = some ds := by
      unfold rdL
      rw [e3]
    show (match rdK st' (i + 3) with
      | some kvs => _
      | none => (rdL st' (i + 3)).bind fun ds => (L2.atI ds k).map fun d => (d, st')) = _
    rw [r1, r2]
    show (L2.atI ds k).map _ = _
    rw [ex]
    rfl
  rw [e4]
  exact ⟨hx, g, w⟩
theorem pickT_ok {b : Nat} {st rest : Store} {fD : FM} {ds : List D} (h : Wd (b + 1) st rest) (hn : ds ≠ []) (hl : ds.length < 2 ^ 60)
    (hD : ∀ sz st rest, (0 : Int) < sz → sz < 2 ^ 64 → Wd (b + 1) st rest → Wp (fD [.loc 2, .int sz] st) fun d st' => ∃ k : Int, d = .int k ∧ 0 ≤ k ∧ k < sz ∧ ∃ g, Wd b st' (rest ++ g)) :
    Wp (mDef 2 2 (bPick fD) [.loc 2, .tup ds] st) fun d st' => d ∈ ds ∧ ∃ g, Wd b st' (rest ++ g) := by
  rw [wp_def (show [D.loc 2, D.tup ds].length = 2 from rfl)]
  have e2 : lenB [.tup ds] st = some (.int ds.length, st) := rfl
  simp only [bPick, wp_bind, wp_ok, wp_some, wp_at, Res.bind_ok, Res.bind_stuck, Res.of_some, sSeq, sRet, sRetN, sNext, sBreak, sCont, sIf, sExpr, sAsg, sPar, sPar3, par2, par3, nxO, nxS, sPut, sFor, asg, asgs, m2, mV, mC, mT, mAndT, mOrT, mNotT, mYes, mAnd, mOr, mNot, mIf, aNil, aCons, mTup, mLst, mB, mSl, oNo, oSome, mMt, mSeq, mRng, mEnum, mZip, mCall, mCallK, mNeg, mChain, mLenSet, mLc, List.map_cons, List.map_nil, List.replicate, List.cons_append, List.nil_append, List.getElem?_cons_zero, List.getElem?_cons_succ, List.set_cons_zero, List.set_cons_succ, List.length_cons, List.length_nil, outQ, Nat.sub_zero, Nat.reduceSub, sizeLine_eq, Nat.reduceAdd, Nat.reduceLeDiff, if_true, Option.map_some, seqWk_new, add_ii, sub_ii, int_i, eq_i, ne_i, lt_i, le_i, gt_i, ge_i, eq_s, ne_s, Bool.false_eq_true, if_false, decide_true, decide_false, eq_self, Int.reduceEq, Int.reduceLT, Int.reduceLE, Int.reduceSub, Int.reduceAdd, Int.reduceNeg, Int.reduceMul, or_true, true_or, or_false, false_or, Bool.not_true, Bool.not_false, e2]
  have hp : 0 < ds.length := List.length_pos_iff.mpr hn
  refine (hD ds.length st rest (by omega) (by omega) h).imp fun d st' ⟨k, e, hk, hk2, g, w⟩ => ?_
  subst e
  obtain ⟨x, hx, ex⟩ := atI_lt hk hk2
  have e4 : ixD (.tup ds) (.int k) st' = some (x, st') := by
    show (L2.atI ds k).map _ = _
    rw [ex]
    rfl
  rw [e4]
  exact ⟨hx, g, w⟩
theorem abs_i {i : Int} {st : Store} : absB [.int i] st = some (.int (if i < 0 then -i else i), st) := rfl
theorem begun_ok {ns : List Int} (hl : ns.length ≤ 63) : Wp (mDef 1 3 bBegun [scriptD ns] []) fun d st => d = .loc 2 ∧ Wd (2 ^ 47) st [] := by
  rw [wp_def (show [scriptD ns].length = 1 from rfl)]
  have e1 : ∀ st, seqWk (scriptD ns) st = some ⟨ns.map .int, none⟩ := fun _ => rfl
  have hz : (ns.map D.int).length ≤ sizeLine := by rw [List.length_map, sizeLine_eq]; omega
  have ep : ∀ s, powD (.int 10) (.int 18) s = some (.int 1000000000000000000, s) := fun s => by
    show (if cPow 10 18 = true then some (D.int (10 ^ 18), s) else none) = _
    rw [if_pos (by decide)]
    rfl
  have eg : ∀ (i j : Int) s, geD (.int i) (.int j) s = some (.bl (decide (j ≤ i)), s) := fun i j s => rfl
  simp only [bBegun, wp_bind, wp_ok, wp_some, wp_at, Res.bind_ok, Res.bind_stuck, Res.of_some, sSeq, sRet, sRetN, sNext, sBreak, sCont, sIf, sExpr, sAsg, sPar, sPar3, par2, par3, nxO, nxS, sPut, sFor, asg, asgs, m2, mV, mC, mT, mAndT, mOrT, mNotT, mYes, mAnd, mOr, mNot, mIf, aNil, aCons, mTup, mLst, mB, mSl, oNo, oSome, mMt, mSeq, mRng, mEnum, mZip, mCall, mCallK, mNeg, mChain, mLenSet, mLc, List.map_cons, List.map_nil, List.replicate, List.cons_append, List.nil_append, List.getElem?_cons_zero, List.getElem?_cons_succ, List.set_cons_zero, List.set_cons_succ, List.length_cons, List.length_nil, outQ, Nat.sub_zero, Nat.reduceSub, sizeLine_eq, Nat.reduceAdd, Nat.reduceLeDiff, if_true, Option.map_some, seqWk_new, add_ii, sub_ii, int_i, eq_i, ne_i, lt_i, le_i, gt_i, ge_i, eq_s, ne_s, Bool.false_eq_true, if_false, decide_true, decide_false, eq_self, Int.reduceEq, Int.reduceLT, Int.reduceLE, Int.reduceSub, Int.reduceAdd, Int.reduceNeg, Int.reduceMul, or_true, true_or, or_false, false_or, Bool.not_true, Bool.not_false, e1]
  refine wp_lc (fun i acc st => st = [] ∧ ∃ gs : List Int, acc = gs.map .int ∧ ∀ x ∈ gs, (0 : Int) ≤ x) hz ⟨rfl, [], rfl, fun _ h => by cases h⟩ ?_ ?_
  · rintro i d acc st hd ⟨rfl, gs, rfl, hg⟩
    have hd' : (ns.map D.int)[i]? = some d := hd
    rw [List.getElem?_map] at hd'
    obtain ⟨c, hc, rfl⟩ := map_some hd'
    refine ⟨rfl, _, rfl, ?_⟩
    simp only [wipeD, wp_bind, wp_ok, wp_some, wp_at, Res.bind_ok, Res.bind_stuck, Res.of_some, sSeq, sRet, sRetN, sNext, sBreak, sCont, sIf, sExpr, sAsg, sPar, sPar3, par2, par3, nxO, nxS, sPut, sFor, asg, asgs, m2, mV, mC, mT, mAndT, mOrT, mNotT, mYes, mAnd, mOr, mNot, mIf, aNil, aCons, mTup, mLst, mB, mSl, oNo, oSome, mMt, mSeq, mRng, mEnum, mZip, mCall, mCallK, mNeg, mChain, mLenSet, mLc, List.map_cons, List.map_nil, List.replicate, List.cons_append, List.nil_append, List.getElem?_cons_zero, List.getElem?_cons_succ, List.set_cons_zero, List.set_cons_succ, List.length_cons, List.length_nil, outQ, Nat.sub_zero, Nat.reduceSub, sizeLine_eq, Nat.reduceAdd, Nat.reduceLeDiff, if_true, Option.map_some, seqWk_new, add_ii, sub_ii, int_i, eq_i, ne_i, lt_i, le_i, gt_i, ge_i, eq_s, ne_s, Bool.false_eq_true, if_false, decide_true, decide_false, eq_self, Int.reduceEq, Int.reduceLT, Int.reduceLE, Int.reduceSub, Int.reduceAdd, Int.reduceNeg, Int.reduceMul, or_true, true_or, or_false, false_or, Bool.not_true, Bool.not_false, abs_i, ep, eg]
    by_cases q : (1000000000000000000 : Int) ≤ if c < 0 then -c else c
    · simp only [q, decide_true, if_true, wp_ok]
      exact ⟨trivial, gs ++ [(if c < 0 then -c else c) - 1000000000000000000], by simp, fun x hx => by
        rcases List.mem_append.mp hx with z | z
        · exact hg x z
        · rw [List.mem_singleton.mp z]; omega⟩
    · simp only [q, decide_false, Bool.false_eq_true, if_false]
      exact ⟨trivial, gs, rfl, hg⟩
  · rintro acc st ⟨rfl, gs, rfl, hg⟩
    refine ⟨rfl, ?_⟩
    simp only [wp_bind, wp_ok, wp_some, wp_at, Res.bind_ok, Res.bind_stuck, Res.of_some, sSeq, sRet, sRetN, sNext, sBreak, sCont, sIf, sExpr, sAsg, sPar, sPar3, par2, par3, nxO, nxS, sPut, sFor, asg, asgs, m2, mV, mC, mT, mAndT, mOrT, mNotT, mYes, mAnd, mOr, mNot, mIf, aNil, aCons, mTup, mLst, mB, mSl, oNo, oSome, mMt, mSeq, mRng, mEnum, mZip, mCall, mCallK, mNeg, mChain, mLenSet, mLc, List.map_cons, List.map_nil, List.replicate, List.cons_append, List.nil_append, List.getElem?_cons_zero, List.getElem?_cons_succ, List.set_cons_zero, List.set_cons_succ, List.length_cons, List.length_nil, outQ, Nat.sub_zero, Nat.reduceSub, sizeLine_eq, Nat.reduceAdd, Nat.reduceLeDiff, if_true, Option.map_some, seqWk_new, add_ii, sub_ii, int_i, eq_i, ne_i, lt_i, le_i, gt_i, ge_i, eq_s, ne_s, Bool.false_eq_true, if_false, decide_true, decide_false, eq_self, Int.reduceEq, Int.reduceLT, Int.reduceLE, Int.reduceSub, Int.reduceAdd, Int.reduceNeg, Int.reduceMul, or_true, true_or, or_false, false_or, Bool.not_true, Bool.not_false, mDct, mKs, e1]
    refine wp_lc (fun i acc st => st = [Cell.lst (gs.map D.int)] ∧ ∃ cs : List Int, acc = cs.map .int ∧ ∀ x ∈ cs, (0 : Int) ≤ x) hz ⟨rfl, [], rfl, fun _ h => by cases h⟩ ?_ ?_
    · rintro i d acc st hd ⟨rfl, cs, rfl, hg⟩
      have hd' : (ns.map D.int)[i]? = some d := hd
      rw [List.getElem?_map] at hd'
      obtain ⟨c, hc, rfl⟩ := map_some hd'
      refine ⟨rfl, _, rfl, ?_⟩
      simp only [wipeD, wp_bind, wp_ok, wp_some, wp_at, Res.bind_ok, Res.bind_stuck, Res.of_some, sSeq, sRet, sRetN, sNext, sBreak, sCont, sIf, sExpr, sAsg, sPar, sPar3, par2, par3, nxO, nxS, sPut, sFor, asg, asgs, m2, mV, mC, mT, mAndT, mOrT, mNotT, mYes, mAnd, mOr, mNot, mIf, aNil, aCons, mTup, mLst, mB, mSl, oNo, oSome, mMt, mSeq, mRng, mEnum, mZip, mCall, mCallK, mNeg, mChain, mLenSet, mLc, List.map_cons, List.map_nil, List.replicate, List.cons_append, List.nil_append, List.getElem?_cons_zero, List.getElem?_cons_succ, List.set_cons_zero, List.set_cons_succ, List.length_cons, List.length_nil, outQ, Nat.sub_zero, Nat.reduceSub, sizeLine_eq, Nat.reduceAdd, Nat.reduceLeDiff, if_true, Option.map_some, seqWk_new, add_ii, sub_ii, int_i, eq_i, ne_i, lt_i, le_i, gt_i, ge_i, eq_s, ne_s, Bool.false_eq_true, if_false, decide_true, decide_false, eq_self, Int.reduceEq, Int.reduceLT, Int.reduceLE, Int.reduceSub, Int.reduceAdd, Int.reduceNeg, Int.reduceMul, or_true, true_or, or_false, false_or, Bool.not_true, Bool.not_false, abs_i]
      exact ⟨trivial, cs ++ [if c < 0 then -c else c], by simp, fun x hx => by
        rcases List.mem_append.mp hx with z | z
        · exact hg x z
        · rw [List.mem_singleton.mp z]; split <;> omega⟩
    · rintro acc st ⟨rfl, cs, rfl, hc⟩
      refine ⟨rfl, ?_⟩
      simp only [wp_bind, wp_ok, wp_some, wp_at, Res.bind_ok, Res.bind_stuck, Res.of_some, sSeq, sRet, sRetN, sNext, sBreak, sCont, sIf, sExpr, sAsg, sPar, sPar3, par2, par3, nxO, nxS, sPut, sFor, asg, asgs, m2, mV, mC, mT, mAndT, mOrT, mNotT, mYes, mAnd, mOr, mNot, mIf, aNil, aCons, mTup, mLst, mB, mSl, oNo, oSome, mMt, mSeq, mRng, mEnum, mZip, mCall, mCallK, mNeg, mChain, mLenSet, mLc, List.map_cons, List.map_nil, List.replicate, List.cons_append, List.nil_append, List.getElem?_cons_zero, List.getElem?_cons_succ, List.set_cons_zero, List.set_cons_succ, List.length_cons, List.length_nil, outQ, Nat.sub_zero, Nat.reduceSub, sizeLine_eq, Nat.reduceAdd, Nat.reduceLeDiff, if_true, Option.map_some, seqWk_new, add_ii, sub_ii, int_i, eq_i, ne_i, lt_i, le_i, gt_i, ge_i, eq_s, ne_s, Bool.false_eq_true, if_false, decide_true, decide_false, eq_self, Int.reduceEq, Int.reduceLT, Int.reduceLE, Int.reduceSub, Int.reduceAdd, Int.reduceNeg, Int.reduceMul, or_true, true_or, or_false, false_or, Bool.not_true, Bool.not_false, mDct, mKs]
      refine ⟨trivial, gs, cs, 0, 0, hg, hc, Int.le_refl 0, Int.le_refl 0, by omega, ?_⟩
      kernel_rfl
theorem rng1 {k : Int} (h0 : 0 ≤ k) (h1 : k < 2 ^ 60) : rngWk [.int k] = some ⟨rngs 0 1 k.toNat, none⟩ := by
  have e60 : (2 : Int) ^ 60 = 1152921504606846976 := by decide
  have e62 : (2 : Int) ^ 62 = 4611686018427387904 := by decide
  show (if rngOk 0 k = true then some (Wk.mk (rngs 0 1 k.toNat) none) else none) = _
  exact if_pos (decide_eq_true ⟨by omega, by omega, by omega, by omega⟩)
theorem tup_new {st : Store} {ds : List D} (h : ds.length ≤ sizeLine) : tupleB [.loc st.length] (st ++ [.lst ds]) = some (.tup ds, st ++ [.lst ds]) := by
  show (rdL (st ++ [Cell.lst ds]) st.length).bind _ = _
  rw [show rdL (st ++ [Cell.lst ds]) st.length = some ds by unfold rdL; simp]
  exact if_pos h
theorem Wd.rd {b i : Nat} {st rest : Store} {ds : List D} (h : Wd b st rest) (e : rest[i]? = some (.lst ds)) : rdL st (i + 3) = some ds := by
  unfold rdL
  rw [h.at, e]
theorem Wd.wr {b i : Nat} {st rest : Store} {ds : List D} (h : Wd b st rest) (e : rest[i]? = some (.lst ds)) : wrL st (i + 3) = some ds := by
  unfold wrL
  rw [h.at, e]
theorem Wd.nodct {b i : Nat} {st rest : Store} {ds : List D} (h : Wd b st rest) (e : rest[i]? = some (.lst ds)) : rdK st (i + 3) = none := by
  unfold rdK
  rw [h.at, e]
theorem get_pre {rest g : Store} {i : Nat} {c : Cell} (h : rest[i]? = some c) : (rest ++ g)[i]? = some c := by
  rw [List.getElem?_append_left (List.getElem?_eq_some_iff.mp h).1, h]
theorem ix_new {st : Store} {ds : List D} {k : Int} : ixD (.loc st.length) (.int k) (st ++ [.lst ds]) = (L2.atI ds k).map fun d => (d, st ++ [.lst ds]) := by
  have r1 : rdK (st ++ [Cell.lst ds]) st.length = none := by unfold rdK; simp
  have r2 : rdL (st ++ [Cell.lst ds]) st.length = some ds := by unfold rdL; simp
  show (match rdK (st ++ [Cell.lst ds]) st.length with
      | some kvs => _
      | none => (rdL (st ++ [Cell.lst ds]) st.length).bind fun ds' => (L2.atI ds' k).map fun d => (d, st ++ [Cell.lst ds])) = _
  rw [r1, r2]
  rfl
theorem in_new {st : Store} {ds : List D} {x : D} (h : flatD x = true) (h2 : ds.all flatD = true) : inD x (.loc st.length) (st ++ [.lst ds]) = some (.bl (inV (toV x) (ds.map toV)), st ++ [.lst ds]) := by
  rcases inD_gen x (.loc st.length) (st ++ [.lst ds]) with ⟨a, b, _, e⟩ | ⟨e, _⟩
  · cases e
  · rw [e]
    show (rdL (st ++ [Cell.lst ds]) st.length).bind _ = _
    rw [show rdL (st ++ [Cell.lst ds]) st.length = some ds by unfold rdL; simp]
    exact if_pos ⟨h, h2⟩
theorem in_tup {st : Store} {ds : List D} {x : D} (h : flatD x = true) (h2 : ds.all flatD = true) : inD x (.tup ds) st = some (.bl (inV (toV x) (ds.map toV)), st) := by
  rcases inD_gen x (.tup ds) st with ⟨a, b, _, e⟩ | ⟨e, _⟩
  · cases e
  · rw [e]
    exact if_pos ⟨h, h2⟩

end PM
-- PMinit
set_option Elab.async false
set_option linter.all false
set_option maxRecDepth 100000
set_option maxHeartbeats 4000000
/-! PM: an own exception class whose __init__ says super().__init__('..') and keeps one thing. -/
namespace PMI
open PySem PySem.W PySem.Calls PyProof.Rows
abbrev veMro : List Value := [.type "ValueError", .type "Exception", .type "BaseException", .type "object"]
/-- the body -/
abbrev inBody (msg fld : Str) (p0 p1 p2 p3 p4 p5 q0 q1 q2 q3 : Pos) (j : Nat) : List Stmt :=
  [.Expr (.Call (.Attribute (.Call (.Name "super" p0) [] [] p1) "__init__" p2) [.Constant (.str msg) j p3] [] p4) p5, .Assign [.Attribute (.Name "self" q0) fld q1] (.Name fld q2) q3]
/-- what the class must say -/
structure InC (K : Frag) (C : Addr) (fld : Str) : Prop where
  exi : excInitIn K C veMro "ValueError.__new__" = true
  cls : ∃ cd, clsIn K C = some cd ∧ PySem.HandSPX.refsVE cd.mro = true ∧ cd.hasDict = true
  sub : mroIn K C (.ref C) = some true
  sup : ks_superIn K C C "__init__" = some (some (.builtin "ValueError.__init__"))
  vee : subIn K (.ref C) (.type "ValueError") = some true
  opq : nsIn K cStatics "thirdparty.any" = some none
  sat : findIn K (.ref C) "__setattr__" = some (some (.builtin "object.__setattr__"))
  fld : findIn K (.ref C) fld = some none
section
variable {prog : Program} {w : World} {A : Around} {s : Shared} {hB : Heap} {K : Frag} {mg mb : Str → Option Value} {C fI cc cda e t : Addr} {v : Value} {fld msg : Str} {R : Result → Shared → Prop} {args : Args} {ts : List Value}
  {qual file : Str} {params : Arguments} {scope : Scope} {dV kV doc pm ct oc ccl cl : Value} {an od cdd cld : Option Addr} {osl ccs csl : Array (Option Value)} {vs : Array Value} {tf : Tok} {ar : Arg} {p0 p1 p2 p3 p4 p5 q0 q1 q2 q3 : Pos} {j : Nat}
theorem init_code (TC : InC K C fld) (hKB : K.In hB) (hk : ∀ b o, hB.get? b = some o → s.heap.get? b = some o) (hsz : hB.objs.size ≤ s.heap.objs.size)
    (he : s.heap.get? e = some (excObj C t none .none)) (ht : s.heap.get? t = some (excTup ts)) (ne : hB.get? e = none) (nt : hB.get? t = none) (het : e ≠ t)
    (hG : hB.Ns mainGlobals mg) (hsup : mg "super" = none) (hBl : hB.Ns builtinsNs mb) (hbs : mb "super" = some (.type "super")) (hno : hB.NoLimit)
    (ho : K.lookup fI = some ⟨oc, od, .func (ksFn "__init__" qual params (inBody msg fld p0 p1 p2 p3 p4 p5 q0 q1 q2 q3 j) scope dV kV doc pm an (.ref cda) ct cc), osl⟩)
    (hcd : codeIn K (.ref cda) qual = true) (hroom : A.depth < recursionLimit)
    (hbind : BindsTo s (ksFn "__init__" qual params (inBody msg fld p0 p1 p2 p3 p4 p5 q0 q1 q2 q3 j) scope dV kV doc pm an (.ref cda) ct cc) args [("self", .ref e), (fld, v)])
    (hls : scope.names.lookup ("self" : Str) = some .local) (hlf : scope.names.lookup fld = some .local) (hfs : (fld == ("self" : Str)) = false) (hks : scope.names.lookup ("super" : Str) = some .globalImplicit) (hkc : scope.names.lookup ("__class__" : Str) = some .free)
    (hcell : ∀ x ∈ scope.names, x.2 ≠ .cell) (hco : scope.isCoroutine = false) (hgen : scope.isGenerator = false) (hkd : scope.kind = .function)
    (hp : (params.posonlyargs ++ params.args).head? = some ar) (har : ar.arg = "self")
    (hcode : K.lookup cda = some ⟨ccl, cdd, .fields vs, ccs⟩) (hvs : vs[2]? = some (.str file tf)) (hfile : ((prog.main.file : Str) == file) = true) (htop : (prog.main.scope.names.lookup ("super" : Str)).isSome = false)
    (hcc : K.lookup cc = some ⟨cl, cld, .cell (some (.ref C)), csl⟩)
    (hd1 : (fld == ("__debug__" : Str)) = false) (hin : ∀ L, interactive (ksEnv qual scope L fI (.ref cda) cc) = false)
    (hs1 : ∀ L, swapsWith (.Call (.Attribute (.Call (.Name "super" p0) [] [] p1) "__init__" p2) [.Constant (.str msg) j p3] [] p4) none p5.line (ksEnv qual scope L fI (.ref cda) cc) = pure false)
    (hs2 : ∀ L, swapsWith (.Name fld q2) (some (.Attribute (.Name "self" q0) fld q1)) q3.line (ksEnv qual scope L fI (.ref cda) cc) = pure false)
    (hev : ∀ env : Env, ∃ pl : Sem Bool, eval (.Call (.Attribute (.Call (.Name "super" p0) [] [] p1) "__init__" p2) [.Constant (.str msg) j p3] [] p4) env = (do
      let ov ← attributeBase (.Call (.Name "super" p0) [] [] p1) "__init__" env (eval (.Call (.Name "super" p0) [] [] p1) env)
      standAt p2.atName
      let (f, first) ← holding [ov] (getMethod ov "__init__" pl)
      callWith p4 f first (backTo p4 (starEach [.Constant (.str msg) j p3] env)) []))
    (hR : ∀ h' tk dx t', (∀ b o, hB.get? b = some o → h'.get? b = some o) → h'.get? e = some (excObj C t' (some dx) .none) → hB.get? dx = none → dx ≠ e → h'.Ns1 dx (fun y => if y = fld then some v else none) → R (.ok (.ret .none)) { s with heap := h', toks := tk }) :
    codeAny (model prog w) A (.call (.ref fI) args) R s := by
  have hKs : K.In s.heap := hKB.keeps hk
  refine ks_codeAny_call_defAt (fd := ksFn "__init__" qual params (inBody msg fld p0 p1 p2 p3 p4 p5 q0 q1 q2 q3 j) scope dV kV doc pm an (.ref cda) ct cc) (body := inBody msg fld p0 p1 p2 p3 p4 p5 q0 q1 q2 q3 j) (binds := [("self", .ref e), (fld, v)]) hroom (hKs _ _ ho) rfl (hno.keeps hk) (codeRec_of hKs hcd) rfl hbind hcell ?_ (fun h1 hns hk1 => ?_) hco hgen hkd
  · intro y hy
    simp only [List.mem_cons, List.not_mem_nil, or_false] at hy
    rcases hy with z | z
    · rw [z]
      exact hls
    · rw [z]
      exact hlf
  · generalize hL : s.heap.objs.size = L at hns
    obtain ⟨hp0, g, d, tk0, os⟩ := s
    dsimp only at hL hk1 hk he ht hsz hKs ⊢
    have hF : Fr hB L h1 (fun x => ([("self", Value.ref e), (fld, v)] : List (Str × Value)).reverse.lookup x) := ⟨hns, fun b o z => hk1 b o (hk b o z), by rw [← hL]; exact hsz⟩
    have lt : ∀ {b o}, hp0.get? b = some o → b ≠ L := fun {b o} z => by
      rw [← hL]
      exact Nat.ne_of_lt (Heap.lt_size z)
    have hN : News hB L h1 [(e, excObj C t none .none), (t, excTup ts)] := fun q hq => by
      simp only [List.mem_cons, List.not_mem_nil, or_false] at hq
      rcases hq with z | z
      · rw [z]
        exact ⟨hk1 _ _ he, lt he, ne⟩
      · rw [z]
        exact ⟨hk1 _ _ ht, lt ht, nt⟩
    have hK1 : K.In h1 := hKB.keeps hF.keep
    obtain ⟨cd, hcl, href, hhd⟩ := TC.cls
    have env_ : callEnv (ksFn "__init__" qual params (inBody msg fld p0 p1 p2 p3 p4 p5 q0 q1 q2 q3 j) scope dV kV doc pm an (.ref cda) ct cc) L fI = ksEnv qual scope L fI (.ref cda) cc := rfl
    rw [env_]
    have hsf : (("self" : Str) == fld) = false := by
      rw [Bool.eq_false_iff]
      intro z
      rw [beq_iff_eq] at z
      rw [← z, beq_self_eq_true] at hfs
      cases hfs
    have hme : (fun x => ([("self", Value.ref e), (fld, v)] : List (Str × Value)).reverse.lookup x) "self" = some (.ref e) := by
      show List.lookup ("self" : Str) [(fld, v), ("self", Value.ref e)] = _
      rw [List.lookup_cons, hsf]
      rfl
    have hmf : (fun x => ([("self", Value.ref e), (fld, v)] : List (Str × Value)).reverse.lookup x) fld = some v := by
      show List.lookup fld [(fld, v), ("self", Value.ref e)] = _
      rw [List.lookup_cons, beq_self_eq_true]
    obtain ⟨pl, hev1⟩ := hev (ksEnv qual scope L fI (.ref cda) cc)
    refine ks_wpAt_execs_cons (ks_wpAt_Expr_any (hi := hin L) (hs := hs1 L) (ks_wpAt_MethodCall (pl := pl) (he := hev1) (ks_wpAt_super_base (env := ksEnv qual scope L fI (.ref cda) cc) hks hkc (by decide) rfl (hK1 _ _ ho) rfl hp rfl (hK1 _ _ hcode) rfl hvs hfile htop ?_)))
    refine ks_loadName_global hkd hks (loadGlobal_builtin (env := ksEnv qual scope L fI (.ref cda) cc) (hG.keeps hF.keep) hsup (hBl.keeps hF.keep) hbs ⟨rfl, ?_⟩)
    refine wpAny_loadName_free hkd hkc rfl ⟨_, hK1 _ _ hcc, rfl⟩ ?_
    rw [har]
    refine wpAny_loadName_local hkd hls hF.ns hme ?_
    obtain ⟨oD, hD1, hD2⟩ : ∃ oD, h1.get? C = some oD ∧ oD.data = .cls cd := by
      unfold clsIn at hcl
      split at hcl
      · rename_i c d cd' sl hoo
        cases hcl
        exact ⟨_, hK1 _ _ hoo, rfl⟩
      · cases hcl
    have I1 : InstAt h1 e (excObj C t none .none) C none := .of_exc0 hN List.mem_cons_self
    refine ks_wpAny_isType_cls hD1 hD2 ⟨rfl, ?_⟩
    refine ks_wpAny_call_super hD1 hD2 I1.at_ I1.cls (fun c z => by cases z) (looks_mroIn hK1 TC.sub) (fun h2 e2 k2 => ?_)
    obtain ⟨F2, N2, l2⟩ := ks_newsPush (s := ⟨h1, g, d, tk0 + 2, os⟩) (o := ks_superObj C e C) hF hN rfl e2 k2
    have I2 : InstAt h2 e (excObj C t none .none) C none := .of_exc0 N2 (List.mem_cons_of_mem _ List.mem_cons_self)
    refine kxs_method kxs_ValueError F2 hKB N2 List.mem_cons_self I2 TC.opq TC.sup TC.vee (by decide) (fun qa h3 F3 N3 l3 => ?_)
    refine kxs_callWith1 N3 List.mem_cons_self ?_
    refine Calls.spliced_cons (Calls.Constant_str (pos := p3) (k := j) (Calls.spliced_nil ⟨kxs_at N3 List.mem_cons_self, ?_⟩))
    have n1 : h2.objs.size = h2.objs.size := rfl
    have u1 : qa ≠ e := (Nat.ne_of_lt (l3 (e, excObj C t none .none) (List.mem_cons_of_mem _ List.mem_cons_self))).symm
    have u2 : h1.objs.size ≠ e := (Nat.ne_of_lt (l2 (e, excObj C t none .none) List.mem_cons_self)).symm
    refine kxs_call F3 hKB N3 F.excBase_ValueError TC.exi List.mem_cons_self (.tail u1 (.tail u2 (.head fun q hq => by
      rw [List.mem_singleton.mp hq]
      exact het.symm))) (by rw [sizeLine_eq]; exact Nat.le_of_ble_eq_true rfl) (fun t2 h4 F4 N4 l4 => ?_)
    have hK4 : K.In h4 := hKB.keeps F4.keep
    have he4 : h4.get? e = some (excObj C t2 none .none) := (N4 (e, excObj C t2 none .none) (by simp)).1
    refine ks_wpAt_execs_cons (ks_wpAt_Assign_Attr (hs := hs2 L) (wpAt_of_wpAny (wpAny_Name (wpAny_loadName_local hkd hlf F4.ns hmf ?_) hd1)))
    refine wpAny_Name (wpAny_loadName_local hkd hls F4.ns hme ?_) (by decide)
    refine set_plain hK4 (ox := excObj C t2 none .none) (od := none) ⟨he4, rfl, rfl, trivial⟩ TC.sat ?_
    refine PySem.HandSPX.exc_osa hK4 he4 hcl href hhd TC.fld (fun h5 tk5 dx k5 dn dne hx5 hn5 => ?_)
    refine wpAt_of_wpAny (wpAny_pure ?_)
    refine hR h5 _ dx t2 (fun b o z => k5 b o (fun y => by rw [y, ne] at z; cases z) (F4.keep b o z)) hx5 ?_ dne hn5
    cases z : hB.get? dx with
    | none => rfl
    | some o => exact absurd (Heap.lt_size (F4.keep _ _ z)) (Nat.not_lt_of_le dn)
end
end PMI
-- PMini2
set_option Elab.async false
set_option linter.all false
set_option maxRecDepth 100000
set_option maxHeartbeats 4000000
namespace PMI
open PySem PySem.Spec PyProof.Rows L2
section
variable {X : Cx} {pins : List (Addr × Obj)} {σ : L2.St} {H : Hp} {s : Shared}
/-- two new objects laid and tracked -/
theorem laid2 {h' : Heap} {a b : Addr} {o u : HO} {t' : Nat} (I : Inv X pins σ H s) (k : ∀ c v, s.heap.get? c = some v → h'.get? c = some v) (pa : s.heap.get? a = none) (pb : s.heap.get? b = none) (hab : a ≠ b)
    (na : ObjOk X.prog X.w (upd (upd H b u) a o) h' a o) (nb : ObjOk X.prog X.w (upd (upd H b u) a o) h' b u) : Inv X pins σ (upd (upd H b u) a o) { s with heap := h', toks := t' } := by
  have ha : H a = none := I.hok.gone pa
  have hb : H b = none := I.hok.gone pb
  have old : ∀ {c : Addr} {x : HO}, H c = some x → upd (upd H b u) a o c = some x := fun {c x} q => by
    rw [upd_ne (ne_of_none q ha), upd_ne (ne_of_none q hb)]
    exact q
  refine I.un (t' := t') { keep := fun c v q _ _ _ => k c v q, slot := fun c v q _ _ _ => ⟨v.slots, k c v q⟩, free := fun c v q n _ => ?_, there := fun c v q _ => ⟨v, k c v q⟩, tups := fun c xs q => old q, frzs := fun c v xs q => old q, tbls := fun c ps q => ⟨#[], by rw [old q]; simp⟩ } fun c x q => ?_
  · rw [upd_ne (fun z => by rw [z, pa] at q; cases q), upd_ne (fun z => by rw [z, pb] at q; cases q)]
    exact n
  · by_cases ca : c = a
    · subst ca
      rw [upd_same] at q
      cases q
      exact na
    · rw [upd_ne ca] at q
      by_cases cb : c = b
      · subst cb
        rw [upd_same] at q
        cases q
        exact nb
      · rw [upd_ne cb] at q
        exact (I.hok c x q).stay (fun d v _ z => k d v z) (fun d z => old z) fun d xs z => old z
end
/-- where such an __init__ stands, how it binds -/
structure InF (prog : Program) (K : PySem.W.Frag) (C : Addr) (fld : Str) : Prop where
  cls : InC K C fld
  oex : OexC K C
  fn : ∃ (fI cc cda : Addr) (msg qual file : Str) (params : Arguments) (scope : Scope) (dV kV doc pm ct oc ccl cl : Value) (an od cdd cld : Option Addr) (osl ccs csl : Array (Option Value)) (vs : Array Value) (tf : Tok) (ar : Arg) (p0 p1 p2 p3 p4 p5 q0 q1 q2 q3 : Pos) (j : Nat),
    PySem.W.findIn K (.ref C) "__init__" = some (some (.ref fI)) ∧ PySem.W.typeIn K (.ref fI) = some (.type "function") ∧
    K.lookup fI = some ⟨oc, od, .func (PySem.W.ksFn "__init__" qual params (inBody msg fld p0 p1 p2 p3 p4 p5 q0 q1 q2 q3 j) scope dV kV doc pm an (.ref cda) ct cc), osl⟩ ∧ PySem.W.codeIn K (.ref cda) qual = true ∧
    (∀ (s : Shared) (e : Addr) (v : Value), BindsTo s (PySem.W.ksFn "__init__" qual params (inBody msg fld p0 p1 p2 p3 p4 p5 q0 q1 q2 q3 j) scope dV kV doc pm an (.ref cda) ct cc) ⟨[.ref e, v], []⟩ [("self", .ref e), (fld, v)]) ∧
    (∀ (s : Shared) (e : Addr) (v : Value), BindsTo s (PySem.W.ksFn "__init__" qual params (inBody msg fld p0 p1 p2 p3 p4 p5 q0 q1 q2 q3 j) scope dV kV doc pm an (.ref cda) ct cc) ⟨[.ref e], [(fld, v)]⟩ [("self", .ref e), (fld, v)]) ∧
    scope.names.lookup ("self" : Str) = some .local ∧ scope.names.lookup fld = some .local ∧ (fld == ("self" : Str)) = false ∧ scope.names.lookup ("super" : Str) = some .globalImplicit ∧ scope.names.lookup ("__class__" : Str) = some .free ∧
    (∀ x ∈ scope.names, x.2 ≠ .cell) ∧ scope.isCoroutine = false ∧ scope.isGenerator = false ∧ scope.kind = .function ∧ (params.posonlyargs ++ params.args).head? = some ar ∧ ar.arg = "self" ∧
    K.lookup cda = some ⟨ccl, cdd, .fields vs, ccs⟩ ∧ vs[2]? = some (.str file tf) ∧ ((prog.main.file : Str) == file) = true ∧ (prog.main.scope.names.lookup ("super" : Str)).isSome = false ∧ K.lookup cc = some ⟨cl, cld, .cell (some (.ref C)), csl⟩ ∧
    (fld == ("__debug__" : Str)) = false ∧ (∀ L, interactive (PySem.W.ksEnv qual scope L fI (.ref cda) cc) = false) ∧
    (∀ L, swapsWith (.Call (.Attribute (.Call (.Name "super" p0) [] [] p1) "__init__" p2) [.Constant (.str msg) j p3] [] p4) none p5.line (PySem.W.ksEnv qual scope L fI (.ref cda) cc) = pure false) ∧
    (∀ L, swapsWith (.Name fld q2) (some (.Attribute (.Name "self" q0) fld q1)) q3.line (PySem.W.ksEnv qual scope L fI (.ref cda) cc) = pure false) ∧
    (∀ env : Env, ∃ pl : Sem Bool, eval (.Call (.Attribute (.Call (.Name "super" p0) [] [] p1) "__init__" p2) [.Constant (.str msg) j p3] [] p4) env = (do
      let ov ← attributeBase (.Call (.Name "super" p0) [] [] p1) "__init__" env (eval (.Call (.Name "super" p0) [] [] p1) env)
      standAt p2.atName
      let (f, first) ← holding [ov] (getMethod ov "__init__" pl)
      callWith p4 f first (backTo p4 (starEach [.Constant (.str msg) j p3] env)) []))
section
variable {X : Cx} {pins : List (Addr × Obj)} {σ : L2.St} {H : Hp} {s : Shared} {C : Addr} {fld : Str} {y : V} {u : Value} {k : Nat}
theorem call_pos {Q : Value → Shared → Prop} (T : InF X.prog X.K C fld) (I : Inv X pins σ H s) (hr : Room k X.A) (hsup : X.mg "super" = none) (ry : RelV y u)
    (h : ∀ a dx s', H a = none → H dx = none → dx ≠ a → Inv X pins σ (upd (upd H dx (exd dx [(fld, y)])) a (exo a C (some dx))) s' → Q (.ref a) s') : wpAny (model X.prog X.w) X.A (call (.ref C) [u]) Q X.xe s := by
  obtain ⟨nm, q, N, bs, bm, sn, sub, ab, col, dd, k0, k1, k2, k3, k5, hC, hbm⟩ := T.oex.cls
  obtain ⟨fI, cc, cda, msg, qual, file, params, scope, dV, kV, doc, pm, ct, oc, ccl, cl, an, od, cdd, cld, osl, ccs, csl, vs, tf, ar, p0, p1, p2, p3, p4, p5, q0, q1, q2, q3, j, iC, tI, ho, hcd, hb1, _, hls, hlf, hfs, hks, hkc, hcell, hco, hgen, hkd, hp, har, hcode, hvs, hfile, htop, hcc, hd1, hin, hs1, hs2, hev⟩ := T.fn
  obtain ⟨mb, hBl, hbv⟩ := I.mod.blt
  obtain ⟨hp1, g, dr, tk, os⟩ := s
  have kk : ∀ b o, hp1.get? b = some o → ((hp1.push (PySem.W.kdv_tup [u])).push (PySem.HandSPX.excO C hp1.objs.size)).get? b = some o := fun b o e => Heap.get?_push_of_some _ (Heap.get?_push_of_some _ e)
  have hget : ((hp1.push (PySem.W.kdv_tup [u])).push (PySem.HandSPX.excO C hp1.objs.size)).get? (hp1.objs.size + 1) = some (PySem.HandSPX.excO C hp1.objs.size) := by heap_get
  have hgt : ((hp1.push (PySem.W.kdv_tup [u])).push (PySem.HandSPX.excO C hp1.objs.size)).get? hp1.objs.size = some (PySem.W.kdv_tup [u]) := by heap_get
  have none_ : ∀ b, hp1.objs.size ≤ b → hp1.get? b = none := fun b hb => by
    cases z : hp1.get? b with
    | none => rfl
    | some o => exact absurd (Heap.lt_size z) (Nat.not_lt_of_le hb)
  have pe0 : hp1.get? (hp1.objs.size + 1) = none := none_ _ (Nat.le_succ _)
  refine wpAny_call (PySem.HandSPX.call_own F.excBase_ValueError (fun Y => PySem.HandSPX.refsVE_contains Y bm hbm) (I.kIn _ _ hC) (PySem.W.looks_findIn I.kIn iC) (fun self => PySem.W.bind_fn I.kIn self tI) (by rw [sizeLine_eq]; exact Nat.le_of_ble_eq_true rfl)
    (init_code (hB := hp1) (t := hp1.objs.size) (v := u) T.cls I.kIn kk (by simp only [Heap.size_push]; omega) hget hgt pe0 (none_ _ (Nat.le_refl _)) (Nat.succ_ne_self _) (I.mod.glob.keeps I.bk) hsup (hBl.keeps I.bk) ((hbv _ (by decide)).trans (by decide +kernel)) (I.mod.nolimit.keeps I.bk) ho hcd (by rw [make_depth]; have := hr.dp; omega) (hb1 _ _ _) hls hlf hfs hks hkc hcell hco hgen hkd hp har hcode hvs hfile htop hcc hd1 hin hs1 hs2 hev
      fun h' tk' dx t' k' hx pdx dne hns => ?_))
  refine ⟨rfl, ?_⟩
  have J := laid2 (t' := tk') (h' := h') I k' pe0 pdx dne.symm (exo_ok (t1 := t') hx) (exd_ok (dx := dx) (fs := [(fld, y)]) hns (relO_put (fs := []) ry fun g => True.intro))
  exact h _ dx ⟨h', g, dr, tk', os⟩ (I.hok.gone pe0) (I.hok.gone pdx) dne J
end
end PMI
-- PMini3
set_option Elab.async false
set_option linter.all false
set_option maxRecDepth 100000
set_option maxHeartbeats 4000000
namespace PySem.PMK
open PySem PySem.Spec PyProof.Rows PySem.HandSPX
section
variable {prog : Program} {w : World} {M : Model} {A : Around} {E : Value → Shared → Prop} {R : Result → Shared → Prop} {h : Heap} {g : Array GenState} {d : Drawn} {t : Nat} {os : OsState}
variable {nm q : Str} {C N : Addr} {bs bm bmB : List Value} {hdct : Bool} {sn : List Str} {sub : List Value} {ab : Bool} {col : Option Bool} {dd : Option Addr} {k0 k1 k2 k3 k5 : Option Value} {B newId initId : String} {kw : List (Str × Value)} {fI : Addr}
theorem looked (F : ExcBaseFacts B newId initId bmB) (hT : ∀ X : String, bm.contains (.type X) = bmB.contains (.type X)) {Q : Unit → Shared → Prop} (hC : h.get? C = some (excClassObj nm q C N bs bm hdct sn sub ab col dd k0 k1 k2 k3 k5 newId)) (hq : Q () ⟨h, g, d, t, os⟩) :
    wpAny M A (checkBuiltinCall newId ⟨[.ref C], kw⟩) Q E ⟨h, g, d, t, os⟩ := by
  have c1 : (Value.ref C :: bm).contains (.type B) = true := by rw [List.contains_cons, hT, F.hasB, Bool.or_true]
  have c2 := F.noStar
  simp only [checkBuiltinCall, F.newKind, F.newSplit, F.newRow]
  repeat (first | refine wpAny_loadPart_at hC ?_ | (refine wpAny_isSubtype_exc hC ?_; rw [c1]) | refine wpAny_staticBase_exc hC ?_ | refine wpAny_madeBy_exc hC ?_ | simp only [bne_self_eq_false, Bool.false_eq_true, if_false] | wp_step)
  exact hq
theorem newK (F : ExcBaseFacts B newId initId bmB) (hT : ∀ X : String, bm.contains (.type X) = bmB.contains (.type X)) (hC : h.get? C = some (excClassObj nm q C N bs bm hdct sn sub ab col dd k0 k1 k2 k3 k5 newId))
    (hq : R (.ok (.ret (.ref (h.objs.size + 1)))) ⟨(h.push (W.kdv_tup [])).push (excO C h.objs.size), g, d, t, os⟩) : codeAny (model prog w) A (.builtin newId ⟨[.ref C], kw⟩) R ⟨h, g, d, t, os⟩ := by
  have e0 := F.ends
  have e1 : (Value.ref C :: bm).contains (.type B) = true := by rw [List.contains_cons, hT, F.hasB, Bool.or_true]
  have e2 : (Value.ref C :: bm).contains (.type "AttributeError") = false := by rw [List.contains_cons, hT, F.noAttr]; rfl
  have e3 : (Value.ref C :: bm).contains (.type "NameError") = false := by rw [List.contains_cons, hT, F.noName]; rfl
  refine codeAny_builtinAt F.entry (?_ : wpAt _ _ _ _ _ _ _); unfold Builtin.«BaseException.__new__»
  refine wpAt_bind (?_ : wpAt _ _ _ (stack >>= _) _ _ _); refine wpAt_bind (wpAt_stack fun p below => wpAt_of_wpAny ?_)
  wp_walk
  refine wpAt_of_wpAny ?_
  rw [F.owner]
  repeat (first | with_reducible refine wpAny_madeHere_exc F.canon hC ?_ | with_reducible refine wpAny_loadPart_at hC ?_ | (with_reducible refine wpAny_isSubtype_exc hC ?_; first | rw [e1] | rw [e2] | rw [e3]) | wp_step)
  show R _ _
  rw [Heap.size_push]
  exact hq
theorem typeK (F : ExcBaseFacts B newId initId bmB) (hT : ∀ X : String, bm.contains (.type X) = bmB.contains (.type X)) {Q : Fin → Shared → Prop} (hC : h.get? C = some (excClassObj nm q C N bs bm hdct sn sub ab col dd k0 k1 k2 k3 k5 newId))
    (hi : W.Looks (model prog w) h (typeLookup (.ref C) "__init__") (some (.ref fI))) (hb : ∀ self, W.Looks (model prog w) h (bindSpecial (.ref fI) self) (.ref fI, [self]))
    (hq : codeAny (model prog w) A (.call (.ref fI) ⟨[.ref (h.objs.size + 1)], kw⟩) (fun r s' => match r with | .ok (.ret v) => v = .none ∧ Q (.done (.ret (.ref (h.objs.size + 1)))) s' | .ok _ => False | .error e => E e s') ⟨(h.push (W.kdv_tup [])).push (excO C h.objs.size), g, d, t, os⟩) :
    wpAny (model prog w) A (Builtin.«type.__call__» ⟨[.ref C], kw⟩) Q E ⟨h, g, d, t, os⟩ := by
  repeat (first | with_reducible refine wpAny_loadPart_at hC ?_ | with_reducible refine wpAny_madeBy_exc hC ?_ | wp_step)
  refine codeAny_call_builtin_code (Code.quiet_builtin _ F.quiet) (looked F hT hC (newK F hT hC (?_ : wpAny _ _ _ _ _ _)))
  have kp : ∀ b o, h.get? b = some o → ((h.push (W.kdv_tup [])).push (excO C h.objs.size)).get? b = some o := fun b o e => Heap.get?_push_of_some _ (Heap.get?_push_of_some _ e)
  have hC2 := kp _ _ hC
  have he : ((h.push (W.kdv_tup [])).push (excO C h.objs.size)).get? (h.objs.size + 1) = some (excO C h.objs.size) := by heap_get
  have cC : (Value.ref C :: bm).contains (.ref C) = true := by simp
  have i1 := hi.keeps kp
  have b1 := (hb (.ref (h.objs.size + 1))).keeps kp
  unfold isInstance
  repeat (first | with_reducible refine wpAny_loadPart_at he ?_ | (with_reducible refine wpAny_isSubtype_exc hC2 ?_; rw [cC]) | wp_step)
  refine (i1.at ?_ : wpAny _ _ (typeLookup (.ref C) _) _ _ _)
  refine wpAny_holding (wpAny_bind (b1.at (wpAny_bind (wpAny_call (codeAny_mono hq fun r s' z => ?_)))))
  rcases r with e | (v | _ | _ | _) <;> first | exact z | exact z.elim | skip
  obtain ⟨rfl, z⟩ := z
  first
    | exact wpAny_pure (wpAny_pure z)
    | (wp_walk; exact z)
theorem askedK {Q : Unit → Shared → Prop} (hC : h.get? C = some (excClassObj nm q C N bs bm hdct sn sub ab col dd k0 k1 k2 k3 k5 newId)) (hq : Q () ⟨h, g, d, t, os⟩) : wpAny M A (checkBuiltinCall "type.__call__" ⟨[.ref C], kw⟩) Q E ⟨h, g, d, t, os⟩ := by
  have z1 := tc_sub
  have z2 : (⟨h, g, d, t, os⟩ : Shared).TypeIs (.ref C) "type" := ⟨_, hC, rfl⟩
  simp only [checkBuiltinCall, tc_kind, tc_split]
  repeat (any_goals (first | assumption | with_reducible refine wpAny_loadPart_at hC ?_ | with_reducible refine wpAny_onRaise ?_ | with_reducible refine wpAny_map ?_ | wp_step))
theorem callK (F : ExcBaseFacts B newId initId bmB) (hT : ∀ X : String, bm.contains (.type X) = bmB.contains (.type X)) (hC : h.get? C = some (excClassObj nm q C N bs bm hdct sn sub ab col dd k0 k1 k2 k3 k5 newId))
    (hi : W.Looks (model prog w) h (typeLookup (.ref C) "__init__") (some (.ref fI))) (hb : ∀ self, W.Looks (model prog w) h (bindSpecial (.ref fI) self) (.ref fI, [self]))
    (hq : codeAny (model prog w) (A.under (.builtin "type.__call__" ⟨[.ref C], kw⟩)) (.call (.ref fI) ⟨[.ref (h.objs.size + 1)], kw⟩) (W.InitBack (h.objs.size + 1) R) ⟨(h.push (W.kdv_tup [])).push (excO C h.objs.size), g, d, t, os⟩) :
    codeAny (model prog w) A (.call (.ref C) ⟨[], kw⟩) R ⟨h, g, d, t, os⟩ := by
  have g1 := tc_lookup
  have g2 := tc_bind (.ref C)
  have g3 : (⟨h, g, d, t, os⟩ : Shared).TypeIs (.ref C) "type" := ⟨_, hC, rfl⟩
  refine codeAny_of_tree (?_ : wpAny _ _ (callAny (.ref C) _) _ _ _)
  repeat (any_goals (first | assumption | with_reducible refine wpAny_loadPart_at hC ?_ | wp_step))
  refine ⟨rfl, codeAny_call_builtin_at (Code.quiet_builtin _ (by decide +kernel)) entry_typeCall (askedK hC (typeK F hT hC hi hb ?_))⟩
  refine codeAny_mono hq fun r s' z => ?_
  rcases r with e | (v | _ | _ | _) <;> exact z
end
end PySem.PMK
-- PMini4
set_option Elab.async false
set_option linter.all false
set_option maxRecDepth 100000
set_option maxHeartbeats 4000000
namespace PMI
open PySem PySem.Spec PyProof.Rows L2
section
variable {X : Cx} {pins : List (Addr × Obj)} {σ : L2.St} {H : Hp} {s : Shared} {C : Addr} {fld : Str} {y : V} {u : Value} {k : Nat}
theorem call_kw {Q : Value → Shared → Prop} (T : InF X.prog X.K C fld) (I : Inv X pins σ H s) (hr : Room k X.A) (hsup : X.mg "super" = none) (ry : RelV y u)
    (h : ∀ a dx s', H a = none → H dx = none → dx ≠ a → Inv X pins σ (upd (upd H dx (exd dx [(fld, y)])) a (exo a C (some dx))) s' → Q (.ref a) s') : wpAny (model X.prog X.w) X.A (call (.ref C) [] [(fld, u)]) Q X.xe s := by
  obtain ⟨nm, q, N, bs, bm, sn, sub, ab, col, dd, k0, k1, k2, k3, k5, hC, hbm⟩ := T.oex.cls
  obtain ⟨fI, cc, cda, msg, qual, file, params, scope, dV, kV, doc, pm, ct, oc, ccl, cl, an, od, cdd, cld, osl, ccs, csl, vs, tf, ar, p0, p1, p2, p3, p4, p5, q0, q1, q2, q3, j, iC, tI, ho, hcd, _, hb2, hls, hlf, hfs, hks, hkc, hcell, hco, hgen, hkd, hp, har, hcode, hvs, hfile, htop, hcc, hd1, hin, hs1, hs2, hev⟩ := T.fn
  obtain ⟨mb, hBl, hbv⟩ := I.mod.blt
  obtain ⟨hp1, g, dr, tk, os⟩ := s
  have kk : ∀ b o, hp1.get? b = some o → ((hp1.push (PySem.W.kdv_tup [])).push (PySem.HandSPX.excO C hp1.objs.size)).get? b = some o := fun b o e => Heap.get?_push_of_some _ (Heap.get?_push_of_some _ e)
  have hget : ((hp1.push (PySem.W.kdv_tup [])).push (PySem.HandSPX.excO C hp1.objs.size)).get? (hp1.objs.size + 1) = some (PySem.HandSPX.excO C hp1.objs.size) := by heap_get
  have hgt : ((hp1.push (PySem.W.kdv_tup [])).push (PySem.HandSPX.excO C hp1.objs.size)).get? hp1.objs.size = some (PySem.W.kdv_tup []) := by heap_get
  have none_ : ∀ b, hp1.objs.size ≤ b → hp1.get? b = none := fun b hb => by
    cases z : hp1.get? b with
    | none => rfl
    | some o => exact absurd (Heap.lt_size z) (Nat.not_lt_of_le hb)
  have pe0 : hp1.get? (hp1.objs.size + 1) = none := none_ _ (Nat.le_succ _)
  refine wpAny_call (PySem.PMK.callK F.excBase_ValueError (fun Y => PySem.HandSPX.refsVE_contains Y bm hbm) (I.kIn _ _ hC) (PySem.W.looks_findIn I.kIn iC) (fun self => PySem.W.bind_fn I.kIn self tI)
    (init_code (hB := hp1) (t := hp1.objs.size) (ts := []) (v := u) T.cls I.kIn kk (by simp only [Heap.size_push]; omega) hget hgt pe0 (none_ _ (Nat.le_refl _)) (Nat.succ_ne_self _) (I.mod.glob.keeps I.bk) hsup (hBl.keeps I.bk) ((hbv _ (by decide)).trans (by decide +kernel)) (I.mod.nolimit.keeps I.bk) ho hcd (by rw [make_depth]; have := hr.dp; omega) (hb2 _ _ _) hls hlf hfs hks hkc hcell hco hgen hkd hp har hcode hvs hfile htop hcc hd1 hin hs1 hs2 hev
      fun h' tk' dx t' k' hx pdx dne hns => ?_))
  refine ⟨rfl, ?_⟩
  have J := laid2 (t' := tk') (h' := h') I k' pe0 pdx dne.symm (exo_ok (t1 := t') hx) (exd_ok (dx := dx) (fs := [(fld, y)]) hns (relO_put (fs := []) ry fun g => True.intro))
  exact h _ dx ⟨h', g, dr, tk', os⟩ (I.hok.gone pe0) (I.hok.gone pdx) dne J
end
section
variable {X : Cx} {x : Str} {C : Addr} {fld : Str} {e : Expr} {te : TE} {tk : TA} {p pos : Pos} {k : Nat} {kws : List Keyword}
def tMk (C : Addr) (fld : Str) (y : V) (H1 : Hp) (Q : VK) : Prop := ∀ a dx, H1 a = none → H1 dx = none → dx ≠ a → Q (.ref a) (upd (upd H1 dx (exd dx [(fld, y)])) a (exo a C (some dx)))
/-- C(e) -/
theorem pe_new1 (T : InF X.prog X.K C fld) (hr : Room k X.A) (hsup : X.mg "super" = none) (hg : Gl X x) (hm : X.mg x = some (.ref C)) (he : PE X e te) (hs : starEach [e] X.env = (false, eval e X.env) :: starEach [] X.env := by rfl) (hdb : (x == ("__debug__" : Str)) = false := by decide) :
    PE X (.Call (.Name x p) [e] [] pos) (fun σ H Q => te σ H fun y H1 => tMk C fld y H1 Q) := by
  refine ⟨fun pins s σ H Q I h => wpAny_Call_Name_kw (ld_glob I hg hm (PySem.W.callWith_K (h₀ := X.base) I.ok.mod.kin T.oex.kC ?_ hs (by rfl)) hdb)⟩
  rw [hs]
  show wpAny _ _ (spliced ((false, eval e X.env) :: backTo pos (starEach [] X.env))) _ _ s; refine Calls.spliced_cons (thn (he.run pins s σ H _ I h) fun u s1 ⟨v, H1, I1, r1, q1⟩ => Calls.spliced_nil ⟨I1.kIn, ?_⟩)
  exact call_pos T I1 hr hsup r1 fun a dx s' ha hd ne J => ⟨.ref a, _, J, rfl, q1 a dx ha hd ne⟩
/-- C(f=e) -/
theorem pe_newK (T : InF X.prog X.K C fld) (hr : Room k X.A) (hsup : X.mg "super" = none) (hg : Gl X x) (hm : X.mg x = some (.ref C)) (hkw : PK X kws tk)
    (hall : (backToKw pos (keywordEach kws X.env)).all (·.1.isSome) = true := by rfl) (hks : (backToKw pos (keywordEach kws X.env)).filterMap (·.1) = [fld] := by rfl) (hdb : (x == ("__debug__" : Str)) = false := by decide)
    (hpl : ((backTo pos (starEach [] X.env)).any (·.1) || (backToKw pos (keywordEach kws X.env)).any (·.1.isNone)) = false := by rfl) :
    PE X (.Call (.Name x p) [] kws pos) (fun σ H Q => tk σ H fun ys H1 => ∃ y, ys = [y] ∧ tMk C fld y H1 Q) := by
  refine ⟨fun pins s σ H Q I h => wpAny_Call_Name_kw (ld_glob I hg hm ?_ hdb)⟩
  refine PySem.W.callWith_KW0 (h₀ := X.base) I.ok.mod.kin T.oex.kC hall (thn (hkw.run pos pins s σ H _ I h) ?_) hpl
  rintro ws s1 ⟨vs, H1, I1, r, y, ey, q⟩
  subst ey
  rw [hks]
  obtain ⟨u, rfl, ru⟩ := r.one
  exact ⟨I1.kIn, call_kw T I1 hr hsup ru fun a dx s' ha hd ne J => ⟨.ref a, _, J, rfl, q a dx ha hd ne⟩⟩
/-- ValueError(e) -/
theorem pe_ve (hg : Gl X "ValueError") (hm : X.mg "ValueError" = none) (he : PE X e te) (hs : starEach [e] X.env = (false, eval e X.env) :: starEach [] X.env := by rfl) :
    PE X (.Call (.Name "ValueError" p) [e] [] pos) (fun σ H Q => te σ H fun _ H1 => ∀ a, H1 a = none → Q (.ref a) (upd H1 a (ExO (.type "ValueError") a))) := by
  refine ⟨fun pins s σ H Q I h => Call_ (ld_blt I hg hm PyProof.Rows.Boot.«ValueError» (PyProof.Rows.callWith_type1 (PyProof.Rows.args_cons (thn (he.run pins s σ H _ I h) fun u s1 ⟨v, H1, I1, r1, q1⟩ => PyProof.Rows.args_nil ?_) hs) hs rfl) (by decide) (by decide))⟩
  obtain ⟨hh, g, d, tk, os⟩ := s1
  refine wpAny_call_exc F.excBase_ValueError.toExcCallFacts (hrest := by rw [sizeLine_eq]; exact Nat.le_of_ble_eq_true rfl) fun h' a hm => ?_
  have hn : H1 a = none := I1.hok.gone hm.new
  obtain ⟨t, ht, _, _⟩ := hm.there
  exact ⟨.ref a, upd H1 a (ExO (.type "ValueError") a), I1.laidN hm.keeps hm.new hn (exO_ok ht ⟨rfl, rfl⟩ rfl rfl rfl (show 4 < 6 from Nat.le_of_ble_eq_true rfl)), rfl, q1 a hn⟩
/-- e.f, e an exception with its fields -/
theorem pe_fld {n : Str} (T : XfC X.K C) (hno : PySem.W.findIn X.K (.ref C) n = some none) (he : PE X e te) (hb : attributeBase e n X.env (eval e X.env) = eval e X.env := by rfl) :
    PE X (.Attribute e n pos) (fun σ H Q => te σ H fun x H1 => ∃ (a dx : Addr) (fs : List (Str × V)) (v : V), x = .ref a ∧ H1 a = some (exo a C (some dx)) ∧ H1 dx = some (exd dx fs) ∧ fs.lookup n = some v ∧ Q v H1) := by
  refine ⟨fun pins s σ H Q I h => attr_of hb (thn (he.run pins s σ H _ I h) fun u s1 hh => ?_)⟩
  obtain ⟨x, H1, I1, rx, a, dx, fs, v, ex, ea, ed, l, q⟩ := hh
  subst ex
  obtain rfl : u = Value.ref a := rx
  obtain ⟨t1, ho⟩ := exo_at I1.hok ea
  obtain ⟨mA, hns, hr⟩ := exd_at I1.hok ed
  obtain ⟨od, ho2, hl⟩ := lookIn_ns hns
  obtain ⟨w, hw, rw_⟩ := RelO.some_of (v := v) (o := mA n) (by rw [← l]; exact hr n)
  have J : PySem.W.InstAt s1.heap a { cls := .ref C, dict := some dx, data := .fields #[.ref t1, .none, .none, .none, .bool false, .none] } C (some od) := ⟨ho, rfl, rfl, ho2⟩
  exact HandSPX.exc_get I1.kIn J T.ga T.gg T.exC (PySem.W.findObj_own T.hdC hno rfl (by rw [hl, hw])) (handed_of rw_) ⟨v, H1, I1.tok _, rw_, q⟩
end
end PMI
-- PMini5
set_option Elab.async false
set_option linter.all false
set_option maxRecDepth 100000
set_option maxHeartbeats 4000000
namespace PMI
open PySem PySem.Spec PyProof.Rows L2
/-- an exception object at a, t its class -/
def ExcAt (K : PySem.W.Frag) (H : Hp) (a : Addr) (t : Value) : Prop :=
  (∃ C, t = .ref C ∧ ExcC K C ∧ (H a = some (ExO (.ref C) a) ∨ ∃ dx fs, H a = some (exo a C (some dx)) ∧ H dx = some (exd dx fs))) ∨ (t = .type "ValueError" ∧ H a = some (ExO (.type "ValueError") a))
def rIsx (K : PySem.W.Frag) : List V → Hp → VK → Prop := fun xs H Q => ∃ (a : Addr) (w : V) (cv t : Value) (b : Bool), xs = [.ref a, w] ∧ ClsV w cv ∧ ExcAt K H a t ∧ PySem.W.kitOne K t cv = some b ∧ Q (.bl b) H
theorem call_isx {X : Cx} : CallR X (.builtin "isinstance") (rIsx X.K) := by
  intro pins s σ H xs us Q I r h
  obtain ⟨a, w, cv, t, b, rfl, kw, ex, e, q⟩ := h
  obtain ⟨u1, u2, rfl, r1, r2⟩ := vals2 r
  obtain rfl := kw.eq r2
  obtain rfl : u1 = Value.ref a := r1
  have done : ∀ {P : Heap → Prop}, PySem.W.KitX X.K (.ref a) t P → P s.heap → wpAny (model X.prog X.w) X.A (call (.builtin "isinstance") [.ref a, u2]) (EP X pins σ Q) X.xe s := fun {P} Z p =>
    PySem.W.kia_one Z I.kIn p e (fun z => nomatch z) fun tk => ⟨.bl b, H, I.tok tk, rfl, q⟩
  rcases ex with ⟨C, rfl, T, ea⟩ | ⟨rfl, ea⟩
  · have hcl : (PySem.W.clsIn X.K C).isSome = true := by
      obtain ⟨cd, hc, _⟩ := PySem.W.any_some T.hd
      rw [hc]
      rfl
    rcases ea with ea | ⟨dx, fs, ea, ed⟩
    · obtain ⟨⟨oe, vs, ho, hz, hd, _⟩, _, _⟩ := I.hok a _ ea
      have J : PySem.W.InstAt s.heap a oe C none := by
        obtain ⟨oc, od, oda, osl⟩ := oe
        obtain ⟨h1, h2⟩ := hz
        dsimp only at h1 h2 hd
        subst h1 h2 hd
        exact ⟨ho, rfl, rfl, trivial⟩
      exact done (PySem.W.kitx_exc (od := none) hcl T.hg T.hk T.hs T.ha T.hn T.ht T.hm) J
    · obtain ⟨t1, ho⟩ := exo_at I.hok ea
      obtain ⟨mA, hns, hr⟩ := exd_at I.hok ed
      obtain ⟨od, ho2, hl⟩ := lookIn_ns hns
      have J : PySem.W.InstAt s.heap a { cls := .ref C, dict := some dx, data := .fields #[.ref t1, .none, .none, .none, .bool false, .none] } C (some od) := ⟨ho, rfl, rfl, ho2⟩
      exact done (PySem.W.kitx_exc (od := some od) hcl T.hg T.hk T.hs T.ha T.hn T.ht T.hm) J
  · obtain ⟨⟨oe, vs, ho, hz, hd, _⟩, _, _⟩ := I.hok a _ ea
    exact done (PySem.W.kitx_bexc F.excAttr_ValueError PySem.F.lkClass_ValueError PySem.F.soClass_ValueError (by decide)) ⟨oe, ho, hz.1⟩
end PMI
-- PMexc
set_option Elab.async false
set_option linter.all false
set_option maxRecDepth 100000
set_option maxHeartbeats 4000000
/-! PM: exceptions as values. -/
namespace PM
open PySem PySem.Spec PyProof.Rows L2 PMI
def mNew0 (c : Str) (m : EM) : EM := fun env st => (m env st).bind fun _ st1 => .ok (.exo c [] []) st1
def mNew1 (c fld : Str) (m : EM) : EM := fun env st => (m env st).bind fun d st1 => .ok (.exo c [fld] [d]) st1
def mNewK (c fld : Str) (t : AM) : EM := fun env st => (t env st).bind fun ds st1 => match ds with
  | [d] => .ok (.exo c [fld] [d]) st1
  | _ => .stuck
def mFld (c fld : Str) (m : EM) : EM := fun env st => (m env st).bind fun d st1 => match d with
  | .exo c' [f] [v] => if c' = c ∧ f = fld then .ok v st1 else .stuck
  | _ => .stuck
def isxB (sub : Str → Str → Option Bool) : OpN
  | [.exo c _ _, .glo y], st => if y = "" then none else (sub c y).map fun b => (.bl b, st)
  | [.exo c _ _, .ty n], st => if n = "ValueError" then (sub c "").map fun b => (.bl b, st) else none
  | _, _ => none
/-- what isinstance tells -/
structure SubOk (K : PySem.W.Frag) (sub : Str → Str → Option Bool) : Prop where
  own : ∀ c y b, sub c y = some b → c = "ValueError" ∨ ExcC K (He.ga K c)
  cls : ∀ c y b, sub c y = some b → y ≠ "" → PySem.W.kitOne K (clsV K c) (.ref (He.ga K y)) = some b
  val : ∀ c b, sub c "" = some b → PySem.W.kitOne K (clsV K c) (.type "ValueError") = some b
section
variable {X : Cx} {W : WX} {e : Expr} {m : EM} {t : AM} {p pos : Pos} {x fld : Str} {k : Nat} {kws : List Keyword}
theorem go_new0 {c : Str} {H : Hp} {ρ : List Addr} {st : Store} {Q : VK} (R : StOk X.K H ρ st) (h : ∀ H' ρ', Gr X.K H ρ H' ρ' → StOk X.K H' ρ' st → ∀ z, Rv X.K H' ρ' z (.exo c [] []) → Q z H') : ∀ a, H a = none → Q (.ref a) (upd H a (ExO (clsV X.K c) a)) :=
  fun a ha => h _ ρ (Gr.new ha) (R.new ha) _ (.exo ⟨R.free ha, .inl ⟨rfl, rfl, upd_same⟩⟩ .nil)
theorem go_new1 {c : Str} {H : Hp} {ρ : List Addr} {st : Store} {Q : VK} {y : V} {d : D} (hc : c ≠ "ValueError") (R : StOk X.K H ρ st) (r : Rv X.K H ρ y d) (h : ∀ H' ρ', Gr X.K H ρ H' ρ' → StOk X.K H' ρ' st → ∀ z, Rv X.K H' ρ' z (.exo c [fld] [d]) → Q z H') : tMk (He.ga X.K c) fld y H Q := fun a dx ha hd ne => by
  have ha' : upd H dx (exd dx [(fld, y)]) a = none := by rw [upd_ne ne.symm]; exact ha
  have g : Gr X.K H ρ (upd (upd H dx (exd dx [(fld, y)])) a (exo a (He.ga X.K c) (some dx))) ρ := (Gr.new hd).trans (Gr.new ha')
  exact h _ ρ g ((R.new hd).new ha') _ (.exo ⟨R.free ha, .inr ⟨dx, [(fld, y)], R.free hd, upd_same, by rw [upd_ne ne]; exact upd_same, rfl, rfl, hc⟩⟩ (.cons (r.gr g) .nil))
theorem pm_new0 (hx : x ≠ "ValueError") (q : PySem.W.excIn X.K (He.ga X.K x) He.veBase "ValueError.__new__" = true) (kC : PySem.W.keepIn X.K (.ref (He.ga X.K x)) = true) (hg : Gl X x) (hm : X.mg x = some (.ref (He.ga X.K x))) (he : PE X e (tE X.K W m)) (hs : starEach [e] X.env = (false, eval e X.env) :: starEach [] X.env := by rfl) (hdb : (x == ("__debug__" : Str)) = false := by decide) :
    PE X (.Call (.Name x p) [e] [] pos) (tE X.K W (mNew0 x m)) := by
  refine pe_imp (pe_exc1 F.excBase_ValueError q hm kC hg he hs hdb) fun σ H Q I ⟨env, ρ, st, R, N, h⟩ => tE_run R N h fun v d H1 ρ1 st1 g1 R1 N1 r1 h1 => ?_
  have z := go_new0 (c := x) (Q := Q) R1 fun H' ρ' g R' z rz => h1 H' ρ' g R' z rz
  rw [show clsV X.K x = .ref (He.ga X.K x) from if_neg hx] at z
  exact z
theorem pm_ve (hg : Gl X "ValueError") (hm : X.mg "ValueError" = none) (he : PE X e (tE X.K W m)) (hs : starEach [e] X.env = (false, eval e X.env) :: starEach [] X.env := by rfl) : PE X (.Call (.Name "ValueError" p) [e] [] pos) (tE X.K W (mNew0 "ValueError" m)) := by
  refine pe_imp (pe_ve hg hm he hs) fun σ H Q I ⟨env, ρ, st, R, N, h⟩ => tE_run R N h fun v d H1 ρ1 st1 g1 R1 N1 r1 h1 => ?_
  have z := go_new0 (c := "ValueError") (Q := Q) R1 fun H' ρ' g R' z rz => h1 H' ρ' g R' z rz
  rw [show clsV X.K "ValueError" = .type "ValueError" from if_pos rfl] at z
  exact z
theorem pm_new1 (hx : x ≠ "ValueError") (T : InF X.prog X.K (He.ga X.K x) fld) (hr : Room k X.A) (hsup : X.mg "super" = none) (hg : Gl X x) (hm : X.mg x = some (.ref (He.ga X.K x))) (he : PE X e (tE X.K W m)) (hs : starEach [e] X.env = (false, eval e X.env) :: starEach [] X.env := by rfl) (hdb : (x == ("__debug__" : Str)) = false := by decide) :
    PE X (.Call (.Name x p) [e] [] pos) (tE X.K W (mNew1 x fld m)) :=
  pe_imp (pe_new1 T hr hsup hg hm he hs hdb) fun σ H Q I ⟨env, ρ, st, R, N, h⟩ => tE_run R N h fun v d H1 ρ1 st1 g1 R1 N1 r1 h1 => go_new1 hx R1 r1 fun H' ρ' g R' z rz => h1 H' ρ' g R' z rz
theorem pm_newK (hx : x ≠ "ValueError") (T : InF X.prog X.K (He.ga X.K x) fld) (hr : Room k X.A) (hsup : X.mg "super" = none) (hg : Gl X x) (hm : X.mg x = some (.ref (He.ga X.K x))) (hkw : PK X kws (tA X.K W t))
    (hall : (backToKw pos (keywordEach kws X.env)).all (·.1.isSome) = true := by rfl) (hks : (backToKw pos (keywordEach kws X.env)).filterMap (·.1) = [fld] := by rfl) (hdb : (x == ("__debug__" : Str)) = false := by decide)
    (hpl : ((backTo pos (starEach [] X.env)).any (·.1) || (backToKw pos (keywordEach kws X.env)).any (·.1.isNone)) = false := by rfl) : PE X (.Call (.Name x p) [] kws pos) (tE X.K W (mNewK x fld t)) :=
  pe_imp (pe_newK T hr hsup hg hm hkw hall hks hdb hpl) fun σ H Q I ⟨env, ρ, st, R, N, h⟩ => tA_run R N h fun vs ds H1 ρ1 st1 g1 R1 N1 r1 h1 => by
    cases r1 with
    | nil => exact h1.elim
    | cons r rr =>
      cases rr with
      | nil => exact ⟨_, rfl, go_new1 hx R1 r fun H' ρ' g R' z rz => h1 H' ρ' g R' z rz⟩
      | cons _ _ => exact h1.elim
theorem pm_fld {c : Str} (T : XfC X.K (He.ga X.K c)) (hno : PySem.W.findIn X.K (.ref (He.ga X.K c)) fld = some none) (he : PE X e (tE X.K W m)) (hb : attributeBase e fld X.env (eval e X.env) = eval e X.env := by rfl) : PE X (.Attribute e fld pos) (tE X.K W (mFld c fld m)) :=
  pe_imp (pe_fld T hno he hb) fun σ H Q I ⟨env, ρ, st, R, N, h⟩ => tE_run R N h fun v d H1 ρ1 st1 g1 R1 N1 r1 h1 => by
    cases d with
    | exo c' ns ds =>
      cases r1 with
      | exo hx rr =>
        match ns, ds, rr, h1, hx with
        | [], _, _, h1, _ => exact h1.elim
        | [_], [], _, h1, _ => exact h1.elim
        | [_], _ :: _ :: _, _, h1, _ => exact h1.elim
        | _ :: _ :: _, _, _, h1, _ => exact h1.elim
        | [f], [w], rr, h1, hx =>
          by_cases z : c' = c ∧ f = fld
          · obtain ⟨rfl, rfl⟩ := z
            have h2 : Go X.K (wx X.K W) H1 ρ1 (.ok w st1) (fun d H' ρ' _ => ∀ v, Rv X.K H' ρ' v d → Q v H') := by
              have e : (if c' = c' ∧ f = f then Res.ok w st1 else .stuck) = .ok w st1 := if_pos ⟨rfl, rfl⟩
              rw [← e]
              exact h1
            cases rr with
            | cons rw_ rr =>
              cases rr
              obtain ⟨_, ⟨q, _⟩ | ⟨dx, fs, _, ea, ed, en, ev, _⟩⟩ := hx
              · cases q
              · match fs, en, ev with
                | [(g, u)], en, ev =>
                  cases en
                  cases ev
                  exact ⟨_, dx, _, u, rfl, ea, ed, by rw [List.lookup_cons, beq_self_eq_true], h2 H1 ρ1 Gr.refl R1 _ rw_⟩
                | [], en, _ => cases en
                | _ :: _ :: _, en, _ => cases en
          · have e : (if c' = c ∧ f = fld then Res.ok w st1 else .stuck) = .stuck := if_neg z
            have h2 : Go X.K (wx X.K W) H1 ρ1 (if c' = c ∧ f = fld then Res.ok w st1 else .stuck) (fun d H' ρ' _ => ∀ v, Rv X.K H' ρ' v d → Q v H') := h1
            rw [e] at h2
            exact h2.elim
    | _ => exact h1.elim
theorem excAt_of {K : PySem.W.Frag} {H : Hp} {ρ : List Addr} {c : Str} {ns : List Str} {vs : List V} {a : Addr} (h : ExA K H ρ c ns vs a) (o : c = "ValueError" ∨ ExcC K (He.ga K c)) : ExcAt K H a (clsV K c) := by
  by_cases z : c = "ValueError"
  · obtain ⟨_, ⟨_, _, e⟩ | ⟨_, _, _, _, _, _, _, q⟩⟩ := h
    · rw [show clsV K c = .type "ValueError" from if_pos z] at e ⊢
      exact .inr ⟨rfl, e⟩
    · exact absurd z q
  · have ez : clsV K c = .ref (He.ga K c) := if_neg z
    have T := o.resolve_left z
    obtain ⟨_, ⟨_, _, e⟩ | ⟨dx, fs, _, ea, ed, _⟩⟩ := h
    · rw [ez] at e ⊢
      exact .inl ⟨_, rfl, T, .inl e⟩
    · rw [ez]
      exact .inl ⟨_, rfl, T, .inr ⟨dx, fs, ea, ed⟩⟩
theorem calls_isx {sub : Str → Str → Option Bool} (S : SubOk X.K sub) : Calls X (.builtin "isinstance") (isxB sub) := by
  refine ⟨_, call_isx, fun {H ρ st ds vs d st' Q} R r e q => ?_⟩
  match ds, r, e with
  | [.exo c ns es, .glo y], .cons (.exo hx _) (.cons (.glo _) .nil), e =>
    by_cases hy : y = ""
    · have e0 : (if y = "" then none else (sub c y).map fun b => (D.bl b, st)) = some (d, st') := e
      rw [if_pos hy] at e0
      cases e0
    · have e0 : (if y = "" then none else (sub c y).map fun b => (D.bl b, st)) = some (d, st') := e
      rw [if_neg hy] at e0
      obtain ⟨b, e1, e2⟩ := map_some e0
      cases e2
      exact ⟨_, _, _, _, b, rfl, .own _, excAt_of hx (S.own c y b e1), S.cls c y b e1 hy, q H ρ Gr.refl R _ (.bl b)⟩
  | [.exo c ns es, .ty n], .cons (.exo hx _) (.cons (.ty _) .nil), e =>
    obtain ⟨hn, e⟩ := ite_some (show (if n = "ValueError" then (sub c "").map fun b => (D.bl b, st) else none) = some (d, st') from e)
    subst hn
    obtain ⟨b, e1, e2⟩ := map_some e
    cases e2
    exact ⟨_, _, _, _, b, rfl, .ty _, excAt_of hx (S.own c "" b e1), S.val c b e1, q H ρ Gr.refl R _ (.bl b)⟩
theorem pm_glo (hg : Gl X x) (hm : X.mg x = some (.ref (He.ga X.K x))) (hdb : (x == ("__debug__" : Str)) = false := by decide) : PE X (.Name x pos) (tE X.K W (mC (.glo x))) := pm_c (pe_glob hg hm (v := .ref (He.ga X.K x)) rfl hdb) fun _ _ => .glo x
theorem pm_ty {n : String} (hg : Gl X x) (hm : X.mg x = none) (hv : bootBuiltins x = some (.type n)) (hn : x ≠ "__name__" := by decide) (hd : (x == ("__debug__" : Str)) = false := by decide) : PE X (.Name x pos) (tE X.K W (mC (.ty n))) := pm_c (pe_bltn hg hm hv (v := .ty n) rfl hn hd) fun _ _ => .ty n
end
end PM
-- K00defs
set_option Elab.async false
set_option linter.all false
set_option maxRecDepth 100000
set_option maxHeartbeats 4000000
namespace K00
open PySem L2 PM
inductive Nm where
  | f__law_begun | f__law_blended | f__law_draw | f__law_pick | f__law_k00_flags | f_law
abbrev TB := Nm → FM
/-- whether an exception of the class c is one of the class y ("" is ValueError) -/
def clsL : List Str := "LoanError" :: "BadArguments" :: "BadBook" :: "BadCase" :: "BadCount" :: "BadDeal" :: "BadEdit" :: "BadFunction" :: "BadHeapState" :: "BadLaying" :: "BadLink" :: "BadModules" :: "BadName" :: "BadNumber" :: "BadObject" :: "BadPath" :: "BadPlace" :: "BadPlainState" :: "BadProgram" :: "BadRoad" :: "BadRow" :: "BadRun" :: "BadSigns" :: "BadSum" :: "BadThing" :: "BadType" :: "BadValue" :: "BadWeaving" :: "Broken" :: "CannotDeal" :: "NoFunction" :: "NoPath" :: "NotLet" :: "NotSayable" :: "NotTyped" :: "NothingDone" :: "NothingUndone" :: "Stray" :: "Strayed" :: "TooManyRows" :: "TooWide" :: "Uneditable" :: []
def subT (c y : Str) : Option Bool := if c = "ValueError" then (if y = "" then some true else if y ∈ clsL then some false else none) else if c ∈ clsL then (if y = "" then some true else if y ∈ clsL then some (decide (y = c ∨ y = "LoanError")) else none) else none
/-! ### the defs, by data -/
def b__law_begun (T : TB) : SM := (sSeq (sAsg (mLc (mSeq (mV 0)) (.nm 2) (mT (m2 geD (mB absB (aCons (mV 2) aNil)) (m2 powD (mC (.int 10)) (mC (.int 18))))) (m2 subD (mB absB (aCons (mV 2) aNil)) (m2 powD (mC (.int 10)) (mC (.int 18)))) [2]) (.nm 1)) (sRet (mDct [("great", (mV 1)), ("cells", (mLc (mSeq (mV 0)) (.nm 2) mYes (mB absB (aCons (mV 2) aNil)) [2])), ("left", (mC (.int 0))), ("turn", (mC (.int 0)))])))
def b__law_blended (T : TB) : SM := (sSeq (sPar 1 3 (aCons (m2 addD (m2 ixD (mV 0) (mC (.str "turn"))) (mC (.int 1))) (aCons (mC (.int 0)) aNil))) (sSeq (sPut (mV 1) (mV 0) (mC (.str "turn"))) (sSeq (sFor (mSeq (mLst (aCons (mC (.int 2147481673)) (aCons (mC (.int 2147481629)) (aCons (mC (.int 2147481571)) aNil))))) (.nm 2) (sSeq (sAsg (m2 addD (m2 mulD (mC (.int 45841)) (mV 1)) (m2 divD (mV 2) (mC (.int 83)))) (.nm 4)) (sSeq (sFor (mSeq (m2 ixD (mV 0) (mC (.str "cells")))) (.nm 5) (sAsg (m2 modD (mB intB (aCons (m2 addD (m2 addD (m2 mulD (mV 4) (mC (.int 67453))) (mV 5)) (mV 1)) aNil)) (mV 2)) (.nm 4))) (sAsg (m2 addD (m2 mulD (mV 3) (mC (.int 2147483647))) (m2 modD (mB intB (aCons (m2 powD (mV 4) (mC (.int 5))) aNil)) (mV 2))) (.nm 3))))) (sRet (mV 3)))))
def b__law_draw (T : TB) : SM := (sSeq (sIf (mT (m2 eqD (m2 ixD (mV 0) (mC (.str "left"))) (mC (.int 0)))) (sPut (mIf (mT (m2 neD (m2 ixD (mV 0) (mC (.str "great"))) (mLst aNil))) (mMt isLst popAtG (m2 ixD (mV 0) (mC (.str "great"))) (aCons (mC (.int 0)) aNil)) (mCall (T .f__law_blended) (aCons (mV 0) aNil))) (mV 0) (mC (.str "left"))) sNext) (sSeq (sAsg (m2 modD (mB intB (aCons (m2 ixD (mV 0) (mC (.str "left"))) aNil)) (mV 1)) (.nm 2)) (sSeq (sPut (m2 divD (m2 ixD (mV 0) (mC (.str "left"))) (mV 1)) (mV 0) (mC (.str "left"))) (sRet (mV 2)))))
def b__law_pick (T : TB) : SM := (sRet (m2 ixD (mV 1) (mCall (T .f__law_draw) (aCons (mV 0) (aCons (mB lenB (aCons (mV 1) aNil)) aNil)))))
def b__law_k00_flags (T : TB) : SM := (sSeq (sAsg (mLst (aCons (mB (isxB subT) (aCons (mV 0) (aCons (mC (.glo "BadArguments")) aNil))) (aCons (mB (isxB subT) (aCons (mV 0) (aCons (mC (.glo "BadBook")) aNil))) (aCons (mB (isxB subT) (aCons (mV 0) (aCons (mC (.glo "BadCase")) aNil))) (aCons (mB (isxB subT) (aCons (mV 0) (aCons (mC (.glo "BadCount")) aNil))) aNil))))) (.nm 1)) (sSeq (sAsg (m2 addD (mV 1) (mLst (aCons (mB (isxB subT) (aCons (mV 0) (aCons (mC (.glo "BadDeal")) aNil))) (aCons (mB (isxB subT) (aCons (mV 0) (aCons (mC (.glo "BadEdit")) aNil))) (aCons (mB (isxB subT) (aCons (mV 0) (aCons (mC (.glo "BadFunction")) aNil))) (aCons (mB (isxB subT) (aCons (mV 0) (aCons (mC (.glo "BadHeapState")) aNil))) aNil)))))) (.nm 1)) (sSeq (sAsg (m2 addD (mV 1) (mLst (aCons (mB (isxB subT) (aCons (mV 0) (aCons (mC (.glo "BadLaying")) aNil))) (aCons (mB (isxB subT) (aCons (mV 0) (aCons (mC (.glo "BadLink")) aNil))) (aCons (mB (isxB subT) (aCons (mV 0) (aCons (mC (.glo "BadModules")) aNil))) (aCons (mB (isxB subT) (aCons (mV 0) (aCons (mC (.glo "BadName")) aNil))) aNil)))))) (.nm 1)) (sSeq (sAsg (m2 addD (mV 1) (mLst (aCons (mB (isxB subT) (aCons (mV 0) (aCons (mC (.glo "BadNumber")) aNil))) (aCons (mB (isxB subT) (aCons (mV 0) (aCons (mC (.glo "BadObject")) aNil))) (aCons (mB (isxB subT) (aCons (mV 0) (aCons (mC (.glo "BadPath")) aNil))) (aCons (mB (isxB subT) (aCons (mV 0) (aCons (mC (.glo "BadPlace")) aNil))) aNil)))))) (.nm 1)) (sSeq (sAsg (m2 addD (mV 1) (mLst (aCons (mB (isxB subT) (aCons (mV 0) (aCons (mC (.glo "BadPlainState")) aNil))) (aCons (mB (isxB subT) (aCons (mV 0) (aCons (mC (.glo "BadProgram")) aNil))) (aCons (mB (isxB subT) (aCons (mV 0) (aCons (mC (.glo "BadRoad")) aNil))) (aCons (mB (isxB subT) (aCons (mV 0) (aCons (mC (.glo "BadRow")) aNil))) aNil)))))) (.nm 1)) (sSeq (sAsg (m2 addD (mV 1) (mLst (aCons (mB (isxB subT) (aCons (mV 0) (aCons (mC (.glo "BadRun")) aNil))) (aCons (mB (isxB subT) (aCons (mV 0) (aCons (mC (.glo "BadSigns")) aNil))) (aCons (mB (isxB subT) (aCons (mV 0) (aCons (mC (.glo "BadSum")) aNil))) (aCons (mB (isxB subT) (aCons (mV 0) (aCons (mC (.glo "BadThing")) aNil))) aNil)))))) (.nm 1)) (sSeq (sAsg (m2 addD (mV 1) (mLst (aCons (mB (isxB subT) (aCons (mV 0) (aCons (mC (.glo "BadType")) aNil))) (aCons (mB (isxB subT) (aCons (mV 0) (aCons (mC (.glo "BadValue")) aNil))) (aCons (mB (isxB subT) (aCons (mV 0) (aCons (mC (.glo "BadWeaving")) aNil))) (aCons (mB (isxB subT) (aCons (mV 0) (aCons (mC (.glo "Broken")) aNil))) aNil)))))) (.nm 1)) (sSeq (sAsg (m2 addD (mV 1) (mLst (aCons (mB (isxB subT) (aCons (mV 0) (aCons (mC (.glo "CannotDeal")) aNil))) (aCons (mB (isxB subT) (aCons (mV 0) (aCons (mC (.glo "NoFunction")) aNil))) (aCons (mB (isxB subT) (aCons (mV 0) (aCons (mC (.glo "NoPath")) aNil))) (aCons (mB (isxB subT) (aCons (mV 0) (aCons (mC (.glo "NotLet")) aNil))) aNil)))))) (.nm 1)) (sSeq (sAsg (m2 addD (mV 1) (mLst (aCons (mB (isxB subT) (aCons (mV 0) (aCons (mC (.glo "NotSayable")) aNil))) (aCons (mB (isxB subT) (aCons (mV 0) (aCons (mC (.glo "NotTyped")) aNil))) (aCons (mB (isxB subT) (aCons (mV 0) (aCons (mC (.glo "NothingDone")) aNil))) (aCons (mB (isxB subT) (aCons (mV 0) (aCons (mC (.glo "NothingUndone")) aNil))) aNil)))))) (.nm 1)) (sSeq (sAsg (m2 addD (mV 1) (mLst (aCons (mB (isxB subT) (aCons (mV 0) (aCons (mC (.glo "Stray")) aNil))) (aCons (mB (isxB subT) (aCons (mV 0) (aCons (mC (.glo "Strayed")) aNil))) (aCons (mB (isxB subT) (aCons (mV 0) (aCons (mC (.glo "TooManyRows")) aNil))) (aCons (mB (isxB subT) (aCons (mV 0) (aCons (mC (.glo "TooWide")) aNil))) aNil)))))) (.nm 1)) (sRet (m2 addD (mV 1) (mLst (aCons (mB (isxB subT) (aCons (mV 0) (aCons (mC (.glo "Uneditable")) aNil))) aNil))))))))))))))
def b_law (T : TB) : SM := (sSeq (sAsg (mCall (T .f__law_begun) (aCons (mV 0) aNil)) (.nm 1)) (sSeq (sFor (mRng (aCons (m2 addD (mC (.int 1)) (mB minB (aCons (mB lenB (aCons (mV 0) aNil)) (aCons (mC (.int 3)) aNil)))) aNil)) (.nm 2) (sSeq (sPar3 6 7 8 (aCons (mCall (T .f__law_pick) (aCons (mV 1) (aCons (mLst (aCons (mC (.str "")) (aCons (mC (.str "a")) (aCons (mC (.str "no row")) aNil)))) aNil))) (aCons (mCall (T .f__law_draw) (aCons (mV 1) (aCons (mC (.int 100)) aNil))) (aCons (mCall (T .f__law_draw) (aCons (mV 1) (aCons (mC (.int 100)) aNil))) aNil)))) (sSeq (sAsg (mLst (aCons (mNew0 "BadArguments" (mV 6)) (aCons (mNew0 "BadBook" (mV 6)) (aCons (mNew0 "BadCase" (mV 6)) (aCons (mNew0 "BadCount" (mV 6)) (aCons (mNew0 "BadDeal" (mV 6)) (aCons (mNew0 "BadEdit" (mV 6)) aNil))))))) (.nm 3)) (sSeq (sAsg (m2 addD (mV 3) (mLst (aCons (mNew0 "BadFunction" (mV 6)) (aCons (mNew0 "BadHeapState" (mV 6)) (aCons (mNew0 "BadLaying" (mV 6)) (aCons (mNew1 "BadLink" "fault" (mV 7)) (aCons (mNew1 "BadModules" "fault" (mV 7)) (aCons (mNew0 "BadName" (mV 6)) aNil)))))))) (.nm 3)) (sSeq (sAsg (m2 addD (mV 3) (mLst (aCons (mNew0 "BadNumber" (mV 6)) (aCons (mNew0 "BadObject" (mV 6)) (aCons (mNew0 "BadPath" (mV 6)) (aCons (mNew0 "BadPlace" (mV 6)) (aCons (mNew0 "BadPlainState" (mV 6)) (aCons (mNew0 "BadProgram" (mV 6)) aNil)))))))) (.nm 3)) (sSeq (sAsg (m2 addD (mV 3) (mLst (aCons (mNew0 "BadRoad" (mV 6)) (aCons (mNew1 "BadRow" "number" (mV 7)) (aCons (mNew0 "BadRun" (mV 6)) (aCons (mNew1 "BadSigns" "at" (mV 7)) (aCons (mNew0 "BadSum" (mV 6)) (aCons (mNew0 "BadThing" (mV 6)) aNil)))))))) (.nm 3)) (sSeq (sAsg (m2 addD (mV 3) (mLst (aCons (mNew0 "BadType" (mV 6)) (aCons (mNew0 "BadValue" (mV 6)) (aCons (mNew0 "BadWeaving" (mV 6)) (aCons (mNew1 "Broken" "word" (mV 7)) (aCons (mNew1 "CannotDeal" "word" (mV 7)) (aCons (mNew0 "NoFunction" (mV 6)) aNil)))))))) (.nm 3)) (sSeq (sAsg (m2 addD (mV 3) (mLst (aCons (mNew0 "NoPath" (mV 6)) (aCons (mNew0 "NotLet" (mV 6)) (aCons (mNew0 "NotSayable" (mV 6)) (aCons (mNew0 "NotTyped" (mV 6)) (aCons (mNew0 "NothingDone" (mV 6)) (aCons (mNew0 "NothingUndone" (mV 6)) aNil)))))))) (.nm 3)) (sSeq (sAsg (m2 addD (mV 3) (mLst (aCons (mNew1 "Stray" "word" (mV 7)) (aCons (mNew0 "Strayed" (mV 6)) (aCons (mNew0 "TooManyRows" (mV 6)) (aCons (mNew0 "TooWide" (mV 6)) (aCons (mNew0 "Uneditable" (mV 6)) aNil))))))) (.nm 3)) (sSeq (sFor (mEnum (aCons (mV 3) aNil)) (.tup [(.nm 9), (.nm 10)]) (sSeq (sIf (mT (m2 neD (mCall (T .f__law_k00_flags) (aCons (mV 10) aNil)) (mLc (mRng (aCons (mB lenB (aCons (mV 3) aNil)) aNil)) (.nm 11) mYes (m2 eqD (mV 11) (mV 9)) [11]))) (sRet (mC (.bl false))) sNext) (sIf (mOrT (mNotT (mT (mB (isxB subT) (aCons (mV 10) (aCons (mC (.glo "LoanError")) aNil))))) (mNotT (mT (mB (isxB subT) (aCons (mV 10) (aCons (mC (.ty "ValueError")) aNil)))))) (sRet (mC (.bl false))) sNext))) (sSeq (sAsg (mNew0 "LoanError" (mV 6)) (.nm 4)) (sSeq (sIf (mOrT (mT (m2 inD (mC (.bl true)) (mCall (T .f__law_k00_flags) (aCons (mV 4) aNil)))) (mOrT (mNotT (mT (mB (isxB subT) (aCons (mV 4) (aCons (mC (.ty "ValueError")) aNil))))) (mT (mB (isxB subT) (aCons (mNew0 "ValueError" (mV 6)) (aCons (mC (.glo "LoanError")) aNil)))))) (sRet (mC (.bl false))) sNext) (sSeq (sAsg (mLst (aCons (mFld "BadLink" "fault" (mNew1 "BadLink" "fault" (mV 7))) (aCons (mFld "BadLink" "fault" (mNewK "BadLink" "fault" (aCons (mV 7) aNil))) (aCons (mFld "BadModules" "fault" (mNew1 "BadModules" "fault" (mV 7))) (aCons (mFld "BadModules" "fault" (mNewK "BadModules" "fault" (aCons (mV 7) aNil))) (aCons (mFld "BadRow" "number" (mNew1 "BadRow" "number" (mV 7))) (aCons (mFld "BadRow" "number" (mNewK "BadRow" "number" (aCons (mV 7) aNil))) aNil))))))) (.nm 5)) (sSeq (sAsg (m2 addD (mV 5) (mLst (aCons (mFld "BadSigns" "at" (mNew1 "BadSigns" "at" (mV 7))) (aCons (mFld "BadSigns" "at" (mNewK "BadSigns" "at" (aCons (mV 7) aNil))) (aCons (mFld "Broken" "word" (mNew1 "Broken" "word" (mV 7))) (aCons (mFld "Broken" "word" (mNewK "Broken" "word" (aCons (mV 7) aNil))) (aCons (mFld "CannotDeal" "word" (mNew1 "CannotDeal" "word" (mV 7))) (aCons (mFld "CannotDeal" "word" (mNewK "CannotDeal" "word" (aCons (mV 7) aNil))) aNil)))))))) (.nm 5)) (sSeq (sAsg (m2 addD (mV 5) (mLst (aCons (mFld "Stray" "word" (mNew1 "Stray" "word" (mV 7))) (aCons (mFld "Stray" "word" (mNewK "Stray" "word" (aCons (mV 7) aNil))) aNil)))) (.nm 5)) (sIf (mT (m2 neD (mB reprB (aCons (mV 5) aNil)) (mB reprB (aCons (m2 mulD (mLst (aCons (mV 7) aNil)) (mC (.int 14))) aNil)))) (sRet (mC (.bl false))) sNext)))))))))))))))) (sRet (mC (.bl true)))))
def stepF (T : TB) : Nm → FM
  | .f__law_begun => mDef 1 3 (b__law_begun T)
  | .f__law_blended => mDef 1 6 (b__law_blended T)
  | .f__law_draw => mDef 2 3 (b__law_draw T)
  | .f__law_pick => mDef 2 2 (b__law_pick T)
  | .f__law_k00_flags => mDef 1 2 (b__law_k00_flags T)
  | .f_law => mDef 1 12 (b_law T)
def F : Nat → Nm → FM
  | 0 => fun _ => stuckF
  | n + 1 => stepF (F n)
theorem e__law_begun (n : Nat) : F (n + 1) .f__law_begun = mDef 1 3 (b__law_begun (F n)) := rfl
theorem e__law_blended (n : Nat) : F (n + 1) .f__law_blended = mDef 1 6 (b__law_blended (F n)) := rfl
theorem e__law_draw (n : Nat) : F (n + 1) .f__law_draw = mDef 2 3 (b__law_draw (F n)) := rfl
theorem e__law_pick (n : Nat) : F (n + 1) .f__law_pick = mDef 2 2 (b__law_pick (F n)) := rfl
theorem e__law_k00_flags (n : Nat) : F (n + 1) .f__law_k00_flags = mDef 1 2 (b__law_k00_flags (F n)) := rfl
theorem e_law (n : Nat) : F (n + 1) .f_law = mDef 1 12 (b_law (F n)) := rfl
end K00
-- K00walk
set_option Elab.async false
set_option linter.all false
set_option maxRecDepth 100000
set_option maxHeartbeats 4000000
namespace K00
open PySem L2 PM PySem.Spec PyProof.Rows
def top (i : Nat) : Stmt := PySem.Challenge.pw_lentandback_k00_errors_apart.main.body.getD i (.Pass ⟨0, 0, 0, 0⟩)
def nmS : Nm → Str
  | .f__law_begun => "_law_begun"
  | .f__law_blended => "_law_blended"
  | .f__law_draw => "_law_draw"
  | .f__law_pick => "_law_pick"
  | .f__law_k00_flags => "_law_k00_flags"
  | .f_law => "law"
def psS : Nm → List Str
  | .f__law_begun => ["script"]
  | .f__law_blended => ["state"]
  | .f__law_draw => ["state", "size_here"]
  | .f__law_pick => ["state", "several"]
  | .f__law_k00_flags => ["error"]
  | .f_law => ["script"]
abbrev s__law_begun : Stmt := top 44
abbrev s__law_blended : Stmt := top 45
abbrev s__law_draw : Stmt := top 46
abbrev s__law_pick : Stmt := top 47
abbrev s__law_k00_flags : Stmt := top 48
abbrev s_law : Stmt := top 49
def stS : Nm → Stmt
  | .f__law_begun => s__law_begun
  | .f__law_blended => s__law_blended
  | .f__law_draw => s__law_draw
  | .f__law_pick => s__law_pick
  | .f__law_k00_flags => s__law_k00_flags
  | .f_law => s_law
structure Bt (mg : Str → Option Value) : Prop where
  b_abs : mg "abs" = none
  b_int : mg "int" = none
  b_len : mg "len" = none
  b_isinstance : mg "isinstance" = none
  b_range : mg "range" = none
  b_min : mg "min" = none
  b_super : mg "super" = none
  b_enumerate : mg "enumerate" = none
  b_ValueError : mg "ValueError" = none
  b_repr : mg "repr" = none
structure Cls (P : Program) (K : PySem.W.Frag) (mg : Str → Option Value) : Prop where
  sub : SubOk K subT
  mg_LoanError : mg "LoanError" = some (.ref (He.ga K "LoanError"))
  ex_LoanError : PySem.W.excIn K (He.ga K "LoanError") He.veBase "ValueError.__new__" = true
  kc_LoanError : PySem.W.keepIn K (.ref (He.ga K "LoanError")) = true
  mg_BadArguments : mg "BadArguments" = some (.ref (He.ga K "BadArguments"))
  ex_BadArguments : PySem.W.excIn K (He.ga K "BadArguments") He.veBase "ValueError.__new__" = true
  kc_BadArguments : PySem.W.keepIn K (.ref (He.ga K "BadArguments")) = true
  mg_BadBook : mg "BadBook" = some (.ref (He.ga K "BadBook"))
  ex_BadBook : PySem.W.excIn K (He.ga K "BadBook") He.veBase "ValueError.__new__" = true
  kc_BadBook : PySem.W.keepIn K (.ref (He.ga K "BadBook")) = true
  mg_BadCase : mg "BadCase" = some (.ref (He.ga K "BadCase"))
  ex_BadCase : PySem.W.excIn K (He.ga K "BadCase") He.veBase "ValueError.__new__" = true
  kc_BadCase : PySem.W.keepIn K (.ref (He.ga K "BadCase")) = true
  mg_BadCount : mg "BadCount" = some (.ref (He.ga K "BadCount"))
  ex_BadCount : PySem.W.excIn K (He.ga K "BadCount") He.veBase "ValueError.__new__" = true
  kc_BadCount : PySem.W.keepIn K (.ref (He.ga K "BadCount")) = true
  mg_BadDeal : mg "BadDeal" = some (.ref (He.ga K "BadDeal"))
  ex_BadDeal : PySem.W.excIn K (He.ga K "BadDeal") He.veBase "ValueError.__new__" = true
  kc_BadDeal : PySem.W.keepIn K (.ref (He.ga K "BadDeal")) = true
  mg_BadEdit : mg "BadEdit" = some (.ref (He.ga K "BadEdit"))
  ex_BadEdit : PySem.W.excIn K (He.ga K "BadEdit") He.veBase "ValueError.__new__" = true
  kc_BadEdit : PySem.W.keepIn K (.ref (He.ga K "BadEdit")) = true
  mg_BadFunction : mg "BadFunction" = some (.ref (He.ga K "BadFunction"))
  ex_BadFunction : PySem.W.excIn K (He.ga K "BadFunction") He.veBase "ValueError.__new__" = true
  kc_BadFunction : PySem.W.keepIn K (.ref (He.ga K "BadFunction")) = true
  mg_BadHeapState : mg "BadHeapState" = some (.ref (He.ga K "BadHeapState"))
  ex_BadHeapState : PySem.W.excIn K (He.ga K "BadHeapState") He.veBase "ValueError.__new__" = true
  kc_BadHeapState : PySem.W.keepIn K (.ref (He.ga K "BadHeapState")) = true
  mg_BadLaying : mg "BadLaying" = some (.ref (He.ga K "BadLaying"))
  ex_BadLaying : PySem.W.excIn K (He.ga K "BadLaying") He.veBase "ValueError.__new__" = true
  kc_BadLaying : PySem.W.keepIn K (.ref (He.ga K "BadLaying")) = true
  mg_BadLink : mg "BadLink" = some (.ref (He.ga K "BadLink"))
  in_BadLink : PMI.InF P K (He.ga K "BadLink") "fault"
  xf_BadLink : XfC K (He.ga K "BadLink")
  no_BadLink : PySem.W.findIn K (.ref (He.ga K "BadLink")) "fault" = some none
  mg_BadModules : mg "BadModules" = some (.ref (He.ga K "BadModules"))
  in_BadModules : PMI.InF P K (He.ga K "BadModules") "fault"
  xf_BadModules : XfC K (He.ga K "BadModules")
  no_BadModules : PySem.W.findIn K (.ref (He.ga K "BadModules")) "fault" = some none
  mg_BadName : mg "BadName" = some (.ref (He.ga K "BadName"))
  ex_BadName : PySem.W.excIn K (He.ga K "BadName") He.veBase "ValueError.__new__" = true
  kc_BadName : PySem.W.keepIn K (.ref (He.ga K "BadName")) = true
  mg_BadNumber : mg "BadNumber" = some (.ref (He.ga K "BadNumber"))
  ex_BadNumber : PySem.W.excIn K (He.ga K "BadNumber") He.veBase "ValueError.__new__" = true
  kc_BadNumber : PySem.W.keepIn K (.ref (He.ga K "BadNumber")) = true
  mg_BadObject : mg "BadObject" = some (.ref (He.ga K "BadObject"))
  ex_BadObject : PySem.W.excIn K (He.ga K "BadObject") He.veBase "ValueError.__new__" = true
  kc_BadObject : PySem.W.keepIn K (.ref (He.ga K "BadObject")) = true
  mg_BadPath : mg "BadPath" = some (.ref (He.ga K "BadPath"))
  ex_BadPath : PySem.W.excIn K (He.ga K "BadPath") He.veBase "ValueError.__new__" = true
  kc_BadPath : PySem.W.keepIn K (.ref (He.ga K "BadPath")) = true
  mg_BadPlace : mg "BadPlace" = some (.ref (He.ga K "BadPlace"))
  ex_BadPlace : PySem.W.excIn K (He.ga K "BadPlace") He.veBase "ValueError.__new__" = true
  kc_BadPlace : PySem.W.keepIn K (.ref (He.ga K "BadPlace")) = true
  mg_BadPlainState : mg "BadPlainState" = some (.ref (He.ga K "BadPlainState"))
  ex_BadPlainState : PySem.W.excIn K (He.ga K "BadPlainState") He.veBase "ValueError.__new__" = true
  kc_BadPlainState : PySem.W.keepIn K (.ref (He.ga K "BadPlainState")) = true
  mg_BadProgram : mg "BadProgram" = some (.ref (He.ga K "BadProgram"))
  ex_BadProgram : PySem.W.excIn K (He.ga K "BadProgram") He.veBase "ValueError.__new__" = true
  kc_BadProgram : PySem.W.keepIn K (.ref (He.ga K "BadProgram")) = true
  mg_BadRoad : mg "BadRoad" = some (.ref (He.ga K "BadRoad"))
  ex_BadRoad : PySem.W.excIn K (He.ga K "BadRoad") He.veBase "ValueError.__new__" = true
  kc_BadRoad : PySem.W.keepIn K (.ref (He.ga K "BadRoad")) = true
  mg_BadRow : mg "BadRow" = some (.ref (He.ga K "BadRow"))
  in_BadRow : PMI.InF P K (He.ga K "BadRow") "number"
  xf_BadRow : XfC K (He.ga K "BadRow")
  no_BadRow : PySem.W.findIn K (.ref (He.ga K "BadRow")) "number" = some none
  mg_BadRun : mg "BadRun" = some (.ref (He.ga K "BadRun"))
  ex_BadRun : PySem.W.excIn K (He.ga K "BadRun") He.veBase "ValueError.__new__" = true
  kc_BadRun : PySem.W.keepIn K (.ref (He.ga K "BadRun")) = true
  mg_BadSigns : mg "BadSigns" = some (.ref (He.ga K "BadSigns"))
  in_BadSigns : PMI.InF P K (He.ga K "BadSigns") "at"
  xf_BadSigns : XfC K (He.ga K "BadSigns")
  no_BadSigns : PySem.W.findIn K (.ref (He.ga K "BadSigns")) "at" = some none
  mg_BadSum : mg "BadSum" = some (.ref (He.ga K "BadSum"))
  ex_BadSum : PySem.W.excIn K (He.ga K "BadSum") He.veBase "ValueError.__new__" = true
  kc_BadSum : PySem.W.keepIn K (.ref (He.ga K "BadSum")) = true
  mg_BadThing : mg "BadThing" = some (.ref (He.ga K "BadThing"))
  ex_BadThing : PySem.W.excIn K (He.ga K "BadThing") He.veBase "ValueError.__new__" = true
  kc_BadThing : PySem.W.keepIn K (.ref (He.ga K "BadThing")) = true
  mg_BadType : mg "BadType" = some (.ref (He.ga K "BadType"))
  ex_BadType : PySem.W.excIn K (He.ga K "BadType") He.veBase "ValueError.__new__" = true
  kc_BadType : PySem.W.keepIn K (.ref (He.ga K "BadType")) = true
  mg_BadValue : mg "BadValue" = some (.ref (He.ga K "BadValue"))
  ex_BadValue : PySem.W.excIn K (He.ga K "BadValue") He.veBase "ValueError.__new__" = true
  kc_BadValue : PySem.W.keepIn K (.ref (He.ga K "BadValue")) = true
  mg_BadWeaving : mg "BadWeaving" = some (.ref (He.ga K "BadWeaving"))
  ex_BadWeaving : PySem.W.excIn K (He.ga K "BadWeaving") He.veBase "ValueError.__new__" = true
  kc_BadWeaving : PySem.W.keepIn K (.ref (He.ga K "BadWeaving")) = true
  mg_Broken : mg "Broken" = some (.ref (He.ga K "Broken"))
  in_Broken : PMI.InF P K (He.ga K "Broken") "word"
  xf_Broken : XfC K (He.ga K "Broken")
  no_Broken : PySem.W.findIn K (.ref (He.ga K "Broken")) "word" = some none
  mg_CannotDeal : mg "CannotDeal" = some (.ref (He.ga K "CannotDeal"))
  in_CannotDeal : PMI.InF P K (He.ga K "CannotDeal") "word"
  xf_CannotDeal : XfC K (He.ga K "CannotDeal")
  no_CannotDeal : PySem.W.findIn K (.ref (He.ga K "CannotDeal")) "word" = some none
  mg_NoFunction : mg "NoFunction" = some (.ref (He.ga K "NoFunction"))
  ex_NoFunction : PySem.W.excIn K (He.ga K "NoFunction") He.veBase "ValueError.__new__" = true
  kc_NoFunction : PySem.W.keepIn K (.ref (He.ga K "NoFunction")) = true
  mg_NoPath : mg "NoPath" = some (.ref (He.ga K "NoPath"))
  ex_NoPath : PySem.W.excIn K (He.ga K "NoPath") He.veBase "ValueError.__new__" = true
  kc_NoPath : PySem.W.keepIn K (.ref (He.ga K "NoPath")) = true
  mg_NotLet : mg "NotLet" = some (.ref (He.ga K "NotLet"))
  ex_NotLet : PySem.W.excIn K (He.ga K "NotLet") He.veBase "ValueError.__new__" = true
  kc_NotLet : PySem.W.keepIn K (.ref (He.ga K "NotLet")) = true
  mg_NotSayable : mg "NotSayable" = some (.ref (He.ga K "NotSayable"))
  ex_NotSayable : PySem.W.excIn K (He.ga K "NotSayable") He.veBase "ValueError.__new__" = true
  kc_NotSayable : PySem.W.keepIn K (.ref (He.ga K "NotSayable")) = true
  mg_NotTyped : mg "NotTyped" = some (.ref (He.ga K "NotTyped"))
  ex_NotTyped : PySem.W.excIn K (He.ga K "NotTyped") He.veBase "ValueError.__new__" = true
  kc_NotTyped : PySem.W.keepIn K (.ref (He.ga K "NotTyped")) = true
  mg_NothingDone : mg "NothingDone" = some (.ref (He.ga K "NothingDone"))
  ex_NothingDone : PySem.W.excIn K (He.ga K "NothingDone") He.veBase "ValueError.__new__" = true
  kc_NothingDone : PySem.W.keepIn K (.ref (He.ga K "NothingDone")) = true
  mg_NothingUndone : mg "NothingUndone" = some (.ref (He.ga K "NothingUndone"))
  ex_NothingUndone : PySem.W.excIn K (He.ga K "NothingUndone") He.veBase "ValueError.__new__" = true
  kc_NothingUndone : PySem.W.keepIn K (.ref (He.ga K "NothingUndone")) = true
  mg_Stray : mg "Stray" = some (.ref (He.ga K "Stray"))
  in_Stray : PMI.InF P K (He.ga K "Stray") "word"
  xf_Stray : XfC K (He.ga K "Stray")
  no_Stray : PySem.W.findIn K (.ref (He.ga K "Stray")) "word" = some none
  mg_Strayed : mg "Strayed" = some (.ref (He.ga K "Strayed"))
  ex_Strayed : PySem.W.excIn K (He.ga K "Strayed") He.veBase "ValueError.__new__" = true
  kc_Strayed : PySem.W.keepIn K (.ref (He.ga K "Strayed")) = true
  mg_TooManyRows : mg "TooManyRows" = some (.ref (He.ga K "TooManyRows"))
  ex_TooManyRows : PySem.W.excIn K (He.ga K "TooManyRows") He.veBase "ValueError.__new__" = true
  kc_TooManyRows : PySem.W.keepIn K (.ref (He.ga K "TooManyRows")) = true
  mg_TooWide : mg "TooWide" = some (.ref (He.ga K "TooWide"))
  ex_TooWide : PySem.W.excIn K (He.ga K "TooWide") He.veBase "ValueError.__new__" = true
  kc_TooWide : PySem.W.keepIn K (.ref (He.ga K "TooWide")) = true
  mg_Uneditable : mg "Uneditable" = some (.ref (He.ga K "Uneditable"))
  ex_Uneditable : PySem.W.excIn K (He.ga K "Uneditable") He.veBase "ValueError.__new__" = true
  kc_Uneditable : PySem.W.keepIn K (.ref (He.ga K "Uneditable")) = true
theorem bb_abs : bootBuiltins "abs" = some (.builtin "abs") := by decide +kernel
theorem bb_int : bootBuiltins "int" = some (.type "int") := by decide +kernel
theorem bb_len : bootBuiltins "len" = some (.builtin "len") := by decide +kernel
theorem bb_isinstance : bootBuiltins "isinstance" = some (.builtin "isinstance") := by decide +kernel
theorem bb_min : bootBuiltins "min" = some (.builtin "min") := by decide +kernel
theorem bb_repr : bootBuiltins "repr" = some (.builtin "repr") := by decide +kernel
abbrev FnP (K : PySem.W.Frag) (x : Str) (st : Stmt) (f : Addr) (fd : FuncData) : Prop := FunD K x x (defArgs st) (defBody st) (defScope st) [] [] f fd
theorem bindsAll {K : PySem.W.Frag} {f : Addr} {fd : FuncData} : ∀ (x : Nm), FnP K (nmS x) (stS x) f fd → Binds K fd (psS x) []
  | .f__law_begun, F => F.bindsN fun _ _ _ _ _ _ us hl => match us, hl with | [_], _ => rfl
  | .f__law_blended, F => F.bindsN fun _ _ _ _ _ _ us hl => match us, hl with | [_], _ => rfl
  | .f__law_draw, F => F.bindsN fun _ _ _ _ _ _ us hl => match us, hl with | [_, _], _ => rfl
  | .f__law_pick, F => F.bindsN fun _ _ _ _ _ _ us hl => match us, hl with | [_, _], _ => rfl
  | .f__law_k00_flags, F => F.bindsN fun _ _ _ _ _ _ us hl => match us, hl with | [_], _ => rfl
  | .f_law, F => F.bindsN fun _ _ _ _ _ _ us hl => match us, hl with | [_], _ => rfl
section
variable {P : Program} {w : World} {K : PySem.W.Frag} {mg : Str → Option Value} {base : Heap} {n : Nat} {fdS : Nm → FuncData}
abbrev Fds (K : PySem.W.Frag) (fdS : Nm → FuncData) : Prop := ∀ x, FnP K (nmS x) (stS x) (He.ga K (nmS x)) (fdS x)
abbrev Tab (P : Program) (w : World) (K : PySem.W.Frag) (mg : Str → Option Value) (base : Heap) (fdS : Nm → FuncData) (n : Nat) : Prop := ∀ x, Def P w K mg base n (nmS x) (psS x) (F n x) (He.ga K (nmS x)) (fdS x)
theorem sc__law_begun : FnScope ["script", "great", "cell"] ["script"] (defScope s__law_begun) := ⟨rfl, rfl, rfl, by decide +kernel, rfl, by decide +kernel, by decide +kernel⟩
theorem ok__law_begun (hF : Fds K fdS) (C : Tab P w K mg base fdS n) (B : Bt mg) (Z : Cls P K mg) : FnG P w K mg base (n + 1) (He.ga K "_law_begun") (fdS .f__law_begun) ["script"] (spM K (mDef 1 3 (b__law_begun (F n)))) := by
  refine fn_g (hF .f__law_begun) sc__law_begun rfl rfl fun cdv A up s H E hr gu => ?_
  exact (pmss_cons (pms_setLc (own := [("cell", 2)]) rfl sc__law_begun.nd rfl rfl (sw_true rfl rfl rfl rfl) ((pmi_seq (pm_v (pv 0)))) (by kernel_rfl) (by decide) (fun _ _ _ _ _ => (pmg_name sc__law_begun.nd rfl (by first | exact Or.inl rfl | exact Or.inr rfl))) (fun _ _ _ _ _ => (pmts_one (pmt_cmp ops_ge (pm_callB calls_abs rfl B.b_abs bb_abs (pma_cons (pm_v (pv 2)) pma_nil)) (pm_op ops_pow pm_int pm_int) (nomark _)))) (fun _ _ _ _ _ => (pm_op ops_sub (pm_callB calls_abs rfl B.b_abs bb_abs (pma_cons (pm_v (pv 2)) pma_nil)) (pm_op ops_pow pm_int pm_int)))) (pmss_one (pms_ret (pm_dct (ms := [("great", _), ("cells", _), ("left", _), ("turn", _)]) (pps_cons pe_str (pm_v (pv 1)) (pps_cons pe_str (pm_lc (own := [("cell", 2)]) rfl sc__law_begun.nd ((pmi_seq (pm_v (pv 0)))) (by kernel_rfl) (by decide) (fun _ _ _ _ _ => (pmg_name sc__law_begun.nd rfl (by first | exact Or.inl rfl | exact Or.inr rfl))) (fun _ _ _ _ _ => pmts_nil) (fun _ _ _ _ _ => (pm_callB calls_abs rfl B.b_abs bb_abs (pma_cons (pm_v (pv 2)) pma_nil)))) (pps_cons pe_str pm_int (pps_cons pe_str pm_int pps_nil)))) rfl rfl (by intro z; cases z) (by decide)))))
theorem sc__law_blended : FnScope ["state", "turn", "prime", "found", "blend", "cell"] ["state"] (defScope s__law_blended) := ⟨rfl, rfl, rfl, by decide +kernel, rfl, by decide +kernel, by decide +kernel⟩
theorem ok__law_blended (hF : Fds K fdS) (C : Tab P w K mg base fdS n) (B : Bt mg) (Z : Cls P K mg) : FnG P w K mg base (n + 1) (He.ga K "_law_blended") (fdS .f__law_blended) ["state"] (spM K (mDef 1 6 (b__law_blended (F n)))) := by
  refine fn_g (hF .f__law_blended) sc__law_blended rfl rfl fun cdv A up s H E hr gu => ?_
  exact (pmss_cons (pms_par rfl sc__law_blended.nd rfl rfl (by decide) rfl rfl (pma_cons (pm_op ops_add (pm_sub (ixs_ix (r1 hr)) (pm_v (pv 0)) pm_str (by intro _ _; rfl)) pm_int) (pma_cons pm_int pma_nil)) rfl) (pmss_cons (pms_put (r1 hr) (pm_v (pv 1)) (pm_v (pv 0)) pm_str) (pmss_cons (pms_for (passes_of rfl) rfl (pmi_seq (pm_lst (pma_cons pm_int (pma_cons pm_int (pma_cons pm_int pma_nil))))) (pmg_name sc__law_blended.nd rfl (by first | exact Or.inl rfl | exact Or.inr rfl)) (pmss_cons (pms_set sc__law_blended.nd rfl (by first | exact Or.inl rfl | exact Or.inr rfl) (pm_op ops_add (pm_op ops_mul pm_int (pm_v (pv 1))) (pm_op ops_div (pm_v (pv 2)) pm_int))) (pmss_cons (pms_for (passes_of rfl) rfl (pmi_seq (pm_sub (ixs_ix (r1 hr)) (pm_v (pv 0)) pm_str (by intro _ _; rfl))) (pmg_name sc__law_blended.nd rfl (by first | exact Or.inl rfl | exact Or.inr rfl)) (pmss_one (pms_set sc__law_blended.nd rfl (by first | exact Or.inl rfl | exact Or.inr rfl) (pm_op ops_mod (pm_callTy calls_int rfl B.b_int bb_int (pma_cons (pm_op ops_add (pm_op ops_add (pm_op ops_mul (pm_v (pv 4)) pm_int) (pm_v (pv 5))) (pm_v (pv 1))) pma_nil)) (pm_v (pv 2)))))) (pmss_one (pms_set sc__law_blended.nd rfl (by first | exact Or.inl rfl | exact Or.inr rfl) (pm_op ops_add (pm_op ops_mul (pm_v (pv 3)) pm_int) (pm_op ops_mod (pm_callTy calls_int rfl B.b_int bb_int (pma_cons (pm_op ops_pow (pm_v (pv 4)) pm_int) pma_nil)) (pm_v (pv 2))))))))) (pmss_one (pms_ret (pm_v (pv 3)))))))
theorem sc__law_draw : FnScope ["state", "size_here", "found"] ["state", "size_here"] (defScope s__law_draw) := ⟨rfl, rfl, rfl, by decide +kernel, rfl, by decide +kernel, by decide +kernel⟩
theorem ok__law_draw (hF : Fds K fdS) (C : Tab P w K mg base fdS n) (B : Bt mg) (Z : Cls P K mg) : FnG P w K mg base (n + 1) (He.ga K "_law_draw") (fdS .f__law_draw) ["state", "size_here"] (spM K (mDef 2 3 (b__law_draw (F n)))) := by
  have D__law_blended : Def P w K mg base n "_law_blended" ["state"] (F n .f__law_blended) (He.ga K "_law_blended") (fdS .f__law_blended) := C .f__law_blended
  refine fn_g (hF .f__law_draw) sc__law_draw rfl rfl fun cdv A up s H E hr gu => ?_
  exact (pmss_cons (pms_if (pmt_cmp (ops_eq hr.units) (pm_sub (ixs_ix (r1 hr)) (pm_v (pv 0)) pm_str (by intro _ _; rfl)) pm_int (nomark _)) (pmss_one (pms_put (r1 hr) (pm_if (pmt_cmp (ops_ne hr.units) (pm_sub (ixs_ix (r1 hr)) (pm_v (pv 0)) pm_str (by intro _ _; rfl)) (pm_lst pma_nil) (nomark _)) (pm_bm mths_popAt F.plainAttrs_list F.slot_list_pop F.type_list_pop (pm_sub (ixs_ix (r1 hr)) (pm_v (pv 0)) pm_str (by intro _ _; rfl)) (pma_cons pm_int pma_nil)) (pm_call D__law_blended hr gu (takes_of rfl rfl rfl rfl) rfl (pma_cons (pm_v (pv 0)) pma_nil))) (pm_v (pv 0)) pm_str)) pmss_nil) (pmss_cons (pms_set sc__law_draw.nd rfl (by first | exact Or.inl rfl | exact Or.inr rfl) (pm_op ops_mod (pm_callTy calls_int rfl B.b_int bb_int (pma_cons (pm_sub (ixs_ix (r1 hr)) (pm_v (pv 0)) pm_str (by intro _ _; rfl)) pma_nil)) (pm_v (pv 1)))) (pmss_cons (pms_put (r1 hr) (pm_op ops_div (pm_sub (ixs_ix (r1 hr)) (pm_v (pv 0)) pm_str (by intro _ _; rfl)) (pm_v (pv 1))) (pm_v (pv 0)) pm_str) (pmss_one (pms_ret (pm_v (pv 2)))))))
theorem sc__law_pick : FnScope ["state", "several"] ["state", "several"] (defScope s__law_pick) := ⟨rfl, rfl, rfl, by decide +kernel, rfl, by decide +kernel, by decide +kernel⟩
theorem ok__law_pick (hF : Fds K fdS) (C : Tab P w K mg base fdS n) (B : Bt mg) (Z : Cls P K mg) : FnG P w K mg base (n + 1) (He.ga K "_law_pick") (fdS .f__law_pick) ["state", "several"] (spM K (mDef 2 2 (b__law_pick (F n)))) := by
  have D__law_draw : Def P w K mg base n "_law_draw" ["state", "size_here"] (F n .f__law_draw) (He.ga K "_law_draw") (fdS .f__law_draw) := C .f__law_draw
  refine fn_g (hF .f__law_pick) sc__law_pick rfl rfl fun cdv A up s H E hr gu => ?_
  exact (pmss_one (pms_ret (pm_sub (ixs_ix (r1 hr)) (pm_v (pv 1)) (pm_call D__law_draw hr gu (takes_of rfl rfl rfl rfl) rfl (pma_cons (pm_v (pv 0)) (pma_cons (pm_callB calls_len rfl B.b_len bb_len (pma_cons (pm_v (pv 1)) pma_nil)) pma_nil))) (by intro _ _; rfl))))
theorem sc__law_k00_flags : FnScope ["error", "found"] ["error"] (defScope s__law_k00_flags) := ⟨rfl, rfl, rfl, by decide +kernel, rfl, by decide +kernel, by decide +kernel⟩
theorem ok__law_k00_flags (hF : Fds K fdS) (C : Tab P w K mg base fdS n) (B : Bt mg) (Z : Cls P K mg) : FnG P w K mg base (n + 1) (He.ga K "_law_k00_flags") (fdS .f__law_k00_flags) ["error"] (spM K (mDef 1 2 (b__law_k00_flags (F n)))) := by
  refine fn_g (hF .f__law_k00_flags) sc__law_k00_flags rfl rfl fun cdv A up s H E hr gu => ?_
  exact (pmss_cons (pms_set sc__law_k00_flags.nd rfl (by first | exact Or.inl rfl | exact Or.inr rfl) (pm_lst (pma_cons (pm_callB (calls_isx Z.sub) rfl B.b_isinstance bb_isinstance (pma_cons (pm_v (pv 0)) (pma_cons (pm_glo rfl Z.mg_BadArguments) pma_nil))) (pma_cons (pm_callB (calls_isx Z.sub) rfl B.b_isinstance bb_isinstance (pma_cons (pm_v (pv 0)) (pma_cons (pm_glo rfl Z.mg_BadBook) pma_nil))) (pma_cons (pm_callB (calls_isx Z.sub) rfl B.b_isinstance bb_isinstance (pma_cons (pm_v (pv 0)) (pma_cons (pm_glo rfl Z.mg_BadCase) pma_nil))) (pma_cons (pm_callB (calls_isx Z.sub) rfl B.b_isinstance bb_isinstance (pma_cons (pm_v (pv 0)) (pma_cons (pm_glo rfl Z.mg_BadCount) pma_nil))) pma_nil)))))) (pmss_cons (pms_set sc__law_k00_flags.nd rfl (by first | exact Or.inl rfl | exact Or.inr rfl) (pm_op ops_add (pm_v (pv 1)) (pm_lst (pma_cons (pm_callB (calls_isx Z.sub) rfl B.b_isinstance bb_isinstance (pma_cons (pm_v (pv 0)) (pma_cons (pm_glo rfl Z.mg_BadDeal) pma_nil))) (pma_cons (pm_callB (calls_isx Z.sub) rfl B.b_isinstance bb_isinstance (pma_cons (pm_v (pv 0)) (pma_cons (pm_glo rfl Z.mg_BadEdit) pma_nil))) (pma_cons (pm_callB (calls_isx Z.sub) rfl B.b_isinstance bb_isinstance (pma_cons (pm_v (pv 0)) (pma_cons (pm_glo rfl Z.mg_BadFunction) pma_nil))) (pma_cons (pm_callB (calls_isx Z.sub) rfl B.b_isinstance bb_isinstance (pma_cons (pm_v (pv 0)) (pma_cons (pm_glo rfl Z.mg_BadHeapState) pma_nil))) pma_nil))))))) (pmss_cons (pms_set sc__law_k00_flags.nd rfl (by first | exact Or.inl rfl | exact Or.inr rfl) (pm_op ops_add (pm_v (pv 1)) (pm_lst (pma_cons (pm_callB (calls_isx Z.sub) rfl B.b_isinstance bb_isinstance (pma_cons (pm_v (pv 0)) (pma_cons (pm_glo rfl Z.mg_BadLaying) pma_nil))) (pma_cons (pm_callB (calls_isx Z.sub) rfl B.b_isinstance bb_isinstance (pma_cons (pm_v (pv 0)) (pma_cons (pm_glo rfl Z.mg_BadLink) pma_nil))) (pma_cons (pm_callB (calls_isx Z.sub) rfl B.b_isinstance bb_isinstance (pma_cons (pm_v (pv 0)) (pma_cons (pm_glo rfl Z.mg_BadModules) pma_nil))) (pma_cons (pm_callB (calls_isx Z.sub) rfl B.b_isinstance bb_isinstance (pma_cons (pm_v (pv 0)) (pma_cons (pm_glo rfl Z.mg_BadName) pma_nil))) pma_nil))))))) (pmss_cons (pms_set sc__law_k00_flags.nd rfl (by first | exact Or.inl rfl | exact Or.inr rfl) (pm_op ops_add (pm_v (pv 1)) (pm_lst (pma_cons (pm_callB (calls_isx Z.sub) rfl B.b_isinstance bb_isinstance (pma_cons (pm_v (pv 0)) (pma_cons (pm_glo rfl Z.mg_BadNumber) pma_nil))) (pma_cons (pm_callB (calls_isx Z.sub) rfl B.b_isinstance bb_isinstance (pma_cons (pm_v (pv 0)) (pma_cons (pm_glo rfl Z.mg_BadObject) pma_nil))) (pma_cons (pm_callB (calls_isx Z.sub) rfl B.b_isinstance bb_isinstance (pma_cons (pm_v (pv 0)) (pma_cons (pm_glo rfl Z.mg_BadPath) pma_nil))) (pma_cons (pm_callB (calls_isx Z.sub) rfl B.b_isinstance bb_isinstance (pma_cons (pm_v (pv 0)) (pma_cons (pm_glo rfl Z.mg_BadPlace) pma_nil))) pma_nil))))))) (pmss_cons (pms_set sc__law_k00_flags.nd rfl (by first | exact Or.inl rfl | exact Or.inr rfl) (pm_op ops_add (pm_v (pv 1)) (pm_lst (pma_cons (pm_callB (calls_isx Z.sub) rfl B.b_isinstance bb_isinstance (pma_cons (pm_v (pv 0)) (pma_cons (pm_glo rfl Z.mg_BadPlainState) pma_nil))) (pma_cons (pm_callB (calls_isx Z.sub) rfl B.b_isinstance bb_isinstance (pma_cons (pm_v (pv 0)) (pma_cons (pm_glo rfl Z.mg_BadProgram) pma_nil))) (pma_cons (pm_callB (calls_isx Z.sub) rfl B.b_isinstance bb_isinstance (pma_cons (pm_v (pv 0)) (pma_cons (pm_glo rfl Z.mg_BadRoad) pma_nil))) (pma_cons (pm_callB (calls_isx Z.sub) rfl B.b_isinstance bb_isinstance (pma_cons (pm_v (pv 0)) (pma_cons (pm_glo rfl Z.mg_BadRow) pma_nil))) pma_nil))))))) (pmss_cons (pms_set sc__law_k00_flags.nd rfl (by first | exact Or.inl rfl | exact Or.inr rfl) (pm_op ops_add (pm_v (pv 1)) (pm_lst (pma_cons (pm_callB (calls_isx Z.sub) rfl B.b_isinstance bb_isinstance (pma_cons (pm_v (pv 0)) (pma_cons (pm_glo rfl Z.mg_BadRun) pma_nil))) (pma_cons (pm_callB (calls_isx Z.sub) rfl B.b_isinstance bb_isinstance (pma_cons (pm_v (pv 0)) (pma_cons (pm_glo rfl Z.mg_BadSigns) pma_nil))) (pma_cons (pm_callB (calls_isx Z.sub) rfl B.b_isinstance bb_isinstance (pma_cons (pm_v (pv 0)) (pma_cons (pm_glo rfl Z.mg_BadSum) pma_nil))) (pma_cons (pm_callB (calls_isx Z.sub) rfl B.b_isinstance bb_isinstance (pma_cons (pm_v (pv 0)) (pma_cons (pm_glo rfl Z.mg_BadThing) pma_nil))) pma_nil))))))) (pmss_cons (pms_set sc__law_k00_flags.nd rfl (by first | exact Or.inl rfl | exact Or.inr rfl) (pm_op ops_add (pm_v (pv 1)) (pm_lst (pma_cons (pm_callB (calls_isx Z.sub) rfl B.b_isinstance bb_isinstance (pma_cons (pm_v (pv 0)) (pma_cons (pm_glo rfl Z.mg_BadType) pma_nil))) (pma_cons (pm_callB (calls_isx Z.sub) rfl B.b_isinstance bb_isinstance (pma_cons (pm_v (pv 0)) (pma_cons (pm_glo rfl Z.mg_BadValue) pma_nil))) (pma_cons (pm_callB (calls_isx Z.sub) rfl B.b_isinstance bb_isinstance (pma_cons (pm_v (pv 0)) (pma_cons (pm_glo rfl Z.mg_BadWeaving) pma_nil))) (pma_cons (pm_callB (calls_isx Z.sub) rfl B.b_isinstance bb_isinstance (pma_cons (pm_v (pv 0)) (pma_cons (pm_glo rfl Z.mg_Broken) pma_nil))) pma_nil))))))) (pmss_cons (pms_set sc__law_k00_flags.nd rfl (by first | exact Or.inl rfl | exact Or.inr rfl) (pm_op ops_add (pm_v (pv 1)) (pm_lst (pma_cons (pm_callB (calls_isx Z.sub) rfl B.b_isinstance bb_isinstance (pma_cons (pm_v (pv 0)) (pma_cons (pm_glo rfl Z.mg_CannotDeal) pma_nil))) (pma_cons (pm_callB (calls_isx Z.sub) rfl B.b_isinstance bb_isinstance (pma_cons (pm_v (pv 0)) (pma_cons (pm_glo rfl Z.mg_NoFunction) pma_nil))) (pma_cons (pm_callB (calls_isx Z.sub) rfl B.b_isinstance bb_isinstance (pma_cons (pm_v (pv 0)) (pma_cons (pm_glo rfl Z.mg_NoPath) pma_nil))) (pma_cons (pm_callB (calls_isx Z.sub) rfl B.b_isinstance bb_isinstance (pma_cons (pm_v (pv 0)) (pma_cons (pm_glo rfl Z.mg_NotLet) pma_nil))) pma_nil))))))) (pmss_cons (pms_set sc__law_k00_flags.nd rfl (by first | exact Or.inl rfl | exact Or.inr rfl) (pm_op ops_add (pm_v (pv 1)) (pm_lst (pma_cons (pm_callB (calls_isx Z.sub) rfl B.b_isinstance bb_isinstance (pma_cons (pm_v (pv 0)) (pma_cons (pm_glo rfl Z.mg_NotSayable) pma_nil))) (pma_cons (pm_callB (calls_isx Z.sub) rfl B.b_isinstance bb_isinstance (pma_cons (pm_v (pv 0)) (pma_cons (pm_glo rfl Z.mg_NotTyped) pma_nil))) (pma_cons (pm_callB (calls_isx Z.sub) rfl B.b_isinstance bb_isinstance (pma_cons (pm_v (pv 0)) (pma_cons (pm_glo rfl Z.mg_NothingDone) pma_nil))) (pma_cons (pm_callB (calls_isx Z.sub) rfl B.b_isinstance bb_isinstance (pma_cons (pm_v (pv 0)) (pma_cons (pm_glo rfl Z.mg_NothingUndone) pma_nil))) pma_nil))))))) (pmss_cons (pms_set sc__law_k00_flags.nd rfl (by first | exact Or.inl rfl | exact Or.inr rfl) (pm_op ops_add (pm_v (pv 1)) (pm_lst (pma_cons (pm_callB (calls_isx Z.sub) rfl B.b_isinstance bb_isinstance (pma_cons (pm_v (pv 0)) (pma_cons (pm_glo rfl Z.mg_Stray) pma_nil))) (pma_cons (pm_callB (calls_isx Z.sub) rfl B.b_isinstance bb_isinstance (pma_cons (pm_v (pv 0)) (pma_cons (pm_glo rfl Z.mg_Strayed) pma_nil))) (pma_cons (pm_callB (calls_isx Z.sub) rfl B.b_isinstance bb_isinstance (pma_cons (pm_v (pv 0)) (pma_cons (pm_glo rfl Z.mg_TooManyRows) pma_nil))) (pma_cons (pm_callB (calls_isx Z.sub) rfl B.b_isinstance bb_isinstance (pma_cons (pm_v (pv 0)) (pma_cons (pm_glo rfl Z.mg_TooWide) pma_nil))) pma_nil))))))) (pmss_one (pms_ret (pm_op ops_add (pm_v (pv 1)) (pm_lst (pma_cons (pm_callB (calls_isx Z.sub) rfl B.b_isinstance bb_isinstance (pma_cons (pm_v (pv 0)) (pma_cons (pm_glo rfl Z.mg_Uneditable) pma_nil))) pma_nil)))))))))))))))
theorem sc_law : FnScope ["script", "state", "turn", "made", "base", "told", "text", "number", "other", "at", "error", "place"] ["script"] (defScope s_law) := ⟨rfl, rfl, rfl, by decide +kernel, rfl, by decide +kernel, by decide +kernel⟩
theorem ok_law (hF : Fds K fdS) (C : Tab P w K mg base fdS n) (B : Bt mg) (Z : Cls P K mg) : FnG P w K mg base (n + 1) (He.ga K "law") (fdS .f_law) ["script"] (spM K (mDef 1 12 (b_law (F n)))) := by
  have D__law_begun : Def P w K mg base n "_law_begun" ["script"] (F n .f__law_begun) (He.ga K "_law_begun") (fdS .f__law_begun) := C .f__law_begun
  have D__law_draw : Def P w K mg base n "_law_draw" ["state", "size_here"] (F n .f__law_draw) (He.ga K "_law_draw") (fdS .f__law_draw) := C .f__law_draw
  have D__law_pick : Def P w K mg base n "_law_pick" ["state", "several"] (F n .f__law_pick) (He.ga K "_law_pick") (fdS .f__law_pick) := C .f__law_pick
  have D__law_k00_flags : Def P w K mg base n "_law_k00_flags" ["error"] (F n .f__law_k00_flags) (He.ga K "_law_k00_flags") (fdS .f__law_k00_flags) := C .f__law_k00_flags
  refine fn_g (hF .f_law) sc_law rfl rfl fun cdv A up s H E hr gu => ?_
  exact (pmss_cons (pms_set sc_law.nd rfl (by first | exact Or.inl rfl | exact Or.inr rfl) (pm_call D__law_begun hr gu (takes_of rfl rfl rfl rfl) rfl (pma_cons (pm_v (pv 0)) pma_nil))) (pmss_cons (pms_for (passes_of rfl) rfl (pmi_range1 rfl B.b_range (pma_cons (pm_op ops_add pm_int (pm_callB (calls_min rfl) rfl B.b_min bb_min (pma_cons (pm_callB calls_len rfl B.b_len bb_len (pma_cons (pm_v (pv 0)) pma_nil)) (pma_cons pm_int pma_nil)))) pma_nil) (h1 := (a_len a_len0))) (pmg_name sc_law.nd rfl (by first | exact Or.inl rfl | exact Or.inr rfl)) (pmss_cons (pms_par3 rfl sc_law.nd rfl rfl rfl (by decide) (by decide) (by decide) rfl rfl rfl (pma_cons (pm_call D__law_pick hr gu (takes_of rfl rfl rfl rfl) rfl (pma_cons (pm_v (pv 1)) (pma_cons (pm_lst (pma_cons pm_str (pma_cons pm_str (pma_cons pm_str pma_nil)))) pma_nil))) (pma_cons (pm_call D__law_draw hr gu (takes_of rfl rfl rfl rfl) rfl (pma_cons (pm_v (pv 1)) (pma_cons pm_int pma_nil))) (pma_cons (pm_call D__law_draw hr gu (takes_of rfl rfl rfl rfl) rfl (pma_cons (pm_v (pv 1)) (pma_cons pm_int pma_nil))) pma_nil))) rfl) (pmss_cons (pms_set sc_law.nd rfl (by first | exact Or.inl rfl | exact Or.inr rfl) (pm_lst (pma_cons (pm_new0 (by decide) Z.ex_BadArguments Z.kc_BadArguments rfl Z.mg_BadArguments (pm_v (pv 6))) (pma_cons (pm_new0 (by decide) Z.ex_BadBook Z.kc_BadBook rfl Z.mg_BadBook (pm_v (pv 6))) (pma_cons (pm_new0 (by decide) Z.ex_BadCase Z.kc_BadCase rfl Z.mg_BadCase (pm_v (pv 6))) (pma_cons (pm_new0 (by decide) Z.ex_BadCount Z.kc_BadCount rfl Z.mg_BadCount (pm_v (pv 6))) (pma_cons (pm_new0 (by decide) Z.ex_BadDeal Z.kc_BadDeal rfl Z.mg_BadDeal (pm_v (pv 6))) (pma_cons (pm_new0 (by decide) Z.ex_BadEdit Z.kc_BadEdit rfl Z.mg_BadEdit (pm_v (pv 6))) pma_nil)))))))) (pmss_cons (pms_set sc_law.nd rfl (by first | exact Or.inl rfl | exact Or.inr rfl) (pm_op ops_add (pm_v (pv 3)) (pm_lst (pma_cons (pm_new0 (by decide) Z.ex_BadFunction Z.kc_BadFunction rfl Z.mg_BadFunction (pm_v (pv 6))) (pma_cons (pm_new0 (by decide) Z.ex_BadHeapState Z.kc_BadHeapState rfl Z.mg_BadHeapState (pm_v (pv 6))) (pma_cons (pm_new0 (by decide) Z.ex_BadLaying Z.kc_BadLaying rfl Z.mg_BadLaying (pm_v (pv 6))) (pma_cons (pm_new1 (by decide) Z.in_BadLink hr B.b_super rfl Z.mg_BadLink (pm_v (pv 7))) (pma_cons (pm_new1 (by decide) Z.in_BadModules hr B.b_super rfl Z.mg_BadModules (pm_v (pv 7))) (pma_cons (pm_new0 (by decide) Z.ex_BadName Z.kc_BadName rfl Z.mg_BadName (pm_v (pv 6))) pma_nil))))))))) (pmss_cons (pms_set sc_law.nd rfl (by first | exact Or.inl rfl | exact Or.inr rfl) (pm_op ops_add (pm_v (pv 3)) (pm_lst (pma_cons (pm_new0 (by decide) Z.ex_BadNumber Z.kc_BadNumber rfl Z.mg_BadNumber (pm_v (pv 6))) (pma_cons (pm_new0 (by decide) Z.ex_BadObject Z.kc_BadObject rfl Z.mg_BadObject (pm_v (pv 6))) (pma_cons (pm_new0 (by decide) Z.ex_BadPath Z.kc_BadPath rfl Z.mg_BadPath (pm_v (pv 6))) (pma_cons (pm_new0 (by decide) Z.ex_BadPlace Z.kc_BadPlace rfl Z.mg_BadPlace (pm_v (pv 6))) (pma_cons (pm_new0 (by decide) Z.ex_BadPlainState Z.kc_BadPlainState rfl Z.mg_BadPlainState (pm_v (pv 6))) (pma_cons (pm_new0 (by decide) Z.ex_BadProgram Z.kc_BadProgram rfl Z.mg_BadProgram (pm_v (pv 6))) pma_nil))))))))) (pmss_cons (pms_set sc_law.nd rfl (by first | exact Or.inl rfl | exact Or.inr rfl) (pm_op ops_add (pm_v (pv 3)) (pm_lst (pma_cons (pm_new0 (by decide) Z.ex_BadRoad Z.kc_BadRoad rfl Z.mg_BadRoad (pm_v (pv 6))) (pma_cons (pm_new1 (by decide) Z.in_BadRow hr B.b_super rfl Z.mg_BadRow (pm_v (pv 7))) (pma_cons (pm_new0 (by decide) Z.ex_BadRun Z.kc_BadRun rfl Z.mg_BadRun (pm_v (pv 6))) (pma_cons (pm_new1 (by decide) Z.in_BadSigns hr B.b_super rfl Z.mg_BadSigns (pm_v (pv 7))) (pma_cons (pm_new0 (by decide) Z.ex_BadSum Z.kc_BadSum rfl Z.mg_BadSum (pm_v (pv 6))) (pma_cons (pm_new0 (by decide) Z.ex_BadThing Z.kc_BadThing rfl Z.mg_BadThing (pm_v (pv 6))) pma_nil))))))))) (pmss_cons (pms_set sc_law.nd rfl (by first | exact Or.inl rfl | exact Or.inr rfl) (pm_op ops_add (pm_v (pv 3)) (pm_lst (pma_cons (pm_new0 (by decide) Z.ex_BadType Z.kc_BadType rfl Z.mg_BadType (pm_v (pv 6))) (pma_cons (pm_new0 (by decide) Z.ex_BadValue Z.kc_BadValue rfl Z.mg_BadValue (pm_v (pv 6))) (pma_cons (pm_new0 (by decide) Z.ex_BadWeaving Z.kc_BadWeaving rfl Z.mg_BadWeaving (pm_v (pv 6))) (pma_cons (pm_new1 (by decide) Z.in_Broken hr B.b_super rfl Z.mg_Broken (pm_v (pv 7))) (pma_cons (pm_new1 (by decide) Z.in_CannotDeal hr B.b_super rfl Z.mg_CannotDeal (pm_v (pv 7))) (pma_cons (pm_new0 (by decide) Z.ex_NoFunction Z.kc_NoFunction rfl Z.mg_NoFunction (pm_v (pv 6))) pma_nil))))))))) (pmss_cons (pms_set sc_law.nd rfl (by first | exact Or.inl rfl | exact Or.inr rfl) (pm_op ops_add (pm_v (pv 3)) (pm_lst (pma_cons (pm_new0 (by decide) Z.ex_NoPath Z.kc_NoPath rfl Z.mg_NoPath (pm_v (pv 6))) (pma_cons (pm_new0 (by decide) Z.ex_NotLet Z.kc_NotLet rfl Z.mg_NotLet (pm_v (pv 6))) (pma_cons (pm_new0 (by decide) Z.ex_NotSayable Z.kc_NotSayable rfl Z.mg_NotSayable (pm_v (pv 6))) (pma_cons (pm_new0 (by decide) Z.ex_NotTyped Z.kc_NotTyped rfl Z.mg_NotTyped (pm_v (pv 6))) (pma_cons (pm_new0 (by decide) Z.ex_NothingDone Z.kc_NothingDone rfl Z.mg_NothingDone (pm_v (pv 6))) (pma_cons (pm_new0 (by decide) Z.ex_NothingUndone Z.kc_NothingUndone rfl Z.mg_NothingUndone (pm_v (pv 6))) pma_nil))))))))) (pmss_cons (pms_set sc_law.nd rfl (by first | exact Or.inl rfl | exact Or.inr rfl) (pm_op ops_add (pm_v (pv 3)) (pm_lst (pma_cons (pm_new1 (by decide) Z.in_Stray hr B.b_super rfl Z.mg_Stray (pm_v (pv 7))) (pma_cons (pm_new0 (by decide) Z.ex_Strayed Z.kc_Strayed rfl Z.mg_Strayed (pm_v (pv 6))) (pma_cons (pm_new0 (by decide) Z.ex_TooManyRows Z.kc_TooManyRows rfl Z.mg_TooManyRows (pm_v (pv 6))) (pma_cons (pm_new0 (by decide) Z.ex_TooWide Z.kc_TooWide rfl Z.mg_TooWide (pm_v (pv 6))) (pma_cons (pm_new0 (by decide) Z.ex_Uneditable Z.kc_Uneditable rfl Z.mg_Uneditable (pm_v (pv 6))) pma_nil)))))))) (pmss_cons (pms_for (passes_of rfl) rfl (pmi_enum rfl B.b_enumerate (pma_cons (pm_v (pv 3)) pma_nil)) (pmg_tup rfl (pmgs_cons (pmg_name sc_law.nd rfl (by first | exact Or.inl rfl | exact Or.inr rfl)) (pmgs_cons (pmg_name sc_law.nd rfl (by first | exact Or.inl rfl | exact Or.inr rfl)) pmgs_nil))) (pmss_cons (pms_if (pmt_cmp (ops_ne hr.units) (pm_call D__law_k00_flags hr gu (takes_of rfl rfl rfl rfl) rfl (pma_cons (pm_v (pv 10)) pma_nil)) (pm_lc (own := [("place", 11)]) rfl sc_law.nd ((pmi_range1 rfl B.b_range (pma_cons (pm_callB calls_len rfl B.b_len bb_len (pma_cons (pm_v (pv 3)) pma_nil)) pma_nil) (h1 := (a_len a_len0)))) (by kernel_rfl) (by decide) (fun _ _ _ _ _ => (pmg_name sc_law.nd rfl (by first | exact Or.inl rfl | exact Or.inr rfl))) (fun _ _ _ _ _ => pmts_nil) (fun _ _ _ _ _ => (pm_cmp (ops_eq hr.units) (pm_v (pv 11)) (pm_v (pv 9)) (nomark _)))) (nomark _)) (pmss_one (pms_ret pm_bl)) pmss_nil) (pmss_one (pms_if (PW.pt (pmw_or (pmt_not (pmt_val (pm_callB (calls_isx Z.sub) rfl B.b_isinstance bb_isinstance (pma_cons (pm_v (pv 10)) (pma_cons (pm_glo rfl Z.mg_LoanError) pma_nil))))) (pmw_or1 (pmt_not (pmt_val (pm_callB (calls_isx Z.sub) rfl B.b_isinstance bb_isinstance (pma_cons (pm_v (pv 10)) (pma_cons (pm_ty rfl B.b_ValueError (by decide +kernel)) pma_nil)))))))) (pmss_one (pms_ret pm_bl)) pmss_nil)))) (pmss_cons (pms_set sc_law.nd rfl (by first | exact Or.inl rfl | exact Or.inr rfl) (pm_new0 (by decide) Z.ex_LoanError Z.kc_LoanError rfl Z.mg_LoanError (pm_v (pv 6)))) (pmss_cons (pms_if (PW.pt (pmw_or (pmt_cmp ops_in pm_bl (pm_call D__law_k00_flags hr gu (takes_of rfl rfl rfl rfl) rfl (pma_cons (pm_v (pv 4)) pma_nil)) rfl) (pmw_or (pmt_not (pmt_val (pm_callB (calls_isx Z.sub) rfl B.b_isinstance bb_isinstance (pma_cons (pm_v (pv 4)) (pma_cons (pm_ty rfl B.b_ValueError (by decide +kernel)) pma_nil))))) (pmw_or1 (pmt_val (pm_callB (calls_isx Z.sub) rfl B.b_isinstance bb_isinstance (pma_cons (pm_ve rfl B.b_ValueError (pm_v (pv 6))) (pma_cons (pm_glo rfl Z.mg_LoanError) pma_nil)))))))) (pmss_one (pms_ret pm_bl)) pmss_nil) (pmss_cons (pms_set sc_law.nd rfl (by first | exact Or.inl rfl | exact Or.inr rfl) (pm_lst (pma_cons (pm_fld Z.xf_BadLink Z.no_BadLink (pm_new1 (by decide) Z.in_BadLink hr B.b_super rfl Z.mg_BadLink (pm_v (pv 7)))) (pma_cons (pm_fld Z.xf_BadLink Z.no_BadLink (pm_newK (by decide) Z.in_BadLink hr B.b_super rfl Z.mg_BadLink (pmk_cons (pm_v (pv 7)) pmk_nil))) (pma_cons (pm_fld Z.xf_BadModules Z.no_BadModules (pm_new1 (by decide) Z.in_BadModules hr B.b_super rfl Z.mg_BadModules (pm_v (pv 7)))) (pma_cons (pm_fld Z.xf_BadModules Z.no_BadModules (pm_newK (by decide) Z.in_BadModules hr B.b_super rfl Z.mg_BadModules (pmk_cons (pm_v (pv 7)) pmk_nil))) (pma_cons (pm_fld Z.xf_BadRow Z.no_BadRow (pm_new1 (by decide) Z.in_BadRow hr B.b_super rfl Z.mg_BadRow (pm_v (pv 7)))) (pma_cons (pm_fld Z.xf_BadRow Z.no_BadRow (pm_newK (by decide) Z.in_BadRow hr B.b_super rfl Z.mg_BadRow (pmk_cons (pm_v (pv 7)) pmk_nil))) pma_nil)))))))) (pmss_cons (pms_set sc_law.nd rfl (by first | exact Or.inl rfl | exact Or.inr rfl) (pm_op ops_add (pm_v (pv 5)) (pm_lst (pma_cons (pm_fld Z.xf_BadSigns Z.no_BadSigns (pm_new1 (by decide) Z.in_BadSigns hr B.b_super rfl Z.mg_BadSigns (pm_v (pv 7)))) (pma_cons (pm_fld Z.xf_BadSigns Z.no_BadSigns (pm_newK (by decide) Z.in_BadSigns hr B.b_super rfl Z.mg_BadSigns (pmk_cons (pm_v (pv 7)) pmk_nil))) (pma_cons (pm_fld Z.xf_Broken Z.no_Broken (pm_new1 (by decide) Z.in_Broken hr B.b_super rfl Z.mg_Broken (pm_v (pv 7)))) (pma_cons (pm_fld Z.xf_Broken Z.no_Broken (pm_newK (by decide) Z.in_Broken hr B.b_super rfl Z.mg_Broken (pmk_cons (pm_v (pv 7)) pmk_nil))) (pma_cons (pm_fld Z.xf_CannotDeal Z.no_CannotDeal (pm_new1 (by decide) Z.in_CannotDeal hr B.b_super rfl Z.mg_CannotDeal (pm_v (pv 7)))) (pma_cons (pm_fld Z.xf_CannotDeal Z.no_CannotDeal (pm_newK (by decide) Z.in_CannotDeal hr B.b_super rfl Z.mg_CannotDeal (pmk_cons (pm_v (pv 7)) pmk_nil))) pma_nil))))))))) (pmss_cons (pms_set sc_law.nd rfl (by first | exact Or.inl rfl | exact Or.inr rfl) (pm_op ops_add (pm_v (pv 5)) (pm_lst (pma_cons (pm_fld Z.xf_Stray Z.no_Stray (pm_new1 (by decide) Z.in_Stray hr B.b_super rfl Z.mg_Stray (pm_v (pv 7)))) (pma_cons (pm_fld Z.xf_Stray Z.no_Stray (pm_newK (by decide) Z.in_Stray hr B.b_super rfl Z.mg_Stray (pmk_cons (pm_v (pv 7)) pmk_nil))) pma_nil))))) (pmss_one (pms_if (pmt_cmp (ops_ne hr.units) (pm_callB (calls_repr gu (r72 hr)) rfl B.b_repr bb_repr (pma_cons (pm_v (pv 5)) pma_nil)) (pm_callB (calls_repr gu (r72 hr)) rfl B.b_repr bb_repr (pma_cons (pm_op ops_mul (pm_lst (pma_cons (pm_v (pv 7)) pma_nil)) pm_int) pma_nil)) (nomark _)) (pmss_one (pms_ret pm_bl)) pmss_nil))))))))))))))))) (pmss_one (pms_ret pm_bl))))
theorem tab (hF : Fds K fdS) (G : ∀ x, mg (nmS x) = some (.ref (He.ga K (nmS x)))) (B : Bt mg) (Z : Cls P K mg) : ∀ n, Tab P w K mg base fdS n
  | 0 => fun x => ⟨fn_stuck, G x, (hF x).kp, bindsAll x (hF x)⟩
  | n + 1 => fun x => ⟨match x with
    | .f__law_begun => ok__law_begun hF (tab hF G B Z n) B Z
    | .f__law_blended => ok__law_blended hF (tab hF G B Z n) B Z
    | .f__law_draw => ok__law_draw hF (tab hF G B Z n) B Z
    | .f__law_pick => ok__law_pick hF (tab hF G B Z n) B Z
    | .f__law_k00_flags => ok__law_k00_flags hF (tab hF G B Z n) B Z
    | .f_law => ok_law hF (tab hF G B Z n) B Z
    , G x, (hF x).kp, bindsAll x (hF x)⟩
end
end K00
-- K00pa
set_option Elab.async false
set_option linter.all false
set_option maxRecDepth 100000
set_option maxHeartbeats 8000000
namespace K00
open PySem L2 PM
def t1 (T : TB) : SM := (sPar3 6 7 8 (aCons (mCall (T .f__law_pick) (aCons (mV 1) (aCons (mLst (aCons (mC (.str "")) (aCons (mC (.str "a")) (aCons (mC (.str "no row")) aNil)))) aNil))) (aCons (mCall (T .f__law_draw) (aCons (mV 1) (aCons (mC (.int 100)) aNil))) (aCons (mCall (T .f__law_draw) (aCons (mV 1) (aCons (mC (.int 100)) aNil))) aNil))))
def t2 (T : TB) : SM := (sAsg (mLst (aCons (mNew0 "BadArguments" (mV 6)) (aCons (mNew0 "BadBook" (mV 6)) (aCons (mNew0 "BadCase" (mV 6)) (aCons (mNew0 "BadCount" (mV 6)) (aCons (mNew0 "BadDeal" (mV 6)) (aCons (mNew0 "BadEdit" (mV 6)) aNil))))))) (.nm 3))
def t3 (T : TB) : SM := (sAsg (m2 addD (mV 3) (mLst (aCons (mNew0 "BadFunction" (mV 6)) (aCons (mNew0 "BadHeapState" (mV 6)) (aCons (mNew0 "BadLaying" (mV 6)) (aCons (mNew1 "BadLink" "fault" (mV 7)) (aCons (mNew1 "BadModules" "fault" (mV 7)) (aCons (mNew0 "BadName" (mV 6)) aNil)))))))) (.nm 3))
def t4 (T : TB) : SM := (sAsg (m2 addD (mV 3) (mLst (aCons (mNew0 "BadNumber" (mV 6)) (aCons (mNew0 "BadObject" (mV 6)) (aCons (mNew0 "BadPath" (mV 6)) (aCons (mNew0 "BadPlace" (mV 6)) (aCons (mNew0 "BadPlainState" (mV 6)) (aCons (mNew0 "BadProgram" (mV 6)) aNil)))))))) (.nm 3))
def t5 (T : TB) : SM := (sAsg (m2 addD (mV 3) (mLst (aCons (mNew0 "BadRoad" (mV 6)) (aCons (mNew1 "BadRow" "number" (mV 7)) (aCons (mNew0 "BadRun" (mV 6)) (aCons (mNew1 "BadSigns" "at" (mV 7)) (aCons (mNew0 "BadSum" (mV 6)) (aCons (mNew0 "BadThing" (mV 6)) aNil)))))))) (.nm 3))
def t6 (T : TB) : SM := (sAsg (m2 addD (mV 3) (mLst (aCons (mNew0 "BadType" (mV 6)) (aCons (mNew0 "BadValue" (mV 6)) (aCons (mNew0 "BadWeaving" (mV 6)) (aCons (mNew1 "Broken" "word" (mV 7)) (aCons (mNew1 "CannotDeal" "word" (mV 7)) (aCons (mNew0 "NoFunction" (mV 6)) aNil)))))))) (.nm 3))
def t7 (T : TB) : SM := (sAsg (m2 addD (mV 3) (mLst (aCons (mNew0 "NoPath" (mV 6)) (aCons (mNew0 "NotLet" (mV 6)) (aCons (mNew0 "NotSayable" (mV 6)) (aCons (mNew0 "NotTyped" (mV 6)) (aCons (mNew0 "NothingDone" (mV 6)) (aCons (mNew0 "NothingUndone" (mV 6)) aNil)))))))) (.nm 3))
def t8 (T : TB) : SM := (sAsg (m2 addD (mV 3) (mLst (aCons (mNew1 "Stray" "word" (mV 7)) (aCons (mNew0 "Strayed" (mV 6)) (aCons (mNew0 "TooManyRows" (mV 6)) (aCons (mNew0 "TooWide" (mV 6)) (aCons (mNew0 "Uneditable" (mV 6)) aNil))))))) (.nm 3))
def r1 (T : TB) : SM := (sIf (mT (m2 neD (mCall (T .f__law_k00_flags) (aCons (mV 10) aNil)) (mLc (mRng (aCons (mB lenB (aCons (mV 3) aNil)) aNil)) (.nm 11) mYes (m2 eqD (mV 11) (mV 9)) [11]))) (sRet (mC (.bl false))) sNext)
def r2 (T : TB) : SM := (sIf (mOrT (mNotT (mT (mB (isxB subT) (aCons (mV 10) (aCons (mC (.glo "LoanError")) aNil))))) (mNotT (mT (mB (isxB subT) (aCons (mV 10) (aCons (mC (.ty "ValueError")) aNil)))))) (sRet (mC (.bl false))) sNext)
def rowBody (T : TB) : SM := (sSeq (r1 T) (r2 T))
def t9 (T : TB) : SM := (sFor (mEnum (aCons (mV 3) aNil)) (.tup [(.nm 9), (.nm 10)]) (rowBody T))
def t10 (T : TB) : SM := (sAsg (mNew0 "LoanError" (mV 6)) (.nm 4))
def t11 (T : TB) : SM := (sIf (mOrT (mT (m2 inD (mC (.bl true)) (mCall (T .f__law_k00_flags) (aCons (mV 4) aNil)))) (mOrT (mNotT (mT (mB (isxB subT) (aCons (mV 4) (aCons (mC (.ty "ValueError")) aNil))))) (mT (mB (isxB subT) (aCons (mNew0 "ValueError" (mV 6)) (aCons (mC (.glo "LoanError")) aNil)))))) (sRet (mC (.bl false))) sNext)
def t12 (T : TB) : SM := (sAsg (mLst (aCons (mFld "BadLink" "fault" (mNew1 "BadLink" "fault" (mV 7))) (aCons (mFld "BadLink" "fault" (mNewK "BadLink" "fault" (aCons (mV 7) aNil))) (aCons (mFld "BadModules" "fault" (mNew1 "BadModules" "fault" (mV 7))) (aCons (mFld "BadModules" "fault" (mNewK "BadModules" "fault" (aCons (mV 7) aNil))) (aCons (mFld "BadRow" "number" (mNew1 "BadRow" "number" (mV 7))) (aCons (mFld "BadRow" "number" (mNewK "BadRow" "number" (aCons (mV 7) aNil))) aNil))))))) (.nm 5))
def t13 (T : TB) : SM := (sAsg (m2 addD (mV 5) (mLst (aCons (mFld "BadSigns" "at" (mNew1 "BadSigns" "at" (mV 7))) (aCons (mFld "BadSigns" "at" (mNewK "BadSigns" "at" (aCons (mV 7) aNil))) (aCons (mFld "Broken" "word" (mNew1 "Broken" "word" (mV 7))) (aCons (mFld "Broken" "word" (mNewK "Broken" "word" (aCons (mV 7) aNil))) (aCons (mFld "CannotDeal" "word" (mNew1 "CannotDeal" "word" (mV 7))) (aCons (mFld "CannotDeal" "word" (mNewK "CannotDeal" "word" (aCons (mV 7) aNil))) aNil)))))))) (.nm 5))
def t14 (T : TB) : SM := (sAsg (m2 addD (mV 5) (mLst (aCons (mFld "Stray" "word" (mNew1 "Stray" "word" (mV 7))) (aCons (mFld "Stray" "word" (mNewK "Stray" "word" (aCons (mV 7) aNil))) aNil)))) (.nm 5))
def t15 (T : TB) : SM := (sIf (mT (m2 neD (mB reprB (aCons (mV 5) aNil)) (mB reprB (aCons (m2 mulD (mLst (aCons (mV 7) aNil)) (mC (.int 14))) aNil)))) (sRet (mC (.bl false))) sNext)
def turnM : PM.Env → Store → Res Wk := (mRng (aCons (m2 addD (mC (.int 1)) (mB minB (aCons (mB lenB (aCons (mV 0) aNil)) (aCons (mC (.int 3)) aNil)))) aNil))
def turnBody (T : TB) : SM := (sSeq (t1 T) (sSeq (t2 T) (sSeq (t3 T) (sSeq (t4 T) (sSeq (t5 T) (sSeq (t6 T) (sSeq (t7 T) (sSeq (t8 T) (sSeq (t9 T) (sSeq (t10 T) (sSeq (t11 T) (sSeq (t12 T) (sSeq (t13 T) (sSeq (t14 T) (t15 T)))))))))))))))
def uR : SM := (sRet (mC (.bl true)))
def t0 (T : TB) : SM := (sAsg (mCall (T .f__law_begun) (aCons (mV 0) aNil)) (.nm 1))
theorem b_law_eq (T : TB) : b_law T = sSeq (t0 T) (sSeq (sFor turnM (.nm 2) (turnBody T)) uR) := rfl
/-- the names of the law: the script, the state, the others -/
def EL (sD : D) (x2 x3 x4 x5 x6 x7 x8 x9 x10 x11 : Option D) : PM.Env := [some sD, some (.loc 2), x2, x3, x4, x5, x6, x7, x8, x9, x10, x11]
end K00
-- K00fl
set_option Elab.async false
set_option linter.all false
set_option maxRecDepth 100000
set_option maxHeartbeats 8000000
namespace K00
open PySem L2 PM
abbrev PostI (b : Nat) (sz : Int) (rest : Store) : D → Store → Prop := fun d st' => ∃ k : Int, d = .int k ∧ 0 ≤ k ∧ k < sz ∧ ∃ g, Wd b st' (rest ++ g)
theorem drawF {n b : Nat} {sz : Int} {st rest : Store} (hn : 2 ≤ n) (hs : 0 < sz) (hs2 : sz < 2 ^ 64) (h : Wd (b + 1) st rest) : Wp (F n .f__law_draw [.loc 2, .int sz] st) (PostI b sz rest) := by
  obtain ⟨k, rfl⟩ : ∃ k, n = k + 2 := ⟨n - 2, by omega⟩
  rw [e__law_draw]
  change Wp (mDef 2 3 (bDraw (F (k + 1) .f__law_blended)) _ _) _
  refine draw_ok h hs hs2 fun st rest h => ?_
  rw [e__law_blended]
  change Wp (mDef 1 6 bBlended _ _) _
  exact (blended_ok h).imp fun d st' ⟨x, e, hx, g, w, _⟩ => ⟨x, e, hx, g, w⟩
abbrev PostD (b : Nat) (rest : Store) (P : D → Prop) : D → Store → Prop := fun d st' => P d ∧ ∃ g, Wd b st' (rest ++ g)
theorem pickLF {n b i : Nat} {st rest : Store} {ds : List D} (hn : 3 ≤ n) (h : Wd (b + 1) st rest) (hi : rest[i]? = some (.lst ds)) (h0 : ds ≠ []) (hl : ds.length < 2 ^ 60) : Wp (F n .f__law_pick [.loc 2, .loc (i + 3)] st) (PostD b rest (· ∈ ds)) := by
  obtain ⟨k, rfl⟩ : ∃ k, n = k + 3 := ⟨n - 3, by omega⟩
  rw [e__law_pick]
  change Wp (mDef 2 2 (bPick (F (k + 2) .f__law_draw)) _ _) _
  exact pickL_ok h hi h0 hl fun sz st rest h1 h2 h3 => drawF (by omega) h1 h2 h3
theorem pickN {n b : Nat} {st rest : Store} {ds : List D} (hn : 3 ≤ n) (h : Wd (b + 1) st rest) (h0 : ds ≠ []) (hl : ds.length ≤ 64) : Wp (F n .f__law_pick [.loc 2, .loc st.length] (st ++ [.lst ds])) (PostD b rest (· ∈ ds)) := by
  rw [h.len]
  refine (pickLF hn (h.add [.lst ds]) (i := rest.length) (by simp) h0 (by omega)).imp fun d st' ⟨hd, g, w⟩ => ⟨hd, [.lst ds] ++ g, by rw [← List.append_assoc]; exact w⟩
theorem ne_same {s : Str} {st : Store} : neD (.str s) (.str s) st = some (.bl false, st) := by
  rw [ne_s, decide_eq_true rfl]
  rfl
theorem cat_loc {st : Store} {a b : Nat} {xs ys : List D} (h1 : st[a]? = some (.lst xs)) (h2 : st[b]? = some (.lst ys)) (hl : (xs ++ ys).length ≤ 1000) : addD (.loc a) (.loc b) st = some (.loc st.length, st ++ [.lst (xs ++ ys)]) := by
  show ((wrL st a).bind fun xs => (wrL st b).bind fun ys => newL st (xs ++ ys)) = _
  rw [show wrL st a = some xs by unfold wrL; rw [h1], show wrL st b = some ys by unfold wrL; rw [h2]]
  exact if_pos (by rw [sizeLine_eq]; omega)
theorem set_len {st g : Store} {a : Nat} {c : Cell} (h : st[a]? = some c) : (st ++ g)[a]? = some c := get_pre h
/-! ### lists that grow -/
abbrev PostG (env : PM.Env) (i : Nat) (st : Store) (xs : List D) : Fl → Store → Prop := fun f st' => ∃ a, f = .nx (env.set i (some (.loc a))) ∧ (∃ g, st' = st ++ g) ∧ st'[a]? = some (.lst xs)
theorem wp_new {i : Nat} {t : AM} {ds : List D} {env : PM.Env} {st : Store} (hi : i < env.length) (ht : ∀ s, t env s = .ok ds s) (hl : ds.length ≤ 1000) : Wp (sAsg (mLst t) (.nm i) env st) (PostG env i st ds) := by
  have hz : ds.length ≤ 16777216 := by omega
  simp only [wp_bind, wp_ok, wp_some, wp_at, Res.bind_ok, Res.bind_stuck, Res.of_some, sSeq, sRet, sRetN, sNext, sBreak, sCont, sIf, sExpr, sAsg, sPar, sPar3, par2, par3, nxO, nxS, sPut, sFor, asg, asgs, m2, mV, mC, mT, mAndT, mOrT, mNotT, mYes, mAnd, mOr, mNot, mIf, aNil, aCons, mTup, mLst, mB, mSl, oNo, oSome, mMt, mSeq, mRng, mEnum, mZip, mCall, mCallK, mNeg, mChain, mLenSet, mLc, List.map_cons, List.map_nil, List.replicate, List.cons_append, List.nil_append, List.getElem?_cons_zero, List.getElem?_cons_succ, List.set_cons_zero, List.set_cons_succ, List.length_cons, List.length_nil, outQ, Nat.sub_zero, Nat.reduceSub, sizeLine_eq, Nat.reduceAdd, Nat.reduceLeDiff, if_true, Option.map_some, seqWk_new, add_ii, sub_ii, int_i, eq_i, ne_i, lt_i, le_i, gt_i, ge_i, eq_s, ne_s, Bool.false_eq_true, if_false, decide_true, decide_false, eq_self, Int.reduceEq, Int.reduceLT, Int.reduceLE, Int.reduceSub, Int.reduceAdd, Int.reduceNeg, Int.reduceMul, or_true, true_or, or_false, false_or, Bool.not_true, Bool.not_false, ht, hz]
  exact ⟨_, by trivial, ⟨_, rfl⟩, by simp⟩
theorem wp_acc {i : Nat} {t : AM} {ds xs : List D} {env : PM.Env} {st : Store} {a : Nat} (hv : env[i]? = some (some (.loc a))) (ht : ∀ s, t env s = .ok ds s) (ha : st[a]? = some (.lst xs)) (hl : (xs ++ ds).length ≤ 1000) : Wp (sAsg (m2 addD (mV i) (mLst t)) (.nm i) env st) (PostG env i st (xs ++ ds)) := by
  have hz : ds.length ≤ 16777216 := by
    rw [List.length_append] at hl
    omega
  have hi : i < env.length := (List.getElem?_eq_some_iff.mp hv).1
  have hc : addD (.loc a) (.loc st.length) (st ++ [.lst ds]) = some (.loc (st ++ [Cell.lst ds]).length, st ++ [.lst ds] ++ [.lst (xs ++ ds)]) := cat_loc (get_pre ha) (by simp) hl
  simp only [wp_bind, wp_ok, wp_some, wp_at, Res.bind_ok, Res.bind_stuck, Res.of_some, sSeq, sRet, sRetN, sNext, sBreak, sCont, sIf, sExpr, sAsg, sPar, sPar3, par2, par3, nxO, nxS, sPut, sFor, asg, asgs, m2, mV, mC, mT, mAndT, mOrT, mNotT, mYes, mAnd, mOr, mNot, mIf, aNil, aCons, mTup, mLst, mB, mSl, oNo, oSome, mMt, mSeq, mRng, mEnum, mZip, mCall, mCallK, mNeg, mChain, mLenSet, mLc, List.map_cons, List.map_nil, List.replicate, List.cons_append, List.nil_append, List.getElem?_cons_zero, List.getElem?_cons_succ, List.set_cons_zero, List.set_cons_succ, List.length_cons, List.length_nil, outQ, Nat.sub_zero, Nat.reduceSub, sizeLine_eq, Nat.reduceAdd, Nat.reduceLeDiff, if_true, Option.map_some, seqWk_new, add_ii, sub_ii, int_i, eq_i, ne_i, lt_i, le_i, gt_i, ge_i, eq_s, ne_s, Bool.false_eq_true, if_false, decide_true, decide_false, eq_self, Int.reduceEq, Int.reduceLT, Int.reduceLE, Int.reduceSub, Int.reduceAdd, Int.reduceNeg, Int.reduceMul, or_true, true_or, or_false, false_or, Bool.not_true, Bool.not_false, hv, ht, hz, hc]
  exact ⟨_, by trivial, ⟨_, List.append_assoc _ _ _⟩, by simp⟩
/-! ### the flags -/
def nmL : List Str := clsL.tail
def flB (c y : Str) : Bool := decide (y = c ∨ y = "LoanError")
def flg (c y : Str) : D := .bl (flB c y)
theorem cls_no {c : Str} (h : c ∈ clsL) : c ≠ "" ∧ c ≠ "ValueError" := by
  have : ∀ c ∈ clsL, c ≠ ("" : Str) ∧ c ≠ ("ValueError" : Str) := by decide +kernel
  exact this c h
theorem nm_cls {c : Str} (h : c ∈ nmL) : c ∈ clsL := List.mem_of_mem_tail h
section
variable {c y : Str} {ns : List Str} {es : List D} {env : PM.Env} {st : Store}
theorem isx_cls (hc : c ∈ clsL) (hy : y ∈ clsL) : isxB subT [.exo c ns es, .glo y] st = some (flg c y, st) := by
  show (if y = "" then none else (subT c y).map fun b => (D.bl b, st)) = _
  rw [if_neg (cls_no hy).1]
  unfold subT
  rw [if_neg (cls_no hc).2, if_pos hc, if_neg (cls_no hy).1, if_pos hy]
  rfl
theorem isx_ve (hc : c ∈ clsL) : isxB subT [.exo c ns es, .ty "ValueError"] st = some (.bl true, st) := by
  show (if ("ValueError" : String) = "ValueError" then (subT c "").map fun b => (D.bl b, st) else none) = _
  rw [if_pos rfl]
  unfold subT
  rw [if_neg (cls_no hc).2, if_pos hc, if_pos rfl]
  rfl
def fl : List Str → AM
  | [] => aNil
  | y :: ys => aCons (mB (isxB subT) (aCons (mV 0) (aCons (mC (.glo y)) aNil))) (fl ys)
theorem fl_ok (hc : c ∈ clsL) : ∀ {ys : List Str}, (∀ y ∈ ys, y ∈ clsL) → ∀ s, fl ys (some (.exo c ns es) :: env) s = .ok (ys.map (flg c)) s
  | [], _, s => rfl
  | y :: ys, h, s => by
    show (mB (isxB subT) (aCons (mV 0) (aCons (mC (.glo y)) aNil)) (some (.exo c ns es) :: env) s).bind _ = _
    rw [show mB (isxB subT) (aCons (mV 0) (aCons (mC (.glo y)) aNil)) (some (.exo c ns es) :: env) s = Res.of (isxB subT [.exo c ns es, .glo y] s) from rfl, isx_cls hc (h y List.mem_cons_self)]
    show ((fl ys (some (.exo c ns es) :: env) s).bind fun ds st1 => Res.ok (flg c y :: ds) st1) = _
    rw [fl_ok hc (fun z hz => h z (List.mem_cons_of_mem _ hz)) s]
    rfl
def nmP (a b : Nat) : List Str := (nmL.drop a).take b
theorem nmP_cls {a b : Nat} : ∀ y ∈ nmP a b, y ∈ clsL := fun y h => nm_cls (List.mem_of_mem_drop (List.mem_of_mem_take h))
theorem flags_eq (T : TB) : b__law_k00_flags T = sSeq (sAsg (mLst (fl (nmP 0 4))) (.nm 1)) (sSeq (sAsg (m2 addD (mV 1) (mLst (fl (nmP 4 4)))) (.nm 1)) (sSeq (sAsg (m2 addD (mV 1) (mLst (fl (nmP 8 4)))) (.nm 1)) (sSeq (sAsg (m2 addD (mV 1) (mLst (fl (nmP 12 4)))) (.nm 1)) (sSeq (sAsg (m2 addD (mV 1) (mLst (fl (nmP 16 4)))) (.nm 1)) (sSeq (sAsg (m2 addD (mV 1) (mLst (fl (nmP 20 4)))) (.nm 1)) (sSeq (sAsg (m2 addD (mV 1) (mLst (fl (nmP 24 4)))) (.nm 1)) (sSeq (sAsg (m2 addD (mV 1) (mLst (fl (nmP 28 4)))) (.nm 1)) (sSeq (sAsg (m2 addD (mV 1) (mLst (fl (nmP 32 4)))) (.nm 1)) (sSeq (sAsg (m2 addD (mV 1) (mLst (fl (nmP 36 4)))) (.nm 1)) (sRet (m2 addD (mV 1) (mLst (fl (nmP 40 4)))))))))))))) := rfl
theorem nmP_len {a b : Nat} : (nmP a b).length ≤ b := List.length_take_le _ _
theorem nmP_add {a : Nat} : nmP 0 a ++ nmP a 4 = nmP 0 (a + 4) := by
  unfold nmP
  rw [List.drop_zero, List.take_add]
theorem fstep {a : Nat} {l : Nat} {r : SM} {Q : Fl → Store → Prop} (ha : a ≤ 100) (hc : c ∈ clsL) (hl : st[l]? = some (.lst ((nmP 0 a).map (flg c)))) (h : ∀ l' g, (st ++ g)[l']? = some (.lst ((nmP 0 (a + 4)).map (flg c))) → Wp (r [some (.exo c ns es), some (.loc l')] (st ++ g)) Q) : Wp (sSeq (sAsg (m2 addD (mV 1) (mLst (fl (nmP a 4)))) (.nm 1)) r [some (.exo c ns es), some (.loc l)] st) Q := by
  refine wp_seq ((wp_acc (i := 1) (xs := (nmP 0 a).map (flg c)) (ds := (nmP a 4).map (flg c)) rfl (fl_ok hc nmP_cls) hl ?_).imp ?_)
  · rw [← List.map_append, nmP_add, List.length_map]
    exact Nat.le_trans nmP_len (by omega)
  · rintro f st' ⟨l', rfl, ⟨g, rfl⟩, hl'⟩
    rw [← List.map_append, nmP_add] at hl'
    exact h l' g hl'
theorem flags_ok {n : Nat} (hc : c ∈ clsL) : Wp (F (n + 1) .f__law_k00_flags [.exo c ns es] st) fun d st' => ∃ l g, d = .loc l ∧ st' = st ++ g ∧ st'[l]? = some (.lst (nmL.map (flg c))) := by
  rw [e__law_k00_flags, wp_def (show [D.exo c ns es].length = 1 from rfl), flags_eq]
  refine wp_seq ((wp_new (i := 1) (by simp) (fl_ok hc nmP_cls) (by rw [List.length_map]; exact Nat.le_trans nmP_len (by decide))).imp ?_)
  rintro f s1 ⟨l1, rfl, ⟨g1, rfl⟩, h1⟩
  refine fstep (a := 4) (by decide) hc h1 fun l2 g2 h2 => ?_
  refine fstep (a := 8) (by decide) hc h2 fun l3 g3 h3 => ?_
  refine fstep (a := 12) (by decide) hc h3 fun l4 g4 h4 => ?_
  refine fstep (a := 16) (by decide) hc h4 fun l5 g5 h5 => ?_
  refine fstep (a := 20) (by decide) hc h5 fun l6 g6 h6 => ?_
  refine fstep (a := 24) (by decide) hc h6 fun l7 g7 h7 => ?_
  refine fstep (a := 28) (by decide) hc h7 fun l8 g8 h8 => ?_
  refine fstep (a := 32) (by decide) hc h8 fun l9 g9 h9 => ?_
  refine fstep (a := 36) (by decide) hc h9 fun l10 g10 h10 => ?_
  generalize hS : st ++ g1 ++ g2 ++ g3 ++ g4 ++ g5 ++ g6 ++ g7 ++ g8 ++ g9 ++ g10 = S at h10 ⊢
  have e0 : (nmP 0 40).map (flg c) ++ (nmP 40 4).map (flg c) = nmL.map (flg c) := by rw [← List.map_append]; rfl
  have hf := fl_ok (ns := ns) (es := es) (env := [some (.loc l10)]) hc (ys := nmP 40 4) nmP_cls
  have hz : ((nmP 40 4).map (flg c)).length ≤ 16777216 := by rw [List.length_map]; decide +kernel
  have hk : addD (.loc l10) (.loc S.length) (S ++ [.lst ((nmP 40 4).map (flg c))]) = some (.loc (S ++ [Cell.lst ((nmP 40 4).map (flg c))]).length, S ++ [.lst ((nmP 40 4).map (flg c))] ++ [.lst (nmL.map (flg c))]) := by
    rw [← e0]
    exact cat_loc (get_pre h10) (by simp) (by rw [e0, List.length_map]; decide +kernel)
  simp only [wp_bind, wp_ok, wp_some, wp_at, Res.bind_ok, Res.bind_stuck, Res.of_some, sSeq, sRet, sRetN, sNext, sBreak, sCont, sIf, sExpr, sAsg, sPar, sPar3, par2, par3, nxO, nxS, sPut, sFor, asg, asgs, m2, mV, mC, mT, mAndT, mOrT, mNotT, mYes, mAnd, mOr, mNot, mIf, aNil, aCons, mTup, mLst, mB, mSl, oNo, oSome, mMt, mSeq, mRng, mEnum, mZip, mCall, mCallK, mNeg, mChain, mLenSet, mLc, List.map_cons, List.map_nil, List.replicate, List.cons_append, List.nil_append, List.getElem?_cons_zero, List.getElem?_cons_succ, List.set_cons_zero, List.set_cons_succ, List.length_cons, List.length_nil, outQ, Nat.sub_zero, Nat.reduceSub, sizeLine_eq, Nat.reduceAdd, Nat.reduceLeDiff, if_true, Option.map_some, seqWk_new, add_ii, sub_ii, int_i, eq_i, ne_i, lt_i, le_i, gt_i, ge_i, eq_s, ne_s, Bool.false_eq_true, if_false, decide_true, decide_false, eq_self, Int.reduceEq, Int.reduceLT, Int.reduceLE, Int.reduceSub, Int.reduceAdd, Int.reduceNeg, Int.reduceMul, or_true, true_or, or_false, false_or, Bool.not_true, Bool.not_false, hf, hz, hk]
  exact ⟨_, g1 ++ g2 ++ g3 ++ g4 ++ g5 ++ g6 ++ g7 ++ g8 ++ g9 ++ g10 ++ [.lst ((nmP 40 4).map (flg c))] ++ [.lst (nmL.map (flg c))], by trivial, by rw [← hS]; simp only [List.append_assoc], by simp⟩
end
end K00
-- K00fi
set_option Elab.async false
set_option linter.all false
set_option maxRecDepth 100000
set_option maxHeartbeats 8000000
namespace K00
open PySem L2 PM
/-! ### the errors that are made -/
def fldOf (c : Str) : Str := if c ∈ (["BadLink", "BadModules"] : List Str) then "fault" else if c = "BadRow" then "number" else if c = "BadSigns" then "at" else if c ∈ (["Broken", "CannotDeal", "Stray"] : List Str) then "word" else ""
def kinds : List (Str × Str) := nmL.map fun c => (c, fldOf c)
def mk (k : Int) (p : Str × Str) : D := if p.2 = "" then .exo p.1 [] [] else .exo p.1 [p.2] [.int k]
def mP (k : Int) (a b : Nat) : List D := ((kinds.drop a).take b).map (mk k)
def madeL (k : Int) : List D := kinds.map (mk k)
theorem made_get {k : Int} {i : Nat} {d : D} (h : (madeL k)[i]? = some d) : i < 41 ∧ ∃ c ns es, d = .exo c ns es ∧ c ∈ clsL ∧ nmL.map (flB c) = (List.range 41).map fun p => decide (p = i) := by
  obtain ⟨hi, e⟩ := List.getElem?_eq_some_iff.mp h
  have hl : (madeL k).length = 41 := by
    unfold madeL
    rw [List.length_map]
    decide +kernel
  rw [hl] at hi
  have key : ∀ i < 41, (kinds.getD i ("", "")).1 ∈ clsL ∧ nmL.map (flB (kinds.getD i ("", "")).1) = (List.range 41).map fun p => decide (p = i) := by decide +kernel
  obtain ⟨h1, h2⟩ := key i hi
  have hk : kinds[i]? = some (kinds.getD i ("", "")) := by
    have : i < kinds.length := by
      have : kinds.length = 41 := by decide +kernel
      omega
    rw [List.getD_eq_getElem?_getD, List.getElem?_eq_getElem this]
    rfl
  have hd : d = mk k (kinds.getD i ("", "")) := by
    unfold madeL at h
    rw [List.getElem?_map, hk] at h
    exact (Option.some.inj h).symm
  refine ⟨hi, (kinds.getD i ("", "")).1, ?_⟩
  subst hd
  unfold mk
  split
  · exact ⟨_, _, rfl, h1, h2⟩
  · exact ⟨_, _, rfl, h1, h2⟩
/-! ### lists of truths -/
theorem pyL_bls {st : Store} {n : Nat} : ∀ gs : List Bool, pyL (pyOf st n) (gs.map .bl) = some (gs.map PyData.bool)
  | [] => rfl
  | g :: gs => by
    have e : pyOf st n (.bl g) = some (.bool g) := by cases n <;> rfl
    rw [List.map_cons, pyL, e]
    show ((pyL (pyOf st n) (gs.map .bl)).map fun ps => PyData.bool g :: ps) = _
    rw [pyL_bls gs]
    rfl
theorem shaped_bls (gs : List Bool) : SeqAt.shaped (.list (gs.map PyData.bool)) = true := by
  have h1 : PyData.canLayAll0 (gs.map PyData.bool) = true := by
    induction gs with
    | nil => rw [List.map_nil, PyData.canLayAll0]
    | cons g gs ih => rw [List.map_cons, PyData.canLayAll0, PyData.canLay0, ih]; rfl
  have h2 : PyData.depthAll (gs.map PyData.bool) = 0 := by
    clear h1
    induction gs with
    | nil => rw [List.map_nil, PyData.depthAll]
    | cons g gs ih => rw [List.map_cons, PyData.depthAll, PyData.depth, ih]; rfl
  unfold SeqAt.shaped
  rw [PyData.canLay0, PyData.depth, h1, h2]
  rfl
theorem eqv_bls : ∀ gs : List Bool, PyData.eqvAll (gs.map PyData.bool) (gs.map PyData.bool) = true
  | [] => by rw [List.map_nil, PyData.eqvAll]
  | g :: gs => by
    rw [List.map_cons, PyData.eqvAll, eqv_bls gs, PyData.eqv]
    cases g <;> rfl
theorem neD_bb {st : Store} {a b : Nat} {gs : List Bool} (ha : st[a]? = some (.lst (gs.map .bl))) (hb : st[b]? = some (.lst (gs.map .bl))) : neD (.loc a) (.loc b) st = some (.bl false, st) := by
  have e : ∀ {a : Nat}, st[a]? = some (.lst (gs.map .bl)) → pyOf st 70 (.loc a) = some (.list (gs.map PyData.bool)) := fun {a} h => by
    show (rdL st a).bind (fun ds => (pyL (pyOf st 69) ds).map PyData.list) = _
    rw [show rdL st a = some (gs.map .bl) by unfold rdL; rw [h]]
    show (pyL _ _).map _ = _
    rw [pyL_bls]
    rfl
  show eqG true _ _ _ = _
  unfold eqG
  rw [e ha, e hb]
  show (if SeqAt.shaped (.list (gs.map PyData.bool)) = true ∧ SeqAt.shaped (.list (gs.map PyData.bool)) = true then _ else _) = _
  rw [if_pos ⟨shaped_bls gs, shaped_bls gs⟩, PyData.eqv, eqv_bls]
  rfl
theorem flg_map (c : Str) (ys : List Str) : ys.map (flg c) = (ys.map (flB c)).map .bl := by
  rw [List.map_map]
  rfl
/-! ### the turn -/
section
variable {sD : D} {x2 x3 x4 x5 x6 x7 x8 x9 x10 x11 : Option D} {k b : Nat} {st r : Store}
theorem comp_ok {i : Nat} {t : D} {mL : List D} {a : Nat} (ha : st[a]? = some (.lst mL)) (hl : mL.length = 41) : Wp (mLc (mRng (aCons (mB lenB (aCons (mV 3) aNil)) aNil)) (.nm 11) mYes (m2 eqD (mV 11) (mV 9)) [11] (EL sD x2 (some (.loc a)) x4 x5 x6 x7 x8 (some (.int (i : Nat))) x10 x11) st) fun d st' => d = .loc st.length ∧ st' = st ++ [.lst (((List.range 41).map fun p => decide (p = i)).map .bl)] := by
  have e2 : lenB [.loc a] st = some (.int (41 : Nat), st) := by
    show (rdL st a).map _ = _
    rw [show rdL st a = some mL by unfold rdL; rw [ha]]
    show some (D.int mL.length, st) = _
    rw [hl]
  have er : rngWk [.int (41 : Nat)] = some ⟨rngs 0 1 41, none⟩ := rng1 (by decide) (by decide)
  simp only [EL, wp_bind, wp_ok, wp_some, wp_at, Res.bind_ok, Res.bind_stuck, Res.of_some, sSeq, sRet, sRetN, sNext, sBreak, sCont, sIf, sExpr, sAsg, sPar, sPar3, par2, par3, nxO, nxS, sPut, sFor, asg, asgs, m2, mV, mC, mT, mAndT, mOrT, mNotT, mYes, mAnd, mOr, mNot, mIf, aNil, aCons, mTup, mLst, mB, mSl, oNo, oSome, mMt, mSeq, mRng, mEnum, mZip, mCall, mCallK, mNeg, mChain, mLenSet, mLc, List.map_cons, List.map_nil, List.replicate, List.cons_append, List.nil_append, List.getElem?_cons_zero, List.getElem?_cons_succ, List.set_cons_zero, List.set_cons_succ, List.length_cons, List.length_nil, outQ, Nat.sub_zero, Nat.reduceSub, sizeLine_eq, Nat.reduceAdd, Nat.reduceLeDiff, if_true, Option.map_some, seqWk_new, add_ii, sub_ii, int_i, eq_i, ne_i, lt_i, le_i, gt_i, ge_i, eq_s, ne_s, Bool.false_eq_true, if_false, decide_true, decide_false, eq_self, Int.reduceEq, Int.reduceLT, Int.reduceLE, Int.reduceSub, Int.reduceAdd, Int.reduceNeg, Int.reduceMul, or_true, true_or, or_false, false_or, Bool.not_true, Bool.not_false, e2, er]
  refine wp_lc (fun j acc st' => st' = st ∧ acc = ((List.range j).map fun p => decide (p = i)).map .bl) ?_ ⟨rfl, rfl⟩ ?_ ?_
  · show (rngs 0 1 41).length ≤ sizeLine
    rw [rngs_len, sizeLine_eq]
    decide
  · rintro j d acc st' hd ⟨rfl, rfl⟩
    obtain ⟨hj, e⟩ := rngs_get (show (rngs 0 1 41)[j]? = some d from hd)
    obtain ⟨q, hq⟩ : ∃ q : Int, q = 0 + (j : Int) * 1 := ⟨_, rfl⟩
    rw [← hq] at e
    subst e
    have hqe : q = (j : Int) := by omega
    refine ⟨rfl, _, rfl, ?_⟩
    simp only [wipeD, wp_bind, wp_ok, wp_some, wp_at, Res.bind_ok, Res.bind_stuck, Res.of_some, sSeq, sRet, sRetN, sNext, sBreak, sCont, sIf, sExpr, sAsg, sPar, sPar3, par2, par3, nxO, nxS, sPut, sFor, asg, asgs, m2, mV, mC, mT, mAndT, mOrT, mNotT, mYes, mAnd, mOr, mNot, mIf, aNil, aCons, mTup, mLst, mB, mSl, oNo, oSome, mMt, mSeq, mRng, mEnum, mZip, mCall, mCallK, mNeg, mChain, mLenSet, mLc, List.map_cons, List.map_nil, List.replicate, List.cons_append, List.nil_append, List.getElem?_cons_zero, List.getElem?_cons_succ, List.set_cons_zero, List.set_cons_succ, List.length_cons, List.length_nil, outQ, Nat.sub_zero, Nat.reduceSub, sizeLine_eq, Nat.reduceAdd, Nat.reduceLeDiff, if_true, Option.map_some, seqWk_new, add_ii, sub_ii, int_i, eq_i, ne_i, lt_i, le_i, gt_i, ge_i, eq_s, ne_s, Bool.false_eq_true, if_false, decide_true, decide_false, eq_self, Int.reduceEq, Int.reduceLT, Int.reduceLE, Int.reduceSub, Int.reduceAdd, Int.reduceNeg, Int.reduceMul, or_true, true_or, or_false, false_or, Bool.not_true, Bool.not_false]
    refine ⟨by trivial, ?_⟩
    rw [List.range_succ, List.map_append, List.map_append]
    show _ = _ ++ [D.bl (decide (j = i))]
    have : decide (q = (i : Int)) = decide (j = i) := decide_eq_decide.mpr (by omega)
    rw [this]
  · rintro acc st' ⟨rfl, rfl⟩
    refine ⟨rfl, by trivial, ?_⟩
    rw [show (rngs 0 1 41).length = 41 from rngs_len]
theorem r1_ok {i a : Nat} {c : Str} {ns : List Str} {es mL : List D} (ha : st[a]? = some (.lst mL)) (hl : mL.length = 41) (hc : c ∈ clsL) (hf : nmL.map (flB c) = (List.range 41).map fun p => decide (p = i)) : Wp (r1 (F (k + 1)) (EL sD x2 (some (.loc a)) x4 x5 x6 x7 x8 (some (.int (i : Nat))) (some (.exo c ns es)) x11) st) fun f st' => f = .nx (EL sD x2 (some (.loc a)) x4 x5 x6 x7 x8 (some (.int (i : Nat))) (some (.exo c ns es)) x11) ∧ ∃ g, st' = st ++ g := by
  have hcomp := fun {st : Store} (h : st[a]? = some (.lst mL)) => comp_ok (sD := sD) (x2 := x2) (x4 := x4) (x5 := x5) (x6 := x6) (x7 := x7) (x8 := x8) (x10 := some (.exo c ns es)) (x11 := x11) (i := i) (t := .non) h hl
  unfold r1
  generalize mLc (mRng (aCons (mB lenB (aCons (mV 3) aNil)) aNil)) (.nm 11) mYes (m2 eqD (mV 11) (mV 9)) [11] = cm at hcomp ⊢
  simp only [EL, wp_bind, wp_ok, wp_some, wp_at, Res.bind_ok, Res.bind_stuck, Res.of_some, sSeq, sRet, sRetN, sNext, sBreak, sCont, sIf, sExpr, sAsg, sPar, sPar3, par2, par3, nxO, nxS, sPut, sFor, asg, asgs, m2, mV, mC, mT, mAndT, mOrT, mNotT, mYes, mAnd, mOr, mNot, mIf, aNil, aCons, mTup, mLst, mB, mSl, oNo, oSome, mMt, mSeq, mRng, mEnum, mZip, mCall, mCallK, mNeg, mChain, mLenSet, mLc, List.map_cons, List.map_nil, List.replicate, List.cons_append, List.nil_append, List.getElem?_cons_zero, List.getElem?_cons_succ, List.set_cons_zero, List.set_cons_succ, List.length_cons, List.length_nil, outQ, Nat.sub_zero, Nat.reduceSub, sizeLine_eq, Nat.reduceAdd, Nat.reduceLeDiff, if_true, Option.map_some, seqWk_new, add_ii, sub_ii, int_i, eq_i, ne_i, lt_i, le_i, gt_i, ge_i, eq_s, ne_s, Bool.false_eq_true, if_false, decide_true, decide_false, eq_self, Int.reduceEq, Int.reduceLT, Int.reduceLE, Int.reduceSub, Int.reduceAdd, Int.reduceNeg, Int.reduceMul, or_true, true_or, or_false, false_or, Bool.not_true, Bool.not_false] at hcomp ⊢
  refine (flags_ok hc).imp ?_
  rintro d s1 ⟨l, g, rfl, rfl, h1⟩
  refine (hcomp (get_pre ha)).imp ?_
  rintro d s2 ⟨rfl, rfl⟩
  rw [flg_map, hf] at h1
  have hn := neD_bb (st := st ++ g ++ [.lst (((List.range 41).map fun p => decide (p = i)).map .bl)]) (a := l) (b := (st ++ g).length) (get_pre h1) (by simp)
  simp only [hn, wp_bind, wp_ok, wp_some, wp_at, Res.bind_ok, Res.bind_stuck, Res.of_some, sSeq, sRet, sRetN, sNext, sBreak, sCont, sIf, sExpr, sAsg, sPar, sPar3, par2, par3, nxO, nxS, sPut, sFor, asg, asgs, m2, mV, mC, mT, mAndT, mOrT, mNotT, mYes, mAnd, mOr, mNot, mIf, aNil, aCons, mTup, mLst, mB, mSl, oNo, oSome, mMt, mSeq, mRng, mEnum, mZip, mCall, mCallK, mNeg, mChain, mLenSet, mLc, List.map_cons, List.map_nil, List.replicate, List.cons_append, List.nil_append, List.getElem?_cons_zero, List.getElem?_cons_succ, List.set_cons_zero, List.set_cons_succ, List.length_cons, List.length_nil, outQ, Nat.sub_zero, Nat.reduceSub, sizeLine_eq, Nat.reduceAdd, Nat.reduceLeDiff, if_true, Option.map_some, seqWk_new, add_ii, sub_ii, int_i, eq_i, ne_i, lt_i, le_i, gt_i, ge_i, eq_s, ne_s, Bool.false_eq_true, if_false, decide_true, decide_false, eq_self, Int.reduceEq, Int.reduceLT, Int.reduceLE, Int.reduceSub, Int.reduceAdd, Int.reduceNeg, Int.reduceMul, or_true, true_or, or_false, false_or, Bool.not_true, Bool.not_false]
  exact ⟨by trivial, _, List.append_assoc _ _ _⟩
theorem r2_ok {c : Str} {ns : List Str} {es : List D} (hc : c ∈ clsL) : Wp (r2 (F (k + 1)) (EL sD x2 x3 x4 x5 x6 x7 x8 x9 (some (.exo c ns es)) x11) st) fun f st' => f = .nx (EL sD x2 x3 x4 x5 x6 x7 x8 x9 (some (.exo c ns es)) x11) ∧ st' = st := by
  have h1 : isxB subT [.exo c ns es, .glo "LoanError"] st = some (.bl true, st) := by
    rw [isx_cls hc (by decide +kernel)]
    show some (D.bl (decide (("LoanError" : Str) = c ∨ ("LoanError" : Str) = "LoanError")), st) = _
    rw [decide_eq_true (.inr rfl)]
  have h2 : isxB subT [.exo c ns es, .ty "ValueError"] st = some (.bl true, st) := isx_ve hc
  simp only [r2, EL, wp_bind, wp_ok, wp_some, wp_at, Res.bind_ok, Res.bind_stuck, Res.of_some, sSeq, sRet, sRetN, sNext, sBreak, sCont, sIf, sExpr, sAsg, sPar, sPar3, par2, par3, nxO, nxS, sPut, sFor, asg, asgs, m2, mV, mC, mT, mAndT, mOrT, mNotT, mYes, mAnd, mOr, mNot, mIf, aNil, aCons, mTup, mLst, mB, mSl, oNo, oSome, mMt, mSeq, mRng, mEnum, mZip, mCall, mCallK, mNeg, mChain, mLenSet, mLc, List.map_cons, List.map_nil, List.replicate, List.cons_append, List.nil_append, List.getElem?_cons_zero, List.getElem?_cons_succ, List.set_cons_zero, List.set_cons_succ, List.length_cons, List.length_nil, outQ, Nat.sub_zero, Nat.reduceSub, sizeLine_eq, Nat.reduceAdd, Nat.reduceLeDiff, if_true, Option.map_some, seqWk_new, add_ii, sub_ii, int_i, eq_i, ne_i, lt_i, le_i, gt_i, ge_i, eq_s, ne_s, Bool.false_eq_true, if_false, decide_true, decide_false, eq_self, Int.reduceEq, Int.reduceLT, Int.reduceLE, Int.reduceSub, Int.reduceAdd, Int.reduceNeg, Int.reduceMul, or_true, true_or, or_false, false_or, Bool.not_true, Bool.not_false, h1, h2]
  exact ⟨by trivial, by trivial⟩
theorem t9_ok {a : Nat} {n : Int} (ha : st[a]? = some (.lst (madeL n))) : Wp (t9 (F (k + 1)) (EL sD x2 (some (.loc a)) x4 x5 x6 x7 x8 x9 x10 x11) st) fun f st' => ∃ x9 x10, f = .nx (EL sD x2 (some (.loc a)) x4 x5 x6 x7 x8 x9 x10 x11) ∧ ∃ g, st' = st ++ g := by
  have hw : enumWk st [.loc a] = some ⟨enumL 0 (madeL n), some (a, .lst (madeL n))⟩ := by
    show (((rdL st a).bind fun ds => (st[a]?).map fun c => Wk.mk ds (some (a, c))).map fun w => Wk.mk (enumL 0 w.its) w.alive) = _
    unfold rdL
    rw [ha]
    rfl
  have hl : (madeL n).length = 41 := by
    unfold madeL
    rw [List.length_map]
    decide +kernel
  unfold t9
  generalize hb : rowBody (F (k + 1)) = bd
  simp only [EL, wp_bind, wp_ok, wp_some, wp_at, Res.bind_ok, Res.bind_stuck, Res.of_some, sSeq, sRet, sRetN, sNext, sBreak, sCont, sIf, sExpr, sAsg, sPar, sPar3, par2, par3, nxO, nxS, sPut, sFor, asg, asgs, m2, mV, mC, mT, mAndT, mOrT, mNotT, mYes, mAnd, mOr, mNot, mIf, aNil, aCons, mTup, mLst, mB, mSl, oNo, oSome, mMt, mSeq, mRng, mEnum, mZip, mCall, mCallK, mNeg, mChain, mLenSet, mLc, List.map_cons, List.map_nil, List.replicate, List.cons_append, List.nil_append, List.getElem?_cons_zero, List.getElem?_cons_succ, List.set_cons_zero, List.set_cons_succ, List.length_cons, List.length_nil, outQ, Nat.sub_zero, Nat.reduceSub, sizeLine_eq, Nat.reduceAdd, Nat.reduceLeDiff, if_true, Option.map_some, seqWk_new, add_ii, sub_ii, int_i, eq_i, ne_i, lt_i, le_i, gt_i, ge_i, eq_s, ne_s, Bool.false_eq_true, if_false, decide_true, decide_false, eq_self, Int.reduceEq, Int.reduceLT, Int.reduceLE, Int.reduceSub, Int.reduceAdd, Int.reduceNeg, Int.reduceMul, or_true, true_or, or_false, false_or, Bool.not_true, Bool.not_false, hw]
  refine wp_for (fun j env st' => ∃ x9 x10, env = (EL sD x2 (some (.loc a)) x4 x5 x6 x7 x8 x9 x10 x11) ∧ ∃ g, st' = st ++ g) ⟨x9, x10, rfl, [], by rw [List.append_nil]⟩ ?_ ?_
  · rintro j d env st' hd ⟨x9, x10, rfl, g, rfl⟩
    obtain ⟨e, he, rfl⟩ := enumL_get (show (enumL 0 (madeL n))[j]? = some d from hd)
    obtain ⟨hj, c, ns, es, rfl, hc, hf⟩ := made_get he
    rw [Nat.zero_add]
    refine ⟨decide_eq_true (get_pre ha), (EL sD x2 (some (.loc a)) x4 x5 x6 x7 x8 (some (.int (j : Nat))) (some (.exo c ns es)) x11), rfl, ?_⟩
    rw [← hb]
    refine wp_seq ((r1_ok (get_pre ha) hl hc hf).imp ?_)
    rintro f s1 ⟨rfl, g1, rfl⟩
    refine (r2_ok hc).imp ?_
    rintro f s2 ⟨rfl, rfl⟩
    exact ⟨_, _, rfl, g ++ g1, List.append_assoc _ _ _⟩
  · rintro env st' ⟨x9, x10, rfl, g, rfl⟩
    exact ⟨decide_eq_true (get_pre ha), x9, x10, rfl, g, rfl⟩
theorem t1_ok (h : Wd (b + 3) st r) : Wp (t1 (F (k + 3)) (EL sD x2 x3 x4 x5 x6 x7 x8 x9 x10 x11) st) fun f st' => ∃ x6 n x8, f = .nx (EL sD x2 x3 x4 x5 (some x6) (some (.int n)) (some x8) x9 x10 x11) ∧ 0 ≤ n ∧ n < 100 ∧ ∃ r', Wd b st' r' := by
  simp only [t1, EL, wp_bind, wp_ok, wp_some, wp_at, Res.bind_ok, Res.bind_stuck, Res.of_some, sSeq, sRet, sRetN, sNext, sBreak, sCont, sIf, sExpr, sAsg, sPar, sPar3, par2, par3, nxO, nxS, sPut, sFor, asg, asgs, m2, mV, mC, mT, mAndT, mOrT, mNotT, mYes, mAnd, mOr, mNot, mIf, aNil, aCons, mTup, mLst, mB, mSl, oNo, oSome, mMt, mSeq, mRng, mEnum, mZip, mCall, mCallK, mNeg, mChain, mLenSet, mLc, List.map_cons, List.map_nil, List.replicate, List.cons_append, List.nil_append, List.getElem?_cons_zero, List.getElem?_cons_succ, List.set_cons_zero, List.set_cons_succ, List.length_cons, List.length_nil, outQ, Nat.sub_zero, Nat.reduceSub, sizeLine_eq, Nat.reduceAdd, Nat.reduceLeDiff, if_true, Option.map_some, seqWk_new, add_ii, sub_ii, int_i, eq_i, ne_i, lt_i, le_i, gt_i, ge_i, eq_s, ne_s, Bool.false_eq_true, if_false, decide_true, decide_false, eq_self, Int.reduceEq, Int.reduceLT, Int.reduceLE, Int.reduceSub, Int.reduceAdd, Int.reduceNeg, Int.reduceMul, or_true, true_or, or_false, false_or, Bool.not_true, Bool.not_false]
  refine (pickN (n := k + 3) (by omega) (h.mono (b' := b + 2 + 1) (by omega)) (by simp) (Nat.le_of_ble_eq_true rfl)).imp fun d s1 ⟨_, g1, h1⟩ => ?_
  try simp only [wp_bind, wp_ok, wp_some, wp_at, Res.bind_ok, Res.bind_stuck, Res.of_some, sSeq, sRet, sRetN, sNext, sBreak, sCont, sIf, sExpr, sAsg, sPar, sPar3, par2, par3, nxO, nxS, sPut, sFor, asg, asgs, m2, mV, mC, mT, mAndT, mOrT, mNotT, mYes, mAnd, mOr, mNot, mIf, aNil, aCons, mTup, mLst, mB, mSl, oNo, oSome, mMt, mSeq, mRng, mEnum, mZip, mCall, mCallK, mNeg, mChain, mLenSet, mLc, List.map_cons, List.map_nil, List.replicate, List.cons_append, List.nil_append, List.getElem?_cons_zero, List.getElem?_cons_succ, List.set_cons_zero, List.set_cons_succ, List.length_cons, List.length_nil, outQ, Nat.sub_zero, Nat.reduceSub, sizeLine_eq, Nat.reduceAdd, Nat.reduceLeDiff, if_true, Option.map_some, seqWk_new, add_ii, sub_ii, int_i, eq_i, ne_i, lt_i, le_i, gt_i, ge_i, eq_s, ne_s, Bool.false_eq_true, if_false, decide_true, decide_false, eq_self, Int.reduceEq, Int.reduceLT, Int.reduceLE, Int.reduceSub, Int.reduceAdd, Int.reduceNeg, Int.reduceMul, or_true, true_or, or_false, false_or, Bool.not_true, Bool.not_false]
  refine (drawF (by omega) (by decide) (by decide) (h1.mono (b' := b + 1 + 1) (by omega))).imp fun d2 s2 ⟨n, e2, p1, p2, g2, h2⟩ => ?_
  subst e2
  try simp only [wp_bind, wp_ok, wp_some, wp_at, Res.bind_ok, Res.bind_stuck, Res.of_some, sSeq, sRet, sRetN, sNext, sBreak, sCont, sIf, sExpr, sAsg, sPar, sPar3, par2, par3, nxO, nxS, sPut, sFor, asg, asgs, m2, mV, mC, mT, mAndT, mOrT, mNotT, mYes, mAnd, mOr, mNot, mIf, aNil, aCons, mTup, mLst, mB, mSl, oNo, oSome, mMt, mSeq, mRng, mEnum, mZip, mCall, mCallK, mNeg, mChain, mLenSet, mLc, List.map_cons, List.map_nil, List.replicate, List.cons_append, List.nil_append, List.getElem?_cons_zero, List.getElem?_cons_succ, List.set_cons_zero, List.set_cons_succ, List.length_cons, List.length_nil, outQ, Nat.sub_zero, Nat.reduceSub, sizeLine_eq, Nat.reduceAdd, Nat.reduceLeDiff, if_true, Option.map_some, seqWk_new, add_ii, sub_ii, int_i, eq_i, ne_i, lt_i, le_i, gt_i, ge_i, eq_s, ne_s, Bool.false_eq_true, if_false, decide_true, decide_false, eq_self, Int.reduceEq, Int.reduceLT, Int.reduceLE, Int.reduceSub, Int.reduceAdd, Int.reduceNeg, Int.reduceMul, or_true, true_or, or_false, false_or, Bool.not_true, Bool.not_false]
  refine (drawF (by omega) (by decide) (by decide) (h2.mono (b' := b + 1) (by omega))).imp fun d3 s3 ⟨m, e3, q1, q2, g3, h3⟩ => ?_
  subst e3
  try simp only [wp_bind, wp_ok, wp_some, wp_at, Res.bind_ok, Res.bind_stuck, Res.of_some, sSeq, sRet, sRetN, sNext, sBreak, sCont, sIf, sExpr, sAsg, sPar, sPar3, par2, par3, nxO, nxS, sPut, sFor, asg, asgs, m2, mV, mC, mT, mAndT, mOrT, mNotT, mYes, mAnd, mOr, mNot, mIf, aNil, aCons, mTup, mLst, mB, mSl, oNo, oSome, mMt, mSeq, mRng, mEnum, mZip, mCall, mCallK, mNeg, mChain, mLenSet, mLc, List.map_cons, List.map_nil, List.replicate, List.cons_append, List.nil_append, List.getElem?_cons_zero, List.getElem?_cons_succ, List.set_cons_zero, List.set_cons_succ, List.length_cons, List.length_nil, outQ, Nat.sub_zero, Nat.reduceSub, sizeLine_eq, Nat.reduceAdd, Nat.reduceLeDiff, if_true, Option.map_some, seqWk_new, add_ii, sub_ii, int_i, eq_i, ne_i, lt_i, le_i, gt_i, ge_i, eq_s, ne_s, Bool.false_eq_true, if_false, decide_true, decide_false, eq_self, Int.reduceEq, Int.reduceLT, Int.reduceLE, Int.reduceSub, Int.reduceAdd, Int.reduceNeg, Int.reduceMul, or_true, true_or, or_false, false_or, Bool.not_true, Bool.not_false]
  exact ⟨d, n, .int m, by trivial, p1, p2, _, h3⟩
theorem made_ok {x6 : D} {n : Int} {rest : SM} {Q : Fl → Store → Prop} (h : ∀ l g, (st ++ g)[l]? = some (.lst (madeL n)) → Wp (rest (EL sD x2 (some (.loc l)) x4 x5 (some x6) (some (.int n)) x8 x9 x10 x11) (st ++ g)) Q) :
    Wp (sSeq (t2 (F k)) (sSeq (t3 (F k)) (sSeq (t4 (F k)) (sSeq (t5 (F k)) (sSeq (t6 (F k)) (sSeq (t7 (F k)) (sSeq (t8 (F k)) rest)))))) (EL sD x2 x3 x4 x5 (some x6) (some (.int n)) x8 x9 x10 x11) st) Q := by
  refine wp_seq ((wp_new (i := 3) (ds := mP n 0 6) (by simp [EL]) (fun s => by kernel_rfl) (by simp [mP]; omega)).imp ?_)
  rintro f s1 ⟨l1, rfl, ⟨g1, rfl⟩, h1⟩
  refine wp_seq ((wp_acc (i := 3) (ds := mP n 6 6) rfl (fun s => by kernel_rfl) h1 (by simp [mP]; omega)).imp ?_)
  rintro f s1 ⟨l2, rfl, ⟨g2, rfl⟩, h2⟩
  refine wp_seq ((wp_acc (i := 3) (ds := mP n 12 6) rfl (fun s => by kernel_rfl) h2 (by simp [mP]; omega)).imp ?_)
  rintro f s1 ⟨l3, rfl, ⟨g3, rfl⟩, h3⟩
  refine wp_seq ((wp_acc (i := 3) (ds := mP n 18 6) rfl (fun s => by kernel_rfl) h3 (by simp [mP]; omega)).imp ?_)
  rintro f s1 ⟨l4, rfl, ⟨g4, rfl⟩, h4⟩
  refine wp_seq ((wp_acc (i := 3) (ds := mP n 24 6) rfl (fun s => by kernel_rfl) h4 (by simp [mP]; omega)).imp ?_)
  rintro f s1 ⟨l5, rfl, ⟨g5, rfl⟩, h5⟩
  refine wp_seq ((wp_acc (i := 3) (ds := mP n 30 6) rfl (fun s => by kernel_rfl) h5 (by simp [mP]; omega)).imp ?_)
  rintro f s1 ⟨l6, rfl, ⟨g6, rfl⟩, h6⟩
  refine wp_seq ((wp_acc (i := 3) (ds := mP n 36 5) rfl (fun s => by kernel_rfl) h6 (by simp [mP]; omega)).imp ?_)
  rintro f s1 ⟨l7, rfl, ⟨g7, rfl⟩, h7⟩
  have e : mP n 0 6 ++ mP n 6 6 ++ mP n 12 6 ++ mP n 18 6 ++ mP n 24 6 ++ mP n 30 6 ++ mP n 36 5 = madeL n := by kernel_rfl
  rw [e] at h7
  have ea : st ++ g1 ++ g2 ++ g3 ++ g4 ++ g5 ++ g6 ++ g7 = st ++ (g1 ++ g2 ++ g3 ++ g4 ++ g5 ++ g6 ++ g7) := by simp only [List.append_assoc]
  rw [ea] at h7 ⊢
  exact h l7 _ h7
theorem base_ok {x6 : D} {rest : SM} {Q : Fl → Store → Prop} (h : ∀ x4 g, Wp (rest (EL sD x2 x3 x4 x5 (some x6) x7 x8 x9 x10 x11) (st ++ g)) Q) : Wp (sSeq (t10 (F (k + 1))) (sSeq (t11 (F (k + 1))) rest) (EL sD x2 x3 x4 x5 (some x6) x7 x8 x9 x10 x11) st) Q := by
  have hb : (("LoanError" : Str)) ∈ clsL := by decide +kernel
  have h0 : ∀ s, t10 (F (k + 1)) (EL sD x2 x3 x4 x5 (some x6) x7 x8 x9 x10 x11) s = .ok (.nx (EL sD x2 x3 (some (.exo "LoanError" [] [])) x5 (some x6) x7 x8 x9 x10 x11)) s := fun s => rfl
  refine wp_seq (Wp.eq (h0 st) ?_)
  refine wp_seq (Wp.imp (Q := fun f st' => f = .nx (EL sD x2 x3 (some (.exo "LoanError" [] [])) x5 (some x6) x7 x8 x9 x10 x11) ∧ ∃ g, st' = st ++ g) ?_ ?_)
  · simp only [t11, EL, wp_bind, wp_ok, wp_some, wp_at, Res.bind_ok, Res.bind_stuck, Res.of_some, sSeq, sRet, sRetN, sNext, sBreak, sCont, sIf, sExpr, sAsg, sPar, sPar3, par2, par3, nxO, nxS, sPut, sFor, asg, asgs, m2, mV, mC, mT, mAndT, mOrT, mNotT, mYes, mAnd, mOr, mNot, mIf, aNil, aCons, mTup, mLst, mB, mSl, oNo, oSome, mMt, mSeq, mRng, mEnum, mZip, mCall, mCallK, mNeg, mChain, mLenSet, mLc, List.map_cons, List.map_nil, List.replicate, List.cons_append, List.nil_append, List.getElem?_cons_zero, List.getElem?_cons_succ, List.set_cons_zero, List.set_cons_succ, List.length_cons, List.length_nil, outQ, Nat.sub_zero, Nat.reduceSub, sizeLine_eq, Nat.reduceAdd, Nat.reduceLeDiff, if_true, Option.map_some, seqWk_new, add_ii, sub_ii, int_i, eq_i, ne_i, lt_i, le_i, gt_i, ge_i, eq_s, ne_s, Bool.false_eq_true, if_false, decide_true, decide_false, eq_self, Int.reduceEq, Int.reduceLT, Int.reduceLE, Int.reduceSub, Int.reduceAdd, Int.reduceNeg, Int.reduceMul, or_true, true_or, or_false, false_or, Bool.not_true, Bool.not_false]
    refine (flags_ok hb).imp ?_
    rintro d s1 ⟨l, g, rfl, rfl, h1⟩
    have hi : inD (.bl true) (.loc l) (st ++ g) = some (.bl false, st ++ g) := by
      show ((rdL (st ++ g) l).bind fun ds => if flatD (.bl true) = true ∧ ds.all flatD = true then some (D.bl (inV (toV (.bl true)) (ds.map toV)), st ++ g) else none) = _
      rw [show rdL (st ++ g) l = some (nmL.map (flg "LoanError")) by unfold rdL; rw [h1]]
      show (if flatD (.bl true) = true ∧ (nmL.map (flg "LoanError")).all flatD = true then some (D.bl (inV (toV (.bl true)) ((nmL.map (flg "LoanError")).map toV)), st ++ g) else none) = _
      have e1 : (nmL.map (flg "LoanError")).all flatD = true := by kernel_rfl
      have e2 : inV (toV (.bl true)) ((nmL.map (flg "LoanError")).map toV) = false := by kernel_rfl
      rw [if_pos ⟨rfl, e1⟩, e2]
    have h2 : isxB subT [.exo "LoanError" [] [], .ty "ValueError"] (st ++ g) = some (.bl true, st ++ g) := isx_ve hb
    have h3 : isxB subT [.exo "ValueError" [] [], .glo "LoanError"] (st ++ g) = some (.bl false, st ++ g) := by kernel_rfl
    simp only [wp_bind, wp_ok, wp_some, wp_at, Res.bind_ok, Res.bind_stuck, Res.of_some, sSeq, sRet, sRetN, sNext, sBreak, sCont, sIf, sExpr, sAsg, sPar, sPar3, par2, par3, nxO, nxS, sPut, sFor, asg, asgs, m2, mV, mC, mT, mAndT, mOrT, mNotT, mYes, mAnd, mOr, mNot, mIf, aNil, aCons, mTup, mLst, mB, mSl, oNo, oSome, mMt, mSeq, mRng, mEnum, mZip, mCall, mCallK, mNeg, mChain, mLenSet, mLc, List.map_cons, List.map_nil, List.replicate, List.cons_append, List.nil_append, List.getElem?_cons_zero, List.getElem?_cons_succ, List.set_cons_zero, List.set_cons_succ, List.length_cons, List.length_nil, outQ, Nat.sub_zero, Nat.reduceSub, sizeLine_eq, Nat.reduceAdd, Nat.reduceLeDiff, if_true, Option.map_some, seqWk_new, add_ii, sub_ii, int_i, eq_i, ne_i, lt_i, le_i, gt_i, ge_i, eq_s, ne_s, Bool.false_eq_true, if_false, decide_true, decide_false, eq_self, Int.reduceEq, Int.reduceLT, Int.reduceLE, Int.reduceSub, Int.reduceAdd, Int.reduceNeg, Int.reduceMul, or_true, true_or, or_false, false_or, Bool.not_true, Bool.not_false, hi, h2, mNew0, h3]
    exact ⟨by trivial, g, rfl⟩
  · rintro f st' ⟨rfl, g, rfl⟩
    exact h _ g
theorem ne_rep {S : Store} {l m : Nat} {n : Int} (h0 : 0 ≤ n) (h1 : n < 100) (hl : S[l]? = some (.lst (List.replicate 14 (.int n)))) : reprB [.loc l] S = some (.str (PyData.list (List.replicate 14 (PyData.int n))).shown, S) := by
  have hp : ∀ d ∈ List.replicate 14 (D.int n), Pl 0 d = true := fun d hd => by
    rw [(List.mem_replicate.mp hd).2]
    exact decide_eq_true (by omega)
  have e : pyOf S 70 (.loc l) = some (.list (List.replicate 14 (PyData.int n))) := by
    show (rdL S l).bind (fun ds => (pyL (pyOf S 69) ds).map PyData.list) = _
    rw [show rdL S l = some (List.replicate 14 (.int n)) by unfold rdL; rw [hl]]
    show (pyL (pyOf S 69) (List.replicate 14 (.int n))).map PyData.list = _
    rw [pyL_map (g := D.py 0) fun d hd => pyOf_pl (hp d hd) (Nat.zero_le 69), List.map_replicate]
    rfl
  refine repr_of (n := 1) e (lst_ok fun p hp => ?_) (by decide) ?_
  · rw [(List.mem_replicate.mp hp).2]
    exact py_ok (n := 0) (d := .int n) (decide_eq_true (by omega))
  · have hw : (PyData.int n).weight ≤ 40 := by
      simp only [PyData.weight]
      split
      · exact Nat.zero_le _
      · rename_i z
        have hz : n.natAbs ≠ 0 := fun e => z (by rw [Int.natAbs_eq_zero.mp e]; rfl)
        have h1 : n.natAbs < 2 ^ 40 := Nat.lt_trans (show n.natAbs < 100 by omega) (by decide)
        have := (Nat.log2_lt hz).mpr h1
        omega
    generalize (PyData.int n) = p at hw
    rw [PyData.weight]
    simp only [List.replicate, PyData.weightAll]
    omega
theorem told_ok {n : Int} (h0 : 0 ≤ n) (h1 : n < 100) : Wp (sSeq (t12 (F k)) (sSeq (t13 (F k)) (sSeq (t14 (F k)) (t15 (F k)))) (EL sD x2 x3 x4 x5 x6 (some (.int n)) x8 x9 x10 x11) st) fun f st' => ∃ x5, f = .nx (EL sD x2 x3 x4 x5 x6 (some (.int n)) x8 x9 x10 x11) ∧ ∃ g, st' = st ++ g := by
  refine wp_seq ((wp_new (i := 5) (ds := List.replicate 6 (.int n)) (by simp [EL]) (fun s => by kernel_rfl) (by simp)).imp ?_)
  rintro f s1 ⟨l1, rfl, ⟨g1, rfl⟩, h1'⟩
  refine wp_seq ((wp_acc (i := 5) (ds := List.replicate 6 (.int n)) rfl (fun s => by kernel_rfl) h1' (by simp)).imp ?_)
  rintro f s1 ⟨l2, rfl, ⟨g2, rfl⟩, h2⟩
  refine wp_seq ((wp_acc (i := 5) (ds := List.replicate 2 (.int n)) rfl (fun s => by kernel_rfl) h2 (by simp)).imp ?_)
  rintro f s1 ⟨l3, rfl, ⟨g3, rfl⟩, h3⟩
  have e : List.replicate 6 (D.int n) ++ List.replicate 6 (.int n) ++ List.replicate 2 (.int n) = List.replicate 14 (.int n) := rfl
  rw [e] at h3
  generalize hS : st ++ g1 ++ g2 ++ g3 = S at h3 ⊢
  have hr := ne_rep h0 h1 h3 (m := 0)
  obtain ⟨X, hX⟩ : ∃ X, X = List.replicate 14 (D.int n) := ⟨_, rfl⟩
  have hm : mulD (.loc S.length) (.int 14) (S ++ [.lst [.int n]]) = some (.loc (S ++ [Cell.lst [.int n]]).length, S ++ [.lst [.int n]] ++ [.lst X]) := by
    show ((wrL (S ++ [Cell.lst [.int n]]) S.length).bind fun xs => if (-(2 ^ 63) ≤ (14 : Int) ∧ (14 : Int) < 2 ^ 63) ∧ xs.length * (14 : Int).toNat ≤ sizeLine then some (D.loc (S ++ [Cell.lst [.int n]]).length, S ++ [Cell.lst [.int n]] ++ [.lst (List.replicate (14 : Int).toNat xs).flatten]) else none) = _
    rw [show wrL (S ++ [Cell.lst [.int n]]) S.length = some [.int n] by unfold wrL; simp, hX]
    have hc : (-(2 ^ 63) ≤ (14 : Int) ∧ (14 : Int) < 2 ^ 63) ∧ ([D.int n] : List D).length * (14 : Int).toNat ≤ sizeLine := ⟨by decide, by rw [sizeLine_eq]; show 1 * 14 ≤ _; decide⟩
    exact if_pos (e := (none : Option (D × Store))) hc
  have hr2 := ne_rep h0 h1 (S := S ++ [.lst [.int n]] ++ [.lst X]) (l := (S ++ [Cell.lst [.int n]]).length) (m := 0) (by simp [hX])
  generalize (PyData.list (List.replicate 14 (PyData.int n))).shown = sh at hr hr2
  have hz : ([D.int n] : List D).length ≤ 16777216 := by simp
  simp only [t15, EL, wp_bind, wp_ok, wp_some, wp_at, Res.bind_ok, Res.bind_stuck, Res.of_some, sSeq, sRet, sRetN, sNext, sBreak, sCont, sIf, sExpr, sAsg, sPar, sPar3, par2, par3, nxO, nxS, sPut, sFor, asg, asgs, m2, mV, mC, mT, mAndT, mOrT, mNotT, mYes, mAnd, mOr, mNot, mIf, aNil, aCons, mTup, mLst, mB, mSl, oNo, oSome, mMt, mSeq, mRng, mEnum, mZip, mCall, mCallK, mNeg, mChain, mLenSet, mLc, List.map_cons, List.map_nil, List.replicate, List.cons_append, List.nil_append, List.getElem?_cons_zero, List.getElem?_cons_succ, List.set_cons_zero, List.set_cons_succ, List.length_cons, List.length_nil, outQ, Nat.sub_zero, Nat.reduceSub, sizeLine_eq, Nat.reduceAdd, Nat.reduceLeDiff, if_true, Option.map_some, seqWk_new, add_ii, sub_ii, int_i, eq_i, ne_i, lt_i, le_i, gt_i, ge_i, eq_s, ne_s, Bool.false_eq_true, if_false, decide_true, decide_false, eq_self, Int.reduceEq, Int.reduceLT, Int.reduceLE, Int.reduceSub, Int.reduceAdd, Int.reduceNeg, Int.reduceMul, or_true, true_or, or_false, false_or, Bool.not_true, Bool.not_false, hr, hm, hr2, ne_same]
  exact ⟨_, by trivial, g1 ++ g2 ++ g3 ++ [.lst [.int n]] ++ [.lst X], by rw [← hS]; simp only [List.append_assoc]⟩
abbrev TBud : Nat := 3
theorem turn_ok (h : Wd (b + TBud) st r) : Wp (turnBody (F (k + 20)) (EL sD x2 x3 x4 x5 x6 x7 x8 x9 x10 x11) st) fun f st' => ∃ x3 x4 x5 x6 x7 x8 x9 x10, f = .nx (EL sD x2 x3 x4 x5 x6 x7 x8 x9 x10 x11) ∧ ∃ r', Wd b st' r' := by
  refine wp_seq ((t1_ok h).imp ?_)
  rintro f s1 ⟨x6, n, x8, rfl, h0, h1, r1, w1⟩
  refine made_ok fun l g1 hl => ?_
  refine wp_seq ((t9_ok hl).imp ?_)
  rintro f s2 ⟨x9, x10, rfl, g2, rfl⟩
  refine base_ok fun x4 g3 => ?_
  refine (told_ok h0 h1).imp ?_
  rintro f s3 ⟨x5, rfl, g4, rfl⟩
  exact ⟨_, _, _, _, _, _, _, _, rfl, _, (((w1.add g1).add g2).add g3).add g4⟩
theorem turns_ok {ns : List Int} (h : Wd (18 * TBud) st r) : Wp (sFor turnM (.nm 2) (turnBody (F (k + 20))) (EL (scriptD ns) x2 x3 x4 x5 x6 x7 x8 x9 x10 x11) st) fun f st' => ∃ x2 x3 x4 x5 x6 x7 x8 x9 x10 x11, f = .nx (EL (scriptD ns) x2 x3 x4 x5 x6 x7 x8 x9 x10 x11) := by
  obtain ⟨L, hL0, hL⟩ : ∃ L : Int, 0 ≤ L ∧ ∀ s, lenB [scriptD ns] s = some (.int L, s) := ⟨(ns.length : Nat), by omega, fun s => by
    show some (D.int ((ns.map D.int).length : Nat), s) = _
    rw [List.length_map]⟩
  obtain ⟨u, m, hu1, hu2, hm0, hm1⟩ : ∃ u m : Int, (∀ s, minB [.int L, .int 3] s = some (.int u, s)) ∧ 1 + u = m ∧ 0 ≤ m ∧ m ≤ 18 := by
    refine ⟨if 3 < L then 3 else L, _, fun s => rfl, rfl, ?_, ?_⟩
    · split <;> omega
    · split <;> omega
  have er : rngWk [.int m] = some ⟨rngs 0 1 m.toNat, none⟩ := rng1 hm0 (Int.lt_of_le_of_lt hm1 (by decide))
  generalize hb : turnBody (F (k + 20)) = bd
  simp only [turnM, EL, wp_bind, wp_ok, wp_some, wp_at, Res.bind_ok, Res.bind_stuck, Res.of_some, sSeq, sRet, sRetN, sNext, sBreak, sCont, sIf, sExpr, sAsg, sPar, sPar3, par2, par3, nxO, nxS, sPut, sFor, asg, asgs, m2, mV, mC, mT, mAndT, mOrT, mNotT, mYes, mAnd, mOr, mNot, mIf, aNil, aCons, mTup, mLst, mB, mSl, oNo, oSome, mMt, mSeq, mRng, mEnum, mZip, mCall, mCallK, mNeg, mChain, mLenSet, mLc, List.map_cons, List.map_nil, List.replicate, List.cons_append, List.nil_append, List.getElem?_cons_zero, List.getElem?_cons_succ, List.set_cons_zero, List.set_cons_succ, List.length_cons, List.length_nil, outQ, Nat.sub_zero, Nat.reduceSub, sizeLine_eq, Nat.reduceAdd, Nat.reduceLeDiff, if_true, Option.map_some, seqWk_new, add_ii, sub_ii, int_i, eq_i, ne_i, lt_i, le_i, gt_i, ge_i, eq_s, ne_s, Bool.false_eq_true, if_false, decide_true, decide_false, eq_self, Int.reduceEq, Int.reduceLT, Int.reduceLE, Int.reduceSub, Int.reduceAdd, Int.reduceNeg, Int.reduceMul, or_true, true_or, or_false, false_or, Bool.not_true, Bool.not_false, hL, hu1, hu2, er]
  have hl : (rngs 0 1 m.toNat).length = m.toNat := rngs_len
  refine wp_for (fun j env st' => ∃ x2 x3 x4 x5 x6 x7 x8 x9 x10 x11, env = EL (scriptD ns) x2 x3 x4 x5 x6 x7 x8 x9 x10 x11 ∧ ∃ r', Wd ((18 - j) * TBud) st' r') ⟨x2, x3, x4, x5, x6, x7, x8, x9, x10, x11, rfl, r, h⟩ ?_ ?_
  · rintro j d env st' hd ⟨x2, x3, x4, x5, x6, x7, x8, x9, x10, x11, rfl, r', h⟩
    have hj : j < m.toNat := by
      have := (List.getElem?_eq_some_iff.mp hd).1
      rwa [hl] at this
    refine ⟨rfl, EL (scriptD ns) (some d) x3 x4 x5 x6 x7 x8 x9 x10 x11, rfl, ?_⟩
    rw [← hb]
    refine (turn_ok (b := (18 - (j + 1)) * TBud) (h.mono (by
      have e : 18 - j = (18 - (j + 1)) + 1 := by omega
      rw [e, Nat.add_mul, Nat.one_mul]
      exact Nat.le_refl _))).imp ?_
    rintro f s1 ⟨x3, x4, x5, x6, x7, x8, x9, x10, rfl, r2, h2⟩
    exact ⟨_, x3, x4, x5, x6, x7, x8, x9, x10, _, rfl, r2, h2⟩
  · rintro env st' ⟨x2, x3, x4, x5, x6, x7, x8, x9, x10, x11, rfl, r', h⟩
    exact ⟨rfl, x2, x3, x4, x5, x6, x7, x8, x9, x10, x11, rfl⟩
end
theorem law_ok (ns : List Int) (hl : ns.length ≤ 63) : Wp (F 200 .f_law [scriptD ns] []) fun d _ => d = .bl true := by
  rw [e_law]
  rw [wp_def (show [scriptD ns].length = 1 from rfl)]
  rw [b_law_eq]
  refine wp_seq ?_
  refine Wp.imp (Q := fun f st' => f = .nx (EL (scriptD ns) none none none none none none none none none none) ∧ Wd (2 ^ 47) st' []) ?_ ?_
  · simp only [t0, wp_bind, wp_ok, wp_some, wp_at, Res.bind_ok, Res.bind_stuck, Res.of_some, sSeq, sRet, sRetN, sNext, sBreak, sCont, sIf, sExpr, sAsg, sPar, sPar3, par2, par3, nxO, nxS, sPut, sFor, asg, asgs, m2, mV, mC, mT, mAndT, mOrT, mNotT, mYes, mAnd, mOr, mNot, mIf, aNil, aCons, mTup, mLst, mB, mSl, oNo, oSome, mMt, mSeq, mRng, mEnum, mZip, mCall, mCallK, mNeg, mChain, mLenSet, mLc, List.map_cons, List.map_nil, List.replicate, List.cons_append, List.nil_append, List.getElem?_cons_zero, List.getElem?_cons_succ, List.set_cons_zero, List.set_cons_succ, List.length_cons, List.length_nil, outQ, Nat.sub_zero, Nat.reduceSub, sizeLine_eq, Nat.reduceAdd, Nat.reduceLeDiff, if_true, Option.map_some, seqWk_new, add_ii, sub_ii, int_i, eq_i, ne_i, lt_i, le_i, gt_i, ge_i, eq_s, ne_s, Bool.false_eq_true, if_false, decide_true, decide_false, eq_self, Int.reduceEq, Int.reduceLT, Int.reduceLE, Int.reduceSub, Int.reduceAdd, Int.reduceNeg, Int.reduceMul, or_true, true_or, or_false, false_or, Bool.not_true, Bool.not_false]
    refine Wp.imp (r := F 199 .f__law_begun [scriptD ns] []) (Q := fun d st => d = .loc 2 ∧ Wd (2 ^ 47) st []) ?_ ?_
    · rw [e__law_begun]
      exact begun_ok hl
    · rintro d st ⟨rfl, h⟩
      exact ⟨by trivial, h⟩
  rintro f st ⟨rfl, h⟩
  refine wp_seq ((turns_ok (k := 179) (ns := ns) (h.mono (by decide))).imp ?_)
  rintro f st2 ⟨x2, x3, x4, x5, x6, x7, x8, x9, x10, x11, rfl⟩
  simp only [uR, wp_bind, wp_ok, wp_some, wp_at, Res.bind_ok, Res.bind_stuck, Res.of_some, sSeq, sRet, sRetN, sNext, sBreak, sCont, sIf, sExpr, sAsg, sPar, sPar3, par2, par3, nxO, nxS, sPut, sFor, asg, asgs, m2, mV, mC, mT, mAndT, mOrT, mNotT, mYes, mAnd, mOr, mNot, mIf, aNil, aCons, mTup, mLst, mB, mSl, oNo, oSome, mMt, mSeq, mRng, mEnum, mZip, mCall, mCallK, mNeg, mChain, mLenSet, mLc, List.map_cons, List.map_nil, List.replicate, List.cons_append, List.nil_append, List.getElem?_cons_zero, List.getElem?_cons_succ, List.set_cons_zero, List.set_cons_succ, List.length_cons, List.length_nil, outQ, Nat.sub_zero, Nat.reduceSub, sizeLine_eq, Nat.reduceAdd, Nat.reduceLeDiff, if_true, Option.map_some, seqWk_new, add_ii, sub_ii, int_i, eq_i, ne_i, lt_i, le_i, gt_i, ge_i, eq_s, ne_s, Bool.false_eq_true, if_false, decide_true, decide_false, eq_self, Int.reduceEq, Int.reduceLT, Int.reduceLE, Int.reduceSub, Int.reduceAdd, Int.reduceNeg, Int.reduceMul, or_true, true_or, or_false, false_or, Bool.not_true, Bool.not_false]
theorem law_true (ns : List Int) (hl : ns.length ≤ 63) : ∃ st, F 200 .f_law [scriptD ns] [] = .ok (.bl true) st := by
  obtain ⟨d, st, e, h⟩ := wp_ex.mp (law_ok ns hl)
  exact ⟨st, by rw [e, h]⟩
end K00
-- K00cls
set_option Elab.async false
set_option linter.all false
set_option maxRecDepth 100000
set_option maxHeartbeats 4000000
namespace K00
open PySem PySem.Spec PyProof.Rows L2 PM PMI
/-! ### an __init__ by its parts -/
structure InP where
  msg : Str
  p0 : Pos
  p1 : Pos
  p2 : Pos
  p3 : Pos
  p4 : Pos
  p5 : Pos
  q0 : Pos
  q1 : Pos
  q2 : Pos
  q3 : Pos
  j : Nat
def InP.body (p : InP) (fld : Str) : List Stmt := inBody p.msg fld p.p0 p.p1 p.p2 p.p3 p.p4 p.p5 p.q0 p.q1 p.q2 p.q3 p.j
def getIn : List Stmt → InP
  | [.Expr (.Call (.Attribute (.Call (.Name _ p0) _ _ p1) _ p2) [.Constant (.str msg) j p3] _ p4) p5, .Assign [.Attribute (.Name _ q0) _ q1] (.Name _ q2) q3] => ⟨msg, p0, p1, p2, p3, p4, p5, q0, q1, q2, q3, j⟩
  | _ => ⟨"", ⟨0, 0, 0, 0⟩, ⟨0, 0, 0, 0⟩, ⟨0, 0, 0, 0⟩, ⟨0, 0, 0, 0⟩, ⟨0, 0, 0, 0⟩, ⟨0, 0, 0, 0⟩, ⟨0, 0, 0, 0⟩, ⟨0, 0, 0, 0⟩, ⟨0, 0, 0, 0⟩, ⟨0, 0, 0, 0⟩, 0⟩
def inScope (fld : Str) : Scope := { kind := .function, names := [("self", .local), (fld, .local), ("__class__", .free), ("super", .globalImplicit)], isGenerator := false, isCoroutine := false, more := [] }
section
variable {fld qual msg : Str} {L fI cc : Addr} {cda : Value} {p0 p1 p2 p3 p4 p5 q0 q1 q2 q3 : Pos} {j : Nat}
theorem in_inter : interactive (PySem.W.ksEnv qual (inScope fld) L fI cda cc) = false := rfl
theorem in_s1 {env : PySem.Env} : swapsWith (.Call (.Attribute (.Call (.Name "super" p0) [] [] p1) "__init__" p2) [.Constant (.str msg) j p3] [] p4) none p5.line env = pure false := rfl
theorem in_s2 {env : PySem.Env} : swapsWith (.Name fld q2) (some (.Attribute (.Name "self" q0) fld q1)) q3.line env = pure false := rfl
theorem in_pos {few : Bool} {o : Expr} {env : PySem.Env} (h : (p2.endLine == p4.line) = true) : methodCallPos few o env p2 p4 = pure p4 := by
  unfold methodCallPos
  rw [h, Bool.or_true]
  rfl
theorem in_ev (h : (p2.endLine == p4.line) = true) (env : PySem.Env) : ∃ pl : Sem Bool, eval (.Call (.Attribute (.Call (.Name "super" p0) [] [] p1) "__init__" p2) [.Constant (.str msg) j p3] [] p4) env = (do
      let ov ← attributeBase (.Call (.Name "super" p0) [] [] p1) "__init__" env (eval (.Call (.Name "super" p0) [] [] p1) env)
      standAt p2.atName
      let (f, first) ← holding [ov] (getMethod ov "__init__" pl)
      callWith p4 f first (backTo p4 (starEach [.Constant (.str msg) j p3] env)) []) := by
  refine ⟨(do return (← importBound (.Call (.Name "super" p0) [] [] p1) env).getD true), ?_⟩
  show (do
    let ov ← attributeBase (.Call (.Name "super" p0) [] [] p1) "__init__" env (eval (.Call (.Name "super" p0) [] [] p1) env)
    standAt p2.atName
    methodCall (.Call (.Name "super" p0) [] [] p1) "__init__" p2 p4 env ov 1 (backTo p4 (starEach [.Constant (.str msg) j p3] env)) []) = _
  unfold methodCall
  rw [in_pos h]
  rfl
end
/-! ### what is asked of the heap's part -/
def fileB (K : PySem.W.Frag) (file : Str) (cda : Addr) : Bool := match K.lookup cda with
  | some ⟨_, _, .fields vs, _⟩ => (match vs[2]? with
    | some (Value.str f _) => file == f
    | _ => false)
  | _ => false
def cellB (K : PySem.W.Frag) (C cc : Addr) : Bool := match K.lookup cc with
  | some ⟨_, _, .cell (some (.ref D)), _⟩ => decide (D = C)
  | _ => false
def fnB (K : PySem.W.Frag) (C : Addr) (file qual : Str) (fI : Addr) : Bool := match K.lookup fI with
  | some ⟨_, _, .func fd, _⟩ => (match fd.defaults, fd.kwdefaults, fd.code, fd.closure with
    | .none, .none, .ref cda, [(n, cc)] => decide (n = "__class__") && (PySem.W.codeIn K (.ref cda) qual && (fileB K file cda && cellB K C cc))
    | _, _, _, _ => false)
  | _ => false
def fnM (K : PySem.W.Frag) (fI : Addr) : He.FnW := match K.lookup fI with
  | some ⟨_, _, .func fd, _⟩ => some (fd.name, fd.qualname, fd.params, fd.body, fd.scope, fd.globals, [], fd.builtins)
  | _ => none
def valM (qual : Str) (s : Stmt) : He.FnW := some ("__init__", qual, defArgs s, .stmts (defBody s), defScope s, mainGlobals, [], builtinsNs)
section
variable {K : PySem.W.Frag} {C cda cc fI : Addr} {file qual fld : Str} {s : Stmt}
theorem file_ok (h : fileB K file cda = true) : ∃ ccl cdd vs ccs f tf, K.lookup cda = some ⟨ccl, cdd, .fields vs, ccs⟩ ∧ vs[2]? = some (.str f tf) ∧ (file == f) = true := by
  unfold fileB at h
  split at h
  · rename_i a b vs c e
    split at h
    · rename_i f t e2
      exact ⟨_, _, _, _, _, _, e, e2, h⟩
    · cases h
  · cases h
theorem cell_ok (h : cellB K C cc = true) : ∃ cl cld csl, K.lookup cc = some ⟨cl, cld, .cell (some (.ref C)), csl⟩ := by
  unfold cellB at h
  split at h
  · rename_i a b D c e
    obtain rfl := of_decide_eq_true h
    exact ⟨_, _, _, e⟩
  · cases h
theorem fn_of (hB : fnB K C file qual fI = true) (hD : fnM K fI = valM qual s) : ∃ (cc cda : Addr) (doc pm ct oc : Value) (an od : Option Addr) (osl : Array (Option Value)),
    K.lookup fI = some ⟨oc, od, .func (PySem.W.ksFn "__init__" qual (defArgs s) (defBody s) (defScope s) .none .none doc pm an (.ref cda) ct cc), osl⟩ ∧ PySem.W.codeIn K (.ref cda) qual = true ∧ fileB K file cda = true ∧ cellB K C cc = true := by
  unfold fnB at hB
  unfold fnM at hD
  cases q : K.lookup fI with
  | none =>
    rw [q] at hB
    cases hB
  | some o =>
    obtain ⟨oc, od, dt, osl⟩ := o
    rw [q] at hB hD
    cases dt with
    | func fd =>
      obtain ⟨n1, n2, n3, n4, n5, n6, n7, n8, n9, n10, n11, n12, n13, n14, n15⟩ := fd
      have e2 : (some (n1, n2, n3, n4, n5, n6, [], n15) : He.FnW) = some (("__init__" : Str), qual, defArgs s, .stmts (defBody s), defScope s, mainGlobals, [], builtinsNs) := hD
      simp only [Option.some.injEq, Prod.mk.injEq] at e2
      obtain ⟨h1, h2, h3, h4, h5, h6, h7, h8⟩ := e2
      subst h1 h2 h3 h4 h5 h6 h8
      dsimp only at hB
      split at hB
      · rename_i cda n cc
        obtain ⟨k1, k2⟩ := He.ba hB
        obtain ⟨k3, k4⟩ := He.ba k2
        obtain ⟨k5, k6⟩ := He.ba k4
        obtain rfl := of_decide_eq_true k1
        exact ⟨_, _, _, _, _, _, _, _, _, rfl, k3, k5, k6⟩
      · cases hB
    | _ => cases hB
def oexB (K : PySem.W.Frag) (C : Addr) : Bool := match K.lookup C with
  | some ⟨.type "type", _, .cls cd, sl⟩ => (match cd.mro, sl.toList with
    | .ref C' :: bm, [_, _, _, _, some (.builtin n), _] => decide (C' = C) && (decide (n = "ValueError.__new__") && (!cd.hasDel && (cd.hasDict && PySem.HandSPX.refsVE bm)))
    | _, _ => false)
  | _ => false
theorem oex_cls (h : oexB K C = true) : ∃ nm q N bs bm sn sub ab col dd k0 k1 k2 k3 k5, K.lookup C = some (excClassObj nm q C N bs bm true sn sub ab col dd k0 k1 k2 k3 k5 "ValueError.__new__") ∧ PySem.HandSPX.refsVE bm = true := by
  unfold oexB at h
  split at h
  · rename_i dd cd sl ho
    split at h
    · rename_i C' bm k0 k1 k2 k3 n k5 hm hs
      obtain ⟨h1, h⟩ := He.ba h
      obtain ⟨h2, h⟩ := He.ba h
      obtain ⟨h3, h⟩ := He.ba h
      obtain ⟨h4, h5⟩ := He.ba h
      obtain rfl := of_decide_eq_true h1
      obtain rfl := of_decide_eq_true h2
      obtain ⟨nm, bs, mro, ns, qn, hd, sn, sub, ab, col, del⟩ := cd
      have hdel : del = false := by
        cases del
        · rfl
        · cases h3
      dsimp only at hm h4
      subst hm hdel h4
      have hsl : sl = #[k0, k1, k2, k3, some (.builtin "ValueError.__new__"), k5] := by
        obtain ⟨l⟩ := sl
        simp only at hs
        rw [hs]
      subst hsl
      exact ⟨nm, qn, ns, bs, bm, sn, sub, ab, col, dd, k0, k1, k2, k3, k5, ho, h5⟩
    · cases h
  · cases h
def inB (K : PySem.W.Frag) (C : Addr) (file qual fld : Str) : Bool := PySem.W.excInitIn K C veMro "ValueError.__new__" && ((PySem.W.clsIn K C).any (fun cd => PySem.HandSPX.refsVE cd.mro && cd.hasDict) && (decide (PySem.W.mroIn K C (.ref C) = some true) &&
  (He.eqO (PySem.W.ks_superIn K C C "__init__") (some (some (.builtin "ValueError.__init__"))) && (decide (PySem.W.subIn K (.ref C) (.type "ValueError") = some true) && (He.eqO (PySem.W.nsIn K cStatics "thirdparty.any") (some none) &&
  (He.eqO (PySem.W.findIn K (.ref C) "__setattr__") (some (some (.builtin "object.__setattr__"))) && (He.eqO (PySem.W.findIn K (.ref C) fld) (some none) && (oexB K C && (decide (PySem.W.subIn K (.ref C) (.type "BaseException") = some true) &&
  (decide (PySem.W.typeIn K (.ref C) = some (.type "type")) && (PySem.W.keepIn K (.ref C) && (He.eqO (PySem.W.findIn K (.ref C) "__init__") (some (some (.ref (He.ma K C "__init__")))) && (decide (PySem.W.typeIn K (.ref (He.ma K C "__init__")) = some (.type "function")) &&
  (fnB K C file qual (He.ma K C "__init__") && xfB K C))))))))))))))
/-- what the text must be -/
structure InT (s : Stmt) (qual fld : Str) : Prop where
  body : defBody s = (getIn (defBody s)).body fld
  scope : defScope s = inScope fld
  head : ∃ ar, ((defArgs s).posonlyargs ++ (defArgs s).args).head? = some ar ∧ ar.arg = "self"
  b1 : ∀ (doc pm ct cda v : Value) (an : Option Addr) (cc e : Addr), bindArgs (PySem.W.ksFn "__init__" qual (defArgs s) (defBody s) (defScope s) .none .none doc pm an cda ct cc) ⟨[.ref e, v], []⟩ = pure [(("self" : Str), Value.ref e), (fld, v)]
  b2 : ∀ (doc pm ct cda v : Value) (an : Option Addr) (cc e : Addr), bindArgs (PySem.W.ksFn "__init__" qual (defArgs s) (defBody s) (defScope s) .none .none doc pm an cda ct cc) ⟨[.ref e], [(fld, v)]⟩ = pure [(("self" : Str), Value.ref e), (fld, v)]
  l1 : (inScope fld).names.lookup fld = some .local
  l2 : (inScope fld).names.lookup ("super" : Str) = some .globalImplicit
  l3 : (inScope fld).names.lookup ("__class__" : Str) = some .free
  n1 : (fld == ("self" : Str)) = false
  n2 : (fld == ("__debug__" : Str)) = false
  ln : ((getIn (defBody s)).p2.endLine == (getIn (defBody s)).p4.line) = true
theorem inF_of {prog : Program} (T : InT s qual fld) (hB : inB K C file qual fld = true) (hD : fnM K (He.ma K C "__init__") = valM qual s) (hfile : (prog.main.file : Str) = file) (htop : (prog.main.scope.names.lookup ("super" : Str)).isSome = false) :
    InF prog K C fld ∧ XfC K C ∧ PySem.W.findIn K (.ref C) fld = some none := by
  obtain ⟨a1, hB⟩ := He.ba hB
  obtain ⟨a2, hB⟩ := He.ba hB
  obtain ⟨a3, hB⟩ := He.ba hB
  obtain ⟨a4, hB⟩ := He.ba hB
  obtain ⟨a5, hB⟩ := He.ba hB
  obtain ⟨a6, hB⟩ := He.ba hB
  obtain ⟨a7, hB⟩ := He.ba hB
  obtain ⟨a8, hB⟩ := He.ba hB
  obtain ⟨a9, hB⟩ := He.ba hB
  obtain ⟨a10, hB⟩ := He.ba hB
  obtain ⟨a11, hB⟩ := He.ba hB
  obtain ⟨a12, hB⟩ := He.ba hB
  obtain ⟨a13, hB⟩ := He.ba hB
  obtain ⟨a14, hB⟩ := He.ba hB
  obtain ⟨a15, a16⟩ := He.ba hB
  obtain ⟨cd, c1, c2⟩ := PySem.W.any_some a2
  obtain ⟨c3, c4⟩ := He.ba c2
  obtain ⟨cc, cda, doc, pm, ct, oc, an, od, osl, f1, f2, f3, f4⟩ := fn_of a15 hD
  obtain ⟨ccl, cdd, vs, ccs, f, tf, g1, g2, g3⟩ := file_ok f3
  obtain ⟨cl, cld, csl, h1⟩ := cell_ok f4
  obtain ⟨ar, r1, r2⟩ := T.head
  refine ⟨⟨⟨a1, ⟨cd, c1, c3, c4⟩, of_decide_eq_true a3, He.eqO_ok a4, of_decide_eq_true a5, He.eqO_ok a6, He.eqO_ok a7, He.eqO_ok a8⟩, ⟨oex_cls a9, He.eqO_ok a7, of_decide_eq_true a10, of_decide_eq_true a11, a12⟩, ?_⟩, xfB_ok a16, He.eqO_ok a8⟩
  obtain ⟨p, hp⟩ : ∃ p, p = getIn (defBody s) := ⟨_, rfl⟩
  have tb := T.body
  rw [← hp] at tb
  have b1 := T.b1
  have b2 := T.b2
  rw [T.scope] at f1 b1 b2
  rw [tb] at f1 b1 b2
  refine ⟨He.ma K C "__init__", cc, cda, p.msg, qual, f, defArgs s, inScope fld, .none, .none, doc, pm, ct, oc, ccl, cl, an, od, cdd, cld, osl, ccs, csl, vs, tf, ar, p.p0, p.p1, p.p2, p.p3, p.p4, p.p5, p.q0, p.q1, p.q2, p.q3, p.j, He.eqO_ok a13, of_decide_eq_true a14, f1, f2, fun s e v => .of_eq (b1 _ _ _ _ _ _ _ _), fun s e v => .of_eq (b2 _ _ _ _ _ _ _ _), by rfl, T.l1, T.n1, T.l2, T.l3, ?_, rfl, rfl, rfl, r1, r2, g1, g2, by rw [hfile]; exact g3, htop, h1, T.n2, fun L => in_inter, fun L => in_s1, fun L => in_s2, fun env => in_ev (by rw [hp]; exact T.ln) env⟩
  intro x hx
  simp only [inScope, List.mem_cons, List.not_mem_nil, or_false] at hx
  rcases hx with e | e | e | e <;> subst e <;> intro z <;> cases z
end
end K00
-- K00hk
set_option Elab.async false
set_option linter.all false
set_option maxRecDepth 100000
set_option maxHeartbeats 4000000
namespace K00
open PySem PySem.Spec PyProof.Rows L2 PM PMI
/-! ### the classes, by the heap's part -/
def initOf (i : Nat) : Stmt := match top i with
  | .ClassDef _ _ _ (s :: _) _ _ _ _ _ _ _ => s
  | _ => .Pass ⟨0, 0, 0, 0⟩
abbrev PR : Program := PySem.Challenge.rw_lentandback_k00_errors_apart.prog
def fileS : Str := PR.main.file
def plainL : List Str := ("LoanError" : Str) :: ("BadArguments" : Str) :: ("BadBook" : Str) :: ("BadCase" : Str) :: ("BadCount" : Str) :: ("BadDeal" : Str) :: ("BadEdit" : Str) :: ("BadFunction" : Str) :: ("BadHeapState" : Str) :: ("BadLaying" : Str) :: ("BadName" : Str) :: ("BadNumber" : Str) :: ("BadObject" : Str) :: ("BadPath" : Str) :: ("BadPlace" : Str) :: ("BadPlainState" : Str) :: ("BadProgram" : Str) :: ("BadRoad" : Str) :: ("BadRun" : Str) :: ("BadSum" : Str) :: ("BadThing" : Str) :: ("BadType" : Str) :: ("BadValue" : Str) :: ("BadWeaving" : Str) :: ("NoFunction" : Str) :: ("NoPath" : Str) :: ("NotLet" : Str) :: ("NotSayable" : Str) :: ("NotTyped" : Str) :: ("NothingDone" : Str) :: ("NothingUndone" : Str) :: ("Strayed" : Str) :: ("TooManyRows" : Str) :: ("TooWide" : Str) :: ("Uneditable" : Str) :: []
def inL : List (Str × Str × Str × Nat) := ("BadLink", "BadLink.__init__", "fault", 11) :: ("BadModules", "BadModules.__init__", "fault", 12) :: ("BadRow", "BadRow.__init__", "number", 21) :: ("BadSigns", "BadSigns.__init__", "at", 23) :: ("Broken", "Broken.__init__", "word", 29) :: ("CannotDeal", "CannotDeal.__init__", "word", 30) :: ("Stray", "Stray.__init__", "word", 38) :: []
def supL (c : Str) : List Str := if c = "LoanError" then ["LoanError"] else [c, "LoanError"]
def mroL (K : PySem.W.Frag) (c : Str) : List Value := (supL c).map (fun y => Value.ref (He.ga K y)) ++ veMro
def excB (K : PySem.W.Frag) (C : Addr) : Bool := He.eqO (PySem.W.findIn K (.ref C) "__getattribute__") (some (some (.builtin "BaseException.__getattribute__"))) && (He.eqO (PySem.W.findIn K (.ref C) "__getattr__") (some none) && (decide (PySem.W.subIn K (.ref C) (.type "BaseException") = some true) && (PySem.W.hasDictIn K C && (He.eqO (PySem.W.findIn K (.ref C) "__class__") (some (some (.builtin "object.__class__"))) &&
  (He.eqO (PySem.W.specialIn K (.builtin "object.__class__") "__get__") (some (some (.builtin "getset_descriptor.__get__"))) && (decide (PySem.W.takesIn K (.builtin "object.__class__") = some true) && decide (PySem.W.mroIn K C (.type "object") = some true)))))))
theorem excB_ok {K : PySem.W.Frag} {C : Addr} (h : excB K C = true) : ExcC K C := by
  obtain ⟨h1, h⟩ := He.ba h
  obtain ⟨h2, h⟩ := He.ba h
  obtain ⟨h3, h⟩ := He.ba h
  obtain ⟨h4, h⟩ := He.ba h
  obtain ⟨h5, h⟩ := He.ba h
  obtain ⟨h6, h⟩ := He.ba h
  obtain ⟨h7, h8⟩ := He.ba h
  exact ⟨He.eqO_ok h1, He.eqO_ok h2, of_decide_eq_true h3, h4, He.eqO_ok h5, He.eqO_ok h6, of_decide_eq_true h7, of_decide_eq_true h8⟩
def clsB (K : PySem.W.Frag) (c : Str) : Bool := He.eqO (PySem.W.nsIn K mainGlobals c) (some (some (.ref (He.ga K c)))) && ((PySem.W.clsIn K (He.ga K c)).any (fun cd => decide (cd.mro = mroL K c)) && (decide (PySem.W.typeIn K (.ref (He.ga K c)) = some (.type "type")) &&
  (decide (PySem.W.kitOne K (.ref (He.ga K c)) (.type "ValueError") = some true) && (decide (PySem.W.kitOne K (.type "ValueError") (.ref (He.ga K c)) = some false) && excB K (He.ga K c)))))
def injB (K : PySem.W.Frag) : Bool := clsL.all fun c => clsL.all fun y => (He.ga K c != He.ga K y) || decide (c = y)
def bsB (K : PySem.W.Frag) : Bool := clsL.all (clsB K) && (injB K && (plainL.all (fun c => PySem.W.excIn K (He.ga K c) He.veBase "ValueError.__new__" && PySem.W.keepIn K (.ref (He.ga K c))) && inL.all fun q => inB K (He.ga K q.1) fileS q.2.1 q.2.2.1))
def fnsM (K : PySem.W.Frag) : List He.FnW := inL.map fun q => fnM K (He.ma K (He.ga K q.1) "__init__")
def fnsV : List He.FnW := inL.map fun q => valM q.2.1 (initOf q.2.2.2)
/-! ### the Hook -/
abbrev AlX : Type := He.AlD × Bool × List He.FnW
def asX (g : Addr → Option Obj) : Nat → List Addr
  | 0 => [mainGlobals, cStatics]
  | n + 1 => He.growD g (asX g n)
def obsK (fa : List He.Fa) (fn : List He.DefD) (K : PySem.W.Frag) : AlX := (He.obsD fa fn K, bsB K, fnsM K)
def valK (fn : List He.DefD) : AlX := (He.valD fn, true, fnsV)
def SaysK (fa : List He.Fa) (fn : List He.DefD) (K : PySem.W.Frag) : Prop := obsK fa fn K = valK fn
def obsKG (n : Nat) (fa : List He.Fa) (fn : List He.DefD) (g : Addr → Option Obj) : AlX := obsK fa fn (He.frG g (asX g n))
def hookK (n : Nat) (fa : List He.Fa) (fn : List He.DefD) : PySem.W.Hook where
  α := AlX
  obs := fun s => obsKG n fa fn s.heap.get?
  val := fun _ => valK fn
  says := fun _ h => ∃ K : PySem.W.Frag, K.In h ∧ SaysK fa fn K
  of := fun _ _ e => ⟨_, He.frG_in, e⟩
  keeps := fun _ _ _ ⟨K, hK, c⟩ k => ⟨K, PySem.W.Frag.In.keeps hK k, c⟩
theorem obsKG_eq {n : Nat} {fa : List He.Fa} {fn : List He.DefD} {g : Addr → Option Obj} {s : Shared} (h : ∀ a, g a = s.heap.get? a) : obsKG n fa fn g = (hookK n fa fn).obs s := by
  have e : g = s.heap.get? := funext h
  rw [e] <;> rfl
section
variable {fa : List He.Fa} {fn : List He.DefD} {K : PySem.W.Frag}
theorem SaysK.d (c : SaysK fa fn K) : He.SaysD fa fn K := congrArg (fun z : AlX => z.1) c
theorem SaysK.b (c : SaysK fa fn K) : bsB K = true := congrArg (fun z : AlX => z.2.1) c
theorem SaysK.f (c : SaysK fa fn K) : fnsM K = fnsV := congrArg (fun z : AlX => z.2.2) c
/-! ### isinstance -/
theorem sup_mem {c y : Str} : y ∈ supL c ↔ (y = c ∨ y = "LoanError") := by
  unfold supL
  split
  · rename_i e
    subst e
    simp
  · simp
theorem sub_ok (c : SaysK fa fn K) : SubOk K subT := by
  obtain ⟨h1, h2⟩ := He.ba c.b
  obtain ⟨h2, h3⟩ := He.ba h2
  have hc := fun c (m : c ∈ clsL) => List.all_eq_true.mp h1 c m
  have hi : ∀ c ∈ clsL, ∀ y ∈ clsL, He.ga K c = He.ga K y → c = y := fun c hc y hy e => by
    have h := List.all_eq_true.mp (List.all_eq_true.mp h2 c hc) y hy
    rw [e, bne_self_eq_false, Bool.false_or] at h
    exact of_decide_eq_true h
  have hL : ("LoanError" : Str) ∈ clsL := List.mem_cons_self
  have inv : ∀ {c y : Str} {b : Bool}, subT c y = some b → (c = "ValueError" ∧ ((y = "" ∧ b = true) ∨ (y ≠ "" ∧ y ∈ clsL ∧ b = false))) ∨ (c ≠ "ValueError" ∧ c ∈ clsL ∧ ((y = "" ∧ b = true) ∨ (y ≠ "" ∧ y ∈ clsL ∧ b = decide (y = c ∨ y = "LoanError")))) := fun {c y b} h => by
    unfold subT at h
    by_cases h1 : c = "ValueError"
    · rw [if_pos h1] at h
      by_cases h2 : y = ""
      · rw [if_pos h2] at h
        cases h
        exact .inl ⟨h1, .inl ⟨h2, rfl⟩⟩
      · rw [if_neg h2] at h
        by_cases h3 : y ∈ clsL
        · rw [if_pos h3] at h
          cases h
          exact .inl ⟨h1, .inr ⟨h2, h3, rfl⟩⟩
        · rw [if_neg h3] at h
          cases h
    · rw [if_neg h1] at h
      by_cases h0 : c ∈ clsL
      · rw [if_pos h0] at h
        by_cases h2 : y = ""
        · rw [if_pos h2] at h
          cases h
          exact .inr ⟨h1, h0, .inl ⟨h2, rfl⟩⟩
        · rw [if_neg h2] at h
          by_cases h3 : y ∈ clsL
          · rw [if_pos h3] at h
            cases h
            exact .inr ⟨h1, h0, .inr ⟨h2, h3, rfl⟩⟩
          · rw [if_neg h3] at h
            cases h
      · rw [if_neg h0] at h
        cases h
  refine ⟨fun c y b h => ?_, fun c y b h hy => ?_, fun c b h => ?_⟩
  · rcases inv h with ⟨e, _⟩ | ⟨_, m, _⟩
    · exact .inl e
    · obtain ⟨_, z⟩ := He.ba (hc c m)
      obtain ⟨_, z⟩ := He.ba z
      obtain ⟨_, z⟩ := He.ba z
      obtain ⟨_, z⟩ := He.ba z
      obtain ⟨_, z⟩ := He.ba z
      exact .inr (excB_ok z)
  · rcases inv h with ⟨e, ⟨e2, _⟩ | ⟨_, m, rfl⟩⟩ | ⟨ne, m, ⟨e2, _⟩ | ⟨_, my, rfl⟩⟩
    · exact absurd e2 hy
    · obtain ⟨_, z⟩ := He.ba (hc y m)
      obtain ⟨_, z⟩ := He.ba z
      obtain ⟨_, z⟩ := He.ba z
      obtain ⟨_, z⟩ := He.ba z
      obtain ⟨z, _⟩ := He.ba z
      rw [show clsV K c = .type "ValueError" from if_pos e]
      exact of_decide_eq_true z
    · exact absurd e2 hy
    · rw [show clsV K c = .ref (He.ga K c) from if_neg ne]
      obtain ⟨_, z⟩ := He.ba (hc c m)
      obtain ⟨z, _⟩ := He.ba z
      obtain ⟨cd, k1, k2⟩ := PySem.W.any_some z
      replace k2 : cd.mro = mroL K c := of_decide_eq_true k2
      obtain ⟨_, z⟩ := He.ba (hc y my)
      obtain ⟨z1, z⟩ := He.ba z
      obtain ⟨z2, _⟩ := He.ba z
      obtain ⟨cy, j1, _⟩ := PySem.W.any_some z1
      replace z2 := of_decide_eq_true z2
      unfold PySem.W.kitOne
      by_cases q : c = y
      · subst q
        rw [if_pos (beq_self_eq_true _), decide_eq_true (.inl rfl)]
      · have nq : ¬ ((Value.ref (He.ga K c) == Value.ref (He.ga K y)) = true) := fun e => q (hi c m y my (Value.ref.inj (beq_iff_eq.mp e)))
        rw [if_neg nq]
        show (if ((PySem.W.clsIn K (He.ga K y)).isSome && PySem.W.typeIn K (.ref (He.ga K y)) == some (.type "type")) = true then PySem.W.subIn K (.ref (He.ga K c)) (.ref (He.ga K y)) else none) = _
        rw [j1, z2, if_pos (by rfl)]
        show (PySem.W.clsIn K (He.ga K c)).bind (fun cd => if cd.mro.isEmpty then none else some (cd.mro.contains (.ref (He.ga K y)))) = _
        rw [k1]
        show (if cd.mro.isEmpty then none else some (cd.mro.contains (.ref (He.ga K y)))) = _
        rw [k2]
        have e1 : (mroL K c).isEmpty = false := by
          unfold mroL supL
          split <;> rfl
        rw [e1, if_neg Bool.false_ne_true]
        congr 1
        rw [Bool.eq_iff_iff, List.contains_iff_mem, decide_eq_true_iff]
        unfold mroL
        rw [List.mem_append, List.mem_map, ← sup_mem]
        constructor
        · rintro (⟨x, hx, e⟩ | h)
          · have hx' : x ∈ clsL := by
              rcases sup_mem.mp hx with e | e
              · rw [e]; exact m
              · rw [e]; exact hL
            rw [← hi x hx' y my (Value.ref.inj e)]
            exact hx
          · simp at h
        · intro h
          exact .inl ⟨y, h, rfl⟩
  · rcases inv h with ⟨e, ⟨_, rfl⟩ | ⟨e2, _⟩⟩ | ⟨ne, m, ⟨_, rfl⟩ | ⟨e2, _⟩⟩
    · rw [show clsV K c = .type "ValueError" from if_pos e]
      rfl
    · exact absurd rfl e2
    · rw [show clsV K c = .ref (He.ga K c) from if_neg ne]
      obtain ⟨_, z⟩ := He.ba (hc c m)
      obtain ⟨_, z⟩ := He.ba z
      obtain ⟨_, z⟩ := He.ba z
      obtain ⟨z, _⟩ := He.ba z
      exact of_decide_eq_true z
    · exact absurd rfl e2
/-! ### each class -/
theorem glo_c (c : SaysK fa fn K) {h : Heap} {mg : Str → Option Value} (X : K.In h) (G : h.Ns mainGlobals mg) {x : Str} (m : x ∈ clsL) : mg x = some (.ref (He.ga K x)) := by
  obtain ⟨h1, _⟩ := He.ba c.b
  obtain ⟨z, _⟩ := He.ba (List.all_eq_true.mp h1 x m)
  exact He.glo_ok X G z
theorem plain_c (c : SaysK fa fn K) {x : Str} (m : x ∈ plainL) : PySem.W.excIn K (He.ga K x) He.veBase "ValueError.__new__" = true ∧ PySem.W.keepIn K (.ref (He.ga K x)) = true := by
  obtain ⟨_, h⟩ := He.ba c.b
  obtain ⟨_, h⟩ := He.ba h
  obtain ⟨h, _⟩ := He.ba h
  exact He.ba (List.all_eq_true.mp h x m)
theorem in_c (c : SaysK fa fn K) {i : Nat} {x qual fld : Str} {k : Nat} (m : inL[i]? = some (x, qual, fld, k)) (T : InT (initOf k) qual fld) (htop : (PR.main.scope.names.lookup ("super" : Str)).isSome = false) : InF PR K (He.ga K x) fld ∧ XfC K (He.ga K x) ∧ PySem.W.findIn K (.ref (He.ga K x)) fld = some none := by
  obtain ⟨_, h⟩ := He.ba c.b
  obtain ⟨_, h⟩ := He.ba h
  obtain ⟨_, h⟩ := He.ba h
  have hB := List.all_eq_true.mp h _ (List.mem_of_getElem? m)
  have e : fnsM K = fnsV := c.f
  have e2 : (fnsM K)[i]? = fnsV[i]? := by rw [e]
  unfold fnsM fnsV at e2
  rw [List.getElem?_map, List.getElem?_map, m] at e2
  exact inF_of T hB (Option.some.inj e2) rfl htop
end
theorem no_super : (PR.main.scope.names.lookup ("super" : Str)).isSome = false := by kernel_rfl
theorem t_BadLink : InT (initOf 11) "BadLink.__init__" "fault" := ⟨by kernel_rfl, by kernel_rfl, ⟨_, by rfl, by rfl⟩, fun _ _ _ _ _ _ _ _ => by kernel_rfl, fun _ _ _ _ _ _ _ _ => by kernel_rfl, by rfl, by rfl, by rfl, by decide +kernel, by decide +kernel, by kernel_rfl⟩
theorem t_BadModules : InT (initOf 12) "BadModules.__init__" "fault" := ⟨by kernel_rfl, by kernel_rfl, ⟨_, by rfl, by rfl⟩, fun _ _ _ _ _ _ _ _ => by kernel_rfl, fun _ _ _ _ _ _ _ _ => by kernel_rfl, by rfl, by rfl, by rfl, by decide +kernel, by decide +kernel, by kernel_rfl⟩
theorem t_BadRow : InT (initOf 21) "BadRow.__init__" "number" := ⟨by kernel_rfl, by kernel_rfl, ⟨_, by rfl, by rfl⟩, fun _ _ _ _ _ _ _ _ => by kernel_rfl, fun _ _ _ _ _ _ _ _ => by kernel_rfl, by rfl, by rfl, by rfl, by decide +kernel, by decide +kernel, by kernel_rfl⟩
theorem t_BadSigns : InT (initOf 23) "BadSigns.__init__" "at" := ⟨by kernel_rfl, by kernel_rfl, ⟨_, by rfl, by rfl⟩, fun _ _ _ _ _ _ _ _ => by kernel_rfl, fun _ _ _ _ _ _ _ _ => by kernel_rfl, by rfl, by rfl, by rfl, by decide +kernel, by decide +kernel, by kernel_rfl⟩
theorem t_Broken : InT (initOf 29) "Broken.__init__" "word" := ⟨by kernel_rfl, by kernel_rfl, ⟨_, by rfl, by rfl⟩, fun _ _ _ _ _ _ _ _ => by kernel_rfl, fun _ _ _ _ _ _ _ _ => by kernel_rfl, by rfl, by rfl, by rfl, by decide +kernel, by decide +kernel, by kernel_rfl⟩
theorem t_CannotDeal : InT (initOf 30) "CannotDeal.__init__" "word" := ⟨by kernel_rfl, by kernel_rfl, ⟨_, by rfl, by rfl⟩, fun _ _ _ _ _ _ _ _ => by kernel_rfl, fun _ _ _ _ _ _ _ _ => by kernel_rfl, by rfl, by rfl, by rfl, by decide +kernel, by decide +kernel, by kernel_rfl⟩
theorem t_Stray : InT (initOf 38) "Stray.__init__" "word" := ⟨by kernel_rfl, by kernel_rfl, ⟨_, by rfl, by rfl⟩, fun _ _ _ _ _ _ _ _ => by kernel_rfl, fun _ _ _ _ _ _ _ _ => by kernel_rfl, by rfl, by rfl, by rfl, by decide +kernel, by decide +kernel, by kernel_rfl⟩
theorem cls_of {fa : List He.Fa} {fn : List He.DefD} {K : PySem.W.Frag} (c : SaysK fa fn K) {h : Heap} {mg : Str → Option Value} (X : K.In h) (G : h.Ns mainGlobals mg) : Cls PR K mg where
  sub := sub_ok c
  mg_LoanError := glo_c c X G (by decide +kernel)
  ex_LoanError := (plain_c c (by decide +kernel)).1
  kc_LoanError := (plain_c c (by decide +kernel)).2
  mg_BadArguments := glo_c c X G (by decide +kernel)
  ex_BadArguments := (plain_c c (by decide +kernel)).1
  kc_BadArguments := (plain_c c (by decide +kernel)).2
  mg_BadBook := glo_c c X G (by decide +kernel)
  ex_BadBook := (plain_c c (by decide +kernel)).1
  kc_BadBook := (plain_c c (by decide +kernel)).2
  mg_BadCase := glo_c c X G (by decide +kernel)
  ex_BadCase := (plain_c c (by decide +kernel)).1
  kc_BadCase := (plain_c c (by decide +kernel)).2
  mg_BadCount := glo_c c X G (by decide +kernel)
  ex_BadCount := (plain_c c (by decide +kernel)).1
  kc_BadCount := (plain_c c (by decide +kernel)).2
  mg_BadDeal := glo_c c X G (by decide +kernel)
  ex_BadDeal := (plain_c c (by decide +kernel)).1
  kc_BadDeal := (plain_c c (by decide +kernel)).2
  mg_BadEdit := glo_c c X G (by decide +kernel)
  ex_BadEdit := (plain_c c (by decide +kernel)).1
  kc_BadEdit := (plain_c c (by decide +kernel)).2
  mg_BadFunction := glo_c c X G (by decide +kernel)
  ex_BadFunction := (plain_c c (by decide +kernel)).1
  kc_BadFunction := (plain_c c (by decide +kernel)).2
  mg_BadHeapState := glo_c c X G (by decide +kernel)
  ex_BadHeapState := (plain_c c (by decide +kernel)).1
  kc_BadHeapState := (plain_c c (by decide +kernel)).2
  mg_BadLaying := glo_c c X G (by decide +kernel)
  ex_BadLaying := (plain_c c (by decide +kernel)).1
  kc_BadLaying := (plain_c c (by decide +kernel)).2
  mg_BadLink := glo_c c X G (by decide +kernel)
  in_BadLink := (in_c c (i := 0) rfl t_BadLink no_super).1
  xf_BadLink := (in_c c (i := 0) rfl t_BadLink no_super).2.1
  no_BadLink := (in_c c (i := 0) rfl t_BadLink no_super).2.2
  mg_BadModules := glo_c c X G (by decide +kernel)
  in_BadModules := (in_c c (i := 1) rfl t_BadModules no_super).1
  xf_BadModules := (in_c c (i := 1) rfl t_BadModules no_super).2.1
  no_BadModules := (in_c c (i := 1) rfl t_BadModules no_super).2.2
  mg_BadName := glo_c c X G (by decide +kernel)
  ex_BadName := (plain_c c (by decide +kernel)).1
  kc_BadName := (plain_c c (by decide +kernel)).2
  mg_BadNumber := glo_c c X G (by decide +kernel)
  ex_BadNumber := (plain_c c (by decide +kernel)).1
  kc_BadNumber := (plain_c c (by decide +kernel)).2
  mg_BadObject := glo_c c X G (by decide +kernel)
  ex_BadObject := (plain_c c (by decide +kernel)).1
  kc_BadObject := (plain_c c (by decide +kernel)).2
  mg_BadPath := glo_c c X G (by decide +kernel)
  ex_BadPath := (plain_c c (by decide +kernel)).1
  kc_BadPath := (plain_c c (by decide +kernel)).2
  mg_BadPlace := glo_c c X G (by decide +kernel)
  ex_BadPlace := (plain_c c (by decide +kernel)).1
  kc_BadPlace := (plain_c c (by decide +kernel)).2
  mg_BadPlainState := glo_c c X G (by decide +kernel)
  ex_BadPlainState := (plain_c c (by decide +kernel)).1
  kc_BadPlainState := (plain_c c (by decide +kernel)).2
  mg_BadProgram := glo_c c X G (by decide +kernel)
  ex_BadProgram := (plain_c c (by decide +kernel)).1
  kc_BadProgram := (plain_c c (by decide +kernel)).2
  mg_BadRoad := glo_c c X G (by decide +kernel)
  ex_BadRoad := (plain_c c (by decide +kernel)).1
  kc_BadRoad := (plain_c c (by decide +kernel)).2
  mg_BadRow := glo_c c X G (by decide +kernel)
  in_BadRow := (in_c c (i := 2) rfl t_BadRow no_super).1
  xf_BadRow := (in_c c (i := 2) rfl t_BadRow no_super).2.1
  no_BadRow := (in_c c (i := 2) rfl t_BadRow no_super).2.2
  mg_BadRun := glo_c c X G (by decide +kernel)
  ex_BadRun := (plain_c c (by decide +kernel)).1
  kc_BadRun := (plain_c c (by decide +kernel)).2
  mg_BadSigns := glo_c c X G (by decide +kernel)
  in_BadSigns := (in_c c (i := 3) rfl t_BadSigns no_super).1
  xf_BadSigns := (in_c c (i := 3) rfl t_BadSigns no_super).2.1
  no_BadSigns := (in_c c (i := 3) rfl t_BadSigns no_super).2.2
  mg_BadSum := glo_c c X G (by decide +kernel)
  ex_BadSum := (plain_c c (by decide +kernel)).1
  kc_BadSum := (plain_c c (by decide +kernel)).2
  mg_BadThing := glo_c c X G (by decide +kernel)
  ex_BadThing := (plain_c c (by decide +kernel)).1
  kc_BadThing := (plain_c c (by decide +kernel)).2
  mg_BadType := glo_c c X G (by decide +kernel)
  ex_BadType := (plain_c c (by decide +kernel)).1
  kc_BadType := (plain_c c (by decide +kernel)).2
  mg_BadValue := glo_c c X G (by decide +kernel)
  ex_BadValue := (plain_c c (by decide +kernel)).1
  kc_BadValue := (plain_c c (by decide +kernel)).2
  mg_BadWeaving := glo_c c X G (by decide +kernel)
  ex_BadWeaving := (plain_c c (by decide +kernel)).1
  kc_BadWeaving := (plain_c c (by decide +kernel)).2
  mg_Broken := glo_c c X G (by decide +kernel)
  in_Broken := (in_c c (i := 4) rfl t_Broken no_super).1
  xf_Broken := (in_c c (i := 4) rfl t_Broken no_super).2.1
  no_Broken := (in_c c (i := 4) rfl t_Broken no_super).2.2
  mg_CannotDeal := glo_c c X G (by decide +kernel)
  in_CannotDeal := (in_c c (i := 5) rfl t_CannotDeal no_super).1
  xf_CannotDeal := (in_c c (i := 5) rfl t_CannotDeal no_super).2.1
  no_CannotDeal := (in_c c (i := 5) rfl t_CannotDeal no_super).2.2
  mg_NoFunction := glo_c c X G (by decide +kernel)
  ex_NoFunction := (plain_c c (by decide +kernel)).1
  kc_NoFunction := (plain_c c (by decide +kernel)).2
  mg_NoPath := glo_c c X G (by decide +kernel)
  ex_NoPath := (plain_c c (by decide +kernel)).1
  kc_NoPath := (plain_c c (by decide +kernel)).2
  mg_NotLet := glo_c c X G (by decide +kernel)
  ex_NotLet := (plain_c c (by decide +kernel)).1
  kc_NotLet := (plain_c c (by decide +kernel)).2
  mg_NotSayable := glo_c c X G (by decide +kernel)
  ex_NotSayable := (plain_c c (by decide +kernel)).1
  kc_NotSayable := (plain_c c (by decide +kernel)).2
  mg_NotTyped := glo_c c X G (by decide +kernel)
  ex_NotTyped := (plain_c c (by decide +kernel)).1
  kc_NotTyped := (plain_c c (by decide +kernel)).2
  mg_NothingDone := glo_c c X G (by decide +kernel)
  ex_NothingDone := (plain_c c (by decide +kernel)).1
  kc_NothingDone := (plain_c c (by decide +kernel)).2
  mg_NothingUndone := glo_c c X G (by decide +kernel)
  ex_NothingUndone := (plain_c c (by decide +kernel)).1
  kc_NothingUndone := (plain_c c (by decide +kernel)).2
  mg_Stray := glo_c c X G (by decide +kernel)
  in_Stray := (in_c c (i := 6) rfl t_Stray no_super).1
  xf_Stray := (in_c c (i := 6) rfl t_Stray no_super).2.1
  no_Stray := (in_c c (i := 6) rfl t_Stray no_super).2.2
  mg_Strayed := glo_c c X G (by decide +kernel)
  ex_Strayed := (plain_c c (by decide +kernel)).1
  kc_Strayed := (plain_c c (by decide +kernel)).2
  mg_TooManyRows := glo_c c X G (by decide +kernel)
  ex_TooManyRows := (plain_c c (by decide +kernel)).1
  kc_TooManyRows := (plain_c c (by decide +kernel)).2
  mg_TooWide := glo_c c X G (by decide +kernel)
  ex_TooWide := (plain_c c (by decide +kernel)).1
  kc_TooWide := (plain_c c (by decide +kernel)).2
  mg_Uneditable := glo_c c X G (by decide +kernel)
  ex_Uneditable := (plain_c c (by decide +kernel)).1
  kc_Uneditable := (plain_c c (by decide +kernel)).2
end K00
-- K00head
set_option Elab.async false
set_option linter.all false
set_option maxRecDepth 100000
set_option maxHeartbeats 0
namespace K00
open PySem PySem.Spec PyProof.Rows L2 PM
def dd__law_begun : He.DefD := ⟨("_law_begun", none), "_law_begun", "_law_begun", defArgs s__law_begun, defBody s__law_begun, defScope s__law_begun, [], []⟩
def dd__law_blended : He.DefD := ⟨("_law_blended", none), "_law_blended", "_law_blended", defArgs s__law_blended, defBody s__law_blended, defScope s__law_blended, [], []⟩
def dd__law_draw : He.DefD := ⟨("_law_draw", none), "_law_draw", "_law_draw", defArgs s__law_draw, defBody s__law_draw, defScope s__law_draw, [], []⟩
def dd__law_pick : He.DefD := ⟨("_law_pick", none), "_law_pick", "_law_pick", defArgs s__law_pick, defBody s__law_pick, defScope s__law_pick, [], []⟩
def dd__law_k00_flags : He.DefD := ⟨("_law_k00_flags", none), "_law_k00_flags", "_law_k00_flags", defArgs s__law_k00_flags, defBody s__law_k00_flags, defScope s__law_k00_flags, [], []⟩
def dd_law : He.DefD := ⟨("law", none), "law", "law", defArgs s_law, defBody s_law, defScope s_law, [], []⟩
def fnL : List He.DefD := ([dd__law_begun, dd__law_blended, dd__law_draw, dd__law_pick, dd__law_k00_flags, dd_law] : List He.DefD)
def faL : List He.Fa := ([.glo "_law_begun", .glo "_law_blended", .glo "_law_draw", .glo "_law_pick", .glo "_law_k00_flags", .glo "law", .free "abs", .free "int", .free "len", .free "isinstance", .free "range", .free "min", .free "super", .free "enumerate", .free "ValueError", .free "repr"] : List He.Fa)
def names : List Str := clsL ++ (["_law_begun", "_law_blended", "_law_draw", "_law_pick", "_law_k00_flags"] : List Str)
abbrev R : PySem.W.OpenRow := PySem.W.OpenLaw.row PySem.Challenge.rw_lentandback_k00_errors_apart
abbrev hk : PySem.W.Hook := hookK 4 faL fnL
def ob (s : PySem.W.SharedT) : AlX := obsKG 4 faL fnL (HandSHeadRun.getT s)
theorem ob_eq (s : PySem.W.SharedT) : ob s = hk.obs s.abs := obsKG_eq (HandSHeadRun.getT_eq s)
theorem run (w : World) : HandSHeadRun.RunEq R (PySem.W.view R.prog [49]) hk ob 20000 names w := by
  intro os
  kernel_rfl
theorem fds {K : PySem.W.Frag} (c : He.SaysD faL fnL K) : ∀ x : Nm, ∃ fd, FnP K (nmS x) (stS x) (He.ga K (nmS x)) fd
  | .f__law_begun => c.def_ 0 (d := dd__law_begun) rfl
  | .f__law_blended => c.def_ 1 (d := dd__law_blended) rfl
  | .f__law_draw => c.def_ 2 (d := dd__law_draw) rfl
  | .f__law_pick => c.def_ 3 (d := dd__law_pick) rfl
  | .f__law_k00_flags => c.def_ 4 (d := dd__law_k00_flags) rfl
  | .f_law => c.def_ 5 (d := dd_law) rfl
theorem glos {K : PySem.W.Frag} {h : Heap} {mg : Str → Option Value} (X : K.In h) (G : h.Ns mainGlobals mg) (c : He.SaysD faL fnL K) : ∀ x : Nm, mg (nmS x) = some (.ref (He.ga K (nmS x)))
  | .f__law_begun => He.glo_ok X G (c.fact 0 (f := .glo "_law_begun") rfl)
  | .f__law_blended => He.glo_ok X G (c.fact 1 (f := .glo "_law_blended") rfl)
  | .f__law_draw => He.glo_ok X G (c.fact 2 (f := .glo "_law_draw") rfl)
  | .f__law_pick => He.glo_ok X G (c.fact 3 (f := .glo "_law_pick") rfl)
  | .f__law_k00_flags => He.glo_ok X G (c.fact 4 (f := .glo "_law_k00_flags") rfl)
  | .f_law => He.glo_ok X G (c.fact 5 (f := .glo "law") rfl)
theorem bts {K : PySem.W.Frag} {h : Heap} {mg : Str → Option Value} (X : K.In h) (G : h.Ns mainGlobals mg) (c : He.SaysD faL fnL K) : Bt mg := ⟨He.free_ok X G (c.fact 6 (f := .free "abs") rfl), He.free_ok X G (c.fact 7 (f := .free "int") rfl), He.free_ok X G (c.fact 8 (f := .free "len") rfl), He.free_ok X G (c.fact 9 (f := .free "isinstance") rfl), He.free_ok X G (c.fact 10 (f := .free "range") rfl), He.free_ok X G (c.fact 11 (f := .free "min") rfl), He.free_ok X G (c.fact 12 (f := .free "super") rfl), He.free_ok X G (c.fact 13 (f := .free "enumerate") rfl), He.free_ok X G (c.fact 14 (f := .free "ValueError") rfl), He.free_ok X G (c.fact 15 (f := .free "repr") rfl)⟩
end K00
open PySem PySem.W PySem.Calls PyProof.Rows
theorem PySem.Challenge.cw_lentandback_k00_errors_apart_holds : PySem.Challenge.rw_lentandback_k00_errors_apart.Holds := by
  w_on; o_law
  refine HandSHeadRun.head_any (r := OpenLaw.row PySem.Challenge.rw_lentandback_k00_errors_apart) (q := view (OpenLaw.row PySem.Challenge.rw_lentandback_k00_errors_apart).prog [49]) (H := K00.hk) (ob := K00.ob) (M := 20000) (loose := K00.names) (d := HandSHeadRun.topDef (OpenLaw.row PySem.Challenge.rw_lentandback_k00_errors_apart).prog 49) (kwd := []) K00.ob_eq
    (by kernel_rfl) (fun s => by kernel_rfl) K00.run (by kernel_rfl) (by kernel_rfl) (by kernel_rfl) (by rfl) (by first | assumption | decide +kernel) (by decide +kernel) ⟨rfl, rfl, rfl, rfl, rfl, by decide +kernel⟩ ?hw ?hc
  case hw => w_witness2
  case hc =>
    refine PM.walk_g (l := PySem.Challenge.rw_lentandback_k00_errors_apart) (n := 63) (k := 200) (x := "script") rfl (by decide) (by kernel_rfl) ⟨rfl, by decide, by decide⟩ ?F
    intro w mg fa h Y G hmg0
    obtain ⟨K, KX, cK⟩ := Y
    have c := cK.d
    have hmg : mg ("law" : PySem.Str) = some (.ref fa) := by
      have e : (HandSHeadRun.topDef (OpenLaw.row PySem.Challenge.rw_lentandback_k00_errors_apart).prog 49).name = ("law" : PySem.Str) := by kernel_rfl
      rw [← e]
      exact hmg0
    have ea := hmg.symm.trans (K00.glos KX G c .f_law)
    obtain rfl : fa = He.ga K ("law" : PySem.Str) := by
      have e2 := Option.some.inj ea
      exact Value.ref.inj e2
    have hF : K00.Fds K (fun x => Classical.choose (K00.fds c x)) := fun x => Classical.choose_spec (K00.fds c x)
    refine ⟨K, Classical.choose (K00.fds c .f_law), K00.F 200 .f_law, KX, fun s v => ?_, fun ns hl => K00.law_true ns hl, fun base KB GB => (K00.tab hF (K00.glos KX G c) (K00.bts KX G c) (K00.cls_of cK KX G) 200 .f_law).fn⟩
    exact L2.FunD.bindsA (ps := ["script"]) (hF .f_law) (fun _ _ _ _ _ _ us hl => match us, hl with | [_], _ => rfl) s [v] rfl
