import PyProof.Rows.All
import Wide.All
import OpenK.AllK
import Wide.FinOn
import HandS.ForMost
import HandS.Exc
import HandS.WordsExc
import HandS.Wide
import HandS.IsInst
import HandS.TupAny
import HandS.Codes
import KE.GoesEnum
import HandS.Iter
import HandS.Zip
import HandS.Small
import HandS.Lambda
import HandS.SortInts
import HandS.Replace
import HandS.More
import HandS.WordsDict
import HandS.EndBits
import PySem.Challenge.RW_sameunits_k56_whole_signs_that_guard
set_option Elab.async false
set_option linter.all false
set_option maxRecDepth 100000
set_option maxHeartbeats 4000000
namespace PM
open PySem PySem.Spec PyProof.Rows L2

/-! ### pure values -/
inductive D where
  | non | bl (b : Bool) | int (i : Int) | str (s : List Nat) | tup (xs : List D) | lst (xs : List D) | flst (xs : List D) | dct (kvs : List (D × D)) | fn (x : Str) | ob (n : Nat) | ty (n : String)

/-- the world: the written part, the module's names, where the shared objects stand -/
structure Wd where
  K : PySem.W.Frag
  mg : Str → Option Value
  α : List Addr

abbrev tx (s : List Nat) : Str := ⟨s.toArray⟩
def kD : Key → D
  | .inl i => .int i
  | .inr x => .str x.cps.toList

/-- a list that nobody changes: locked, or written ahead -/
def FzL (K : PySem.W.Frag) (H : Hp) (a : Addr) (vs : List V) : Prop := (∃ o, H a = some (.frz o (.lst vs))) ∨
  ∃ (o : Obj) (us : Array Value) (n : Nat), K.lookup a = some o ∧ o.cls = .type "list" ∧ o.dict = none ∧ o.data = .seq us n ∧ us.size ≤ sizeLine ∧ Vals vs us.toList
theorem FzL.sq {K : PySem.W.Frag} {H : Hp} {a : Addr} {vs : List V} (h : FzL K H a vs) : SqL K H a vs := by
  rcases h with ⟨o, h⟩ | h
  · exact .inl (.inr ⟨o, h⟩)
  · exact .inr h
/-- objects that may be owned -/
def cellO : HO → Bool
  | .lst _ => true
  | .dK _ => true
  | .dT _ => true
  | _ => false

section
variable (w : Wd) (H : Hp) (O : Addr → Prop)
mutual
def Rp : D → V → Prop
  | .non, v => v = .non
  | .bl b, v => v = .bl b
  | .int i, v => v = .int i
  | .str s, v => v = .str (tx s)
  | .tup ds, v => ∃ a vs, v = .ref a ∧ SqT w.K H a vs ∧ RpAll ds vs
  | .lst ds, v => ∃ a vs, v = .ref a ∧ H a = some (.lst vs) ∧ ¬ O a ∧ RpAll ds vs
  | .flst ds, v => ∃ a vs, v = .ref a ∧ FzL w.K H a vs ∧ RpAll ds vs
  | .dct ps, v => ∃ a kvs, v = .ref a ∧ H a = some (.dK kvs) ∧ ¬ O a ∧ RpKv ps kvs
  | .fn x, v => ∃ a, v = .ref a ∧ w.mg x = some (.ref a)
  | .ob n, v => ∃ a, v = .ref a ∧ w.α[n]? = some a
  | .ty n, v => v = .ty n
def RpAll : List D → List V → Prop
  | [], vs => vs = []
  | d :: ds, vs => ∃ v r, vs = v :: r ∧ Rp d v ∧ RpAll ds r
def RpKv : List (D × D) → List (Key × V) → Prop
  | [], kvs => kvs = []
  | (k, d) :: ps, kvs => ∃ c v r, kvs = (c, v) :: r ∧ k = kD c ∧ Rp d v ∧ RpKv ps r
end
end

/-- what is not owned stays, and stays not owned -/
def Fz (H : Hp) (O : Addr → Prop) (H' : Hp) (O' : Addr → Prop) : Prop := ∀ a o, H a = some o → ¬ O a → H' a = some o ∧ ¬ O' a
def Dom (H : Hp) (O : Addr → Prop) : Prop := ∀ a, O a → ∃ o, H a = some o ∧ cellO o = true

section
variable {w : Wd} {H H' H'' : Hp} {O O' O'' : Addr → Prop}
theorem Fz.refl : Fz H O H O := fun _ _ h n => ⟨h, n⟩
theorem Fz.trans (a : Fz H O H' O') (b : Fz H' O' H'' O'') : Fz H O H'' O'' := fun x o h n => b x o (a x o h n).1 (a x o h n).2
theorem Dom.no (hd : Dom H O) {a : Addr} {o : HO} (h : H a = some o) (c : cellO o = false) : ¬ O a := fun z => by
  obtain ⟨o', e, q⟩ := hd a z
  rw [h] at e; cases e
  rw [c] at q; cases q
theorem Dom.fresh (hd : Dom H O) {a : Addr} (h : H a = none) : ¬ O a := fun z => by
  obtain ⟨o', e, q⟩ := hd a z
  rw [h] at e; cases e
theorem Fz.rdT (x : Fz H O H' O') (hd : Dom H O) {a : Addr} {vs : List V} (h : Rd H a (.tup vs)) : Rd H' a (.tup vs) := by
  rcases h with h | ⟨o, h⟩
  · exact .inl (x _ _ h (hd.no h rfl)).1
  · exact .inr ⟨o, (x _ _ h (hd.no h rfl)).1⟩
theorem Fz.sqT (x : Fz H O H' O') (hd : Dom H O) {a : Addr} {vs : List V} (h : SqT w.K H a vs) : SqT w.K H' a vs := by
  rcases h with h | h
  · exact .inl (x.rdT hd h)
  · exact .inr h
theorem Fz.fzL (x : Fz H O H' O') (hd : Dom H O) {K : PySem.W.Frag} {a : Addr} {vs : List V} (h : FzL K H a vs) : FzL K H' a vs := by
  rcases h with ⟨o, h⟩ | h
  · exact .inl ⟨o, (x _ _ h (hd.no h rfl)).1⟩
  · exact .inr h
mutual
theorem Rp.mono (x : Fz H O H' O') (hd : Dom H O) : ∀ (d : D) (v : V), Rp w H O d v → Rp w H' O' d v
  | .non, _, h => h
  | .bl _, _, h => h
  | .int _, _, h => h
  | .str _, _, h => h
  | .tup ds, _, ⟨a, vs, e, h, r⟩ => ⟨a, vs, e, x.sqT hd h, RpAll.mono x hd ds vs r⟩
  | .lst ds, _, ⟨a, vs, e, h, n, r⟩ => ⟨a, vs, e, (x _ _ h n).1, (x _ _ h n).2, RpAll.mono x hd ds vs r⟩
  | .flst ds, _, ⟨a, vs, e, h, r⟩ => ⟨a, vs, e, x.fzL hd h, RpAll.mono x hd ds vs r⟩
  | .dct ps, _, ⟨a, kvs, e, h, n, r⟩ => ⟨a, kvs, e, (x _ _ h n).1, (x _ _ h n).2, RpKv.mono x hd ps kvs r⟩
  | .fn _, _, h => h
  | .ob _, _, h => h
  | .ty _, _, h => h
theorem RpAll.mono (x : Fz H O H' O') (hd : Dom H O) : ∀ (ds : List D) (vs : List V), RpAll w H O ds vs → RpAll w H' O' ds vs
  | [], _, h => h
  | d :: ds, _, ⟨v, r, e, h1, h2⟩ => ⟨v, r, e, Rp.mono x hd d v h1, RpAll.mono x hd ds r h2⟩
theorem RpKv.mono (x : Fz H O H' O') (hd : Dom H O) : ∀ (ps : List (D × D)) (kvs : List (Key × V)), RpKv w H O ps kvs → RpKv w H' O' ps kvs
  | [], _, h => h
  | (k, d) :: ps, _, ⟨c, v, r, e, ek, h1, h2⟩ => ⟨c, v, r, e, ek, Rp.mono x hd d v h1, RpKv.mono x hd ps r h2⟩
end
mutual
theorem Rp.less (x : ∀ a, O' a → O a) : ∀ (d : D) (v : V), Rp w H O d v → Rp w H O' d v
  | .non, _, h => h
  | .bl _, _, h => h
  | .int _, _, h => h
  | .str _, _, h => h
  | .tup ds, _, ⟨a, vs, e, h, r⟩ => ⟨a, vs, e, h, RpAll.less x ds vs r⟩
  | .lst ds, _, ⟨a, vs, e, h, n, r⟩ => ⟨a, vs, e, h, fun z => n (x _ z), RpAll.less x ds vs r⟩
  | .flst ds, _, ⟨a, vs, e, h, r⟩ => ⟨a, vs, e, h, RpAll.less x ds vs r⟩
  | .dct ps, _, ⟨a, kvs, e, h, n, r⟩ => ⟨a, kvs, e, h, fun z => n (x _ z), RpKv.less x ps kvs r⟩
  | .fn _, _, h => h
  | .ob _, _, h => h
  | .ty _, _, h => h
theorem RpAll.less (x : ∀ a, O' a → O a) : ∀ (ds : List D) (vs : List V), RpAll w H O ds vs → RpAll w H O' ds vs
  | [], _, h => h
  | d :: ds, _, ⟨v, r, e, h1, h2⟩ => ⟨v, r, e, Rp.less x d v h1, RpAll.less x ds r h2⟩
theorem RpKv.less (x : ∀ a, O' a → O a) : ∀ (ps : List (D × D)) (kvs : List (Key × V)), RpKv w H O ps kvs → RpKv w H O' ps kvs
  | [], _, h => h
  | (k, d) :: ps, _, ⟨c, v, r, e, ek, h1, h2⟩ => ⟨c, v, r, e, ek, Rp.less x d v h1, RpKv.less x ps r h2⟩
end
theorem RpAll.len : ∀ {ds : List D} {vs : List V}, RpAll w H O ds vs → vs.length = ds.length
  | [], _, h => by
    have e : _ = [] := h
    subst e; rfl
  | d :: ds, _, ⟨v, r, e, h1, h2⟩ => by rw [e, List.length_cons, List.length_cons, RpAll.len h2]
theorem RpAll.get : ∀ {ds : List D} {vs : List V} {i : Nat} {d : D}, RpAll w H O ds vs → ds[i]? = some d → ∃ v, vs[i]? = some v ∧ Rp w H O d v
  | [], _, _, _, _, h => by simp at h
  | d :: ds, _, 0, _, ⟨v, r, e, h1, h2⟩, h => by
    simp at h; subst h; subst e
    exact ⟨v, rfl, h1⟩
  | d :: ds, _, i + 1, _, ⟨v, r, e, h1, h2⟩, h => by
    subst e
    simpa using RpAll.get (i := i) h2 (by simpa using h)
theorem RpAll.getV : ∀ {ds : List D} {vs : List V} {i : Nat} {v : V}, RpAll w H O ds vs → vs[i]? = some v → ∃ d, ds[i]? = some d ∧ Rp w H O d v
  | [], _, _, _, h0, h => by
    have e : _ = [] := h0
    rw [e] at h; simp at h
  | d :: ds, _, 0, _, ⟨v, r, e, h1, h2⟩, h => by
    subst e; simp at h; subst h
    exact ⟨d, rfl, h1⟩
  | d :: ds, _, i + 1, _, ⟨v, r, e, h1, h2⟩, h => by
    subst e
    simpa using RpAll.getV (i := i) h2 (by simpa using h)
theorem RpAll.append : ∀ {ds es : List D} {vs us : List V}, RpAll w H O ds vs → RpAll w H O es us → RpAll w H O (ds ++ es) (vs ++ us)
  | [], _, _, _, h, k => by
    have e : _ = [] := h
    rw [e]; exact k
  | d :: ds, _, _, _, ⟨v, r, e, h1, h2⟩, k => by
    subst e
    exact ⟨v, _, rfl, h1, RpAll.append h2 k⟩
theorem RpAll.one {d : D} {v : V} (h : Rp w H O d v) : RpAll w H O [d] [v] := ⟨v, [], rfl, h, rfl⟩
theorem RpAll.drop : ∀ (n : Nat) {ds : List D} {vs : List V}, RpAll w H O ds vs → RpAll w H O (ds.drop n) (vs.drop n)
  | 0, _, _, h => h
  | n + 1, [], _, h => by
    have e : _ = [] := h
    rw [e]; exact rfl
  | n + 1, d :: ds, _, ⟨v, r, e, h1, h2⟩ => by
    subst e
    exact RpAll.drop n h2
theorem RpAll.take : ∀ (n : Nat) {ds : List D} {vs : List V}, RpAll w H O ds vs → RpAll w H O (ds.take n) (vs.take n)
  | 0, _, _, h => rfl
  | n + 1, [], _, h => by
    have e : _ = [] := h
    rw [e]; exact rfl
  | n + 1, d :: ds, _, ⟨v, r, e, h1, h2⟩ => by
    subst e
    exact ⟨v, _, rfl, h1, RpAll.take n h2⟩
theorem RpAll.set : ∀ (n : Nat) {ds : List D} {vs : List V} {d : D} {v : V}, RpAll w H O ds vs → Rp w H O d v → RpAll w H O (ds.set n d) (vs.set n v)
  | _, [], _, _, _, h, _ => by
    have e : _ = [] := h
    rw [e]; exact rfl
  | 0, d :: ds, _, _, u, ⟨v, r, e, h1, h2⟩, k => by
    subst e
    exact ⟨u, r, rfl, k, h2⟩
  | n + 1, d :: ds, _, _, _, ⟨v, r, e, h1, h2⟩, k => by
    subst e
    exact ⟨v, _, rfl, h1, RpAll.set n h2 k⟩
theorem RpAll.map {β : Type} (f : β → D) (g : β → V) : ∀ (l : List β), (∀ x ∈ l, Rp w H O (f x) (g x)) → RpAll w H O (l.map f) (l.map g)
  | [], _ => rfl
  | x :: l, h => ⟨g x, l.map g, rfl, h x List.mem_cons_self, RpAll.map f g l fun y hy => h y (List.mem_cons_of_mem _ hy)⟩
/-- ints are ints -/
theorem RpAll.ints : ∀ {ns : List Int} {vs : List V}, RpAll w H O (ns.map D.int) vs → vs = ns.map V.int
  | [], _, h => h
  | n :: ns, _, ⟨v, r, e, h1, h2⟩ => by
    have e1 : v = .int n := h1
    rw [e, e1, RpAll.ints h2]; rfl
theorem RpAll.bls : ∀ {bs : List Bool} {vs : List V}, RpAll w H O (bs.map D.bl) vs → vs = bs.map V.bl
  | [], _, h => h
  | n :: ns, _, ⟨v, r, e, h1, h2⟩ => by
    have e1 : v = .bl n := h1
    rw [e, e1, RpAll.bls h2]; rfl
theorem RpAll.strs : ∀ {ss : List (List Nat)} {vs : List V}, RpAll w H O (ss.map D.str) vs → vs = (ss.map tx).map V.str
  | [], _, h => h
  | s :: ss, _, ⟨v, r, e, h1, h2⟩ => by
    have e1 : v = .str (tx s) := h1
    rw [e, e1, RpAll.strs h2]; rfl
theorem RpKv.len : ∀ {ps : List (D × D)} {kvs : List (Key × V)}, RpKv w H O ps kvs → kvs.length = ps.length
  | [], _, h => by
    have e : _ = [] := h
    subst e; rfl
  | (k, d) :: ps, _, ⟨c, v, r, e, ek, h1, h2⟩ => by rw [e, List.length_cons, List.length_cons, RpKv.len h2]
end

/-- an owned (or a shared) object's content -/
def Ob (w : Wd) (H : Hp) (O : Addr → Prop) (d : D) (a : Addr) : Prop :=
  (∃ ds vs, d = .lst ds ∧ H a = some (.lst vs) ∧ RpAll w H O ds vs) ∨ (∃ ps kvs, d = .dct ps ∧ H a = some (.dK kvs) ∧ RpKv w H O ps kvs)
/-- a value, whether its own object is owned or not -/
def V1 (w : Wd) (H : Hp) (O : Addr → Prop) (d : D) (v : V) : Prop := Rp w H O d v ∨ ∃ a, v = .ref a ∧ Ob w H O d a
section
variable {w : Wd} {H H' H'' : Hp} {O O' O'' : Addr → Prop} {d : D} {v : V} {a : Addr}
theorem Ob.cell (h : Ob w H O d a) : ∃ o, H a = some o ∧ cellO o = true := by
  rcases h with ⟨_, _, _, h, _⟩ | ⟨_, _, _, h, _⟩
  · exact ⟨_, h, rfl⟩
  · exact ⟨_, h, rfl⟩
theorem Ob.mono (x : Fz H O H' O') (hd : Dom H O) (ha : ∀ o, H a = some o → H' a = some o) (h : Ob w H O d a) : Ob w H' O' d a := by
  rcases h with ⟨ds, vs, e, h, r⟩ | ⟨ps, kvs, e, h, r⟩
  · exact .inl ⟨ds, vs, e, ha _ h, r.mono x hd⟩
  · exact .inr ⟨ps, kvs, e, ha _ h, r.mono x hd⟩
theorem Ob.less (x : ∀ a, O' a → O a) (h : Ob w H O d a) : Ob w H O' d a := by
  rcases h with ⟨ds, vs, e, h, r⟩ | ⟨ps, kvs, e, h, r⟩
  · exact .inl ⟨ds, vs, e, h, r.less x⟩
  · exact .inr ⟨ps, kvs, e, h, r.less x⟩
/-- given up: from now on it stays -/
theorem Ob.rp (h : Ob w H O d a) (x : ∀ b, O' b → O b) (n : ¬ O' a) : Rp w H O' d (.ref a) := by
  rcases h with ⟨ds, vs, e, h, r⟩ | ⟨ps, kvs, e, h, r⟩
  · subst e
    exact ⟨a, vs, rfl, h, n, r.less x⟩
  · subst e
    exact ⟨a, kvs, rfl, h, n, r.less x⟩
end

/-! ### states -/
inductive Sl where
  | un | fz (d : D) | ow (d : D)
structure PSt where
  ρ : List Sl
  S : List D
inductive Kd where
  | fz | fr | ow (i : Nat)
inductive Out (β : Type) where
  | no | ok (p : PSt) (b : β) | ex (p : PSt) (c : Str) (r : D)
def Out.bind {β γ : Type} : Out β → (PSt → β → Out γ) → Out γ
  | .no, _ => .no
  | .ok p b, f => f p b
  | .ex p c r, _ => .ex p c r
/-- what was there ahead of the def: owned by others, the heap -/
structure Gh where
  O0 : Addr → Prop
  H0 : Hp

structure Rl (w : Wd) (G : Gh) (p : PSt) (σ : L2.St) (H : Hp) (O : Addr → Prop) : Prop where
  len : σ.length = p.ρ.length
  fz : ∀ (i : Nat) d, p.ρ[i]? = some (.fz d) → ∃ v, σ[i]? = some (some v) ∧ Rp w H O d v
  ow : ∀ (i : Nat) d, p.ρ[i]? = some (.ow d) → ∃ a, σ[i]? = some (some (.ref a)) ∧ O a ∧ ¬ G.O0 a ∧ G.H0 a = none ∧ Ob w H O d a
  dj : ∀ (i j : Nat) d e a, p.ρ[i]? = some (.ow d) → p.ρ[j]? = some (.ow e) → σ[i]? = some (some (.ref a)) → σ[j]? = some (some (.ref a)) → i = j
  o0 : ∀ a, G.O0 a → O a
  dom : Dom H O
  kp : ∀ a o, G.H0 a = some o → a ∉ w.α → H a = some o
  al : ∀ a, a ∈ w.α → G.O0 a
  sl : p.S.length = w.α.length
  st : ∀ (n : Nat) c a, p.S[n]? = some c → w.α[n]? = some a → Ob w H O c a
  nd : w.α.Nodup

/-- a value as evaluated; Hs: the heap at the start -/
def VR (w : Wd) (Hs : Hp) (p : PSt) (σ : L2.St) (H : Hp) (O : Addr → Prop) : Kd → D → V → Prop
  | .fz, d, v => Rp w H O d v
  | .fr, d, v => ∃ a, v = .ref a ∧ O a ∧ Hs a = none ∧ Ob w H O d a ∧ ∀ (i : Nat) e, p.ρ[i]? = some (.ow e) → σ[i]? ≠ some (some (.ref a))
  | .ow i, d, v => σ[i]? = some (some v) ∧ (p.ρ[i]? = some (.ow d) ∨ p.ρ[i]? = some (.fz d))

structure Nx (w : Wd) (σ : L2.St) (p : PSt) (H : Hp) (O : Addr → Prop) (p' : PSt) (H' : Hp) (O' : Addr → Prop) : Prop where
  h : ∀ a o, H a = some o → a ∉ w.α → H' a = some o
  o : ∀ a, O' a → O a ∨ H a = none
  f : ∀ a, O a → O' a ∨ ∃ (i : Nat) (e : D), p.ρ[i]? = some (.ow e) ∧ σ[i]? = some (some (.ref a))
  s1 : ∀ (i : Nat) d, p.ρ[i]? = some (.fz d) → p'.ρ[i]? = some (.fz d)
  s2 : ∀ (i : Nat) d, p.ρ[i]? = some (.ow d) → p'.ρ[i]? = some (.ow d) ∨ p'.ρ[i]? = some (.fz d)
  s3 : ∀ (i : Nat) d, p'.ρ[i]? = some (.ow d) → p.ρ[i]? = some (.ow d)

section
variable {w : Wd} {G : Gh} {p p1 p2 : PSt} {σ : L2.St} {H H1 H2 Hs : Hp} {O O1 O2 : Addr → Prop} {k : Kd} {d : D} {v : V}
theorem Nx.refl : Nx w σ p H O p H O := ⟨fun _ _ h _ => h, fun _ h => .inl h, fun _ h => .inl h, fun _ _ h => h, fun _ _ h => .inl h, fun _ _ h => h⟩
theorem Rl.oal (R : Rl w G p σ H O) {a : Addr} (n : ¬ O a) : a ∉ w.α := fun z => n (R.o0 a (R.al a z))
theorem Nx.back (R : Rl w G p σ H O) (N : Nx w σ p H O p1 H1 O1) {a : Addr} (h : H1 a = none) (hO : a ∉ w.α) : H a = none := by
  cases e : H a with
  | none => rfl
  | some o =>
    rw [N.h a o e hO] at h
    cases h
theorem Nx.trans (R : Rl w G p σ H O) (N : Nx w σ p H O p1 H1 O1) (M : Nx w σ p1 H1 O1 p2 H2 O2) (R1 : Rl w G p1 σ H1 O1) : Nx w σ p H O p2 H2 O2 := by
  refine ⟨fun a o h n => M.h a o (N.h a o h n) n, fun a h => ?_, fun a h => ?_, fun i d h => M.s1 i d (N.s1 i d h), fun i d h => ?_, fun i d h => N.s3 i d (M.s3 i d h)⟩
  · rcases M.o a h with h | h
    · exact N.o a h
    · by_cases ha : a ∈ w.α
      · exact .inl (R.o0 a (R.al a ha))
      · exact .inr (N.back R h ha)
  · rcases N.f a h with h | h
    · rcases M.f a h with h | ⟨i, e, h1, h2⟩
      · exact .inl h
      · exact .inr ⟨i, e, N.s3 i e h1, h2⟩
    · exact .inr h
  · rcases N.s2 i d h with h | h
    · exact M.s2 i d h
    · exact .inr (M.s1 i d h)
theorem Nx.fzR (R : Rl w G p σ H O) (N : Nx w σ p H O p1 H1 O1) : Fz H O H1 O1 := fun a o h n =>
  ⟨N.h a o h (R.oal n), fun z => (N.o a z).elim n fun q => by rw [h] at q; cases q⟩
theorem VR.mono (R : Rl w G p σ H O) (N : Nx w σ p H O p1 H1 O1) (h : VR w Hs p σ H O k d v) (ho : ∀ a, a ∈ w.α → Hs a ≠ none) : VR w Hs p1 σ H1 O1 k d v := by
  cases k with
  | fz => exact Rp.mono (N.fzR R) R.dom d v h
  | fr =>
    obtain ⟨a, e, h1, h2, h3, h4⟩ := h
    have na : a ∉ w.α := fun z => ho a z h2
    refine ⟨a, e, ?_, h2, h3.mono (N.fzR R) R.dom fun o q => N.h a o q na, fun i e q => h4 i e (N.s3 i e q)⟩
    rcases N.f a h1 with q | ⟨i, e, q1, q2⟩
    · exact q
    · exact absurd q2 (h4 i e q1)
  | ow i =>
    obtain ⟨h1, h2⟩ := h
    refine ⟨h1, ?_⟩
    rcases h2 with h2 | h2
    · exact N.s2 i d h2
    · exact .inr (N.s1 i d h2)
theorem VR.back (h : VR w Hs p σ H O k d v) {Hs' : Hp} (x : ∀ a, Hs a = none → O a → Hs' a = none) : VR w Hs' p σ H O k d v := by
  cases k with
  | fz => exact h
  | fr =>
    obtain ⟨a, e, h1, h2, h3, h4⟩ := h
    exact ⟨a, e, h1, x a h2 h1, h3, h4⟩
  | ow i => exact h
theorem Rl.alN (R : Rl w G p σ H O) : ∀ a, a ∈ w.α → H a ≠ none := fun a h z => by
  obtain ⟨o, e, _⟩ := R.dom a (R.o0 a (R.al a h))
  rw [z] at e; cases e
/-- back to an earlier start -/
theorem VR.start (R : Rl w G p σ H O) (N : Nx w σ p H O p1 H1 O1) (R1 : Rl w G p1 σ H1 O1) (h : VR w H1 p2 σ H2 O2 k d v) : VR w H p2 σ H2 O2 k d v :=
  h.back fun a q _ => N.back R q fun z => R1.alN a z q
/-- what stands behind a name that is shared -/
def deref (p : PSt) : D → Option D
  | .ob n => p.S[n]?
  | d => some d
theorem VR.v1 (R : Rl w G p σ H O) (h : VR w Hs p σ H O k d v) {e : D} (hd : deref p d = some e) : V1 w H O e v := by
  have base : V1 w H O d v := by
    cases k with
    | fz => exact .inl h
    | fr =>
      obtain ⟨a, e, h1, h2, h3, h4⟩ := h
      exact .inr ⟨a, e, h3⟩
    | ow i =>
      obtain ⟨h1, h2⟩ := h
      rcases h2 with h2 | h2
      · obtain ⟨a, e1, h3, h4, h5, h6⟩ := R.ow i d h2
        rw [h1] at e1
        exact .inr ⟨a, by injection e1 with e1; injection e1, h6⟩
      · obtain ⟨u, e1, h3⟩ := R.fz i d h2
        rw [h1] at e1
        injection e1 with e1; injection e1 with e1
        subst e1
        exact .inl h3
  cases d with
  | ob n =>
    rcases base with h | ⟨a, _, h⟩
    · obtain ⟨a, e1, ha⟩ := h
      exact .inr ⟨a, e1, R.st n e a hd ha⟩
    · rcases h with ⟨_, _, e, _⟩ | ⟨_, _, e, _⟩ <;> cases e
  | _ =>
    have e1 : some _ = some e := hd
    injection e1 with e1
    subst e1
    exact base
end
end PM
namespace PM
open PySem PySem.Spec L2

/-! ### transitions -/
section
variable {w : Wd} {G : Gh} {p p1 p2 : PSt} {σ : L2.St} {H H1 H2 Hs : Hp} {O O1 O2 Os : Addr → Prop} {k : Kd} {d : D} {v : V}
/-- all objects stay -/
def Gr (H H' : Hp) : Prop := ∀ b o, H b = some o → H' b = some o
theorem Gr.refl : Gr H H := fun _ _ h => h
theorem Gr.trans (a : Gr H H1) (b : Gr H1 H2) : Gr H H2 := fun x o h => b x o (a x o h)
theorem Gr.new {a : Addr} {o : HO} (h : H a = none) : Gr H (upd H a o) := fun b u e => by
  rw [upd_ne (ne_of_none e h)]; exact e
theorem Gr.fz (g : Gr H H1) : Fz H O H1 O := fun a o h n => ⟨g a o h, n⟩
theorem Gr.fzA (g : Gr H H1) {a : Addr} (h : H a = none) : Fz H O H1 (fun b => O b ∨ b = a) := fun b o e n =>
  ⟨g b o e, fun z => z.elim n fun q => by rw [q, h] at e; cases e⟩
theorem Gr.dom (g : Gr H H1) (hd : Dom H O) : Dom H1 O := fun a h => by
  obtain ⟨o, e, c⟩ := hd a h
  exact ⟨o, g a o e, c⟩
theorem Ob.gr (g : Gr H H1) (hd : Dom H O) {a : Addr} (h : Ob w H O d a) : Ob w H1 O d a := h.mono g.fz hd fun o e => g a o e
theorem Rl.grow (R : Rl w G p σ H O) (g : Gr H H1) : Rl w G p σ H1 O := by
  refine ⟨R.len, fun i d h => ?_, fun i d h => ?_, R.dj, R.o0, g.dom R.dom, fun a o e n => g a o (R.kp a o e n), R.al, R.sl, fun n c a e1 e2 => (R.st n c a e1 e2).gr g R.dom, R.nd⟩
  · obtain ⟨v, e, r⟩ := R.fz i d h
    exact ⟨v, e, Rp.mono g.fz R.dom d v r⟩
  · obtain ⟨a, e, h1, h2, h3, h4⟩ := R.ow i d h
    exact ⟨a, e, h1, h2, h3, h4.gr g R.dom⟩
theorem Nx.grow (g : Gr H H1) : Nx w σ p H O p H1 O := ⟨fun a o h _ => g a o h, fun _ h => .inl h, fun _ h => .inl h, fun _ _ h => h, fun _ _ h => .inl h, fun _ _ h => h⟩
/-- a new object of one's own -/
theorem Rl.newO (R : Rl w G p σ H O) (g : Gr H H1) {a : Addr} (h : H a = none) (c : ∃ o, H1 a = some o ∧ cellO o = true) : Rl w G p σ H1 (fun b => O b ∨ b = a) := by
  have f := g.fzA (O := O) h
  refine ⟨R.len, fun i d h => ?_, fun i d h => ?_, R.dj, fun b z => .inl (R.o0 b z), fun b z => ?_, fun b o e n => g b o (R.kp b o e n), R.al, R.sl, fun n c b e1 e2 => (R.st n c b e1 e2).mono f R.dom fun o e => g b o e, R.nd⟩
  · obtain ⟨v, e, r⟩ := R.fz i d h
    exact ⟨v, e, Rp.mono f R.dom d v r⟩
  · obtain ⟨b, e, h1, h2, h3, h4⟩ := R.ow i d h
    exact ⟨b, e, .inl h1, h2, h3, h4.mono f R.dom fun o e => g b o e⟩
  · rcases z with z | z
    · exact g.dom R.dom b z
    · rw [z]; exact c
theorem Nx.newO (g : Gr H H1) {a : Addr} (h : H a = none) : Nx w σ p H O p H1 (fun b => O b ∨ b = a) :=
  ⟨fun b o e _ => g b o e, fun b z => z.elim .inl fun q => .inr (by rw [q]; exact h), fun _ z => .inl (.inl z), fun _ _ h => h, fun _ _ h => .inl h, fun _ _ h => h⟩
/-- what an operation hands out: a value that stays, or a new object of one's own -/
def NewV (w : Wd) (H : Hp) (O : Addr → Prop) (fr : Bool) (d : D) (v : V) (H' : Hp) : Prop :=
  Gr H H' ∧ match fr with
    | true => ∃ a, v = .ref a ∧ H a = none ∧ Ob w H' (fun b => O b ∨ b = a) d a
    | false => Rp w H' O d v
def kdOf (fr : Bool) : Kd := match fr with
  | true => .fr
  | false => .fz
theorem NewV.rl (R : Rl w G p σ H O) {fr : Bool} {H' : Hp} (h : NewV w H O fr d v H') : ∃ O', Rl w G p σ H' O' ∧ Nx w σ p H O p H' O' ∧ VR w H p σ H' O' (kdOf fr) d v := by
  obtain ⟨g, h⟩ := h
  cases fr with
  | false => exact ⟨O, R.grow g, Nx.grow g, h⟩
  | true =>
    obtain ⟨a, e, ha, h⟩ := h
    refine ⟨_, R.newO g ha h.cell, Nx.newO g ha, a, e, .inr rfl, ha, h, fun i d q z => ?_⟩
    obtain ⟨b, e1, h1, _⟩ := R.ow i d q
    rw [z] at e1
    injection e1 with e1; injection e1 with e1; injection e1 with e1
    subst e1
    exact (R.dom.fresh ha) h1

/-- a name's object is given up -/
def PSt.frz (p : PSt) (i : Nat) : PSt := match p.ρ[i]? with
  | some (.ow d) => { p with ρ := p.ρ.set i (.fz d) }
  | _ => p
def PSt.frzK (p : PSt) : Kd → PSt
  | .ow i => p.frz i
  | _ => p
theorem set_get {α : Type} {l : List α} {i : Nat} {x y : α} (h : l[i]? = some x) : (l.set i y)[i]? = some y := by
  have hi : i < l.length := (List.getElem?_eq_some_iff.mp h).1
  rw [List.getElem?_set_self hi]
theorem set_get_ne {α : Type} {l : List α} {i j : Nat} {y : α} (h : i ≠ j) : (l.set i y)[j]? = l[j]? := List.getElem?_set_ne h
theorem frz_slot (R : Rl w G p σ H O) {i : Nat} (hi : p.ρ[i]? = some (.ow d)) {a : Addr} (ha : σ[i]? = some (some (.ref a))) :
    Rl w G { p with ρ := p.ρ.set i (.fz d) } σ H (fun b => O b ∧ b ≠ a) ∧ Nx w σ p H O { p with ρ := p.ρ.set i (.fz d) } H (fun b => O b ∧ b ≠ a) ∧ Rp w H (fun b => O b ∧ b ≠ a) d (.ref a) := by
  obtain ⟨a', e, h1, h2, h3, h4⟩ := R.ow i d hi
  have ea : a' = a := by
    rw [ha] at e
    injection e with e; injection e with e; injection e with e
    exact e.symm
  subst ea
  have less : ∀ b, (O b ∧ b ≠ a') → O b := fun b h => h.1
  have rp : Rp w H (fun b => O b ∧ b ≠ a') d (.ref a') := h4.rp less fun z => z.2 rfl
  refine ⟨⟨?_, fun j e q => ?_, fun j e q => ?_, fun i' j' d' e' b q1 q2 => ?_, fun b z => ⟨R.o0 b z, fun q => h2 (q ▸ z)⟩, fun b z => R.dom b z.1, R.kp, R.al, R.sl, fun n c b e1 e2 => (R.st n c b e1 e2).less less, R.nd⟩, ⟨fun _ _ h _ => h, fun b h => .inl h.1, fun b h => ?_, fun j e q => ?_, fun j e q => ?_, fun j e q => ?_⟩, rp⟩
  · show σ.length = (p.ρ.set i (.fz d)).length
    rw [List.length_set]; exact R.len
  · by_cases hj : i = j
    · subst hj
      have q' := q
      simp only at q'
      rw [set_get hi] at q'
      injection q' with q'; injection q' with q'
      subst q'
      exact ⟨_, ha, rp⟩
    · have q' := q
      simp only at q'
      rw [set_get_ne hj] at q'
      obtain ⟨v, e1, r⟩ := R.fz j e q'
      exact ⟨v, e1, Rp.less less e v r⟩
  · have hj : i ≠ j := fun z => by
      subst z
      have q' := q
      simp only at q'
      rw [set_get hi] at q'
      cases q'
    have q' := q
    simp only at q'
    rw [set_get_ne hj] at q'
    obtain ⟨b, e1, k1, k2, k3, k4⟩ := R.ow j e q'
    exact ⟨b, e1, ⟨k1, fun z => hj (R.dj i j d _ a' hi q' ha (z ▸ e1))⟩, k2, k3, k4.less less⟩
  · have n1 : i ≠ i' := fun z => by
      subst z
      have q' := q1
      simp only at q'
      rw [set_get hi] at q'
      cases q'
    have n2 : i ≠ j' := fun z => by
      subst z
      have q' := q2
      simp only at q'
      rw [set_get hi] at q'
      cases q'
    simp only at q1 q2
    rw [set_get_ne n1] at q1
    rw [set_get_ne n2] at q2
    exact R.dj i' j' d' e' b q1 q2
  · by_cases hb : b = a'
    · subst hb
      exact .inr ⟨i, d, hi, ha⟩
    · exact .inl ⟨h, hb⟩
  · by_cases hj : i = j
    · subst hj
      rw [hi] at q; cases q
    · show (p.ρ.set i (.fz d))[j]? = _
      rw [set_get_ne hj]; exact q
  · by_cases hj : i = j
    · subst hj
      rw [hi] at q
      injection q with q; injection q with q
      subst q
      exact .inr (set_get hi)
    · refine .inl ?_
      show (p.ρ.set i (.fz d))[j]? = _
      rw [set_get_ne hj]; exact q
  · by_cases hj : i = j
    · subst hj
      have q' := q
      simp only at q'
      rw [set_get hi] at q'
      cases q'
    · have q' := q
      simp only at q'
      rw [set_get_ne hj] at q'
      exact q'
/-- a value is given up: it stays from now on -/
theorem frz_ok (Rs : Rl w G p1 σ Hs Os) (N : Nx w σ p1 Hs Os p H O) (R : Rl w G p σ H O) (h : VR w Hs p σ H O k d v) :
    ∃ O', Rl w G (p.frzK k) σ H O' ∧ Nx w σ p1 Hs Os (p.frzK k) H O' ∧ Rp w H O' d v := by
  cases k with
  | fz => exact ⟨O, R, N, h⟩
  | fr =>
    obtain ⟨a, e, h1, h2, h3, h4⟩ := h
    have less : ∀ b, (O b ∧ b ≠ a) → O b := fun b h => h.1
    have na : ¬ Os a := Rs.dom.fresh h2
    have n0 : ¬ G.O0 a := fun z => na (Rs.o0 a z)
    refine ⟨fun b => O b ∧ b ≠ a, ⟨R.len, fun i d q => ?_, fun i d q => ?_, R.dj, fun b z => ⟨R.o0 b z, fun q => n0 (q ▸ z)⟩, fun b z => R.dom b z.1, R.kp, R.al, R.sl, fun n c b e1 e2 => (R.st n c b e1 e2).less less, R.nd⟩,
      ⟨N.h, fun b z => N.o b z.1, fun b z => ?_, N.s1, N.s2, N.s3⟩, ?_⟩
    · obtain ⟨u, e1, r⟩ := R.fz i d q
      exact ⟨u, e1, Rp.less less d u r⟩
    · obtain ⟨b, e1, k1, k2, k3, k4⟩ := R.ow i d q
      exact ⟨b, e1, ⟨k1, fun z => h4 i d q (z ▸ e1)⟩, k2, k3, k4.less less⟩
    · rcases N.f b z with q | q
      · exact .inl ⟨q, fun z' => na (z' ▸ z)⟩
      · exact .inr q
    · subst e
      exact h3.rp less fun z => z.2 rfl
  | ow i =>
    obtain ⟨h1, h2⟩ := h
    rcases h2 with h2 | h2
    · obtain ⟨a, e, k1, k2, k3, k4⟩ := R.ow i d h2
      have ev : v = .ref a := by
        rw [h1] at e
        injection e with e; injection e
      subst ev
      have e2 : p.frzK (.ow i) = { p with ρ := p.ρ.set i (.fz d) } := by
        show p.frz i = _
        unfold PSt.frz
        rw [h2]
      rw [e2]
      obtain ⟨q1, q2, q3⟩ := frz_slot R h2 h1
      exact ⟨_, q1, N.trans Rs q2 R, q3⟩
    · obtain ⟨u, e, r⟩ := R.fz i d h2
      have ev : v = u := by
        rw [h1] at e
        injection e with e; injection e
      subst ev
      have e2 : p.frzK (.ow i) = p := by
        show p.frz i = _
        unfold PSt.frz
        rw [h2]
      rw [e2]
      exact ⟨O, R, N, r⟩
end

/-! ### what is to be shown of an outcome -/
/-- an exception as it lies in the heap: its class c of the text, its reason -/
def ExR (w : Wd) (H : Hp) (O : Addr → Prop) (c : Str) (r : D) (cls : Value) (dd : Option Addr) : Prop :=
  ∃ C, w.mg c = some (.ref C) ∧ cls = .ref C ∧ ∃ a v f, dd = some a ∧ H a = some (.xd [(f, v)]) ∧ Rp w H O r v
def Wp (w : Wd) (G : Gh) (W : WX) (σ : L2.St) {β : Type} (p : PSt) (H : Hp) (O : Addr → Prop) (o : Out β) (P : PSt → β → Hp → (Addr → Prop) → Prop) : Prop := match o with
  | .no => False
  | .ok p' b => ∀ H' O', Rl w G p' σ H' O' → Nx w σ p H O p' H' O' → P p' b H' O'
  | .ex p' c r => ∀ H' O' cls dd, Rl w G p' σ H' O' → Nx w σ p H O p' H' O' → ExR w H' O' c r cls dd → W cls dd σ H'
section
variable {w : Wd} {G : Gh} {W : WX} {σ : L2.St} {p p1 : PSt} {H H1 : Hp} {O O1 : Addr → Prop} {β γ : Type}
theorem Wp.mono {o : Out β} {P P' : PSt → β → Hp → (Addr → Prop) → Prop} (h : Wp w G W σ p H O o P) (k : ∀ p' b H' O', o = .ok p' b → Rl w G p' σ H' O' → Nx w σ p H O p' H' O' → P p' b H' O' → P' p' b H' O') : Wp w G W σ p H O o P' := by
  cases o with
  | no => exact h
  | ok p' b => exact fun H' O' R N => k p' b H' O' rfl R N (h H' O' R N)
  | ex p' c r => exact h
theorem Wp.at (R : Rl w G p σ H O) (N : Nx w σ p H O p1 H1 O1) (R1 : Rl w G p1 σ H1 O1) {o : Out β} {P : PSt → β → Hp → (Addr → Prop) → Prop} (h : Wp w G W σ p H O o P) : Wp w G W σ p1 H1 O1 o P := by
  cases o with
  | no => exact h
  | ok p' b => exact fun H2 O2 R2 N2 => h H2 O2 R2 (N.trans R N2 R1)
  | ex p' c r => exact fun H2 O2 cls dd R2 N2 => h H2 O2 cls dd R2 (N.trans R N2 R1)
theorem Wp.bind0 {o : Out β} {f : PSt → β → Out γ} {P : PSt → γ → Hp → (Addr → Prop) → Prop} (h : Wp w G W σ p H O (o.bind f) P) :
    Wp w G W σ p H O o fun p1 b _ _ => Wp w G W σ p H O (f p1 b) P := by
  cases o with
  | no => exact h
  | ex p' c r => exact h
  | ok p1 b => exact fun _ _ _ _ => h
theorem Wp.bind (R : Rl w G p σ H O) {o : Out β} {f : PSt → β → Out γ} {P : PSt → γ → Hp → (Addr → Prop) → Prop} (h : Wp w G W σ p H O (o.bind f) P) :
    Wp w G W σ p H O o fun p1 b H1 O1 => Wp w G W σ p1 H1 O1 (f p1 b) P := by
  cases o with
  | no => exact h
  | ex p' c r => exact h
  | ok p1 b =>
    intro H1 O1 R1 N1
    have h' : Wp w G W σ p H O (f p1 b) P := h
    cases e : f p1 b with
    | no => rw [e] at h'; exact h'
    | ok p2 c =>
      rw [e] at h'
      exact fun H2 O2 R2 N2 => h' H2 O2 R2 (N1.trans R N2 R1)
    | ex p2 c r =>
      rw [e] at h'
      exact fun H2 O2 cls dd R2 N2 => h' H2 O2 cls dd R2 (N1.trans R N2 R1)
end

/-! ### readings -/
abbrev Sm := PSt → Out (Kd × D)
abbrev SmT := PSt → Out Bool
abbrev SmA := PSt → Out (List D)
abbrev SmB := PSt → Out (List (Kd × D))
def VRs (w : Wd) (Hs : Hp) (p : PSt) (σ : L2.St) (H : Hp) (O : Addr → Prop) : List (Kd × D) → List V → Prop
  | [], vs => vs = []
  | x :: xs, vs => ∃ v r, vs = v :: r ∧ VR w Hs p σ H O x.1 x.2 v ∧ VRs w Hs p σ H O xs r
section
variable (w : Wd) (G : Gh) (W : WX)
def tE (f : Sm) : TE := fun σ H Q => ∃ p O, Rl w G p σ H O ∧ Wp w G W σ p H O (f p) fun p' x H' O' => ∀ v, VR w H p' σ H' O' x.1 x.2 v → Q v H'
def tT (f : SmT) : TT := fun σ H Q => ∃ p O, Rl w G p σ H O ∧ Wp w G W σ p H O (f p) fun p' b H' O' => Q b H'
def tA (f : SmA) : TA := fun σ H Q => ∃ p O, Rl w G p σ H O ∧ Wp w G W σ p H O (f p) fun p' ds H' O' => ∀ vs, RpAll w H' O' ds vs → Q vs H'
def tB' (f : SmB) : TA := fun σ H Q => ∃ p O, Rl w G p σ H O ∧ Wp w G W σ p H O (f p) fun p' xs H' O' => ∀ vs, VRs w H p' σ H' O' xs vs → Q vs H'
end
abbrev _root_.L2.Cx.wd (X : Cx) (α : List Addr) : Wd := ⟨X.K, X.mg, α⟩
/-- a piece of Python and its meaning -/
def SE (X : Cx) (f : Sm) (e : Expr) : Prop := ∀ α G W, Takes X W → PE X e (tE (X.wd α) G W f)
def ST (X : Cx) (f : SmT) (e : Expr) : Prop := ∀ α G W, Takes X W → PT X e (tT (X.wd α) G W f)
def SA (X : Cx) (f : SmA) (es : List Expr) : Prop := ∀ α G W, Takes X W → PA X es (tA (X.wd α) G W f)
def SB (X : Cx) (f : SmB) (es : List Expr) : Prop := ∀ α G W, Takes X W → PA X es (tB' (X.wd α) G W f)
section
variable {X : Cx}
theorem pe_weak {e : Expr} {t t' : TE} (h : PE X e t) (k : ∀ σ H Q, t' σ H Q → t σ H Q) : PE X e t' := ⟨fun pins s σ H Q I q => h.run pins s σ H Q I (k σ H Q q)⟩
theorem pt_weak {e : Expr} {t t' : TT} (h : PT X e t) (k : ∀ σ H Q, t' σ H Q → t σ H Q) : PT X e t' := ⟨fun pins s σ H Q I q => h.run pins s σ H Q I (k σ H Q q)⟩
theorem pa_weak {es : List Expr} {t t' : TA} (h : PA X es t) (k : ∀ σ H Q, t' σ H Q → t σ H Q) : PA X es t' := ⟨fun pos pins s σ H Q I q => h.run pos pins s σ H Q I (k σ H Q q)⟩
end
section
variable {w : Wd} {G : Gh} {p p1 p2 : PSt} {σ : L2.St} {H H1 H2 Hs : Hp} {O O1 O2 Os : Addr → Prop}
theorem VRs.mono (R : Rl w G p σ H O) (N : Nx w σ p H O p1 H1 O1) (ho : ∀ a, a ∈ w.α → Hs a ≠ none) : ∀ (xs : List (Kd × D)) (vs : List V), VRs w Hs p σ H O xs vs → VRs w Hs p1 σ H1 O1 xs vs
  | [], _, h => h
  | x :: xs, _, ⟨v, r, e, h1, h2⟩ => ⟨v, r, e, h1.mono R N ho, VRs.mono R N ho xs r h2⟩
theorem VRs.start (R : Rl w G p σ H O) (N : Nx w σ p H O p1 H1 O1) (R1 : Rl w G p1 σ H1 O1) : ∀ (xs : List (Kd × D)) (vs : List V), VRs w H1 p2 σ H2 O2 xs vs → VRs w H p2 σ H2 O2 xs vs
  | [], _, h => h
  | x :: xs, _, ⟨v, r, e, h1, h2⟩ => ⟨v, r, e, h1.start R N R1, VRs.start R N R1 xs r h2⟩
end
end PM
namespace PM
open PySem PySem.Spec L2

/-! ### operations on values -/
abbrev Op2 := D → D → Option (Bool × D)
abbrev Op1 := D → Option (Bool × D)
abbrev OpN := List D → Option (Bool × D)
abbrev szB (n : Nat) : Bool := decide (n ≤ 16777216)
theorem szB_ok {n : Nat} (h : szB n = true) : n ≤ sizeLine := by rw [sizeLine_eq]; exact of_decide_eq_true h
def guard' (b : Bool) (x : Option (Bool × D)) : Option (Bool × D) := if b = true then x else none
theorem guard_some {b : Bool} {x : Option (Bool × D)} {y : Bool × D} (h : guard' b x = some y) : b = true ∧ x = some y := by
  unfold guard' at h
  split at h
  · exact ⟨by assumption, h⟩
  · cases h
def V1s (w : Wd) (H : Hp) (O : Addr → Prop) : List D → List V → Prop
  | [], vs => vs = []
  | d :: ds, vs => ∃ v r, vs = v :: r ∧ V1 w H O d v ∧ V1s w H O ds r
def OpS2 (X : Cx) (r : R2) (f : Op2) : Prop := ∀ (α : List Addr) (H : Hp) (O : Addr → Prop) (d e : D) (x y : V) (fr : Bool) (z : D) (Q : VK), Dom H O → V1 (X.wd α) H O d x → V1 (X.wd α) H O e y → f d e = some (fr, z) →
  (∀ v H', NewV (X.wd α) H O fr z v H' → Q v H') → r x y H Q
def OpS1 (X : Cx) (r : V → Hp → VK → Prop) (f : Op1) : Prop := ∀ (α : List Addr) (H : Hp) (O : Addr → Prop) (d : D) (x : V) (fr : Bool) (z : D) (Q : VK), Dom H O → V1 (X.wd α) H O d x → f d = some (fr, z) →
  (∀ v H', NewV (X.wd α) H O fr z v H' → Q v H') → r x H Q
def OpSN (X : Cx) (r : List V → Hp → VK → Prop) (f : OpN) : Prop := ∀ (α : List Addr) (H : Hp) (O : Addr → Prop) (ds : List D) (xs : List V) (fr : Bool) (z : D) (Q : VK), Dom H O → V1s (X.wd α) H O ds xs → f ds = some (fr, z) →
  (∀ v H', NewV (X.wd α) H O fr z v H' → Q v H') → r xs H Q

section
variable {w : Wd} {H H' : Hp} {O : Addr → Prop} {x : V} {d : D}
theorem V1.int {i : Int} (h : V1 w H O (.int i) x) : x = .int i := h.elim id fun ⟨_, _, q⟩ => by rcases q with ⟨_, _, e, _⟩ | ⟨_, _, e, _⟩ <;> cases e
theorem V1.bl {b : Bool} (h : V1 w H O (.bl b) x) : x = .bl b := h.elim id fun ⟨_, _, q⟩ => by rcases q with ⟨_, _, e, _⟩ | ⟨_, _, e, _⟩ <;> cases e
theorem V1.non (h : V1 w H O .non x) : x = .non := h.elim id fun ⟨_, _, q⟩ => by rcases q with ⟨_, _, e, _⟩ | ⟨_, _, e, _⟩ <;> cases e
theorem V1.ty {n : String} (h : V1 w H O (.ty n) x) : x = .ty n := h.elim id fun ⟨_, _, q⟩ => by rcases q with ⟨_, _, e, _⟩ | ⟨_, _, e, _⟩ <;> cases e
theorem V1.str {s : List Nat} (h : V1 w H O (.str s) x) : x = .str (tx s) := h.elim id fun ⟨_, _, q⟩ => by rcases q with ⟨_, _, e, _⟩ | ⟨_, _, e, _⟩ <;> cases e
theorem V1.tup {ds : List D} (h : V1 w H O (.tup ds) x) : ∃ a vs, x = .ref a ∧ SqT w.K H a vs ∧ RpAll w H O ds vs := h.elim id fun ⟨_, _, q⟩ => by rcases q with ⟨_, _, e, _⟩ | ⟨_, _, e, _⟩ <;> cases e
theorem V1.tupR {ds : List D} (h : V1 w H O (.tup ds) x) : Rp w H O (.tup ds) x := h.elim id fun ⟨_, _, q⟩ => by rcases q with ⟨_, _, e, _⟩ | ⟨_, _, e, _⟩ <;> cases e
theorem V1.lst {ds : List D} (h : V1 w H O (.lst ds) x) : ∃ a vs, x = .ref a ∧ H a = some (.lst vs) ∧ RpAll w H O ds vs := by
  rcases h with ⟨a, vs, e, h, _, r⟩ | ⟨a, e, q⟩
  · exact ⟨a, vs, e, h, r⟩
  · rcases q with ⟨ds', vs, e', h, r⟩ | ⟨_, _, e', _⟩
    · cases e'
      exact ⟨a, vs, e, h, r⟩
    · cases e'
theorem V1.flst {ds : List D} (h : V1 w H O (.flst ds) x) : ∃ a vs, x = .ref a ∧ FzL w.K H a vs ∧ RpAll w H O ds vs := h.elim id fun ⟨_, _, q⟩ => by rcases q with ⟨_, _, e, _⟩ | ⟨_, _, e, _⟩ <;> cases e
theorem V1.dct {ps : List (D × D)} (h : V1 w H O (.dct ps) x) : ∃ a kvs, x = .ref a ∧ H a = some (.dK kvs) ∧ RpKv w H O ps kvs := by
  rcases h with ⟨a, vs, e, h, _, r⟩ | ⟨a, e, q⟩
  · exact ⟨a, vs, e, h, r⟩
  · rcases q with ⟨_, _, e', _⟩ | ⟨ps', kvs, e', h, r⟩
    · cases e'
    · cases e'
      exact ⟨a, kvs, e, h, r⟩
/-- results -/
theorem newV_same {v : V} (h : Rp w H O d v) : NewV w H O false d v H := ⟨Gr.refl, h⟩
theorem newV_tup (hd : Dom H O) {ds : List D} {vs : List V} (r : RpAll w H O ds vs) {p : Addr} (h : H p = none) : NewV w H O false (.tup ds) (.ref p) (upd H p (.tup vs)) :=
  ⟨Gr.new h, p, vs, rfl, .inl (.inl upd_same), r.mono (Gr.new h).fz hd⟩
theorem newV_lst (hd : Dom H O) {ds : List D} {vs : List V} (r : RpAll w H O ds vs) {p : Addr} (h : H p = none) : NewV w H O true (.lst ds) (.ref p) (upd H p (.lst vs)) :=
  ⟨Gr.new h, p, rfl, h, .inl ⟨ds, vs, rfl, upd_same, r.mono ((Gr.new h).fzA h) hd⟩⟩
theorem newV_dct (hd : Dom H O) {ps : List (D × D)} {kvs : List (Key × V)} (r : RpKv w H O ps kvs) {p : Addr} (h : H p = none) : NewV w H O true (.dct ps) (.ref p) (upd H p (.dK kvs)) :=
  ⟨Gr.new h, p, rfl, h, .inr ⟨ps, kvs, rfl, upd_same, r.mono ((Gr.new h).fzA h) hd⟩⟩
end

/-! ### + - * // % -/
def addD : Op2
  | .int i, .int j => some (false, .int (i + j))
  | .str s, .str t => guard' (szB (s.length + t.length)) (some (false, .str (s ++ t)))
  | .tup xs, .tup ys => guard' (szB (xs.length + ys.length)) (some (false, .tup (xs ++ ys)))
  | .lst xs, .lst ys => guard' (szB (xs.length + ys.length)) (some (true, .lst (xs ++ ys)))
  | _, _ => none
def subD : Op2
  | .int i, .int j => some (false, .int (i - j))
  | _, _ => none
def mulB (i j : Int) : Bool := decide (i.natAbs < 2 ^ 64) || decide (j.natAbs < 2 ^ 64) || decide (i.natAbs.log2 + j.natAbs.log2 < 100000000)
def mulD : Op2
  | .int i, .int j => guard' (mulB i j) (some (false, .int (i * j)))
  | .str s, .int k => guard' (decide (-(2 ^ 63) ≤ k ∧ k < 2 ^ 63) && szB (s.length * k.toNat)) (some (false, .str (List.replicate k.toNat s).flatten))
  | .lst xs, .int k => guard' (decide (-(2 ^ 63) ≤ k ∧ k < 2 ^ 63) && szB (xs.length * k.toNat)) (some (true, .lst (List.replicate k.toNat xs).flatten))
  | _, _ => none
def fdivB (j : Int) : Bool := decide (0 < j) && decide (j.natAbs.log2 < 9000)
def fdivD : Op2
  | .int i, .int j => guard' (fdivB j) (some (false, .int (i / j)))
  | _, _ => none
def modD : Op2
  | .int i, .int j => guard' (decide (0 < j)) (some (false, .int (i % j)))
  | _, _ => none
def powD : Op2
  | .int i, .int j => guard' (decide (0 ≤ j) && decide (j ≤ 1000000) && decide (i.natAbs < 2 ^ 64)) (some (false, .int (i ^ j.toNat)))
  | _, _ => none
def negD : Op1
  | .int i => some (false, .int (-i))
  | _ => none

theorem mulB_ok {i j : Int} (h : mulB i j = true) : IntMulOk i j := by
  unfold mulB at h
  simp only [Bool.or_eq_true, decide_eq_true_eq] at h
  rcases h with (h | h) | h
  · exact .of_left (intBits_le_64 (by omega) (by omega))
  · exact .of_right (intBits_le_64 (by omega) (by omega))
  · have b : ∀ x : Int, Builtin.Int.intBits x ≤ x.natAbs.log2 + 1 := fun x => by
      unfold Builtin.Int.intBits
      split <;> omega
    have h1 := b i
    have h2 := b j
    have e : bitsLine = 134217728 := by decide
    unfold IntMulOk
    intro z
    simp only [Bool.and_eq_true] at z
    have z2 := z.2
    unfold Builtin.Int.intTooBig at z2
    have z3 := of_decide_eq_true z2
    rw [e] at z3
    omega
section
variable {X : Cx}
theorem op_mulI : OpR X (binaryOp .Mult) (rI IntMulOk fun i j => .int (i * j)) := opI fun _ _ _ _ _ _ _ hc q => PyProof.Rows.mul_int q hc
def rRepS : R2 := fun x y H Q => ∃ z k, x = .str z ∧ y = .int k ∧ -(2 ^ 63) ≤ k ∧ k < 2 ^ 63 ∧ z.length * k.toNat ≤ sizeLine ∧ Q (.str ⟨((List.replicate k.toNat z.cps.toList).flatten).toArray⟩) H
theorem foldl_cps (l : List Nat) : ∀ (n : Nat) (acc : Array Nat), (List.replicate n l.toArray).foldl (· ++ ·) acc = acc ++ ((List.replicate n l).flatten).toArray
  | 0, acc => by simp
  | n + 1, acc => by
    rw [List.replicate_succ, List.foldl_cons, foldl_cps l n, List.replicate_succ, List.flatten_cons, Array.append_assoc]
    congr 1
    simp
theorem op_repS : OpR X (binaryOp .Mult) rRepS := by
  intro pins s σ H x y v u Q I rx ry h
  obtain ⟨z, k, rfl, rfl, h1, h2, hz, q⟩ := h
  obtain ⟨t, rfl⟩ := rx
  obtain ⟨t', rfl⟩ := ry
  have hl : sizeLine = 16777216 := sizeLine_eq
  refine PySem.P.mul_str (by
    have e1 : decide (k < -(2 ^ 63 : Int)) = false := decide_eq_false (by omega)
    have e2 : decide (k ≥ 2 ^ 63) = false := decide_eq_false (by omega)
    rw [e1, e2]; rfl) (fun k1 k2 => ?_) (fun k1 k2 => ?_) ?_
  · intro c
    have k3 : (z.length : Int) * k ≤ 16777216 := by
      have e : ((z.length * k.toNat : Nat) : Int) = (z.length : Int) * k := by
        rw [Int.natCast_mul, Int.toNat_of_nonneg (by omega)]
      rw [← e]; omega
    have k4 : (2 ^ 63 - 1) / k * k ≥ (2 ^ 63 - 1) - (k - 1) := by
      have := Int.mul_ediv_add_emod (2 ^ 63 - 1) k
      have m := Int.emod_lt_of_pos (2 ^ 63 - 1) (show 0 < k by omega)
      rw [Int.mul_comm] at this
      omega
    have k5 : ((2 ^ 63 - 1) / k + 1) * k ≤ (z.length : Int) * k := Int.mul_le_mul_of_nonneg_right (by omega) (by omega)
    rw [Int.add_mul] at k5
    omega
  · have e : Builtin.Str.tooLong (z.length * k.toNat) = false := by
      unfold Builtin.Str.tooLong
      exact decide_eq_false (by omega)
    exact e
  · by_cases c1 : k < 1
    · rw [if_pos c1]
      have e0 : k.toNat = 0 := by omega
      rw [e0] at q
      exact ⟨by decide, .str Str.empty, H, I.tok _, ⟨_, rfl⟩, q⟩
    · rw [if_neg c1]
      by_cases c2 : (k == 1 || z.length == 0) = true
      · rw [if_pos c2]
        refine ⟨.str z, H, I, ⟨_, rfl⟩, ?_⟩
        have e : (List.replicate k.toNat z.cps.toList).flatten = z.cps.toList := by
          rcases Bool.or_eq_true _ _ ▸ c2 with c | c
          · have : k = 1 := by simpa using c
            subst this
            simp
          · have : z.cps.toList = [] := by
              have : z.cps.size = 0 := by simpa [Str.length] using c
              exact List.eq_nil_of_length_eq_zero (by simpa using this)
            rw [this]
            simp
        rw [e] at q
        exact q
      · rw [if_neg c2]
        have e := foldl_cps z.cps.toList k.toNat #[]
        have e2 : (List.replicate k.toNat z.cps).foldl (· ++ ·) #[] = ((List.replicate k.toNat z.cps.toList).flatten).toArray := by
          rw [Array.toArray_toList] at e
          rw [e]; simp
        rw [e2]
        refine ⟨?_, .str _, H, I.tok _, ⟨_, rfl⟩, q⟩
        show _ ≤ sizeLine
        simp only [Str.length, List.size_toArray, List.length_flatten, List.map_replicate, List.sum_replicate_nat, Array.length_toList]
        have : k.toNat * z.cps.size = z.length * k.toNat := Nat.mul_comm _ _
        omega
/-- all of + -/
def rAddA (K : PySem.W.Frag) : R2 := fun x y H Q => (rI0 (fun i j => .int (i + j)) x y H Q ∨ ∃ i j, x = .str i ∧ y = .str j ∧ i.length + j.length ≤ sizeLine ∧ Q (.str (i ++ j)) H) ∨ rCatA K x y H Q ∨ rCat x y H Q
theorem op_addA : OpR X (binaryOp .Add) (rAddA X.K) := (op_add.or op_add_str).or (op_catA.or op_cat)
theorem tx_app (s t : List Nat) : tx s ++ tx t = tx (s ++ t) := by
  show (⟨s.toArray ++ t.toArray⟩ : Str) = _
  simp
theorem tx_len (s : List Nat) : (tx s).length = s.length := by simp [Str.length]
theorem tx_list (s : List Nat) : (tx s).cps.toList = s := by simp
theorem os_add : OpS2 X (rAddA X.K) addD := by
  intro α H O d e x y fr z Q hd vx vy hf q
  unfold addD at hf
  split at hf
  · cases hf
    exact .inl (.inl ⟨_, _, vx.int, vy.int, q _ _ (newV_same rfl)⟩)
  · obtain ⟨h1, h2⟩ := guard_some hf
    cases h2
    refine .inl (.inr ⟨_, _, vx.str, vy.str, ?_, ?_⟩)
    · rw [tx_len, tx_len]; exact szB_ok h1
    · rw [tx_app]; exact q _ _ (newV_same rfl)
  · obtain ⟨h1, h2⟩ := guard_some hf
    cases h2
    rename_i xs ys
    obtain ⟨a, vs, rfl, ha, ra⟩ := vx.tup
    obtain ⟨b, us, rfl, hb, rb⟩ := vy.tup
    refine .inr (.inl ⟨a, b, vs, us, rfl, rfl, ha, hb, by rw [ra.len, rb.len]; exact szB_ok h1, fun e => q _ _ (newV_same ?_), fun _ e => q _ _ (newV_same ?_), fun _ _ p hp => q _ _ (newV_tup hd (ra.append rb) hp)⟩)
    · have e2 : xs = [] := List.eq_nil_of_length_eq_zero (by rw [← ra.len, e]; rfl)
      subst e2
      exact ⟨b, us, rfl, hb, rb⟩
    · have e2 : ys = [] := List.eq_nil_of_length_eq_zero (by rw [← rb.len, e]; rfl)
      subst e2
      rw [List.append_nil]
      exact ⟨a, vs, rfl, ha, ra⟩
  · obtain ⟨h1, h2⟩ := guard_some hf
    cases h2
    obtain ⟨a, vs, rfl, ha, ra⟩ := vx.lst
    obtain ⟨b, us, rfl, hb, rb⟩ := vy.lst
    exact .inr (.inr ⟨a, b, vs, us, rfl, rfl, ha, hb, by rw [ra.len, rb.len]; exact szB_ok h1, fun p hp => q _ _ (newV_lst hd (ra.append rb) hp)⟩)
  · cases hf
theorem os_sub : OpS2 X (rI0 fun i j => .int (i - j)) subD := by
  intro α H O d e x y fr z Q hd vx vy hf q
  unfold subD at hf
  split at hf
  · cases hf
    exact ⟨_, _, vx.int, vy.int, q _ _ (newV_same rfl)⟩
  · cases hf
def rMulA : R2 := fun x y H Q => rI IntMulOk (fun i j => .int (i * j)) x y H Q ∨ rRepS x y H Q ∨ rRep x y H Q
theorem op_mulA : OpR X (binaryOp .Mult) rMulA := op_mulI.or (op_repS.or op_rep)
theorem RpAll.rep {w : Wd} {H : Hp} {O : Addr → Prop} {ds : List D} {vs : List V} (r : RpAll w H O ds vs) : ∀ n : Nat, RpAll w H O (List.replicate n ds).flatten (List.replicate n vs).flatten
  | 0 => rfl
  | n + 1 => by
    rw [List.replicate_succ, List.flatten_cons, List.replicate_succ, List.flatten_cons]
    exact r.append (r.rep n)
theorem os_mul : OpS2 X rMulA mulD := by
  intro α H O d e x y fr z Q hd vx vy hf q
  unfold mulD at hf
  split at hf
  · obtain ⟨h1, h2⟩ := guard_some hf
    cases h2
    exact .inl ⟨_, _, vx.int, vy.int, mulB_ok h1, q _ _ (newV_same rfl)⟩
  · obtain ⟨h1, h2⟩ := guard_some hf
    cases h2
    rw [Bool.and_eq_true, decide_eq_true_eq] at h1
    refine .inr (.inl ⟨_, _, vx.str, vy.int, h1.1.1, h1.1.2, ?_, ?_⟩)
    · rw [tx_len]; exact szB_ok h1.2
    · rw [tx_list]; exact q _ _ (newV_same rfl)
  · obtain ⟨h1, h2⟩ := guard_some hf
    cases h2
    rw [Bool.and_eq_true, decide_eq_true_eq] at h1
    obtain ⟨a, vs, rfl, ha, ra⟩ := vx.lst
    exact .inr (.inr ⟨a, _, vs, rfl, vy.int, ha, h1.1.1, h1.1.2, by rw [ra.len]; exact szB_ok h1.2, fun p hp => q _ _ (newV_lst hd (ra.rep _) hp)⟩)
  · cases hf
theorem os_fdiv : OpS2 X (rI CDivW fun i j => .int (i / j)) fdivD := by
  intro α H O d e x y fr z Q hd vx vy hf q
  unfold fdivD at hf
  split at hf
  · obtain ⟨h1, h2⟩ := guard_some hf
    cases h2
    unfold fdivB at h1
    rw [Bool.and_eq_true, decide_eq_true_eq, decide_eq_true_eq] at h1
    exact ⟨_, _, vx.int, vy.int, h1, q _ _ (newV_same rfl)⟩
  · cases hf
theorem os_mod : OpS2 X (rI (fun _ j => 0 < j) fun i j => .int (i % j)) modD := by
  intro α H O d e x y fr z Q hd vx vy hf q
  unfold modD at hf
  split at hf
  · obtain ⟨h1, h2⟩ := guard_some hf
    cases h2
    exact ⟨_, _, vx.int, vy.int, of_decide_eq_true h1, q _ _ (newV_same rfl)⟩
  · cases hf
theorem os_pow : OpS2 X (rI CPow fun i j => .int (i ^ j.toNat)) powD := by
  intro α H O d e x y fr z Q hd vx vy hf q
  unfold powD at hf
  split at hf
  · obtain ⟨h1, h2⟩ := guard_some hf
    cases h2
    simp only [Bool.and_eq_true, decide_eq_true_eq] at h1
    exact ⟨_, _, vx.int, vy.int, ⟨h1.1.1, h1.1.2, h1.2⟩, q _ _ (newV_same rfl)⟩
  · cases hf
theorem os_neg : OpS1 X (rU fun i => .int (-i)) negD := by
  intro α H O d x fr z Q hd vx hf q
  unfold negD at hf
  split at hf
  · cases hf
    exact ⟨_, vx.int, q _ _ (newV_same rfl)⟩
  · cases hf
end

/-! ### == != < <= in is -/
mutual
def toPy : D → Option PyData
  | .non => some .none
  | .bl b => some (.bool b)
  | .int i => some (.int i)
  | .str s => some (.str (tx s))
  | .tup xs => (toPys xs).map .tuple
  | .lst xs => (toPys xs).map .list
  | .flst _ => none
  | .dct _ => none
  | .fn _ => none
  | .ob _ => none
  | .ty _ => none
def toPys : List D → Option (List PyData)
  | [] => some []
  | d :: ds => (toPy d).bind fun x => (toPys ds).map fun xs => x :: xs
end
section
variable {w : Wd} {H : Hp} {O : Addr → Prop}
mutual
theorem Rp.dp : ∀ (d : D) (v : V) (p : PyData), Rp w H O d v → toPy d = some p → Dp w.K H v p
  | .non, v, p, h, e => by cases e; cases (show v = .non from h); exact .non
  | .bl b, v, p, h, e => by cases e; cases (show v = .bl b from h); exact .bl b
  | .int i, v, p, h, e => by cases e; cases (show v = .int i from h); exact .int i
  | .str s, v, p, h, e => by cases e; cases (show v = .str (tx s) from h); exact .str _
  | .tup xs, v, p, ⟨a, vs, e1, h, r⟩, e => by
    have e : (toPys xs).map .tuple = some p := e
    obtain ⟨ys, e2, e3⟩ := Option.map_eq_some_iff.mp e
    subst e1 e3
    exact .tup h (RpAll.dp xs vs ys r e2)
  | .lst xs, v, p, ⟨a, vs, e1, h, n, r⟩, e => by
    have e : (toPys xs).map .list = some p := e
    obtain ⟨ys, e2, e3⟩ := Option.map_eq_some_iff.mp e
    subst e1 e3
    exact .lst (.of h) (RpAll.dp xs vs ys r e2)
  | .flst _, _, _, _, e => by cases e
  | .dct _, _, _, _, e => by cases e
  | .fn _, _, _, _, e => by cases e
  | .ob _, _, _, _, e => by cases e
  | .ty _, _, _, _, e => by cases e
theorem RpAll.dp : ∀ (ds : List D) (vs : List V) (ps : List PyData), RpAll w H O ds vs → toPys ds = some ps → DpAll w.K H vs ps
  | [], vs, ps, h, e => by cases e; cases (show vs = [] from h); exact .nil
  | d :: ds, vs, ps, ⟨v, r, e1, h1, h2⟩, e => by
    have e : (toPy d).bind (fun x => (toPys ds).map fun xs => x :: xs) = some ps := e
    obtain ⟨x, e2, e3⟩ := Option.bind_eq_some_iff.mp e
    obtain ⟨xs, e4, e5⟩ := Option.map_eq_some_iff.mp e3
    subst e1 e5
    exact .cons (Rp.dp d v x h1 e2) (RpAll.dp ds r xs h2 e4)
end
theorem V1.dp {d : D} {v : V} {p : PyData} (h : V1 w H O d v) (e : toPy d = some p) : Dp w.K H v p := by
  rcases h with h | ⟨a, rfl, h⟩
  · exact Rp.dp d v p h e
  · rcases h with ⟨ds, vs, rfl, ha, r⟩ | ⟨_, _, rfl, _, _⟩
    · have e : (toPys ds).map .list = some p := e
      obtain ⟨ys, e2, e3⟩ := Option.map_eq_some_iff.mp e
      subst e3
      exact .lst (.of ha) (RpAll.dp ds vs ys r e2)
    · cases e
end
/-- == of data: none where the library has no answer -/
def eqD (d e : D) : Option Bool := match toPy d, toPy e with
  | some p, some q => if SeqAt.shaped p = true ∧ SeqAt.shaped q = true then some (PyData.eqv p q) else none
  | _, _ => none
def eqD2 : Op2 := fun d e => (eqD d e).map fun b => (false, .bl b)
def neD2 : Op2 := fun d e => (eqD d e).map fun b => (false, .bl (!b))
def ltD2 : Op2
  | .int i, .int j => some (false, .bl (decide (i < j)))
  | .str s, .str t => some (false, .bl (decide (s < t)))
  | _, _ => none
def leD2 : Op2
  | .int i, .int j => some (false, .bl (decide (i ≤ j)))
  | .str s, .str t => some (false, .bl (!decide (t < s)))
  | _, _ => none
def gtD2 : Op2
  | .int i, .int j => some (false, .bl (decide (j < i)))
  | .str s, .str t => some (false, .bl (decide (t < s)))
  | _, _ => none
def geD2 : Op2
  | .int i, .int j => some (false, .bl (decide (j ≤ i)))
  | .str s, .str t => some (false, .bl (!decide (s < t)))
  | _, _ => none
def isNone : D → Bool
  | .non => true
  | _ => false
def isD2 : Op2
  | d, .non => some (false, .bl (isNone d))
  | _, _ => none
def isntD2 : Op2
  | d, .non => some (false, .bl (!isNone d))
  | _, _ => none
section
variable {X : Cx}
theorem eqD_some {d e : D} {b : Bool} (h : eqD d e = some b) : ∃ p q, toPy d = some p ∧ toPy e = some q ∧ SeqAt.shaped p = true ∧ SeqAt.shaped q = true ∧ PyData.eqv p q = b := by
  unfold eqD at h
  split at h
  · rename_i p q e1 e2
    split at h
    · rename_i hs
      cases h
      exact ⟨p, q, e1, e2, hs.1, hs.2, rfl⟩
    · cases h
  · cases h
theorem os_eq : OpS2 X (rEqD X.K) eqD2 := by
  intro α H O d e x y fr z Q hd vx vy hf q
  obtain ⟨b, h1, h2⟩ := Option.map_eq_some_iff.mp hf
  obtain ⟨p, p', e1, e2, s1, s2, e3⟩ := eqD_some h1
  cases h2
  subst e3
  exact ⟨p, p', vx.dp e1, vy.dp e2, s1, s2, q _ _ (newV_same rfl)⟩
theorem os_ne : OpS2 X (rNeD X.K) neD2 := by
  intro α H O d e x y fr z Q hd vx vy hf q
  obtain ⟨b, h1, h2⟩ := Option.map_eq_some_iff.mp hf
  obtain ⟨p, p', e1, e2, s1, s2, e3⟩ := eqD_some h1
  cases h2
  subst e3
  exact ⟨p, p', vx.dp e1, vy.dp e2, s1, s2, q _ _ (newV_same rfl)⟩
def rCmpA (p : Int → Int → Bool) (g : List Nat → List Nat → Bool) : R2 := fun x y H Q => rI0 (fun i j => .bl (p i j)) x y H Q ∨ ∃ i j, x = .str i ∧ y = .str j ∧ Q (.bl (g i.cps.toList j.cps.toList)) H
theorem op_ltA : OpR X (compareOp .Lt) (rCmpA (fun i j => decide (i < j)) fun i j => decide (i < j)) := op_lt.or op_lt_str
theorem op_leA : OpR X (compareOp .LtE) (rCmpA (fun i j => decide (i ≤ j)) fun i j => !decide (j < i)) := op_le.or op_le_str
theorem op_gtA : OpR X (compareOp .Gt) (rCmpA (fun i j => decide (j < i)) fun i j => decide (j < i)) := op_gt.or op_gt_str
theorem op_geA : OpR X (compareOp .GtE) (rCmpA (fun i j => decide (j ≤ i)) fun i j => !decide (i < j)) := op_ge.or op_ge_str
theorem os_cmpA {p : Int → Int → Bool} {g : List Nat → List Nat → Bool} {f : Op2} (h1 : ∀ i j, f (.int i) (.int j) = some (false, .bl (p i j))) (h2 : ∀ s t, f (.str s) (.str t) = some (false, .bl (g s t)))
    (h3 : ∀ d e r, f d e = some r → (∃ i j, d = .int i ∧ e = .int j) ∨ ∃ s t, d = .str s ∧ e = .str t) : OpS2 X (rCmpA p g) f := by
  intro α H O d e x y fr z Q hd vx vy hf q
  rcases h3 d e _ hf with ⟨i, j, rfl, rfl⟩ | ⟨s, t, rfl, rfl⟩
  · rw [h1] at hf; cases hf
    exact .inl ⟨_, _, vx.int, vy.int, q _ _ (newV_same rfl)⟩
  · rw [h2] at hf; cases hf
    refine .inr ⟨_, _, vx.str, vy.str, ?_⟩
    rw [tx_list, tx_list]
    exact q _ _ (newV_same rfl)
theorem os_lt : OpS2 X (rCmpA (fun i j => decide (i < j)) fun i j => decide (i < j)) ltD2 := os_cmpA (fun _ _ => rfl) (fun _ _ => rfl) fun d e r h => by
  unfold ltD2 at h
  split at h <;> first | exact .inl ⟨_, _, rfl, rfl⟩ | exact .inr ⟨_, _, rfl, rfl⟩ | cases h
theorem os_le : OpS2 X (rCmpA (fun i j => decide (i ≤ j)) fun i j => !decide (j < i)) leD2 := os_cmpA (fun _ _ => rfl) (fun _ _ => rfl) fun d e r h => by
  unfold leD2 at h
  split at h <;> first | exact .inl ⟨_, _, rfl, rfl⟩ | exact .inr ⟨_, _, rfl, rfl⟩ | cases h
theorem os_gt : OpS2 X (rCmpA (fun i j => decide (j < i)) fun i j => decide (j < i)) gtD2 := os_cmpA (fun _ _ => rfl) (fun _ _ => rfl) fun d e r h => by
  unfold gtD2 at h
  split at h <;> first | exact .inl ⟨_, _, rfl, rfl⟩ | exact .inr ⟨_, _, rfl, rfl⟩ | cases h
theorem os_ge : OpS2 X (rCmpA (fun i j => decide (j ≤ i)) fun i j => !decide (i < j)) geD2 := os_cmpA (fun _ _ => rfl) (fun _ _ => rfl) fun d e r h => by
  unfold geD2 at h
  split at h <;> first | exact .inl ⟨_, _, rfl, rfl⟩ | exact .inr ⟨_, _, rfl, rfl⟩ | cases h
theorem isNone_v {w : Wd} {H : Hp} {O : Addr → Prop} {d : D} {v : V} (h : V1 w H O d v) : decide (v = .non) = isNone d := by
  have go : ∀ (d : D) (v : V), Rp w H O d v → decide (v = .non) = isNone d := fun d v h => by
    cases d with
    | non => cases (show v = .non from h); rfl
    | bl b => cases (show v = .bl b from h); rfl
    | int b => cases (show v = .int b from h); rfl
    | str b => cases (show v = .str (tx b) from h); rfl
    | ty b => cases (show v = .ty b from h); rfl
    | tup b => obtain ⟨a, vs, e, _⟩ := h; cases e; rfl
    | lst b => obtain ⟨a, vs, e, _⟩ := h; cases e; rfl
    | flst b => obtain ⟨a, vs, e, _⟩ := h; cases e; rfl
    | dct b => obtain ⟨a, vs, e, _⟩ := h; cases e; rfl
    | fn b => obtain ⟨a, e, _⟩ := h; cases e; rfl
    | ob b => obtain ⟨a, e, _⟩ := h; cases e; rfl
  rcases h with h | ⟨a, rfl, h⟩
  · exact go d v h
  · rcases h with ⟨ds, vs, rfl, ha, r⟩ | ⟨_, _, rfl, _, _⟩ <;> rfl
theorem os_is : OpS2 X (fun x y H Q => y = .non ∧ Q (.bl (decide (x = .non))) H) isD2 := by
  intro α H O d e x y fr z Q hd vx vy hf q
  unfold isD2 at hf
  split at hf
  · cases hf
    exact ⟨vy.non, by rw [isNone_v vx]; exact q _ _ (newV_same rfl)⟩
  · cases hf
theorem os_isnt : OpS2 X (fun x y H Q => y = .non ∧ Q (.bl (!decide (x = .non))) H) isntD2 := by
  intro α H O d e x y fr z Q hd vx vy hf q
  unfold isntD2 at hf
  split at hf
  · cases hf
    exact ⟨vy.non, by rw [isNone_v vx]; exact q _ _ (newV_same rfl)⟩
  · cases hf
end

/-! ### a[i], a[i:j], truth -/
def ixD : Op2
  | .tup xs, .int i => (atI xs i).map fun d => (false, d)
  | .lst xs, .int i => (atI xs i).map fun d => (false, d)
  | .str s, .int i => guard' (szB s.length) ((atI s i).map fun c => (false, .str [c]))
  | _, _ => none
theorem RpAll.at {w : Wd} {H : Hp} {O : Addr → Prop} {ds : List D} {vs : List V} (r : RpAll w H O ds vs) {i : Int} {d : D} (h : atI ds i = some d) : ∃ v, atI vs i = some v ∧ Rp w H O d v := by
  unfold atI at h ⊢
  rw [r.len]
  cases e : ixN ds.length i with
  | none => rw [e] at h; cases h
  | some j =>
    rw [e] at h
    exact r.get h
section
variable {X : Cx}
theorem os_ix : OpS2 X (rIx X.K) ixD := by
  intro α H O d e x y fr z Q hd vx vy hf q
  unfold ixD at hf
  split at hf
  · obtain ⟨d, h1, h2⟩ := Option.map_eq_some_iff.mp hf
    cases h2
    obtain ⟨a, vs, rfl, ha, ra⟩ := vx.tup
    obtain ⟨v, hv, rv⟩ := ra.at h1
    exact .inr (.inl ⟨a, vs, _, v, rfl, vy.int, ha, hv, q _ _ (newV_same rv)⟩)
  · obtain ⟨d, h1, h2⟩ := Option.map_eq_some_iff.mp hf
    cases h2
    obtain ⟨a, vs, rfl, ha, ra⟩ := vx.lst
    obtain ⟨v, hv, rv⟩ := ra.at h1
    exact .inl ⟨a, vs, _, v, rfl, vy.int, .of ha, hv, q _ _ (newV_same rv)⟩
  · obtain ⟨h0, hf⟩ := guard_some hf
    obtain ⟨c, h1, h2⟩ := Option.map_eq_some_iff.mp hf
    cases h2
    refine .inr (.inr ⟨_, _, c, vx.str, vy.int, ?_, ?_, q _ _ (newV_same ?_)⟩)
    · rw [tx_len]; exact szB_ok h0
    · rw [tx_list]; exact h1
    · show V.str ⟨#[c]⟩ = .str (tx [c])
      rfl
  · cases hf
end
/-- a part of a sequence -/
def cutL {β : Type} (l : List β) (lo hi : Option Int) : List β := (l.drop (HT.sIx l.length 0 lo)).take (HT.sIx l.length l.length hi - HT.sIx l.length 0 lo)
def slD (d : D) (lo hi : Option Int) : Option (Bool × D) := match d with
  | .tup xs => some (false, .tup (cutL xs lo hi))
  | .lst xs => some (true, .lst (cutL xs lo hi))
  | .str s => guard' (szB s.length) (some (false, .str (cutL s lo hi)))
  | _ => none
theorem RpAll.cut {w : Wd} {H : Hp} {O : Addr → Prop} {ds : List D} {vs : List V} (r : RpAll w H O ds vs) (lo hi : Option Int) : RpAll w H O (cutL ds lo hi) (cutV vs lo hi) := by
  unfold cutL cutV
  rw [r.len]
  exact (r.drop _).take _
def rSlA3 (K : PySem.W.Frag) : V → Option Int → Option Int → Hp → VK → Prop := fun x lo hi H Q => rSlA K x lo hi H Q ∨ rSlL K x lo hi H Q ∨ rSlS x lo hi H Q
section
variable {X : Cx}
theorem sl_all : SlR X (rSlA3 X.K) := sl_tupA.or (sl_list.or sl_str)
theorem os_sl (α : List Addr) (H : Hp) (O : Addr → Prop) (d : D) (x : V) (lo hi : Option Int) (fr : Bool) (z : D) (Q : VK) (hd : Dom H O) (vx : V1 (X.wd α) H O d x) (hf : slD d lo hi = some (fr, z))
    (q : ∀ v H', NewV (X.wd α) H O fr z v H' → Q v H') : rSlA3 X.K x lo hi H Q := by
  unfold slD at hf
  split at hf
  · cases hf
    rename_i xs
    obtain ⟨a, vs, rfl, ha, ra⟩ := vx.tup
    refine .inl ⟨a, vs, rfl, ha, fun e => q _ _ (newV_same ?_), fun _ p hp => q _ _ (newV_tup hd (ra.cut lo hi) hp)⟩
    have e2 : cutL xs lo hi = xs := by
      unfold cutL
      rw [ra.len] at e
      rw [e.1, e.2, List.drop_zero, Nat.sub_zero, List.take_length]
    rw [e2]
    exact ⟨a, vs, rfl, ha, ra⟩
  · cases hf
    obtain ⟨a, vs, rfl, ha, ra⟩ := vx.lst
    exact .inr (.inl ⟨a, vs, rfl, .of ha, fun p hp => q _ _ (newV_lst hd (ra.cut lo hi) hp)⟩)
  · obtain ⟨h1, h2⟩ := guard_some hf
    cases h2
    refine .inr (.inr ⟨_, vx.str, ?_, q _ _ (newV_same ?_)⟩)
    · rw [tx_len]; exact szB_ok h1
    · show V.str (cutS _ lo hi) = .str (tx (cutL _ lo hi))
      unfold cutS cutL
      rw [tx_list, tx_len]
  · cases hf
end
def truD : D → Option Bool
  | .non => some false
  | .bl b => some b
  | .int i => some (i != 0)
  | .str s => if szB s.length = true then some (!s.isEmpty) else none
  | .tup xs => some (!xs.isEmpty)
  | .lst xs => some (!xs.isEmpty)
  | .flst xs => some (!xs.isEmpty)
  | .dct ps => some (!ps.isEmpty)
  | _ => none
theorem len_empty {β γ : Type} {l : List β} {m : List γ} (h : l.length = m.length) : l.isEmpty = m.isEmpty := by
  cases l <;> cases m <;> simp at h ⊢
theorem tru_v {w : Wd} {H : Hp} {O : Addr → Prop} {d : D} {v : V} {b : Bool} (h : V1 w H O d v) (e : truD d = some b) : TruV w.K v H b := by
  cases d with
  | non => rw [h.non]; cases e; rfl
  | bl c => rw [h.bl]; cases e; rfl
  | int c => rw [h.int]; cases e; rfl
  | str s =>
    rw [h.str]
    have e : (if szB s.length = true then some (!s.isEmpty) else none) = some b := e
    split at e
    · rename_i hz
      cases e
      refine ⟨by rw [tx_len]; exact szB_ok hz, ?_⟩
      rw [tx_len]
      cases s with
      | nil => rfl
      | cons c r =>
        have : (((c :: r).length : Nat) : Int) ≠ 0 := by rw [List.length_cons]; omega
        exact (bne_iff_ne.mpr this).symm
    · cases e
  | tup xs =>
    obtain ⟨a, vs, rfl, ha, ra⟩ := h.tup
    cases e
    exact .inr (.inl ⟨vs, ha, by rw [len_empty ra.len]⟩)
  | lst xs =>
    obtain ⟨a, vs, rfl, ha, ra⟩ := h.lst
    cases e
    exact .inl ⟨vs, .of ha, by rw [len_empty ra.len]⟩
  | flst xs =>
    obtain ⟨a, vs, rfl, ha, ra⟩ := h.flst
    cases e
    exact .inl ⟨vs, ha.sq, by rw [len_empty ra.len]⟩
  | dct ps =>
    obtain ⟨a, vs, rfl, ha, ra⟩ := h.dct
    cases e
    exact .inr (.inr ⟨vs, ha, by rw [len_empty ra.len]⟩)
  | fn _ => cases e
  | ob _ => cases e
  | ty _ => cases e
end PM
namespace PM
open PySem PySem.Spec L2

structure Cg (X : Cx) (L : Nat) : Prop where
  calm : X.calm = true
  room : Room L X.A
  nd : X.N.Nodup

/-! ### names and constants -/
def eVar (i : Nat) : Sm := fun p => match p.ρ[i]? with
  | some (.fz d) => .ok p (.fz, d)
  | some (.ow d) => .ok p (.ow i, d)
  | _ => .no
def eCst (d : D) : Sm := fun p => .ok p (.fz, d)
section
variable {X : Cx}
theorem core_var {w : Wd} {G : Gh} {W : WX} {i : Nat} {σ : L2.St} {H : Hp} {Q : VK} (h : tE w G W (eVar i) σ H Q) : tVar i σ H Q := by
  obtain ⟨p, O, R, h⟩ := h
  unfold eVar at h
  split at h
  · rename_i d e
    obtain ⟨v, ev, rv⟩ := R.fz i d e
    exact ⟨v, ev, h H O R Nx.refl v rv⟩
  · rename_i d e
    obtain ⟨a, ea, _⟩ := R.ow i d e
    exact ⟨_, ea, h H O R Nx.refl _ ⟨ea, .inl e⟩⟩
  · exact False.elim h
theorem se_var {i : Nat} {x : Str} {pos : Pos} (hN : X.N[i]? = some x) (hv : Vis X.env.scope x) (hd : (x == ("__debug__" : Str)) = false) (hcd : (x == ("__classdict__" : Str)) = false) : SE X (eVar i) (.Name x pos) :=
  fun α G W tk => pe_weak (pe_var hN hv hd hcd) fun σ H Q h => core_var h
theorem core_cst {w : Wd} {G : Gh} {W : WX} {d : D} {v : V} {σ : L2.St} {H : Hp} {Q : VK} (hr : ∀ H O, Rp w H O d v) (h : tE w G W (eCst d) σ H Q) : tC v σ H Q := by
  obtain ⟨p, O, R, h⟩ := h
  exact h H O R Nx.refl v (hr H O)
theorem se_int {i : Int} {j} {pos : Pos} : SE X (eCst (.int i)) (.Constant (.int i) j pos) := fun α G W tk => pe_weak pe_int fun σ H Q h => core_cst (w := X.wd α) (d := .int i) (fun _ _ => rfl) h
theorem se_bl {i : Bool} {j} {pos : Pos} : SE X (eCst (.bl i)) (.Constant (.bool i) j pos) := fun α G W tk => pe_weak pe_bl fun σ H Q h => core_cst (w := X.wd α) (d := .bl i) (fun _ _ => rfl) h
theorem se_non {j} {pos : Pos} : SE X (eCst .non) (.Constant .none j pos) := fun α G W tk => pe_weak pe_non fun σ H Q h => core_cst (w := X.wd α) (d := .non) (fun _ _ => rfl) h
theorem tx_of (x : Str) : tx x.cps.toList = x := by simp
theorem se_str {x : Str} {j} {pos : Pos} : SE X (eCst (.str x.cps.toList)) (.Constant (.str x) j pos) := fun α G W tk => pe_weak pe_str fun σ H Q h => core_cst (fun _ _ => by show V.str x = .str (tx x.cps.toList); rw [tx_of]) h
/-- a constant of the module -/
theorem se_glob {x : Str} {d : D} {v : V} {u : Value} {pos : Pos} (hg : Gl X x) (hm : X.mg x = some u) (r : RelV v u) (hd : (x == ("__debug__" : Str)) = false) (hr : ∀ α H O, Rp (X.wd α) H O d v) : SE X (eCst d) (.Name x pos) :=
  fun α G W tk => pe_weak (pe_glob hg hm r hd) fun σ H Q h => core_cst (hr α) h
/-- a built-in type as a value -/
theorem se_ty {x : Str} {n : String} {pos : Pos} (hg : Gl X x) (hm : X.mg x = none) (hv : bootBuiltins x = some (.type n)) (hn : x ≠ "__name__") (hd : (x == ("__debug__" : Str)) = false) : SE X (eCst (.ty n)) (.Name x pos) :=
  fun α G W tk => pe_weak (pe_bltn (v := .ty n) hg hm hv rfl hn hd) fun σ H Q h => core_cst (w := X.wd α) (d := .ty n) (fun _ _ => rfl) h
end

/-! ### operators -/
def opOut (p : PSt) : Option (Bool × D) → Out (Kd × D)
  | some (fr, z) => .ok p (kdOf fr, z)
  | none => .no
def eOp2 (f : Op2) (a b : Sm) : Sm := fun p => (a p).bind fun p1 x => (b p1).bind fun p2 y => opOut p2 ((deref p2 x.2).bind fun d => (deref p2 y.2).bind fun e => f d e)
def eOp1 (f : Op1) (a : Sm) : Sm := fun p => (a p).bind fun p1 x => opOut p1 ((deref p1 x.2).bind f)
section
variable {w : Wd} {G : Gh} {W : WX} {σ : L2.St} {p p1 p2 : PSt} {H H1 H2 Hs : Hp} {O O1 O2 Os : Addr → Prop}
theorem Wp.op {o : Option (Bool × D)} {P : PSt → Kd × D → Hp → (Addr → Prop) → Prop} (h : Wp w G W σ p H O (opOut p1 o) P) :
    ∃ fr z, o = some (fr, z) ∧ ∀ H' O', Rl w G p1 σ H' O' → Nx w σ p H O p1 H' O' → P p1 (kdOf fr, z) H' O' := by
  cases o with
  | none => exact False.elim h
  | some x => exact ⟨x.1, x.2, rfl, h⟩
/-- an operation's end -/
theorem op_end {fr : Bool} {z : D} {P : V → Hp → Prop} (Rs : Rl w G p σ Hs Os) (N : Nx w σ p Hs Os p1 H O) (R : Rl w G p1 σ H O)
    (h : ∀ H' O', Rl w G p1 σ H' O' → Nx w σ p1 H O p1 H' O' → ∀ v, VR w Hs p1 σ H' O' (kdOf fr) z v → P v H') : ∀ v H', NewV w H O fr z v H' → P v H' := fun v H' hn => by
  obtain ⟨O', R', N', V'⟩ := hn.rl R
  exact h H' O' R' N' v (V'.start Rs N R)
end
section
variable {X : Cx} {α : List Addr} {G : Gh} {W : WX}
theorem core_op2 {r : R2} {f : Op2} {fa fb : Sm} (hs : OpS2 X r f) {σ : L2.St} {H : Hp} {Q : VK} (h : tE (X.wd α) G W (eOp2 f fa fb) σ H Q) : tOp r (tE (X.wd α) G W fa) (tE (X.wd α) G W fb) σ H Q := by
  obtain ⟨p, O, R, h⟩ := h
  refine ⟨p, O, R, (Wp.bind R h).mono fun p1 x H1 O1 _ R1 N1 h1 v hv => ⟨p1, O1, R1, (Wp.bind R1 h1).mono fun p2 y H2 O2 _ R2 N2 h2 u hu => ?_⟩⟩
  obtain ⟨fr, z, e, h3⟩ := h2.op
  obtain ⟨d, e1, e⟩ := Option.bind_eq_some_iff.mp e
  obtain ⟨d', e2, e3⟩ := Option.bind_eq_some_iff.mp e
  have hv2 := hv.mono R1 N2 R.alN
  exact hs α H2 O2 d d' v u fr z Q R2.dom (hv2.v1 R2 e1) (hu.v1 R2 e2) e3 (op_end R (N1.trans R N2 R1) R2 h3)
theorem core_op1 {r : V → Hp → VK → Prop} {f : Op1} {fa : Sm} (hs : OpS1 X r f) {σ : L2.St} {H : Hp} {Q : VK} (h : tE (X.wd α) G W (eOp1 f fa) σ H Q) : tUn r (tE (X.wd α) G W fa) σ H Q := by
  obtain ⟨p, O, R, h⟩ := h
  refine ⟨p, O, R, (Wp.bind R h).mono fun p1 x H1 O1 _ R1 N1 h1 v hv => ?_⟩
  obtain ⟨fr, z, e, h3⟩ := h1.op
  obtain ⟨d, e1, e3⟩ := Option.bind_eq_some_iff.mp e
  exact hs α H1 O1 d v fr z Q R1.dom (hv.v1 R1 e1) e3 (op_end R N1 R1 h3)
end
section
variable {X : Cx} {a b c : Expr} {pos : Pos} {fa fb fc : Sm}
theorem se_bin {op : Operator} {r : R2} {f : Op2} (ho : OpR X (binaryOp op) r) (hs : OpS2 X r f) (ha : SE X fa a) (hb : SE X fb b) : SE X (eOp2 f fa fb) (.BinOp a op b pos) :=
  fun α G W tk => pe_weak (pe_op ho (ha α G W tk) (hb α G W tk)) fun σ H Q h => core_op2 hs h
theorem se_un {op : UnaryOp} {r : V → Hp → VK → Prop} {f : Op1} (ho : UnR X (unaryOp op) r) (hs : OpS1 X r f) (ha : SE X fa a) : SE X (eOp1 f fa) (.UnaryOp op a pos) :=
  fun α G W tk => pe_weak (pe_un ho (ha α G W tk)) fun σ H Q h => core_op1 hs h
theorem se_cmp {op : CmpOp} {r : R2} {f : Op2} (ho : OpR X (compareOp op) r) (hs : OpS2 X r f) (hm : behindInMarks op b = false) (ha : SE X fa a) (hb : SE X fb b) : SE X (eOp2 f fa fb) (.Compare a [op] [b] pos) :=
  fun α G W tk => pe_weak (pe_cmpR ho (ha α G W tk) (hb α G W tk) hm) fun σ H Q h => core_op2 hs h
theorem se_ix {r : R2} {f : Op2} (ho : IxR X r) (hs : OpS2 X r f) (hm : PlainIx b) (ha : SE X fa a) (hb : SE X fb b) : SE X (eOp2 f fa fb) (.Subscript a b pos) :=
  fun α G W tk => pe_weak (pe_ix ho (ha α G W tk) (hb α G W tk) hm) fun σ H Q h => core_op2 hs h
end

/-! ### tests -/
/-- a value that is a bool -/
def tOfV (f : Sm) : SmT := fun p => (f p).bind fun p1 x => match x.2 with
  | .bl b => .ok p1 b
  | _ => .no
/-- a value's truth -/
def tTru (f : Sm) : SmT := fun p => (f p).bind fun p1 x => match (deref p1 x.2).bind truD with
  | some b => .ok p1 b
  | none => .no
section
variable {w : Wd} {G : Gh} {W : WX} {f : Sm} {σ : L2.St} {H : Hp}
theorem core_ofV {Q : Bool → Hp → Prop} (h : tT w G W (tOfV f) σ H Q) : tE w G W f σ H fun x H' => ∃ k, x = .bl k ∧ Q k H' := by
  obtain ⟨p, O, R, h⟩ := h
  refine ⟨p, O, R, (Wp.bind R h).mono fun p1 x H1 O1 _ R1 N1 h1 v hv => ?_⟩
  obtain ⟨k, d⟩ := x
  cases d with
  | bl c =>
    have v1 := hv.v1 (e := .bl c) R1 rfl
    exact ⟨c, v1.bl, h1 H1 O1 R1 Nx.refl⟩
  | _ => exact False.elim h1
theorem core_tru {K : PySem.W.Frag} (hK : w.K = K) {Q : Bool → Hp → Prop} (h : tT w G W (tTru f) σ H Q) : tE w G W f σ H fun x H' => ∃ k, TruV K x H' k ∧ Q k H' := by
  subst hK
  obtain ⟨p, O, R, h⟩ := h
  refine ⟨p, O, R, (Wp.bind R h).mono fun p1 x H1 O1 _ R1 N1 h1 v hv => ?_⟩
  split at h1
  · rename_i b e
    obtain ⟨d, e1, e2⟩ := Option.bind_eq_some_iff.mp e
    exact ⟨b, tru_v (hv.v1 R1 e1) e2, h1 H1 O1 R1 Nx.refl⟩
  · exact False.elim h1
end
section
variable {X : Cx} {a b c : Expr} {pos : Pos} {fa fb fc : Sm}
theorem st_cmp {op : CmpOp} {r : R2} {f : Op2} (ho : OpR X (compareOp op) r) (hs : OpS2 X r f) (hm : behindInMarks op b = false) (ha : SE X fa a) (hb : SE X fb b) : ST X (tOfV (eOp2 f fa fb)) (.Compare a [op] [b] pos) :=
  fun α G W tk => pt_weak (pt_cmpR ho (ha α G W tk) (hb α G W tk) hm) fun σ H Q h => core_op2 hs (core_ofV h)
theorem st_tru (ha : SE X fa a) (he : ∀ whole, isTrue a X.env whole = (do let v ← whole; standAt a.pos; holding [v] (truthy v))) : ST X (tTru fa) a :=
  fun α G W tk => pt_weak (pt_truth (ha α G W tk) he) fun σ H Q h => core_tru rfl h
end
/-- a op b op' c -/
def eChain (f f' : Op2) (a b c : Sm) : Sm := fun p => (a p).bind fun p1 x => (b p1).bind fun p2 y => match (deref p2 x.2).bind fun d => (deref p2 y.2).bind fun e => f d e with
  | some (_, .bl true) => (c p2).bind fun p3 z => opOut p3 ((deref p3 y.2).bind fun e => (deref p3 z.2).bind fun g => f' e g)
  | some (_, .bl false) => .ok p2 (.fz, .bl false)
  | _ => .no
section
variable {X : Cx} {α : List Addr} {G : Gh} {W : WX}
theorem newV_bl {w : Wd} {H H' : Hp} {O : Addr → Prop} {fr : Bool} {k : Bool} {v : V} (h : NewV w H O fr (.bl k) v H') : v = .bl k := by
  obtain ⟨g, h⟩ := h
  cases fr with
  | false => exact h
  | true =>
    obtain ⟨a, _, _, q⟩ := h
    rcases q with ⟨_, _, e, _⟩ | ⟨_, _, e, _⟩ <;> cases e
theorem core_chain {r r' : R2} {f f' : Op2} {fa fb fc : Sm} (hs : OpS2 X r f) (hs' : OpS2 X r' f') {σ : L2.St} {H : Hp} {Q : VK} (h : tE (X.wd α) G W (eChain f f' fa fb fc) σ H Q) :
    tChain r r' (tE (X.wd α) G W fa) (tE (X.wd α) G W fb) (tE (X.wd α) G W fc) σ H Q := by
  obtain ⟨p, O, R, h⟩ := h
  refine ⟨p, O, R, (Wp.bind R h).mono fun p1 x H1 O1 _ R1 N1 h1 v hv => ⟨p1, O1, R1, (Wp.bind R1 h1).mono fun p2 y H2 O2 _ R2 N2 h2 u hu => ?_⟩⟩
  have hv2 := hv.mono R1 N2 R.alN
  have N12 := N1.trans R N2 R1
  cases e : (deref p2 x.2).bind (fun d => (deref p2 y.2).bind fun e => f d e) with
  | none => rw [e] at h2; exact False.elim h2
  | some q =>
    rw [e] at h2
    obtain ⟨fr, z⟩ := q
    obtain ⟨d, e1, e⟩ := Option.bind_eq_some_iff.mp e
    obtain ⟨d', e2, e3⟩ := Option.bind_eq_some_iff.mp e
    cases z with
    | bl k =>
      refine hs α H2 O2 d d' v u fr (.bl k) _ R2.dom (hv2.v1 R2 e1) (hu.v1 R2 e2) e3 fun v' H' hn => ?_
      obtain rfl := newV_bl hn
      obtain ⟨O', R', N', _⟩ := hn.rl R2
      refine ⟨k, rfl, ?_⟩
      cases k with
      | false =>
        rw [if_neg Bool.false_ne_true]
        exact h2 H' O' R' N' _ rfl
      | true =>
        rw [if_pos rfl]
        have h2' : Wp (X.wd α) G W σ p2 H' O' ((fc p2).bind fun p3 z => opOut p3 ((deref p3 y.2).bind fun e => (deref p3 z.2).bind fun g => f' e g)) fun p' x H' O' => ∀ v, VR (X.wd α) H p' σ H' O' x.1 x.2 v → Q v H' := by
          cases e4 : (fc p2).bind fun p3 z => opOut p3 ((deref p3 y.2).bind fun e => (deref p3 z.2).bind fun g => f' e g) with
          | no =>
            have : Wp (X.wd α) G W σ p2 H2 O2 ((fc p2).bind fun p3 z => opOut p3 ((deref p3 y.2).bind fun e => (deref p3 z.2).bind fun g => f' e g)) fun p' x H' O' => ∀ v, VR (X.wd α) H p' σ H' O' x.1 x.2 v → Q v H' := h2
            rw [e4] at this
            exact this
          | ok p' b =>
            have : Wp (X.wd α) G W σ p2 H2 O2 ((fc p2).bind fun p3 z => opOut p3 ((deref p3 y.2).bind fun e => (deref p3 z.2).bind fun g => f' e g)) fun p' x H' O' => ∀ v, VR (X.wd α) H p' σ H' O' x.1 x.2 v → Q v H' := h2
            rw [e4] at this
            exact fun H3 O3 R3 N3 => this H3 O3 R3 (N'.trans R2 N3 R')
          | ex p' c r =>
            have : Wp (X.wd α) G W σ p2 H2 O2 ((fc p2).bind fun p3 z => opOut p3 ((deref p3 y.2).bind fun e => (deref p3 z.2).bind fun g => f' e g)) fun p' x H' O' => ∀ v, VR (X.wd α) H p' σ H' O' x.1 x.2 v → Q v H' := h2
            rw [e4] at this
            exact fun H3 O3 cls dd R3 N3 => this H3 O3 cls dd R3 (N'.trans R2 N3 R')
        refine ⟨p2, O', R', (Wp.bind R' h2').mono fun p3 z H3 O3 _ R3 N3 h3 t ht => ?_⟩
        obtain ⟨fr', z', e, h4⟩ := h3.op
        obtain ⟨g1, e1, e⟩ := Option.bind_eq_some_iff.mp e
        obtain ⟨g2, e2, e3⟩ := Option.bind_eq_some_iff.mp e
        have N2' := N'.trans R2 N3 R'
        have hu3 := hu.mono R2 N2' R1.alN
        exact hs' α H3 O3 g1 g2 u t fr' z' Q R3.dom (hu3.v1 R3 e1) (ht.v1 R3 e2) e3 (op_end R (N12.trans R N2' R2) R3 h4)
    | _ => exact False.elim h2
end
section
variable {X : Cx} {a b c : Expr} {pos : Pos} {fa fb fc : Sm}
theorem se_chain {op op' : CmpOp} {r r' : R2} {f f' : Op2} (ho : OpR X (compareOp op) r) (hs : OpS2 X r f) (ho' : OpR X (compareOp op') r') (hs' : OpS2 X r' f') (hm : lastMarks [op, op'] [b, c] = false) (ha : SE X fa a) (hb : SE X fb b) (hc : SE X fc c) :
    SE X (eChain f f' fa fb fc) (.Compare a [op, op'] [b, c] pos) :=
  fun α G W tk => pe_weak (pe_chain ho ho' (ha α G W tk) (hb α G W tk) (hc α G W tk) hm) fun σ H Q h => core_chain hs hs' h
theorem st_chain {op op' : CmpOp} {r r' : R2} {f f' : Op2} (ho : OpR X (compareOp op) r) (hs : OpS2 X r f) (ho' : OpR X (compareOp op') r') (hs' : OpS2 X r' f') (hm : lastMarks [op, op'] [b, c] = false) (ha : SE X fa a) (hb : SE X fb b) (hc : SE X fc c) :
    ST X (tOfV (eChain f f' fa fb fc)) (.Compare a [op, op'] [b, c] pos) :=
  fun α G W tk => pt_weak (pt_chain ho ho' (ha α G W tk) (hb α G W tk) (hc α G W tk) hm) fun σ H Q h => core_chain hs hs' (core_ofV h)
end

/-! ### and, or, not, if -/
def tAnd2 (a b : SmT) : SmT := fun p => (a p).bind fun p1 k => if k = true then b p1 else .ok p1 false
def tOr2 (a b : SmT) : SmT := fun p => (a p).bind fun p1 k => if k = true then .ok p1 true else b p1
def tNot1 (a : SmT) : SmT := fun p => (a p).bind fun p1 k => .ok p1 (!k)
def eAnd2 (a b : Sm) : Sm := fun p => (a p).bind fun p1 x => match x.2 with
  | .bl true => b p1
  | .bl false => .ok p1 (.fz, .bl false)
  | _ => .no
def eOr2 (a b : Sm) : Sm := fun p => (a p).bind fun p1 x => match x.2 with
  | .bl false => b p1
  | .bl true => .ok p1 (.fz, .bl true)
  | _ => .no
def eNot1 (a : Sm) : Sm := fun p => (a p).bind fun p1 x => match x.2 with
  | .bl k => .ok p1 (.fz, .bl (!k))
  | _ => .no
def eIfE (t : SmT) (a b : Sm) : Sm := fun p => (t p).bind fun p1 k => if k = true then a p1 else b p1
def SW (X : Cx) (f : SmT) (e : Expr) : Prop := ∀ α G W, Takes X W → PW X e (tT (X.wd α) G W f)
section
variable {w : Wd} {G : Gh} {W : WX} {σ : L2.St} {H : Hp}
/-- from a later state -/
theorem tE.of {f : Sm} {p p1 : PSt} {H1 H0 : Hp} {O O1 : Addr → Prop} {Q : VK} (R : Rl w G p σ H O) (R1 : Rl w G p1 σ H1 O1) (N1 : Nx w σ p H O p1 H1 O1) (h : Wp w G W σ p1 H1 O1 (f p1) fun p' x H' O' => ∀ v, VR w H p' σ H' O' x.1 x.2 v → Q v H') : tE w G W f σ H1 Q :=
  ⟨p1, O1, R1, h.mono fun p' x H' O' _ R' N' k v hv => k v (hv.start R N1 R1)⟩
theorem core_and {a b : SmT} {Q : Bool → Hp → Prop} (h : tT w G W (tAnd2 a b) σ H Q) : tAnd (tT w G W a) (tT w G W b) σ H Q := by
  obtain ⟨p, O, R, h⟩ := h
  refine ⟨p, O, R, (Wp.bind R h).mono fun p1 k H1 O1 _ R1 N1 h1 => ?_⟩
  cases k with
  | true => rw [if_pos rfl] at h1 ⊢; exact ⟨p1, O1, R1, h1⟩
  | false => rw [if_neg Bool.false_ne_true] at h1 ⊢; exact h1 H1 O1 R1 Nx.refl
theorem core_or {a b : SmT} {Q : Bool → Hp → Prop} (h : tT w G W (tOr2 a b) σ H Q) : tOr (tT w G W a) (tT w G W b) σ H Q := by
  obtain ⟨p, O, R, h⟩ := h
  refine ⟨p, O, R, (Wp.bind R h).mono fun p1 k H1 O1 _ R1 N1 h1 => ?_⟩
  cases k with
  | false => rw [if_neg Bool.false_ne_true] at h1 ⊢; exact ⟨p1, O1, R1, h1⟩
  | true => rw [if_pos rfl] at h1 ⊢; exact h1 H1 O1 R1 Nx.refl
theorem core_not {a : SmT} {Q : Bool → Hp → Prop} (h : tT w G W (tNot1 a) σ H Q) : tNot (tT w G W a) σ H Q := by
  obtain ⟨p, O, R, h⟩ := h
  exact ⟨p, O, R, (Wp.bind R h).mono fun p1 k H1 O1 _ R1 N1 h1 => h1 H1 O1 R1 Nx.refl⟩
theorem core_ifE {t : SmT} {a b : Sm} {Q : VK} (h : tE w G W (eIfE t a b) σ H Q) : tIf (tT w G W t) (tE w G W a) (tE w G W b) σ H Q := by
  obtain ⟨p, O, R, h⟩ := h
  refine ⟨p, O, R, (Wp.bind R h).mono fun p1 k H1 O1 _ R1 N1 h1 => ?_⟩
  cases k with
  | true => rw [if_pos rfl] at h1 ⊢; exact tE.of (H0 := H) R R1 N1 h1
  | false => rw [if_neg Bool.false_ne_true] at h1 ⊢; exact tE.of (H0 := H) R R1 N1 h1
theorem core_andV {a b : Sm} {Q : VK} (h : tE w G W (eAnd2 a b) σ H Q) : tAndV (tE w G W a) (tE w G W b) σ H Q := by
  obtain ⟨p, O, R, h⟩ := h
  refine ⟨p, O, R, (Wp.bind R h).mono fun p1 x H1 O1 _ R1 N1 h1 v hv => ?_⟩
  obtain ⟨k, d⟩ := x
  cases d with
  | bl c =>
    have v1 := hv.v1 (e := .bl c) R1 rfl
    refine ⟨c, v1.bl, ?_⟩
    cases c with
    | true => rw [if_pos rfl]; exact tE.of (H0 := H) R R1 N1 h1
    | false => rw [if_neg Bool.false_ne_true]; exact h1 H1 O1 R1 Nx.refl _ rfl
  | _ => exact False.elim h1
theorem core_orV {a b : Sm} {Q : VK} (h : tE w G W (eOr2 a b) σ H Q) : tOrV (tE w G W a) (tE w G W b) σ H Q := by
  obtain ⟨p, O, R, h⟩ := h
  refine ⟨p, O, R, (Wp.bind R h).mono fun p1 x H1 O1 _ R1 N1 h1 v hv => ?_⟩
  obtain ⟨k, d⟩ := x
  cases d with
  | bl c =>
    have v1 := hv.v1 (e := .bl c) R1 rfl
    refine ⟨c, v1.bl, ?_⟩
    cases c with
    | false => rw [if_neg Bool.false_ne_true]; exact tE.of (H0 := H) R R1 N1 h1
    | true => rw [if_pos rfl]; exact h1 H1 O1 R1 Nx.refl _ rfl
  | _ => exact False.elim h1
theorem core_notV {a : Sm} {Q : VK} (h : tE w G W (eNot1 a) σ H Q) : tNotV (tE w G W a) σ H Q := by
  obtain ⟨p, O, R, h⟩ := h
  refine ⟨p, O, R, (Wp.bind R h).mono fun p1 x H1 O1 _ R1 N1 h1 v hv => ?_⟩
  obtain ⟨k, d⟩ := x
  cases d with
  | bl c =>
    have v1 := hv.v1 (e := .bl c) R1 rfl
    exact ⟨c, v1.bl, h1 H1 O1 R1 Nx.refl _ rfl⟩
  | _ => exact False.elim h1
end
section
variable {X : Cx} {a b c : Expr} {pos : Pos} {fa fb fc : Sm} {ta tb : SmT} {rest : List Expr}
theorem sw_or1 (ha : ST X ta a) : SW X ta (.BoolOp .Or [a] pos) := fun α G W tk => pw_or1 (ha α G W tk)
theorem sw_and1 (ha : ST X ta a) : SW X ta (.BoolOp .And [a] pos) := fun α G W tk => pw_and1 (ha α G W tk)
theorem pw_weak {e : Expr} {t t' : TT} (h : PW X e t) (k : ∀ σ H Q, t' σ H Q → t σ H Q) : PW X e t' := ⟨fun wh pins s σ H Q I q => h.run wh pins s σ H Q I (k σ H Q q)⟩
theorem sw_and (ha : ST X ta a) (hb : SW X tb (.BoolOp .And (b :: rest) pos)) : SW X (tAnd2 ta tb) (.BoolOp .And (a :: b :: rest) pos) := fun α G W tk => pw_weak (pw_and (ha α G W tk) (hb α G W tk)) fun _ _ _ h => core_and h
theorem sw_or (ha : ST X ta a) (hb : SW X tb (.BoolOp .Or (b :: rest) pos)) : SW X (tOr2 ta tb) (.BoolOp .Or (a :: b :: rest) pos) := fun α G W tk => pw_weak (pw_or (ha α G W tk) (hb α G W tk)) fun _ _ _ h => core_or h
theorem st_sw {e : Expr} (h : SW X ta e) : ST X ta e := fun α G W tk => (h α G W tk).pt
theorem st_not (ha : ST X ta a) : ST X (tNot1 ta) (.UnaryOp .Not a pos) := fun α G W tk => pt_weak (pt_not (ha α G W tk)) fun _ _ _ h => core_not h
theorem se_one {op} (h : SE X fa a) : SE X fa (.BoolOp op [a] pos) := fun α G W tk => pe_one (h α G W tk)
theorem se_and (ha : SE X fa a) (hb : SE X fb (.BoolOp .And (b :: rest) pos)) : SE X (eAnd2 fa fb) (.BoolOp .And (a :: b :: rest) pos) := fun α G W tk => pe_weak (pe_and (ha α G W tk) (hb α G W tk)) fun _ _ _ h => core_andV h
theorem se_or (ha : SE X fa a) (hb : SE X fb (.BoolOp .Or (b :: rest) pos)) : SE X (eOr2 fa fb) (.BoolOp .Or (a :: b :: rest) pos) := fun α G W tk => pe_weak (pe_or (ha α G W tk) (hb α G W tk)) fun _ _ _ h => core_orV h
theorem se_not (ha : SE X fa a) : SE X (eNot1 fa) (.UnaryOp .Not a pos) := fun α G W tk => pe_weak (pe_not (ha α G W tk)) fun _ _ _ h => core_notV h
theorem se_ifE (ht : ST X ta c) (ha : SE X fa a) (hb : SE X fb b) : SE X (eIfE ta fa fb) (.IfExp c a b pos) := fun α G W tk => pe_weak (pe_ifExp (ht α G W tk) (ha α G W tk) (hb α G W tk)) fun _ _ _ h => core_ifE h
end

/-! ### arguments, displays -/
def aNil : SmA := fun p => .ok p []
def aCons (f : Sm) (fs : SmA) : SmA := fun p => (f p).bind fun p1 x => (fs (p1.frzK x.1)).bind fun p2 ds => .ok p2 (x.2 :: ds)
def bNil : SmB := fun p => .ok p []
def bCons (f : Sm) (fs : SmB) : SmB := fun p => (f p).bind fun p1 x => (fs p1).bind fun p2 xs => .ok p2 (x :: xs)
section
variable {w : Wd} {G : Gh} {W : WX} {σ : L2.St} {H : Hp} {f : Sm} {Q : List V → Hp → Prop}
theorem core_aNil (h : tA w G W aNil σ H Q) : tNil σ H Q := by
  obtain ⟨p, O, R, h⟩ := h
  exact h H O R Nx.refl [] rfl
theorem core_aCons {fs : SmA} (h : tA w G W (aCons f fs) σ H Q) : tCons (tE w G W f) (tA w G W fs) σ H Q := by
  obtain ⟨p, O, R, h⟩ := h
  refine ⟨p, O, R, (Wp.bind0 h).mono fun p1 x H1 O1 _ R1 N1 h1 v hv => ?_⟩
  obtain ⟨O2, R2, N2, r2⟩ := frz_ok R N1 R1 hv
  refine ⟨_, O2, R2, (Wp.bind R2 (h1.at R N2 R2)).mono fun p2 ds H2 O3 _ R3 N3 h3 vs hvs => ?_⟩
  exact h3 H2 O3 R3 Nx.refl (v :: vs) ⟨v, vs, rfl, Rp.mono (N3.fzR R2) R2.dom _ _ r2, hvs⟩
theorem core_bNil (h : tB' w G W bNil σ H Q) : tNil σ H Q := by
  obtain ⟨p, O, R, h⟩ := h
  exact h H O R Nx.refl [] rfl
theorem core_bCons {fs : SmB} (h : tB' w G W (bCons f fs) σ H Q) : tCons (tE w G W f) (tB' w G W fs) σ H Q := by
  obtain ⟨p, O, R, h⟩ := h
  refine ⟨p, O, R, (Wp.bind R h).mono fun p1 x H1 O1 _ R1 N1 h1 v hv => ⟨p1, O1, R1, (Wp.bind R1 h1).mono fun p2 xs H2 O2 _ R2 N2 h2 vs hvs => ?_⟩⟩
  exact h2 H2 O2 R2 Nx.refl (v :: vs) ⟨v, vs, rfl, hv.mono R1 N2 R.alN, hvs.start R N1 R1⟩
end
/-- (a, b, ..) and [a, b, ..] -/
def eTup (fs : SmA) : Sm := fun p => (fs p).bind fun p1 ds => if szB ds.length = true then .ok p1 (.fz, .tup ds) else .no
def eLst (fs : SmA) : Sm := fun p => (fs p).bind fun p1 ds => if szB ds.length = true then .ok p1 (.fr, .lst ds) else .no
def eDct0 : Sm := fun p => .ok p (.fr, .dct [])
/-- a call of what is built in -/
def derefs (p : PSt) : List (Kd × D) → Option (List D)
  | [] => some []
  | x :: xs => (deref p x.2).bind fun d => (derefs p xs).map fun ds => d :: ds
def eOpN (f : OpN) (as : SmB) : Sm := fun p => (as p).bind fun p1 xs => opOut p1 ((derefs p1 xs).bind f)
section
variable {w : Wd} {G : Gh} {W : WX} {σ : L2.St} {H : Hp} {Q : VK}
theorem Wp.ite {p : PSt} {O : Addr → Prop} {c : Bool} {p1 : PSt} {x : Kd × D} {P : PSt → Kd × D → Hp → (Addr → Prop) → Prop} (h : Wp w G W σ p H O (if c = true then .ok p1 x else .no) P) : c = true ∧ ∀ H' O', Rl w G p1 σ H' O' → Nx w σ p H O p1 H' O' → P p1 x H' O' := by
  cases c with
  | true => exact ⟨rfl, h⟩
  | false => exact False.elim h
theorem core_tup {fs : SmA} (h : tE w G W (eTup fs) σ H Q) : tTup (tA w G W fs) σ H Q := by
  obtain ⟨p, O, R, h⟩ := h
  refine ⟨p, O, R, (Wp.bind R h).mono fun p1 ds H1 O1 _ R1 N1 h1 vs hvs => ?_⟩
  obtain ⟨hz, h2⟩ := h1.ite
  refine ⟨by rw [hvs.len]; exact szB_ok hz, fun q hq => ?_⟩
  exact op_end (fr := false) R N1 R1 h2 _ _ (newV_tup R1.dom hvs hq)
theorem core_lst {fs : SmA} (h : tE w G W (eLst fs) σ H Q) : tLst (tA w G W fs) σ H Q := by
  obtain ⟨p, O, R, h⟩ := h
  refine ⟨p, O, R, (Wp.bind R h).mono fun p1 ds H1 O1 _ R1 N1 h1 vs hvs => ?_⟩
  obtain ⟨hz, h2⟩ := h1.ite
  refine ⟨by rw [hvs.len]; exact szB_ok hz, fun q hq => ?_⟩
  exact op_end (fr := true) R N1 R1 h2 _ _ (newV_lst R1.dom hvs hq)
theorem core_dct0 (h : tE w G W eDct0 σ H Q) : tDNewK σ H Q := by
  obtain ⟨p, O, R, h⟩ := h
  exact fun q hq => op_end (fr := true) R Nx.refl R h _ _ (newV_dct (ps := []) R.dom rfl hq)
theorem VRs.v1s {p : PSt} {O : Addr → Prop} {Hs : Hp} (R : Rl w G p σ H O) : ∀ (xs : List (Kd × D)) (vs : List V) (ds : List D), VRs w Hs p σ H O xs vs → derefs p xs = some ds → V1s w H O ds vs
  | [], vs, ds, h, e => by cases e; exact h
  | x :: xs, vs, ds, ⟨v, r, e1, h1, h2⟩, e => by
    have e : (deref p x.2).bind (fun d => (derefs p xs).map fun ds => d :: ds) = some ds := e
    obtain ⟨d, e2, e3⟩ := Option.bind_eq_some_iff.mp e
    obtain ⟨ds', e4, e5⟩ := Option.map_eq_some_iff.mp e3
    subst e5
    exact ⟨v, r, e1, h1.v1 R e2, VRs.v1s R xs r ds' h2 e4⟩
end
section
variable {X : Cx} {α : List Addr} {G : Gh} {W : WX} {σ : L2.St} {H : Hp} {Q : VK}
theorem core_opN {r : List V → Hp → VK → Prop} {f : OpN} {as : SmB} (hs : OpSN X r f) (h : tE (X.wd α) G W (eOpN f as) σ H Q) : tCB r (tB' (X.wd α) G W as) σ H Q := by
  obtain ⟨p, O, R, h⟩ := h
  refine ⟨p, O, R, (Wp.bind R h).mono fun p1 xs H1 O1 _ R1 N1 h1 vs hvs => ?_⟩
  obtain ⟨fr, z, e, h3⟩ := h1.op
  obtain ⟨ds, e1, e3⟩ := Option.bind_eq_some_iff.mp e
  exact hs α H1 O1 ds vs fr z Q R1.dom (hvs.v1s R1 xs vs ds e1) e3 (op_end R N1 R1 h3)
end
section
variable {X : Cx} {e : Expr} {es : List Expr} {fa : Sm} {fs : SmA} {gs : SmB} {pos : Pos} {x1}
theorem sa_nil : SA X aNil [] := fun α G W tk => pa_weak pa_nil fun _ _ _ h => core_aNil h
theorem sa_cons (ha : SE X fa e) (hr : SA X fs es) (hs : starEach (e :: es) X.env = (false, eval e X.env) :: starEach es X.env) : SA X (aCons fa fs) (e :: es) := fun α G W tk => pa_weak (pa_cons (ha α G W tk) (hr α G W tk) hs) fun _ _ _ h => core_aCons h
theorem sb_nil : SB X bNil [] := fun α G W tk => pa_weak pa_nil fun _ _ _ h => core_bNil h
theorem sb_cons (ha : SE X fa e) (hr : SB X gs es) (hs : starEach (e :: es) X.env = (false, eval e X.env) :: starEach es X.env) : SB X (bCons fa gs) (e :: es) := fun α G W tk => pa_weak (pa_cons (ha α G W tk) (hr α G W tk) hs) fun _ _ _ h => core_bCons h
theorem se_tup (h : SA X fs es) : SE X (eTup fs) (.Tuple es x1 pos) := fun α G W tk => pe_weak (pe_tup (h α G W tk)) fun _ _ _ h => core_tup h
theorem se_lst (h : SA X fs es) : SE X (eLst fs) (.List es pos) := fun α G W tk => pe_weak (pe_lst (h α G W tk)) fun _ _ _ h => core_lst h
theorem se_dct0 : SE X eDct0 (.Dict [] [] pos) := fun α G W tk => pe_weak pe_dnewK fun _ _ _ h => core_dct0 h
theorem se_callB {x : Str} {id : String} {r : List V → Hp → VK → Prop} {f : OpN} {p : Pos} (hc : CallR X (.builtin id) r) (hs : OpSN X r f) (hg : Gl X x) (hm : X.mg x = none) (hv : bootBuiltins x = some (.builtin id)) (ha : SB X gs (e :: es)) (hn : x ≠ "__name__") (hdb : (x == ("__debug__" : Str)) = false)
    (he : starEach (e :: es) X.env = (false, eval e X.env) :: starEach es X.env) (hpl : (backTo pos (starEach es X.env)).any (·.1) = false) : SE X (eOpN f gs) (.Call (.Name x p) (e :: es) [] pos) :=
  fun α G W tk => pe_weak (pe_callB hc hg hm hv (ha α G W tk) hn hdb he hpl) fun _ _ _ h => core_opN hs h
theorem se_callTy {x : Str} {T : String} {r : List V → Hp → VK → Prop} {f : OpN} {p : Pos} (hc : CallR X (.type T) r) (hs : OpSN X r f) (hg : Gl X x) (hm : X.mg x = none) (hv : bootBuiltins x = some (.type T)) (ha : SB X gs (e :: es)) (hn : x ≠ "__name__") (hdb : (x == ("__debug__" : Str)) = false)
    (he : starEach (e :: es) X.env = (false, eval e X.env) :: starEach es X.env) (hpl : (backTo pos (starEach es X.env)).any (·.1) = false) : SE X (eOpN f gs) (.Call (.Name x p) (e :: es) [] pos) :=
  fun α G W tk => pe_weak (pe_callTy hc hg hm hv (ha α G W tk) hn hdb he hpl) fun _ _ _ h => core_opN hs h
end
/-- a[lo:hi] -/
def eSl (a : Sm) (lo hi : Option Sm) : Sm := fun p => (a p).bind fun p1 x =>
  ((match lo with
    | none => Out.ok p1 none
    | some f => (f p1).bind fun p2 y => match y.2 with | .int i => .ok p2 (some i) | _ => .no) : Out (Option Int)).bind fun p2 l =>
  ((match hi with
    | none => Out.ok p2 none
    | some f => (f p2).bind fun p3 y => match y.2 with | .int i => .ok p3 (some i) | _ => .no) : Out (Option Int)).bind fun p3 u =>
  opOut p3 ((deref p3 x.2).bind fun d => slD d l u)
def eInt? (f : Option Sm) : PSt → Out (Option Int) := fun p1 => match f with
    | none => Out.ok p1 none
    | some f => (f p1).bind fun p2 y => match y.2 with | .int i => .ok p2 (some i) | _ => .no
def tO' (w : Wd) (G : Gh) (W : WX) (f : PSt → Out (Option Int)) : TO := fun σ H Q => ∃ p O, Rl w G p σ H O ∧ Wp w G W σ p H O (f p) fun p' o H' O' => Q o H'
def SO (X : Cx) (f : Option Sm) (e : Option Expr) : Prop := ∀ α G W, Takes X W → PO X e (tO' (X.wd α) G W (eInt? f))
section
variable {X : Cx} {e : Expr} {fe : Sm}
theorem so_none : SO X none none := fun α G W tk => ⟨fun pins s σ H Q I h => po_none.run pins s σ H Q I (by
  obtain ⟨p, O, R, h⟩ := h
  exact h H O R Nx.refl)⟩
theorem so_some (h : SE X fe e) : SO X (some fe) (some e) := fun α G W tk => ⟨fun pins s σ H Q I hq => (po_some (h α G W tk)).run pins s σ H Q I (by
  obtain ⟨p, O, R, hq⟩ := hq
  refine ⟨p, O, R, (Wp.bind R hq).mono fun p1 x H1 O1 _ R1 N1 h1 v hv => ?_⟩
  obtain ⟨k, d⟩ := x
  cases d with
  | int c =>
    have v1 := hv.v1 (e := .int c) R1 rfl
    exact ⟨c, v1.int, h1 H1 O1 R1 Nx.refl⟩
  | _ => exact False.elim h1)⟩
theorem se_slice {a : Expr} {fa : Sm} {lo hi : Option Expr} {fl fh : Option Sm} {p2 pos : Pos} (ha : SE X fa a) (hl : SO X fl lo) (hh : SO X fh hi) : SE X (eSl fa fl fh) (.Subscript a (.Slice lo hi none p2) pos) := fun α G W tk =>
  pe_weak (pe_slice sl_all (ha α G W tk) (hl α G W tk) (hh α G W tk)) fun σ H Q h => by
    obtain ⟨p, O, R, h⟩ := h
    refine ⟨p, O, R, (Wp.bind R h).mono fun p1 x H1 O1 _ R1 N1 h1 v hv => ?_⟩
    refine ⟨p1, O1, R1, (Wp.bind R1 h1).mono fun p2 l H2 O2 _ R2 N2 h2 => ?_⟩
    refine ⟨p2, O2, R2, (Wp.bind R2 h2).mono fun p3 u H3 O3 _ R3 N3 h3 => ?_⟩
    obtain ⟨fr, z, e, h4⟩ := h3.op
    obtain ⟨d, e1, e3⟩ := Option.bind_eq_some_iff.mp e
    have N12 := N1.trans R N2 R1
    have N13 := N12.trans R N3 R2
    have hv3 := (hv.mono R1 N2 R.alN).mono R2 N3 R.alN
    exact os_sl α H3 O3 d v l u fr z Q R3.dom (hv3.v1 R3 e1) e3 (op_end R N13 R3 h4)
end
end PM
/-! enumerate over a tuple, over a text, with one argument -/
namespace PMI
open PySem PySem.W
theorem meets_en1 {v : Value} {o : Obj} {H : Heap → Prop} (B : Begins v o H) :
    Meets (Builtin.«enumerate.__new__» ⟨[.type "enumerate", v], []⟩) (fun _ R s => H s.heap ∧
      R (.ok (.ret (.ref (s.heap.push o).objs.size))) { s with heap := (s.heap.push o).push { cls := .type "enumerate", data := .fields #[.none, .bool false, .ref s.heap.objs.size, rawInt 0, .none, .none] } }) :=
  .of_wp fun prog w A R s hh => by
    obtain ⟨hp, g, d, tk, os⟩ := s
    obtain ⟨hH, hR⟩ := hh
    have sb := sub_enumerate
    have itr : ∀ {A' : Around} {E : Value → Shared → Prop} {Q : Value → Shared → Prop}, Q (.ref hp.objs.size) ⟨hp.push o, g, d, tk, os⟩ → wpAny (model prog w) A' (pyIter v) Q E ⟨hp, g, d, tk, os⟩ :=
      fun k => B.iter prog w _ _ ⟨hp, g, d, tk, os⟩ _ hH k
    wp_walk using itr
    refine wpAny_stack_any fun st => wpAny_pure ?_
    split
    · rename_i c _ _ _ _ _
      cases (c == Value.type "enumerate") <;> (wp_walk using itr; exact ⟨_, rfl, hR⟩)
    · wp_walk using itr
      exact ⟨_, rfl, hR⟩
section
variable {prog : Program} {w : World} {A : Around} {E : Value → Shared → Prop} {s : Shared}
theorem en1_begins {v : Value} {o : Obj} {H : Heap → Prop} {Q : Value → Shared → Prop} (B : Begins v o H) (hH : H s.heap)
    (k : ∀ h', IsEnum h' (s.heap.objs.size + 1) s.heap.objs.size 0 .none → h'.get? s.heap.objs.size = some o → (∀ b u, s.heap.get? b = some u → h'.get? b = some u) → Q (.ref (s.heap.objs.size + 1)) { s with heap := h' }) :
    wpAny (model prog w) A (call (.type "enumerate") [v]) Q E s := by
  refine callType_new F.called_enumerate (by decide) (F.typeCall_enumerate_1 _) (F.newCall_enumerate_1 _) (fun obj => F.args_object_init_2 obj _) F.entry_enumerate_new (meets_en1 B) ⟨hH, ?_⟩
  have sz : (s.heap.push o).objs.size = s.heap.objs.size + 1 := Heap.size_push ..
  show _ ∧ _
  rw [sz]
  have en : IsEnum ((s.heap.push o).push { cls := .type "enumerate", data := .fields #[.none, .bool false, .ref s.heap.objs.size, rawInt 0, .none, .none] }) (s.heap.objs.size + 1) s.heap.objs.size 0 .none := by
    have q := Heap.get?_push_size (s.heap.push o) (o := { cls := .type "enumerate", data := .fields #[.none, .bool false, .ref s.heap.objs.size, rawInt 0, .none, .none] }) rfl
    rw [sz] at q
    exact q
  exact ⟨⟨_, en, rfl⟩, k _ en (Heap.get?_push_of_some _ (Heap.get?_push_size _ B.free)) fun b u x => Heap.get?_push_of_some _ (Heap.get?_push_of_some _ x)⟩
end
end PMI
namespace PM
open PySem PySem.Spec L2 PyProof.Rows

/-- what enumerate draws, by the abstract heap: the items it goes through -/
structure Src where
  at_ : Hp → Nat → V → Prop
  n : Nat
def IteS (S : Src) (ok : Hp → Prop) : It :=
  ⟨fun i H => ok H ∧ i < S.n, fun i H v H' => ∃ T x, v = .ref T ∧ H T = none ∧ H' = upd H T (.tup [.int (i : Nat), x]) ∧ S.at_ H i x, fun i H => ok H ∧ i = S.n⟩
/-- a drawing iterator at it, for each context -/
structure DrawsIn (P : Program) (w : World) (K : PySem.W.Frag) (S : Src) (ok : Hp → Prop) (it : Addr) (tn : Nat → Heap → Prop) : Prop where
  obj : ∀ i h, tn i h → ∃ o, h.get? it = some o ∧ ∀ v, o.data ≠ .cell v
  keep : ∀ i h h', tn i h → (∀ o, h.get? it = some o → h'.get? it = some o) → tn i h'
  draw : ∀ (X : Cx), X.prog = P → X.w = w → X.K = K → X.calm = true → ∀ (pins : List (Addr × Obj)) (s : Shared) (σ : L2.St) (H : Hp), Inv X pins σ H s → ok H → ∃ (fp : List Addr) (St' : Nat → Heap → Prop) (n : Nat) (Pv : Nat → Value → Prop),
    Draws P w X.A.in1 it fp n Pv St' ∧ n = S.n ∧ it ∈ fp ∧ (∀ b ∈ fp, b = it ∨ H b ≠ none ∨ ∃ o, K.lookup b = some o) ∧ (∀ i, tn i s.heap → St' i s.heap) ∧ (∀ i h', St' i h' → tn i h') ∧ ∀ i u, Pv i u → ∃ x, RelV x u ∧ S.at_ H i x
theorem turn_enumS {P : Program} {w : World} {K : PySem.W.Frag} {elts : List Expr} {kk : Nat} {tpos : Pos} {S : Src} {ok : Hp → Prop} {e it : Addr} {tn : Nat → Heap → Prop} (D : DrawsIn P w K S ok it tn) :
    Turn P w K (.Tuple elts kk tpos) (IteS S ok) [e, it] e (fun i h => (∃ old, IsEnum h e it ((i : Nat) : Int) old) ∧ tn i h ∧ e ≠ it) where
  mem := by simp
  obj := fun i h st b hb => by
    obtain ⟨⟨old, he⟩, ht, _⟩ := st
    rcases (show b = e ∨ b = it by simpa using hb) with z | z
    · subst z; exact ⟨_, he, fun v q => nomatch q⟩
    · subst z; exact D.obj i h ht
  keep := fun i h h' ⟨⟨old, he⟩, ht, ne⟩ k => ⟨⟨old, k e (by simp) _ he⟩, D.keep i h h' ht fun o q => k it (by simp) o q, ne⟩
  item := by
    intro X hP hw hK hc i pins s σ H E I hf st hg
    obtain ⟨⟨old, he⟩, ht, ne⟩ := st
    obtain ⟨fp, St', n, Pv, dr, en, mi, hfp, to, back, val⟩ := D.draw X hP hw hK hc pins s σ H I hg.1
    subst hP hw hK
    have sz_e : e < s.heap.objs.size := Heap.lt_size he
    have sz_i : it < s.heap.objs.size := by obtain ⟨o, q, _⟩ := D.obj i _ ht; exact Heap.lt_size q
    have nfp : e ∉ fp := fun z => by
      rcases hfp e z with q | q | ⟨o, q⟩
      · exact ne q
      · exact q (hf e (by simp)).1
      · have f := hf e (by simp)
        have g := I.ok.mod.kin e o q
        rcases f.2.2.2.1 with z1 | z1
        · exact I.ok.noex e o g z1
        · have := Heap.lt_size (I.ok.bs e o g).1
          exact absurd (Nat.lt_of_lt_of_le this z1) (Nat.lt_irrefl _)
    refine wpAny_pyNext_enum_itemC dr he (to i ht) (by rw [en]; exact hg.2) ne nfp fun u h' tk hu ho hs' hT hsz hk => ?_
    obtain ⟨x, rx, ax⟩ := val i u hu
    refine ⟨_, rfl, wpAny_letOwnedTupleGo_enum (s := { s with heap := h', toks := tk + 1 }) ho fun h2 he2 sb => ?_⟩
    have gT : h2.get? s.heap.objs.size = some { cls := .type "tuple", data := .seq #[.int i tk, u] } := (sb.2 _ (Nat.ne_of_gt sz_e)).trans hT
    have fresh : ObjOk X.prog X.w (upd H s.heap.objs.size (.tup [.int (i : Nat), x])) h2 s.heap.objs.size (.tup [.int (i : Nat), x]) :=
      ⟨by show 2 ≤ sizeLine; decide, [.int i tk, u], .cons ⟨_, rfl⟩ (.cons rx .nil), ⟨_, gT, rfl, _, rfl⟩⟩
    have I1 : Inv X pins σ (upd H s.heap.objs.size (.tup [.int (i : Nat), x])) { s with heap := h2, toks := tk + 1 } :=
      I.turnedNew (ch := [e, it]) (fun b ob hb q => (sb.2 b (fun z => hb (by simp [z]))).trans (hk b ob (fun z => hb (by simp [z])) (fun z => hb (by simp [z])) q)) hf (Nat.le_refl _) fresh
    refine ⟨.ref s.heap.objs.size, _, I1, rfl, ⟨_, x, rfl, I.hok.fresh (Nat.le_refl _), rfl, ax⟩, ⟨⟨u, ?_⟩, D.keep (i + 1) h' h2 (back _ _ hs') fun o q => (sb.2 it (Ne.symm ne)).trans q, ne⟩, fun b hb => ?_⟩
    · have e1 : ((i + 1 : Nat) : Int) = (i : Int) + 1 := by omega
      rw [e1]
      exact he2
    · have lt : b < s.heap.objs.size := by
        rcases (show b = e ∨ b = it by simpa using hb) with z | z
        · subst z; exact sz_e
        · subst z; exact sz_i
      rw [upd_ne (Nat.ne_of_lt lt)]
      exact (hf b hb).1
  done := by
    intro X hP hw hK hc i pins s σ H E I hf st hg
    obtain ⟨⟨old, he⟩, ht, ne⟩ := st
    obtain ⟨fp, St', n, Pv, dr, en, mi, hfp, to, back, val⟩ := D.draw X hP hw hK hc pins s σ H I hg.1
    subst hP hw hK
    obtain ⟨f0, f1, f2, f3, f4, f5⟩ := hf it (by simp)
    have st : St' n s.heap := by rw [en, ← hg.2]; exact to i ht
    exact wpAny_pyNext_enum_endD dr he st fun h' xb => ⟨rfl, I.turned (t' := s.toks) (fun b o hb q => xb b o hb q) f0 f1 f3 f4 f5⟩
  self := fun A i s Q E st h => let ⟨⟨_, he⟩, _⟩ := st; wpAny_pyIter_enum he h
/-! the two sources: a tuple that is read, a text -/
def srcT (K : PySem.W.Frag) (a : Addr) (n : Nat) : Src := ⟨fun H i x => ∀ vs, SqT K H a vs → vs[i]? = some x, n⟩
def srcX (z : Str) : Src := ⟨fun _ i x => ∃ c, z.cps[i]? = some c ∧ x = .str ⟨#[c]⟩, z.cps.size⟩
theorem draws_tup {P : Program} {w : World} {K : PySem.W.Frag} (a : Addr) (n : Nat) (it : Addr) : DrawsIn P w K (srcT K a n) (fun H => ∃ vs, SqT K H a vs ∧ vs.length = n) it (fun i h => h.IsTupleIter it a i) where
  obj := fun i h ⟨o, e, c, d⟩ => ⟨o, e, fun v z => by rw [d] at z; cases z⟩
  keep := fun i h h' st k => st.at fun o e => k o e
  draw := by
    intro X hP hw hK hc pins s σ H I ⟨vs, hv, hl⟩
    subst hP hw hK
    obtain ⟨its, rv, ht, hz⟩ := I.tuple hv
    by_cases ne : a = it
    · refine ⟨[it], fun _ _ => False, n, fun _ _ => False, ⟨fun _ _ z => z.elim, fun _ _ _ z => z.elim, fun _ _ _ _ _ z => z.elim, fun _ _ _ z => z.elim⟩, rfl, by simp, fun b hb => .inl (by simpa using hb), fun i st => ?_, fun _ _ z => z.elim, fun _ _ z => z.elim⟩
      subst ne
      obtain ⟨o, e, c, _⟩ := st
      obtain ⟨o', e', c', _⟩ := ht
      rw [e] at e'; cases e'
      rw [c] at c'
      exact absurd c' (by decide +kernel)
    · refine ⟨[it, a], _, its.toArray.size, _, Draws.tuple (A := X.A.in1) (I.ok.hd hc) it a ne its.toArray, ?_, by simp, fun b hb => ?_, fun i st => ⟨st, ht⟩, fun i h' st => st.1, fun i u hu => ?_⟩
      · show its.toArray.size = n
        rw [← hl, rv.length]; simp
      · rcases (show b = it ∨ b = a by simpa using hb) with z | z
        · exact .inl z
        · subst z
          rcases hv with (q | ⟨o, q⟩) | ⟨o, _, _, q, _⟩
          · exact .inr (.inl (by rw [q]; simp))
          · exact .inr (.inl (by rw [q]; simp))
          · exact .inr (.inr ⟨o, q⟩)
      · have hu' : its[i]? = some u := by simpa using hu
        obtain ⟨hi, _⟩ := List.getElem?_eq_some_iff.mp hu'
        have hi' : i < vs.length := by rw [rv.length]; exact hi
        obtain ⟨u2, q1, q2⟩ := rv.get (List.getElem?_eq_getElem hi')
        rw [hu'] at q1; cases q1
        exact ⟨_, q2, fun ys hy => by rw [I.tuple_inj hy hv]; exact List.getElem?_eq_getElem hi'⟩
theorem draws_str {P : Program} {w : World} {K : PySem.W.Frag} (z : Str) (t : Tok) (it : Addr) : DrawsIn P w K (srcX z) (fun _ => True) it (fun i h => h.IsStrIter it (strIterType z) z t i) where
  obj := fun i h ⟨o, e, c, d⟩ => ⟨o, e, fun v q => by rw [d] at q; cases q⟩
  keep := fun i h h' ⟨o, e, c, d⟩ k => ⟨o, k o e, c, d⟩
  draw := by
    intro X hP hw hK hc pins s σ H I _
    subst hP hw hK
    refine ⟨[it], _, z.cps.size, _, Draws.text (A := X.A.in1) (I.ok.hd hc) it z t, rfl, by simp, fun b hb => .inl (by simpa using hb), fun i st => st, fun i h' st => st, fun i u hu => ?_⟩
    obtain ⟨c, t', hcp, rfl⟩ := hu
    exact ⟨.str ⟨#[c]⟩, ⟨t', rfl⟩, c, hcp, rfl⟩
def iEnumT (K : PySem.W.Frag) (ta : TA) : TI := fun σ H R => ta σ H fun vs H1 => ∃ a xs, vs = [.ref a] ∧ SqT K H1 a xs ∧ R (IteS (srcT K a xs.length) fun H => ∃ vs, SqT K H a vs ∧ vs.length = xs.length) H1
def iEnumX (ta : TA) : TI := fun σ H R => ta σ H fun vs H1 => ∃ z, vs = [.str z] ∧ R (IteS (srcX z) fun _ => True) H1
section
variable {X : Cx} {e : Expr} {ta : TA} {p pos tpos : Pos} {elts : List Expr} {kk : Nat}
theorem fp_new {pins : List (Addr × Obj)} {σ : L2.St} {H : Hp} {s : Shared} (I : Inv X pins σ H s) : ∀ b ∈ [s.heap.objs.size + 1, s.heap.objs.size], FpOk X pins H b := fun b hb => by
  have le : s.heap.objs.size ≤ b := by
    rcases (show b = s.heap.objs.size + 1 ∨ b = s.heap.objs.size by simpa using hb) with z | z
    · rw [z]; exact Nat.le_succ _
    · rw [z]; exact Nat.le_refl _
  exact I.fpOk le (I.hok.fresh le)
theorem pi_enumT (hg : Gl X "enumerate") (hm : X.mg "enumerate" = none) (ha : PA X [e] ta) (hs : starEach [e] X.env = [(false, eval e X.env)]) :
    PI X (.Tuple elts kk tpos) (.Call (.Name "enumerate" p) [e] [] pos) (iEnumT X.K ta) := by
  refine ⟨fun pins s σ H R I h => ?_⟩
  refine Call_ (ld_blt I hg hm boot_enumerate (PyProof.Rows.callWith_type1 (thn (ha.run pos pins s σ H _ I h) fun us s1 ⟨vs, H1, I1, r1, q1⟩ => ?_) hs rfl))
  obtain ⟨a, xs, rfl, hq, q⟩ := q1
  rw [Vals.ref1 r1]
  obtain ⟨its, rv, ht, hz⟩ := I1.tuple hq
  refine PMI.en1_begins (begins_tuple a its.toArray) ht fun h' en hit k => wpAny_pyIter_enum en ?_
  exact ⟨s1.heap.objs.size + 1, [s1.heap.objs.size + 1, s1.heap.objs.size], _, _, H1, rfl, I1.kept (t' := s1.toks) k, turn_enumS (draws_tup a xs.length s1.heap.objs.size), ⟨⟨.none, en⟩, ⟨_, hit, rfl, rfl⟩, Nat.succ_ne_self _⟩, fp_new I1, q⟩
theorem pi_enumX (hg : Gl X "enumerate") (hm : X.mg "enumerate" = none) (ha : PA X [e] ta) (hs : starEach [e] X.env = [(false, eval e X.env)]) :
    PI X (.Tuple elts kk tpos) (.Call (.Name "enumerate" p) [e] [] pos) (iEnumX ta) := by
  refine ⟨fun pins s σ H R I h => ?_⟩
  refine Call_ (ld_blt I hg hm boot_enumerate (PyProof.Rows.callWith_type1 (thn (ha.run pos pins s σ H _ I h) fun us s1 ⟨vs, H1, I1, r1, q1⟩ => ?_) hs rfl))
  obtain ⟨z, rfl, q⟩ := q1
  obtain ⟨u, rfl, t, rfl⟩ := vals1 r1
  refine PMI.en1_begins (begins_text z t) trivial fun h' en hit k => wpAny_pyIter_enum en ?_
  exact ⟨s1.heap.objs.size + 1, [s1.heap.objs.size + 1, s1.heap.objs.size], _, _, H1, rfl, I1.kept (t' := s1.toks) k, turn_enumS (draws_str z t s1.heap.objs.size), ⟨⟨.none, en⟩, ⟨_, hit, rfl, rfl⟩, Nat.succ_ne_self _⟩, fp_new I1, q⟩
end
end PM
namespace PM
open PySem PySem.Spec L2

/-! ### what a def is worth -/
inductive FOut where
  | no | ok (S : List D) (fr : Bool) (d : D) | ex (S : List D) (c : Str) (r : D)
abbrev Fn := List D → List D → FOut
def Cells (w : Wd) (H : Hp) (O : Addr → Prop) (S : List D) : Prop := ∀ (n : Nat) c a, S[n]? = some c → w.α[n]? = some a → Ob w H O c a
structure RetR (w : Wd) (H : Hp) (O0 : Addr → Prop) (S : List D) (H' : Hp) (O' : Addr → Prop) : Prop where
  h : ∀ a o, H a = some o → a ∉ w.α → H' a = some o
  i : ∀ a, O0 a → O' a
  o : ∀ a, O' a → O0 a ∨ H a = none
  dom : Dom H' O'
  sl : S.length = w.α.length
  st : Cells w H' O' S
def RetV (w : Wd) (H H' : Hp) (O' : Addr → Prop) : Bool → D → V → Prop
  | true, d, v => ∃ a, v = .ref a ∧ H a = none ∧ O' a ∧ Ob w H' O' d a
  | false, d, v => Rp w H' O' d v
def spF (K : PySem.W.Frag) (mg : Str → Option Value) (ar : Nat) (g : Fn) : Sp := fun vs H Q E => ∃ (α : List Addr) (ds S : List D) (O0 : Addr → Prop), vs.length = ar ∧ RpAll ⟨K, mg, α⟩ H O0 ds vs ∧ Dom H O0 ∧ α.Nodup ∧ (∀ a ∈ α, O0 a) ∧ S.length = α.length ∧ Cells ⟨K, mg, α⟩ H O0 S ∧
  match g ds S with
  | .no => False
  | .ok S' fr d => ∀ v H' O', RetR ⟨K, mg, α⟩ H O0 S' H' O' → RetV ⟨K, mg, α⟩ H H' O' fr d v → Q v H'
  | .ex S' c r => ∀ cls dd H' O', RetR ⟨K, mg, α⟩ H O0 S' H' O' → ExR ⟨K, mg, α⟩ H' O' c r cls dd → E cls dd H'
def eCall (g : Fn) (as : SmA) : Sm := fun p => (as p).bind fun p1 ds => match g ds p1.S with
  | .no => .no
  | .ok S fr d => .ok { p1 with S := S } (kdOf fr, d)
  | .ex S c r => .ex { p1 with S := S } c r
section
variable {w : Wd} {G : Gh} {W : WX} {σ : L2.St} {p : PSt} {H H' : Hp} {O O' : Addr → Prop}
theorem RetR.rl {S : List D} (R : Rl w G p σ H O) (h : RetR w H O S H' O') : Rl w G { p with S := S } σ H' O' ∧ Nx w σ p H O { p with S := S } H' O' := by
  have f : Fz H O H' O' := fun a o e n => ⟨h.h a o e (R.oal n), fun z => (h.o a z).elim n fun q => by rw [e] at q; cases q⟩
  refine ⟨⟨R.len, fun i d q => ?_, fun i d q => ?_, R.dj, fun a z => h.i a (R.o0 a z), h.dom, fun a o e n => h.h a o (R.kp a o e n) n, R.al, h.sl, h.st, R.nd⟩, ⟨h.h, h.o, fun a z => .inl (h.i a z), fun _ _ q => q, fun _ _ q => .inl q, fun _ _ q => q⟩⟩
  · obtain ⟨v, e, r⟩ := R.fz i d q
    exact ⟨v, e, Rp.mono f R.dom d v r⟩
  · obtain ⟨a, e, h1, h2, h3, h4⟩ := R.ow i d q
    refine ⟨a, e, h.i a h1, h2, h3, h4.mono f R.dom fun o q => h.h a o q fun z => h2 (R.al a z)⟩
theorem core_call {α : List Addr} {K : PySem.W.Frag} {mg : Str → Option Value} {as : SmA} {g : Fn} {ar : Nat} {Q : VK} (hl : ∀ ds S, (∃ S' fr d, g ds S = .ok S' fr d) ∨ (∃ S' c r, g ds S = .ex S' c r) → ds.length = ar) (h : tE ⟨K, mg, α⟩ G W (eCall g as) σ H Q) :
    tCallS (spF K mg ar g) (fun σ cls dd H' => W cls dd σ H') (tA ⟨K, mg, α⟩ G W as) σ H Q := by
  obtain ⟨p, O, R, h⟩ := h
  refine ⟨p, O, R, (Wp.bind R h).mono fun p1 ds H1 O1 _ R1 N1 h1 vs hvs => ?_⟩
  refine ⟨α, ds, p1.S, O1, ?_, hvs, R1.dom, R1.nd, fun a z => R1.o0 a (R1.al a z), R1.sl, R1.st, ?_⟩
  · rw [hvs.len]
    cases e : g ds p1.S with
    | no => rw [e] at h1; exact False.elim h1
    | ok S' fr d => exact hl ds p1.S (.inl ⟨_, _, _, e⟩)
    | ex S' c r => exact hl ds p1.S (.inr ⟨_, _, _, e⟩)
  · cases e : g ds p1.S with
    | no => rw [e] at h1; exact False.elim h1
    | ok S' fr d =>
      rw [e] at h1
      intro v H' O' hR hV
      obtain ⟨R2, N2⟩ := hR.rl R1
      refine h1 H' O' R2 N2 v ?_
      cases fr with
      | false => exact hV
      | true =>
        obtain ⟨a, ev, ha, oa, ob⟩ := hV
        refine ⟨a, ev, oa, N1.back R ha fun z => R1.alN a z ha, ob, fun i e q z => ?_⟩
        obtain ⟨b, e1, k1, _⟩ := R1.ow i e q
        rw [z] at e1
        injection e1 with e1; injection e1 with e1; injection e1 with e1
        subst e1
        exact R1.dom.fresh ha k1
    | ex S' c r =>
      rw [e] at h1
      intro cls dd H' O' hR hE
      obtain ⟨R2, N2⟩ := hR.rl R1
      exact h1 H' O' cls dd R2 N2 hE
end
/-- a def of the module that keeps its promise -/
def FnG (X : Cx) (lv : Nat) (x : Str) (ar : Nat) (g : Fn) : Prop := ∃ f fd ps, X.mg x = some (.ref f) ∧ PySem.W.keepIn X.K (.ref f) = true ∧ Binds X.K fd ps [] ∧ FnOk X.prog X.w X.K X.mg X.base (L2.CX X.prog X.w) lv f fd ps (spF X.K X.mg ar g)
def ArOk (ar : Nat) (g : Fn) : Prop := ∀ ds S, (∃ S' fr d, g ds S = .ok S' fr d) ∨ (∃ S' c r, g ds S = .ex S' c r) → ds.length = ar
theorem se_call {X : Cx} {L lv ar : Nat} {x : Str} {g : Fn} {fs : SmA} {e : Expr} {es : List Expr} {p pos : Pos} (C : Cg X L) (F : FnG X lv x ar g) (hl : lv ≤ L) (har : ArOk ar g) (hg : Gl X x) (ha : SA X fs (e :: es)) (hdb : (x == ("__debug__" : Str)) = false)
    (he : starEach (e :: es) X.env = (false, eval e X.env) :: starEach es X.env) (hpl : (backTo pos (starEach es X.env)).any (·.1) = false) : SE X (eCall g fs) (.Call (.Name x p) (e :: es) [] pos) := by
  obtain ⟨f, fd, ps, hm, hk, hb, F⟩ := F
  intro α G W tk
  exact pe_weak (pe_callS F (C.room.mono hl) hg hm hk hb (fun σ => passAt tk σ) (ha α G W tk) hdb he hpl) fun _ _ _ h => core_call har h

/-! ### what a for goes through -/
abbrev SmI := PSt → Out (List D)
def ItR (w : Wd) (J : It) (H : Hp) (O : Addr → Prop) (items : List D) : Prop := ∀ (i : Nat) H1 O1, Fz H O H1 O1 → Dom H1 O1 →
  (∀ d, items[i]? = some d → J.go i H1 ∧ ∀ x H2, J.yld i H1 x H2 → Gr H1 H2 ∧ Rp w H2 O1 d x) ∧ (i = items.length → J.stop i H1)
def tI (w : Wd) (G : Gh) (W : WX) (f : SmI) : TI := fun σ H R => ∃ p O, Rl w G p σ H O ∧ Wp w G W σ p H O (f p) fun p' items H' O' => ∀ J, ItR w J H' O' items → R J H'
def SI (X : Cx) (tg : Expr) (f : SmI) (e : Expr) : Prop := ∀ α G W, Takes X W → PI X tg e (tI (X.wd α) G W f)
theorem pi_weak {X : Cx} {tg e : Expr} {t t' : TI} (h : PI X tg e t) (k : ∀ σ H R, t' σ H R → t σ H R) : PI X tg e t' := ⟨fun pins s σ H R I q => h.run pins s σ H R I (k σ H R q)⟩
theorem PI.or {X : Cx} {tg e : Expr} {t t' : TI} (h : PI X tg e t) (h' : PI X tg e t') : PI X tg e (fun σ H R => t σ H R ∨ t' σ H R) := ⟨fun pins s σ H R I q => q.elim (h.run pins s σ H R I) (h'.run pins s σ H R I)⟩
/-- a list, a tuple, a text as they are -/
def itemsD : D → Option (List D)
  | .lst xs => some xs
  | .tup xs => some xs
  | .flst xs => some xs
  | .str s => some (s.map fun c => .str [c])
  | _ => none
def iVal (f : Sm) : SmI := fun p => (f p).bind fun p1 x => match itemsD x.2 with
  | some xs => .ok (p1.frzK x.1) xs
  | none => .no
section
variable {w : Wd} {H : Hp} {O : Addr → Prop} {a : Addr} {ds : List D} {vs : List V}
theorem itr_list' {K : PySem.W.Frag} (hd : Dom H O) (h : (H a = some (.lst vs) ∧ ¬ O a) ∨ FzL K H a vs) (r : RpAll w H O ds vs) : ItR w (Itl K a) H O ds := by
  intro i H1 O1 f d1
  have q : SqL K H1 a vs := by
    rcases h with ⟨h, n⟩ | h
    · exact .of (f a _ h n).1
    · exact (f.fzL hd h).sq
  refine ⟨fun d hi => ?_, fun hi => ⟨vs, q, ?_⟩⟩
  · obtain ⟨v, e, rv⟩ := r.get hi
    refine ⟨⟨vs, v, q, e⟩, fun x H2 hy => ?_⟩
    obtain ⟨e2, hy⟩ := hy
    subst e2
    have e3 := hy vs q
    rw [e] at e3; cases e3
    exact ⟨Gr.refl, Rp.mono f hd d _ rv⟩
  · rw [r.len, hi]; exact Nat.le_refl _
theorem itr_tup {K : PySem.W.Frag} (hK : w.K = K) (hd : Dom H O) (h : SqT K H a vs) (r : RpAll w H O ds vs) : ItR w (Itt K a) H O ds := by
  subst hK
  intro i H1 O1 f d1
  have q : SqT w.K H1 a vs := f.sqT hd h
  refine ⟨fun d hi => ?_, fun hi => ⟨vs, q, ?_⟩⟩
  · obtain ⟨v, e, rv⟩ := r.get hi
    refine ⟨⟨vs, v, q, e⟩, fun x H2 hy => ?_⟩
    obtain ⟨e2, hy⟩ := hy
    subst e2
    have e3 := hy vs q
    rw [e] at e3; cases e3
    exact ⟨Gr.refl, Rp.mono f hd d _ rv⟩
  · rw [r.len, hi]; exact Nat.le_refl _
theorem itr_str {s : List Nat} : ItR w (Its (tx s)) H O (s.map fun c => .str [c]) := by
  intro i H1 O1 f d1
  refine ⟨fun d hi => ?_, fun hi => ?_⟩
  · rw [List.getElem?_map] at hi
    obtain ⟨c, hc, rfl⟩ := Option.map_eq_some_iff.mp hi
    have hl := (List.getElem?_eq_some_iff.mp hc).1
    refine ⟨show i < (tx s).cps.size by simpa using hl, fun x H2 hy => ?_⟩
    obtain ⟨e2, c', hc', e3⟩ := hy
    subst e2
    have : (tx s).cps[i]? = s[i]? := by simp
    rw [this, hc] at hc'
    cases hc'
    exact ⟨Gr.refl, e3⟩
  · show (tx s).cps.size ≤ i
    rw [hi]
    simp
theorem itr_rng {lo hi : Int} : ItR w (Itr lo (hi - lo).toNat) H O ((List.range (hi - lo).toNat).map fun k => .int (lo + (k : Nat))) := by
  intro i H1 O1 f d1
  refine ⟨fun d h => ?_, fun h => ?_⟩
  · rw [List.getElem?_map] at h
    obtain ⟨c, hc, rfl⟩ := Option.map_eq_some_iff.mp h
    obtain ⟨h1, h2⟩ := List.getElem?_eq_some_iff.mp hc
    rw [List.length_range] at h1
    rw [List.getElem_range] at h2
    subst h2
    refine ⟨h1, fun x H2 hy => ?_⟩
    obtain ⟨e2, e3⟩ := hy
    subst e2
    exact ⟨Gr.refl, e3⟩
  · rw [List.length_map, List.length_range] at h
    exact Nat.le_of_eq h.symm
end
end PM
namespace PM
open PySem PySem.Spec L2

/-! ### iterables -/
section
variable {X : Cx} {tg e : Expr} {es : List Expr} {fe : Sm} {gs : SmB} {fs : SmA} {p pos : Pos}
theorem si_val (he : SE X fe e) : SI X tg (iVal fe) e := fun α G W tk => by
  have h1 : PI X tg e (iList X.K (tE (X.wd α) G W fe)) := pi_list (he α G W tk)
  have h2 : PI X tg e (iTup X.K (tE (X.wd α) G W fe)) := pi_tup (he α G W tk)
  have h3 : PI X tg e (iStr (tE (X.wd α) G W fe)) := pi_str (he α G W tk)
  refine pi_weak (PI.or (PI.or h1 h2) h3) fun σ H R h => ?_
  obtain ⟨p, O, Rp0, h⟩ := h
  cases e0 : fe p with
  | no =>
    unfold iVal at h
    rw [e0] at h
    exact False.elim h
  | ex p' c r =>
    unfold iVal at h
    rw [e0] at h
    refine .inl (.inl ⟨p, O, Rp0, ?_⟩)
    rw [e0]
    exact h
  | ok p1 x =>
    unfold iVal at h
    rw [e0] at h
    obtain ⟨k, d⟩ := x
    have h : Wp (X.wd α) G W σ p H O (match itemsD d with | some xs => Out.ok (p1.frzK k) xs | none => .no) fun p' items H' O' => ∀ J, ItR (X.wd α) J H' O' items → R J H' := h
    cases d with
    | lst ds =>
      refine .inl (.inl ⟨p, O, Rp0, ?_⟩)
      rw [e0]
      intro H1 O1 R1 N1 v hv
      obtain ⟨O2, R2, N2, r2⟩ := frz_ok Rp0 N1 R1 hv
      obtain ⟨a, vs, ev, ha, na, ra⟩ := r2
      exact ⟨a, ev, ⟨vs, .of ha⟩, h H1 O2 R2 N2 _ (itr_list' R2.dom (.inl ⟨ha, na⟩) ra)⟩
    | flst ds =>
      refine .inl (.inl ⟨p, O, Rp0, ?_⟩)
      rw [e0]
      intro H1 O1 R1 N1 v hv
      obtain ⟨O2, R2, N2, r2⟩ := frz_ok Rp0 N1 R1 hv
      obtain ⟨a, vs, ev, ha, ra⟩ := r2
      exact ⟨a, ev, ⟨vs, ha.sq⟩, h H1 O2 R2 N2 _ (itr_list' R2.dom (.inr ha) ra)⟩
    | tup ds =>
      refine .inl (.inr ⟨p, O, Rp0, ?_⟩)
      rw [e0]
      intro H1 O1 R1 N1 v hv
      obtain ⟨O2, R2, N2, r2⟩ := frz_ok Rp0 N1 R1 hv
      obtain ⟨a, vs, ev, ha, ra⟩ := r2
      exact ⟨a, ev, ⟨vs, ha⟩, h H1 O2 R2 N2 _ (itr_tup rfl R2.dom ha ra)⟩
    | str s =>
      refine .inr ⟨p, O, Rp0, ?_⟩
      rw [e0]
      intro H1 O1 R1 N1 v hv
      obtain ⟨O2, R2, N2, r2⟩ := frz_ok Rp0 N1 R1 hv
      exact ⟨tx s, r2, h H1 O2 R2 N2 _ itr_str⟩
    | _ => exact False.elim h
noncomputable def bnd (n : Int) : Bool := @decide (-(2 ^ 62) ≤ n ∧ n < 2 ^ 62) (Classical.propDecidable _)
theorem bnd_ok {n : Int} (h : bnd n = true) : -(2 ^ 62) ≤ n ∧ n < 2 ^ 62 := @of_decide_eq_true _ (Classical.propDecidable _) h
def rngD (lo hi : Int) : List D := (List.range (hi - lo).toNat).map fun k => .int (lo + (k : Nat))
noncomputable def iRange1 (as : SmB) : SmI := fun p => (as p).bind fun p1 xs => match xs with
  | [(_, .int n)] => if bnd n = true then .ok p1 (rngD 0 n) else .no
  | _ => .no
noncomputable def iRange2 (as : SmB) : SmI := fun p => (as p).bind fun p1 xs => match xs with
  | [(_, .int a), (_, .int b)] => if (bnd a && bnd b) = true then .ok p1 (rngD a b) else .no
  | _ => .no
theorem Wp.iteI {β : Type} {w : Wd} {G : Gh} {W : WX} {σ : L2.St} {H : Hp} {p : PSt} {O : Addr → Prop} {c : Bool} {p1 : PSt} {x : β} {P : PSt → β → Hp → (Addr → Prop) → Prop} (h : Wp w G W σ p H O (if c = true then .ok p1 x else .no) P) : c = true ∧ ∀ H' O', Rl w G p1 σ H' O' → Nx w σ p H O p1 H' O' → P p1 x H' O' := by
  cases c with
  | true => exact ⟨rfl, h⟩
  | false => exact False.elim h
theorem v1_int {w : Wd} {G : Gh} {q : PSt} {σ : L2.St} {H Hs : Hp} {O : Addr → Prop} {k : Kd} {n : Int} {v : V} (R : Rl w G q σ H O) (h : VR w Hs q σ H O k (.int n) v) : v = .int n := (h.v1 (e := .int n) R rfl).int
theorem si_range1 {a : Expr} (hg : Gl X "range") (hm : X.mg "range" = none) (ha : SB X gs [a]) (hs : starEach [a] X.env = [(false, eval a X.env)]) : SI X tg (iRange1 gs) (.Call (.Name "range" p) [a] [] pos) := fun α G W tk =>
  pi_weak (pi_range1 hg hm (ha α G W tk) hs) fun σ H R h => by
    obtain ⟨p, O, Rp0, h⟩ := h
    refine ⟨p, O, Rp0, (Wp.bind Rp0 h).mono fun p1 xs H1 O1 _ R1 N1 h1 vs hvs => ?_⟩
    split at h1
    · rename_i k n _
      obtain ⟨v, r, e, h2, h3⟩ := hvs
      cases (show r = [] from h3)
      have ev := v1_int R1 h2
      subst ev
      obtain ⟨c, h4⟩ := h1.iteI
      have c := bnd_ok c
      refine ⟨n, e, c.1, c.2, ?_⟩
      have q := h4 H1 O1 R1 Nx.refl (Itr 0 n.toNat) (by
        have := itr_rng (w := X.wd α) (H := H1) (O := O1) (lo := 0) (hi := n)
        rw [Int.sub_zero] at this
        unfold rngD
        rw [Int.sub_zero]
        exact this)
      exact q
    · exact False.elim h1
theorem si_range2 {a b : Expr} (hg : Gl X "range") (hm : X.mg "range" = none) (ha : SB X gs [a, b]) (hs : starEach [a, b] X.env = [(false, eval a X.env), (false, eval b X.env)]) (hs2 : starEach [b] X.env = [(false, eval b X.env)]) : SI X tg (iRange2 gs) (.Call (.Name "range" p) [a, b] [] pos) := fun α G W tk =>
  pi_weak (pi_range2 hg hm (ha α G W tk) hs hs2) fun σ H R h => by
    obtain ⟨p, O, Rp0, h⟩ := h
    refine ⟨p, O, Rp0, (Wp.bind Rp0 h).mono fun p1 xs H1 O1 _ R1 N1 h1 vs hvs => ?_⟩
    split at h1
    · rename_i k n k2 m _
      obtain ⟨v, r, e, h2, h3⟩ := hvs
      obtain ⟨u, r', e', h2', h3'⟩ := h3
      cases (show r' = [] from h3')
      have ev := v1_int R1 h2
      have eu := v1_int R1 h2'
      subst ev eu e'
      obtain ⟨c, h4⟩ := h1.iteI
      rw [Bool.and_eq_true] at c
      have c1 := bnd_ok c.1
      have c2 := bnd_ok c.2
      exact ⟨n, m, e, ⟨c1.1, c1.2, c2.1, c2.2⟩, h4 H1 O1 R1 Nx.refl _ itr_rng⟩
    · exact False.elim h1
/-- (0, x), (1, y), .. -/
def enumD (k : Nat) : List D → List D
  | [] => []
  | x :: xs => .tup [.int (k : Nat), x] :: enumD (k + 1) xs
theorem enumD_get : ∀ (xs : List D) (k i : Nat), (enumD k xs)[i]? = xs[i]?.map fun x => .tup [.int ((k + i : Nat) : Int), x]
  | [], _, _ => by simp [enumD]
  | x :: xs, k, 0 => by simp [enumD]
  | x :: xs, k, i + 1 => by
    show (enumD (k + 1) xs)[i]? = _
    rw [enumD_get xs (k + 1) i]
    have : k + 1 + i = k + (i + 1) := by omega
    rw [this]
    simp
theorem enumD_len : ∀ (xs : List D) (k : Nat), (enumD k xs).length = xs.length
  | [], _ => rfl
  | x :: xs, k => by simp [enumD, enumD_len xs]
def iEnumr (as : SmA) : SmI := fun p => (as p).bind fun p1 ds => match ds with
  | [d] => (match itemsD d with
    | some xs => .ok p1 (enumD 0 xs)
    | none => .no)
  | _ => .no
theorem rp_pair {w : Wd} {H : Hp} {O : Addr → Prop} (hd : Dom H O) {d : D} {x : V} {i : Nat} {T : Addr} (hT : H T = none) (r : Rp w H O d x) : Gr H (upd H T (.tup [.int (i : Nat), x])) ∧ Rp w (upd H T (.tup [.int (i : Nat), x])) O (.tup [.int (i : Nat), d]) (.ref T) :=
  ⟨Gr.new hT, T, _, rfl, .inl (.inl upd_same), _, _, rfl, rfl, _, _, rfl, Rp.mono (Gr.new hT).fz hd d x r, rfl⟩
theorem itr_enumL {w : Wd} {K : PySem.W.Frag} {H : Hp} {O : Addr → Prop} {a : Addr} {ds : List D} {vs : List V} (hd : Dom H O) (h : (H a = some (.lst vs) ∧ ¬ O a) ∨ FzL K H a vs) (r : RpAll w H O ds vs) : ItR w (Ite K a) H O (enumD 0 ds) := by
  intro i H1 O1 f d1
  have q : SqL K H1 a vs := by
    rcases h with ⟨h, n⟩ | h
    · exact .of (f a _ h n).1
    · exact (f.fzL hd h).sq
  refine ⟨fun d hi => ?_, fun hi => ⟨vs, q, ?_⟩⟩
  · rw [enumD_get, Nat.zero_add] at hi
    obtain ⟨d', e', rfl⟩ := Option.map_eq_some_iff.mp hi
    obtain ⟨v, e, rv⟩ := r.get e'
    refine ⟨⟨vs, v, q, e⟩, fun x H2 hy => ?_⟩
    obtain ⟨T, y, rfl, hT, rfl, hy⟩ := hy
    have e3 := hy vs q
    rw [e] at e3; cases e3
    exact rp_pair d1 hT (Rp.mono f hd d' _ rv)
  · rw [r.len, hi, enumD_len]; exact Nat.le_refl _
theorem itr_enumT {w : Wd} {K : PySem.W.Frag} {H : Hp} {O : Addr → Prop} {a : Addr} {ds : List D} {vs : List V} (hK : w.K = K) (hd : Dom H O) (h : SqT K H a vs) (r : RpAll w H O ds vs) : ItR w (IteS (srcT K a vs.length) fun H => ∃ us, SqT K H a us ∧ us.length = vs.length) H O (enumD 0 ds) := by
  subst hK
  intro i H1 O1 f d1
  have q : SqT w.K H1 a vs := f.sqT hd h
  refine ⟨fun d hi => ?_, fun hi => ⟨⟨vs, q, rfl⟩, ?_⟩⟩
  · rw [enumD_get, Nat.zero_add] at hi
    obtain ⟨d', e', rfl⟩ := Option.map_eq_some_iff.mp hi
    obtain ⟨v, e, rv⟩ := r.get e'
    refine ⟨⟨⟨vs, q, rfl⟩, (List.getElem?_eq_some_iff.mp e).1⟩, fun x H2 hy => ?_⟩
    obtain ⟨T, y, rfl, hT, rfl, hy⟩ := hy
    have e3 := hy vs q
    rw [e] at e3; cases e3
    exact rp_pair d1 hT (Rp.mono f hd d' _ rv)
  · rw [hi, enumD_len]; exact r.len.symm
theorem itr_enumX {w : Wd} {H : Hp} {O : Addr → Prop} {s : List Nat} : ItR w (IteS (srcX (tx s)) fun _ => True) H O (enumD 0 (s.map fun c => .str [c])) := by
  intro i H1 O1 f d1
  refine ⟨fun d hi => ?_, fun hi => ⟨trivial, ?_⟩⟩
  · rw [enumD_get, Nat.zero_add, List.getElem?_map] at hi
    obtain ⟨d', e', rfl⟩ := Option.map_eq_some_iff.mp hi
    obtain ⟨c, hc, rfl⟩ := Option.map_eq_some_iff.mp e'
    have hl := (List.getElem?_eq_some_iff.mp hc).1
    refine ⟨⟨trivial, show i < (tx s).cps.size by simpa using hl⟩, fun x H2 hy => ?_⟩
    obtain ⟨T, y, rfl, hT, rfl, c', hc', rfl⟩ := hy
    have e2 : (tx s).cps[i]? = s[i]? := by simp
    rw [e2, hc] at hc'
    cases hc'
    exact rp_pair d1 hT rfl
  · rw [hi, enumD_len]
    show (s.map _).length = (tx s).cps.size
    simp
theorem si_enum {elts : List Expr} {kk : Nat} {tpos : Pos} (hg : Gl X "enumerate") (hm : X.mg "enumerate" = none) (ha : SA X fs [e]) (hs : starEach [e] X.env = [(false, eval e X.env)]) :
    SI X (.Tuple elts kk tpos) (iEnumr fs) (.Call (.Name "enumerate" p) [e] [] pos) := fun α G W tk => by
  have h1 : PI X (.Tuple elts kk tpos) (.Call (.Name "enumerate" p) [e] [] pos) (iEnum X.K (tA (X.wd α) G W fs)) := pi_enum hg hm (ha α G W tk) hs
  have h2 : PI X (.Tuple elts kk tpos) (.Call (.Name "enumerate" p) [e] [] pos) (iEnumT X.K (tA (X.wd α) G W fs)) := pi_enumT hg hm (ha α G W tk) hs
  have h3 : PI X (.Tuple elts kk tpos) (.Call (.Name "enumerate" p) [e] [] pos) (iEnumX (tA (X.wd α) G W fs)) := pi_enumX hg hm (ha α G W tk) hs
  refine pi_weak (PI.or (PI.or h1 h2) h3) fun σ H R h => ?_
  obtain ⟨p, O, Rp0, h⟩ := h
  cases e0 : fs p with
  | no =>
    unfold iEnumr at h
    rw [e0] at h
    exact False.elim h
  | ex p' c r =>
    unfold iEnumr at h
    rw [e0] at h
    refine .inl (.inl ⟨p, O, Rp0, ?_⟩)
    rw [e0]
    exact h
  | ok p1 ds =>
    unfold iEnumr at h
    rw [e0] at h
    match ds, h with
    | [], h => exact False.elim h
    | _ :: _ :: _, h => exact False.elim h
    | [d], h =>
    have h : Wp (X.wd α) G W σ p H O (match itemsD d with | some xs => Out.ok p1 (enumD 0 xs) | none => .no) fun p' items H' O' => ∀ J, ItR (X.wd α) J H' O' items → R J H' := h
    cases d with
    | lst ds =>
      refine .inl (.inl ⟨p, O, Rp0, ?_⟩)
      rw [e0]
      intro H1 O1 R1 N1 us hv
      obtain ⟨v, r, rfl, hv, hr⟩ := hv
      cases (show r = [] from hr)
      obtain ⟨a, vs, ev, ha, na, ra⟩ := hv
      subst ev
      exact ⟨a, vs, rfl, .of ha, h H1 O1 R1 N1 _ (itr_enumL R1.dom (.inl ⟨ha, na⟩) ra)⟩
    | flst ds =>
      refine .inl (.inl ⟨p, O, Rp0, ?_⟩)
      rw [e0]
      intro H1 O1 R1 N1 us hv
      obtain ⟨v, r, rfl, hv, hr⟩ := hv
      cases (show r = [] from hr)
      obtain ⟨a, vs, ev, ha, ra⟩ := hv
      subst ev
      exact ⟨a, vs, rfl, ha.sq, h H1 O1 R1 N1 _ (itr_enumL R1.dom (.inr ha) ra)⟩
    | tup ds =>
      refine .inl (.inr ⟨p, O, Rp0, ?_⟩)
      rw [e0]
      intro H1 O1 R1 N1 us hv
      obtain ⟨v, r, rfl, hv, hr⟩ := hv
      cases (show r = [] from hr)
      obtain ⟨a, vs, ev, ha, ra⟩ := hv
      subst ev
      exact ⟨a, vs, rfl, ha, h H1 O1 R1 N1 _ (itr_enumT rfl R1.dom ha ra)⟩
    | str s =>
      refine .inr ⟨p, O, Rp0, ?_⟩
      rw [e0]
      intro H1 O1 R1 N1 us hv
      obtain ⟨v, r, rfl, hv, hr⟩ := hv
      cases (show r = [] from hr)
      cases (show v = .str (tx s) from hv)
      exact ⟨tx s, rfl, h H1 O1 R1 N1 _ itr_enumX⟩
    | _ => exact False.elim h
end
end PM
namespace PM
open PySem PySem.Spec L2

/-! ### statements -/
inductive Fl where
  | nx | bk | ct | rt (k : Kd) (d : D)
abbrev SmS := PSt → Out Fl
def EndOk (w : Wd) (G : Gh) (p : PSt) (σ : L2.St) (H : Hp) (O : Addr → Prop) (D : Ends) : Fl → Prop
  | .nx => D.nx σ H
  | .bk => D.bk σ H
  | .ct => D.ct σ H
  | .rt k d => ∀ v, VR w G.H0 p σ H O k d v → D.rt v H
def WpS (w : Wd) (G : Gh) (W : WX) (H : Hp) (O : Addr → Prop) (o : Out Fl) (D : Ends) : Prop := match o with
  | .no => False
  | .ok p' fl => ∀ σ' H' O', Rl w G p' σ' H' O' → Fz H O H' O' → EndOk w G p' σ' H' O' D fl
  | .ex p' c r => ∀ σ' H' O' cls dd, Rl w G p' σ' H' O' → Fz H O H' O' → ExR w H' O' c r cls dd → W cls dd σ' H'
def tS (w : Wd) (G : Gh) (W : WX) (f : SmS) : TS := fun D σ H => ∃ p O, Rl w G p σ H O ∧ WpS w G W H O (f p) D
def SS (X : Cx) (f : SmS) (st : Stmt) : Prop := ∀ α G W, Takes X W → PS X st (tS (X.wd α) G W f)
def SSs (X : Cx) (f : SmS) (sts : List Stmt) : Prop := ∀ α G W, Takes X W → PSs X sts (tS (X.wd α) G W f)
section
variable {X : Cx} {w : Wd} {G : Gh} {W : WX} {σ : L2.St} {p p1 : PSt} {H H1 Hs : Hp} {O O1 Os : Addr → Prop} {D : Ends}
theorem ps_weak {st : Stmt} {t t' : TS} (h : PS X st t) (k : ∀ D σ H, t' D σ H → t D σ H) : PS X st t' := ⟨fun pins s σ H D I q => h.run pins s σ H D I (k D σ H q)⟩
theorem pss_weak {st : List Stmt} {t t' : TS} (h : PSs X st t) (k : ∀ D σ H, t' D σ H → t D σ H) : PSs X st t' := ⟨fun pins s σ H D I q => h.run pins s σ H D I (k D σ H q)⟩
theorem WpS.at {o : Out Fl} (f : Fz H O H1 O1) (h : WpS w G W H O o D) : WpS w G W H1 O1 o D := by
  cases o with
  | no => exact h
  | ok p' fl => exact fun σ' H' O' R F => h σ' H' O' R (f.trans F)
  | ex p' c r => exact fun σ' H' O' cls dd R F => h σ' H' O' cls dd R (f.trans F)
/-- a statement that begins with an expression -/
theorem WpS.bindE {β : Type} (R : Rl w G p σ H O) {o : Out β} {f : PSt → β → Out Fl} (h : WpS w G W H O (o.bind f) D) : Wp w G W σ p H O o fun p1 b H1 O1 => WpS w G W H O (f p1 b) D := by
  cases o with
  | no => exact h
  | ok p1 b => exact fun H1 O1 R1 N1 => h
  | ex p' c r => exact fun H' O' cls dd R' N' E => h σ H' O' cls dd R' (N'.fzR R) E
theorem WpS.one {fl : Fl} (h : WpS w G W H O (.ok p fl) D) (R : Rl w G p σ H1 O1) (f : Fz H O H1 O1) : EndOk w G p σ H1 O1 D fl := h σ H1 O1 R f

/-! ### slots are stored -/
theorem Rl.setFz {i : Nat} {d : PM.D} {v : V} (R : Rl w G p σ H O) (r : Rp w H O d v) : Rl w G { p with ρ := p.ρ.set i (.fz d) } (σ.set i (some v)) H O := by
  have ne : ∀ {j : Nat} {e : PM.D}, (p.ρ.set i (.fz d))[j]? = some (.ow e) → i ≠ j := fun {j e} q z => by
    subst z
    rw [List.getElem?_set] at q
    simp only [if_true] at q
    split at q <;> cases q
  refine ⟨?_, fun j e q => ?_, fun j e q => ?_, fun j k e e' a q1 q2 s1 s2 => ?_, R.o0, R.dom, R.kp, R.al, R.sl, R.st, R.nd⟩
  · show (σ.set i (some v)).length = (p.ρ.set i (.fz d)).length
    rw [List.length_set, List.length_set]; exact R.len
  · have q : (p.ρ.set i (.fz d))[j]? = some (.fz e) := q
    by_cases z : i = j
    · subst z
      have hi : i < p.ρ.length := by
        have := (List.getElem?_eq_some_iff.mp q).1
        rwa [List.length_set] at this
      rw [List.getElem?_set_self hi] at q
      injection q with q; injection q with q
      subst q
      exact ⟨v, List.getElem?_set_self (by rw [R.len]; exact hi), r⟩
    · rw [List.getElem?_set_ne z] at q ⊢
      exact R.fz j e q
  · have q : (p.ρ.set i (.fz d))[j]? = some (.ow e) := q
    have z := ne q
    rw [List.getElem?_set_ne z] at q ⊢
    exact R.ow j e q
  · have q1 : (p.ρ.set i (.fz d))[j]? = some (.ow e) := q1
    have q2 : (p.ρ.set i (.fz d))[k]? = some (.ow e') := q2
    have z1 := ne q1
    have z2 := ne q2
    rw [List.getElem?_set_ne z1] at q1 s1
    rw [List.getElem?_set_ne z2] at q2 s2
    exact R.dj j k e e' a q1 q2 s1 s2
theorem Rl.setOw {i : Nat} {d : PM.D} {a : Addr} (R : Rl w G p σ H O) (oa : O a) (n0 : ¬ G.O0 a) (h0 : G.H0 a = none) (ob : Ob w H O d a) (un : ∀ (j : Nat) e, p.ρ[j]? = some (.ow e) → j ≠ i → σ[j]? ≠ some (some (.ref a))) :
    Rl w G { p with ρ := p.ρ.set i (.ow d) } (σ.set i (some (.ref a))) H O := by
  refine ⟨?_, fun j e q => ?_, fun j e q => ?_, fun j k e e' b q1 q2 s1 s2 => ?_, R.o0, R.dom, R.kp, R.al, R.sl, R.st, R.nd⟩
  · show (σ.set i (some (.ref a))).length = (p.ρ.set i (.ow d)).length
    rw [List.length_set, List.length_set]; exact R.len
  · have q : (p.ρ.set i (.ow d))[j]? = some (.fz e) := q
    have z : i ≠ j := fun z => by
      subst z
      rw [List.getElem?_set] at q
      simp only [if_true] at q
      split at q <;> cases q
    rw [List.getElem?_set_ne z] at q ⊢
    exact R.fz j e q
  · have q : (p.ρ.set i (.ow d))[j]? = some (.ow e) := q
    by_cases z : i = j
    · subst z
      have hi : i < p.ρ.length := by
        have := (List.getElem?_eq_some_iff.mp q).1
        rwa [List.length_set] at this
      rw [List.getElem?_set_self hi] at q
      injection q with q; injection q with q
      subst q
      exact ⟨a, List.getElem?_set_self (by rw [R.len]; exact hi), oa, n0, h0, ob⟩
    · rw [List.getElem?_set_ne z] at q ⊢
      exact R.ow j e q
  · have q1 : (p.ρ.set i (.ow d))[j]? = some (.ow e) := q1
    have q2 : (p.ρ.set i (.ow d))[k]? = some (.ow e') := q2
    have at_i : ∀ {m : Nat} {e : PM.D} {b : Addr}, (p.ρ.set i (.ow d))[m]? = some (.ow e) → i = m → (σ.set i (some (V.ref a)))[m]? = some (some (.ref b)) → a = b := fun {m e b} q z s => by
      subst z
      have hi : i < p.ρ.length := by
        have := (List.getElem?_eq_some_iff.mp q).1
        rwa [List.length_set] at this
      rw [List.getElem?_set_self (by rw [R.len]; exact hi)] at s
      injection s with s; injection s with s; injection s
    by_cases z1 : i = j
    · by_cases z2 : i = k
      · rw [← z1, z2]
      · have e1 := at_i q1 z1 s1
        rw [List.getElem?_set_ne z2] at q2 s2
        exact absurd (e1 ▸ s2) (un k e' q2 (Ne.symm z2))
    · by_cases z2 : i = k
      · have e1 := at_i q2 z2 s2
        rw [List.getElem?_set_ne z1] at q1 s1
        exact absurd (e1 ▸ s1) (un j e q1 (Ne.symm z1))
      · rw [List.getElem?_set_ne z1] at q1 s1
        rw [List.getElem?_set_ne z2] at q2 s2
        exact R.dj j k e e' b q1 q2 s1 s2
/-- name = value -/
def PSt.put (p : PSt) (i : Nat) (k : Kd) (d : PM.D) : PSt := match k with
  | .fr => { p with ρ := p.ρ.set i (.ow d) }
  | k => { p.frzK k with ρ := (p.frzK k).ρ.set i (.fz d) }
theorem Rl.h0 (R : Rl w G p σ H O) {a : Addr} (h : H a = none) : G.H0 a = none := by
  cases e : G.H0 a with
  | none => rfl
  | some o =>
    rw [R.kp a o e fun z => R.alN a z h] at h
    cases h
theorem put_ok {i : Nat} {k : Kd} {d : PM.D} {v : V} (Rs : Rl w G p σ Hs Os) (N : Nx w σ p Hs Os p1 H O) (R : Rl w G p1 σ H O) (h : VR w Hs p1 σ H O k d v) :
    ∃ O', Rl w G (p1.put i k d) (σ.set i (some v)) H O' ∧ Fz Hs Os H O' := by
  cases k with
  | fr =>
    obtain ⟨a, rfl, oa, ha, ob, un⟩ := h
    exact ⟨O, R.setOw oa (fun z => Rs.dom.fresh ha (Rs.o0 a z)) (Rs.h0 ha) ob fun j e q _ => un j e q, N.fzR Rs⟩
  | fz =>
    obtain ⟨O', R', N', r'⟩ := frz_ok Rs N R h
    exact ⟨O', R'.setFz r', N'.fzR Rs⟩
  | ow j =>
    obtain ⟨O', R', N', r'⟩ := frz_ok Rs N R h
    exact ⟨O', R'.setFz r', N'.fzR Rs⟩
end

/-! ### small statements -/
def sNil : SmS := fun p => .ok p .nx
def sSeq (f g : SmS) : SmS := fun p => (f p).bind fun p1 fl => match fl with
  | .nx => g p1
  | fl => .ok p1 fl
def sSet (i : Nat) (f : Sm) : SmS := fun p => (f p).bind fun p1 x => .ok (p1.put i x.1 x.2) .nx
def sRet (f : Sm) : SmS := fun p => (f p).bind fun p1 x => .ok p1 (.rt x.1 x.2)
def sRetN : SmS := fun p => .ok p (.rt .fz .non)
def sExpr (f : Sm) : SmS := fun p => (f p).bind fun p1 _ => .ok p1 .nx
def sIf (t : SmT) (a b : SmS) : SmS := fun p => (t p).bind fun p1 k => if k = true then a p1 else b p1
def sBrk : SmS := fun p => .ok p .bk
def sCnt : SmS := fun p => .ok p .ct
section
variable {w : Wd} {G : Gh} {W : WX} {σ : L2.St} {H : Hp} {D : Ends}
theorem core_nil (h : tS w G W sNil D σ H) : tNext D σ H := by
  obtain ⟨p, O, R, h⟩ := h
  exact h σ H O R Fz.refl
theorem core_seq {f g : SmS} (h : tS w G W (sSeq f g) D σ H) : tSeq (tS w G W f) (tS w G W g) D σ H := by
  obtain ⟨p, O, R, h⟩ := h
  refine ⟨p, O, R, ?_⟩
  have h : WpS w G W H O ((f p).bind fun p1 fl => match fl with | .nx => g p1 | fl => .ok p1 fl) D := h
  cases e : f p with
  | no => rw [e] at h; exact h
  | ex p' c r => rw [e] at h; exact h
  | ok p1 fl =>
    rw [e] at h
    intro σ' H' O' R' F'
    cases fl with
    | nx =>
      have h : WpS w G W H O (g p1) D := h
      exact ⟨p1, O', R', h.at F'⟩
    | bk => exact h σ' H' O' R' F'
    | ct => exact h σ' H' O' R' F'
    | rt k d => exact h σ' H' O' R' F'
theorem core_set {i : Nat} {f : Sm} (h : tS w G W (sSet i f) D σ H) : tAsg (tE w G W f) (gName i) D σ H := by
  obtain ⟨p, O, R, h⟩ := h
  refine ⟨p, O, R, (WpS.bindE R h).mono fun p1 x H1 O1 _ R1 N1 h1 v hv => ?_⟩
  obtain ⟨O', R', F'⟩ := put_ok (i := i) R N1 R1 hv
  exact h1 _ H1 O' R' F'
theorem core_ret {f : Sm} (h : tS w G W (sRet f) D σ H) : tRet (tE w G W f) D σ H := by
  obtain ⟨p, O, R, h⟩ := h
  refine ⟨p, O, R, (WpS.bindE R h).mono fun p1 x H1 O1 _ R1 N1 h1 v hv => ?_⟩
  exact h1 σ H1 O1 R1 (N1.fzR R) v (hv.back fun a q _ => R.h0 q)
theorem core_retN (h : tS w G W sRetN D σ H) : tRetN D σ H := by
  obtain ⟨p, O, R, h⟩ := h
  exact h σ H O R Fz.refl .non rfl
theorem core_expr {f : Sm} (h : tS w G W (sExpr f) D σ H) : tDrop (tE w G W f) D σ H := by
  obtain ⟨p, O, R, h⟩ := h
  refine ⟨p, O, R, (WpS.bindE R h).mono fun p1 x H1 O1 _ R1 N1 h1 v hv => ?_⟩
  exact h1 σ H1 O1 R1 (N1.fzR R)
theorem core_if {t : SmT} {a b : SmS} (h : tS w G W (sIf t a b) D σ H) : tIfS (tT w G W t) (tS w G W a) (tS w G W b) D σ H := by
  obtain ⟨p, O, R, h⟩ := h
  refine ⟨p, O, R, (WpS.bindE R h).mono fun p1 k H1 O1 _ R1 N1 h1 => ?_⟩
  cases k with
  | true => rw [if_pos rfl] at h1 ⊢; exact ⟨p1, O1, R1, h1.at (N1.fzR R)⟩
  | false => rw [if_neg Bool.false_ne_true] at h1 ⊢; exact ⟨p1, O1, R1, h1.at (N1.fzR R)⟩
theorem core_brk (h : tS w G W sBrk D σ H) : tBreak D σ H := by
  obtain ⟨p, O, R, h⟩ := h
  exact h σ H O R Fz.refl
theorem core_cnt (h : tS w G W sCnt D σ H) : tCont D σ H := by
  obtain ⟨p, O, R, h⟩ := h
  exact h σ H O R Fz.refl
end
section
variable {X : Cx} {L : Nat} {st : Stmt} {rest : List Stmt} {f g : SmS} {fe : Sm} {ft : SmT} {e c : Expr} {a b : List Stmt} {pos pos' : Pos}
theorem ss_nil : SSs X sNil [] := fun α G W tk => pss_weak pss_nil fun _ _ _ h => core_nil h
theorem ss_cons (h1 : SS X f st) (h2 : SSs X g rest) : SSs X (sSeq f g) (st :: rest) := fun α G W tk => pss_weak (pss_cons (h1 α G W tk) (h2 α G W tk)) fun _ _ _ h => core_seq h
theorem ss_one (h1 : SS X f st) : SSs X f [st] := fun α G W tk => pss_one (h1 α G W tk)
theorem ss_pass : SS X sNil (.Pass pos) := fun α G W tk => ps_weak ps_pass fun _ _ _ h => core_nil h
theorem ss_brk : SS X sBrk (.Break pos) := fun α G W tk => ps_weak ps_break fun _ _ _ h => core_brk h
theorem ss_cnt : SS X sCnt (.Continue pos) := fun α G W tk => ps_weak ps_continue fun _ _ _ h => core_cnt h
theorem ss_never : SS X (fun _ => .no) st := fun α G W tk => ⟨fun pins s σ H D I h => by
  obtain ⟨p, O, R, h⟩ := h
  exact False.elim h⟩
theorem ss_set {i : Nat} {x : Str} (C : Cg X L) (hi : X.N[i]? = some x) (hx : Loc X.env.scope x) (he : SE X fe e) (hs : swapsWith e (some (.Name x pos')) pos.line X.env = pure false) (hf : X.fn x = true ∨ X.env.scope.names.lookup x = some .local) : SS X (sSet i fe) (.Assign [.Name x pos'] e pos) :=
  fun α G W tk => ps_weak (ps_set C.nd hi hx (he α G W tk) hs hf) fun _ _ _ h => core_set h
theorem ss_ret (he : SE X fe e) : SS X (sRet fe) (.Return (some e) pos) := fun α G W tk => ps_weak (ps_ret (he α G W tk)) fun _ _ _ h => core_ret h
theorem ss_retN : SS X sRetN (.Return none pos) := fun α G W tk => ps_weak ps_retN fun _ _ _ h => core_retN h
theorem ss_expr (he : SE X fe e) (hs : swapsWith e none pos.line X.env = pure false) : SS X (sExpr fe) (.Expr e pos) := fun α G W tk => ps_weak (ps_expr (he α G W tk) hs) fun _ _ _ h => core_expr h
theorem ss_if (ht : ST X ft c) (ha : SSs X f a) (hb : SSs X g b) : SS X (sIf ft f g) (.If c a b pos) := fun α G W tk => ps_weak (ps_if (ht α G W tk) (ha α G W tk) (hb α G W tk)) fun _ _ _ h => core_if h
end

/-! ### name op= value -/
def addI : Op2
  | .int i, .int j => some (false, .int (i + j))
  | .str s, .str t => guard' (szB (s.length + t.length)) (some (false, .str (s ++ t)))
  | _, _ => none
def sAug (i : Nat) (f : Op2) (e : Sm) : SmS := fun p => match p.ρ[i]? with
  | some (.fz d) => (e p).bind fun p1 x => match (deref p1 x.2).bind fun y => f d y with
    | some (false, z) => .ok { p1 with ρ := p1.ρ.set i (.fz z) } .nx
    | _ => .no
  | _ => .no
def OpSc (f : Op2) : Prop := ∀ d e z, f d e = some (false, z) → (∃ i, z = .int i) ∨ ∃ s, z = .str s
section
variable {X : Cx} {α : List Addr} {G : Gh} {W : WX} {σ : L2.St} {H : Hp} {D : Ends}
theorem core_aug {i : Nat} {r : R2} {f : Op2} {fe : Sm} (hs : OpS2 X r f) (hno : ∀ d e n, d = .ob n → f d e = none) (h : tS (X.wd α) G W (sAug i f fe) D σ H) : tAug i (tE (X.wd α) G W fe) r D σ H := by
  obtain ⟨p, O, R, h⟩ := h
  have h : WpS (X.wd α) G W H O (match p.ρ[i]? with
    | some (.fz d) => (fe p).bind fun p1 x => match (deref p1 x.2).bind fun y => f d y with
      | some (false, z) => .ok { p1 with ρ := p1.ρ.set i (.fz z) } .nx
      | _ => .no
    | _ => .no) D := h
  split at h
  · rename_i d ed
    obtain ⟨v, ev, rv⟩ := R.fz i d ed
    refine ⟨v, ev, p, O, R, (WpS.bindE R h).mono fun p1 x H1 O1 _ R1 N1 h1 u hu => ?_⟩
    split at h1
    · rename_i z ez
      obtain ⟨y, e1, e2⟩ := Option.bind_eq_some_iff.mp ez
      have rv1 : Rp (X.wd α) H1 O1 d v := Rp.mono (N1.fzR R) R.dom d v rv
      refine hs α H1 O1 d y v u false z _ R1.dom (.inl rv1) (hu.v1 R1 e1) e2 fun v' H' hn => ?_
      have g := hn.1
      have rz : Rp (X.wd α) H' O1 z v' := hn.2
      have R2 := R1.grow g
      exact h1 _ H' O1 (R2.setFz rz) ((N1.fzR R).trans g.fz)
    · exact False.elim h1
  · exact False.elim h
theorem os_addI : OpS2 X (fun x y H Q => rI0 (fun i j => .int (i + j)) x y H Q ∨ ∃ i j, x = .str i ∧ y = .str j ∧ i.length + j.length ≤ sizeLine ∧ Q (.str (i ++ j)) H) addI := by
  intro α H O d e x y fr z Q hd vx vy hf q
  unfold addI at hf
  split at hf
  · cases hf
    exact .inl ⟨_, _, vx.int, vy.int, q _ _ (newV_same rfl)⟩
  · obtain ⟨h1, h2⟩ := guard_some hf
    cases h2
    refine .inr ⟨_, _, vx.str, vy.str, ?_, ?_⟩
    · rw [tx_len, tx_len]; exact szB_ok h1
    · rw [tx_app]; exact q _ _ (newV_same rfl)
  · cases hf
theorem ss_aug {L : Nat} {i : Nat} {x : Str} {op : Operator} {r : R2} {f : Op2} {fe : Sm} {e : Expr} {pos pos' : Pos} (C : Cg X L) (ho : OpR X (inplaceOp op) r) (hs : OpS2 X r f) (hno : ∀ d e n, d = .ob n → f d e = none) (hi : X.N[i]? = some x) (hx : Loc X.env.scope x) (he : SE X fe e) (hf : X.fn x = true ∨ X.env.scope.names.lookup x = some .local) :
    SS X (sAug i f fe) (.AugAssign (.Name x pos') op e pos) := fun α G W tk => ps_weak (ps_aug C.nd hi hx (he α G W tk) ho hf) fun _ _ _ h => core_aug hs hno h
end

/-! ### targets -/
abbrev Tg := D → PSt → Option PSt
def gN (i : Nat) : Tg := fun d p => some { p with ρ := p.ρ.set i (.fz d) }
def gSeq : List Tg → List D → PSt → Option PSt
  | [], [], p => some p
  | g :: gs, d :: ds, p => (g d p).bind (gSeq gs ds)
  | _, _, _ => none
def gT (gs : List Tg) : Tg := fun d p => match d with
  | .tup ds => gSeq gs ds p
  | _ => none
/-- slots that are not named stay -/
def SameBut (ts : List Nat) (σ σ' : L2.St) : Prop := σ'.length = σ.length ∧ ∀ i, i ∉ ts → σ'[i]? = σ[i]?
def tG (w : Wd) (G : Gh) (g : Tg) (ts : List Nat) : TG := fun x σ H Q => ∃ p O d p1, Rl w G p σ H O ∧ Rp w H O d x ∧ g d p = some p1 ∧ ∀ σ', Rl w G p1 σ' H O → SameBut ts σ σ' → Q σ' H
def tGs (w : Wd) (G : Gh) (gs : List Tg) (ts : List Nat) : TGs := fun xs σ H Q => ∃ p O ds p1, Rl w G p σ H O ∧ RpAll w H O ds xs ∧ gSeq gs ds p = some p1 ∧ ∀ σ', Rl w G p1 σ' H O → SameBut ts σ σ' → Q σ' H
/-- a target stores values that stay, in the slots named -/
structure TgOk (g : Tg) (ts : List Nat) : Prop where
  s : ∀ d p p1, g d p = some p1 → p1.S = p.S
  out : ∀ d p p1, g d p = some p1 → ∀ i, i ∉ ts → p1.ρ[i]? = p.ρ[i]?
  ow : ∀ d p p1, g d p = some p1 → ∀ (i : Nat) e, p1.ρ[i]? = some (.ow e) → p.ρ[i]? = some (.ow e)
  len : ∀ d p p1, g d p = some p1 → p1.ρ.length = p.ρ.length
structure TgsOk (gs : List Tg) (ts : List Nat) : Prop where
  s : ∀ ds p p1, gSeq gs ds p = some p1 → p1.S = p.S
  out : ∀ ds p p1, gSeq gs ds p = some p1 → ∀ i, i ∉ ts → p1.ρ[i]? = p.ρ[i]?
  ow : ∀ ds p p1, gSeq gs ds p = some p1 → ∀ (i : Nat) e, p1.ρ[i]? = some (.ow e) → p.ρ[i]? = some (.ow e)
  len : ∀ ds p p1, gSeq gs ds p = some p1 → p1.ρ.length = p.ρ.length
structure SG (X : Cx) (g : Tg) (ts : List Nat) (e : Expr) : Prop where
  pg : ∀ α G, PG X e (tG (X.wd α) G g ts)
  ok : TgOk g ts
structure SGs (X : Cx) (gs : List Tg) (ts : List Nat) (es : List Expr) : Prop where
  pg : ∀ α G, PGs X es (tGs (X.wd α) G gs ts)
  ok : TgsOk gs ts
theorem SameBut.refl {ts : List Nat} {σ : L2.St} : SameBut ts σ σ := ⟨rfl, fun _ _ => rfl⟩
theorem SameBut.trans {ts us : List Nat} {σ σ1 σ2 : L2.St} (a : SameBut ts σ σ1) (b : SameBut us σ1 σ2) : SameBut (ts ++ us) σ σ2 :=
  ⟨b.1.trans a.1, fun i h => (b.2 i fun z => h (List.mem_append_right _ z)).trans (a.2 i fun z => h (List.mem_append_left _ z))⟩
theorem tgOk_name (i : Nat) : TgOk (gN i) [i] := by
  refine ⟨fun d p p1 h => ?_, fun d p p1 h j hj => ?_, fun d p p1 h j e q => ?_, fun d p p1 h => ?_⟩
  · cases h; rfl
  · cases h
    exact List.getElem?_set_ne fun z => hj (by simp [z])
  · cases h
    have q : (p.ρ.set i (.fz d))[j]? = some (.ow e) := q
    by_cases z : i = j
    · subst z
      rw [List.getElem?_set] at q
      simp only [if_true] at q
      split at q <;> cases q
    · rwa [List.getElem?_set_ne z] at q
  · cases h
    exact List.length_set
theorem tgsOk_nil : TgsOk [] [] := by
  refine ⟨fun d p p1 h => ?_, fun d p p1 h j hj => ?_, fun d p p1 h j e q => ?_, fun d p p1 h => ?_⟩ <;> (cases d <;> cases h <;> first | rfl | assumption)
theorem tgsOk_cons {g : Tg} {gs : List Tg} {ts us : List Nat} (h1 : TgOk g ts) (h2 : TgsOk gs us) : TgsOk (g :: gs) (ts ++ us) := by
  have get : ∀ {d p p1}, gSeq (g :: gs) d p = some p1 → ∃ x xs p2, d = x :: xs ∧ g x p = some p2 ∧ gSeq gs xs p2 = some p1 := fun {d p p1} h => by
    cases d with
    | nil => cases h
    | cons x xs =>
      obtain ⟨p2, e2, e3⟩ := Option.bind_eq_some_iff.mp (show (g x p).bind (gSeq gs xs) = some p1 from h)
      exact ⟨x, xs, p2, rfl, e2, e3⟩
  refine ⟨fun d p p1 h => ?_, fun d p p1 h j hj => ?_, fun d p p1 h j e q => ?_, fun d p p1 h => ?_⟩
  · obtain ⟨x, xs, p2, rfl, e2, e3⟩ := get h
    exact (h2.s _ _ _ e3).trans (h1.s _ _ _ e2)
  · obtain ⟨x, xs, p2, rfl, e2, e3⟩ := get h
    exact (h2.out _ _ _ e3 j fun z => hj (List.mem_append_right _ z)).trans (h1.out _ _ _ e2 j fun z => hj (List.mem_append_left _ z))
  · obtain ⟨x, xs, p2, rfl, e2, e3⟩ := get h
    exact h1.ow _ _ _ e2 j e (h2.ow _ _ _ e3 j e q)
  · obtain ⟨x, xs, p2, rfl, e2, e3⟩ := get h
    exact (h2.len _ _ _ e3).trans (h1.len _ _ _ e2)
theorem tgOk_tup {gs : List Tg} {ts : List Nat} (h : TgsOk gs ts) : TgOk (gT gs) ts := by
  have get : ∀ {d p p1}, gT gs d p = some p1 → ∃ ds, d = .tup ds ∧ gSeq gs ds p = some p1 := fun {d p p1} h => by
    cases d with
    | tup ds => exact ⟨ds, rfl, h⟩
    | _ => cases h
  refine ⟨fun d p p1 q => ?_, fun d p p1 q => ?_, fun d p p1 q => ?_, fun d p p1 q => ?_⟩ <;> obtain ⟨ds, rfl, e⟩ := get q
  · exact h.s _ _ _ e
  · exact h.out _ _ _ e
  · exact h.ow _ _ _ e
  · exact h.len _ _ _ e
section
variable {X : Cx} {L : Nat}
theorem pg_weak {e : Expr} {t t' : TG} (h : PG X e t) (k : ∀ x σ H Q, t' x σ H Q → t x σ H Q) : PG X e t' := ⟨fun pins s σ H v u Q I r q => h.run pins s σ H v u Q I r (k v σ H Q q)⟩
theorem pgs_weak {e : List Expr} {t t' : TGs} (h : PGs X e t) (k : ∀ x σ H Q, t' x σ H Q → t x σ H Q) : PGs X e t' := ⟨fun pins s σ H v u Q I r q => h.run pins s σ H v u Q I r (k v σ H Q q)⟩
theorem sg_name {i : Nat} {x : Str} {pos : Pos} (C : Cg X L) (hi : X.N[i]? = some x) (hx : Loc X.env.scope x) (hf : X.fn x = true ∨ X.env.scope.names.lookup x = some .local) : SG X (gN i) [i] (.Name x pos) := ⟨fun α G =>
  pg_weak (pg_name C.nd hi hx hf) fun v σ H Q h => by
    obtain ⟨p, O, d, p1, R, r, e, k⟩ := h
    cases e
    exact k _ (R.setFz r) ⟨List.length_set, fun j hj => List.getElem?_set_ne fun z => hj (by simp [z])⟩, tgOk_name i⟩
theorem sgs_nil : SGs X [] [] [] := by
  refine ⟨fun α G => ?_, tgsOk_nil⟩
  exact pgs_weak pgs_nil fun xs σ H Q h => by
    obtain ⟨p, O, ds, p1, R, r, e, k⟩ := h
    cases ds with
    | nil =>
      cases e
      exact ⟨r, k σ R .refl⟩
    | cons d ds => cases e
theorem sgs_cons {g : Tg} {gs : List Tg} {ts us : List Nat} {e : Expr} {es : List Expr} (h1 : SG X g ts e) (h2 : SGs X gs us es) (hs : (assignEach (e :: es) X.env).map (·.2) = assign e X.env :: (assignEach es X.env).map (·.2)) : SGs X (g :: gs) (ts ++ us) (e :: es) := ⟨fun α G =>
  pgs_weak (pgs_cons (h1.pg α G) (h2.pg α G) hs) fun xs σ H Q h => by
    obtain ⟨p, O, ds, p1, R, r, e, k⟩ := h
    cases ds with
    | nil => cases e
    | cons d ds =>
      obtain ⟨v, r', e1, r1, r2⟩ := r
      obtain ⟨p2, e2, e3⟩ := Option.bind_eq_some_iff.mp (show (g d p).bind (gSeq gs ds) = some p1 from e)
      exact ⟨v, r', e1, p, O, d, p2, R, r1, e2, fun σ' R' S' => ⟨p2, O, ds, p1, R', r2, e3, fun σ2 R2 S2 => k σ2 R2 (S'.trans S2)⟩⟩, tgsOk_cons h1.ok h2.ok⟩
theorem gSeq_len : ∀ {gs : List Tg} {ds : List D} {p p1 : PSt}, gSeq gs ds p = some p1 → ds.length = gs.length
  | [], [], _, _, _ => rfl
  | g :: gs, d :: ds, p, p1, h => by
    obtain ⟨p2, e2, e3⟩ := Option.bind_eq_some_iff.mp (show (g d p).bind (gSeq gs ds) = some p1 from h)
    rw [List.length_cons, List.length_cons, gSeq_len e3]
  | [], _ :: _, _, _, h => by cases h
  | _ :: _, [], _, _, h => by cases h
theorem sg_tup {gs : List Tg} {ts : List Nat} {es : List Expr} {k : Nat} {pos : Pos} {n : Nat} (C : Cg X L) (h : SGs X gs ts es) (hn : (assignEach es X.env).length = n) (hgs : gs.length = n) (hst : (assignEach es X.env).findIdx? (·.1) = none) : SG X (gT gs) ts (.Tuple es k pos) := by
  refine ⟨fun α G => ?_, tgOk_tup h.ok⟩
  exact pg_weak (pg_tup C.calm (h.pg α G) hn hst) fun v σ H Q h => by
      obtain ⟨p, O, d, p1, R, r, e, k⟩ := h
      cases d with
      | tup ds =>
        obtain ⟨a, vs, ev, ha, ra⟩ := r
        exact ⟨a, vs, ev, ha, by rw [ra.len, gSeq_len (show gSeq gs ds p = some p1 from e), hgs], p, O, ds, p1, R, ra, e, k⟩
      | _ => cases e
end

/-! ### for, while -/
def forLoop (tg : Tg) (body : SmS) : List D → PSt → Out Fl
  | [], p => .ok p .nx
  | d :: ds, p => match tg d p with
    | none => .no
    | some p1 => (body p1).bind fun p2 fl => match fl with
      | .nx => forLoop tg body ds p2
      | .ct => forLoop tg body ds p2
      | .bk => .ok p2 .nx
      | .rt k v => .ok p2 (.rt k v)
def sFor (it : SmI) (tg : Tg) (body : SmS) : SmS := fun p => (it p).bind fun p1 items => forLoop tg body items p1
section
variable {w : Wd} {G : Gh} {W : WX} {σ : L2.St} {H : Hp} {D : Ends}
theorem core_for {it : SmI} {tg : Tg} {ts : List Nat} {body : SmS} (h : tS w G W (sFor it tg body) D σ H) : tFor (tI w G W it) (tG w G tg ts) (tS w G W body) D σ H := by
  obtain ⟨p, O, R, h⟩ := h
  refine ⟨p, O, R, (WpS.bindE R h).mono fun p1 items H1 O1 _ R1 N1 h1 J hJ => ?_⟩
  have h1 := h1.at (N1.fzR R)
  refine ⟨fun i m σ' H' => ∃ p' O', Rl w G p' σ' H' O' ∧ Fz H1 O1 H' O' ∧ m = items.length - i ∧ i ≤ items.length ∧ WpS w G W H' O' (forLoop tg body (items.drop i) p') D, ⟨items.length, p1, O1, R1, Fz.refl, by simp, Nat.zero_le _, h1⟩, ?_⟩
  rintro i m σ' H' ⟨p', O', R', F', em, hi, h'⟩
  obtain ⟨jgo, jst⟩ := hJ i H' O' F' R'.dom
  by_cases hlt : i < items.length
  · refine .inr ?_
    have e1 : items.drop i = items[i] :: items.drop (i + 1) := List.drop_eq_getElem_cons hlt
    rw [e1] at h'
    obtain ⟨go, yl⟩ := jgo items[i] (List.getElem?_eq_getElem hlt)
    refine ⟨go, fun σ2 H2 => ∃ p2 O2, Rl w G p2 σ2 H2 O2 ∧ Fz H1 O1 H2 O2 ∧ WpS w G W H2 O2 (forLoop tg body (items.drop (i + 1)) p2) D, fun σ2 H2 ⟨p2, O2, R2, F2, h2⟩ => ⟨items.length - (i + 1), by omega, p2, O2, R2, F2, rfl, hlt, h2⟩, fun x H2 hy => ?_⟩
    obtain ⟨g, rx⟩ := yl x H2 hy
    have R2 := R'.grow g
    have h2 : WpS w G W H2 O' (forLoop tg body (items[i] :: items.drop (i + 1)) p') D := h'.at g.fz
    unfold forLoop at h2
    cases et : tg items[i] p' with
    | none => rw [et] at h2; exact False.elim h2
    | some p2 =>
      rw [et] at h2
      refine ⟨p', O', items[i], p2, R2, rx, et, fun σ2 R3 _ => ⟨p2, O', R3, ?_⟩⟩
      have F2 : Fz H1 O1 H2 O' := F'.trans g.fz
      have h3 : WpS w G W H2 O' ((body p2).bind fun p2 fl => match fl with
        | .nx => forLoop tg body (items.drop (i + 1)) p2
        | .ct => forLoop tg body (items.drop (i + 1)) p2
        | .bk => .ok p2 .nx
        | .rt k v => .ok p2 (.rt k v)) D := h2
      cases eb : body p2 with
      | no => rw [eb] at h3; exact h3
      | ex p3 c r => rw [eb] at h3; exact h3
      | ok p3 fl =>
        rw [eb] at h3
        intro σ3 H3 O3 R4 F4
        cases fl with
        | nx => exact ⟨p3, O3, R4, F2.trans F4, WpS.at F4 h3⟩
        | ct => exact ⟨p3, O3, R4, F2.trans F4, WpS.at F4 h3⟩
        | bk => exact h3 σ3 H3 O3 R4 F4
        | rt k d => exact h3 σ3 H3 O3 R4 F4
  · have e0 : i = items.length := by omega
    refine .inl ⟨jst e0, ?_⟩
    rw [e0, List.drop_length] at h'
    exact h' σ' H' O' R' Fz.refl
end
def whN (t : SmT) (body : SmS) : Nat → PSt → Out Fl
  | 0, _ => .no
  | n + 1, p => (t p).bind fun p1 k => if k = true then (body p1).bind fun p2 fl => match fl with
      | .nx => whN t body n p2
      | .ct => whN t body n p2
      | .bk => .ok p2 .nx
      | .rt k v => .ok p2 (.rt k v)
    else .ok p1 .nx
theorem whN_more {t : SmT} {body : SmS} : ∀ {n : Nat} {p : PSt}, whN t body n p ≠ .no → whN t body (n + 1) p = whN t body n p
  | 0, p, h => absurd rfl h
  | n + 1, p, h => by
    have e1 : ∀ m, whN t body (m + 1) p = (t p).bind fun p1 k => if k = true then (body p1).bind fun p2 fl => match fl with
      | .nx => whN t body m p2
      | .ct => whN t body m p2
      | .bk => .ok p2 .nx
      | .rt k v => .ok p2 (.rt k v)
      else .ok p1 .nx := fun m => rfl
    rw [e1 n] at h ⊢
    rw [e1 (n + 1)]
    cases et : t p with
    | no => rfl
    | ex p' c r => rfl
    | ok p1 k =>
      rw [et] at h
      show (if k = true then _ else _) = (if k = true then _ else _)
      have h : (if k = true then (body p1).bind fun p2 fl => match fl with
        | .nx => whN t body n p2
        | .ct => whN t body n p2
        | .bk => .ok p2 .nx
        | .rt k v => .ok p2 (.rt k v)
        else .ok p1 .nx) ≠ .no := h
      cases k with
      | false => rfl
      | true =>
        rw [if_pos rfl] at h ⊢
        rw [if_pos rfl]
        cases eb : body p1 with
        | no => rfl
        | ex p' c r => rfl
        | ok p2 fl =>
          rw [eb] at h
          cases fl with
          | nx => exact whN_more h
          | ct => exact whN_more h
          | bk => rfl
          | rt k d => rfl
theorem whN_le {t : SmT} {body : SmS} {n m : Nat} {p : PSt} (h : whN t body n p ≠ .no) (hm : n ≤ m) : whN t body m p = whN t body n p := by
  induction m with
  | zero =>
    have : n = 0 := by omega
    rw [this]
  | succ m ih =>
    by_cases e : n = m + 1
    · rw [e]
    · have q := ih (by omega)
      rw [whN_more (by rw [q]; exact h), q]
open Classical in
noncomputable def sWhile (t : SmT) (body : SmS) : SmS := fun p => if h : ∃ n, whN t body n p ≠ .no then whN t body (Classical.choose h) p else .no
theorem sWhile_eq {t : SmT} {body : SmS} {n : Nat} {p : PSt} (h : whN t body n p ≠ .no) : sWhile t body p = whN t body n p := by
  have hx : ∃ n, whN t body n p ≠ .no := ⟨n, h⟩
  unfold sWhile
  rw [dif_pos hx]
  have hc := Classical.choose_spec hx
  rcases Nat.le_total n (Classical.choose hx) with q | q
  · exact whN_le h q
  · exact (whN_le hc q).symm
theorem sWhile_ex {t : SmT} {body : SmS} {p : PSt} (h : sWhile t body p ≠ .no) : ∃ n, sWhile t body p = whN t body n p := by
  unfold sWhile at h ⊢
  split
  · exact ⟨_, rfl⟩
  · rename_i hn
    rw [dif_neg hn] at h
    exact absurd rfl h
section
variable {w : Wd} {G : Gh} {W : WX} {σ : L2.St} {H : Hp} {D : Ends}
theorem core_while {t : SmT} {body : SmS} (h : tS w G W (sWhile t body) D σ H) : tWhile (tT w G W t) (tS w G W body) D σ H := by
  obtain ⟨p, O, R, h⟩ := h
  have hn : sWhile t body p ≠ .no := fun e => by rw [e] at h; exact h
  obtain ⟨n, e⟩ := sWhile_ex hn
  rw [e] at h
  refine ⟨fun m σ' H' => ∃ p' O', Rl w G p' σ' H' O' ∧ WpS w G W H' O' (whN t body m p') D, ⟨n, p, O, R, h⟩, ?_⟩
  rintro m σ' H' ⟨p', O', R', h'⟩
  cases m with
  | zero => exact False.elim h'
  | succ m =>
    have h' : WpS w G W H' O' ((t p').bind fun p1 k => if k = true then (body p1).bind fun p2 fl => match fl with
      | .nx => whN t body m p2
      | .ct => whN t body m p2
      | .bk => .ok p2 .nx
      | .rt k v => .ok p2 (.rt k v)
      else .ok p1 .nx) D := h'
    refine ⟨p', O', R', (WpS.bindE R' h').mono fun p1 k H1 O1 _ R1 N1 h1 => ?_⟩
    have h1 := h1.at (N1.fzR R')
    cases k with
    | false =>
      dsimp only
      rw [if_neg Bool.false_ne_true] at h1 ⊢
      exact h1 σ' H1 O1 R1 Fz.refl
    | true =>
      dsimp only
      rw [if_pos rfl] at h1 ⊢
      refine ⟨fun σ2 H2 => ∃ p2 O2, Rl w G p2 σ2 H2 O2 ∧ WpS w G W H2 O2 (whN t body m p2) D, fun σ2 H2 h2 => ⟨m, Nat.lt_succ_self _, h2⟩, p1, O1, R1, ?_⟩
      cases eb : body p1 with
      | no => rw [eb] at h1; exact h1
      | ex p3 c r => rw [eb] at h1; exact h1
      | ok p3 fl =>
        rw [eb] at h1
        intro σ3 H3 O3 R4 F4
        cases fl with
        | nx => exact ⟨p3, O3, R4, WpS.at F4 h1⟩
        | ct => exact ⟨p3, O3, R4, WpS.at F4 h1⟩
        | bk => exact h1 σ3 H3 O3 R4 F4
        | rt k d => exact h1 σ3 H3 O3 R4 F4
end
section
variable {X : Cx} {L : Nat} {it : SmI} {tg : Tg} {ts : List Nat} {body : SmS} {ft : SmT} {te ie c : Expr} {bs : List Stmt} {pos : Pos}
theorem ss_for (C : Cg X L) (hp : PassesOwn (model X.prog X.w) X.A X.env X.xe) (hi : SI X te it ie) (hg : SG X tg ts te) (hb : SSs X body bs) (hs : ∀ x, foldedSetIterable ie X.env x = pure x) : SS X (sFor it tg body) (.For te ie bs [] pos) :=
  fun α G W tk => ps_weak (ps_for hp C.calm (hi α G W tk) (hg.pg α G) (hb α G W tk) hs) fun _ _ _ h => core_for h
theorem ss_while (hp : PassesOwn (model X.prog X.w) X.A X.env X.xe) (ht : ST X ft c) (hb : SSs X body bs) : SS X (sWhile ft body) (.While c bs [] pos) :=
  fun α G W tk => ps_weak (ps_while hp (ht α G W tk) (hb α G W tk)) fun _ _ _ h => core_while h
end
end PM
namespace PM
open PySem PySem.Spec L2

/-! ### objects of one's own are changed -/
section
variable {w : Wd} {G : Gh} {σ : L2.St} {p : PSt} {H : Hp} {O : Addr → Prop}
theorem Fz.mut {a : Addr} {o : HO} (oa : O a) : Fz H O (upd H a o) O := fun b u e n => by
  have : b ≠ a := fun z => n (z ▸ oa)
  exact ⟨by rw [upd_ne this]; exact e, n⟩
theorem Dom.mut {a : Addr} {o : HO} (hd : Dom H O) (c : cellO o = true) : Dom (upd H a o) O := fun b z => by
  by_cases e : b = a
  · rw [e, upd_same]; exact ⟨o, rfl, c⟩
  · rw [upd_ne e]; exact hd b z
/-- what no name owns -/
theorem Rl.mutT {a : Addr} {o : HO} (R : Rl w G p σ H O) (oa : O a) (n0 : ¬ G.O0 a) (h0 : G.H0 a = none) (c : cellO o = true) (un : ∀ (i : Nat) e, p.ρ[i]? = some (.ow e) → σ[i]? ≠ some (some (.ref a))) : Rl w G p σ (upd H a o) O := by
  have f : Fz H O (upd H a o) O := Fz.mut oa
  refine ⟨R.len, fun i d q => ?_, fun i d q => ?_, R.dj, R.o0, R.dom.mut c, fun b u e n => ?_, R.al, R.sl, fun n c b e1 e2 => ?_, R.nd⟩
  · obtain ⟨v, e, r⟩ := R.fz i d q
    exact ⟨v, e, Rp.mono f R.dom d v r⟩
  · obtain ⟨b, e, h1, h2, h3, h4⟩ := R.ow i d q
    have ne : b ≠ a := fun z => un i d q (z ▸ e)
    exact ⟨b, e, h1, h2, h3, h4.mono f R.dom fun u q => by rw [upd_ne ne]; exact q⟩
  · have ne : b ≠ a := fun z => by rw [z, h0] at e; cases e
    rw [upd_ne ne]
    exact R.kp b u e n
  · have ne : b ≠ a := fun z => n0 (z ▸ R.al b (List.mem_of_getElem? e2))
    exact (R.st n c b e1 e2).mono f R.dom fun u q => by rw [upd_ne ne]; exact q
/-- a name's own object -/
theorem Rl.mutS {i : Nat} {d d' : D} {a : Addr} {o : HO} (R : Rl w G p σ H O) (hi : p.ρ[i]? = some (.ow d)) (ha : σ[i]? = some (some (.ref a))) (c : cellO o = true) (ob : Ob w (upd H a o) O d' a) : Rl w G { p with ρ := p.ρ.set i (.ow d') } σ (upd H a o) O ∧ O a := by
  obtain ⟨b, e, oa, n0, h0, _⟩ := R.ow i d hi
  have eb : b = a := by
    rw [ha] at e
    injection e with e; injection e with e; injection e with e
    exact e.symm
  subst eb
  have f : Fz H O (upd H b o) O := Fz.mut oa
  have hil := (List.getElem?_eq_some_iff.mp hi).1
  refine ⟨⟨?_, fun j e q => ?_, fun j e q => ?_, fun j k e e' u q1 q2 s1 s2 => ?_, R.o0, R.dom.mut c, fun u x e n => ?_, R.al, R.sl, fun n c u e1 e2 => ?_, R.nd⟩, oa⟩
  · show σ.length = (p.ρ.set i (.ow d')).length
    rw [List.length_set]; exact R.len
  · have q : (p.ρ.set i (.ow d'))[j]? = some (.fz e) := q
    have z : i ≠ j := fun z => by
      subst z
      rw [List.getElem?_set_self hil] at q
      cases q
    rw [List.getElem?_set_ne z] at q
    obtain ⟨v, e1, r⟩ := R.fz j e q
    exact ⟨v, e1, Rp.mono f R.dom e v r⟩
  · have q : (p.ρ.set i (.ow d'))[j]? = some (.ow e) := q
    by_cases z : i = j
    · subst z
      rw [List.getElem?_set_self hil] at q
      injection q with q; injection q with q
      subst q
      exact ⟨b, ha, oa, n0, h0, ob⟩
    · rw [List.getElem?_set_ne z] at q
      obtain ⟨u, e1, k1, k2, k3, k4⟩ := R.ow j e q
      have ne : u ≠ b := fun y => z (R.dj i j d e b hi q ha (y ▸ e1))
      exact ⟨u, e1, k1, k2, k3, k4.mono f R.dom fun x q => by rw [upd_ne ne]; exact q⟩
  · have un : ∀ {m : Nat} {e : D}, (p.ρ.set i (.ow d'))[m]? = some (.ow e) → ∃ e2, p.ρ[m]? = some (.ow e2) := fun {m e} q => by
      by_cases z : i = m
      · subst z; exact ⟨d, hi⟩
      · rw [List.getElem?_set_ne z] at q; exact ⟨e, q⟩
    obtain ⟨_, y1⟩ := un q1
    obtain ⟨_, y2⟩ := un q2
    exact R.dj j k _ _ u y1 y2 s1 s2
  · have ne : u ≠ b := fun z => by rw [z, h0] at e; cases e
    rw [upd_ne ne]
    exact R.kp u x e n
  · have ne : u ≠ b := fun z => n0 (z ▸ R.al u (List.mem_of_getElem? e2))
    exact (R.st n c u e1 e2).mono f R.dom fun x q => by rw [upd_ne ne]; exact q
/-- a shared object -/
theorem Rl.mutO {n : Nat} {c' : D} {a : Addr} {o : HO} (R : Rl w G p σ H O) (hn : n < p.S.length) (ha : w.α[n]? = some a) (c : cellO o = true) (ob : Ob w (upd H a o) O c' a) : Rl w G { p with S := p.S.set n c' } σ (upd H a o) O ∧ O a := by
  have ma := List.mem_of_getElem? ha
  have o0 := R.al a ma
  have oa := R.o0 a o0
  have f : Fz H O (upd H a o) O := Fz.mut oa
  refine ⟨⟨R.len, fun j e q => ?_, fun j e q => ?_, R.dj, R.o0, R.dom.mut c, fun u x e z => ?_, R.al, ?_, fun m c u e1 e2 => ?_, R.nd⟩, oa⟩
  · obtain ⟨v, e1, r⟩ := R.fz j e q
    exact ⟨v, e1, Rp.mono f R.dom e v r⟩
  · obtain ⟨u, e1, k1, k2, k3, k4⟩ := R.ow j e q
    have ne : u ≠ a := fun z => k2 (z ▸ o0)
    exact ⟨u, e1, k1, k2, k3, k4.mono f R.dom fun x q => by rw [upd_ne ne]; exact q⟩
  · have ne : u ≠ a := fun y => z (y ▸ ma)
    rw [upd_ne ne]
    exact R.kp u x e z
  · show (p.S.set n c').length = _
    rw [List.length_set]; exact R.sl
  · have e1 : (p.S.set n c')[m]? = some c := e1
    by_cases z : n = m
    · subst z
      rw [List.getElem?_set_self hn] at e1
      injection e1 with e1
      subst e1
      rw [ha] at e2
      injection e2 with e2
      subst e2
      exact ob
    · rw [List.getElem?_set_ne z] at e1
      have ne : u ≠ a := fun y => by
        subst y
        obtain ⟨h1, g1⟩ := List.getElem?_eq_some_iff.mp ha
        obtain ⟨h2, g2⟩ := List.getElem?_eq_some_iff.mp e2
        exact z ((List.getElem_inj R.nd).mp (g1.trans g2.symm))
      exact (R.st m c u e1 e2).mono f R.dom fun x q => by rw [upd_ne ne]; exact q
end

/-! ### xs.append(e), xs.extend(e) -/
def sApp (i : Nat) (f : Sm) : SmS := fun p => match p.ρ[i]? with
  | some (.ow (.lst _)) => (f p).bind fun p1 x => match (p1.frzK x.1).ρ[i]? with
    | some (.ow (.lst ds)) => if szB (ds.length + 1) = true then .ok { p1.frzK x.1 with ρ := (p1.frzK x.1).ρ.set i (.ow (.lst (ds ++ [x.2]))) } .nx else .no
    | _ => .no
  | _ => .no
def sExt (i : Nat) (f : Sm) : SmS := fun p => match p.ρ[i]? with
  | some (.ow (.lst _)) => (f p).bind fun p1 x => match p1.ρ[i]?, deref p1 x.2 with
    | some (.ow (.lst ds)), some (.lst es) => if szB (ds.length + es.length) = true then .ok { p1 with ρ := p1.ρ.set i (.ow (.lst (ds ++ es))) } .nx else .no
    | _, _ => .no
  | _ => .no
theorem szB_lt {n : Nat} (h : szB (n + 1) = true) : n < sizeLine := Nat.lt_of_lt_of_le (Nat.lt_succ_self n) (szB_ok h)
section
variable {X : Cx} {α : List Addr} {G : Gh} {W : WX} {σ : L2.St} {H : Hp} {D' : Ends}
theorem ow_at {w : Wd} {p : PSt} {O : Addr → Prop} {i : Nat} {ds : List D} (R : Rl w G p σ H O) (h : p.ρ[i]? = some (.ow (.lst ds))) : ∃ a vs, σ[i]? = some (some (.ref a)) ∧ H a = some (.lst vs) ∧ RpAll w H O ds vs := by
  obtain ⟨a, e, _, _, _, ob⟩ := R.ow i _ h
  rcases ob with ⟨ds', vs, e', ha, r⟩ | ⟨_, _, e', _⟩
  · cases e'; exact ⟨a, vs, e, ha, r⟩
  · cases e'
theorem WpS.ite {w : Wd} {O : Addr → Prop} {c : Bool} {p1 : PSt} {fl : Fl} (h : WpS w G W H O (if c = true then .ok p1 fl else .no) D') : c = true ∧ ∀ σ' H' O', Rl w G p1 σ' H' O' → Fz H O H' O' → EndOk w G p1 σ' H' O' D' fl := by
  cases c with
  | true => exact ⟨rfl, h⟩
  | false => exact False.elim h
theorem core_app {i : Nat} {fe : Sm} (h : tS (X.wd α) G W (sApp i fe) D' σ H) : tDrop (tBM X.K "list" rAppend (tVar i) (tCons (tE (X.wd α) G W fe) tNil)) D' σ H := by
  obtain ⟨p, O, R, h⟩ := h
  unfold sApp at h
  split at h
  · rename_i ds0 e0
    obtain ⟨a, vs0, ea, ha0, _⟩ := ow_at R e0
    refine ⟨_, ea, .inl ⟨rfl, vs0, .of ha0⟩, p, O, R, (WpS.bindE R h).mono fun p1 x H1 O1 _ R1 N1 h1 v hv => ?_⟩
    obtain ⟨O2, R2, N2, r2⟩ := frz_ok R N1 R1 hv
    split at h1
    · rename_i ds e1
      obtain ⟨hz, h2⟩ := WpS.ite h1
      obtain ⟨a', vs, ea', ha, ra⟩ := ow_at R2 e1
      have eq : a' = a := by
        rw [ea] at ea'
        injection ea' with q; injection q with q; injection q with q
        exact q.symm
      subst eq
      obtain ⟨_, _, oa, _⟩ := R2.ow i _ e1
      have ob : Ob (X.wd α) (upd H1 a' (.lst (vs ++ [v]))) O2 (.lst (ds ++ [x.2])) a' := by
        obtain ⟨b, eb, ob, _⟩ := R2.ow i _ e1
        have : b = a' := by
          rw [ea] at eb
          injection eb with q; injection q with q; injection q with q
          exact q.symm
        subst this
        exact .inl ⟨_, _, rfl, upd_same, (ra.append (RpAll.one r2)).mono (Fz.mut ob) R2.dom⟩
      obtain ⟨R3, oa⟩ := R2.mutS e1 ea rfl ob
      exact ⟨a', vs, v, rfl, rfl, ha, by rw [ra.len]; exact szB_lt hz, h2 σ _ O2 R3 ((N2.fzR R).trans (Fz.mut oa))⟩
    · exact False.elim h1
  · exact False.elim h
theorem core_ext {i : Nat} {fe : Sm} (h : tS (X.wd α) G W (sExt i fe) D' σ H) : tDrop (tBM X.K "list" rExtend (tVar i) (tCons (tE (X.wd α) G W fe) tNil)) D' σ H := by
  obtain ⟨p, O, R, h⟩ := h
  unfold sExt at h
  split at h
  · rename_i ds0 e0
    obtain ⟨a, vs0, ea, ha0, _⟩ := ow_at R e0
    refine ⟨_, ea, .inl ⟨rfl, vs0, .of ha0⟩, p, O, R, (WpS.bindE R h).mono fun p1 x H1 O1 _ R1 N1 h1 v hv => ?_⟩
    split at h1
    · rename_i ds es e1 e2
      obtain ⟨hz, h2⟩ := WpS.ite h1
      obtain ⟨a', vs, ea', ha, ra⟩ := ow_at R1 e1
      have eq : a' = a := by
        rw [ea] at ea'
        injection ea' with q; injection q with q; injection q with q
        exact q.symm
      subst eq
      obtain ⟨b, us, rfl, hb, rb⟩ := (hv.v1 R1 e2).lst
      have ob : Ob (X.wd α) (upd H1 a' (.lst (vs ++ us))) O1 (.lst (ds ++ es)) a' := by
        obtain ⟨c, ec, oc, _⟩ := R1.ow i _ e1
        have : c = a' := by
          rw [ea] at ec
          injection ec with q; injection q with q; injection q with q
          exact q.symm
        subst this
        exact .inl ⟨_, _, rfl, upd_same, (ra.append rb).mono (Fz.mut oc) R1.dom⟩
      obtain ⟨R3, oa⟩ := R1.mutS e1 ea rfl ob
      exact ⟨a', b, vs, us, rfl, rfl, ha, hb, by rw [ra.len, rb.len]; exact szB_ok hz, h2 σ _ O1 R3 ((N1.fzR R).trans (Fz.mut oa))⟩
    · exact False.elim h1
  · exact False.elim h
end

/-! ### xs[i] = e, d[k] = e -/
def keyEq : D → D → Bool
  | .int i, .int j => decide (i = j)
  | .str s, .str t => decide (s = t)
  | _, _ => false
def isKey : D → Bool
  | .int _ => true
  | .str _ => true
  | _ => false
def putD (ps : List (D × D)) (k d : D) : List (D × D) := if (ps.any fun q => keyEq q.1 k) = true then ps.map (fun q => if keyEq q.1 k = true then (q.1, d) else q) else ps ++ [(k, d)]
def keyK : D → Option Key
  | .int i => some (.inl i)
  | .str s => some (.inr (tx s))
  | _ => none
theorem keyK_some {k : D} {c : Key} (h : keyK k = some c) : k = kD c ∧ ∀ v w H O, V1 w H O k v → v = kV c := by
  cases k with
  | int i => cases h; exact ⟨rfl, fun v w H O q => q.int⟩
  | str s => cases h; exact ⟨by show D.str s = .str (tx s).cps.toList; rw [tx_list], fun v w H O q => q.str⟩
  | _ => cases h
theorem kD_inj {a b : Key} : keyEq (kD a) (kD b) = decide (a = b) := by
  cases a with
  | inl i =>
    cases b with
    | inl j => show decide (i = j) = _; simp
    | inr y => show false = _; simp
  | inr x =>
    cases b with
    | inl j => show false = _; simp
    | inr y =>
      show decide (x.cps.toList = y.cps.toList) = _
      by_cases e : x = y
      · subst e; simp
      · have : ¬ x.cps.toList = y.cps.toList := fun q => e (by
          have h2 : x.cps = y.cps := by
            rw [← Array.toArray_toList (xs := x.cps), ← Array.toArray_toList (xs := y.cps), q]
          cases x
          cases y
          cases h2
          rfl)
        simp [e, this]
theorem RpKv.any {w : Wd} {H : Hp} {O : Addr → Prop} (c : Key) : ∀ {ps : List (D × D)} {kvs : List (Key × V)}, RpKv w H O ps kvs → (ps.any fun q => keyEq q.1 (kD c)) = kvs.any fun kv => decide (kv.1 = c)
  | [], _, h => by cases (show _ = [] from h); rfl
  | (k, d) :: ps, _, ⟨c', v, r, e, ek, h1, h2⟩ => by
    subst e ek
    rw [List.any_cons, List.any_cons, RpKv.any c h2, kD_inj]
theorem RpKv.mapPut {w : Wd} {H : Hp} {O : Addr → Prop} (c : Key) {d : D} {v : V} (hr : Rp w H O d v) : ∀ {ps : List (D × D)} {kvs : List (Key × V)}, RpKv w H O ps kvs →
    RpKv w H O (ps.map fun q => if keyEq q.1 (kD c) = true then (q.1, d) else q) (kvs.map fun kv => if kv.1 = c then (kv.1, v) else kv)
  | [], _, h => by cases (show _ = [] from h); rfl
  | (k, e) :: ps, _, ⟨c', u, r, e1, ek, h1, h2⟩ => by
    subst e1 ek
    rw [List.map_cons, List.map_cons]
    simp only [kD_inj, decide_eq_true_eq]
    by_cases z : c' = c
    · rw [if_pos z, if_pos z]
      have ih := RpKv.mapPut c hr h2
      exact ⟨c', v, _, rfl, rfl, hr, ih⟩
    · rw [if_neg z, if_neg z]
      have ih := RpKv.mapPut c hr h2
      exact ⟨c', u, _, rfl, rfl, h1, ih⟩
theorem RpKv.append {w : Wd} {H : Hp} {O : Addr → Prop} : ∀ {ps qs : List (D × D)} {kvs lvs : List (Key × V)}, RpKv w H O ps kvs → RpKv w H O qs lvs → RpKv w H O (ps ++ qs) (kvs ++ lvs)
  | [], _, _, _, h, k => by cases (show _ = [] from h); exact k
  | (k, d) :: ps, _, _, _, ⟨c, v, r, e, ek, h1, h2⟩, q => by
    subst e
    exact ⟨c, v, _, rfl, ek, h1, RpKv.append h2 q⟩
theorem RpKv.put {w : Wd} {H : Hp} {O : Addr → Prop} {ps : List (D × D)} {kvs : List (Key × V)} {c : Key} {d : D} {v : V} (r : RpKv w H O ps kvs) (hr : Rp w H O d v) : RpKv w H O (putD ps (kD c) d) (putK kvs c v) := by
  unfold putD putK
  rw [r.any c]
  split
  · exact r.mapPut c hr
  · exact r.append ⟨c, v, [], rfl, rfl, hr, rfl⟩
def held (p : PSt) (i : Nat) : Bool := match p.ρ[i]? with
  | some (.ow _) => true
  | some (.fz _) => true
  | _ => false
def stIx (p3 : PSt) (i : Nat) (x y : D) : Out Fl := match p3.ρ[i]? with
  | some (.ow (.lst ds)) => (match y with
    | .int j => (match ixN ds.length j with
      | some m => .ok { p3 with ρ := p3.ρ.set i (.ow (.lst (ds.set m x))) } .nx
      | none => .no)
    | _ => .no)
  | some (.ow (.dct ps)) => if (isKey y && szB (ps.length + 1)) = true then .ok { p3 with ρ := p3.ρ.set i (.ow (.dct (putD ps y x))) } .nx else .no
  | some (.fz (.ob n)) => (match p3.S[n]?, y with
    | some (.lst ds), .int j => (match ixN ds.length j with
      | some m => .ok { p3 with S := p3.S.set n (.lst (ds.set m x)) } .nx
      | none => .no)
    | _, _ => .no)
  | _ => .no
def sStIx (i : Nat) (ke ve : Sm) : SmS := fun p => (ve p).bind fun p1 x => if held (p1.frzK x.1) i = true then (ke (p1.frzK x.1)).bind fun p3 y => stIx p3 i x.2 y.2 else .no
def rSetA : TSet := fun o i v H Q => rSetL o i v H Q ∨ rSetD o i v H Q
section
variable {X : Cx} {α : List Addr} {G : Gh} {W : WX} {σ : L2.St} {H : Hp} {D' : Ends}
theorem PSet.or {t t' : TSet} (h : PSet X t) (h' : PSet X t') : PSet X fun o i v H Q => t o i v H Q ∨ t' o i v H Q := by
  intro pins s σ H o i v ov iv u Q I r1 r2 r3 q
  rcases q with q | q
  · exact h pins s σ H o i v ov iv u Q I r1 r2 r3 q
  · exact h' pins s σ H o i v ov iv u Q I r1 r2 r3 q
theorem held_at {w : Wd} {p : PSt} {O : Addr → Prop} {i : Nat} (R : Rl w G p σ H O) (h : held p i = true) : ∃ u, σ[i]? = some (some u) := by
  unfold held at h
  split at h
  · rename_i d e
    obtain ⟨a, q, _⟩ := R.ow i d e
    exact ⟨_, q⟩
  · rename_i d e
    obtain ⟨v, q, _⟩ := R.fz i d e
    exact ⟨_, q⟩
  · cases h
theorem keyK_of {k : D} (h : isKey k = true) : ∃ c, keyK k = some c := by
  cases k with
  | int i => exact ⟨_, rfl⟩
  | str s => exact ⟨_, rfl⟩
  | _ => cases h
theorem ow_ref {w : Wd} {p : PSt} {O : Addr → Prop} {i : Nat} {d : D} {u : V} (R : Rl w G p σ H O) (h : p.ρ[i]? = some (.ow d)) (eu : σ[i]? = some (some u)) : ∃ a, u = .ref a ∧ O a ∧ Ob w H O d a := by
  obtain ⟨a, e, oa, _, _, ob⟩ := R.ow i _ h
  rw [eu] at e
  injection e with e; injection e with e
  exact ⟨a, e, oa, ob⟩
theorem core_stIx {i : Nat} {ke ve : Sm} (h : tS (X.wd α) G W (sStIx i ke ve) D' σ H) : tAsg (tE (X.wd α) G W ve) (gSub (tVar i) (tE (X.wd α) G W ke) rSetA) D' σ H := by
  obtain ⟨p, O, R, h⟩ := h
  refine ⟨p, O, R, (WpS.bindE R h).mono fun p1 x H1 O1 _ R1 N1 h1 v hv => ?_⟩
  obtain ⟨O2, R2, N2, r2⟩ := frz_ok R N1 R1 hv
  cases hh : held (p1.frzK x.1) i with
  | false => rw [hh] at h1; exact False.elim h1
  | true =>
  rw [hh, if_pos rfl] at h1
  obtain ⟨u, eu⟩ := held_at R2 hh
  refine ⟨u, eu, _, O2, R2, (WpS.bindE R2 (h1.at (N2.fzR R))).mono fun p3 y H3 O3 _ R3 N3 h3 kv hk => ?_⟩
  have h3 := h3.at (N3.fzR R2)
  have r3 : Rp (X.wd α) H3 O3 x.2 v := Rp.mono (N3.fzR R2) R2.dom _ _ r2
  have vk : ∀ {e}, y.2 = e → (∀ n, e ≠ .ob n) → V1 (X.wd α) H3 O3 e kv := fun {e} q ne => by
    refine hk.v1 R3 ?_
    rw [q]
    cases e with
    | ob n => exact absurd rfl (ne n)
    | _ => rfl
  unfold stIx at h3
  split at h3
  · rename_i ds e3
    split at h3
    · rename_i j ey
      split at h3
      · rename_i m em
        obtain ⟨a, rfl, oa, ob⟩ := ow_ref R3 e3 eu
        rcases ob with ⟨ds', vs, q, ha, ra⟩ | ⟨_, _, q, _⟩
        · cases q
          obtain ⟨R4, _⟩ := R3.mutS (d' := .lst (ds.set m x.2)) e3 eu rfl (.inl ⟨_, _, rfl, upd_same, (ra.set m r3).mono (Fz.mut oa) R3.dom⟩)
          exact .inl ⟨a, vs, j, m, rfl, (vk ey (fun n z => by cases z)).int, ha, by rw [ra.len]; exact em, h3 σ _ O3 R4 (Fz.mut oa)⟩
        · cases q
      · exact False.elim h3
    · exact False.elim h3
  · rename_i ps e3
    obtain ⟨hz, h4⟩ := WpS.ite h3
    rw [Bool.and_eq_true] at hz
    obtain ⟨c, hc⟩ := keyK_of hz.1
    obtain ⟨ec, hv'⟩ := keyK_some hc
    obtain ⟨a, rfl, oa, ob⟩ := ow_ref R3 e3 eu
    rcases ob with ⟨_, _, q, _⟩ | ⟨ps', kvs, q, ha, ra⟩
    · cases q
    · cases q
      have ekv : kv = kV c := hv' kv (X.wd α) H3 O3 (vk rfl fun n z => by rw [z] at hc; cases hc)
      have rp := ra.put (c := c) r3
      rw [← ec] at rp
      obtain ⟨R4, _⟩ := R3.mutS (d' := .dct (putD ps y.2 x.2)) (o := .dK (putK kvs c v)) e3 eu rfl (.inr ⟨_, _, rfl, upd_same, rp.mono (Fz.mut oa) R3.dom⟩)
      exact .inr ⟨a, _, rfl, .inl ⟨kvs, c, ha, ekv, by rw [ra.len]; exact szB_lt hz.2, rfl⟩, h4 σ _ O3 R4 (Fz.mut oa)⟩
  · rename_i n e3
    split at h3
    · rename_i ds j e4 ey
      split at h3
      · rename_i m em
        obtain ⟨w', ew, a, ev, ha⟩ := R3.fz i _ e3
        have eq : u = .ref a := by
          rw [eu] at ew
          injection ew with ew; injection ew with ew
          rw [ew, ev]
        subst eq
        have hn := (List.getElem?_eq_some_iff.mp e4).1
        have oa : O3 a := R3.o0 a (R3.al a (List.mem_of_getElem? ha))
        rcases R3.st n _ a e4 ha with ⟨ds', vs, q, hb, ra⟩ | ⟨_, _, q, _⟩
        · cases q
          obtain ⟨R4, _⟩ := R3.mutO (c' := .lst (ds.set m x.2)) hn ha rfl (.inl ⟨_, _, rfl, upd_same, (ra.set m r3).mono (Fz.mut oa) R3.dom⟩)
          exact .inl ⟨a, vs, j, m, rfl, (vk ey (fun n z => by cases z)).int, hb, by rw [ra.len]; exact em, h3 σ _ O3 R4 (Fz.mut oa)⟩
        · cases q
      · exact False.elim h3
    · exact False.elim h3
  · exact False.elim h3
end
/-! ### a, b = x, y; target = value -/
def sPar (i j : Nat) (as : SmA) : SmS := fun p => (as p).bind fun p1 ds => match ds with
  | [d, e] => .ok { p1 with ρ := (p1.ρ.set i (.fz d)).set j (.fz e) } .nx
  | _ => .no
def sTgt (g : Tg) (f : Sm) : SmS := fun p => (f p).bind fun p1 x => match g x.2 (p1.frzK x.1) with
  | some p2 => .ok p2 .nx
  | none => .no
section
variable {w : Wd} {G : Gh} {W : WX} {σ : L2.St} {H : Hp} {D' : Ends}
theorem core_par {i j : Nat} {as : SmA} (h : tS w G W (sPar i j as) D' σ H) : tPar i j (tA w G W as) D' σ H := by
  obtain ⟨p, O, R, h⟩ := h
  refine ⟨p, O, R, (WpS.bindE R h).mono fun p1 ds H1 O1 _ R1 N1 h1 vs hvs => ?_⟩
  split at h1
  · rename_i d e _
    obtain ⟨v, r, rfl, r1, r2⟩ := hvs
    obtain ⟨u, r', rfl, r3, r4⟩ := r2
    cases (show r' = [] from r4)
    exact ⟨v, u, rfl, h1 _ H1 O1 ((R1.setFz r1).setFz r3) (N1.fzR R)⟩
  · exact False.elim h1
theorem core_tgt {g : Tg} {ts : List Nat} {f : Sm} (h : tS w G W (sTgt g f) D' σ H) : tAsg (tE w G W f) (tG w G g ts) D' σ H := by
  obtain ⟨p, O, R, h⟩ := h
  refine ⟨p, O, R, (WpS.bindE R h).mono fun p1 x H1 O1 _ R1 N1 h1 v hv => ?_⟩
  obtain ⟨O2, R2, N2, r2⟩ := frz_ok R N1 R1 hv
  split at h1
  · rename_i p2 e2
    exact ⟨_, O2, x.2, p2, R2, r2, e2, fun σ' R' _ => h1 σ' H1 O2 R' (N2.fzR R)⟩
  · exact False.elim h1
end
section
variable {X : Cx} {L : Nat} {fe fk : Sm} {as : SmA} {pos pos' pos2 apos cpos : Pos}
theorem ss_app {i : Nat} {x : Str} {e : Expr} (ho : PE X (.Name x pos') (tVar i)) (he : SE X fe e) (hse : starEach [e] X.env = [(false, eval e X.env)])
    (hbase : attributeBase (.Name x pos') "append" X.env (eval (.Name x pos') X.env) = eval (.Name x pos') X.env)
    (hfew : ((backTo cpos (starEach [e] X.env)).all (fun x => !x.1) && (backToKw cpos (keywordEach [] X.env)).all (fun x => x.1.isSome)
      && decide (([e] : List Expr).length + ([] : List Keyword).length + (if ([] : List Keyword).isEmpty then 0 else 1) < 30)) = true)
    (hline : (apos.endLine == cpos.line) = true) (hsw : swapsWith (.Call (.Attribute (.Name x pos') "append" apos) [e] [] cpos) none pos.line X.env = pure false) :
    SS X (sApp i fe) (.Expr (.Call (.Attribute (.Name x pos') "append" apos) [e] [] cpos) pos) := fun α G W tk =>
  ps_weak (ps_expr (pe_bm PySem.F.plainAttrs_list PySem.F.slot_list_append PySem.F.type_list_append mt_append ho (pa_cons (he α G W tk) pa_nil (by rw [hse]; rfl)) hbase hfew hline (by rw [hse]; rfl) rfl) hsw) fun _ _ _ h => core_app h
theorem ss_ext {i : Nat} {x : Str} {e : Expr} (ho : PE X (.Name x pos') (tVar i)) (he : SE X fe e) (hse : starEach [e] X.env = [(false, eval e X.env)])
    (hbase : attributeBase (.Name x pos') "extend" X.env (eval (.Name x pos') X.env) = eval (.Name x pos') X.env)
    (hfew : ((backTo cpos (starEach [e] X.env)).all (fun x => !x.1) && (backToKw cpos (keywordEach [] X.env)).all (fun x => x.1.isSome)
      && decide (([e] : List Expr).length + ([] : List Keyword).length + (if ([] : List Keyword).isEmpty then 0 else 1) < 30)) = true)
    (hline : (apos.endLine == cpos.line) = true) (hsw : swapsWith (.Call (.Attribute (.Name x pos') "extend" apos) [e] [] cpos) none pos.line X.env = pure false) :
    SS X (sExt i fe) (.Expr (.Call (.Attribute (.Name x pos') "extend" apos) [e] [] cpos) pos) := fun α G W tk =>
  ps_weak (ps_expr (pe_bm PySem.F.plainAttrs_list PySem.F.slot_list_extend PySem.F.type_list_extend mt_extend ho (pa_cons (he α G W tk) pa_nil (by rw [hse]; rfl)) hbase hfew hline (by rw [hse]; rfl) rfl) hsw) fun _ _ _ h => core_ext h
theorem ss_stIx {i : Nat} {x : Str} {k e : Expr} (C : Cg X L) (ho : PE X (.Name x pos') (tVar i)) (hk : SE X fk k) (he : SE X fe e)
    (ha : ∀ v, assign (.Subscript (.Name x pos') k pos2) X.env v = (do
      let ov ← holding [v] (eval (.Name x pos') X.env)
      let iv ← holding [v, ov] (eval k X.env)
      standAt pos2
      holding [v, ov, iv] (setItem ov iv v)
      release [v, ov, iv] []))
    (hs : swapsWithSole [.Subscript (.Name x pos') k pos2] e pos.line X.env = pure false) (hw : swappedStores [.Subscript (.Name x pos') k pos2] e X.env = pure none) (h1 : (assignEach [.Subscript (.Name x pos') k pos2] X.env).map (·.2) = [assign (.Subscript (.Name x pos') k pos2) X.env]) :
    SS X (sStIx i fk fe) (.Assign [.Subscript (.Name x pos') k pos2] e pos) := fun α G W tk =>
  ps_weak (ps_asg (he α G W tk) (pg_sub ho (hk α G W tk) (PSet.or set_list (set_dict (Nat.lt_of_le_of_lt (Nat.add_le_add_left (by decide : 1 ≤ 64) _) C.room.units))) ha) hs hw h1) fun _ _ _ h => core_stIx h
theorem ss_par {i j : Nat} {x y : Str} {a b : Expr} {px py pt : Pos} {kt k2 pt2} (C : Cg X L) (hi : X.N[i]? = some x) (hj : X.N[j]? = some y) (hij : i ≠ j)
    (hx : X.env.scope.names.lookup x = some .local) (hy : X.env.scope.names.lookup y = some .local) (ha : SA X as [a, b])
    (hw : swappedStores [.Tuple [.Name x px, .Name y py] kt pt] (.Tuple [a, b] k2 pt2) X.env = pure (some [x, y]))
    (hs : swapsWithSole [.Tuple [.Name x px, .Name y py] kt pt] (.Tuple [a, b] k2 pt2) pos.line X.env = pure false) :
    SS X (sPar i j as) (.Assign [.Tuple [.Name x px, .Name y py] kt pt] (.Tuple [a, b] k2 pt2) pos) := fun α G W tk =>
  ps_weak (ps_par C.calm C.nd hi hj hij hx hy (ha α G W tk) hw hs) fun _ _ _ h => core_par h
theorem ss_tgt {g : Tg} {ts : List Nat} {tg e : Expr} (hg : SG X g ts tg) (he : SE X fe e) (hs : swapsWithSole [tg] e pos.line X.env = pure false) (hw : swappedStores [tg] e X.env = pure none) (h1 : (assignEach [tg] X.env).map (·.2) = [assign tg X.env]) :
    SS X (sTgt g fe) (.Assign [tg] e pos) := fun α G W tk => ps_weak (ps_asg (he α G W tk) (hg.pg α G) hs hw h1) fun _ _ _ h => core_tgt h
end
end PM
namespace PM
open PySem PySem.Spec L2

/-! ### list comprehensions -/
def wipeR (ρ : List Sl) : List Nat → List Sl
  | [] => ρ
  | v :: vs => (wipeR ρ vs).set v .un
def PSt.wipe (p : PSt) (vs : List Nat) : PSt := { p with ρ := wipeR p.ρ vs }
/-- the slots vs as they were -/
def backR (ρ0 ρ : List Sl) : List Nat → List Sl
  | [] => ρ
  | v :: vs => (backR ρ0 ρ vs).set v (ρ0.getD v .un)
def PSt.back (p p0 : PSt) (vs : List Nat) : PSt := ⟨backR p0.ρ p.ρ vs, p.S⟩
def lcLoop (vs : List Nat) (tg : Tg) (tt : SmT) (elt : Sm) : List D → PSt → List D → Out (List D)
  | [], p, acc => .ok p acc
  | d :: ds, p, acc => match tg d p with
    | none => .no
    | some p1 => match tt p1 with
      | .ok p2 true => (match elt p2 with
        | .ok p3 x => if szB (acc.length + 1) = true then lcLoop vs tg tt elt ds ((p3.frzK x.1).wipe vs) (acc ++ [x.2]) else .no
        | _ => .no)
      | .ok p2 false => lcLoop vs tg tt elt ds (p2.wipe vs) acc
      | _ => .no
def eLc (it : SmI) (vs : List Nat) (tg : Tg) (tt : SmT) (elt : Sm) : Sm := fun p => (it p).bind fun p1 items => match lcLoop vs tg tt elt items (p1.wipe vs) [] with
  | .ok p2 ds => .ok (p2.back p1 vs) (.fr, .lst ds)
  | _ => .no
def tYs : SmT := fun p => .ok p true

theorem wipeR_len (ρ : List Sl) : ∀ vs, (wipeR ρ vs).length = ρ.length
  | [] => rfl
  | v :: vs => by unfold wipeR; rw [List.length_set, wipeR_len ρ vs]
theorem wipeR_out {ρ : List Sl} {i : Nat} : ∀ {vs : List Nat}, i ∉ vs → (wipeR ρ vs)[i]? = ρ[i]?
  | [], _ => rfl
  | v :: vs, h => by
    unfold wipeR
    rw [List.getElem?_set_ne fun e => h (by rw [e]; exact List.mem_cons_self)]
    exact wipeR_out fun m => h (List.mem_cons_of_mem _ m)
theorem wipeR_in {ρ : List Sl} {i : Nat} {x : Sl} : ∀ {vs : List Nat}, i ∈ vs → (wipeR ρ vs)[i]? = some x → x = .un
  | [], h, _ => by cases h
  | v :: vs, h, e => by
    unfold wipeR at e
    by_cases z : v = i
    · subst z
      rw [List.getElem?_set] at e
      simp only [if_true] at e
      split at e
      · injection e with e; exact e.symm
      · cases e
    · rw [List.getElem?_set_ne z] at e
      exact wipeR_in (List.mem_of_ne_of_mem (Ne.symm z) h) e
theorem backR_len (ρ0 ρ : List Sl) : ∀ vs, (backR ρ0 ρ vs).length = ρ.length
  | [] => rfl
  | v :: vs => by unfold backR; rw [List.length_set, backR_len ρ0 ρ vs]
theorem backR_out {ρ0 ρ : List Sl} {i : Nat} : ∀ {vs : List Nat}, i ∉ vs → (backR ρ0 ρ vs)[i]? = ρ[i]?
  | [], _ => rfl
  | v :: vs, h => by
    unfold backR
    rw [List.getElem?_set_ne fun e => h (by rw [e]; exact List.mem_cons_self)]
    exact backR_out fun m => h (List.mem_cons_of_mem _ m)
theorem backR_in {ρ0 ρ : List Sl} {i : Nat} (hl : ρ.length = ρ0.length) : ∀ {vs : List Nat}, i ∈ vs → (backR ρ0 ρ vs)[i]? = ρ0[i]?
  | [], h => by cases h
  | v :: vs, h => by
    unfold backR
    by_cases z : v = i
    · subst z
      rw [List.getElem?_set]
      simp only [if_true]
      split
      · rename_i hv
        rw [backR_len, hl] at hv
        rw [List.getElem?_eq_getElem hv, List.getD_eq_getElem?_getD, List.getElem?_eq_getElem hv]; rfl
      · rename_i hv
        rw [backR_len, hl] at hv
        exact (List.getElem?_eq_none (by omega)).symm
    · rw [List.getElem?_set_ne z]
      exact backR_in hl (List.mem_of_ne_of_mem (Ne.symm z) h)
theorem wipe_len' (σ : L2.St) (vs : List Nat) : (L2.wipe σ vs).length = σ.length := L2.wipe_length σ vs
theorem wipe_in' {σ : L2.St} {i : Nat} {x : Option V} : ∀ {vs : List Nat}, i ∈ vs → (L2.wipe σ vs)[i]? = some x → x = none
  | [], h, _ => by cases h
  | v :: vs, h, e => by
    unfold L2.wipe at e
    by_cases z : v = i
    · subst z
      rw [List.getElem?_set] at e
      simp only [if_true] at e
      split at e
      · injection e with e; exact e.symm
      · cases e
    · rw [List.getElem?_set_ne z] at e
      exact wipe_in' (List.mem_of_ne_of_mem (Ne.symm z) h) e
theorem wipe_same {σ σ' : L2.St} {vs ts : List Nat} (h : SameBut ts (L2.wipe σ vs) σ') (hv : ∀ i ∈ ts, i ∈ vs) : L2.wipe σ' vs = L2.wipe σ vs := by
  refine List.ext_getElem? fun i => ?_
  by_cases hi : i ∈ vs
  · have l : (L2.wipe σ' vs).length = (L2.wipe σ vs).length := by
      rw [wipe_len', wipe_len', h.1, wipe_len']
    cases e1 : (L2.wipe σ' vs)[i]? with
    | none =>
      have q := List.getElem?_eq_none_iff.mp e1
      rw [l] at q
      exact (List.getElem?_eq_none q).symm
    | some x =>
      have q := (List.getElem?_eq_some_iff.mp e1).1
      rw [l] at q
      have e2 := List.getElem?_eq_getElem q
      rw [wipe_in' hi e1, e2, wipe_in' hi e2]
  · rw [L2.wipe_out hi, h.2 i fun z => hi (hv i z)]
section
variable {w : Wd} {G : Gh} {σ : L2.St} {p p1 p2 p3 : PSt} {H H1 H2 H3 : Hp} {O O1 O2 O3 : Addr → Prop} {vs : List Nat}
theorem Rl.wipe (R : Rl w G p σ H O) (vs : List Nat) : Rl w G (p.wipe vs) (L2.wipe σ vs) H O := by
  have un : ∀ {i : Nat} {x : Sl}, (wipeR p.ρ vs)[i]? = some x → x ≠ .un → i ∉ vs ∧ p.ρ[i]? = some x := fun {i x} e n => by
    have hi : i ∉ vs := fun m => n (wipeR_in m e)
    rw [wipeR_out hi] at e
    exact ⟨hi, e⟩
  refine ⟨?_, fun i d q => ?_, fun i d q => ?_, fun i j d e a q1 q2 s1 s2 => ?_, R.o0, R.dom, R.kp, R.al, R.sl, R.st, R.nd⟩
  · show (L2.wipe σ vs).length = (wipeR p.ρ vs).length
    rw [wipe_len', wipeR_len]; exact R.len
  · obtain ⟨hi, e⟩ := un q (by intro z; cases z)
    obtain ⟨v, e1, r⟩ := R.fz i d e
    exact ⟨v, by rw [L2.wipe_out hi]; exact e1, r⟩
  · obtain ⟨hi, e⟩ := un q (by intro z; cases z)
    obtain ⟨v, e1, r⟩ := R.ow i d e
    exact ⟨v, by rw [L2.wipe_out hi]; exact e1, r⟩
  · obtain ⟨hi, e1⟩ := un q1 (by intro z; cases z)
    obtain ⟨hj, e2⟩ := un q2 (by intro z; cases z)
    rw [L2.wipe_out hi] at s1
    rw [L2.wipe_out hj] at s2
    exact R.dj i j d e a e1 e2 s1 s2
/-- from the state around a block (p1 σ H1 O1) to one within it -/
structure Bk (w : Wd) (σ : L2.St) (vs : List Nat) (p1 : PSt) (H1 : Hp) (O1 : Addr → Prop) (p' : PSt) (H' : Hp) (O' : Addr → Prop) : Prop where
  h : ∀ a o, H1 a = some o → a ∉ w.α → H' a = some o
  o : ∀ a, O' a → O1 a ∨ H1 a = none
  f : ∀ a, O1 a → O' a ∨ ∃ (i : Nat) (e : D), i ∉ vs ∧ p1.ρ[i]? = some (.ow e) ∧ σ[i]? = some (some (.ref a))
  s1 : ∀ (i : Nat) d, i ∉ vs → p1.ρ[i]? = some (.fz d) → p'.ρ[i]? = some (.fz d)
  s2 : ∀ (i : Nat) d, i ∉ vs → p1.ρ[i]? = some (.ow d) → p'.ρ[i]? = some (.ow d) ∨ p'.ρ[i]? = some (.fz d)
  s3 : ∀ (i : Nat) d, p'.ρ[i]? = some (.ow d) → i ∉ vs ∧ p1.ρ[i]? = some (.ow d)
  len : p'.ρ.length = p1.ρ.length
theorem Bk.fz (R1 : Rl w G p1 σ H1 O1) (B : Bk w σ vs p1 H1 O1 p H O) : Fz H1 O1 H O := fun a o e n =>
  ⟨B.h a o e (R1.oal n), fun z => (B.o a z).elim n fun q => by rw [e] at q; cases q⟩
theorem Bk.nn (R1 : Rl w G p1 σ H1 O1) (B : Bk w σ vs p1 H1 O1 p H O) {a : Addr} (h : H a = Option.none) (hO : a ∉ w.α) : H1 a = Option.none := by
  cases e : H1 a with
  | none => rfl
  | some o =>
    rw [B.h a o e hO] at h
    cases h
/-- a target's store, then a piece of the turn, then the block's own names are forgotten -/
theorem Bk.step {σ2 : L2.St} (R1 : Rl w G p1 σ H1 O1) (B : Bk w σ vs p1 H1 O1 p H O) (s2out : ∀ i, i ∉ vs → p2.ρ[i]? = p.ρ[i]?) (s2ow : ∀ (i : Nat) e, p2.ρ[i]? = some (.ow e) → p.ρ[i]? = some (.ow e)) (s2len : p2.ρ.length = p.ρ.length) (hσ : ∀ i, i ∉ vs → σ2[i]? = σ[i]?)
    (hG : ∀ a o, H a = some o → a ∉ w.α → H2 a = some o) (N : Nx w σ2 p2 H2 O p3 H3 O3) (hl : p3.ρ.length = p2.ρ.length) (ha : ∀ a, a ∈ w.α → H2 a ≠ Option.none) : Bk w σ vs p1 H1 O1 (p3.wipe vs) H3 O3 := by
  refine ⟨fun a o e n => N.h a o (hG a o (B.h a o e n) n) n, fun a z => ?_, fun a z => ?_, fun i d hi e => ?_, fun i d hi e => ?_, fun i d e => ?_, ?_⟩
  · rcases N.o a z with q | q
    · exact B.o a q
    · by_cases m : a ∈ w.α
      · exact absurd q (ha a m)
      · refine .inr ?_
        cases e : H1 a with
        | none => rfl
        | some o =>
          rw [hG a o (B.h a o e m) m] at q
          cases q
  · rcases B.f a z with q | q
    · rcases N.f a q with q2 | ⟨i, e, q2, q3⟩
      · exact .inl q2
      · obtain ⟨hi, e3⟩ := B.s3 i e (s2ow i e q2)
        exact .inr ⟨i, e, hi, e3, by rw [← hσ i hi]; exact q3⟩
    · exact .inr q
  · show (wipeR p3.ρ vs)[i]? = _
    rw [wipeR_out hi]
    exact N.s1 i d (by rw [s2out i hi]; exact B.s1 i d hi e)
  · show (wipeR p3.ρ vs)[i]? = _ ∨ (wipeR p3.ρ vs)[i]? = _
    rw [wipeR_out hi]
    rcases B.s2 i d hi e with q | q
    · exact N.s2 i d (by rw [s2out i hi]; exact q)
    · exact .inr (N.s1 i d (by rw [s2out i hi]; exact q))
  · have e : (wipeR p3.ρ vs)[i]? = some (.ow d) := e
    have hi : i ∉ vs := fun m => by have := wipeR_in m e; cases this
    rw [wipeR_out hi] at e
    exact B.s3 i d (s2ow i d (N.s3 i d e))
  · show (wipeR p3.ρ vs).length = _
    rw [wipeR_len, hl, s2len, B.len]
/-- out of the block -/
theorem Bk.out (R1 : Rl w G p1 σ H1 O1) (B : Bk w σ vs p1 H1 O1 p H O) (R : Rl w G p (L2.wipe σ vs) H O) : Rl w G (p.back p1 vs) σ H O ∧ Nx w σ p1 H1 O1 (p.back p1 vs) H O := by
  have F := B.fz R1
  have out : ∀ {i : Nat}, i ∉ vs → (backR p1.ρ p.ρ vs)[i]? = p.ρ[i]? := fun h => backR_out h
  have inn : ∀ {i : Nat}, i ∈ vs → (backR p1.ρ p.ρ vs)[i]? = p1.ρ[i]? := fun h => backR_in B.len h
  have old : ∀ {i : Nat} {d : D}, i ∈ vs → p1.ρ[i]? = some (.ow d) → ∃ a, σ[i]? = some (some (.ref a)) ∧ O a ∧ ¬ G.O0 a ∧ G.H0 a = Option.none ∧ Ob w H O d a := fun {i d} hi e => by
    obtain ⟨a, e1, h1, h2, h3, h4⟩ := R1.ow i d e
    refine ⟨a, e1, ?_, h2, h3, h4.mono F R1.dom fun o q => B.h a o q fun z => h2 (R1.al a z)⟩
    rcases B.f a h1 with q | ⟨j, e', hj, q1, q2⟩
    · exact q
    · have := R1.dj i j d e' a e q1 e1 q2
      exact absurd (this ▸ hi) hj
  have ow : ∀ {i : Nat} {d : D}, (backR p1.ρ p.ρ vs)[i]? = some (.ow d) → p1.ρ[i]? = some (.ow d) := fun {i d} e => by
    by_cases hi : i ∈ vs
    · rw [inn hi] at e; exact e
    · rw [out hi] at e; exact (B.s3 i d e).2
  refine ⟨⟨?_, fun i d q => ?_, fun i d q => ?_, fun i j d e a q1 q2 s1 s2 => R1.dj i j d e a (ow q1) (ow q2) s1 s2, R.o0, R.dom, R.kp, R.al, R.sl, R.st, R.nd⟩, ⟨B.h, B.o, fun a z => ?_, fun i d e => ?_, fun i d e => ?_, fun i d e => ow e⟩⟩
  · show σ.length = (backR p1.ρ p.ρ vs).length
    rw [backR_len, B.len]; exact R1.len
  · have q : (backR p1.ρ p.ρ vs)[i]? = some (.fz d) := q
    by_cases hi : i ∈ vs
    · rw [inn hi] at q
      obtain ⟨v, e, r⟩ := R1.fz i d q
      exact ⟨v, e, Rp.mono F R1.dom d v r⟩
    · rw [out hi] at q
      obtain ⟨v, e, r⟩ := R.fz i d q
      rw [L2.wipe_out hi] at e
      exact ⟨v, e, r⟩
  · have q : (backR p1.ρ p.ρ vs)[i]? = some (.ow d) := q
    by_cases hi : i ∈ vs
    · rw [inn hi] at q
      exact old hi q
    · rw [out hi] at q
      obtain ⟨a, e, r⟩ := R.ow i d q
      rw [L2.wipe_out hi] at e
      exact ⟨a, e, r⟩
  · rcases B.f a z with q | ⟨i, e, _, q1, q2⟩
    · exact .inl q
    · exact .inr ⟨i, e, q1, q2⟩
  · show (backR p1.ρ p.ρ vs)[i]? = _
    by_cases hi : i ∈ vs
    · rw [inn hi]; exact e
    · rw [out hi]; exact B.s1 i d hi e
  · show (backR p1.ρ p.ρ vs)[i]? = _ ∨ (backR p1.ρ p.ρ vs)[i]? = _
    by_cases hi : i ∈ vs
    · rw [inn hi]; exact .inl e
    · rw [out hi]; exact B.s2 i d hi e
end
theorem frzK_len (p : PSt) (k : Kd) : (p.frzK k).ρ.length = p.ρ.length := by
  cases k with
  | ow i =>
    show (p.frz i).ρ.length = _
    unfold PSt.frz
    split
    · exact List.length_set
    · rfl
  | _ => rfl
theorem Bk.refl {w : Wd} {σ : L2.St} {vs : List Nat} {p1 : PSt} {H1 H2 : Hp} {O1 O2 : Addr → Prop} (g : Gr H1 H2) (ho : ∀ a, O2 a → O1 a ∨ H1 a = none) (hf : ∀ a, O1 a → O2 a) : Bk w σ vs p1 H1 O1 (p1.wipe vs) H2 O2 := by
  refine ⟨fun a o e _ => g a o e, ho, fun a z => .inl (hf a z), fun i d hi e => ?_, fun i d hi e => .inl ?_, fun i d e => ?_, wipeR_len _ _⟩
  · show (wipeR p1.ρ vs)[i]? = _
    rw [wipeR_out hi]; exact e
  · show (wipeR p1.ρ vs)[i]? = _
    rw [wipeR_out hi]; exact e
  · have e : (wipeR p1.ρ vs)[i]? = some (.ow d) := e
    have hi : i ∉ vs := fun m => by have := wipeR_in m e; cases this
    rw [wipeR_out hi] at e
    exact ⟨hi, e⟩
abbrev WF : WX := fun _ _ _ _ => False
section
variable {w : Wd} {G : Gh} {W : WX} {σ : L2.St} {H : Hp} {Q : VK}
theorem core_lc {it : SmI} {vs ts : List Nat} {tg : Tg} {tt : SmT} {elt : Sm} (hg : TgOk tg ts) (hts : ∀ i ∈ ts, i ∈ vs) (h : tE w G W (eLc it vs tg tt elt) σ H Q) : tLc (tI w G W it) (tG w G tg ts) (tT w G WF tt) (tE w G WF elt) vs σ H Q := by
  obtain ⟨p, O, R, h⟩ := h
  refine ⟨p, O, R, (Wp.bind0 h).mono fun p1 items H1 O1 _ R1 N1 h1 J hJ => ?_⟩
  generalize hTot : lcLoop vs tg tt elt items (p1.wipe vs) [] = Tot at h1
  intro Dd hD
  have nal : Dd ∉ w.α := fun z => R1.alN Dd z hD
  have no1 : ¬ O1 Dd := R1.dom.fresh hD
  have n00 : ¬ G.O0 Dd := fun z => no1 (R1.o0 Dd z)
  have h00 : G.H0 Dd = none := R1.h0 hD
  have g1 : Gr H1 (upd H1 Dd (.lst [])) := Gr.new hD
  have R1' := R1.newO g1 hD ⟨_, upd_same, rfl⟩
  -- no name owns the new list
  have own1 : ∀ (i : Nat) e, p1.ρ[i]? = some (.ow e) → σ[i]? ≠ some (some (.ref Dd)) := fun i e q z => by
    obtain ⟨a, e1, oa, _⟩ := R1.ow i e q
    rw [z] at e1
    injection e1 with e1; injection e1 with e1; injection e1 with e1
    exact no1 (e1 ▸ oa)
  have ownB : ∀ {p' : PSt} {H' : Hp} {O' : Addr → Prop}, Bk w σ vs p1 H1 O1 p' H' O' → ∀ (i : Nat) e, p'.ρ[i]? = some (.ow e) → (L2.wipe σ vs)[i]? ≠ some (some (.ref Dd)) := fun {p' H' O'} B i e q z => by
    obtain ⟨hi, e1⟩ := B.s3 i e q
    rw [L2.wipe_out hi] at z
    exact own1 i e e1 z
  refine ⟨fun i m H' => ∃ (p' : PSt) (O' : Addr → Prop) (acc : List D) (accV : List V), Rl w G p' (L2.wipe σ vs) H' O' ∧ Bk w σ vs p1 H1 O1 p' H' O' ∧ O' Dd ∧ H' Dd = some (.lst accV) ∧ RpAll w H' O' acc accV ∧ m = items.length - i ∧ i ≤ items.length ∧ lcLoop vs tg tt elt (items.drop i) p' acc = Tot,
    ⟨items.length, p1.wipe vs, _, [], [], R1'.wipe vs, Bk.refl g1 (fun a z => z.elim .inl fun e => .inr (by rw [e]; exact hD)) (fun a z => .inl z), .inr rfl, upd_same, rfl, by simp, Nat.zero_le _, by rw [List.drop_zero]; exact hTot⟩, ?_⟩
  rintro i m H' ⟨p', O', acc, accV, R', B, oD, hd, ra, em, hi, el⟩
  obtain ⟨jgo, jst⟩ := hJ i H' O' (B.fz R1) R'.dom
  by_cases hlt : i < items.length
  · refine .inr ?_
    have e1 : items.drop i = items[i] :: items.drop (i + 1) := List.drop_eq_getElem_cons hlt
    rw [e1] at el
    obtain ⟨go, yl⟩ := jgo items[i] (List.getElem?_eq_getElem hlt)
    refine ⟨go, fun H2 => ∃ (p' : PSt) (O' : Addr → Prop) (acc : List D) (accV : List V), Rl w G p' (L2.wipe σ vs) H2 O' ∧ Bk w σ vs p1 H1 O1 p' H2 O' ∧ O' Dd ∧ H2 Dd = some (.lst accV) ∧ RpAll w H2 O' acc accV ∧ lcLoop vs tg tt elt (items.drop (i + 1)) p' acc = Tot,
      fun H2 ⟨p2, O2, a2, av2, q1, q2, q3, q4, q5, q6⟩ => ⟨items.length - (i + 1), by omega, p2, O2, a2, av2, q1, q2, q3, q4, q5, rfl, hlt, q6⟩, fun x H2 hy => ?_⟩
    obtain ⟨g, rx⟩ := yl x H2 hy
    have R2 := R'.grow g
    have ra2 : RpAll w H2 O' acc accV := ra.mono g.fz R'.dom
    have hd2 : H2 Dd = some (.lst accV) := g _ _ hd
    unfold lcLoop at el
    cases et : tg items[i] p' with
    | none =>
      rw [et] at el
      rw [← el] at h1
      exact False.elim h1
    | some p2 =>
      rw [et] at el
      refine ⟨p', O', items[i], p2, R2, rx, et, fun σ2 R3 S3 => ?_⟩
      have hσ : L2.wipe σ2 vs = L2.wipe σ vs := wipe_same S3 hts
      have hσo : ∀ i, i ∉ vs → σ2[i]? = σ[i]? := fun i hi => by
        rw [S3.2 i fun z => hi (hts i z), L2.wipe_out hi]
      have out2 : ∀ i, i ∉ vs → p2.ρ[i]? = p'.ρ[i]? := fun i hi => hg.out _ _ _ et i fun z => hi (hts i z)
      have own2 : ∀ (i : Nat) e, p2.ρ[i]? = some (.ow e) → σ2[i]? ≠ some (some (.ref Dd)) := fun i e q z => by
        have q2 := hg.ow _ _ _ et i e q
        obtain ⟨hi, _⟩ := B.s3 i e q2
        refine ownB B i e q2 ?_
        rw [L2.wipe_out hi, ← hσo i hi]
        exact z
      refine ⟨hσ, p2, O', R3, ?_⟩
      cases ett : tt p2 with
      | no =>
        simp only [ett] at el
        rw [← el] at h1
        exact False.elim h1
      | ex p3 c r =>
        simp only [ett] at el
        rw [← el] at h1
        exact False.elim h1
      | ok p3 b =>
        intro H3 O3 R4 N4
        have oD3 : O3 Dd := by
          rcases N4.f Dd oD with q | ⟨i, e, q1, q2⟩
          · exact q
          · exact absurd q2 (own2 i e q1)
        have F4 := N4.fzR R3
        cases b with
        | false =>
          simp only [ett] at el
          refine ⟨p3.wipe vs, O3, acc, accV, ?_, B.step R1 out2 (hg.ow _ _ _ et) (hg.len _ _ _ et) hσo (fun a o e _ => g a o e) N4 (R4.len.symm.trans R3.len) R3.alN, oD3, N4.h _ _ hd2 nal, ra2.mono F4 R3.dom, el⟩
          rw [← hσ]
          exact R4.wipe vs
        | true =>
          simp only [ett] at el
          show tE w G WF elt σ2 H3 _
          refine ⟨p3, O3, R4, ?_⟩
          cases ee : elt p3 with
          | no =>
            simp only [ee] at el
            rw [← el] at h1
            exact False.elim h1
          | ex p4 c r =>
            simp only [ee] at el
            rw [← el] at h1
            exact False.elim h1
          | ok p4 y =>
            simp only [ee] at el
            intro H4 O4 R5 N5 v hv
            obtain ⟨O5, R6, N6, r6⟩ := frz_ok R4 N5 R5 hv
            have N46 := N4.trans R3 N6 R4
            have F6 := N46.fzR R3
            have oD5 : O5 Dd := by
              rcases N46.f Dd oD with q | ⟨i, e, q1, q2⟩
              · exact q
              · exact absurd q2 (own2 i e q1)
            have hd4 : H4 Dd = some (.lst accV) := N46.h _ _ hd2 nal
            have ra4 : RpAll w H4 O5 acc accV := ra2.mono F6 R3.dom
            by_cases hz : szB (acc.length + 1) = true
            · rw [if_pos hz] at el
              have B6 : Bk w σ vs p1 H1 O1 ((p4.frzK y.1).wipe vs) H4 O5 := B.step R1 out2 (hg.ow _ _ _ et) (hg.len _ _ _ et) hσo (fun a o e _ => g a o e) N46 (R6.len.symm.trans R3.len) R3.alN
              have R7 : Rl w G ((p4.frzK y.1).wipe vs) (L2.wipe σ vs) H4 O5 := by
                rw [← hσ]
                exact R6.wipe vs
              refine ⟨accV, hd4, by rw [ra.len]; exact szB_lt hz, (p4.frzK y.1).wipe vs, O5, acc ++ [y.2], accV ++ [v], R7.mutT oD5 n00 h00 rfl (ownB B6), ⟨fun a o e n => ?_, B6.o, B6.f, B6.s1, B6.s2, B6.s3, B6.len⟩, oD5, upd_same, (ra4.append (RpAll.one r6)).mono (Fz.mut oD5) R7.dom, el⟩
              have ne : a ≠ Dd := fun z => by rw [z, hD] at e; cases e
              rw [upd_ne ne]
              exact B6.h a o e n
            · rw [if_neg hz] at el
              rw [← el] at h1
              exact False.elim h1
  · have e0 : i = items.length := by omega
    refine .inl ⟨jst e0, ?_⟩
    rw [e0, List.drop_length] at el
    have el : (.ok p' acc : Out (List D)) = Tot := el
    rw [← el] at h1
    obtain ⟨R8, N8⟩ := B.out R1 R'
    refine h1 H' O' R8 (N1.trans R N8 R1) (.ref Dd) ⟨Dd, rfl, oD, N1.back R hD nal, .inl ⟨acc, accV, rfl, hd, ra⟩, fun i e q z => ?_⟩
    obtain ⟨a, e1, oa, _⟩ := R8.ow i e q
    rw [z] at e1
    injection e1 with e1; injection e1 with e1; injection e1 with e1
    subst e1
    have q2 : p1.ρ[i]? = some (.ow e) := N8.s3 i e q
    exact own1 i e q2 z
end
section
variable {X : Cx} {L : Nat} {elt tg iter : Expr} {ifs : List Expr} {scope : Scope} {own : List (Str × Nat)} {pos : Pos} {it : SmI} {g : Tg} {ts : List Nat} {ft : SmT} {fe : Sm}
/-- the contexts of a comprehension's block -/
def BlkAll (X : Cx) (scope : Scope) (P : Cx → Prop) : Prop := ∀ (s : Shared) (H : Hp) (C : Addr) (cl : List (Str × Addr)) (fp : List Addr), P (X.blk s H scope (compEnvC scope cl C X.env) fp)
def STs (X : Cx) (f : SmT) (es : List Expr) : Prop := ∀ α G W, Takes X W → PTs X es (tT (X.wd α) G W f)
theorem sts_nil : STs X tYs [] := fun α G W tk => ⟨fun pins s σ H Q I h => pts_nil.run pins s σ H Q I (by
  obtain ⟨p, O, R, h⟩ := h
  exact h H O R Nx.refl)⟩
theorem sts_one {c : Expr} (h : ST X ft c) : STs X ft [c] := fun α G W tk => pts_one (h α G W tk)
theorem se_lc (C : Cg X L) (hi : SI X tg it iter) (ok : BlkOk X.N X.env.scope scope own) (hts : ∀ i ∈ ts, i ∈ own.map (·.2)) (hg : BlkAll X scope fun X => SG X g ts tg) (ht : BlkAll X scope fun X => STs X ft ifs) (he : BlkAll X scope fun X => SE X fe elt)
    (hs : ∀ x, foldedSetIterable iter X.env x = pure x) : SE X (eLc it (own.map (·.2)) g ft fe) (.ListComp elt [⟨tg, iter, ifs, 0⟩] scope pos) := fun α G W tk => by
  have hok : TgOk g ts := (hg ⟨X.s_0.heap, X.s_0.gens, X.s_0.drawn, X.s_0.toks, X.s_0.os⟩ (fun _ => none) 0 [] []).ok
  exact pe_weak (pe_lc (te := tE (X.wd α) G WF fe) (tt := tT (X.wd α) G WF ft) (g := tG (X.wd α) G g ts) C.calm C.nd (hi α G W tk) ok (fun s H C cl fp => (hg s H C cl fp).pg α G) (fun s H C cl fp => ht s H C cl fp α G WF takes0) (fun s H C cl fp => he s H C cl fp α G WF takes0) hs) fun _ _ _ h => core_lc hok hts h
theorem ss_setLc {i : Nat} {y : Str} {py spos : Pos} (C : Cg X L) (hy : X.N[i]? = some y) (hyl : X.env.scope.names.lookup y = some .local) (hsw : swapsWith (.ListComp elt [⟨tg, iter, ifs, 0⟩] scope pos) (some (.Name y py)) spos.line X.env = pure true)
    (hi : SI X tg it iter) (ok : BlkOk X.N X.env.scope scope own) (hts : ∀ i ∈ ts, i ∈ own.map (·.2)) (hg : BlkAll X scope fun X => SG X g ts tg) (ht : BlkAll X scope fun X => STs X ft ifs) (he : BlkAll X scope fun X => SE X fe elt)
    (hs : ∀ x, foldedSetIterable iter X.env x = pure x) : SS X (sSet i (eLc it (own.map (·.2)) g ft fe)) (.Assign [.Name y py] (.ListComp elt [⟨tg, iter, ifs, 0⟩] scope pos) spos) := fun α G W tk => by
  have hok : TgOk g ts := (hg ⟨X.s_0.heap, X.s_0.gens, X.s_0.drawn, X.s_0.toks, X.s_0.os⟩ (fun _ => none) 0 [] []).ok
  refine ps_weak (ps_setLc (te := tE (X.wd α) G WF fe) (tt := tT (X.wd α) G WF ft) (g := tG (X.wd α) G g ts) C.calm C.nd hy hyl hsw (hi α G W tk) ok (fun s H C cl fp => (hg s H C cl fp).pg α G) (fun s H C cl fp => ht s H C cl fp α G WF takes0) (fun s H C cl fp => he s H C cl fp α G WF takes0) hs) fun D σ H h => ?_
  exact core_lc hok hts (core_set h)
end
end PM
/-! ### texts sorted, any number of them -/
namespace SrtO
open PySem PyProof.Rows Srt
section
variable {prog : Program} {w : World} {A : Around} {E : Value → Shared → Prop} {s : Shared}
def txv : Value → List Nat
  | .str x _ => x.cps.toList
  | _ => []
def ltTx (v u : Value) : Bool := decide (txv v < txv u)
theorem swo_txt : Swo ltTx := by
  refine ⟨fun x y h => ?_, fun x y z h1 h2 => ?_⟩
  · exact decide_eq_false (List.lt_asymm (of_decide_eq_true (p := txv x < txv y) h))
  · have a := List.not_lt.mp (of_decide_eq_false (p := txv y < txv x) h1)
    have b := List.not_lt.mp (of_decide_eq_false (p := txv z < txv y) h2)
    exact decide_eq_false (List.not_lt.mpr (List.le_trans a b))
theorem txt_mem : ∀ {vs : List Value} {ns : List PySem.Str}, StrsAre vs ns → ∀ v ∈ vs, ∃ i t, v = Value.str i t
  | _, _, .nil, v, h => absurd h (by simp)
  | _, _, .cons n t r, v, h => by
    rcases List.mem_cons.mp h with e | h
    · exact ⟨n, t, e⟩
    · exact txt_mem r v h
theorem txt_is : ∀ {vs : List Value}, (∀ v ∈ vs, ∃ i t, v = Value.str i t) → StrsAre vs (vs.map fun v => ⟨(txv v).toArray⟩)
  | [], _ => .nil
  | v :: vs, h => by
    obtain ⟨i, t, e⟩ := h v List.mem_cons_self
    subst e
    have q := txt_is fun u hu => h u (List.mem_cons_of_mem _ hu)
    have e : (⟨(txv (Value.str i t)).toArray⟩ : PySem.Str) = i := by cases i; simp [txv]
    rw [List.map_cons, e]
    exact .cons i t q
theorem txt_iv : ∀ {vs : List Value} {ns : List PySem.Str}, StrsAre vs ns → vs.map txv = ns.map fun x => x.cps.toList
  | _, _, .nil => rfl
  | _, _, .cons n t r => congrArg (n.cps.toList :: ·) (txt_iv r)
theorem txt_cmp {vs : List Value} {ns : List PySem.Str} (hI : StrsAre vs ns) : Cmp prog w A s oneType' (fun p => p.1 ∈ vs) (lt2 ltTx) := by
  intro p q hm hm'
  obtain ⟨a, t, e⟩ := txt_mem hI _ hm
  obtain ⟨b, u, e'⟩ := txt_mem hI _ hm'
  show wpAny (model prog w) A (keyLt' oneType' p.1 q.1) (fun r s' => s' = s ∧ r = ltTx p.1 q.1) (fun _ _ => False) s
  rw [e, e', keyLt'_oneType]
  exact oneLt_str ⟨rfl, rfl⟩
theorem txt_able {a : Addr} {vs : List Value} {ns : List PySem.Str} (hI : StrsAre vs ns) (h2 : 2 ≤ vs.length) : SortableO prog w A s a vs ltTx := by
  intro h' _
  refine ⟨oneType', fun Q E hq => ?_, txt_cmp hI⟩
  match vs, hI, h2 with
  | v1 :: v2 :: rest, hI, _ =>
    rw [keyKind_strs hI]
    exact wpAny_pure hq
  | [], _, h => exact absurd h (by decide)
  | [v], _, h => exact absurd h (by simp)
theorem txt_out {vs out : List Value} {ns : List PySem.Str} (hI : StrsAre vs ns) (hs : Srtd ltTx out) (hb : Stb ltTx out vs) :
    StrsAre out ((out.map txv).map fun x => ⟨x.toArray⟩) ∧ (out.map txv).Perm (ns.map fun x => x.cps.toList) ∧ (out.map txv).Pairwise (fun x y => ¬ y < x) := by
  refine ⟨?_, ?_, ?_⟩
  · rw [List.map_map]
    exact txt_is fun v hv => txt_mem hI v (hb.perm.mem_iff.mp hv)
  · have q := hb.perm.map txv
    rw [txt_iv hI] at q
    exact q
  · exact List.pairwise_map.mpr (hs.imp fun {x y} h => of_decide_eq_false (p := txv y < txv x) h)
end
end SrtO
namespace PM
open PySem PySem.Spec L2
def srtT (xs : List (List Nat)) : List (List Nat) := xs.mergeSort fun a b => !decide (b < a)
theorem srtT_perm (xs : List (List Nat)) : (srtT xs).Perm xs := List.mergeSort_perm _ _
theorem srtT_srt (xs : List (List Nat)) : (srtT xs).Pairwise fun x y => ¬ y < x := by
  have h := List.pairwise_mergeSort (le := fun a b : List Nat => !decide (b < a)) (fun a b c h1 h2 => by
    simp only [Bool.not_eq_true', decide_eq_false_iff_not, List.not_lt] at h1 h2 ⊢
    exact List.le_trans h1 h2) (fun a b => by
    by_cases h : b < a
    · have := List.lt_asymm h
      simp [h, this]
    · simp [h]) xs
  exact h.imp fun {x y} h => by simpa using h
theorem srtT_eq {xs ys : List (List Nat)} (h1 : ys.Perm xs) (h2 : ys.Pairwise fun x y => ¬ y < x) : ys = srtT xs :=
  List.Perm.eq_of_pairwise (le := fun x y : List Nat => ¬ y < x) (fun a b _ _ q1 q2 => List.le_antisymm (List.not_lt.mp q1) (List.not_lt.mp q2)) h2 (srtT_srt xs) (h1.trans (srtT_perm xs).symm)
def srtI (xs : List Int) : List Int := xs.mergeSort fun a b => decide (a ≤ b)
theorem srtI_perm (xs : List Int) : (srtI xs).Perm xs := List.mergeSort_perm _ _
theorem srtI_srt (xs : List Int) : (srtI xs).Pairwise (· ≤ ·) := by
  have h := List.pairwise_mergeSort (le := fun a b : Int => decide (a ≤ b)) (fun a b c h1 h2 => by
    simp only [decide_eq_true_eq] at h1 h2 ⊢
    omega) (fun a b => by
    simp only [Bool.or_eq_true, decide_eq_true_eq]
    omega) xs
  exact h.imp fun {x y} h => by simpa using h
theorem srtI_eq {xs ys : List Int} (h1 : ys.Perm xs) (h2 : ys.Pairwise (· ≤ ·)) : ys = srtI xs :=
  List.Perm.eq_of_pairwise (le := fun x y : Int => x ≤ y) (fun a b _ _ q1 q2 => Int.le_antisymm q1 q2) h2 (srtI_srt xs) (h1.trans (srtI_perm xs).symm)
def rSrtT (K : PySem.W.Frag) : List V → Hp → VK → Prop := fun vs H Q => ∃ (a : Addr) (ns : List (List Nat)), vs = [V.ref a] ∧ SqL K H a ((ns.map tx).map V.str) ∧
  ∀ p : Addr, H p = none → Q (.ref p) (upd H p (.lst (((srtT ns).map tx).map V.str)))
theorem map_tx (ns : List (List Nat)) : (ns.map tx).map (fun x : Str => x.cps.toList) = ns := by
  rw [List.map_map]
  have : ((fun x : Str => x.cps.toList) ∘ tx) = id := by
    funext s; simp
  rw [this, List.map_id]
theorem cr_srtT {X : Cx} : CallR X (.builtin "sorted") (rSrtT X.K) := by
  intro pins s σ H vs us Q I r h
  obtain ⟨a, ns, rfl, hs, q⟩ := h
  obtain ⟨its, rv, hl, hz⟩ := I.list hs
  rw [Vals.ref1 r]
  have hi := rv.strs
  refine SrtO.sorted_ord SrtO.swo_txt hl.isList (by rw [← rv.length]; exact hz) (fun h2 _ _ _ _ => SrtO.txt_able hi h2) fun out h1 h2 => ?_
  obtain ⟨k1, k2, k3⟩ := SrtO.txt_out hi h1 h2
  rw [map_tx] at k2
  have e := srtT_eq k2 k3
  rw [e] at k1
  obtain ⟨ep, he⟩ := PyProof.Rows.sortedAll_at s.heap its out.toArray
  have hlen : (((srtT ns).map tx).map V.str).length ≤ sizeLine := by
    rw [List.length_map, List.length_map, (srtT_perm ns).length_eq]
    rw [List.length_map, List.length_map] at hz
    exact hz
  exact ⟨.ref _, upd H (s.heap.objs.size + 1) (.lst (((srtT ns).map tx).map V.str)), I.laid (t' := s.toks) (fun _ _ => PyProof.Rows.sortedAll_old) (Nat.le_succ _) ⟨hlen, out, ep, vals_of_strs k1, he⟩, rfl, q _ (I.hok.fresh (Nat.le_succ _))⟩
end PM
namespace PM
open PySem PySem.Spec L2

/-! ### what is built in, as operations -/
def seqD : D → Option (List D)
  | .lst xs => some xs
  | .tup xs => some xs
  | .flst xs => some xs
  | _ => none
section
variable {w : Wd} {H : Hp} {O : Addr → Prop}
theorem V1.seq {d : D} {v : V} {xs : List D} (h : V1 w H O d v) (e : seqD d = some xs) : ∃ a vs, v = .ref a ∧ (SqL w.K H a vs ∨ SqT w.K H a vs) ∧ RpAll w H O xs vs := by
  cases d with
  | lst ys =>
    cases e
    obtain ⟨a, vs, e1, h1, r⟩ := h.lst
    exact ⟨a, vs, e1, .inl (.of h1), r⟩
  | tup ys =>
    cases e
    obtain ⟨a, vs, e1, h1, r⟩ := h.tup
    exact ⟨a, vs, e1, .inr h1, r⟩
  | flst ys =>
    cases e
    obtain ⟨a, vs, e1, h1, r⟩ := h.flst
    exact ⟨a, vs, e1, .inl h1.sq, r⟩
  | _ => cases e
theorem V1.sqL {d : D} {v : V} {xs : List D} (h : V1 w H O d v) (e : d = .lst xs ∨ d = .flst xs) : ∃ a vs, v = .ref a ∧ SqL w.K H a vs ∧ RpAll w H O xs vs := by
  rcases e with rfl | rfl
  · obtain ⟨a, vs, e1, h1, r⟩ := h.lst
    exact ⟨a, vs, e1, .of h1, r⟩
  · obtain ⟨a, vs, e1, h1, r⟩ := h.flst
    exact ⟨a, vs, e1, h1.sq, r⟩
def lisD : D → Option (List D)
  | .lst xs => some xs
  | .flst xs => some xs
  | _ => none
theorem lisD_or {d : D} {xs : List D} (h : lisD d = some xs) : d = .lst xs ∨ d = .flst xs := by
  cases d with
  | lst ys => cases h; exact .inl rfl
  | flst ys => cases h; exact .inr rfl
  | _ => cases h
theorem v1s1 {d : D} {vs : List V} (h : V1s w H O [d] vs) : ∃ v, vs = [v] ∧ V1 w H O d v := by
  obtain ⟨v, r, e, h1, h2⟩ := h
  cases (show r = [] from h2)
  exact ⟨v, e, h1⟩
theorem v1s2 {d e : D} {vs : List V} (h : V1s w H O [d, e] vs) : ∃ v u, vs = [v, u] ∧ V1 w H O d v ∧ V1 w H O e u := by
  obtain ⟨v, r, e1, h1, h2⟩ := h
  obtain ⟨u, rfl, h3⟩ := v1s1 h2
  exact ⟨v, u, e1, h1, h3⟩
end
def intsD : List D → Option (List Int)
  | [] => some []
  | .int i :: r => (intsD r).map (i :: ·)
  | _ => none
def bolsD : List D → Option (List Bool)
  | [] => some []
  | .bl i :: r => (bolsD r).map (i :: ·)
  | _ => none
def txtsD : List D → Option (List (List Nat))
  | [] => some []
  | .str i :: r => (txtsD r).map (i :: ·)
  | _ => none
theorem intsD_is : ∀ {ds : List D} {ns : List Int}, intsD ds = some ns → ds = ns.map D.int
  | [], _, h => by cases h; rfl
  | d :: r, ns, h => by
    cases d with
    | int i =>
      obtain ⟨m, h1, h2⟩ := Option.map_eq_some_iff.mp (show (intsD r).map (i :: ·) = some ns from h)
      subst h2
      rw [intsD_is h1]; rfl
    | _ => cases h
theorem bolsD_is : ∀ {ds : List D} {ns : List Bool}, bolsD ds = some ns → ds = ns.map D.bl
  | [], _, h => by cases h; rfl
  | d :: r, ns, h => by
    cases d with
    | bl i =>
      obtain ⟨m, h1, h2⟩ := Option.map_eq_some_iff.mp (show (bolsD r).map (i :: ·) = some ns from h)
      subst h2
      rw [bolsD_is h1]; rfl
    | _ => cases h
theorem txtsD_is : ∀ {ds : List D} {ns : List (List Nat)}, txtsD ds = some ns → ds = ns.map D.str
  | [], _, h => by cases h; rfl
  | d :: r, ns, h => by
    cases d with
    | str i =>
      obtain ⟨m, h1, h2⟩ := Option.map_eq_some_iff.mp (show (txtsD r).map (i :: ·) = some ns from h)
      subst h2
      rw [txtsD_is h1]; rfl
    | _ => cases h
theorem intsD_map : ∀ (ns : List Int), intsD (ns.map D.int) = some ns
  | [] => rfl
  | n :: r => by
    show (intsD (r.map D.int)).map (n :: ·) = _
    rw [intsD_map r]; rfl
theorem bolsD_map : ∀ (ns : List Bool), bolsD (ns.map D.bl) = some ns
  | [] => rfl
  | n :: r => by
    show (bolsD (r.map D.bl)).map (n :: ·) = _
    rw [bolsD_map r]; rfl
theorem txtsD_map : ∀ (ns : List (List Nat)), txtsD (ns.map D.str) = some ns
  | [] => rfl
  | n :: r => by
    show (txtsD (r.map D.str)).map (n :: ·) = _
    rw [txtsD_map r]; rfl

def lenD1 : D → Option Int
  | .str s => if szB s.length = true then some s.length else none
  | .lst xs => some xs.length
  | .tup xs => some xs.length
  | .flst xs => some xs.length
  | .dct xs => some xs.length
  | _ => none
def lenD : OpN
  | [d] => (lenD1 d).map fun n => (false, .int n)
  | _ => none
def tupD : OpN
  | [d] => (seqD d).map fun xs => (false, .tup xs)
  | _ => none
def lstD : OpN
  | [.dct ps] => some (true, .lst (ps.map (·.1)))
  | [d] => (seqD d).map fun xs => (true, .lst xs)
  | _ => none
def prD : D → Option (D × D)
  | .tup [k, v] => if isKey k = true then some (k, v) else none
  | _ => none
def prsD : List D → Option (List (D × D))
  | [] => some []
  | d :: r => (prD d).bind fun p => (prsD r).map (p :: ·)
def mrgD (ps qs : List (D × D)) : List (D × D) := qs.foldl (fun acc q => putD acc q.1 q.2) ps
def dctD : OpN
  | [.lst xs] => (prsD xs).map fun ps => (true, .dct (mrgD [] ps))
  | _ => none
def sumD : OpN
  | [d] => (lisD d).bind fun xs => (intsD xs).map fun ns => (false, .int ns.sum)
  | _ => none
def allD : OpN
  | [d] => (lisD d).bind fun xs => (bolsD xs).map fun bs => (false, .bl (bs.all id))
  | _ => none
def anyD : OpN
  | [d] => (lisD d).bind fun xs => (bolsD xs).map fun bs => (false, .bl (bs.any id))
  | _ => none
def minD : OpN
  | [.int i, .int j] => some (false, .int (if j < i then j else i))
  | _ => none
def maxD : OpN
  | [.int i, .int j] => some (false, .int (if j > i then j else i))
  | _ => none
def absD : OpN
  | [.int i] => some (false, .int (if i < 0 then -i else i))
  | _ => none
def intD : OpN
  | [.int i] => some (false, .int i)
  | [.bl k] => some (false, .int (if k then 1 else 0))
  | _ => none
/-- sorted(xs) -/
def srtD : OpN
  | [.dct ps] => (txtsD (ps.map (·.1))).bind fun ks => if ks.length < 64 then some (true, .lst ((srtT ks).map D.str)) else none
  | [d] => (lisD d).bind fun xs => match intsD xs with
    | some ns => some (true, .lst ((srtI ns).map D.int))
    | none => (txtsD xs).map fun ns => (true, .lst ((srtT ns).map D.str))
  | _ => none
def tyD : D → Option String
  | .non => some "NoneType"
  | .bl _ => some "bool"
  | .int _ => some "int"
  | .str _ => some "str"
  | .lst _ => some "list"
  | .flst _ => some "list"
  | .tup _ => some "tuple"
  | .dct _ => some "dict"
  | _ => none
/-- the builtin types that stand over others: bool under int, each thing under object -/
def isTyp (s t : String) : Option Bool := if s = t then some true else if (t = "int" ∨ t = "str" ∨ t = "tuple" ∨ t = "list" ∨ t = "dict" ∨ t = "bool") then some (decide (s = "bool" ∧ t = "int")) else none
def isiD : OpN
  | [d, .ty t] => (tyD d).bind fun s => (isTyp s t).map fun b => (false, .bl b)
  | _ => none
section
variable {X : Cx}
def rLenA (K : PySem.W.Frag) : List V → Hp → VK → Prop := fun xs H Q => (∃ x n, xs = [x] ∧ LenV K x H n ∧ Q (.int n) H) ∨ ∃ a kvs, xs = [V.ref a] ∧ H a = some (.dK kvs) ∧ Q (.int kvs.length) H
theorem cr_lenA : CallR X (.builtin "len") (rLenA X.K) := call_len.or call_lenD
theorem os_len : OpSN X (rLenA X.K) lenD := by
  intro α H O ds xs fr z Q hd vx hf q
  unfold lenD at hf
  split at hf
  · rename_i d
    obtain ⟨n, h1, h2⟩ := Option.map_eq_some_iff.mp hf
    cases h2
    obtain ⟨v, rfl, hv⟩ := v1s1 vx
    have seq : ∀ ys, seqD d = some ys → n = ys.length → rLenA X.K [v] H Q := fun ys e en => by
      obtain ⟨a, vs, rfl, h, r⟩ := hv.seq e
      subst en
      refine .inl ⟨_, ys.length, rfl, ?_, q _ _ (newV_same rfl)⟩
      rw [← r.len]
      rcases h with h | h
      · exact .inl ⟨vs, h, rfl⟩
      · exact .inr ⟨vs, h, rfl⟩
    cases d with
    | str s =>
      have h1 : (if szB s.length = true then some (s.length : Int) else none) = some n := h1
      split at h1
      · rename_i hz
        cases h1
        have e := hv.str
        subst e
        exact .inl ⟨_, s.length, rfl, ⟨by rw [tx_len]; exact szB_ok hz, (tx_len s).symm⟩, q _ _ (newV_same rfl)⟩
      · cases h1
    | lst ys => cases h1; exact seq ys rfl rfl
    | tup ys => cases h1; exact seq ys rfl rfl
    | flst ys => cases h1; exact seq ys rfl rfl
    | dct ys =>
      cases h1
      obtain ⟨a, kvs, rfl, ha, r⟩ := hv.dct
      refine .inr ⟨a, kvs, rfl, ha, ?_⟩
      rw [r.len]
      exact q _ _ (newV_same rfl)
    | _ => cases h1
  · cases hf
theorem os_tup : OpSN X (fun xs H Q => ∃ p ys, xs = [.ref p] ∧ ((SqL X.K H p ys ∧ ∀ l, H l = none → Q (.ref l) (upd H l (.tup ys))) ∨ (SqT X.K H p ys ∧ Q (.ref p) H))) tupD := by
  intro α H O ds xs fr z Q hd vx hf q
  unfold tupD at hf
  split at hf
  · rename_i d
    obtain ⟨ys, h1, h2⟩ := Option.map_eq_some_iff.mp hf
    cases h2
    obtain ⟨v, rfl, hv⟩ := v1s1 vx
    obtain ⟨a, vs, rfl, h, r⟩ := hv.seq h1
    rcases h with h | h
    · exact ⟨a, vs, rfl, .inl ⟨h, fun l hl => q _ _ (newV_tup hd r hl)⟩⟩
    · exact ⟨a, vs, rfl, .inr ⟨h, q _ _ (newV_same ⟨a, vs, rfl, h, r⟩)⟩⟩
  · cases hf
theorem RpKv.keys {w : Wd} {H : Hp} {O : Addr → Prop} : ∀ {ps : List (D × D)} {kvs : List (Key × V)}, RpKv w H O ps kvs → RpAll w H O (ps.map (·.1)) (kvs.map fun kv => kV kv.1)
  | [], _, h => by cases (show _ = [] from h); exact rfl
  | (k, d) :: ps, _, ⟨c, v, r, e, ek, h1, h2⟩ => by
    subst e ek
    refine ⟨kV c, _, rfl, ?_, RpKv.keys h2⟩
    cases c with
    | inl i => exact rfl
    | inr x => show V.str x = .str (tx x.cps.toList); rw [tx_of]
def rLstA (K : PySem.W.Frag) : List V → Hp → VK → Prop := fun xs H Q => (∃ p ys, xs = [.ref p] ∧ (SqL K H p ys ∨ SqT K H p ys) ∧ ∀ l, H l = none → Q (.ref l) (upd H l (.lst ys))) ∨
  ∃ (a : Addr) (kvs : List (Key × V)), xs = [.ref a] ∧ Rd H a (.dK kvs) ∧ ∀ p, H p = none → Q (.ref p) (upd H p (.lst (kvs.map fun kv => kV kv.1)))
theorem cr_lstA (hc : X.calm = true) : CallR X (.type "list") (rLstA X.K) := call_list_of.or (call_listD hc)
theorem os_lst : OpSN X (rLstA X.K) lstD := by
  intro α H O ds xs fr z Q hd vx hf q
  unfold lstD at hf
  split at hf
  · cases hf
    obtain ⟨v, rfl, hv⟩ := v1s1 vx
    obtain ⟨a, kvs, rfl, ha, r⟩ := hv.dct
    exact .inr ⟨a, kvs, rfl, .inl ha, fun p hp => q _ _ (newV_lst hd r.keys hp)⟩
  · obtain ⟨ys, h1, h2⟩ := Option.map_eq_some_iff.mp hf
    cases h2
    obtain ⟨v, rfl, hv⟩ := v1s1 vx
    obtain ⟨a, vs, rfl, h, r⟩ := hv.seq h1
    exact .inl ⟨a, vs, rfl, h, fun l hl => q _ _ (newV_lst hd r hl)⟩
  · cases hf
theorem os_sum : OpSN X (rSum X.K) sumD := by
  intro α H O ds xs fr z Q hd vx hf q
  unfold sumD at hf
  split at hf
  · obtain ⟨ys, h1, hf⟩ := Option.bind_eq_some_iff.mp hf
    obtain ⟨ns, h2, h3⟩ := Option.map_eq_some_iff.mp hf
    cases h3
    obtain ⟨v, rfl, hv⟩ := v1s1 vx
    obtain ⟨a, vs, rfl, h, r⟩ := hv.sqL (lisD_or h1)
    rw [intsD_is h2] at r
    rw [r.ints] at h
    exact ⟨a, ns, rfl, h, q _ _ (newV_same rfl)⟩
  · cases hf
theorem os_all : OpSN X (rAll X.K) allD := by
  intro α H O ds xs fr z Q hd vx hf q
  unfold allD at hf
  split at hf
  · obtain ⟨ys, h1, hf⟩ := Option.bind_eq_some_iff.mp hf
    obtain ⟨ns, h2, h3⟩ := Option.map_eq_some_iff.mp hf
    cases h3
    obtain ⟨v, rfl, hv⟩ := v1s1 vx
    obtain ⟨a, vs, rfl, h, r⟩ := hv.sqL (lisD_or h1)
    rw [bolsD_is h2] at r
    rw [r.bls] at h
    exact ⟨a, ns, rfl, h, q _ _ (newV_same rfl)⟩
  · cases hf
theorem os_any : OpSN X (rAny X.K) anyD := by
  intro α H O ds xs fr z Q hd vx hf q
  unfold anyD at hf
  split at hf
  · obtain ⟨ys, h1, hf⟩ := Option.bind_eq_some_iff.mp hf
    obtain ⟨ns, h2, h3⟩ := Option.map_eq_some_iff.mp hf
    cases h3
    obtain ⟨v, rfl, hv⟩ := v1s1 vx
    obtain ⟨a, vs, rfl, h, r⟩ := hv.sqL (lisD_or h1)
    rw [bolsD_is h2] at r
    rw [r.bls] at h
    exact ⟨a, ns, rfl, h, q _ _ (newV_same rfl)⟩
  · cases hf
theorem os_min : OpSN X (fun xs H Q => ∃ i j, xs = [.int i, .int j] ∧ Q (.int (if j < i then j else i)) H) minD := by
  intro α H O ds xs fr z Q hd vx hf q
  unfold minD at hf
  split at hf
  · cases hf
    obtain ⟨v, u, rfl, hv, hu⟩ := v1s2 vx
    exact ⟨_, _, by rw [hv.int, hu.int], q _ _ (newV_same rfl)⟩
  · cases hf
theorem os_max : OpSN X (fun xs H Q => ∃ i j, xs = [.int i, .int j] ∧ Q (.int (if j > i then j else i)) H) maxD := by
  intro α H O ds xs fr z Q hd vx hf q
  unfold maxD at hf
  split at hf
  · cases hf
    obtain ⟨v, u, rfl, hv, hu⟩ := v1s2 vx
    exact ⟨_, _, by rw [hv.int, hu.int], q _ _ (newV_same rfl)⟩
  · cases hf
theorem os_abs : OpSN X (fun xs H Q => ∃ i, xs = [.int i] ∧ Q (.int (if i < 0 then -i else i)) H) absD := by
  intro α H O ds xs fr z Q hd vx hf q
  unfold absD at hf
  split at hf
  · cases hf
    obtain ⟨v, rfl, hv⟩ := v1s1 vx
    exact ⟨_, by rw [hv.int], q _ _ (newV_same rfl)⟩
  · cases hf
theorem os_int : OpSN X (fun xs H Q => (∃ i, xs = [.int i] ∧ Q (.int i) H) ∨ ∃ k, xs = [.bl k] ∧ Q (.int (if k then 1 else 0)) H) intD := by
  intro α H O ds xs fr z Q hd vx hf q
  unfold intD at hf
  split at hf
  · cases hf
    obtain ⟨v, rfl, hv⟩ := v1s1 vx
    exact .inl ⟨_, by rw [hv.int], q _ _ (newV_same rfl)⟩
  · cases hf
    obtain ⟨v, rfl, hv⟩ := v1s1 vx
    exact .inr ⟨_, by rw [hv.bl], q _ _ (newV_same rfl)⟩
  · cases hf
theorem cps_of {ys : List Str} {ns : List (List Nat)} (h : (ys.map fun x => x.cps.toList) = ns) : ys = ns.map tx := by
  subst h
  rw [List.map_map]
  have : (tx ∘ fun x : Str => x.cps.toList) = id := by funext x; simp
  rw [this, List.map_id]
theorem strD_tx (ns : List (List Nat)) {w : Wd} {H : Hp} {O : Addr → Prop} : RpAll w H O (ns.map D.str) ((ns.map tx).map V.str) := by
  rw [List.map_map]
  exact RpAll.map _ _ _ fun x _ => rfl
theorem intD_v (ns : List Int) {w : Wd} {H : Hp} {O : Addr → Prop} : RpAll w H O (ns.map D.int) (ns.map V.int) := RpAll.map _ _ _ fun x _ => rfl
def rSrtA (K : PySem.W.Frag) : List V → Hp → VK → Prop := fun xs H Q => rSortedI K xs H Q ∨ rSrtT K xs H Q ∨ ∃ (a : Addr) (kvs : List (Key × V)) (ks : List Str), xs = [.ref a] ∧ Rd H a (.dK kvs) ∧ kvs.map (·.1) = ks.map Sum.inr ∧ ks.length < 64 ∧
    ∀ ys p, ys.Perm ks → PyProof.Rows.sortedS ys = true → H p = none → Q (.ref p) (upd H p (.lst (ys.map V.str)))
theorem cr_srtA (hc : X.calm = true) : CallR X (.builtin "sorted") (rSrtA X.K) := cr_sortedI.or (cr_srtT.or (call_sortedD hc))
theorem ltCps_is : ∀ a b : List Nat, PySem.Spec.ltCps a b = decide (a < b)
  | [], [] => by simp [PySem.Spec.ltCps]
  | [], _ :: _ => by simp [PySem.Spec.ltCps]
  | _ :: _, [] => by simp [PySem.Spec.ltCps]
  | a :: r, b :: t => by
    rw [StrLaws.lt_cons_cons, ← ltCps_is r t]
    rfl
theorem sortedS_pw : ∀ {ys : List Str}, PyProof.Rows.sortedS ys = true → (ys.map fun x => x.cps.toList).Pairwise fun x y => ¬ y < x
  | [], _ => List.Pairwise.nil
  | [x], _ => by simp
  | x :: y :: r, h => by
    have h0 : (!PySem.Spec.ltCps y.cps.toList x.cps.toList && PyProof.Rows.sortedS (y :: r)) = true := h
    rw [ltCps_is] at h0
    rw [Bool.and_eq_true, Bool.not_eq_true', decide_eq_false_iff_not] at h0
    have ih := sortedS_pw h0.2
    rw [List.map_cons]
    refine List.pairwise_cons.mpr ⟨fun z hz => ?_, ih⟩
    rw [List.map_cons] at hz ih
    rcases List.mem_cons.mp hz with rfl | hz
    · exact h0.1
    · have a := List.not_lt.mp h0.1
      have b := List.not_lt.mp ((List.pairwise_cons.mp ih).1 z hz)
      exact List.not_lt.mpr (List.le_trans a b)
theorem RpKv.txts {w : Wd} {H : Hp} {O : Addr → Prop} : ∀ {ps : List (D × D)} {kvs : List (Key × V)} {ks : List (List Nat)}, RpKv w H O ps kvs → txtsD (ps.map (·.1)) = some ks → kvs.map (·.1) = (ks.map tx).map Sum.inr
  | [], _, ks, h, e => by cases (show _ = [] from h); cases e; rfl
  | (k, d) :: ps, _, ks, ⟨c, v, r, e0, ek, h1, h2⟩, e => by
    subst e0 ek
    cases c with
    | inl i => cases e
    | inr x =>
      obtain ⟨m, h3, h4⟩ := Option.map_eq_some_iff.mp (show (txtsD (ps.map (·.1))).map (x.cps.toList :: ·) = some ks from e)
      subst h4
      have ih := RpKv.txts h2 h3
      rw [List.map_cons, List.map_cons, List.map_cons, ih, tx_of]
theorem os_srt : OpSN X (rSrtA X.K) srtD := by
  intro α H O ds xs fr z Q hd vx hf q
  unfold srtD at hf
  split at hf
  · obtain ⟨ks, h1, hf⟩ := Option.bind_eq_some_iff.mp hf
    split at hf
    · rename_i hl
      cases hf
      obtain ⟨v, rfl, hv⟩ := v1s1 vx
      obtain ⟨a, kvs, rfl, ha, r⟩ := hv.dct
      refine .inr (.inr ⟨a, kvs, ks.map tx, rfl, .inl ha, r.txts h1, by rw [List.length_map]; exact hl, fun ys p hp hs hn => ?_⟩)
      have k2 := hp.map fun x : Str => x.cps.toList
      rw [map_tx] at k2
      have e := cps_of (srtT_eq k2 (sortedS_pw hs))
      rw [e]
      exact q _ _ (newV_lst hd (strD_tx _) hn)
    · cases hf
  · obtain ⟨ys, h1, hf⟩ := Option.bind_eq_some_iff.mp hf
    obtain ⟨v, rfl, hv⟩ := v1s1 vx
    obtain ⟨a, vs, rfl, h, r⟩ := hv.sqL (lisD_or h1)
    split at hf
    · rename_i ns hn
      cases hf
      rw [intsD_is hn] at r
      rw [r.ints] at h
      refine .inl ⟨a, ns, rfl, h, fun ns' p h1 h2 hp => ?_⟩
      rw [srtI_eq h1 h2]
      exact q _ _ (newV_lst hd (intD_v _) hp)
    · obtain ⟨ns, h2, h3⟩ := Option.map_eq_some_iff.mp hf
      cases h3
      rw [txtsD_is h2] at r
      rw [r.strs] at h
      exact .inr (.inl ⟨a, ns, rfl, h, fun p hp => q _ _ (newV_lst hd (strD_tx _) hp)⟩)
  · cases hf
theorem ty_of {α : List Addr} {H : Hp} {O : Addr → Prop} {d : D} {v : V} {s : String} (h : V1 (X.wd α) H O d v) (e : tyD d = some s) : TyX X.K H v (.type s) := by
  cases d with
  | non => cases e; rw [h.non]; exact .base .non
  | bl b => cases e; rw [h.bl]; exact .base (.bl b)
  | int b => cases e; rw [h.int]; exact .base (.int b)
  | str b => cases e; rw [h.str]; exact .base (.str _)
  | lst b => cases e; obtain ⟨a, vs, rfl, ha, _⟩ := h.lst; exact .base (.lst ha)
  | flst b =>
    cases e
    obtain ⟨a, vs, rfl, ha, _⟩ := h.flst
    rcases ha with ⟨o, ha⟩ | ⟨o, us, n, e1, e2, _⟩
    · exact .base (.frz ha)
    · exact .kList e1 e2
  | tup b =>
    cases e
    obtain ⟨a, vs, rfl, ha, _⟩ := h.tup
    rcases ha with (ha | ⟨o, ha⟩) | hk
    · exact .base (.tup ha)
    · exact .fTuple ha
    · obtain ⟨o, its, n, e1, e2, _⟩ := hk
      exact .kTuple e1 e2
  | dct b => cases e; obtain ⟨a, vs, rfl, ha, _⟩ := h.dct; exact .base (.dK ha)
  | _ => cases e
def kitT (s t : String) : Option Bool := if (Value.type s == Value.type t) = true then some true else if PySem.W.kitMeta t = true then (PySem.fastBuiltinMro s).map (·.contains (Value.type t)) else none
theorem kitT_is (K : PySem.W.Frag) (s t : String) : PySem.W.kitOne K (.type s) (.type t) = kitT s t := rfl
theorem kitT_all : (["NoneType", "bool", "int", "str", "list", "tuple", "dict"].all fun s => ["int", "str", "tuple", "list", "dict", "bool"].all fun t => kitT s t == isTyp s t) = true := by decide +kernel
theorem kitT_of {s t : String} {d : D} {b : Bool} (h : tyD d = some s) (e : isTyp s t = some b) : kitT s t = some b := by
  by_cases hst : s = t
  · subst hst
    have : isTyp s s = some true := by unfold isTyp; rw [if_pos rfl]
    rw [this] at e; cases e
    unfold kitT
    rw [if_pos (by simp)]
  · have hm : s ∈ ["NoneType", "bool", "int", "str", "list", "tuple", "dict"] := by
      cases d <;> cases h <;> simp
    have ht : t ∈ ["int", "str", "tuple", "list", "dict", "bool"] := by
      unfold isTyp at e
      rw [if_neg hst] at e
      split at e
      · rename_i q
        simpa using q
      · cases e
    have q := List.all_eq_true.mp (List.all_eq_true.mp kitT_all s hm) t ht
    rw [← e]
    exact eq_of_beq q
theorem os_isi : OpSN X (rIsi X.K) isiD := by
  intro α H O ds xs fr z Q hd vx hf q
  unfold isiD at hf
  split at hf
  · rename_i d t
    obtain ⟨s, h1, hf⟩ := Option.bind_eq_some_iff.mp hf
    obtain ⟨b, h2, h3⟩ := Option.map_eq_some_iff.mp hf
    cases h3
    obtain ⟨v, u, rfl, hv, hu⟩ := v1s2 vx
    exact ⟨v, u, .type s, .type t, b, rfl, by rw [hu.ty]; exact .ty t, ty_of hv h1, (kitT_is _ _ _).trans (kitT_of h1 h2), q _ _ (newV_same rfl)⟩
  · cases hf
/-! ### pairs make a dict -/
theorem prs_at {w : Wd} {H : Hp} {O : Addr → Prop} : ∀ {ds : List D} {vs : List V} {ps : List (D × D)}, RpAll w H O ds vs → prsD ds = some ps →
    ∃ (as : List Addr) (kvs : List (Key × V)), vs = as.map V.ref ∧ RpKv w H O ps kvs ∧ Paired (fun p kv => SqT w.K H p [kV kv.1, kv.2]) as kvs
  | [], vs, ps, h, e => by
    cases (show vs = [] from h)
    cases e
    exact ⟨[], [], rfl, rfl, .nil⟩
  | d :: r, vs, ps, ⟨v, us, e0, h1, h2⟩, e => by
    subst e0
    obtain ⟨p, e1, e⟩ := Option.bind_eq_some_iff.mp (show (prD d).bind (fun p => (prsD r).map (p :: ·)) = some ps from e)
    obtain ⟨qs, e2, e3⟩ := Option.map_eq_some_iff.mp e
    subst e3
    obtain ⟨as, kvs, e4, h3, h4⟩ := prs_at h2 e2
    unfold prD at e1
    split at e1
    · rename_i k y
      split at e1
      · rename_i hk
        cases e1
        obtain ⟨c, hc⟩ := keyK_of hk
        obtain ⟨a, ws, e5, hs, v1, r1, e6, g1, v2, r2, e7, g2, e8⟩ := h1
        cases (show r2 = [] from e8)
        subst e5 e6 e7 e4
        obtain ⟨c1, c2⟩ := keyK_some hc
        have c3 := c2 v1 w H O (.inl g1)
        subst c3
        exact ⟨a :: as, (c, v2) :: kvs, rfl, ⟨c, v2, kvs, rfl, c1, g2, h3⟩, .cons hs h4⟩
      · cases e1
    · cases e1
theorem mrg_kv {w : Wd} {H : Hp} {O : Addr → Prop} : ∀ {qs ps : List (D × D)} {ms kvs : List (Key × V)}, RpKv w H O qs ms → RpKv w H O ps kvs → RpKv w H O (mrgD ps qs) (mergeK kvs ms)
  | [], _, _, _, h, k => by cases (show _ = [] from h); exact k
  | (x, d) :: qs, _, _, _, ⟨c, v, r, e, ek, h1, h2⟩, k => by
    subst e ek
    have ih := mrg_kv h2 (k.put (c := c) h1)
    exact ih
def rDctP (K : PySem.W.Frag) : List V → Hp → VK → Prop := fun xs H Q => ∃ (a : Addr) (ps : List Addr) (kvs : List (Key × V)), xs = [.ref a] ∧ SqL K H a (ps.map V.ref) ∧ Paired (fun p kv => SqT K H p [kV kv.1, kv.2]) ps kvs ∧
    ∀ p, H p = none → Q (.ref p) (upd H p (.dK (mergeK [] kvs)))
theorem cr_dctP (hc : X.calm = true) : CallR X (.type "dict") (rDctP X.K) := call_dictP hc
theorem os_dct : OpSN X (rDctP X.K) dctD := by
  intro α H O ds xs fr z Q hd vx hf q
  unfold dctD at hf
  split at hf
  · obtain ⟨ps, h1, h2⟩ := Option.map_eq_some_iff.mp hf
    cases h2
    obtain ⟨v, rfl, hv⟩ := v1s1 vx
    obtain ⟨a, vs, rfl, h, r⟩ := hv.lst
    obtain ⟨as, kvs, e, h3, h4⟩ := prs_at r h1
    subst e
    exact ⟨a, as, kvs, rfl, .of h, h4, fun p hp => q _ _ (newV_dct hd (mrg_kv (ps := []) h3 rfl) hp)⟩
  · cases hf
end
end PM
namespace PM
open PySem PySem.Spec L2

/-! ### a text's methods -/
abbrev OpM := D → List D → Option (Bool × D)
def eMth (f : OpM) (o : Sm) (as : SmB) : Sm := fun p => (o p).bind fun p1 x => (as p1).bind fun p2 xs => opOut p2 ((deref p2 x.2).bind fun d => (derefs p2 xs).bind fun ds => f d ds)
def OpSM (X : Cx) (T : String) (r : V → List V → Hp → VK → Prop) (f : OpM) : Prop := ∀ (α : List Addr) (H : Hp) (O : Addr → Prop) (d : D) (ds : List D) (x : V) (xs : List V) (fr : Bool) (z : D) (Q : VK), Dom H O → V1 (X.wd α) H O d x → V1s (X.wd α) H O ds xs → f d ds = some (fr, z) →
  (∀ v H', NewV (X.wd α) H O fr z v H' → Q v H') → r x xs H Q
/-- the value is a text -/
def isTx : D → Bool
  | .str _ => true
  | _ => false
section
variable {X : Cx} {α : List Addr} {G : Gh} {W : WX} {σ : L2.St} {H : Hp} {Q : VK}
def eMthS (f : OpM) (o : Sm) (as : SmB) : Sm := fun p => (o p).bind fun p1 x => if isTx x.2 = true then (as p1).bind fun p2 xs => opOut p2 ((derefs p2 xs).bind fun ds => f x.2 ds) else .no
theorem core_mthS {r : V → List V → Hp → VK → Prop} {f : OpM} {o : Sm} {as : SmB} (hs : OpSM X "str" r f) (h : tE (X.wd α) G W (eMthS f o as) σ H Q) : tBM X.K "str" r (tE (X.wd α) G W o) (tB' (X.wd α) G W as) σ H Q := by
  obtain ⟨p, O, R, h⟩ := h
  refine ⟨p, O, R, (Wp.bind R h).mono fun p1 x H1 O1 _ R1 N1 h1 v hv => ?_⟩
  obtain ⟨k, d⟩ := x
  cases d with
  | str s =>
    have v1 := hv.v1 (e := .str s) R1 rfl
    have e := v1.str
    subst e
    have h1 : Wp (X.wd α) G W σ p1 H1 O1 ((as p1).bind fun p2 xs => opOut p2 ((derefs p2 xs).bind fun ds => f (.str s) ds)) _ := h1
    refine ⟨rfl, p1, O1, R1, (Wp.bind R1 h1).mono fun p2 xs H2 O2 _ R2 N2 h2 vs hvs => ?_⟩
    obtain ⟨fr, z, e, h3⟩ := h2.op
    obtain ⟨ds, e1, e3⟩ := Option.bind_eq_some_iff.mp e
    exact hs α H2 O2 (.str s) ds _ vs fr z Q R2.dom (.inl (show V.str (tx s) = V.str (tx s) from rfl)) (hvs.v1s R2 xs vs ds e1) e3 (op_end R (N1.trans R N2 R1) R2 h3)
  | _ => exact False.elim h1
def joinD : OpM
  | .str a, [d] => (seqD d).bind fun xs => (txtsD xs).bind fun ys => guard' (decide ((ys.map (·.length)).sum + ys.length * a.length ≤ 16777216)) (some (false, .str (TL.joinL a ys)))
  | _, _ => none
def idxT (a b : List Nat) : Option Nat := (Builtin.Str.occurrences (tx a) (tx b) 0 a.length 1).head?
def indexD : OpM
  | .str a, [.str b] => (idxT a b).map fun i => (false, .int (i : Nat))
  | _, _ => none
def rJoinA (K : PySem.W.Frag) : V → List V → Hp → VK → Prop := fun x xs H Q => ∃ a p, ∃ ys : List Str, x = .str a ∧ xs = [.ref p] ∧ (SqL K H p (ys.map V.str) ∨ SqT K H p (ys.map V.str)) ∧
    (ys.map (·.length)).sum + ys.length * a.length ≤ 16777216 ∧ Q (.str (Txt.join a ys)) H
theorem mt_joinA : MtR X "str.join" (rJoinA X.K) := mt_join
theorem join_tx (a : List Nat) (ys : List (List Nat)) : Txt.join (tx a) (ys.map tx) = tx (TL.joinL a ys) := by
  have h := TL.tl_join (tx a) (ys.map tx)
  have e : (ys.map tx).map TL.tl = ys := map_tx ys
  rw [e] at h
  have h2 : TL.tl (Txt.join (tx a) (ys.map tx)) = TL.joinL a ys := (congrArg TL.tl (StrLaws.glued_eq_join (tx a) (ys.map tx))).trans (h.trans (by rw [show TL.tl (tx a) = a from tx_list a]))
  rw [← h2]
  first | done | exact (tx_of _).symm
theorem os_join : OpSM X "str" (rJoinA X.K) joinD := by
  intro α H O d ds x xs fr z Q hd vx vs hf q
  unfold joinD at hf
  split at hf
  · obtain ⟨us, h1, hf⟩ := Option.bind_eq_some_iff.mp hf
    obtain ⟨ys, h2, hf⟩ := Option.bind_eq_some_iff.mp hf
    obtain ⟨hz, h3⟩ := guard_some hf
    cases h3
    obtain ⟨v, rfl, hv⟩ := v1s1 vs
    obtain ⟨a, ws, rfl, h, r⟩ := hv.seq h1
    rw [txtsD_is h2] at r
    rw [r.strs] at h
    refine ⟨_, a, ys.map tx, vx.str, rfl, h, ?_, ?_⟩
    · have e : (ys.map tx).map (·.length) = ys.map (·.length) := by
        rw [List.map_map]
        exact List.map_congr_left fun s _ => tx_len s
      rw [e, List.length_map, tx_len]
      exact of_decide_eq_true hz
    · rw [join_tx]
      exact q _ _ (newV_same rfl)
  · cases hf
def rIdxS : V → List V → Hp → VK → Prop := fun x xs H Q => ∃ a b i rest, x = .str a ∧ xs = [.str b] ∧ Builtin.Str.occurrences a b 0 a.length 1 = i :: rest ∧ Q (.int (i : Nat)) H
theorem mt_idxS : MtR X "str.index" rIdxS := mt_sindex
theorem os_index : OpSM X "str" rIdxS indexD := by
  intro α H O d ds x xs fr z Q hd vx vs hf q
  unfold indexD at hf
  split at hf
  · obtain ⟨i, h1, h2⟩ := Option.map_eq_some_iff.mp hf
    cases h2
    obtain ⟨v, rfl, hv⟩ := v1s1 vs
    rename_i a b
    unfold idxT at h1
    cases e : Builtin.Str.occurrences (tx a) (tx b) 0 a.length 1 with
    | nil => rw [e] at h1; cases h1
    | cons j r =>
      rw [e] at h1
      cases h1
      exact ⟨tx a, tx b, i, r, vx.str, by rw [hv.str], by rw [tx_len]; exact e, q _ _ (newV_same rfl)⟩
  · cases hf
/-- one sign -/
theorem idxT_one {a : List Nat} {c : Nat} (h : c ∈ a) : idxT a [c] = some (a.findIdx (· == c)) := by
  unfold idxT
  have hl : (tx a).length = a.length := tx_len a
  have at_iff : ∀ i, StrLaws.At (tx a) (tx [c]) (tx a).length i ↔ a[i]? = some c := fun i => by
    have q := StrLaws.subAt_one (tx a) c i
    rw [tx_list] at q
    exact q
  have oh := StrLaws.occ_head (tx a) (tx [c]) 1 (Nat.le_refl 1)
  rw [hl] at oh
  rcases oh with ⟨_, hn⟩ | ⟨i, r, e, hi, hlt⟩
  · obtain ⟨i, hi⟩ := List.mem_iff_getElem?.mp h
    exact absurd ((at_iff i).mpr hi) (by rw [hl]; exact hn i)
  · rw [e]
    have h1 : a[i]? = some c := (at_iff i).mp (by rw [hl]; exact hi)
    obtain ⟨h2, h3⟩ := List.getElem?_eq_some_iff.mp h1
    have h4 : a.findIdx (· == c) = i := by
      refine (List.findIdx_eq h2).mpr ⟨by simp [h3], fun j hj => ?_⟩
      have h5 : j < a.length := by omega
      have h6 := hlt j hj
      rw [← hl, at_iff j, List.getElem?_eq_getElem h5] at h6
      simpa using fun z => h6 (by rw [z])
    rw [h4]; rfl
/-- a sign in a text -/
def inSD : Op2
  | .str [c], .str s => some (false, .bl (decide (c ∈ s)))
  | _, _ => none
def rInSg : R2 := fun x y H Q => ∃ (c : Nat) (z : Str), x = .str ⟨#[c]⟩ ∧ y = .str z ∧ Q (.bl (decide (c ∈ z.cps.toList))) H
theorem op_inSg : OpR X (compareOp .In) rInSg := op_in_sign
theorem os_inS : OpS2 X rInSg inSD := by
  intro α H O d e x y fr z Q hd vx vy hf q
  unfold inSD at hf
  split at hf
  · cases hf
    refine ⟨_, _, vx.str, vy.str, ?_⟩
    rw [tx_list]
    exact q _ _ (newV_same rfl)
  · cases hf
end
section
variable {X : Cx} {e : Expr} {es : List Expr} {o : Expr} {fo : Sm} {gs : SmB} {apos cpos : Pos} {name : Str} {id : String}
theorem se_mthS {r : V → List V → Hp → VK → Prop} {f : OpM} (slot : Slot "str" name id) (hty : typeOf (.builtin id) = pure (.type "method_descriptor")) (hm : MtR X id r) (hs : OpSM X "str" r f) (ho : SE X fo o) (ha : SB X gs (e :: es))
    (hbase : attributeBase o name X.env (eval o X.env) = eval o X.env)
    (hfew : ((backTo cpos (starEach (e :: es) X.env)).all (fun x => !x.1) && (backToKw cpos (keywordEach [] X.env)).all (fun x => x.1.isSome)
      && decide ((e :: es).length + ([] : List Keyword).length + (if ([] : List Keyword).isEmpty then 0 else 1) < 30)) = true)
    (hline : (apos.endLine == cpos.line) = true) (he : starEach (e :: es) X.env = (false, eval e X.env) :: starEach es X.env) (hpl : (backTo cpos (starEach es X.env)).any (·.1) = false) : SE X (eMthS f fo gs) (.Call (.Attribute o name apos) (e :: es) [] cpos) :=
  fun α G W tk => pe_weak (pe_bm PySem.F.plainAttrs_str slot hty hm (ho α G W tk) (ha α G W tk) hbase hfew hline he hpl) fun _ _ _ h => core_mthS hs h
end
end PM
namespace PM
open PySem PySem.Spec L2

/-! ### a def's meaning -/
def startP (N : Nat) (ds S : List D) : PSt := ⟨ds.map Sl.fz ++ List.replicate (N - ds.length) Sl.un, S⟩
def frOf (p : PSt) : Kd → Bool
  | .fz => false
  | .fr => true
  | .ow i => match p.ρ[i]? with
    | some (.ow _) => true
    | _ => false
def outF : Out Fl → FOut
  | .no => .no
  | .ok p .nx => .ok p.S false .non
  | .ok p (.rt k d) => .ok p.S (frOf p k) d
  | .ok p _ => .no
  | .ex p c r => .ex p.S c r
def denFn (ar N : Nat) (b : SmS) : Fn := fun ds S => if ds.length = ar then outF (b (startP N ds S)) else .no
theorem denFn_ar {ar N : Nat} {b : SmS} : ArOk ar (denFn ar N b) := fun ds S h => by
  unfold denFn at h
  by_cases e : ds.length = ar
  · exact e
  · rw [if_neg e] at h
    rcases h with ⟨_, _, _, h⟩ | ⟨_, _, _, h⟩ <;> cases h
section
variable {w : Wd} {H : Hp} {O0 : Addr → Prop}
theorem startP_fz {N : Nat} {ds S : List D} {i : Nat} {d : D} (h : (startP N ds S).ρ[i]? = some (.fz d)) : ds[i]? = some d := by
  have h : (ds.map Sl.fz ++ List.replicate (N - ds.length) Sl.un)[i]? = some (.fz d) := h
  rw [List.getElem?_append] at h
  split at h
  · rw [List.getElem?_map] at h
    obtain ⟨e, h1, h2⟩ := Option.map_eq_some_iff.mp h
    cases h2
    exact h1
  · rw [List.getElem?_replicate] at h
    split at h <;> cases h
theorem startP_ow {N : Nat} {ds S : List D} {i : Nat} {d : D} (h : (startP N ds S).ρ[i]? = some (.ow d)) : False := by
  have h : (ds.map Sl.fz ++ List.replicate (N - ds.length) Sl.un)[i]? = some (.ow d) := h
  rw [List.getElem?_append] at h
  split at h
  · rw [List.getElem?_map] at h
    obtain ⟨e, h1, h2⟩ := Option.map_eq_some_iff.mp h
    cases h2
  · rw [List.getElem?_replicate] at h
    split at h <;> cases h
theorem start_rl {N : List Str} {ds S : List D} {vs : List V} (r : RpAll w H O0 ds vs) (hd : Dom H O0) (nd : w.α.Nodup) (al : ∀ a ∈ w.α, O0 a) (sl : S.length = w.α.length) (st : Cells w H O0 S) :
    Rl w ⟨O0, H⟩ (startP N.length ds S) (L2.start N vs) H O0 := by
  refine ⟨?_, fun i d h => ?_, fun i d h => (startP_ow h).elim, fun i j d e a h => (startP_ow h).elim, fun a h => h, hd, fun a o h _ => h, al, sl, st, nd⟩
  · show (vs.map some ++ List.replicate (N.length - vs.length) none).length = (ds.map Sl.fz ++ List.replicate (N.length - ds.length) Sl.un).length
    rw [List.length_append, List.length_append, List.length_map, List.length_map, List.length_replicate, List.length_replicate, r.len]
  · obtain ⟨v, e, rv⟩ := r.get (startP_fz h)
    refine ⟨v, ?_, rv⟩
    have hl := (List.getElem?_eq_some_iff.mp e).1
    show (vs.map some ++ List.replicate (N.length - vs.length) none)[i]? = some (some v)
    rw [List.getElem?_append_left (by rw [List.length_map]; exact hl), List.getElem?_map, e]
    rfl
theorem ret_r {G : Gh} {p : PSt} {σ : L2.St} {H' : Hp} {O' : Addr → Prop} (R : Rl w ⟨O0, H⟩ p σ H' O') (F : Fz H O0 H' O') : RetR w H O0 p.S H' O' := by
  refine ⟨R.kp, R.o0, fun a h => ?_, R.dom, R.sl, R.st⟩
  by_cases z : O0 a
  · exact .inl z
  · cases e : H a with
    | none => exact .inr rfl
    | some o => exact absurd h (F a o e z).2
theorem vr_ret {p : PSt} {σ : L2.St} {H' : Hp} {O' : Addr → Prop} {k : Kd} {d : D} {v : V} (R : Rl w ⟨O0, H⟩ p σ H' O') (h : VR w H p σ H' O' k d v) : RetV w H H' O' (frOf p k) d v := by
  cases k with
  | fz => exact h
  | fr =>
    obtain ⟨a, e, h1, h2, h3, _⟩ := h
    exact ⟨a, e, h2, h1, h3⟩
  | ow i =>
    obtain ⟨h1, h2⟩ := h
    rcases h2 with h2 | h2
    · have e : frOf p (.ow i) = true := by simp only [frOf, h2]
      rw [e]
      obtain ⟨a, e1, g1, g2, g3, g4⟩ := R.ow i d h2
      rw [h1] at e1
      injection e1 with e1; injection e1 with e1
      exact ⟨a, e1, g3, g1, g4⟩
    · have e : frOf p (.ow i) = false := by simp only [frOf, h2]
      rw [e]
      obtain ⟨u, e1, h3⟩ := R.fz i d h2
      rw [h1] at e1
      injection e1 with e1; injection e1 with e1
      subst e1
      exact h3
end
/-- what a body's reading asks -/
theorem core_fn {K : PySem.W.Frag} {mg : Str → Option Value} {N : List Str} {ar : Nat} {b : SmS} {vs : List V} {H : Hp} {Q : VK} {E : XK} (h : spF K mg ar (denFn ar N.length b) vs H Q E) :
    ∃ (α : List Addr) (G : Gh), tS ⟨K, mg, α⟩ G (fun cls dd _ H' => E cls dd H') b { nx := fun _ H' => Q .non H', rt := Q } (L2.start N vs) H := by
  obtain ⟨α, ds, S, O0, hl, r, hd, nd, al, sl, st, h⟩ := h
  refine ⟨α, ⟨O0, H⟩, startP N.length ds S, O0, start_rl (w := ⟨K, mg, α⟩) r hd nd al sl st, ?_⟩
  have e : ds.length = ar := by rw [← hl, r.len]
  unfold denFn at h
  rw [if_pos e] at h
  cases eb : b (startP N.length ds S) with
  | no => rw [eb] at h; exact h
  | ex p c d =>
    rw [eb] at h
    exact fun σ' H' O' cls dd R F x => h cls dd H' O' (ret_r (G := ⟨O0, H⟩) R F) x
  | ok p fl =>
    rw [eb] at h
    cases fl with
    | nx => exact fun σ' H' O' R F => h .non H' O' (ret_r (G := ⟨O0, H⟩) R F) rfl
    | bk => exact False.elim h
    | ct => exact False.elim h
    | rt k d => exact fun σ' H' O' R F v hv => h v H' O' (ret_r (G := ⟨O0, H⟩) R F) (vr_ret R hv)
section
variable {P : Program} {w : World} {K : PySem.W.Frag} {mg : Str → Option Value} {base : Heap}
/-- the context of a def's body -/
abbrev bodyX (P : Program) (w : World) (K : PySem.W.Frag) (mg : Str → Option Value) (base : Heap) (N : List Str) (qual : Str) (st : Stmt) (f : Addr) (cdv : Value) (A : Around) (outer : List Env) (s : Shared) (H : Hp) (E : XK) : Cx :=
  cxOf (L2.CX P w) P w K mg base N qual (defScope st) f cdv A outer s H E
theorem fn_ok {x qual : Str} {st : Stmt} {f : Addr} {fd : FuncData} {N ps : List Str} {k : Nat} {b : SmS} (F : Fun K x qual st f fd) (S : FnScope N ps (defScope st))
    (hb : ∀ (cdv : Value) (A : Around) (outer : List Env) (s : Shared) (H : Hp) (E : XK), Cg (bodyX P w K mg base N qual st f cdv A outer s H E) k → SSs (bodyX P w K mg base N qual st f cdv A outer s H E) b (defBody st)) :
    FnOk P w K mg base (L2.CX P w) (k + 1) f fd ps (spF K mg ps.length (denFn ps.length N.length b)) := by
  refine F.okX S (fun vs H Q E ⟨_, _, _, _, h, _⟩ => h) fun cdv A outer s H vs Q E hr h => ?_
  obtain ⟨α, G, h⟩ := core_fn h
  have C : Cg (bodyX P w K mg base N qual st f cdv A outer s H E) k := ⟨rfl, hr, S.nd⟩
  exact ⟨_, hb cdv A outer s H E C α G _ (takes_of rfl rfl rfl rfl), h⟩
theorem FnOk.toG {X : Cx} {lv : Nat} {x : Str} {f : Addr} {fd : FuncData} {ps : List Str} {g : Fn} (F : FnOk X.prog X.w X.K X.mg X.base (L2.CX X.prog X.w) lv f fd ps (spF X.K X.mg ps.length g)) (hm : X.mg x = some (.ref f)) (hk : PySem.W.keepIn X.K (.ref f) = true) (hb : Binds X.K fd ps []) : FnG X lv x ps.length g :=
  ⟨f, fd, ps, hm, hk, hb, F⟩
end
/-- a def of the law as it stands written: where it lies, what it is -/
structure DefAt (K : PySem.W.Frag) (mg : Str → Option Value) (x : Str) (st : Stmt) (ps : List Str) (f : Addr) (fd : FuncData) : Prop where
  fn : Fun K x x st f fd
  m : mg x = some (.ref f)
  k : PySem.W.keepIn K (.ref f) = true
  b : Binds K fd ps []
theorem Cg.blk {X : Cx} {L : Nat} (C : Cg X L) {s : Shared} {H : Hp} {scope : Scope} {cenv : Env} {fp : List Addr} : Cg (X.blk s H scope cenv fp) L := ⟨C.calm, C.room, C.nd⟩
end PM
namespace PM
open PySem PySem.Spec L2

/-! ### short ways -/
section
variable {X : Cx} {L : Nat}
theorem se_strL {x : Str} {s : List Nat} {j} {pos : Pos} (h : x.cps.toList = s) : SE X (eCst (.str s)) (.Constant (.str x) j pos) := by
  subst h
  exact se_str
theorem vv (C : Cg X L) (i : Nat) (x : Str) (hN : X.N[i]? = some x) (hv : Vis X.env.scope x) (hd : (x == ("__debug__" : Str)) = false) (hcd : (x == ("__classdict__" : Str)) = false) (pos : Pos) : SE X (eVar i) (.Name x pos) := se_var hN hv hd hcd
theorem pvv (C : Cg X L) (i : Nat) (x : Str) (hN : X.N[i]? = some x) (hv : Vis X.env.scope x) (hd : (x == ("__debug__" : Str)) = false) (hcd : (x == ("__classdict__" : Str)) = false) (pos : Pos) : PE X (.Name x pos) (tVar i) := pe_var hN hv hd hcd
theorem gg (C : Cg X L) (x : Str) (h : X.env.kindOf x = some .globalImplicit) : Gl X x := h
/-- the module's constant -/
def CstG (mg : Str → Option Value) (x : Str) (d : D) : Prop := ∃ (v : V) (u : Value), mg x = some u ∧ RelV v u ∧ ∀ (w : Wd) H O, Rp w H O d v
theorem kk (C : Cg X L) (x : Str) {d : D} (c : CstG X.mg x d) (h : X.env.kindOf x = some .globalImplicit) (hd : (x == ("__debug__" : Str)) = false) (pos : Pos) : SE X (eCst d) (.Name x pos) := by
  obtain ⟨v, u, hm, r, hr⟩ := c
  exact se_glob h hm r hd fun α H O => hr _ H O
theorem cst_int {mg : Str → Option Value} {x : Str} {i : Int} (h : ∃ t, mg x = some (.int i t)) : CstG mg x (.int i) := by
  obtain ⟨t, h⟩ := h
  exact ⟨.int i, _, h, ⟨t, rfl⟩, fun _ _ _ => rfl⟩
theorem cst_str {mg : Str → Option Value} {x y : Str} {s : List Nat} (h : ∃ t, mg x = some (.str y t)) (e : y.cps.toList = s) : CstG mg x (.str s) := by
  obtain ⟨t, h⟩ := h
  subst e
  exact ⟨.str y, _, h, ⟨t, rfl⟩, fun _ _ _ => by show V.str y = .str (tx y.cps.toList); rw [tx_of]⟩
theorem op_eqC (C : Cg X L) : OpR X (compareOp .Eq) (rEqD X.K) := op_eqD (by have := C.room.un; omega)
theorem op_neC (C : Cg X L) : OpR X (compareOp .NotEq) (rNeD X.K) := op_neD (by have := C.room.un; omega)
theorem no_addI : ∀ (d e : D) (n : Nat), d = .ob n → addI d e = none := fun d e n h => by subst h; rfl
theorem op_addIS : OpR X (inplaceOp .Add) (fun x y H Q => rI0 (fun i j => .int (i + j)) x y H Q ∨ ∃ i j, x = .str i ∧ y = .str j ∧ i.length + j.length ≤ sizeLine ∧ Q (.str (i ++ j)) H) := iop_add.or iop_add_str
variable {elt tg iter : Expr} {ifs : List Expr} {scope : Scope} {own : List (Str × Nat)} {pos : Pos} {it : SmI} {g : Tg} {ft : SmT} {fe : Sm}
def BlkC (X : Cx) (L : Nat) (scope : Scope) (P : Cx → Prop) : Prop := ∀ (s : Shared) (H : Hp) (C : Addr) (cl : List (Str × Addr)) (fp : List Addr), Cg (X.blk s H scope (compEnvC scope cl C X.env) fp) L → P (X.blk s H scope (compEnvC scope cl C X.env) fp)
theorem BlkC.all {P : Cx → Prop} (C : Cg X L) (h : BlkC X L scope P) : BlkAll X scope P := fun s H D cl fp => h s H D cl fp C.blk
def blkB (N : List Str) (sc scope : Scope) (own : List (Str × Nat)) : Bool :=
  (scope.kind == .function) && (scope.names.all fun y => scope.names.lookup y.1 == some y.2) && (own.all fun p => N[p.2]? == some p.1) &&
    (scope.names.all fun y => if y.2 == .free then (sc.names.lookup y.1 == some .cell || sc.names.lookup y.1 == some .free) else true) &&
    (scope.names.all fun y => if (y.2 == .local || y.2 == .cell) then ((own.map (·.1)).contains y.1 || !(N.contains y.1)) else true)
theorem blkB_ok {N : List Str} {sc scope : Scope} {own : List (Str × Nat)} (h : blkB N sc scope own = true) : BlkOk N sc scope own := by
  unfold blkB at h
  simp only [Bool.and_eq_true, List.all_eq_true] at h
  obtain ⟨⟨⟨⟨h1, h2⟩, h3⟩, h4⟩, h5⟩ := h
  refine ⟨by simpa using h1, fun y hy => by simpa using h2 y hy, fun p hp => by simpa using h3 p hp, fun y hy e => ?_, fun y hy e => ?_⟩
  · have q := h4 y hy
    rw [if_pos (by simp [e])] at q
    simpa using q
  · have q := h5 y hy
    rw [if_pos (by simpa using e)] at q
    simpa using q
theorem se_lcC (own : List (Str × Nat)) (ts : List Nat) (C : Cg X L) (hi : SI X tg it iter) (ok : blkB X.N X.env.scope scope own = true) (hts : (ts.all fun i => (own.map (·.2)).contains i) = true) (hg : BlkC X L scope fun X => SG X g ts tg) (ht : BlkC X L scope fun X => STs X ft ifs) (he : BlkC X L scope fun X => SE X fe elt)
    (hs : ∀ x, foldedSetIterable iter X.env x = pure x) : SE X (eLc it (own.map (·.2)) g ft fe) (.ListComp elt [⟨tg, iter, ifs, 0⟩] scope pos) := se_lc C hi (blkB_ok ok) (fun i hi => by simpa using List.all_eq_true.mp hts i hi) (hg.all C) (ht.all C) (he.all C) hs
theorem ss_setLcC {i : Nat} {y : Str} {py spos : Pos} (own : List (Str × Nat)) (ts : List Nat) (C : Cg X L) (hy : X.N[i]? = some y) (hyl : X.env.scope.names.lookup y = some .local) (hsw : swapsWith (.ListComp elt [⟨tg, iter, ifs, 0⟩] scope pos) (some (.Name y py)) spos.line X.env = pure true)
    (hi : SI X tg it iter) (ok : blkB X.N X.env.scope scope own = true) (hts : (ts.all fun i => (own.map (·.2)).contains i) = true) (hg : BlkC X L scope fun X => SG X g ts tg) (ht : BlkC X L scope fun X => STs X ft ifs) (he : BlkC X L scope fun X => SE X fe elt)
    (hs : ∀ x, foldedSetIterable iter X.env x = pure x) : SS X (sSet i (eLc it (own.map (·.2)) g ft fe)) (.Assign [.Name y py] (.ListComp elt [⟨tg, iter, ifs, 0⟩] scope pos) spos) := ss_setLc C hy hyl hsw hi (blkB_ok ok) (fun i hi => by simpa using List.all_eq_true.mp hts i hi) (hg.all C) (ht.all C) (he.all C) hs
end
/-- a def of the law with its meaning -/
def DefG (P : Program) (w : World) (K : PySem.W.Frag) (mg : Str → Option Value) (base : Heap) (lv : Nat) (x : Str) (ar : Nat) (g : Fn) : Prop :=
  ∃ f fd ps, mg x = some (.ref f) ∧ PySem.W.keepIn K (.ref f) = true ∧ Binds K fd ps [] ∧ FnOk P w K mg base (L2.CX P w) lv f fd ps (spF K mg ar g)
theorem DefG.to {X : Cx} {lv : Nat} {x : Str} {ar : Nat} {g : Fn} (h : DefG X.prog X.w X.K X.mg X.base lv x ar g) : FnG X lv x ar g := h
theorem DefG.mono {P : Program} {w : World} {K : PySem.W.Frag} {mg : Str → Option Value} {base : Heap} {lv lv' : Nat} {x : Str} {ar : Nat} {g : Fn} (h : DefG P w K mg base lv x ar g) (hl : lv ≤ lv') : DefG P w K mg base lv' x ar g := by
  obtain ⟨f, fd, ps, h1, h2, h3, F⟩ := h
  exact ⟨f, fd, ps, h1, h2, h3, F.mono hl⟩
theorem defG {P : Program} {w : World} {K : PySem.W.Frag} {mg : Str → Option Value} {base : Heap} {x : Str} {st : Stmt} {N ps : List Str} {k : Nat} {b : SmS} {f : Addr} {fd : FuncData} (D : DefAt K mg x st ps f fd) (S : FnScope N ps (defScope st))
    (hb : ∀ (cdv : Value) (A : Around) (outer : List Env) (s : Shared) (H : Hp) (E : XK), Cg (bodyX P w K mg base N x st f cdv A outer s H E) k → SSs (bodyX P w K mg base N x st f cdv A outer s H E) b (defBody st)) :
    DefG P w K mg base (k + 1) x ps.length (denFn ps.length N.length b) := ⟨f, fd, ps, D.m, D.k, D.b, fn_ok D.fn S hb⟩
theorem defG0 {P : Program} {w : World} {K : PySem.W.Frag} {mg : Str → Option Value} {base : Heap} {x : Str} {st : Stmt} {ps : List Str} {lv ar : Nat} {f : Addr} {fd : FuncData} (D : DefAt K mg x st ps f fd) :
    DefG P w K mg base lv x ar (fun _ _ => .no) := ⟨f, fd, ps, D.m, D.k, D.b, ⟨fun vs H Q E ⟨_, _, _, _, _, _, _, _, _, _, _, h⟩ => h.elim, fun A outer s H args us vs Q E hr e0 hb r ⟨_, _, _, _, _, _, _, _, _, _, _, h⟩ => h.elim⟩⟩
end PM
namespace PM
open PySem PySem.Spec L2

/-! ### the law itself -/
section
variable {w w' : Wd} {H : Hp} {O : Addr → Prop}
mutual
theorem Rp.al (hK : w'.K = w.K) (hm : w'.mg = w.mg) (x : ∀ (n : Nat) a, w.α[n]? = some a → w'.α[n]? = some a) : ∀ (d : D) (v : V), Rp w H O d v → Rp w' H O d v
  | .non, _, h => h
  | .bl _, _, h => h
  | .int _, _, h => h
  | .str _, _, h => h
  | .tup ds, _, ⟨a, vs, e, h, r⟩ => ⟨a, vs, e, by rw [hK]; exact h, RpAll.al hK hm x ds vs r⟩
  | .lst ds, _, ⟨a, vs, e, h, n, r⟩ => ⟨a, vs, e, h, n, RpAll.al hK hm x ds vs r⟩
  | .flst ds, _, ⟨a, vs, e, h, r⟩ => ⟨a, vs, e, by rw [hK]; exact h, RpAll.al hK hm x ds vs r⟩
  | .dct ps, _, ⟨a, kvs, e, h, n, r⟩ => ⟨a, kvs, e, h, n, RpKv.al hK hm x ps kvs r⟩
  | .fn _, _, ⟨a, e, h⟩ => ⟨a, e, by rw [hm]; exact h⟩
  | .ob n, _, ⟨a, e, h⟩ => ⟨a, e, x n a h⟩
  | .ty _, _, h => h
theorem RpAll.al (hK : w'.K = w.K) (hm : w'.mg = w.mg) (x : ∀ (n : Nat) a, w.α[n]? = some a → w'.α[n]? = some a) : ∀ (ds : List D) (vs : List V), RpAll w H O ds vs → RpAll w' H O ds vs
  | [], _, h => h
  | d :: ds, _, ⟨v, r, e, h1, h2⟩ => ⟨v, r, e, Rp.al hK hm x d v h1, RpAll.al hK hm x ds r h2⟩
theorem RpKv.al (hK : w'.K = w.K) (hm : w'.mg = w.mg) (x : ∀ (n : Nat) a, w.α[n]? = some a → w'.α[n]? = some a) : ∀ (ps : List (D × D)) (kvs : List (Key × V)), RpKv w H O ps kvs → RpKv w' H O ps kvs
  | [], _, h => h
  | (k, d) :: ps, _, ⟨c, v, r, e, ek, h1, h2⟩ => ⟨c, v, r, e, ek, Rp.al hK hm x d v h1, RpKv.al hK hm x ps r h2⟩
end
end
/-- what the law's def promises -/
def spL (K : PySem.W.Frag) (n : Nat) : Sp := fun vs H Q _ => ∃ (a : Addr) (ns : List Int), vs = [.ref a] ∧ ns.length ≤ n ∧ (∀ z ∈ ns, Builtin.Int.intBits z ≤ 1048576) ∧ Only H ∧ SqL K H a (ns.map V.int) ∧ ∀ H', Q (.bl true) H'
theorem only_fzL {K : PySem.W.Frag} {H : Hp} {a : Addr} {vs : List V} (ho : Only H) (h : SqL K H a vs) : FzL K H a vs := by
  rcases h with (h | ⟨o, h⟩) | h
  · rcases ho a with e | ⟨o, xs, e⟩
    · rw [h] at e; cases e
    · rw [h] at e; cases e
  · exact .inl ⟨o, h⟩
  · exact .inr h
abbrev lawP (N : Nat) (ns : List Int) : PSt := ⟨.fz (.flst (ns.map D.int)) :: List.replicate (N + 1) .un, []⟩
abbrev lawP1 (N : Nat) (ns : List Int) (cs : List D) : PSt := ⟨.fz (.flst (ns.map D.int)) :: .ow (.lst cs) :: List.replicate N .un, []⟩
abbrev lawP2 (N : Nat) (ns : List Int) (cs : List D) : PSt := ⟨.fz (.flst (ns.map D.int)) :: .fz (.ob 0) :: List.replicate N .un, [.lst cs]⟩
def LawM (N n : Nat) (b1 b : SmS) : Prop := ∀ ns : List Int, ns.length ≤ n → (∀ z ∈ ns, Builtin.Int.intBits z ≤ 1048576) → ∃ cs p2, b1 (lawP N ns) = .ok (lawP1 N ns cs) .nx ∧ b (lawP2 N ns cs) = .ok p2 (.rt .fz (.bl true))
theorem law_rl {K : PySem.W.Frag} {mg : Str → Option Value} {G : Gh} {N : Nat} {ns : List Int} {cs : List D} {σ : L2.St} {H : Hp} {O : Addr → Prop} (R : Rl ⟨K, mg, []⟩ G (lawP1 N ns cs) σ H O) :
    ∃ a, Rl ⟨K, mg, [a]⟩ ⟨O, H⟩ (lawP2 N ns cs) σ H O := by
  obtain ⟨a, e1, oa, n0, h0, ob⟩ := R.ow 1 (.lst cs) rfl
  have up : ∀ (n : Nat) b, ([] : List Addr)[n]? = some b → [a][n]? = some b := fun n b h => by simp at h
  refine ⟨a, ⟨R.len, fun i d h => ?_, fun i d h => ?_, fun i j d e b h => ?_, fun b h => h, R.dom, fun b o h _ => h, fun b h => ?_, rfl, fun n c b hc hb => ?_, by simp⟩⟩
  · match i, h with
    | 0, h =>
      cases h
      obtain ⟨v, ev, rv⟩ := R.fz 0 _ rfl
      exact ⟨v, ev, Rp.al (w := ⟨K, mg, []⟩) (w' := ⟨K, mg, [a]⟩) rfl rfl up _ _ rv⟩
    | 1, h =>
      cases h
      exact ⟨.ref a, e1, a, rfl, rfl⟩
    | i + 2, h =>
      have h : (List.replicate N Sl.un)[i]? = some (.fz d) := h
      rw [List.getElem?_replicate] at h
      split at h <;> cases h
  · match i, h with
    | 0, h => cases h
    | 1, h => cases h
    | i + 2, h =>
      have h : (List.replicate N Sl.un)[i]? = some (.ow d) := h
      rw [List.getElem?_replicate] at h
      split at h <;> cases h
  · match i, h with
    | 0, h => cases h
    | 1, h => cases h
    | i + 2, h =>
      have h : (List.replicate N Sl.un)[i]? = some (.ow d) := h
      rw [List.getElem?_replicate] at h
      split at h <;> cases h
  · have : b = a := by simpa using h
    subst this
    exact oa
  · match n, hc, hb with
    | 0, hc, hb =>
      cases hc
      cases hb
      rcases ob with ⟨ds, vs, e, h1, r⟩ | ⟨ps, kvs, e, h1, r⟩
      · exact .inl ⟨ds, vs, e, h1, RpAll.al (w := ⟨K, mg, []⟩) (w' := ⟨K, mg, [a]⟩) rfl rfl up _ _ r⟩
      · exact .inr ⟨ps, kvs, e, h1, RpKv.al (w := ⟨K, mg, []⟩) (w' := ⟨K, mg, [a]⟩) rfl rfl up _ _ r⟩
    | n + 1, hc, hb => cases hc
section
variable {P : Program} {w : World} {K : PySem.W.Frag} {mg : Str → Option Value} {base : Heap}
theorem law_ok {x : Str} {st first : Stmt} {rest : List Stmt} {f : Addr} {fd : FuncData} {N : List Str} {M n : Nat} {p : Str} {k : Nat} {b1 b : SmS} (F : Fun K x x st f fd) (S : FnScope N [p] (defScope st)) (hN : N.length = M + 2) (hbody : defBody st = first :: rest)
    (hb1 : ∀ (cdv : Value) (A : Around) (outer : List Env) (s : Shared) (H : Hp) (E : XK), Cg (bodyX P w K mg base N x st f cdv A outer s H E) k → SS (bodyX P w K mg base N x st f cdv A outer s H E) b1 first)
    (hb : ∀ (cdv : Value) (A : Around) (outer : List Env) (s : Shared) (H : Hp) (E : XK), Cg (bodyX P w K mg base N x st f cdv A outer s H E) k → SSs (bodyX P w K mg base N x st f cdv A outer s H E) b rest)
    (hm : LawM M n b1 b) : FnOk P w K mg base (L2.CX P w) (k + 1) f fd [p] (spL K n) := by
  refine F.okX S (fun vs H Q E ⟨_, _, h, _⟩ => by rw [h]; rfl) fun cdv A outer s H vs Q E hr h => ?_
  obtain ⟨a, ns, rfl, hl, hbits, ho, hs, q⟩ := h
  have C : Cg (bodyX P w K mg base N x st f cdv A outer s H E) k := ⟨rfl, hr, S.nd⟩
  have tk : Takes (bodyX P w K mg base N x st f cdv A outer s H E) (fun cls d _ H => E cls d H) := takes_of rfl rfl rfl rfl
  rw [hbody]
  have h1 := hb1 cdv A outer s H E C [] ⟨fun _ => False, H⟩ _ tk
  have h2 : PSs (bodyX P w K mg base N x st f cdv A outer s H E) rest (fun D σ H => ∃ α G, tS ⟨K, mg, α⟩ G (fun cls d _ H => E cls d H) b D σ H) :=
    ⟨fun pins s' σ H' D I ⟨α, G, q⟩ => (hb cdv A outer s H E C α G _ tk).run pins s' σ H' D I q⟩
  refine ⟨_, pss_cons h1 h2, ?_⟩
  obtain ⟨cs, p2, e1, e2⟩ := hm ns hl hbits
  have r0 : RpAll ⟨K, mg, []⟩ H (fun _ => False) [.flst (ns.map D.int)] [.ref a] := RpAll.one ⟨a, _, rfl, only_fzL ho hs, intD_v ns⟩
  have R0 := start_rl (w := ⟨K, mg, []⟩) (N := N) (S := []) r0 (fun _ z => z.elim) List.nodup_nil (fun _ z => by cases z) rfl (fun _ _ _ z => by simp at z)
  have e0 : startP N.length [.flst (ns.map D.int)] [] = lawP M ns := by
    unfold startP lawP
    rw [hN]
    rfl
  refine ⟨startP N.length [.flst (ns.map D.int)] [], fun _ => False, R0, ?_⟩
  rw [e0, e1]
  intro σ' H' O' R1 F1
  obtain ⟨a', R2⟩ := law_rl R1
  refine ⟨[a'], ⟨O', H'⟩, lawP2 M ns cs, O', R2, ?_⟩
  rw [e2]
  intro σ2 H2 O2 R3 F3 v hv
  have ev : v = .bl true := hv
  subst ev
  exact q H2
theorem mkDef {h : Heap} {x : Str} {st : Stmt} {ps : List Str} {f : Addr} {oc : Value} {od an : Option Addr} {osl : Array (Option Value)} {kV doc pm cdv ct : Value} (X : K.In h) (G : h.Ns mainGlobals mg) (a : PySem.W.nsIn K mainGlobals x = some (some (.ref f)))
    (l : K.lookup f = some ⟨oc, od, .func (PySem.W.fnOf x x (defArgs st) (defBody st) (defScope st) .none kV doc pm an cdv ct), osl⟩)
    (c : PySem.W.codeIn K cdv x = true) (k : PySem.W.keepIn K (.ref f) = true)
    (b : ∀ (kV doc pm : Value) (an : Option Addr) (cdv ct : Value) (us : List Value), us.length = ps.length → bindArgs (PySem.W.fnOf x x (defArgs st) (defBody st) (defScope st) .none kV doc pm an cdv ct) ⟨us, []⟩ = pure (ps.zip us)) : ∃ f fd, DefAt K mg x st ps f fd :=
  ⟨f, _, fun_mk l c k, PySem.W.mg_of X G a, k, (fun_mk l c k).binds b⟩
theorem mkStr {h : Heap} {x y : Str} {s : List Nat} {t : Tok} (X : K.In h) (G : h.Ns mainGlobals mg) (a : PySem.W.nsIn K mainGlobals x = some (some (.str y t))) (e : y.cps.toList = s) : CstG mg x (.str s) := cst_str ⟨t, PySem.W.mg_of X G a⟩ e
theorem mkInt {h : Heap} {x : Str} {i : Int} {t : Tok} (X : K.In h) (G : h.Ns mainGlobals mg) (a : PySem.W.nsIn K mainGlobals x = some (some (.int i t))) : CstG mg x (.int i) := cst_int ⟨t, PySem.W.mg_of X G a⟩
def LawAt (K : PySem.W.Frag) (mg : Str → Option Value) (x p : Str) (st : Stmt) : Prop := ∃ f fd, (∀ (s : Shared) (v : Value), BindsTo s fd ⟨[v], []⟩ [(p, v)]) ∧ DefAt K mg x st [p] f fd
theorem mkLaw {h : Heap} {x p : Str} {st : Stmt} {f : Addr} {oc : Value} {od an : Option Addr} {osl : Array (Option Value)} {kV doc pm cdv ct : Value} (X : K.In h) (G : h.Ns mainGlobals mg) (a : PySem.W.nsIn K mainGlobals x = some (some (.ref f)))
    (l : K.lookup f = some ⟨oc, od, .func (PySem.W.fnOf x x (defArgs st) (defBody st) (defScope st) .none kV doc pm an cdv ct), osl⟩)
    (c : PySem.W.codeIn K cdv x = true) (k : PySem.W.keepIn K (.ref f) = true)
    (b : ∀ (kV doc pm : Value) (an : Option Addr) (cdv ct : Value) (v : Value), bindArgs (PySem.W.fnOf x x (defArgs st) (defBody st) (defScope st) .none kV doc pm an cdv ct) ⟨[v], []⟩ = pure [(p, v)]) : LawAt K mg x p st :=
  ⟨f, _, fun s v => .of_eq (b _ _ _ _ _ _ v), fun_mk l c k, PySem.W.mg_of X G a, k, (fun_mk l c k).binds fun kV doc pm an cdv ct us hl => match us, hl with | [v], _ => b kV doc pm an cdv ct v⟩
theorem law_end {x p : Str} {st : Stmt} {fa : Addr} {lv : Nat} {sp : Sp} (L : LawAt K mg x p st) (hfa : mg x = some (.ref fa)) (F : ∀ (base : Heap) f fd, DefAt K mg x st [p] f fd → FnOk P w K mg base (L2.CX P w) lv f fd [p] sp) :
    ∃ fd : FuncData, (∀ (s : Shared) (v : Value), BindsTo s fd ⟨[v], []⟩ [(p, v)]) ∧ ∀ base : Heap, K.In base → base.Ns mainGlobals mg → FnOk P w K mg base (L2.CX P w) lv fa fd [p] sp := by
  obtain ⟨f, fd, hb, D⟩ := L
  have e := D.m.symm.trans hfa
  cases e
  exact ⟨fd, hb, fun base _ _ => F base _ _ D⟩
theorem cx_none {H : Hp} {s : Shared} {e : Value} {s' : Shared} (h : L2.CX P w [] H s (fun _ _ _ => False) e s') : False := by
  obtain ⟨_, _, _, _, _, _, _, _, _, _, _, _, z⟩ := h
  exact z
end
abbrev DefX {K : PySem.W.Frag} {h : Heap} (X : K.In h) (mg : Str → Option Value) (x : Str) (st : Stmt) (ps : List Str) : Prop := ∃ f fd, DefAt K mg x st ps f fd
abbrev LawX {K : PySem.W.Frag} {h : Heap} (X : K.In h) (mg : Str → Option Value) (x p : Str) (st : Stmt) : Prop := LawAt K mg x p st
end PM
namespace PM
open PySem PySem.Spec L2

/-! ### reckoning with meanings: operations at known values -/
theorem eq_int (i j : Int) : eqD2 (.int i) (.int j) = some (false, .bl (decide (i = j))) := by
  have h : eqD (.int i) (.int j) = some (PyData.eqv (.int i) (.int j)) := rfl
  unfold eqD2
  rw [h]
  simp [PyData.eqv]
  rfl
theorem ne_int (i j : Int) : neD2 (.int i) (.int j) = some (false, .bl (!decide (i = j))) := by
  have h : eqD (.int i) (.int j) = some (PyData.eqv (.int i) (.int j)) := rfl
  unfold neD2
  rw [h]
  simp [PyData.eqv]
  rfl
theorem ne_bl (i j : Bool) : neD2 (.bl i) (.bl j) = some (false, .bl (!decide (i = j))) := by
  cases i <;> cases j <;> rfl
theorem eq_bl (i j : Bool) : eqD2 (.bl i) (.bl j) = some (false, .bl (decide (i = j))) := by
  cases i <;> cases j <;> rfl
def okT (s : List Nat) : Bool := s.all (· < 0x110000)
theorem okT_tx {s : List Nat} (h : okT s = true) : PyData.strOk (tx s) = true := by
  unfold PyData.strOk
  unfold okT at h
  simpa using h
theorem shaped_str {s : List Nat} (h : okT s = true) : SeqAt.shaped (.str (tx s)) = true := by
  unfold SeqAt.shaped
  have : PyData.canLay0 (.str (tx s)) = true := okT_tx h
  rw [this]
  rfl
theorem eqD_str {s t : List Nat} (hs : okT s = true) (ht : okT t = true) : eqD (.str s) (.str t) = some (decide (s = t)) := by
  have h : eqD (.str s) (.str t) = if SeqAt.shaped (.str (tx s)) = true ∧ SeqAt.shaped (.str (tx t)) = true then some (PyData.eqv (.str (tx s)) (.str (tx t))) else none := rfl
  rw [h, if_pos ⟨shaped_str hs, shaped_str ht⟩]
  congr 1
  by_cases e : s = t
  · subst e
    simp [PyData.eqv]
  · have : ¬ tx s = tx t := fun q => e (by
      have := congrArg (fun x : Str => x.cps.toList) q
      simpa using this)
    simp [PyData.eqv, e, this]
theorem eq_str {s t : List Nat} (hs : okT s = true) (ht : okT t = true) : eqD2 (.str s) (.str t) = some (false, .bl (decide (s = t))) := by
  unfold eqD2; rw [eqD_str hs ht]; rfl
theorem ne_str {s t : List Nat} (hs : okT s = true) (ht : okT t = true) : neD2 (.str s) (.str t) = some (false, .bl (!decide (s = t))) := by
  unfold neD2; rw [eqD_str hs ht]; rfl
mutual
/-- data that may be compared, in depth at most n -/
def okD (n : Nat) : D → Bool
  | .non => true
  | .bl _ => true
  | .int _ => true
  | .str s => okT s
  | .tup xs => match n with
    | 0 => false
    | m + 1 => okDs m xs
  | .lst xs => match n with
    | 0 => false
    | m + 1 => okDs m xs
  | _ => false
def okDs (n : Nat) : List D → Bool
  | [] => true
  | d :: ds => okD n d && okDs n ds
end
mutual
theorem okD_py (n : Nat) : ∀ d : D, okD n d = true → ∃ p, toPy d = some p ∧ p.canLay0 = true ∧ p.depth ≤ n
  | .non, _ => ⟨_, rfl, rfl, Nat.zero_le _⟩
  | .bl _, _ => ⟨_, rfl, rfl, Nat.zero_le _⟩
  | .int _, _ => ⟨_, rfl, rfl, Nat.zero_le _⟩
  | .str s, h => ⟨_, rfl, okT_tx (by simpa [okD] using h), Nat.zero_le _⟩
  | .tup xs, h => by
    match n, h with
    | 0, h => simp [okD] at h
    | m + 1, h =>
      obtain ⟨ps, e, h1, h2⟩ := okDs_py m xs (by simpa [okD] using h)
      refine ⟨.tuple ps, ?_, h1, ?_⟩
      · show (toPys xs).map PyData.tuple = _
        rw [e]; rfl
      · show PyData.depthAll ps + 1 ≤ m + 1
        omega
  | .lst xs, h => by
    match n, h with
    | 0, h => simp [okD] at h
    | m + 1, h =>
      obtain ⟨ps, e, h1, h2⟩ := okDs_py m xs (by simpa [okD] using h)
      refine ⟨.list ps, ?_, h1, ?_⟩
      · show (toPys xs).map PyData.list = _
        rw [e]; rfl
      · show PyData.depthAll ps + 1 ≤ m + 1
        omega
  | .flst _, h => by simp [okD] at h
  | .dct _, h => by simp [okD] at h
  | .fn _, h => by simp [okD] at h
  | .ob _, h => by simp [okD] at h
  | .ty _, h => by simp [okD] at h
theorem okDs_py (n : Nat) : ∀ ds : List D, okDs n ds = true → ∃ ps, toPys ds = some ps ∧ PyData.canLayAll0 ps = true ∧ PyData.depthAll ps ≤ n
  | [], _ => ⟨[], rfl, rfl, Nat.zero_le _⟩
  | d :: ds, h => by
    rw [okDs, Bool.and_eq_true] at h
    obtain ⟨p, e1, h1, h2⟩ := okD_py n d h.1
    obtain ⟨ps, e2, h3, h4⟩ := okDs_py n ds h.2
    refine ⟨p :: ps, ?_, ?_, ?_⟩
    · show (toPy d).bind (fun x => (toPys ds).map fun xs => x :: xs) = _
      rw [e1, e2]; rfl
    · show (p.canLay0 && PyData.canLayAll0 ps) = true
      rw [h1, h3]; rfl
    · show max p.depth (PyData.depthAll ps) ≤ n
      omega
end
theorem eqD_same {d : D} (h : okD 64 d = true) : eqD d d = some true := by
  obtain ⟨p, e, h1, h2⟩ := okD_py 64 d h
  unfold eqD
  rw [e]
  have hs : SeqAt.shaped p = true := by
    unfold SeqAt.shaped
    rw [h1, decide_eq_true h2]; rfl
  simp only [hs, and_self, if_true]
  rw [PySem.SeqAt.eqv_refl p h1]
theorem eq_same {d : D} (h : okD 64 d = true) : eqD2 d d = some (false, .bl true) := by
  unfold eqD2; rw [eqD_same h]; rfl
theorem ne_same {d : D} (h : okD 64 d = true) : neD2 d d = some (false, .bl false) := by
  unfold neD2; rw [eqD_same h]; rfl
theorem okDs_all {n : Nat} : ∀ {ds : List D}, (∀ d ∈ ds, okD n d = true) → okDs n ds = true
  | [], _ => rfl
  | d :: ds, h => by
    rw [okDs, h d List.mem_cons_self, okDs_all fun e he => h e (List.mem_cons_of_mem _ he)]; rfl
theorem okDs_map {β : Type} {n : Nat} {f : β → D} {l : List β} (h : ∀ x ∈ l, okD n (f x) = true) : okDs n (l.map f) = true :=
  okDs_all fun d hd => by
    obtain ⟨x, hx, rfl⟩ := List.mem_map.mp hd
    exact h x hx
theorem mul_small {i j : Int} (h : i.natAbs < 2 ^ 64) : mulD (.int i) (.int j) = some (false, .int (i * j)) := by
  have : mulB i j = true := by unfold mulB; simp [h]
  have e : mulD (.int i) (.int j) = guard' (mulB i j) (some (false, .int (i * j))) := rfl
  rw [e, this]; rfl
theorem mul_smallR {i j : Int} (h : j.natAbs < 2 ^ 64) : mulD (.int i) (.int j) = some (false, .int (i * j)) := by
  have : mulB i j = true := by unfold mulB; simp [h]
  have e : mulD (.int i) (.int j) = guard' (mulB i j) (some (false, .int (i * j))) := rfl
  rw [e, this]; rfl
theorem mod_pos {i j : Int} (h : 0 < j) : modD (.int i) (.int j) = some (false, .int (i % j)) := by
  unfold modD guard'
  simp [h]
theorem fdiv_pos {i j : Int} (h : 0 < j) (h2 : j.natAbs < 2 ^ 64) : fdivD (.int i) (.int j) = some (false, .int (i / j)) := by
  have h3 : j.natAbs.log2 < 9000 := by
    have : j.natAbs.log2 < 64 := (Nat.log2_lt (by omega)).mpr h2
    omega
  have : fdivB j = true := by unfold fdivB; simp [h, h3]
  have e : fdivD (.int i) (.int j) = guard' (fdivB j) (some (false, .int (i / j))) := rfl
  rw [e, this]; rfl
theorem at0 {β : Type} (a : β) (l : List β) : atI (a :: l) 0 = some a := by
  exact atI_nat (xs := a :: l) (j := 0) rfl
theorem at1 {β : Type} (a b : β) (l : List β) : atI (a :: b :: l) 1 = some b := atI_nat (xs := a :: b :: l) (j := 1) rfl
theorem at2 {β : Type} (a b c : β) (l : List β) : atI (a :: b :: c :: l) 2 = some c := atI_nat (xs := a :: b :: c :: l) (j := 2) rfl
theorem at3 {β : Type} (a b c d : β) (l : List β) : atI (a :: b :: c :: d :: l) 3 = some d := atI_nat (xs := a :: b :: c :: d :: l) (j := 3) rfl
theorem atN {β : Type} {l : List β} {j : Nat} (h : j < l.length) : atI l (j : Int) = some l[j] := atI_nat (List.getElem?_eq_getElem h)
theorem atK {β : Type} {l : List β} {i : Int} {v : β} (h0 : 0 ≤ i) (h : l[i.toNat]? = some v) : atI l i = some v := by
  have := atI_nat (xs := l) (j := i.toNat) h
  rwa [Int.toNat_of_nonneg h0] at this
theorem lt_int (i j : Int) : ltD2 (.int i) (.int j) = some (false, .bl (decide (i < j))) := rfl
theorem le_int (i j : Int) : leD2 (.int i) (.int j) = some (false, .bl (decide (i ≤ j))) := rfl
theorem gt_int (i j : Int) : gtD2 (.int i) (.int j) = some (false, .bl (decide (j < i))) := rfl
theorem ge_int (i j : Int) : geD2 (.int i) (.int j) = some (false, .bl (decide (j ≤ i))) := rfl
theorem szB_of {n : Nat} (h : n ≤ 16777216) : szB n = true := decide_eq_true h
theorem len_lst (xs : List D) : lenD [.lst xs] = some (false, .int xs.length) := rfl
theorem len_tup (xs : List D) : lenD [.tup xs] = some (false, .int xs.length) := rfl
theorem len_dct (xs : List (D × D)) : lenD [.dct xs] = some (false, .int xs.length) := rfl
theorem len_str {s : List Nat} (h : s.length ≤ 16777216) : lenD [.str s] = some (false, .int s.length) := by
  unfold lenD lenD1
  simp only [szB_of h, if_true]; rfl
theorem add_str {s t : List Nat} (h : s.length + t.length ≤ 16777216) : addD (.str s) (.str t) = some (false, .str (s ++ t)) := by
  unfold addD guard'
  simp only [szB_of h, if_true]
theorem ix_str {s : List Nat} {i : Int} {c : Nat} (h0 : s.length ≤ 16777216) (h : atI s i = some c) : ixD (.str s) (.int i) = some (false, .str [c]) := by
  unfold ixD guard'
  simp only [szB_of h0, if_true, h]; rfl
theorem ix_tup {xs : List D} {i : Int} {d : D} (h : atI xs i = some d) : ixD (.tup xs) (.int i) = some (false, d) := by
  unfold ixD
  simp only [h]; rfl
theorem ix_lst {xs : List D} {i : Int} {d : D} (h : atI xs i = some d) : ixD (.lst xs) (.int i) = some (false, d) := by
  unfold ixD
  simp only [h]; rfl
theorem atI_map {β γ : Type} (f : β → γ) (l : List β) (i : Int) : atI (l.map f) i = (atI l i).map f := by
  unfold atI
  rw [List.length_map]
  cases ixN l.length i with
  | none => rfl
  | some j => simp
theorem add_int (i j : Int) : addD (.int i) (.int j) = some (false, .int (i + j)) := rfl
theorem sub_int (i j : Int) : subD (.int i) (.int j) = some (false, .int (i - j)) := rfl
theorem ix_tupE (xs : List D) (i : Int) : ixD (.tup xs) (.int i) = (atI xs i).map fun d => (false, d) := rfl
theorem ix_lstE (xs : List D) (i : Int) : ixD (.lst xs) (.int i) = (atI xs i).map fun d => (false, d) := rfl
/-! ### slices at places from 0 on -/
theorem cut_to {β : Type} (l : List β) (k : Nat) : cutL l none (some (k : Int)) = l.take k := by
  unfold cutL
  rw [HT.sIx_none, HT.sIx_nat, List.drop_zero, Nat.sub_zero]
  rcases Nat.le_total k l.length with h | h
  · rw [Nat.min_eq_left h]
  · rw [Nat.min_eq_right h, List.take_of_length_le h, List.take_length]
theorem cut_from {β : Type} (l : List β) (k : Nat) : cutL l (some (k : Int)) none = l.drop k := by
  unfold cutL
  rw [HT.sIx_none, HT.sIx_nat]
  rcases Nat.le_total k l.length with h | h
  · rw [Nat.min_eq_left h, List.take_of_length_le (by rw [List.length_drop]; exact Nat.le_refl _)]
  · rw [Nat.min_eq_right h, Nat.sub_self, List.take_zero, List.drop_of_length_le h]
theorem sl_strTo {s : List Nat} {k : Nat} (h : s.length ≤ 16777216) : slD (.str s) none (some (k : Int)) = some (false, .str (s.take k)) := by
  unfold slD guard'
  simp only [szB_of h, if_true, cut_to]
theorem sl_strFrom {s : List Nat} {k : Nat} (h : s.length ≤ 16777216) : slD (.str s) (some (k : Int)) none = some (false, .str (s.drop k)) := by
  unfold slD guard'
  simp only [szB_of h, if_true, cut_from]

theorem denFn_run {ar N : Nat} {b : SmS} {ds S : List D} {o : FOut} (h : ds.length = ar) (h2 : outF (b (startP N ds S)) = o) : denFn ar N b ds S = o := by
  unfold denFn
  rw [if_pos h]
  exact h2
theorem bnd_of {n : Int} (h0 : 0 ≤ n) (h : n ≤ 100000000) : bnd n = true := by
  have e : (2 : Int) ^ 62 = 4611686018427387904 := by decide
  exact @decide_eq_true _ (Classical.propDecidable _) (by rw [e]; omega)
theorem bnd_of2 {n : Int} (h0 : -100 ≤ n) (h : n ≤ 100000000) : bnd n = true := by
  have e : (2 : Int) ^ 62 = 4611686018427387904 := by decide
  exact @decide_eq_true _ (Classical.propDecidable _) (by rw [e]; omega)
/-! ### loops -/
theorem sSeq_nx {a b : SmS} {p p1 : PSt} (h : a p = .ok p1 .nx) : sSeq a b p = b p1 := by
  unfold sSeq
  rw [h]; rfl
theorem sSeq_rt {a b : SmS} {p p1 : PSt} {k : Kd} {d : D} (h : a p = .ok p1 (.rt k d)) : sSeq a b p = .ok p1 (.rt k d) := by
  unfold sSeq
  rw [h]; rfl
theorem sFor_run {it : SmI} {tg : Tg} {body : SmS} {p p1 : PSt} {items : List D} {o : Out Fl} (h : it p = .ok p1 items) (h2 : forLoop tg body items p1 = o) : sFor it tg body p = o := by
  unfold sFor
  rw [h]
  exact h2
theorem sSeq_for {it : SmI} {tg : Tg} {body g : SmS} {p p1 p2 : PSt} {items : List D} (h : it p = .ok p1 items) (h2 : forLoop tg body items p1 = .ok p2 .nx) : sSeq (sFor it tg body) g p = g p2 := sSeq_nx (sFor_run h h2)
theorem sSeq_forR {it : SmI} {tg : Tg} {body g : SmS} {p p1 p2 : PSt} {items : List D} {k : Kd} {d : D} (h : it p = .ok p1 items) (h2 : forLoop tg body items p1 = .ok p2 (.rt k d)) : sSeq (sFor it tg body) g p = .ok p2 (.rt k d) := sSeq_rt (sFor_run h h2)
theorem forLoop_nx {tg : Tg} {body : SmS} (I : List D → PSt → Prop) (hs : ∀ d ds p, I (d :: ds) p → ∃ p1 p2, tg d p = some p1 ∧ (body p1 = .ok p2 .nx ∨ body p1 = .ok p2 .ct) ∧ I ds p2) : ∀ (items : List D) (p : PSt), I items p → ∃ p', forLoop tg body items p = .ok p' .nx ∧ I [] p'
  | [], p, h => ⟨p, rfl, h⟩
  | d :: ds, p, h => by
    obtain ⟨p1, p2, e1, e2, h2⟩ := hs d ds p h
    obtain ⟨p', e3, h3⟩ := forLoop_nx I hs ds p2 h2
    refine ⟨p', ?_, h3⟩
    unfold forLoop
    rw [e1]
    rcases e2 with e2 | e2
    · simp only [e2, Out.bind]; exact e3
    · simp only [e2, Out.bind]; exact e3
theorem forLoop_cons {tg : Tg} {body : SmS} {d : D} {ds : List D} {p p1 p2 : PSt} (e1 : tg d p = some p1) (e2 : body p1 = .ok p2 .nx) : forLoop tg body (d :: ds) p = forLoop tg body ds p2 := by
  conv => lhs; unfold forLoop
  rw [e1]
  simp only [e2, Out.bind]
theorem forLoop_rt {tg : Tg} {body : SmS} {d : D} {ds : List D} {p p1 p2 : PSt} {k : Kd} {v : D} (e1 : tg d p = some p1) (e2 : body p1 = .ok p2 (.rt k v)) : forLoop tg body (d :: ds) p = .ok p2 (.rt k v) := by
  unfold forLoop
  rw [e1]
  simp only [e2, Out.bind]
/-- a comprehension whose block leaves the state as it was -/
theorem lc_pure {vs : List Nat} {tg : Tg} {tt : SmT} {elt : Sm} {q : PSt} (F : D → Option D) : ∀ (items : List D) (acc : List D),
    (∀ d ∈ items, ∃ p1 p2 b, tg d q = some p1 ∧ tt p1 = .ok p2 b ∧ ((b = false ∧ F d = none ∧ p2.wipe vs = q) ∨ (b = true ∧ ∃ p3 k y, elt p2 = .ok p3 (k, y) ∧ F d = some y ∧ (p3.frzK k).wipe vs = q))) →
    acc.length + items.length ≤ 16777216 → lcLoop vs tg tt elt items q acc = .ok q (acc ++ items.filterMap F)
  | [], acc, _, _ => by simp [lcLoop]
  | d :: ds, acc, h, hz => by
    obtain ⟨p1, p2, b, e1, e2, e3⟩ := h d List.mem_cons_self
    rw [List.length_cons] at hz
    have ih := fun acc' hz' => lc_pure F ds acc' (fun e he => h e (List.mem_cons_of_mem _ he)) hz'
    rcases e3 with ⟨rfl, f, w⟩ | ⟨rfl, p3, k, y, e4, f, w⟩
    · unfold lcLoop
      rw [e1]
      simp only [e2]
      rw [w, ih acc (by omega), List.filterMap_cons_none f]
    · unfold lcLoop
      rw [e1]
      simp only [e2, e4]
      rw [if_pos (szB_of (by omega)), w, ih (acc ++ [y]) (by rw [List.length_append, List.length_singleton]; omega), List.filterMap_cons_some f, List.append_assoc]
      rfl
theorem eLc_pure {it : SmI} {vs : List Nat} {tg : Tg} {tt : SmT} {elt : Sm} {p p1 : PSt} {items : List D} (F : D → Option D) (hit : it p = .ok p1 items)
    (h : ∀ d ∈ items, ∃ p1' p2 b, tg d (p1.wipe vs) = some p1' ∧ tt p1' = .ok p2 b ∧ ((b = false ∧ F d = none ∧ p2.wipe vs = p1.wipe vs) ∨ (b = true ∧ ∃ p3 k y, elt p2 = .ok p3 (k, y) ∧ F d = some y ∧ (p3.frzK k).wipe vs = p1.wipe vs)))
    (hz : items.length ≤ 16777216) : eLc it vs tg tt elt p = .ok ((p1.wipe vs).back p1 vs) (.fr, .lst (items.filterMap F)) := by
  unfold eLc
  rw [hit]
  show (match lcLoop vs tg tt elt items (p1.wipe vs) [] with
    | .ok p2 ds => Out.ok (p2.back p1 vs) (Kd.fr, D.lst ds)
    | _ => .no) = _
  rw [lc_pure F items [] h (by simpa using hz)]
  rfl
theorem lc_pureM {β : Type} {vs : List Nat} {tg : Tg} {tt : SmT} {elt : Sm} {q : PSt} (g : β → D) (F : β → Option D) : ∀ (items : List β) (acc : List D),
    (∀ d ∈ items, ∃ p1 p2 b, tg (g d) q = some p1 ∧ tt p1 = .ok p2 b ∧ ((b = false ∧ F d = none ∧ p2.wipe vs = q) ∨ (b = true ∧ ∃ p3 k y, elt p2 = .ok p3 (k, y) ∧ F d = some y ∧ (p3.frzK k).wipe vs = q))) →
    acc.length + items.length ≤ 16777216 → lcLoop vs tg tt elt (items.map g) q acc = .ok q (acc ++ items.filterMap F)
  | [], acc, _, _ => by simp [lcLoop]
  | d :: ds, acc, h, hz => by
    obtain ⟨p1, p2, b, e1, e2, e3⟩ := h d List.mem_cons_self
    rw [List.length_cons] at hz
    have ih := fun acc' hz' => lc_pureM g F ds acc' (fun e he => h e (List.mem_cons_of_mem _ he)) hz'
    rw [List.map_cons]
    rcases e3 with ⟨rfl, f, w⟩ | ⟨rfl, p3, k, y, e4, f, w⟩
    · unfold lcLoop
      rw [e1]
      simp only [e2]
      rw [w, ih acc (by omega), List.filterMap_cons_none f]
    · unfold lcLoop
      rw [e1]
      simp only [e2, e4]
      rw [if_pos (szB_of (by omega)), w, ih (acc ++ [y]) (by rw [List.length_append, List.length_singleton]; omega), List.filterMap_cons_some f, List.append_assoc]
      rfl
theorem eLc_pureM {β : Type} {it : SmI} {vs : List Nat} {tg : Tg} {tt : SmT} {elt : Sm} {p p1 : PSt} (items : List β) (g : β → D) (F : β → Option D) (hit : it p = .ok p1 (items.map g))
    (h : ∀ d ∈ items, ∃ p1' p2 b, tg (g d) (p1.wipe vs) = some p1' ∧ tt p1' = .ok p2 b ∧ ((b = false ∧ F d = none ∧ p2.wipe vs = p1.wipe vs) ∨ (b = true ∧ ∃ p3 k y, elt p2 = .ok p3 (k, y) ∧ F d = some y ∧ (p3.frzK k).wipe vs = p1.wipe vs)))
    (hz : items.length ≤ 16777216) : eLc it vs tg tt elt p = .ok ((p1.wipe vs).back p1 vs) (.fr, .lst (items.filterMap F)) := by
  unfold eLc
  rw [hit]
  show (match lcLoop vs tg tt elt (items.map g) (p1.wipe vs) [] with
    | .ok p2 ds => Out.ok (p2.back p1 vs) (Kd.fr, D.lst ds)
    | _ => .no) = _
  rw [lc_pureM g F items [] h (by simpa using hz)]
  rfl
theorem fmap_if {β γ : Type} (f : β → γ) (t : β → Bool) : ∀ l : List β, l.filterMap (fun x => if t x = true then some (f x) else none) = (l.filter t).map f
  | [] => rfl
  | x :: r => by
    rw [List.filterMap_cons, List.filter_cons, fmap_if f t r]
    by_cases c : t x = true
    · simp [c]
    · simp [c]
/-- no test: each item's value -/
theorem eLc_map {β : Type} {it : SmI} {vs : List Nat} {tg : Tg} {elt : Sm} {p p1 : PSt} (items : List β) (g f : β → D) (hit : it p = .ok p1 (items.map g))
    (h : ∀ d ∈ items, ∃ p2 p3 k, tg (g d) (p1.wipe vs) = some p2 ∧ elt p2 = .ok p3 (k, f d) ∧ (p3.frzK k).wipe vs = p1.wipe vs)
    (hz : items.length ≤ 16777216) : eLc it vs tg tYs elt p = .ok ((p1.wipe vs).back p1 vs) (.fr, .lst (items.map f)) := by
  rw [eLc_pureM items g (fun x => some (f x)) hit (fun d hd => ?_) hz]
  · congr 3
    rw [← List.filterMap_eq_map]; rfl
  · obtain ⟨p2, p3, k, e1, e2, e3⟩ := h d hd
    exact ⟨p2, p2, true, e1, rfl, .inr ⟨rfl, p3, k, _, e2, rfl, e3⟩⟩
/-- with a test -/
theorem eLc_filter {β : Type} {it : SmI} {vs : List Nat} {tg : Tg} {tt : SmT} {elt : Sm} {p p1 : PSt} (items : List β) (g f : β → D) (t : β → Bool) (hit : it p = .ok p1 (items.map g))
    (h : ∀ d ∈ items, ∃ p2 p3, tg (g d) (p1.wipe vs) = some p2 ∧ tt p2 = .ok p3 (t d) ∧ (t d = false → p3.wipe vs = p1.wipe vs) ∧ (t d = true → ∃ p4 k, elt p3 = .ok p4 (k, f d) ∧ (p4.frzK k).wipe vs = p1.wipe vs))
    (hz : items.length ≤ 16777216) : eLc it vs tg tt elt p = .ok ((p1.wipe vs).back p1 vs) (.fr, .lst ((items.filter t).map f)) := by
  rw [eLc_pureM items g (fun x => if t x = true then some (f x) else none) hit (fun d hd => ?_) hz]
  · rw [fmap_if]
  · obtain ⟨p2, p3, e1, e2, e3, e4⟩ := h d hd
    refine ⟨p2, p3, t d, e1, e2, ?_⟩
    cases c : t d with
    | false => exact .inl ⟨rfl, by simp [c], e3 c⟩
    | true =>
      obtain ⟨p4, k, e5, e6⟩ := e4 c
      exact .inr ⟨rfl, p4, k, _, e5, by simp [c], e6⟩
end PM
namespace PM
open PySem PySem.Spec L2
noncomputable def bStart : SmS := (sSeq (sSet 1 (eCst (.int 7))) (sSeq (sFor (iVal (eVar 0)) (gN 2) (sSet 1 (eOp2 addD (eOp2 modD (eOpN intD (bCons (eOp2 addD (eOp2 mulD (eVar 1) (eCst (.int 48271))) (eVar 2)) bNil)) (eCst (.int 2147483629))) (eCst (.int 1))))) (sRet (eLst (aCons (eOpN lstD (bCons (eVar 0) bNil)) (aCons (eCst (.int 0)) (aCons (eCst (.int 0)) (aCons (eVar 1) aNil))))))))
noncomputable def gStart : Fn := denFn 1 3 bStart
noncomputable def bDraw : SmS := (sSeq (sIf (tAnd2 (tOfV (eOp2 eqD2 (eOp2 ixD (eVar 0) (eCst (.int 1))) (eCst (.int 0)))) (tOfV (eOp2 geD2 (eOp2 ixD (eVar 0) (eCst (.int 2))) (eOpN lenD (bCons (eOp2 ixD (eVar 0) (eCst (.int 0))) bNil))))) (sSeq (sStIx 0 (eCst (.int 3)) (eOp2 modD (eOpN intD (bCons (eOp2 addD (eOp2 mulD (eOp2 ixD (eVar 0) (eCst (.int 3))) (eCst (.int 48271))) (eCst (.int 69621))) bNil)) (eCst (.int 2147483629)))) (sRet (eOp2 modD (eOpN intD (bCons (eOp2 fdivD (eOp2 ixD (eVar 0) (eCst (.int 3))) (eCst (.int 13))) bNil)) (eVar 1)))) sNil) (sSeq (sIf (tOfV (eOp2 eqD2 (eOp2 ixD (eVar 0) (eCst (.int 1))) (eCst (.int 0)))) (sSeq (sStIx 0 (eCst (.int 1)) (eOpN absD (bCons (eOp2 ixD (eOp2 ixD (eVar 0) (eCst (.int 0))) (eOp2 ixD (eVar 0) (eCst (.int 2)))) bNil))) (sStIx 0 (eCst (.int 2)) (eOp2 addD (eOp2 ixD (eVar 0) (eCst (.int 2))) (eCst (.int 1))))) sNil) (sSeq (sSet 2 (eOp2 modD (eOpN intD (bCons (eOp2 ixD (eVar 0) (eCst (.int 1))) bNil)) (eVar 1))) (sSeq (sStIx 0 (eCst (.int 1)) (eOp2 fdivD (eOp2 ixD (eVar 0) (eCst (.int 1))) (eVar 1))) (sRet (eVar 2))))))
noncomputable def gDraw : Fn := denFn 2 3 bDraw

def cellD (ns : List Int) (a i s : Int) : D := .lst [.lst (ns.map D.int), .int a, .int i, .int s]
structure VS (S : List D) : Prop where
  ex : ∃ (ns : List Int) (a : Int) (i : Nat) (s : Int), S = [cellD ns a i s] ∧ 0 ≤ a ∧ i ≤ ns.length ∧ 0 ≤ s ∧ s < 2147483630
theorem ix43 : ixN 4 3 = some 3 := rfl
theorem ix41 : ixN 4 1 = some 1 := rfl
theorem ix42 : ixN 4 2 = some 2 := rfl
theorem draw1 (ns : List Int) (i : Nat) (s many : Int) (hi : ns.length ≤ i) (h0 : 0 < many) (hs : 0 ≤ s ∧ s < 2147483630) :
    gDraw [.ob 0, .int many] [cellD ns 0 i s] = .ok [cellD ns 0 i ((s * 48271 + 69621) % 2147483629)] false (.int ((s * 48271 + 69621) % 2147483629 / 13 % many)) := by
  have h1 : mulD (.int s) (.int 48271) = some (false, .int (s * 48271)) := mul_small (by omega)
  have h2 : (↑(ns.length) : Int) ≤ (i : Int) := by omega
  have h3 : ∀ x, modD (.int x) (.int many) = some (false, .int (x % many)) := fun x => mod_pos h0
  have h4 : ∀ x, modD (.int x) (.int 2147483629) = some (false, .int (x % 2147483629)) := fun x => mod_pos (by decide)
  have h5 : ∀ x, fdivD (.int x) (.int 13) = some (false, .int (x / 13)) := fun x => fdiv_pos (by decide) (by decide)
  unfold gDraw bDraw
  simp only [denFn, startP, outF, frOf, sSeq, sIf, sSet, sRet, sRetN, sExpr, sNil, sBrk, sCnt, sAug, sPar, sTgt, sApp, sExt, sStIx, sFor, eVar, eCst, eOp2, eOp1, eOpN, eChain, eAnd2, eOr2, eNot1, eIfE, tOfV, tTru, tAnd2, tOr2, tNot1, tYs, aNil, aCons, bNil, bCons, eTup, eLst, eDct0, eSl, eMthS, eCall, gN, gT, gSeq, iVal, iRange1, iRange2, iEnumr, itemsD, opOut, kdOf, deref, derefs, PSt.put, PSt.frzK, PSt.frz, Out.bind, Option.bind, Option.map, add_int, sub_int, addI, ix_tupE, ix_lstE, isTx, isntD2, isD2, isNone, guard', stIx, held, isKey, List.map_cons, List.map_nil, List.length_cons, List.length_nil, List.replicate_succ, List.replicate_zero, List.cons_append, List.nil_append, List.append_nil, List.getElem?_cons_zero, List.getElem?_cons_succ, List.set_cons_zero, List.set_cons_succ, Nat.reduceAdd, Nat.reduceSub, Nat.reduceEqDiff, if_true, if_false, ite_true, ite_false, reduceIte, at0, at1, at2, at3, eq_int, ne_int, ge_int, le_int, lt_int, gt_int, len_lst, len_tup, len_dct, intD, absD, List.length_map, Bool.not_true, Bool.not_false, Bool.false_eq_true, cellD, h1, h2, h3, h4, h5, decide_true, ix43]
theorem draw2 (ns : List Int) (i : Nat) (s many : Int) (hi : i < ns.length) (h0 : 0 < many) (hm : many.natAbs < 2 ^ 64) :
    gDraw [.ob 0, .int many] [cellD ns 0 i s] = .ok [cellD ns ((if ns[i] < 0 then -ns[i] else ns[i]) / many) ((i + 1 : Nat) : Int) s] false (.int ((if ns[i] < 0 then -ns[i] else ns[i]) % many)) := by
  have h2 : ¬ (↑(ns.length) : Int) ≤ (i : Int) := by omega
  have h3 : ∀ x, modD (.int x) (.int many) = some (false, .int (x % many)) := fun x => mod_pos h0
  have h5 : ∀ x, fdivD (.int x) (.int many) = some (false, .int (x / many)) := fun x => fdiv_pos h0 hm
  have h6 : atI (ns.map D.int) (i : Int) = some (.int ns[i]) := by rw [atI_map, atN hi]; rfl
  have h7 : ((i + 1 : Nat) : Int) = (i : Int) + 1 := by omega
  unfold gDraw bDraw
  simp only [denFn, startP, outF, frOf, sSeq, sIf, sSet, sRet, sRetN, sExpr, sNil, sBrk, sCnt, sAug, sPar, sTgt, sApp, sExt, sStIx, sFor, eVar, eCst, eOp2, eOp1, eOpN, eChain, eAnd2, eOr2, eNot1, eIfE, tOfV, tTru, tAnd2, tOr2, tNot1, tYs, aNil, aCons, bNil, bCons, eTup, eLst, eDct0, eSl, eMthS, eCall, gN, gT, gSeq, iVal, iRange1, iRange2, iEnumr, itemsD, opOut, kdOf, deref, derefs, PSt.put, PSt.frzK, PSt.frz, Out.bind, Option.bind, Option.map, add_int, sub_int, addI, ix_tupE, ix_lstE, isTx, isntD2, isD2, isNone, guard', stIx, held, isKey, List.map_cons, List.map_nil, List.length_cons, List.length_nil, List.replicate_succ, List.replicate_zero, List.cons_append, List.nil_append, List.append_nil, List.getElem?_cons_zero, List.getElem?_cons_succ, List.set_cons_zero, List.set_cons_succ, Nat.reduceAdd, Nat.reduceSub, Nat.reduceEqDiff, if_true, if_false, ite_true, ite_false, reduceIte, at0, at1, at2, at3, eq_int, ne_int, ge_int, le_int, lt_int, gt_int, len_lst, len_tup, len_dct, intD, absD, List.length_map, Bool.not_true, Bool.not_false, Bool.false_eq_true, cellD, h2, h3, h5, h6, h7, decide_true, decide_false, ix43, ix41, ix42]
theorem draw3 (ns : List Int) (a i s many : Int) (ha : a ≠ 0) (h0 : 0 < many) (hm : many.natAbs < 2 ^ 64) :
    gDraw [.ob 0, .int many] [cellD ns a i s] = .ok [cellD ns (a / many) i s] false (.int (a % many)) := by
  have h3 : ∀ x, modD (.int x) (.int many) = some (false, .int (x % many)) := fun x => mod_pos h0
  have h5 : ∀ x, fdivD (.int x) (.int many) = some (false, .int (x / many)) := fun x => fdiv_pos h0 hm
  unfold gDraw bDraw
  simp only [denFn, startP, outF, frOf, sSeq, sIf, sSet, sRet, sRetN, sExpr, sNil, sBrk, sCnt, sAug, sPar, sTgt, sApp, sExt, sStIx, sFor, eVar, eCst, eOp2, eOp1, eOpN, eChain, eAnd2, eOr2, eNot1, eIfE, tOfV, tTru, tAnd2, tOr2, tNot1, tYs, aNil, aCons, bNil, bCons, eTup, eLst, eDct0, eSl, eMthS, eCall, gN, gT, gSeq, iVal, iRange1, iRange2, iEnumr, itemsD, opOut, kdOf, deref, derefs, PSt.put, PSt.frzK, PSt.frz, Out.bind, Option.bind, Option.map, add_int, sub_int, addI, ix_tupE, ix_lstE, isTx, isntD2, isD2, isNone, guard', stIx, held, isKey, List.map_cons, List.map_nil, List.length_cons, List.length_nil, List.replicate_succ, List.replicate_zero, List.cons_append, List.nil_append, List.append_nil, List.getElem?_cons_zero, List.getElem?_cons_succ, List.set_cons_zero, List.set_cons_succ, Nat.reduceAdd, Nat.reduceSub, Nat.reduceEqDiff, if_true, if_false, ite_true, ite_false, reduceIte, at0, at1, at2, at3, eq_int, ne_int, ge_int, le_int, lt_int, gt_int, len_lst, len_tup, len_dct, intD, absD, List.length_map, Bool.not_true, Bool.not_false, Bool.false_eq_true, cellD, ha, h3, h5, decide_true, decide_false, ix43, ix41, ix42]
/-- a draw is a number below many, and the cell stays a cell -/
theorem draw {S : List D} (h : VS S) {many : Int} (h0 : 0 < many) (hm : many < 2 ^ 60) : ∃ (v : Int) (S' : List D), gDraw [.ob 0, .int many] S = .ok S' false (.int v) ∧ VS S' ∧ 0 ≤ v ∧ v < many := by
  obtain ⟨ns, a, i, s, rfl, ha, hi, hs1, hs2⟩ := h.ex
  have hm2 : many.natAbs < 2 ^ 64 := by omega
  by_cases e : a = 0
  · subst e
    by_cases hl : ns.length ≤ i
    · refine ⟨_, _, draw1 ns i s many hl h0 ⟨hs1, hs2⟩, ⟨⟨ns, 0, i, _, rfl, by omega, hi, ?_, ?_⟩⟩, Int.emod_nonneg _ (by omega), Int.emod_lt_of_pos _ h0⟩
      · exact Int.emod_nonneg _ (by decide)
      · exact Int.lt_of_lt_of_le (Int.emod_lt_of_pos _ (by decide)) (by decide)
    · have hl : i < ns.length := by omega
      refine ⟨_, _, draw2 ns i s many hl h0 hm2, ⟨⟨ns, _, i + 1, _, rfl, ?_, by omega, hs1, hs2⟩⟩, Int.emod_nonneg _ (by omega), Int.emod_lt_of_pos _ h0⟩
      exact Int.ediv_nonneg (by split <;> omega) (by omega)
  · refine ⟨_, _, draw3 ns a i s many e h0 hm2, ⟨⟨ns, _, i, _, rfl, ?_, hi, hs1, hs2⟩⟩, Int.emod_nonneg _ (by omega), Int.emod_lt_of_pos _ h0⟩
    exact Int.ediv_nonneg ha (by omega)
/-! ### the start -/
def seedL : List Int → Int → Int
  | [], s => s
  | c :: r, s => seedL r ((s * 48271 + c) % 2147483629 + 1)
theorem seedL_ok : ∀ (l : List Int) (s : Int), 0 ≤ s ∧ s < 2147483630 → 0 ≤ seedL l s ∧ seedL l s < 2147483630
  | [], s, h => h
  | c :: r, s, h => by
    refine seedL_ok r _ ⟨?_, ?_⟩
    · have := Int.emod_nonneg (s * 48271 + c) (b := 2147483629) (by decide)
      omega
    · have := Int.emod_lt_of_pos (s * 48271 + c) (b := 2147483629) (by decide)
      omega
theorem start_loop (d0 : D) : ∀ (l : List Int) (s : Int) (x : Sl), 0 ≤ s ∧ s < 2147483630 → ∃ y, forLoop (gN 2) (sSet 1 (eOp2 addD (eOp2 modD (eOpN intD (bCons (eOp2 addD (eOp2 mulD (eVar 1) (eCst (.int 48271))) (eVar 2)) bNil)) (eCst (.int 2147483629))) (eCst (.int 1)))) (l.map D.int) ⟨[.fz d0, .fz (.int s), x], []⟩
      = .ok ⟨[.fz d0, .fz (.int (seedL l s)), y], []⟩ .nx
  | [], s, x, h => ⟨x, rfl⟩
  | c :: r, s, x, h => by
    have h1 : mulD (.int s) (.int 48271) = some (false, .int (s * 48271)) := mul_small (by omega)
    have h4 : ∀ x, modD (.int x) (.int 2147483629) = some (false, .int (x % 2147483629)) := fun x => mod_pos (by decide)
    have h2 : 0 ≤ (s * 48271 + c) % 2147483629 + 1 ∧ (s * 48271 + c) % 2147483629 + 1 < 2147483630 := by
      have := Int.emod_nonneg (s * 48271 + c) (b := 2147483629) (by decide)
      have := Int.emod_lt_of_pos (s * 48271 + c) (b := 2147483629) (by decide)
      omega
    obtain ⟨y, e⟩ := start_loop d0 r _ (.fz (.int c)) h2
    refine ⟨y, ?_⟩
    rw [List.map_cons]
    refine (forLoop_cons (p1 := ⟨[.fz d0, .fz (.int s), .fz (.int c)], []⟩) (p2 := ⟨[.fz d0, .fz (.int ((s * 48271 + c) % 2147483629 + 1)), .fz (.int c)], []⟩) rfl ?_).trans e
    simp only [denFn, startP, outF, frOf, sSeq, sIf, sSet, sRet, sRetN, sExpr, sNil, sBrk, sCnt, sAug, sPar, sTgt, sApp, sExt, sStIx, sFor, eVar, eCst, eOp2, eOp1, eOpN, eChain, eAnd2, eOr2, eNot1, eIfE, tOfV, tTru, tAnd2, tOr2, tNot1, tYs, aNil, aCons, bNil, bCons, eTup, eLst, eDct0, eSl, eMthS, eCall, gN, gT, gSeq, iVal, iRange1, iRange2, iEnumr, itemsD, opOut, kdOf, deref, derefs, PSt.put, PSt.frzK, PSt.frz, Out.bind, Option.bind, Option.map, add_int, sub_int, addI, ix_tupE, ix_lstE, isTx, isntD2, isD2, isNone, guard', stIx, held, isKey, List.map_cons, List.map_nil, List.length_cons, List.length_nil, List.replicate_succ, List.replicate_zero, List.cons_append, List.nil_append, List.append_nil, List.getElem?_cons_zero, List.getElem?_cons_succ, List.set_cons_zero, List.set_cons_succ, Nat.reduceAdd, Nat.reduceSub, Nat.reduceEqDiff, if_true, if_false, ite_true, ite_false, reduceIte, at0, at1, at2, at3, eq_int, ne_int, ge_int, le_int, lt_int, gt_int, len_lst, len_tup, len_dct, intD, absD, List.length_map, Bool.not_true, Bool.not_false, Bool.false_eq_true, h1, h4]
theorem start (ns : List Int) : gStart [.flst (ns.map D.int)] [] = .ok [] true (cellD ns 0 0 (seedL ns 7)) := by
  obtain ⟨y, e⟩ := start_loop (.flst (ns.map D.int)) ns 7 .un ⟨by decide, by decide⟩
  have e1 : ∀ q, sFor (iVal (eVar 0)) (gN 2) (sSet 1 (eOp2 addD (eOp2 modD (eOpN intD (bCons (eOp2 addD (eOp2 mulD (eVar 1) (eCst (.int 48271))) (eVar 2)) bNil)) (eCst (.int 2147483629))) (eCst (.int 1)))) ⟨[.fz (.flst (ns.map D.int)), .fz (.int 7), .un], []⟩ = q ↔ forLoop (gN 2) (sSet 1 (eOp2 addD (eOp2 modD (eOpN intD (bCons (eOp2 addD (eOp2 mulD (eVar 1) (eCst (.int 48271))) (eVar 2)) bNil)) (eCst (.int 2147483629))) (eCst (.int 1)))) (ns.map D.int) ⟨[.fz (.flst (ns.map D.int)), .fz (.int 7), .un], []⟩ = q := fun q => Iff.rfl
  have e2 := (e1 _).mpr e
  unfold gStart bStart
  refine denFn_run rfl ?_
  have e3 : startP 3 [.flst (ns.map D.int)] [] = ⟨[.fz (.flst (ns.map D.int)), .un, .un], []⟩ := rfl
  rw [e3, sSeq_nx (p1 := ⟨[.fz (.flst (ns.map D.int)), .fz (.int 7), .un], []⟩) rfl, sSeq_nx e2]
  rfl
theorem start_vs (ns : List Int) : VS [cellD ns 0 0 (seedL ns 7)] := by
  obtain ⟨h1, h2⟩ := seedL_ok ns 7 ⟨by decide, by decide⟩
  exact ⟨⟨ns, 0, 0, _, rfl, by decide, Nat.zero_le _, h1, h2⟩⟩
end PM
namespace K56
open PySem PySem.Spec L2 PM
def top (i : Nat) : Stmt := PySem.Challenge.pw_sameunits_k56_whole_signs_that_guard.main.body.getD i (.Pass ⟨0, 0, 0, 0⟩)
def c_SIGNS : List Nat := [48, 49, 50, 51, 52, 53, 54, 55, 56, 57, 97, 98, 99, 100, 101, 102, 103, 104, 105, 106, 107, 108, 109, 110, 111, 112, 113, 114, 115, 116, 117, 118, 119, 120, 121, 122, 65, 66, 67, 68, 69, 70, 71, 72, 73, 74, 75, 76, 77, 78, 79, 80, 81, 82, 83, 84, 85, 86, 87, 88, 89, 90, 32, 46, 47, 45]
abbrev N_is_integer : List Str := ["value"]
abbrev P_is_integer : List Str := ["value"]
abbrev st_is_integer : Stmt := top 5
abbrev N_check_code : List Str := ["modulus", "weights", "weight"]
abbrev P_check_code : List Str := ["modulus", "weights"]
abbrev st_check_code : Stmt := top 11
abbrev N_is_text : List Str := ["value", "modulus", "signs", "sign"]
abbrev P_is_text : List Str := ["value", "modulus"]
abbrev st_is_text : Stmt := top 12
abbrev N_check_text : List Str := ["text", "modulus"]
abbrev P_check_text : List Str := ["text", "modulus"]
abbrev st_check_text : Stmt := top 13
abbrev N_sum_of : List Str := ["modulus", "weights", "text", "total", "at", "sign"]
abbrev P_sum_of : List Str := ["modulus", "weights", "text"]
abbrev st_sum_of : Stmt := top 14
abbrev N_check_sum : List Str := ["modulus", "weights", "text"]
abbrev P_check_sum : List Str := ["modulus", "weights", "text"]
abbrev st_check_sum : Stmt := top 15
abbrev N_is_guarded : List Str := ["modulus", "weights", "text"]
abbrev P_is_guarded : List Str := ["modulus", "weights", "text"]
abbrev st_is_guarded : Stmt := top 16
abbrev N_guards_of : List Str := ["modulus", "weights", "text", "signs", "sign"]
abbrev P_guards_of : List Str := ["modulus", "weights", "text"]
abbrev st_guards_of : Stmt := top 17
abbrev N_divisor : List Str := ["one", "other"]
abbrev P_divisor : List Str := ["one", "other"]
abbrev st_divisor : Stmt := top 18
abbrev N_judge_changes : List Str := ["modulus", "weights", "at", "weight", "common"]
abbrev P_judge_changes : List Str := ["modulus", "weights"]
abbrev st_judge_changes : Stmt := top 19
abbrev N_signs_of : List Str := ["modulus"]
abbrev P_signs_of : List Str := ["modulus"]
abbrev st_signs_of : Stmt := top 20
abbrev N_judge_turns : List Str := ["modulus", "weights", "at", "gap", "common"]
abbrev P_judge_turns : List Str := ["modulus", "weights"]
abbrev st_judge_turns : Stmt := top 21
abbrev N_accept_missed : List Str := ["modulus", "weights", "first", "second", "places", "turned", "at"]
abbrev P_accept_missed : List Str := ["modulus", "weights", "first", "second"]
abbrev st_accept_missed : Stmt := top 22
abbrev N_repairs : List Str := ["modulus", "weights", "text", "total", "found", "at", "sign", "weight", "number"]
abbrev P_repairs : List Str := ["modulus", "weights", "text"]
abbrev st_repairs : Stmt := top 23
abbrev N_turn_repairs : List Str := ["modulus", "weights", "text", "found", "at", "other"]
abbrev P_turn_repairs : List Str := ["modulus", "weights", "text"]
abbrev st_turn_repairs : Stmt := top 24
abbrev N_filled : List Str := ["modulus", "weights", "text", "place", "rows", "sign", "row"]
abbrev P_filled : List Str := ["modulus", "weights", "text", "place"]
abbrev st_filled : Stmt := top 25
abbrev N_good_weights : List Str := ["modulus", "many", "fits", "weight"]
abbrev P_good_weights : List Str := ["modulus", "many"]
abbrev st_good_weights : Stmt := top 26
abbrev N_extended : List Str := ["modulus", "row", "many", "fits", "weight", "told"]
abbrev P_extended : List Str := ["modulus", "row", "many", "fits"]
abbrev st_extended : Stmt := top 27
abbrev N_turns_found : List Str := ["modulus", "one", "other", "common"]
abbrev P_turns_found : List Str := ["modulus", "one", "other"]
abbrev st_turns_found : Stmt := top 28
abbrev N_missed_share : List Str := ["modulus", "weights", "text", "missed", "at", "sign", "number"]
abbrev P_missed_share : List Str := ["modulus", "weights", "text"]
abbrev st_missed_share : Stmt := top 29
abbrev N__law_start : List Str := ["script", "seed", "cell"]
abbrev P__law_start : List Str := ["script"]
abbrev st__law_start : Stmt := top 31
abbrev N__law_draw : List Str := ["state", "many", "value"]
abbrev P__law_draw : List Str := ["state", "many"]
abbrev st__law_draw : Stmt := top 32
abbrev N__law_signs : List Str := ["modulus"]
abbrev P__law_signs : List Str := ["modulus"]
abbrev st__law_signs : Stmt := top 33
abbrev N__law_sum : List Str := ["modulus", "weights", "text", "signs", "k"]
abbrev P__law_sum : List Str := ["modulus", "weights", "text"]
abbrev st__law_sum : Stmt := top 34
abbrev N__law_guarded : List Str := ["modulus", "weights", "some", "text"]
abbrev P__law_guarded : List Str := ["modulus", "weights", "some"]
abbrev st__law_guarded : Stmt := top 35
abbrev N__law_changed : List Str := ["modulus", "text", "at", "sign"]
abbrev P__law_changed : List Str := ["modulus", "text", "at"]
abbrev st__law_changed : Stmt := top 36
abbrev N__law_alike : List Str := ["modulus", "gap", "many", "one", "other"]
abbrev P__law_alike : List Str := ["modulus", "gap"]
abbrev st__law_alike : Stmt := top 37
abbrev N__law_judged : List Str := ["modulus", "gaps", "k", "found"]
abbrev P__law_judged : List Str := ["modulus", "gaps"]
abbrev st__law_judged : Stmt := top 38
abbrev N__law_gaps : List Str := ["weights", "k"]
abbrev P__law_gaps : List Str := ["weights"]
abbrev st__law_gaps : Stmt := top 39
abbrev N__law_good : List Str := ["modulus", "many", "rows", "step", "longer", "row", "weight"]
abbrev P__law_good : List Str := ["modulus", "many"]
abbrev st__law_good : Stmt := top 40
abbrev N_law : List Str := ["script", "state", "turn", "modulus", "weights", "signs", "text", "due", "guards", "some", "at", "turned", "whole", "changes", "turns", "ahead", "one", "other", "small", "many", "k", "sign"]
abbrev P_law : List Str := ["script"]
abbrev st_law : Stmt := top 41
noncomputable def b_is_integer : SmS := (sRet (eAnd2 (eOpN isiD (bCons (eVar 0) (bCons (eCst (.ty "int")) bNil))) (eNot1 (eOpN isiD (bCons (eVar 0) (bCons (eCst (.ty "bool")) bNil))))))
noncomputable def g_is_integer : Fn := denFn 1 1 b_is_integer
noncomputable def b_check_code : SmS := (sSeq (sIf (tOr2 (tNot1 (tTru (eCall g_is_integer (aCons (eVar 0) aNil)))) (tNot1 (tOfV (eChain leD2 leD2 (eCst (.int 2)) (eVar 0) (eCst (.int 97)))))) (fun _ => .no) sNil) (sSeq (sIf (tOr2 (tNot1 (tTru (eOpN isiD (bCons (eVar 1) (bCons (eCst (.ty "tuple")) bNil))))) (tNot1 (tOfV (eChain leD2 leD2 (eCst (.int 1)) (eOpN lenD (bCons (eVar 1) bNil)) (eCst (.int 12)))))) (fun _ => .no) sNil) (sIf (tNot1 (tTru (eOpN allD (bCons (eLc (iVal (eVar 1)) [2] (gN 2) tYs (eAnd2 (eCall g_is_integer (aCons (eVar 2) aNil)) (eChain leD2 ltD2 (eCst (.int 0)) (eVar 2) (eVar 0)))) bNil)))) (fun _ => .no) sNil)))
noncomputable def g_check_code : Fn := denFn 2 3 b_check_code
noncomputable def b_is_text : SmS := (sSeq (sSet 2 (eSl (eCst (.str c_SIGNS)) none (some (eVar 1)))) (sRet (eAnd2 (eOpN isiD (bCons (eVar 0) (bCons (eCst (.ty "str")) bNil))) (eAnd2 (eOp2 leD2 (eOpN lenD (bCons (eVar 0) bNil)) (eCst (.int 4000))) (eOpN allD (bCons (eLc (iVal (eVar 0)) [3] (gN 3) tYs (eOp2 inSD (eVar 3) (eVar 2))) bNil))))))
noncomputable def g_is_text : Fn := denFn 2 4 b_is_text
noncomputable def b_check_text : SmS := (sIf (tNot1 (tTru (eCall g_is_text (aCons (eVar 0) (aCons (eVar 1) aNil))))) (fun _ => .no) sNil)
noncomputable def g_check_text : Fn := denFn 2 2 b_check_text
noncomputable def b_sum_of : SmS := (sSeq (sSet 3 (eCst (.int 0))) (sSeq (sFor (iEnumr (aCons (eVar 2) aNil)) (gT [(gN 4), (gN 5)]) (sAug 3 addI (eOp2 mulD (eMthS indexD (eCst (.str c_SIGNS)) (bCons (eVar 5) bNil)) (eOp2 ixD (eVar 1) (eOp2 modD (eVar 4) (eOpN lenD (bCons (eVar 1) bNil))))))) (sRet (eOp2 modD (eVar 3) (eVar 0)))))
noncomputable def g_sum_of : Fn := denFn 3 6 b_sum_of
noncomputable def b_check_sum : SmS := (sSeq (sExpr (eCall g_check_code (aCons (eVar 0) (aCons (eVar 1) aNil)))) (sSeq (sExpr (eCall g_check_text (aCons (eVar 2) (aCons (eVar 0) aNil)))) (sRet (eCall g_sum_of (aCons (eVar 0) (aCons (eVar 1) (aCons (eVar 2) aNil)))))))
noncomputable def g_check_sum : Fn := denFn 3 3 b_check_sum
noncomputable def b_is_guarded : SmS := (sSeq (sExpr (eCall g_check_code (aCons (eVar 0) (aCons (eVar 1) aNil)))) (sSeq (sExpr (eCall g_check_text (aCons (eVar 2) (aCons (eVar 0) aNil)))) (sRet (eOp2 eqD2 (eCall g_sum_of (aCons (eVar 0) (aCons (eVar 1) (aCons (eVar 2) aNil)))) (eCst (.int 0))))))
noncomputable def g_is_guarded : Fn := denFn 3 3 b_is_guarded
noncomputable def b_guards_of : SmS := (sSeq (sExpr (eCall g_check_code (aCons (eVar 0) (aCons (eVar 1) aNil)))) (sSeq (sExpr (eCall g_check_text (aCons (eVar 2) (aCons (eVar 0) aNil)))) (sSeq (sIf (tOfV (eOp2 eqD2 (eOpN lenD (bCons (eVar 2) bNil)) (eCst (.int 4000)))) (fun _ => .no) sNil) (sSeq (sSet 3 (eSl (eCst (.str c_SIGNS)) none (some (eVar 0)))) (sRet (eOpN tupD (bCons (eLc (iVal (eVar 3)) [4] (gN 4) (tOfV (eOp2 eqD2 (eCall g_sum_of (aCons (eVar 0) (aCons (eVar 1) (aCons (eOp2 addD (eVar 2) (eVar 4)) aNil)))) (eCst (.int 0)))) (eVar 4)) bNil)))))))
noncomputable def g_guards_of : Fn := denFn 3 5 b_guards_of
noncomputable def b_divisor : SmS := (sSeq (sWhile (tTru (eVar 1)) (sPar 0 1 (aCons (eVar 1) (aCons (eOp2 modD (eVar 0) (eVar 1)) aNil)))) (sRet (eVar 0)))
noncomputable def g_divisor : Fn := denFn 2 2 b_divisor
noncomputable def b_signs_of : SmS := (sRet (eOpN minD (bCons (eVar 0) (bCons (eOpN lenD (bCons (eCst (.str c_SIGNS)) bNil)) bNil))))
noncomputable def g_signs_of : Fn := denFn 1 1 b_signs_of
noncomputable def b_judge_changes : SmS := (sSeq (sExpr (eCall g_check_code (aCons (eVar 0) (aCons (eVar 1) aNil)))) (sSeq (sFor (iEnumr (aCons (eVar 1) aNil)) (gT [(gN 2), (gN 3)]) (sSeq (sSet 4 (eCall g_divisor (aCons (eVar 0) (aCons (eVar 3) aNil)))) (sIf (tAnd2 (tOfV (eOp2 gtD2 (eVar 4) (eCst (.int 1)))) (tOfV (eOp2 ltD2 (eOp2 fdivD (eVar 0) (eVar 4)) (eCall g_signs_of (aCons (eVar 0) aNil))))) (sRet (eTup (aCons (eCst (.str [109, 105, 115, 115, 101, 115])) (aCons (eVar 2) (aCons (eCst (.int 0)) (aCons (eOp2 fdivD (eVar 0) (eVar 4)) aNil)))))) sNil))) (sRet (eTup (aCons (eCst (.str [102, 105, 110, 100, 115])) aNil)))))
noncomputable def g_judge_changes : Fn := denFn 2 5 b_judge_changes
noncomputable def b_judge_turns : SmS := (sSeq (sExpr (eCall g_check_code (aCons (eVar 0) (aCons (eVar 1) aNil)))) (sSeq (sFor (iRange1 (bCons (eOpN lenD (bCons (eVar 1) bNil)) bNil)) (gN 2) (sSeq (sSet 3 (eOp2 modD (eOp2 subD (eOp2 ixD (eVar 1) (eVar 2)) (eOp2 ixD (eVar 1) (eOp2 modD (eOp2 addD (eVar 2) (eCst (.int 1))) (eOpN lenD (bCons (eVar 1) bNil))))) (eVar 0))) (sSeq (sSet 4 (eCall g_divisor (aCons (eVar 0) (aCons (eVar 3) aNil)))) (sIf (tAnd2 (tOfV (eOp2 gtD2 (eVar 4) (eCst (.int 1)))) (tOfV (eOp2 ltD2 (eOp2 fdivD (eVar 0) (eVar 4)) (eCall g_signs_of (aCons (eVar 0) aNil))))) (sRet (eTup (aCons (eCst (.str [109, 105, 115, 115, 101, 115])) (aCons (eVar 2) (aCons (eCst (.int 0)) (aCons (eOp2 fdivD (eVar 0) (eVar 4)) aNil)))))) sNil)))) (sRet (eTup (aCons (eCst (.str [102, 105, 110, 100, 115])) aNil)))))
noncomputable def g_judge_turns : Fn := denFn 2 5 b_judge_turns
noncomputable def b_accept_missed : SmS := (sSeq (sExpr (eCall g_check_code (aCons (eVar 0) (aCons (eVar 1) aNil)))) (sSeq (sIf (tOr2 (tNot1 (tTru (eCall g_is_text (aCons (eVar 2) (aCons (eVar 0) aNil))))) (tOr2 (tNot1 (tTru (eCall g_is_text (aCons (eVar 3) (aCons (eVar 0) aNil))))) (tOfV (eOp2 neD2 (eOpN lenD (bCons (eVar 2) bNil)) (eOpN lenD (bCons (eVar 3) bNil)))))) (fun _ => .no) sNil) (sSeq (sSet 4 (eLc (iRange1 (bCons (eOpN lenD (bCons (eVar 2) bNil)) bNil)) [6] (gN 6) (tOfV (eOp2 neD2 (eOp2 ixD (eVar 2) (eVar 6)) (eOp2 ixD (eVar 3) (eVar 6)))) (eVar 6))) (sSeq (sSet 5 (eAnd2 (eOp2 eqD2 (eOpN lenD (bCons (eVar 4) bNil)) (eCst (.int 2))) (eAnd2 (eOp2 eqD2 (eOp2 ixD (eVar 4) (eCst (.int 1))) (eOp2 addD (eOp2 ixD (eVar 4) (eCst (.int 0))) (eCst (.int 1)))) (eOp2 eqD2 (eOp2 ixD (eVar 2) (eOp2 ixD (eVar 4) (eCst (.int 0)))) (eOp2 ixD (eVar 3) (eOp2 ixD (eVar 4) (eCst (.int 1)))))))) (sSeq (sIf (tAnd2 (tOfV (eOp2 neD2 (eOpN lenD (bCons (eVar 4) bNil)) (eCst (.int 1)))) (tNot1 (tAnd2 (tTru (eVar 5)) (tOfV (eOp2 eqD2 (eOp2 ixD (eVar 2) (eOp2 ixD (eVar 4) (eCst (.int 1)))) (eOp2 ixD (eVar 3) (eOp2 ixD (eVar 4) (eCst (.int 0))))))))) (fun _ => .no) sNil) (sIf (tOfV (eOp2 neD2 (eCall g_sum_of (aCons (eVar 0) (aCons (eVar 1) (aCons (eVar 2) aNil)))) (eCall g_sum_of (aCons (eVar 0) (aCons (eVar 1) (aCons (eVar 3) aNil)))))) (fun _ => .no) sNil))))))
noncomputable def g_accept_missed : Fn := denFn 4 7 b_accept_missed
noncomputable def b_repairs : SmS := (sSeq (sExpr (eCall g_check_code (aCons (eVar 0) (aCons (eVar 1) aNil)))) (sSeq (sExpr (eCall g_check_text (aCons (eVar 2) (aCons (eVar 0) aNil)))) (sSeq (sSet 3 (eCall g_sum_of (aCons (eVar 0) (aCons (eVar 1) (aCons (eVar 2) aNil))))) (sSeq (sIf (tOfV (eOp2 eqD2 (eVar 3) (eCst (.int 0)))) (sRet (eTup (aCons (eVar 2) aNil))) sNil) (sSeq (sSet 4 (eLst aNil)) (sSeq (sFor (iEnumr (aCons (eVar 2) aNil)) (gT [(gN 5), (gN 6)]) (sSeq (sSet 7 (eOp2 ixD (eVar 1) (eOp2 modD (eVar 5) (eOpN lenD (bCons (eVar 1) bNil))))) (sFor (iRange1 (bCons (eCall g_signs_of (aCons (eVar 0) aNil)) bNil)) (gN 8) (sIf (tOfV (eOp2 eqD2 (eOp2 modD (eOp2 addD (eVar 3) (eOp2 mulD (eVar 7) (eOp2 subD (eVar 8) (eMthS indexD (eCst (.str c_SIGNS)) (bCons (eVar 6) bNil))))) (eVar 0)) (eCst (.int 0)))) (sApp 4 (eOp2 addD (eOp2 addD (eSl (eVar 2) none (some (eVar 5))) (eOp2 ixD (eCst (.str c_SIGNS)) (eVar 8))) (eSl (eVar 2) (some (eOp2 addD (eVar 5) (eCst (.int 1)))) none))) sNil)))) (sRet (eOpN tupD (bCons (eOpN srtD (bCons (eVar 4) bNil)) bNil)))))))))
noncomputable def g_repairs : Fn := denFn 3 9 b_repairs
noncomputable def b_turn_repairs : SmS := (sSeq (sExpr (eCall g_check_code (aCons (eVar 0) (aCons (eVar 1) aNil)))) (sSeq (sExpr (eCall g_check_text (aCons (eVar 2) (aCons (eVar 0) aNil)))) (sSeq (sSet 3 eDct0) (sSeq (sFor (iRange1 (bCons (eOp2 subD (eOpN lenD (bCons (eVar 2) bNil)) (eCst (.int 1))) bNil)) (gN 4) (sSeq (sSet 5 (eOp2 addD (eOp2 addD (eOp2 addD (eSl (eVar 2) none (some (eVar 4))) (eOp2 ixD (eVar 2) (eOp2 addD (eVar 4) (eCst (.int 1))))) (eOp2 ixD (eVar 2) (eVar 4))) (eSl (eVar 2) (some (eOp2 addD (eVar 4) (eCst (.int 2)))) none))) (sIf (tAnd2 (tOfV (eOp2 neD2 (eVar 5) (eVar 2))) (tOfV (eOp2 eqD2 (eCall g_sum_of (aCons (eVar 0) (aCons (eVar 1) (aCons (eVar 5) aNil)))) (eCst (.int 0))))) (sStIx 3 (eVar 5) (eCst (.bl true))) sNil))) (sRet (eOpN tupD (bCons (eOpN srtD (bCons (eVar 3) bNil)) bNil)))))))
noncomputable def g_turn_repairs : Fn := denFn 3 6 b_turn_repairs
noncomputable def b_filled : SmS := (sSeq (sExpr (eCall g_check_code (aCons (eVar 0) (aCons (eVar 1) aNil)))) (sSeq (sExpr (eCall g_check_text (aCons (eVar 2) (aCons (eVar 0) aNil)))) (sSeq (sIf (tOr2 (tNot1 (tTru (eCall g_is_integer (aCons (eVar 3) aNil)))) (tNot1 (tOfV (eChain leD2 ltD2 (eCst (.int 0)) (eVar 3) (eOpN lenD (bCons (eVar 2) bNil)))))) (fun _ => .no) sNil) (sSeq (sSet 4 (eLc (iVal (eSl (eCst (.str c_SIGNS)) none (some (eVar 0)))) [5] (gN 5) tYs (eOp2 addD (eOp2 addD (eSl (eVar 2) none (some (eVar 3))) (eVar 5)) (eSl (eVar 2) (some (eOp2 addD (eVar 3) (eCst (.int 1)))) none)))) (sRet (eOpN tupD (bCons (eLc (iVal (eVar 4)) [6] (gN 6) (tOfV (eOp2 eqD2 (eCall g_sum_of (aCons (eVar 0) (aCons (eVar 1) (aCons (eVar 6) aNil)))) (eCst (.int 0)))) (eVar 6)) bNil)))))))
noncomputable def g_filled : Fn := denFn 4 7 b_filled
noncomputable def b_turns_found : SmS := (sSeq (sSet 3 (eCall g_divisor (aCons (eVar 0) (aCons (eOp2 modD (eOp2 subD (eVar 1) (eVar 2)) (eVar 0)) aNil)))) (sRet (eOr2 (eOp2 eqD2 (eVar 3) (eCst (.int 1))) (eOp2 geD2 (eOp2 fdivD (eVar 0) (eVar 3)) (eCall g_signs_of (aCons (eVar 0) aNil))))))
noncomputable def g_turns_found : Fn := denFn 3 4 b_turns_found
noncomputable def b_extended (grec : Fn) : SmS := (sSeq (sIf (tOfV (eOp2 eqD2 (eOpN lenD (bCons (eVar 1) bNil)) (eVar 2))) (sRet (eIfE (tOfV (eOp2 eqD2 (eCall g_judge_turns (aCons (eVar 0) (aCons (eVar 1) aNil))) (eTup (aCons (eCst (.str [102, 105, 110, 100, 115])) aNil)))) (eVar 1) (eCst .non))) sNil) (sSeq (sFor (iVal (eVar 3)) (gN 4) (sIf (tOr2 (tNot1 (tTru (eVar 1))) (tTru (eCall g_turns_found (aCons (eVar 0) (aCons (eOp2 ixD (eVar 1) (eOp1 negD (eCst (.int 1)))) (aCons (eVar 4) aNil)))))) (sSeq (sSet 5 (eCall grec (aCons (eVar 0) (aCons (eOp2 addD (eVar 1) (eTup (aCons (eVar 4) aNil))) (aCons (eVar 2) (aCons (eVar 3) aNil)))))) (sIf (tOfV (eOp2 isntD2 (eVar 5) (eCst .non))) (sRet (eVar 5)) sNil)) sNil)) (sRet (eCst .non))))
noncomputable def gn_extended : Nat → Fn
  | 0 => fun _ _ => .no
  | k + 1 => denFn 4 6 (b_extended (gn_extended k))
noncomputable def g_extended : Fn := gn_extended 6
noncomputable def b_good_weights : SmS := (sSeq (sIf (tOr2 (tNot1 (tTru (eCall g_is_integer (aCons (eVar 0) aNil)))) (tNot1 (tOfV (eChain leD2 leD2 (eCst (.int 2)) (eVar 0) (eCst (.int 97)))))) (fun _ => .no) sNil) (sSeq (sIf (tOr2 (tNot1 (tTru (eCall g_is_integer (aCons (eVar 1) aNil)))) (tNot1 (tOfV (eChain leD2 leD2 (eCst (.int 1)) (eVar 1) (eCst (.int 4)))))) (fun _ => .no) sNil) (sSeq (sSet 2 (eLc (iRange1 (bCons (eVar 0) bNil)) [3] (gN 3) (tOfV (eOp2 eqD2 (eCall g_judge_changes (aCons (eVar 0) (aCons (eTup (aCons (eVar 3) aNil)) aNil))) (eTup (aCons (eCst (.str [102, 105, 110, 100, 115])) aNil)))) (eVar 3))) (sRet (eCall g_extended (aCons (eVar 0) (aCons (eTup aNil) (aCons (eVar 1) (aCons (eVar 2) aNil)))))))))
noncomputable def g_good_weights : Fn := denFn 2 4 b_good_weights
noncomputable def b_missed_share : SmS := (sSeq (sExpr (eCall g_check_code (aCons (eVar 0) (aCons (eVar 1) aNil)))) (sSeq (sExpr (eCall g_check_text (aCons (eVar 2) (aCons (eVar 0) aNil)))) (sSeq (sIf (tOfV (eOp2 neD2 (eCall g_sum_of (aCons (eVar 0) (aCons (eVar 1) (aCons (eVar 2) aNil)))) (eCst (.int 0)))) (fun _ => .no) sNil) (sSeq (sSet 3 (eCst (.int 0))) (sSeq (sFor (iEnumr (aCons (eVar 2) aNil)) (gT [(gN 4), (gN 5)]) (sFor (iRange1 (bCons (eCall g_signs_of (aCons (eVar 0) aNil)) bNil)) (gN 6) (sIf (tAnd2 (tOfV (eOp2 neD2 (eOp2 ixD (eCst (.str c_SIGNS)) (eVar 6)) (eVar 5))) (tOfV (eOp2 eqD2 (eOp2 modD (eOp2 mulD (eOp2 ixD (eVar 1) (eOp2 modD (eVar 4) (eOpN lenD (bCons (eVar 1) bNil)))) (eOp2 subD (eVar 6) (eMthS indexD (eCst (.str c_SIGNS)) (bCons (eVar 5) bNil)))) (eVar 0)) (eCst (.int 0))))) (sAug 3 addI (eCst (.int 1))) sNil))) (sRet (eTup (aCons (eVar 3) (aCons (eOp2 mulD (eOpN lenD (bCons (eVar 2) bNil)) (eOp2 subD (eCall g_signs_of (aCons (eVar 0) aNil)) (eCst (.int 1)))) aNil)))))))))
noncomputable def g_missed_share : Fn := denFn 3 7 b_missed_share
noncomputable def b__law_start : SmS := (sSeq (sSet 1 (eCst (.int 7))) (sSeq (sFor (iVal (eVar 0)) (gN 2) (sSet 1 (eOp2 addD (eOp2 modD (eOpN intD (bCons (eOp2 addD (eOp2 mulD (eVar 1) (eCst (.int 48271))) (eVar 2)) bNil)) (eCst (.int 2147483629))) (eCst (.int 1))))) (sRet (eLst (aCons (eOpN lstD (bCons (eVar 0) bNil)) (aCons (eCst (.int 0)) (aCons (eCst (.int 0)) (aCons (eVar 1) aNil))))))))
noncomputable def g__law_start : Fn := denFn 1 3 b__law_start
noncomputable def b__law_draw : SmS := (sSeq (sIf (tAnd2 (tOfV (eOp2 eqD2 (eOp2 ixD (eVar 0) (eCst (.int 1))) (eCst (.int 0)))) (tOfV (eOp2 geD2 (eOp2 ixD (eVar 0) (eCst (.int 2))) (eOpN lenD (bCons (eOp2 ixD (eVar 0) (eCst (.int 0))) bNil))))) (sSeq (sStIx 0 (eCst (.int 3)) (eOp2 modD (eOpN intD (bCons (eOp2 addD (eOp2 mulD (eOp2 ixD (eVar 0) (eCst (.int 3))) (eCst (.int 48271))) (eCst (.int 69621))) bNil)) (eCst (.int 2147483629)))) (sRet (eOp2 modD (eOpN intD (bCons (eOp2 fdivD (eOp2 ixD (eVar 0) (eCst (.int 3))) (eCst (.int 13))) bNil)) (eVar 1)))) sNil) (sSeq (sIf (tOfV (eOp2 eqD2 (eOp2 ixD (eVar 0) (eCst (.int 1))) (eCst (.int 0)))) (sSeq (sStIx 0 (eCst (.int 1)) (eOpN absD (bCons (eOp2 ixD (eOp2 ixD (eVar 0) (eCst (.int 0))) (eOp2 ixD (eVar 0) (eCst (.int 2)))) bNil))) (sStIx 0 (eCst (.int 2)) (eOp2 addD (eOp2 ixD (eVar 0) (eCst (.int 2))) (eCst (.int 1))))) sNil) (sSeq (sSet 2 (eOp2 modD (eOpN intD (bCons (eOp2 ixD (eVar 0) (eCst (.int 1))) bNil)) (eVar 1))) (sSeq (sStIx 0 (eCst (.int 1)) (eOp2 fdivD (eOp2 ixD (eVar 0) (eCst (.int 1))) (eVar 1))) (sRet (eVar 2))))))
noncomputable def g__law_draw : Fn := denFn 2 3 b__law_draw
noncomputable def b__law_signs : SmS := (sRet (eSl (eCst (.str [48, 49, 50, 51, 52, 53, 54, 55, 56, 57, 97, 98, 99, 100, 101, 102, 103, 104, 105, 106, 107, 108, 109, 110, 111, 112, 113, 114, 115, 116, 117, 118, 119, 120, 121, 122, 65, 66, 67, 68, 69, 70, 71, 72, 73, 74, 75, 76, 77, 78, 79, 80, 81, 82, 83, 84, 85, 86, 87, 88, 89, 90, 32, 46, 47, 45])) none (some (eVar 0))))
noncomputable def g__law_signs : Fn := denFn 1 1 b__law_signs
noncomputable def b__law_sum : SmS := (sSeq (sSet 3 (eCall g__law_signs (aCons (eVar 0) aNil))) (sRet (eOp2 modD (eOpN sumD (bCons (eLc (iRange1 (bCons (eOpN lenD (bCons (eVar 2) bNil)) bNil)) [4] (gN 4) tYs (eOp2 mulD (eMthS indexD (eVar 3) (bCons (eOp2 ixD (eVar 2) (eVar 4)) bNil)) (eOp2 ixD (eVar 1) (eOp2 modD (eVar 4) (eOpN lenD (bCons (eVar 1) bNil)))))) bNil)) (eVar 0))))
noncomputable def g__law_sum : Fn := denFn 3 5 b__law_sum
noncomputable def b__law_guarded : SmS := (sRet (eLc (iVal (eVar 2)) [3] (gN 3) (tOfV (eOp2 eqD2 (eCall g__law_sum (aCons (eVar 0) (aCons (eVar 1) (aCons (eVar 3) aNil)))) (eCst (.int 0)))) (eVar 3)))
noncomputable def g__law_guarded : Fn := denFn 3 4 b__law_guarded
noncomputable def b__law_changed : SmS := (sRet (eLc (iVal (eCall g__law_signs (aCons (eVar 0) aNil))) [3] (gN 3) (tOfV (eOp2 neD2 (eVar 3) (eOp2 ixD (eVar 1) (eVar 2)))) (eOp2 addD (eOp2 addD (eSl (eVar 1) none (some (eVar 2))) (eVar 3)) (eSl (eVar 1) (some (eOp2 addD (eVar 2) (eCst (.int 1)))) none))))
noncomputable def g__law_changed : Fn := denFn 3 4 b__law_changed
noncomputable def b__law_alike : SmS := (sSeq (sSet 2 (eOpN lenD (bCons (eCall g__law_signs (aCons (eVar 0) aNil)) bNil))) (sSeq (sFor (iRange1 (bCons (eVar 2) bNil)) (gN 3) (sFor (iRange2 (bCons (eOp2 addD (eVar 3) (eCst (.int 1))) (bCons (eVar 2) bNil))) (gN 4) (sIf (tOfV (eOp2 eqD2 (eOp2 modD (eOp2 mulD (eOp2 subD (eVar 4) (eVar 3)) (eVar 1)) (eVar 0)) (eCst (.int 0)))) (sRet (eTup (aCons (eVar 3) (aCons (eVar 4) aNil)))) sNil))) (sRet (eCst .non))))
noncomputable def g__law_alike : Fn := denFn 2 5 b__law_alike
noncomputable def b__law_judged : SmS := (sSeq (sFor (iRange1 (bCons (eOpN lenD (bCons (eVar 1) bNil)) bNil)) (gN 2) (sSeq (sSet 3 (eCall g__law_alike (aCons (eVar 0) (aCons (eOp2 ixD (eVar 1) (eVar 2)) aNil)))) (sIf (tOfV (eOp2 isntD2 (eVar 3) (eCst .non))) (sRet (eOp2 addD (eTup (aCons (eCst (.str [109, 105, 115, 115, 101, 115])) (aCons (eVar 2) aNil))) (eVar 3))) sNil))) (sRet (eTup (aCons (eCst (.str [102, 105, 110, 100, 115])) aNil))))
noncomputable def g__law_judged : Fn := denFn 2 4 b__law_judged
noncomputable def b__law_gaps : SmS := (sRet (eLc (iRange1 (bCons (eOpN lenD (bCons (eVar 0) bNil)) bNil)) [1] (gN 1) tYs (eOp2 subD (eOp2 ixD (eVar 0) (eVar 1)) (eOp2 ixD (eVar 0) (eOp2 modD (eOp2 addD (eVar 1) (eCst (.int 1))) (eOpN lenD (bCons (eVar 0) bNil)))))))
noncomputable def g__law_gaps : Fn := denFn 1 2 b__law_gaps
noncomputable def b__law_good : SmS := (sSeq (sSet 2 (eLst (aCons (eTup aNil) aNil))) (sSeq (sFor (iRange1 (bCons (eVar 1) bNil)) (gN 3) (sSeq (sSet 4 (eLst aNil)) (sSeq (sFor (iVal (eVar 2)) (gN 5) (sExt 4 (eLc (iRange1 (bCons (eVar 0) bNil)) [6] (gN 6) (tOfV (eOp2 isD2 (eCall g__law_alike (aCons (eVar 0) (aCons (eVar 6) aNil))) (eCst .non))) (eOp2 addD (eVar 5) (eTup (aCons (eVar 6) aNil)))))) (sSet 2 (eVar 4))))) (sSeq (sFor (iVal (eVar 2)) (gN 5) (sIf (tOfV (eOp2 eqD2 (eCall g__law_judged (aCons (eVar 0) (aCons (eCall g__law_gaps (aCons (eVar 5) aNil)) aNil))) (eTup (aCons (eCst (.str [102, 105, 110, 100, 115])) aNil)))) (sRet (eVar 5)) sNil)) (sRet (eCst .non)))))
noncomputable def g__law_good : Fn := denFn 2 7 b__law_good
noncomputable def b1_law : SmS := (sSet 1 (eCall g__law_start (aCons (eVar 0) aNil)))
noncomputable def b_law : SmS := (sSeq (sFor (iRange1 (bCons (eCst (.int 3)) bNil)) (gN 2) (sSeq (sSet 3 (eOp2 ixD (eLst (aCons (eCst (.int 2)) (aCons (eCst (.int 3)) (aCons (eCst (.int 5)) (aCons (eCst (.int 7)) (aCons (eCst (.int 10)) (aCons (eCst (.int 11)) (aCons (eCst (.int 13)) (aCons (eCst (.int 16)) (aCons (eCst (.int 20)) (aCons (eCst (.int 36)) (aCons (eCst (.int 66)) (aCons (eCst (.int 67)) (aCons (eCst (.int 97)) aNil)))))))))))))) (eCall g__law_draw (aCons (eVar 1) (aCons (eCst (.int 13)) aNil))))) (sSeq (sSet 4 (eOpN tupD (bCons (eLc (iRange1 (bCons (eOp2 addD (eCst (.int 1)) (eCall g__law_draw (aCons (eVar 1) (aCons (eCst (.int 5)) aNil)))) bNil)) [20] (gN 20) tYs (eCall g__law_draw (aCons (eVar 1) (aCons (eVar 3) aNil)))) bNil))) (sSeq (sSet 5 (eCall g__law_signs (aCons (eVar 3) aNil))) (sSeq (sSet 6 (eMthS joinD (eCst (.str [])) (bCons (eLc (iRange1 (bCons (eCall g__law_draw (aCons (eVar 1) (aCons (eCst (.int 9)) aNil))) bNil)) [20] (gN 20) tYs (eOp2 ixD (eVar 5) (eCall g__law_draw (aCons (eVar 1) (aCons (eOpN lenD (bCons (eVar 5) bNil)) aNil))))) bNil))) (sSeq (sSet 7 (eCall g__law_sum (aCons (eVar 3) (aCons (eVar 4) (aCons (eVar 6) aNil))))) (sSeq (sIf (tOr2 (tOfV (eOp2 neD2 (eCall g_check_sum (aCons (eVar 3) (aCons (eVar 4) (aCons (eVar 6) aNil)))) (eVar 7))) (tOfV (eOp2 neD2 (eCall g_is_guarded (aCons (eVar 3) (aCons (eVar 4) (aCons (eVar 6) aNil)))) (eOp2 eqD2 (eVar 7) (eCst (.int 0)))))) (sRet (eCst (.bl false))) sNil) (sSeq (sSet 8 (eCall g_guards_of (aCons (eVar 3) (aCons (eVar 4) (aCons (eVar 6) aNil))))) (sSeq (sIf (tOfV (eOp2 neD2 (eVar 8) (eOpN tupD (bCons (eLc (iVal (eVar 5)) [21] (gN 21) (tOfV (eOp2 eqD2 (eCall g__law_sum (aCons (eVar 3) (aCons (eVar 4) (aCons (eOp2 addD (eVar 6) (eVar 21)) aNil)))) (eCst (.int 0)))) (eVar 21)) bNil)))) (sRet (eCst (.bl false))) sNil) (sSeq (sSet 9 (eLst aNil)) (sSeq (sFor (iRange1 (bCons (eOpN lenD (bCons (eVar 6) bNil)) bNil)) (gN 10) (sExt 9 (eCall g__law_changed (aCons (eVar 3) (aCons (eVar 6) (aCons (eVar 10) aNil)))))) (sSeq (sIf (tOfV (eOp2 neD2 (eCall g_repairs (aCons (eVar 3) (aCons (eVar 4) (aCons (eVar 6) aNil)))) (eIfE (tOfV (eOp2 eqD2 (eVar 7) (eCst (.int 0)))) (eTup (aCons (eVar 6) aNil)) (eOpN tupD (bCons (eOpN srtD (bCons (eCall g__law_guarded (aCons (eVar 3) (aCons (eVar 4) (aCons (eVar 9) aNil)))) bNil)) bNil))))) (sRet (eCst (.bl false))) sNil) (sSeq (sSet 11 (eOpN dctD (bCons (eLc (iRange1 (bCons (eOp2 subD (eOpN lenD (bCons (eVar 6) bNil)) (eCst (.int 1))) bNil)) [10] (gN 10) (tOfV (eOp2 neD2 (eOp2 ixD (eVar 6) (eVar 10)) (eOp2 ixD (eVar 6) (eOp2 addD (eVar 10) (eCst (.int 1)))))) (eTup (aCons (eOp2 addD (eOp2 addD (eOp2 addD (eSl (eVar 6) none (some (eVar 10))) (eOp2 ixD (eVar 6) (eOp2 addD (eVar 10) (eCst (.int 1))))) (eOp2 ixD (eVar 6) (eVar 10))) (eSl (eVar 6) (some (eOp2 addD (eVar 10) (eCst (.int 2)))) none)) (aCons (eCst (.bl true)) aNil)))) bNil))) (sSeq (sIf (tOfV (eOp2 neD2 (eCall g_turn_repairs (aCons (eVar 3) (aCons (eVar 4) (aCons (eVar 6) aNil)))) (eOpN tupD (bCons (eOpN srtD (bCons (eCall g__law_guarded (aCons (eVar 3) (aCons (eVar 4) (aCons (eOpN lstD (bCons (eVar 11) bNil)) aNil)))) bNil)) bNil)))) (sRet (eCst (.bl false))) sNil) (sSeq (sIf (tTru (eVar 6)) (sSeq (sSet 10 (eCall g__law_draw (aCons (eVar 1) (aCons (eOpN lenD (bCons (eVar 6) bNil)) aNil)))) (sIf (tOfV (eOp2 neD2 (eCall g_filled (aCons (eVar 3) (aCons (eVar 4) (aCons (eVar 6) (aCons (eVar 10) aNil))))) (eOpN tupD (bCons (eLc (iVal (eVar 5)) [21] (gN 21) (tOfV (eOp2 eqD2 (eCall g__law_sum (aCons (eVar 3) (aCons (eVar 4) (aCons (eOp2 addD (eOp2 addD (eSl (eVar 6) none (some (eVar 10))) (eVar 21)) (eSl (eVar 6) (some (eOp2 addD (eVar 10) (eCst (.int 1)))) none)) aNil)))) (eCst (.int 0)))) (eOp2 addD (eOp2 addD (eSl (eVar 6) none (some (eVar 10))) (eVar 21)) (eSl (eVar 6) (some (eOp2 addD (eVar 10) (eCst (.int 1)))) none))) bNil)))) (sRet (eCst (.bl false))) sNil)) sNil) (sSeq (sFor (iVal (eOp2 addD (eOp2 mulD (eLst (aCons (eVar 6) aNil)) (eIfE (tOfV (eOp2 eqD2 (eVar 7) (eCst (.int 0)))) (eCst (.int 1)) (eCst (.int 0)))) (eLc (iVal (eSl (eVar 8) none (some (eCst (.int 1))))) [21] (gN 21) tYs (eOp2 addD (eVar 6) (eVar 21))))) (gN 12) (sSeq (sSet 9 (eLst aNil)) (sSeq (sFor (iRange1 (bCons (eOpN lenD (bCons (eVar 12) bNil)) bNil)) (gN 10) (sExt 9 (eCall g__law_changed (aCons (eVar 3) (aCons (eVar 12) (aCons (eVar 10) aNil)))))) (sIf (tOfV (eOp2 neD2 (eCall g_missed_share (aCons (eVar 3) (aCons (eVar 4) (aCons (eVar 12) aNil)))) (eTup (aCons (eOpN lenD (bCons (eCall g__law_guarded (aCons (eVar 3) (aCons (eVar 4) (aCons (eVar 9) aNil)))) bNil)) (aCons (eOpN lenD (bCons (eVar 9) bNil)) aNil))))) (sRet (eCst (.bl false))) sNil)))) (sSeq (sPar 13 14 (aCons (eCall g_judge_changes (aCons (eVar 3) (aCons (eVar 4) aNil))) (aCons (eCall g_judge_turns (aCons (eVar 3) (aCons (eVar 4) aNil))) aNil))) (sSeq (sIf (tOr2 (tOfV (eOp2 neD2 (eVar 13) (eCall g__law_judged (aCons (eVar 3) (aCons (eOpN lstD (bCons (eVar 4) bNil)) aNil))))) (tOfV (eOp2 neD2 (eVar 14) (eCall g__law_judged (aCons (eVar 3) (aCons (eCall g__law_gaps (aCons (eVar 4) aNil)) aNil)))))) (sRet (eCst (.bl false))) sNil) (sSeq (sSet 15 (eOp2 mulD (eOp2 ixD (eVar 5) (eCst (.int 0))) (eOpN lenD (bCons (eVar 4) bNil)))) (sSeq (sIf (tOfV (eOp2 gtD2 (eOpN lenD (bCons (eVar 13) bNil)) (eCst (.int 1)))) (sSeq (sPar 16 17 (aCons (eOp2 addD (eSl (eVar 15) none (some (eOp2 ixD (eVar 13) (eCst (.int 1))))) (eOp2 ixD (eVar 5) (eOp2 ixD (eVar 13) (eCst (.int 2))))) (aCons (eOp2 addD (eSl (eVar 15) none (some (eOp2 ixD (eVar 13) (eCst (.int 1))))) (eOp2 ixD (eVar 5) (eOp2 ixD (eVar 13) (eCst (.int 3))))) aNil))) (sIf (tOfV (eOp2 isntD2 (eCall g_accept_missed (aCons (eVar 3) (aCons (eVar 4) (aCons (eVar 16) (aCons (eVar 17) aNil))))) (eCst .non))) (sRet (eCst (.bl false))) sNil)) sNil) (sSeq (sIf (tOfV (eOp2 gtD2 (eOpN lenD (bCons (eVar 14) bNil)) (eCst (.int 1)))) (sSeq (sPar 16 17 (aCons (eOp2 addD (eOp2 addD (eSl (eVar 15) none (some (eOp2 ixD (eVar 14) (eCst (.int 1))))) (eOp2 ixD (eVar 5) (eOp2 ixD (eVar 14) (eCst (.int 2))))) (eOp2 ixD (eVar 5) (eOp2 ixD (eVar 14) (eCst (.int 3))))) (aCons (eOp2 addD (eOp2 addD (eSl (eVar 15) none (some (eOp2 ixD (eVar 14) (eCst (.int 1))))) (eOp2 ixD (eVar 5) (eOp2 ixD (eVar 14) (eCst (.int 3))))) (eOp2 ixD (eVar 5) (eOp2 ixD (eVar 14) (eCst (.int 2))))) aNil))) (sIf (tOfV (eOp2 isntD2 (eCall g_accept_missed (aCons (eVar 3) (aCons (eVar 4) (aCons (eVar 16) (aCons (eVar 17) aNil))))) (eCst .non))) (sRet (eCst (.bl false))) sNil)) sNil) (sSeq (sPar 18 19 (aCons (eOp2 ixD (eLst (aCons (eCst (.int 2)) (aCons (eCst (.int 3)) (aCons (eCst (.int 4)) (aCons (eCst (.int 5)) (aCons (eCst (.int 7)) (aCons (eCst (.int 9)) (aCons (eCst (.int 11)) aNil)))))))) (eCall g__law_draw (aCons (eVar 1) (aCons (eCst (.int 7)) aNil)))) (aCons (eOp2 addD (eCst (.int 1)) (eCall g__law_draw (aCons (eVar 1) (aCons (eCst (.int 3)) aNil)))) aNil))) (sIf (tOfV (eOp2 neD2 (eCall g_good_weights (aCons (eVar 18) (aCons (eVar 19) aNil))) (eCall g__law_good (aCons (eVar 18) (aCons (eVar 19) aNil))))) (sRet (eCst (.bl false))) sNil))))))))))))))))))))))) (sRet (eCst (.bl true))))
/-- what the top has written -/
structure Tx (K : PySem.W.Frag) (mg : Str → Option Value) : Prop where
  n_abs : mg "abs" = none
  n_all : mg "all" = none
  n_bool : mg "bool" = none
  n_dict : mg "dict" = none
  n_enumerate : mg "enumerate" = none
  n_int : mg "int" = none
  n_isinstance : mg "isinstance" = none
  n_len : mg "len" = none
  n_list : mg "list" = none
  n_min : mg "min" = none
  n_range : mg "range" = none
  n_sorted : mg "sorted" = none
  n_str : mg "str" = none
  n_sum : mg "sum" = none
  n_tuple : mg "tuple" = none
  c_MAX_COLUMNS : CstG mg "MAX_COLUMNS" (.int 12)
  c_MAX_TEXT : CstG mg "MAX_TEXT" (.int 4000)
  c_MOST : CstG mg "MOST" (.int 97)
  c_SIGNS : CstG mg "SIGNS" (.str c_SIGNS)
  d_is_integer : ∃ f fd, DefAt K mg "is_integer" st_is_integer P_is_integer f fd
  d_check_code : ∃ f fd, DefAt K mg "check_code" st_check_code P_check_code f fd
  d_is_text : ∃ f fd, DefAt K mg "is_text" st_is_text P_is_text f fd
  d_check_text : ∃ f fd, DefAt K mg "check_text" st_check_text P_check_text f fd
  d_sum_of : ∃ f fd, DefAt K mg "sum_of" st_sum_of P_sum_of f fd
  d_check_sum : ∃ f fd, DefAt K mg "check_sum" st_check_sum P_check_sum f fd
  d_is_guarded : ∃ f fd, DefAt K mg "is_guarded" st_is_guarded P_is_guarded f fd
  d_guards_of : ∃ f fd, DefAt K mg "guards_of" st_guards_of P_guards_of f fd
  d_divisor : ∃ f fd, DefAt K mg "divisor" st_divisor P_divisor f fd
  d_signs_of : ∃ f fd, DefAt K mg "signs_of" st_signs_of P_signs_of f fd
  d_judge_changes : ∃ f fd, DefAt K mg "judge_changes" st_judge_changes P_judge_changes f fd
  d_judge_turns : ∃ f fd, DefAt K mg "judge_turns" st_judge_turns P_judge_turns f fd
  d_accept_missed : ∃ f fd, DefAt K mg "accept_missed" st_accept_missed P_accept_missed f fd
  d_repairs : ∃ f fd, DefAt K mg "repairs" st_repairs P_repairs f fd
  d_turn_repairs : ∃ f fd, DefAt K mg "turn_repairs" st_turn_repairs P_turn_repairs f fd
  d_filled : ∃ f fd, DefAt K mg "filled" st_filled P_filled f fd
  d_turns_found : ∃ f fd, DefAt K mg "turns_found" st_turns_found P_turns_found f fd
  d_extended : ∃ f fd, DefAt K mg "extended" st_extended P_extended f fd
  d_good_weights : ∃ f fd, DefAt K mg "good_weights" st_good_weights P_good_weights f fd
  d_missed_share : ∃ f fd, DefAt K mg "missed_share" st_missed_share P_missed_share f fd
  d__law_start : ∃ f fd, DefAt K mg "_law_start" st__law_start P__law_start f fd
  d__law_draw : ∃ f fd, DefAt K mg "_law_draw" st__law_draw P__law_draw f fd
  d__law_signs : ∃ f fd, DefAt K mg "_law_signs" st__law_signs P__law_signs f fd
  d__law_sum : ∃ f fd, DefAt K mg "_law_sum" st__law_sum P__law_sum f fd
  d__law_guarded : ∃ f fd, DefAt K mg "_law_guarded" st__law_guarded P__law_guarded f fd
  d__law_changed : ∃ f fd, DefAt K mg "_law_changed" st__law_changed P__law_changed f fd
  d__law_alike : ∃ f fd, DefAt K mg "_law_alike" st__law_alike P__law_alike f fd
  d__law_judged : ∃ f fd, DefAt K mg "_law_judged" st__law_judged P__law_judged f fd
  d__law_gaps : ∃ f fd, DefAt K mg "_law_gaps" st__law_gaps P__law_gaps f fd
  d__law_good : ∃ f fd, DefAt K mg "_law_good" st__law_good P__law_good f fd
theorem sc_is_integer : FnScope N_is_integer P_is_integer (defScope st_is_integer) := ⟨rfl, rfl, rfl, by decide +kernel, rfl, by decide +kernel, by decide +kernel⟩
theorem G_is_integer {P : Program} {w : World} {K : PySem.W.Frag} {mg : Str → Option Value} {base : Heap} (T : Tx K mg) : DefG P w K mg base 1 "is_integer" 1 g_is_integer := by
  obtain ⟨f, fd, D⟩ := T.d_is_integer
  have hb : ∀ (cdv : Value) (A : Around) (outer : List Env) (s : Shared) (H : Hp) (E : XK), Cg (bodyX P w K mg base N_is_integer "is_integer" st_is_integer f cdv A outer s H E) 0 → SSs (bodyX P w K mg base N_is_integer "is_integer" st_is_integer f cdv A outer s H E) b_is_integer (defBody st_is_integer) := by
    intro cdv A outer s H E C
    have V0 := vv C 0 "value" rfl (by first | exact .inl rfl | exact .inr (.inl rfl) | exact .inr (.inr rfl)) (by decide) (by decide)
    have Lbool := gg C "bool" rfl
    have Lint := gg C "int" rfl
    have Lisinstance := gg C "isinstance" rfl
    exact (ss_one (ss_ret (se_and (se_callB (call_isi) os_isi Lisinstance T.n_isinstance rfl (sb_cons (V0 _) (sb_cons (se_ty Lint T.n_int rfl (by decide) (by decide)) sb_nil rfl) rfl) (by decide) (by decide) rfl rfl) (se_one (se_not (se_callB (call_isi) os_isi Lisinstance T.n_isinstance rfl (sb_cons (V0 _) (sb_cons (se_ty Lbool T.n_bool rfl (by decide) (by decide)) sb_nil rfl) rfl) (by decide) (by decide) rfl rfl))))))
  have q := defG (P := P) (w := w) (base := base) (k := 0) D sc_is_integer hb
  exact q
theorem sc_check_code : FnScope N_check_code P_check_code (defScope st_check_code) := ⟨rfl, rfl, rfl, by decide +kernel, rfl, by decide +kernel, by decide +kernel⟩
theorem G_check_code {P : Program} {w : World} {K : PySem.W.Frag} {mg : Str → Option Value} {base : Heap} (T : Tx K mg) (G_is_integer : DefG P w K mg base 1 "is_integer" 1 g_is_integer) : DefG P w K mg base 2 "check_code" 2 g_check_code := by
  obtain ⟨f, fd, D⟩ := T.d_check_code
  have hb : ∀ (cdv : Value) (A : Around) (outer : List Env) (s : Shared) (H : Hp) (E : XK), Cg (bodyX P w K mg base N_check_code "check_code" st_check_code f cdv A outer s H E) 1 → SSs (bodyX P w K mg base N_check_code "check_code" st_check_code f cdv A outer s H E) b_check_code (defBody st_check_code) := by
    intro cdv A outer s H E C
    have V0 := vv C 0 "modulus" rfl (by first | exact .inl rfl | exact .inr (.inl rfl) | exact .inr (.inr rfl)) (by decide) (by decide)
    have V1 := vv C 1 "weights" rfl (by first | exact .inl rfl | exact .inr (.inl rfl) | exact .inr (.inr rfl)) (by decide) (by decide)
    have KMAX_COLUMNS := kk C "MAX_COLUMNS" T.c_MAX_COLUMNS rfl (by decide)
    have KMOST := kk C "MOST" T.c_MOST rfl (by decide)
    have Lall := gg C "all" rfl
    have Lis_integer := gg C "is_integer" rfl
    have Lisinstance := gg C "isinstance" rfl
    have Llen := gg C "len" rfl
    have Ltuple := gg C "tuple" rfl
    exact (ss_cons (ss_if (st_sw (sw_or (st_not (st_tru (se_call C (DefG.to G_is_integer) (by decide) denFn_ar Lis_integer (sa_cons (V0 _) sa_nil rfl) (by decide) rfl rfl) fun _ => rfl)) (sw_or1 (st_not (st_chain op_leA os_le op_leA os_le rfl se_int (V0 _) (KMOST _)))))) (ss_one ss_never) ss_nil)
      (ss_cons (ss_if (st_sw (sw_or (st_not (st_tru (se_callB (call_isi) os_isi Lisinstance T.n_isinstance rfl (sb_cons (V1 _) (sb_cons (se_ty Ltuple T.n_tuple rfl (by decide) (by decide)) sb_nil rfl) rfl) (by decide) (by decide) rfl rfl) fun _ => rfl)) (sw_or1 (st_not (st_chain op_leA os_le op_leA os_le rfl se_int (se_callB (cr_lenA) os_len Llen T.n_len rfl (sb_cons (V1 _) sb_nil rfl) (by decide) (by decide) rfl rfl) (KMAX_COLUMNS _)))))) (ss_one ss_never) ss_nil)
      (ss_one (ss_if (st_not (st_tru (se_callB (cr_all rfl) os_all Lall T.n_all rfl (sb_cons (se_lcC [("weight", 2)] [2] C (si_val (V1 _)) (by kernel_rfl) (by decide) (by
      intro s H0 Cc cl fp C
      have Vb1_0 := vv C 0 "modulus" rfl (by first | exact .inl rfl | exact .inr (.inl rfl) | exact .inr (.inr rfl)) (by decide) (by decide)
      have Vb1_2 := vv C 2 "weight" rfl (by first | exact .inl rfl | exact .inr (.inl rfl) | exact .inr (.inr rfl)) (by decide) (by decide)
      have Lb1_is_integer := gg C "is_integer" rfl
      exact (sg_name C rfl (by first | exact .inl rfl | exact .inr rfl) (by first | exact .inl rfl | exact .inr rfl))) (by
      intro s H0 Cc cl fp C
      have Vb1_0 := vv C 0 "modulus" rfl (by first | exact .inl rfl | exact .inr (.inl rfl) | exact .inr (.inr rfl)) (by decide) (by decide)
      have Vb1_2 := vv C 2 "weight" rfl (by first | exact .inl rfl | exact .inr (.inl rfl) | exact .inr (.inr rfl)) (by decide) (by decide)
      have Lb1_is_integer := gg C "is_integer" rfl
      exact sts_nil) (by
      intro s H0 Cc cl fp C
      have Vb1_0 := vv C 0 "modulus" rfl (by first | exact .inl rfl | exact .inr (.inl rfl) | exact .inr (.inr rfl)) (by decide) (by decide)
      have Vb1_2 := vv C 2 "weight" rfl (by first | exact .inl rfl | exact .inr (.inl rfl) | exact .inr (.inr rfl)) (by decide) (by decide)
      have Lb1_is_integer := gg C "is_integer" rfl
      exact (se_and (se_call C (DefG.to G_is_integer) (by decide) denFn_ar Lb1_is_integer (sa_cons (Vb1_2 _) sa_nil rfl) (by decide) rfl rfl) (se_one (se_chain op_leA os_le op_ltA os_lt rfl se_int (Vb1_2 _) (Vb1_0 _))))) (fun _ => rfl)) sb_nil rfl) (by decide) (by decide) rfl rfl) fun _ => rfl)) (ss_one ss_never) ss_nil))))
  have q := defG (P := P) (w := w) (base := base) (k := 1) D sc_check_code hb
  exact q
theorem sc_is_text : FnScope N_is_text P_is_text (defScope st_is_text) := ⟨rfl, rfl, rfl, by decide +kernel, rfl, by decide +kernel, by decide +kernel⟩
theorem G_is_text {P : Program} {w : World} {K : PySem.W.Frag} {mg : Str → Option Value} {base : Heap} (T : Tx K mg) : DefG P w K mg base 1 "is_text" 2 g_is_text := by
  obtain ⟨f, fd, D⟩ := T.d_is_text
  have hb : ∀ (cdv : Value) (A : Around) (outer : List Env) (s : Shared) (H : Hp) (E : XK), Cg (bodyX P w K mg base N_is_text "is_text" st_is_text f cdv A outer s H E) 0 → SSs (bodyX P w K mg base N_is_text "is_text" st_is_text f cdv A outer s H E) b_is_text (defBody st_is_text) := by
    intro cdv A outer s H E C
    have V1 := vv C 1 "modulus" rfl (by first | exact .inl rfl | exact .inr (.inl rfl) | exact .inr (.inr rfl)) (by decide) (by decide)
    have V0 := vv C 0 "value" rfl (by first | exact .inl rfl | exact .inr (.inl rfl) | exact .inr (.inr rfl)) (by decide) (by decide)
    have KMAX_TEXT := kk C "MAX_TEXT" T.c_MAX_TEXT rfl (by decide)
    have KSIGNS := kk C "SIGNS" T.c_SIGNS rfl (by decide)
    have Lall := gg C "all" rfl
    have Lisinstance := gg C "isinstance" rfl
    have Llen := gg C "len" rfl
    have Lstr := gg C "str" rfl
    exact (ss_cons (ss_set C rfl (by first | exact .inl rfl | exact .inr rfl) (se_slice (KSIGNS _) so_none (so_some (V1 _))) rfl (.inl rfl))
      (ss_one (ss_ret (se_and (se_callB (call_isi) os_isi Lisinstance T.n_isinstance rfl (sb_cons (V0 _) (sb_cons (se_ty Lstr T.n_str rfl (by decide) (by decide)) sb_nil rfl) rfl) (by decide) (by decide) rfl rfl) (se_and (se_cmp op_leA os_le rfl (se_callB (cr_lenA) os_len Llen T.n_len rfl (sb_cons (V0 _) sb_nil rfl) (by decide) (by decide) rfl rfl) (KMAX_TEXT _)) (se_one (se_callB (cr_all rfl) os_all Lall T.n_all rfl (sb_cons (se_lcC [("sign", 3)] [3] C (si_val (V0 _)) (by kernel_rfl) (by decide) (by
      intro s H0 Cc cl fp C
      have Vb1_3 := vv C 3 "sign" rfl (by first | exact .inl rfl | exact .inr (.inl rfl) | exact .inr (.inr rfl)) (by decide) (by decide)
      have Vb1_2 := vv C 2 "signs" rfl (by first | exact .inl rfl | exact .inr (.inl rfl) | exact .inr (.inr rfl)) (by decide) (by decide)
      exact (sg_name C rfl (by first | exact .inl rfl | exact .inr rfl) (by first | exact .inl rfl | exact .inr rfl))) (by
      intro s H0 Cc cl fp C
      have Vb1_3 := vv C 3 "sign" rfl (by first | exact .inl rfl | exact .inr (.inl rfl) | exact .inr (.inr rfl)) (by decide) (by decide)
      have Vb1_2 := vv C 2 "signs" rfl (by first | exact .inl rfl | exact .inr (.inl rfl) | exact .inr (.inr rfl)) (by decide) (by decide)
      exact sts_nil) (by
      intro s H0 Cc cl fp C
      have Vb1_3 := vv C 3 "sign" rfl (by first | exact .inl rfl | exact .inr (.inl rfl) | exact .inr (.inr rfl)) (by decide) (by decide)
      have Vb1_2 := vv C 2 "signs" rfl (by first | exact .inl rfl | exact .inr (.inl rfl) | exact .inr (.inr rfl)) (by decide) (by decide)
      exact (se_cmp op_inSg os_inS rfl (Vb1_3 _) (Vb1_2 _))) (fun _ => rfl)) sb_nil rfl) (by decide) (by decide) rfl rfl)))))))
  have q := defG (P := P) (w := w) (base := base) (k := 0) D sc_is_text hb
  exact q
theorem sc_check_text : FnScope N_check_text P_check_text (defScope st_check_text) := ⟨rfl, rfl, rfl, by decide +kernel, rfl, by decide +kernel, by decide +kernel⟩
theorem G_check_text {P : Program} {w : World} {K : PySem.W.Frag} {mg : Str → Option Value} {base : Heap} (T : Tx K mg) (G_is_text : DefG P w K mg base 1 "is_text" 2 g_is_text) : DefG P w K mg base 2 "check_text" 2 g_check_text := by
  obtain ⟨f, fd, D⟩ := T.d_check_text
  have hb : ∀ (cdv : Value) (A : Around) (outer : List Env) (s : Shared) (H : Hp) (E : XK), Cg (bodyX P w K mg base N_check_text "check_text" st_check_text f cdv A outer s H E) 1 → SSs (bodyX P w K mg base N_check_text "check_text" st_check_text f cdv A outer s H E) b_check_text (defBody st_check_text) := by
    intro cdv A outer s H E C
    have V1 := vv C 1 "modulus" rfl (by first | exact .inl rfl | exact .inr (.inl rfl) | exact .inr (.inr rfl)) (by decide) (by decide)
    have V0 := vv C 0 "text" rfl (by first | exact .inl rfl | exact .inr (.inl rfl) | exact .inr (.inr rfl)) (by decide) (by decide)
    have Lis_text := gg C "is_text" rfl
    exact (ss_one (ss_if (st_not (st_tru (se_call C (DefG.to G_is_text) (by decide) denFn_ar Lis_text (sa_cons (V0 _) (sa_cons (V1 _) sa_nil rfl) rfl) (by decide) rfl rfl) fun _ => rfl)) (ss_one ss_never) ss_nil))
  have q := defG (P := P) (w := w) (base := base) (k := 1) D sc_check_text hb
  exact q
theorem sc_sum_of : FnScope N_sum_of P_sum_of (defScope st_sum_of) := ⟨rfl, rfl, rfl, by decide +kernel, rfl, by decide +kernel, by decide +kernel⟩
theorem G_sum_of {P : Program} {w : World} {K : PySem.W.Frag} {mg : Str → Option Value} {base : Heap} (T : Tx K mg) : DefG P w K mg base 1 "sum_of" 3 g_sum_of := by
  obtain ⟨f, fd, D⟩ := T.d_sum_of
  have hb : ∀ (cdv : Value) (A : Around) (outer : List Env) (s : Shared) (H : Hp) (E : XK), Cg (bodyX P w K mg base N_sum_of "sum_of" st_sum_of f cdv A outer s H E) 0 → SSs (bodyX P w K mg base N_sum_of "sum_of" st_sum_of f cdv A outer s H E) b_sum_of (defBody st_sum_of) := by
    intro cdv A outer s H E C
    have V4 := vv C 4 "at" rfl (by first | exact .inl rfl | exact .inr (.inl rfl) | exact .inr (.inr rfl)) (by decide) (by decide)
    have V0 := vv C 0 "modulus" rfl (by first | exact .inl rfl | exact .inr (.inl rfl) | exact .inr (.inr rfl)) (by decide) (by decide)
    have V5 := vv C 5 "sign" rfl (by first | exact .inl rfl | exact .inr (.inl rfl) | exact .inr (.inr rfl)) (by decide) (by decide)
    have V2 := vv C 2 "text" rfl (by first | exact .inl rfl | exact .inr (.inl rfl) | exact .inr (.inr rfl)) (by decide) (by decide)
    have V3 := vv C 3 "total" rfl (by first | exact .inl rfl | exact .inr (.inl rfl) | exact .inr (.inr rfl)) (by decide) (by decide)
    have V1 := vv C 1 "weights" rfl (by first | exact .inl rfl | exact .inr (.inl rfl) | exact .inr (.inr rfl)) (by decide) (by decide)
    have KSIGNS := kk C "SIGNS" T.c_SIGNS rfl (by decide)
    have Lenumerate := gg C "enumerate" rfl
    have Llen := gg C "len" rfl
    exact (ss_cons (ss_set C rfl (by first | exact .inl rfl | exact .inr rfl) se_int rfl (.inl rfl))
      (ss_cons (ss_for C (passes_of rfl) (si_enum Lenumerate T.n_enumerate (sa_cons (V2 _) sa_nil rfl) rfl) (sg_tup C (sgs_cons (sg_name C rfl (by first | exact .inl rfl | exact .inr rfl) (by first | exact .inl rfl | exact .inr rfl)) (sgs_cons (sg_name C rfl (by first | exact .inl rfl | exact .inr rfl) (by first | exact .inl rfl | exact .inr rfl)) sgs_nil rfl) rfl) rfl rfl rfl) (ss_one (ss_aug C op_addIS os_addI no_addI rfl (by first | exact .inl rfl | exact .inr rfl) (se_bin op_mulA os_mul (se_mthS PySem.F.slot_str_index PySem.F.type_str_index mt_idxS os_index (KSIGNS _) (sb_cons (V5 _) sb_nil rfl) rfl rfl rfl rfl rfl) (se_ix ix_seq os_ix (fun _ _ => rfl) (V1 _) (se_bin op_mod os_mod (V4 _) (se_callB (cr_lenA) os_len Llen T.n_len rfl (sb_cons (V1 _) sb_nil rfl) (by decide) (by decide) rfl rfl)))) (.inl rfl))) (fun _ => rfl))
      (ss_one (ss_ret (se_bin op_mod os_mod (V3 _) (V0 _))))))
  have q := defG (P := P) (w := w) (base := base) (k := 0) D sc_sum_of hb
  exact q
theorem sc_check_sum : FnScope N_check_sum P_check_sum (defScope st_check_sum) := ⟨rfl, rfl, rfl, by decide +kernel, rfl, by decide +kernel, by decide +kernel⟩
theorem G_check_sum {P : Program} {w : World} {K : PySem.W.Frag} {mg : Str → Option Value} {base : Heap} (T : Tx K mg) (G_check_code : DefG P w K mg base 2 "check_code" 2 g_check_code) (G_check_text : DefG P w K mg base 2 "check_text" 2 g_check_text) (G_sum_of : DefG P w K mg base 1 "sum_of" 3 g_sum_of) : DefG P w K mg base 3 "check_sum" 3 g_check_sum := by
  obtain ⟨f, fd, D⟩ := T.d_check_sum
  have hb : ∀ (cdv : Value) (A : Around) (outer : List Env) (s : Shared) (H : Hp) (E : XK), Cg (bodyX P w K mg base N_check_sum "check_sum" st_check_sum f cdv A outer s H E) 2 → SSs (bodyX P w K mg base N_check_sum "check_sum" st_check_sum f cdv A outer s H E) b_check_sum (defBody st_check_sum) := by
    intro cdv A outer s H E C
    have V0 := vv C 0 "modulus" rfl (by first | exact .inl rfl | exact .inr (.inl rfl) | exact .inr (.inr rfl)) (by decide) (by decide)
    have V2 := vv C 2 "text" rfl (by first | exact .inl rfl | exact .inr (.inl rfl) | exact .inr (.inr rfl)) (by decide) (by decide)
    have V1 := vv C 1 "weights" rfl (by first | exact .inl rfl | exact .inr (.inl rfl) | exact .inr (.inr rfl)) (by decide) (by decide)
    have Lcheck_code := gg C "check_code" rfl
    have Lcheck_text := gg C "check_text" rfl
    have Lsum_of := gg C "sum_of" rfl
    exact (ss_cons (ss_expr (se_call C (DefG.to G_check_code) (by decide) denFn_ar Lcheck_code (sa_cons (V0 _) (sa_cons (V1 _) sa_nil rfl) rfl) (by decide) rfl rfl) rfl)
      (ss_cons (ss_expr (se_call C (DefG.to G_check_text) (by decide) denFn_ar Lcheck_text (sa_cons (V2 _) (sa_cons (V0 _) sa_nil rfl) rfl) (by decide) rfl rfl) rfl)
      (ss_one (ss_ret (se_call C (DefG.to G_sum_of) (by decide) denFn_ar Lsum_of (sa_cons (V0 _) (sa_cons (V1 _) (sa_cons (V2 _) sa_nil rfl) rfl) rfl) (by decide) rfl rfl)))))
  have q := defG (P := P) (w := w) (base := base) (k := 2) D sc_check_sum hb
  exact q
theorem sc_is_guarded : FnScope N_is_guarded P_is_guarded (defScope st_is_guarded) := ⟨rfl, rfl, rfl, by decide +kernel, rfl, by decide +kernel, by decide +kernel⟩
theorem G_is_guarded {P : Program} {w : World} {K : PySem.W.Frag} {mg : Str → Option Value} {base : Heap} (T : Tx K mg) (G_check_code : DefG P w K mg base 2 "check_code" 2 g_check_code) (G_check_text : DefG P w K mg base 2 "check_text" 2 g_check_text) (G_sum_of : DefG P w K mg base 1 "sum_of" 3 g_sum_of) : DefG P w K mg base 3 "is_guarded" 3 g_is_guarded := by
  obtain ⟨f, fd, D⟩ := T.d_is_guarded
  have hb : ∀ (cdv : Value) (A : Around) (outer : List Env) (s : Shared) (H : Hp) (E : XK), Cg (bodyX P w K mg base N_is_guarded "is_guarded" st_is_guarded f cdv A outer s H E) 2 → SSs (bodyX P w K mg base N_is_guarded "is_guarded" st_is_guarded f cdv A outer s H E) b_is_guarded (defBody st_is_guarded) := by
    intro cdv A outer s H E C
    have V0 := vv C 0 "modulus" rfl (by first | exact .inl rfl | exact .inr (.inl rfl) | exact .inr (.inr rfl)) (by decide) (by decide)
    have V2 := vv C 2 "text" rfl (by first | exact .inl rfl | exact .inr (.inl rfl) | exact .inr (.inr rfl)) (by decide) (by decide)
    have V1 := vv C 1 "weights" rfl (by first | exact .inl rfl | exact .inr (.inl rfl) | exact .inr (.inr rfl)) (by decide) (by decide)
    have Lcheck_code := gg C "check_code" rfl
    have Lcheck_text := gg C "check_text" rfl
    have Lsum_of := gg C "sum_of" rfl
    exact (ss_cons (ss_expr (se_call C (DefG.to G_check_code) (by decide) denFn_ar Lcheck_code (sa_cons (V0 _) (sa_cons (V1 _) sa_nil rfl) rfl) (by decide) rfl rfl) rfl)
      (ss_cons (ss_expr (se_call C (DefG.to G_check_text) (by decide) denFn_ar Lcheck_text (sa_cons (V2 _) (sa_cons (V0 _) sa_nil rfl) rfl) (by decide) rfl rfl) rfl)
      (ss_one (ss_ret (se_cmp (op_eqC C) os_eq rfl (se_call C (DefG.to G_sum_of) (by decide) denFn_ar Lsum_of (sa_cons (V0 _) (sa_cons (V1 _) (sa_cons (V2 _) sa_nil rfl) rfl) rfl) (by decide) rfl rfl) se_int)))))
  have q := defG (P := P) (w := w) (base := base) (k := 2) D sc_is_guarded hb
  exact q
theorem sc_guards_of : FnScope N_guards_of P_guards_of (defScope st_guards_of) := ⟨rfl, rfl, rfl, by decide +kernel, rfl, by decide +kernel, by decide +kernel⟩
theorem G_guards_of {P : Program} {w : World} {K : PySem.W.Frag} {mg : Str → Option Value} {base : Heap} (T : Tx K mg) (G_check_code : DefG P w K mg base 2 "check_code" 2 g_check_code) (G_check_text : DefG P w K mg base 2 "check_text" 2 g_check_text) (G_sum_of : DefG P w K mg base 1 "sum_of" 3 g_sum_of) : DefG P w K mg base 3 "guards_of" 3 g_guards_of := by
  obtain ⟨f, fd, D⟩ := T.d_guards_of
  have hb : ∀ (cdv : Value) (A : Around) (outer : List Env) (s : Shared) (H : Hp) (E : XK), Cg (bodyX P w K mg base N_guards_of "guards_of" st_guards_of f cdv A outer s H E) 2 → SSs (bodyX P w K mg base N_guards_of "guards_of" st_guards_of f cdv A outer s H E) b_guards_of (defBody st_guards_of) := by
    intro cdv A outer s H E C
    have V0 := vv C 0 "modulus" rfl (by first | exact .inl rfl | exact .inr (.inl rfl) | exact .inr (.inr rfl)) (by decide) (by decide)
    have V3 := vv C 3 "signs" rfl (by first | exact .inl rfl | exact .inr (.inl rfl) | exact .inr (.inr rfl)) (by decide) (by decide)
    have V2 := vv C 2 "text" rfl (by first | exact .inl rfl | exact .inr (.inl rfl) | exact .inr (.inr rfl)) (by decide) (by decide)
    have V1 := vv C 1 "weights" rfl (by first | exact .inl rfl | exact .inr (.inl rfl) | exact .inr (.inr rfl)) (by decide) (by decide)
    have KMAX_TEXT := kk C "MAX_TEXT" T.c_MAX_TEXT rfl (by decide)
    have KSIGNS := kk C "SIGNS" T.c_SIGNS rfl (by decide)
    have Lcheck_code := gg C "check_code" rfl
    have Lcheck_text := gg C "check_text" rfl
    have Llen := gg C "len" rfl
    have Ltuple := gg C "tuple" rfl
    exact (ss_cons (ss_expr (se_call C (DefG.to G_check_code) (by decide) denFn_ar Lcheck_code (sa_cons (V0 _) (sa_cons (V1 _) sa_nil rfl) rfl) (by decide) rfl rfl) rfl)
      (ss_cons (ss_expr (se_call C (DefG.to G_check_text) (by decide) denFn_ar Lcheck_text (sa_cons (V2 _) (sa_cons (V0 _) sa_nil rfl) rfl) (by decide) rfl rfl) rfl)
      (ss_cons (ss_if (st_cmp (op_eqC C) os_eq rfl (se_callB (cr_lenA) os_len Llen T.n_len rfl (sb_cons (V2 _) sb_nil rfl) (by decide) (by decide) rfl rfl) (KMAX_TEXT _)) (ss_one ss_never) ss_nil)
      (ss_cons (ss_set C rfl (by first | exact .inl rfl | exact .inr rfl) (se_slice (KSIGNS _) so_none (so_some (V0 _))) rfl (.inl rfl))
      (ss_one (ss_ret (se_callTy (call_tuple_of) os_tup Ltuple T.n_tuple rfl (sb_cons (se_lcC [("sign", 4)] [4] C (si_val (V3 _)) (by kernel_rfl) (by decide) (by
      intro s H0 Cc cl fp C
      have Vb1_0 := vv C 0 "modulus" rfl (by first | exact .inl rfl | exact .inr (.inl rfl) | exact .inr (.inr rfl)) (by decide) (by decide)
      have Vb1_4 := vv C 4 "sign" rfl (by first | exact .inl rfl | exact .inr (.inl rfl) | exact .inr (.inr rfl)) (by decide) (by decide)
      have Vb1_2 := vv C 2 "text" rfl (by first | exact .inl rfl | exact .inr (.inl rfl) | exact .inr (.inr rfl)) (by decide) (by decide)
      have Vb1_1 := vv C 1 "weights" rfl (by first | exact .inl rfl | exact .inr (.inl rfl) | exact .inr (.inr rfl)) (by decide) (by decide)
      have Lb1_sum_of := gg C "sum_of" rfl
      exact (sg_name C rfl (by first | exact .inl rfl | exact .inr rfl) (by first | exact .inl rfl | exact .inr rfl))) (by
      intro s H0 Cc cl fp C
      have Vb1_0 := vv C 0 "modulus" rfl (by first | exact .inl rfl | exact .inr (.inl rfl) | exact .inr (.inr rfl)) (by decide) (by decide)
      have Vb1_4 := vv C 4 "sign" rfl (by first | exact .inl rfl | exact .inr (.inl rfl) | exact .inr (.inr rfl)) (by decide) (by decide)
      have Vb1_2 := vv C 2 "text" rfl (by first | exact .inl rfl | exact .inr (.inl rfl) | exact .inr (.inr rfl)) (by decide) (by decide)
      have Vb1_1 := vv C 1 "weights" rfl (by first | exact .inl rfl | exact .inr (.inl rfl) | exact .inr (.inr rfl)) (by decide) (by decide)
      have Lb1_sum_of := gg C "sum_of" rfl
      exact (sts_one (st_cmp (op_eqC C) os_eq rfl (se_call C (DefG.to G_sum_of) (by decide) denFn_ar Lb1_sum_of (sa_cons (Vb1_0 _) (sa_cons (Vb1_1 _) (sa_cons (se_bin op_addA os_add (Vb1_2 _) (Vb1_4 _)) sa_nil rfl) rfl) rfl) (by decide) rfl rfl) se_int))) (by
      intro s H0 Cc cl fp C
      have Vb1_0 := vv C 0 "modulus" rfl (by first | exact .inl rfl | exact .inr (.inl rfl) | exact .inr (.inr rfl)) (by decide) (by decide)
      have Vb1_4 := vv C 4 "sign" rfl (by first | exact .inl rfl | exact .inr (.inl rfl) | exact .inr (.inr rfl)) (by decide) (by decide)
      have Vb1_2 := vv C 2 "text" rfl (by first | exact .inl rfl | exact .inr (.inl rfl) | exact .inr (.inr rfl)) (by decide) (by decide)
      have Vb1_1 := vv C 1 "weights" rfl (by first | exact .inl rfl | exact .inr (.inl rfl) | exact .inr (.inr rfl)) (by decide) (by decide)
      have Lb1_sum_of := gg C "sum_of" rfl
      exact (Vb1_4 _)) (fun _ => rfl)) sb_nil rfl) (by decide) (by decide) rfl rfl)))))))
  have q := defG (P := P) (w := w) (base := base) (k := 2) D sc_guards_of hb
  exact q
theorem sc_divisor : FnScope N_divisor P_divisor (defScope st_divisor) := ⟨rfl, rfl, rfl, by decide +kernel, rfl, by decide +kernel, by decide +kernel⟩
theorem G_divisor {P : Program} {w : World} {K : PySem.W.Frag} {mg : Str → Option Value} {base : Heap} (T : Tx K mg) : DefG P w K mg base 1 "divisor" 2 g_divisor := by
  obtain ⟨f, fd, D⟩ := T.d_divisor
  have hb : ∀ (cdv : Value) (A : Around) (outer : List Env) (s : Shared) (H : Hp) (E : XK), Cg (bodyX P w K mg base N_divisor "divisor" st_divisor f cdv A outer s H E) 0 → SSs (bodyX P w K mg base N_divisor "divisor" st_divisor f cdv A outer s H E) b_divisor (defBody st_divisor) := by
    intro cdv A outer s H E C
    have V0 := vv C 0 "one" rfl (by first | exact .inl rfl | exact .inr (.inl rfl) | exact .inr (.inr rfl)) (by decide) (by decide)
    have V1 := vv C 1 "other" rfl (by first | exact .inl rfl | exact .inr (.inl rfl) | exact .inr (.inr rfl)) (by decide) (by decide)
    exact (ss_cons (ss_while (passes_of rfl) (st_tru (V1 _) fun _ => rfl) (ss_one (ss_par C rfl rfl (by decide) rfl rfl (sa_cons (V1 _) (sa_cons (se_bin op_mod os_mod (V0 _) (V1 _)) sa_nil rfl) rfl) rfl rfl)))
      (ss_one (ss_ret (V0 _))))
  have q := defG (P := P) (w := w) (base := base) (k := 0) D sc_divisor hb
  exact q
theorem sc_signs_of : FnScope N_signs_of P_signs_of (defScope st_signs_of) := ⟨rfl, rfl, rfl, by decide +kernel, rfl, by decide +kernel, by decide +kernel⟩
theorem G_signs_of {P : Program} {w : World} {K : PySem.W.Frag} {mg : Str → Option Value} {base : Heap} (T : Tx K mg) : DefG P w K mg base 1 "signs_of" 1 g_signs_of := by
  obtain ⟨f, fd, D⟩ := T.d_signs_of
  have hb : ∀ (cdv : Value) (A : Around) (outer : List Env) (s : Shared) (H : Hp) (E : XK), Cg (bodyX P w K mg base N_signs_of "signs_of" st_signs_of f cdv A outer s H E) 0 → SSs (bodyX P w K mg base N_signs_of "signs_of" st_signs_of f cdv A outer s H E) b_signs_of (defBody st_signs_of) := by
    intro cdv A outer s H E C
    have V0 := vv C 0 "modulus" rfl (by first | exact .inl rfl | exact .inr (.inl rfl) | exact .inr (.inr rfl)) (by decide) (by decide)
    have KSIGNS := kk C "SIGNS" T.c_SIGNS rfl (by decide)
    have Llen := gg C "len" rfl
    have Lmin := gg C "min" rfl
    exact (ss_one (ss_ret (se_callB (call_min2 rfl) os_min Lmin T.n_min rfl (sb_cons (V0 _) (sb_cons (se_callB (cr_lenA) os_len Llen T.n_len rfl (sb_cons (KSIGNS _) sb_nil rfl) (by decide) (by decide) rfl rfl) sb_nil rfl) rfl) (by decide) (by decide) rfl rfl)))
  have q := defG (P := P) (w := w) (base := base) (k := 0) D sc_signs_of hb
  exact q
theorem sc_judge_changes : FnScope N_judge_changes P_judge_changes (defScope st_judge_changes) := ⟨rfl, rfl, rfl, by decide +kernel, rfl, by decide +kernel, by decide +kernel⟩
theorem G_judge_changes {P : Program} {w : World} {K : PySem.W.Frag} {mg : Str → Option Value} {base : Heap} (T : Tx K mg) (G_check_code : DefG P w K mg base 2 "check_code" 2 g_check_code) (G_divisor : DefG P w K mg base 1 "divisor" 2 g_divisor) (G_signs_of : DefG P w K mg base 1 "signs_of" 1 g_signs_of) : DefG P w K mg base 3 "judge_changes" 2 g_judge_changes := by
  obtain ⟨f, fd, D⟩ := T.d_judge_changes
  have hb : ∀ (cdv : Value) (A : Around) (outer : List Env) (s : Shared) (H : Hp) (E : XK), Cg (bodyX P w K mg base N_judge_changes "judge_changes" st_judge_changes f cdv A outer s H E) 2 → SSs (bodyX P w K mg base N_judge_changes "judge_changes" st_judge_changes f cdv A outer s H E) b_judge_changes (defBody st_judge_changes) := by
    intro cdv A outer s H E C
    have V2 := vv C 2 "at" rfl (by first | exact .inl rfl | exact .inr (.inl rfl) | exact .inr (.inr rfl)) (by decide) (by decide)
    have V4 := vv C 4 "common" rfl (by first | exact .inl rfl | exact .inr (.inl rfl) | exact .inr (.inr rfl)) (by decide) (by decide)
    have V0 := vv C 0 "modulus" rfl (by first | exact .inl rfl | exact .inr (.inl rfl) | exact .inr (.inr rfl)) (by decide) (by decide)
    have V3 := vv C 3 "weight" rfl (by first | exact .inl rfl | exact .inr (.inl rfl) | exact .inr (.inr rfl)) (by decide) (by decide)
    have V1 := vv C 1 "weights" rfl (by first | exact .inl rfl | exact .inr (.inl rfl) | exact .inr (.inr rfl)) (by decide) (by decide)
    have Lcheck_code := gg C "check_code" rfl
    have Ldivisor := gg C "divisor" rfl
    have Lenumerate := gg C "enumerate" rfl
    have Lsigns_of := gg C "signs_of" rfl
    exact (ss_cons (ss_expr (se_call C (DefG.to G_check_code) (by decide) denFn_ar Lcheck_code (sa_cons (V0 _) (sa_cons (V1 _) sa_nil rfl) rfl) (by decide) rfl rfl) rfl)
      (ss_cons (ss_for C (passes_of rfl) (si_enum Lenumerate T.n_enumerate (sa_cons (V1 _) sa_nil rfl) rfl) (sg_tup C (sgs_cons (sg_name C rfl (by first | exact .inl rfl | exact .inr rfl) (by first | exact .inl rfl | exact .inr rfl)) (sgs_cons (sg_name C rfl (by first | exact .inl rfl | exact .inr rfl) (by first | exact .inl rfl | exact .inr rfl)) sgs_nil rfl) rfl) rfl rfl rfl) (ss_cons (ss_set C rfl (by first | exact .inl rfl | exact .inr rfl) (se_call C (DefG.to G_divisor) (by decide) denFn_ar Ldivisor (sa_cons (V0 _) (sa_cons (V3 _) sa_nil rfl) rfl) (by decide) rfl rfl) rfl (.inl rfl))
      (ss_one (ss_if (st_sw (sw_and (st_cmp op_gtA os_gt rfl (V4 _) se_int) (sw_and1 (st_cmp op_ltA os_lt rfl (se_bin op_fdivW os_fdiv (V0 _) (V4 _)) (se_call C (DefG.to G_signs_of) (by decide) denFn_ar Lsigns_of (sa_cons (V0 _) sa_nil rfl) (by decide) rfl rfl))))) (ss_one (ss_ret (se_tup (sa_cons (se_strL (by decide +kernel)) (sa_cons (V2 _) (sa_cons se_int (sa_cons (se_bin op_fdivW os_fdiv (V0 _) (V4 _)) sa_nil rfl) rfl) rfl) rfl)))) ss_nil))) (fun _ => rfl))
      (ss_one (ss_ret (se_tup (sa_cons (se_strL (by decide +kernel)) sa_nil rfl))))))
  have q := defG (P := P) (w := w) (base := base) (k := 2) D sc_judge_changes hb
  exact q
theorem sc_judge_turns : FnScope N_judge_turns P_judge_turns (defScope st_judge_turns) := ⟨rfl, rfl, rfl, by decide +kernel, rfl, by decide +kernel, by decide +kernel⟩
theorem G_judge_turns {P : Program} {w : World} {K : PySem.W.Frag} {mg : Str → Option Value} {base : Heap} (T : Tx K mg) (G_check_code : DefG P w K mg base 2 "check_code" 2 g_check_code) (G_divisor : DefG P w K mg base 1 "divisor" 2 g_divisor) (G_signs_of : DefG P w K mg base 1 "signs_of" 1 g_signs_of) : DefG P w K mg base 3 "judge_turns" 2 g_judge_turns := by
  obtain ⟨f, fd, D⟩ := T.d_judge_turns
  have hb : ∀ (cdv : Value) (A : Around) (outer : List Env) (s : Shared) (H : Hp) (E : XK), Cg (bodyX P w K mg base N_judge_turns "judge_turns" st_judge_turns f cdv A outer s H E) 2 → SSs (bodyX P w K mg base N_judge_turns "judge_turns" st_judge_turns f cdv A outer s H E) b_judge_turns (defBody st_judge_turns) := by
    intro cdv A outer s H E C
    have V2 := vv C 2 "at" rfl (by first | exact .inl rfl | exact .inr (.inl rfl) | exact .inr (.inr rfl)) (by decide) (by decide)
    have V4 := vv C 4 "common" rfl (by first | exact .inl rfl | exact .inr (.inl rfl) | exact .inr (.inr rfl)) (by decide) (by decide)
    have V3 := vv C 3 "gap" rfl (by first | exact .inl rfl | exact .inr (.inl rfl) | exact .inr (.inr rfl)) (by decide) (by decide)
    have V0 := vv C 0 "modulus" rfl (by first | exact .inl rfl | exact .inr (.inl rfl) | exact .inr (.inr rfl)) (by decide) (by decide)
    have V1 := vv C 1 "weights" rfl (by first | exact .inl rfl | exact .inr (.inl rfl) | exact .inr (.inr rfl)) (by decide) (by decide)
    have Lcheck_code := gg C "check_code" rfl
    have Ldivisor := gg C "divisor" rfl
    have Llen := gg C "len" rfl
    have Lrange := gg C "range" rfl
    have Lsigns_of := gg C "signs_of" rfl
    exact (ss_cons (ss_expr (se_call C (DefG.to G_check_code) (by decide) denFn_ar Lcheck_code (sa_cons (V0 _) (sa_cons (V1 _) sa_nil rfl) rfl) (by decide) rfl rfl) rfl)
      (ss_cons (ss_for C (passes_of rfl) (si_range1 Lrange T.n_range (sb_cons (se_callB (cr_lenA) os_len Llen T.n_len rfl (sb_cons (V1 _) sb_nil rfl) (by decide) (by decide) rfl rfl) sb_nil rfl) rfl) (sg_name C rfl (by first | exact .inl rfl | exact .inr rfl) (by first | exact .inl rfl | exact .inr rfl)) (ss_cons (ss_set C rfl (by first | exact .inl rfl | exact .inr rfl) (se_bin op_mod os_mod (se_bin op_sub os_sub (se_ix ix_seq os_ix (fun _ _ => rfl) (V1 _) (V2 _)) (se_ix ix_seq os_ix (fun _ _ => rfl) (V1 _) (se_bin op_mod os_mod (se_bin op_addA os_add (V2 _) se_int) (se_callB (cr_lenA) os_len Llen T.n_len rfl (sb_cons (V1 _) sb_nil rfl) (by decide) (by decide) rfl rfl)))) (V0 _)) rfl (.inl rfl))
      (ss_cons (ss_set C rfl (by first | exact .inl rfl | exact .inr rfl) (se_call C (DefG.to G_divisor) (by decide) denFn_ar Ldivisor (sa_cons (V0 _) (sa_cons (V3 _) sa_nil rfl) rfl) (by decide) rfl rfl) rfl (.inl rfl))
      (ss_one (ss_if (st_sw (sw_and (st_cmp op_gtA os_gt rfl (V4 _) se_int) (sw_and1 (st_cmp op_ltA os_lt rfl (se_bin op_fdivW os_fdiv (V0 _) (V4 _)) (se_call C (DefG.to G_signs_of) (by decide) denFn_ar Lsigns_of (sa_cons (V0 _) sa_nil rfl) (by decide) rfl rfl))))) (ss_one (ss_ret (se_tup (sa_cons (se_strL (by decide +kernel)) (sa_cons (V2 _) (sa_cons se_int (sa_cons (se_bin op_fdivW os_fdiv (V0 _) (V4 _)) sa_nil rfl) rfl) rfl) rfl)))) ss_nil)))) (fun _ => rfl))
      (ss_one (ss_ret (se_tup (sa_cons (se_strL (by decide +kernel)) sa_nil rfl))))))
  have q := defG (P := P) (w := w) (base := base) (k := 2) D sc_judge_turns hb
  exact q
theorem sc_accept_missed : FnScope N_accept_missed P_accept_missed (defScope st_accept_missed) := ⟨rfl, rfl, rfl, by decide +kernel, rfl, by decide +kernel, by decide +kernel⟩
theorem G_accept_missed {P : Program} {w : World} {K : PySem.W.Frag} {mg : Str → Option Value} {base : Heap} (T : Tx K mg) (G_check_code : DefG P w K mg base 2 "check_code" 2 g_check_code) (G_is_text : DefG P w K mg base 1 "is_text" 2 g_is_text) (G_sum_of : DefG P w K mg base 1 "sum_of" 3 g_sum_of) : DefG P w K mg base 3 "accept_missed" 4 g_accept_missed := by
  obtain ⟨f, fd, D⟩ := T.d_accept_missed
  have hb : ∀ (cdv : Value) (A : Around) (outer : List Env) (s : Shared) (H : Hp) (E : XK), Cg (bodyX P w K mg base N_accept_missed "accept_missed" st_accept_missed f cdv A outer s H E) 2 → SSs (bodyX P w K mg base N_accept_missed "accept_missed" st_accept_missed f cdv A outer s H E) b_accept_missed (defBody st_accept_missed) := by
    intro cdv A outer s H E C
    have V2 := vv C 2 "first" rfl (by first | exact .inl rfl | exact .inr (.inl rfl) | exact .inr (.inr rfl)) (by decide) (by decide)
    have V0 := vv C 0 "modulus" rfl (by first | exact .inl rfl | exact .inr (.inl rfl) | exact .inr (.inr rfl)) (by decide) (by decide)
    have V4 := vv C 4 "places" rfl (by first | exact .inl rfl | exact .inr (.inl rfl) | exact .inr (.inr rfl)) (by decide) (by decide)
    have V3 := vv C 3 "second" rfl (by first | exact .inl rfl | exact .inr (.inl rfl) | exact .inr (.inr rfl)) (by decide) (by decide)
    have V5 := vv C 5 "turned" rfl (by first | exact .inl rfl | exact .inr (.inl rfl) | exact .inr (.inr rfl)) (by decide) (by decide)
    have V1 := vv C 1 "weights" rfl (by first | exact .inl rfl | exact .inr (.inl rfl) | exact .inr (.inr rfl)) (by decide) (by decide)
    have Lcheck_code := gg C "check_code" rfl
    have Lis_text := gg C "is_text" rfl
    have Llen := gg C "len" rfl
    have Lrange := gg C "range" rfl
    have Lsum_of := gg C "sum_of" rfl
    exact (ss_cons (ss_expr (se_call C (DefG.to G_check_code) (by decide) denFn_ar Lcheck_code (sa_cons (V0 _) (sa_cons (V1 _) sa_nil rfl) rfl) (by decide) rfl rfl) rfl)
      (ss_cons (ss_if (st_sw (sw_or (st_not (st_tru (se_call C (DefG.to G_is_text) (by decide) denFn_ar Lis_text (sa_cons (V2 _) (sa_cons (V0 _) sa_nil rfl) rfl) (by decide) rfl rfl) fun _ => rfl)) (sw_or (st_not (st_tru (se_call C (DefG.to G_is_text) (by decide) denFn_ar Lis_text (sa_cons (V3 _) (sa_cons (V0 _) sa_nil rfl) rfl) (by decide) rfl rfl) fun _ => rfl)) (sw_or1 (st_cmp (op_neC C) os_ne rfl (se_callB (cr_lenA) os_len Llen T.n_len rfl (sb_cons (V2 _) sb_nil rfl) (by decide) (by decide) rfl rfl) (se_callB (cr_lenA) os_len Llen T.n_len rfl (sb_cons (V3 _) sb_nil rfl) (by decide) (by decide) rfl rfl)))))) (ss_one ss_never) ss_nil)
      (ss_cons (ss_setLcC [("at", 6)] [6] C rfl rfl rfl (si_range1 Lrange T.n_range (sb_cons (se_callB (cr_lenA) os_len Llen T.n_len rfl (sb_cons (V2 _) sb_nil rfl) (by decide) (by decide) rfl rfl) sb_nil rfl) rfl) (by kernel_rfl) (by decide) (by
      intro s H0 Cc cl fp C
      have Vb1_6 := vv C 6 "at" rfl (by first | exact .inl rfl | exact .inr (.inl rfl) | exact .inr (.inr rfl)) (by decide) (by decide)
      have Vb1_2 := vv C 2 "first" rfl (by first | exact .inl rfl | exact .inr (.inl rfl) | exact .inr (.inr rfl)) (by decide) (by decide)
      have Vb1_3 := vv C 3 "second" rfl (by first | exact .inl rfl | exact .inr (.inl rfl) | exact .inr (.inr rfl)) (by decide) (by decide)
      exact (sg_name C rfl (by first | exact .inl rfl | exact .inr rfl) (by first | exact .inl rfl | exact .inr rfl))) (by
      intro s H0 Cc cl fp C
      have Vb1_6 := vv C 6 "at" rfl (by first | exact .inl rfl | exact .inr (.inl rfl) | exact .inr (.inr rfl)) (by decide) (by decide)
      have Vb1_2 := vv C 2 "first" rfl (by first | exact .inl rfl | exact .inr (.inl rfl) | exact .inr (.inr rfl)) (by decide) (by decide)
      have Vb1_3 := vv C 3 "second" rfl (by first | exact .inl rfl | exact .inr (.inl rfl) | exact .inr (.inr rfl)) (by decide) (by decide)
      exact (sts_one (st_cmp (op_neC C) os_ne rfl (se_ix ix_seq os_ix (fun _ _ => rfl) (Vb1_2 _) (Vb1_6 _)) (se_ix ix_seq os_ix (fun _ _ => rfl) (Vb1_3 _) (Vb1_6 _))))) (by
      intro s H0 Cc cl fp C
      have Vb1_6 := vv C 6 "at" rfl (by first | exact .inl rfl | exact .inr (.inl rfl) | exact .inr (.inr rfl)) (by decide) (by decide)
      have Vb1_2 := vv C 2 "first" rfl (by first | exact .inl rfl | exact .inr (.inl rfl) | exact .inr (.inr rfl)) (by decide) (by decide)
      have Vb1_3 := vv C 3 "second" rfl (by first | exact .inl rfl | exact .inr (.inl rfl) | exact .inr (.inr rfl)) (by decide) (by decide)
      exact (Vb1_6 _)) (fun _ => rfl))
      (ss_cons (ss_set C rfl (by first | exact .inl rfl | exact .inr rfl) (se_and (se_cmp (op_eqC C) os_eq rfl (se_callB (cr_lenA) os_len Llen T.n_len rfl (sb_cons (V4 _) sb_nil rfl) (by decide) (by decide) rfl rfl) se_int) (se_and (se_cmp (op_eqC C) os_eq rfl (se_ix ix_seq os_ix (fun _ _ => rfl) (V4 _) se_int) (se_bin op_addA os_add (se_ix ix_seq os_ix (fun _ _ => rfl) (V4 _) se_int) se_int)) (se_one (se_cmp (op_eqC C) os_eq rfl (se_ix ix_seq os_ix (fun _ _ => rfl) (V2 _) (se_ix ix_seq os_ix (fun _ _ => rfl) (V4 _) se_int)) (se_ix ix_seq os_ix (fun _ _ => rfl) (V3 _) (se_ix ix_seq os_ix (fun _ _ => rfl) (V4 _) se_int)))))) rfl (.inl rfl))
      (ss_cons (ss_if (st_sw (sw_and (st_cmp (op_neC C) os_ne rfl (se_callB (cr_lenA) os_len Llen T.n_len rfl (sb_cons (V4 _) sb_nil rfl) (by decide) (by decide) rfl rfl) se_int) (sw_and1 (st_not (st_sw (sw_and (st_tru (V5 _) fun _ => rfl) (sw_and1 (st_cmp (op_eqC C) os_eq rfl (se_ix ix_seq os_ix (fun _ _ => rfl) (V2 _) (se_ix ix_seq os_ix (fun _ _ => rfl) (V4 _) se_int)) (se_ix ix_seq os_ix (fun _ _ => rfl) (V3 _) (se_ix ix_seq os_ix (fun _ _ => rfl) (V4 _) se_int)))))))))) (ss_one ss_never) ss_nil)
      (ss_one (ss_if (st_cmp (op_neC C) os_ne rfl (se_call C (DefG.to G_sum_of) (by decide) denFn_ar Lsum_of (sa_cons (V0 _) (sa_cons (V1 _) (sa_cons (V2 _) sa_nil rfl) rfl) rfl) (by decide) rfl rfl) (se_call C (DefG.to G_sum_of) (by decide) denFn_ar Lsum_of (sa_cons (V0 _) (sa_cons (V1 _) (sa_cons (V3 _) sa_nil rfl) rfl) rfl) (by decide) rfl rfl)) (ss_one ss_never) ss_nil)))))))
  have q := defG (P := P) (w := w) (base := base) (k := 2) D sc_accept_missed hb
  exact q
theorem sc_repairs : FnScope N_repairs P_repairs (defScope st_repairs) := ⟨rfl, rfl, rfl, by decide +kernel, rfl, by decide +kernel, by decide +kernel⟩
theorem G_repairs {P : Program} {w : World} {K : PySem.W.Frag} {mg : Str → Option Value} {base : Heap} (T : Tx K mg) (G_check_code : DefG P w K mg base 2 "check_code" 2 g_check_code) (G_check_text : DefG P w K mg base 2 "check_text" 2 g_check_text) (G_sum_of : DefG P w K mg base 1 "sum_of" 3 g_sum_of) (G_signs_of : DefG P w K mg base 1 "signs_of" 1 g_signs_of) : DefG P w K mg base 3 "repairs" 3 g_repairs := by
  obtain ⟨f, fd, D⟩ := T.d_repairs
  have hb : ∀ (cdv : Value) (A : Around) (outer : List Env) (s : Shared) (H : Hp) (E : XK), Cg (bodyX P w K mg base N_repairs "repairs" st_repairs f cdv A outer s H E) 2 → SSs (bodyX P w K mg base N_repairs "repairs" st_repairs f cdv A outer s H E) b_repairs (defBody st_repairs) := by
    intro cdv A outer s H E C
    have V5 := vv C 5 "at" rfl (by first | exact .inl rfl | exact .inr (.inl rfl) | exact .inr (.inr rfl)) (by decide) (by decide)
    have V4 := vv C 4 "found" rfl (by first | exact .inl rfl | exact .inr (.inl rfl) | exact .inr (.inr rfl)) (by decide) (by decide)
    have V0 := vv C 0 "modulus" rfl (by first | exact .inl rfl | exact .inr (.inl rfl) | exact .inr (.inr rfl)) (by decide) (by decide)
    have V8 := vv C 8 "number" rfl (by first | exact .inl rfl | exact .inr (.inl rfl) | exact .inr (.inr rfl)) (by decide) (by decide)
    have V6 := vv C 6 "sign" rfl (by first | exact .inl rfl | exact .inr (.inl rfl) | exact .inr (.inr rfl)) (by decide) (by decide)
    have V2 := vv C 2 "text" rfl (by first | exact .inl rfl | exact .inr (.inl rfl) | exact .inr (.inr rfl)) (by decide) (by decide)
    have V3 := vv C 3 "total" rfl (by first | exact .inl rfl | exact .inr (.inl rfl) | exact .inr (.inr rfl)) (by decide) (by decide)
    have V7 := vv C 7 "weight" rfl (by first | exact .inl rfl | exact .inr (.inl rfl) | exact .inr (.inr rfl)) (by decide) (by decide)
    have V1 := vv C 1 "weights" rfl (by first | exact .inl rfl | exact .inr (.inl rfl) | exact .inr (.inr rfl)) (by decide) (by decide)
    have KSIGNS := kk C "SIGNS" T.c_SIGNS rfl (by decide)
    have Lcheck_code := gg C "check_code" rfl
    have Lcheck_text := gg C "check_text" rfl
    have Lenumerate := gg C "enumerate" rfl
    have Llen := gg C "len" rfl
    have Lrange := gg C "range" rfl
    have Lsigns_of := gg C "signs_of" rfl
    have Lsorted := gg C "sorted" rfl
    have Lsum_of := gg C "sum_of" rfl
    have Ltuple := gg C "tuple" rfl
    exact (ss_cons (ss_expr (se_call C (DefG.to G_check_code) (by decide) denFn_ar Lcheck_code (sa_cons (V0 _) (sa_cons (V1 _) sa_nil rfl) rfl) (by decide) rfl rfl) rfl)
      (ss_cons (ss_expr (se_call C (DefG.to G_check_text) (by decide) denFn_ar Lcheck_text (sa_cons (V2 _) (sa_cons (V0 _) sa_nil rfl) rfl) (by decide) rfl rfl) rfl)
      (ss_cons (ss_set C rfl (by first | exact .inl rfl | exact .inr rfl) (se_call C (DefG.to G_sum_of) (by decide) denFn_ar Lsum_of (sa_cons (V0 _) (sa_cons (V1 _) (sa_cons (V2 _) sa_nil rfl) rfl) rfl) (by decide) rfl rfl) rfl (.inl rfl))
      (ss_cons (ss_if (st_cmp (op_eqC C) os_eq rfl (V3 _) se_int) (ss_one (ss_ret (se_tup (sa_cons (V2 _) sa_nil rfl)))) ss_nil)
      (ss_cons (ss_set C rfl (by first | exact .inl rfl | exact .inr rfl) (se_lst sa_nil) rfl (.inl rfl))
      (ss_cons (ss_for C (passes_of rfl) (si_enum Lenumerate T.n_enumerate (sa_cons (V2 _) sa_nil rfl) rfl) (sg_tup C (sgs_cons (sg_name C rfl (by first | exact .inl rfl | exact .inr rfl) (by first | exact .inl rfl | exact .inr rfl)) (sgs_cons (sg_name C rfl (by first | exact .inl rfl | exact .inr rfl) (by first | exact .inl rfl | exact .inr rfl)) sgs_nil rfl) rfl) rfl rfl rfl) (ss_cons (ss_set C rfl (by first | exact .inl rfl | exact .inr rfl) (se_ix ix_seq os_ix (fun _ _ => rfl) (V1 _) (se_bin op_mod os_mod (V5 _) (se_callB (cr_lenA) os_len Llen T.n_len rfl (sb_cons (V1 _) sb_nil rfl) (by decide) (by decide) rfl rfl))) rfl (.inl rfl))
      (ss_one (ss_for C (passes_of rfl) (si_range1 Lrange T.n_range (sb_cons (se_call C (DefG.to G_signs_of) (by decide) denFn_ar Lsigns_of (sa_cons (V0 _) sa_nil rfl) (by decide) rfl rfl) sb_nil rfl) rfl) (sg_name C rfl (by first | exact .inl rfl | exact .inr rfl) (by first | exact .inl rfl | exact .inr rfl)) (ss_one (ss_if (st_cmp (op_eqC C) os_eq rfl (se_bin op_mod os_mod (se_bin op_addA os_add (V3 _) (se_bin op_mulA os_mul (V7 _) (se_bin op_sub os_sub (V8 _) (se_mthS PySem.F.slot_str_index PySem.F.type_str_index mt_idxS os_index (KSIGNS _) (sb_cons (V6 _) sb_nil rfl) rfl rfl rfl rfl rfl)))) (V0 _)) se_int) (ss_one (ss_app (pe_var rfl (by first | exact .inl rfl | exact .inr (.inl rfl) | exact .inr (.inr rfl)) (by decide) (by decide)) (se_bin op_addA os_add (se_bin op_addA os_add (se_slice (V2 _) so_none (so_some (V5 _))) (se_ix ix_seq os_ix (fun _ _ => rfl) (KSIGNS _) (V8 _))) (se_slice (V2 _) (so_some (se_bin op_addA os_add (V5 _) se_int)) so_none)) rfl rfl rfl rfl rfl)) ss_nil)) (fun _ => rfl)))) (fun _ => rfl))
      (ss_one (ss_ret (se_callTy (call_tuple_of) os_tup Ltuple T.n_tuple rfl (sb_cons (se_callB (cr_srtA rfl) os_srt Lsorted T.n_sorted rfl (sb_cons (V4 _) sb_nil rfl) (by decide) (by decide) rfl rfl) sb_nil rfl) (by decide) (by decide) rfl rfl)))))))))
  have q := defG (P := P) (w := w) (base := base) (k := 2) D sc_repairs hb
  exact q
theorem sc_turn_repairs : FnScope N_turn_repairs P_turn_repairs (defScope st_turn_repairs) := ⟨rfl, rfl, rfl, by decide +kernel, rfl, by decide +kernel, by decide +kernel⟩
theorem G_turn_repairs {P : Program} {w : World} {K : PySem.W.Frag} {mg : Str → Option Value} {base : Heap} (T : Tx K mg) (G_check_code : DefG P w K mg base 2 "check_code" 2 g_check_code) (G_check_text : DefG P w K mg base 2 "check_text" 2 g_check_text) (G_sum_of : DefG P w K mg base 1 "sum_of" 3 g_sum_of) : DefG P w K mg base 3 "turn_repairs" 3 g_turn_repairs := by
  obtain ⟨f, fd, D⟩ := T.d_turn_repairs
  have hb : ∀ (cdv : Value) (A : Around) (outer : List Env) (s : Shared) (H : Hp) (E : XK), Cg (bodyX P w K mg base N_turn_repairs "turn_repairs" st_turn_repairs f cdv A outer s H E) 2 → SSs (bodyX P w K mg base N_turn_repairs "turn_repairs" st_turn_repairs f cdv A outer s H E) b_turn_repairs (defBody st_turn_repairs) := by
    intro cdv A outer s H E C
    have V4 := vv C 4 "at" rfl (by first | exact .inl rfl | exact .inr (.inl rfl) | exact .inr (.inr rfl)) (by decide) (by decide)
    have V3 := vv C 3 "found" rfl (by first | exact .inl rfl | exact .inr (.inl rfl) | exact .inr (.inr rfl)) (by decide) (by decide)
    have V0 := vv C 0 "modulus" rfl (by first | exact .inl rfl | exact .inr (.inl rfl) | exact .inr (.inr rfl)) (by decide) (by decide)
    have V5 := vv C 5 "other" rfl (by first | exact .inl rfl | exact .inr (.inl rfl) | exact .inr (.inr rfl)) (by decide) (by decide)
    have V2 := vv C 2 "text" rfl (by first | exact .inl rfl | exact .inr (.inl rfl) | exact .inr (.inr rfl)) (by decide) (by decide)
    have V1 := vv C 1 "weights" rfl (by first | exact .inl rfl | exact .inr (.inl rfl) | exact .inr (.inr rfl)) (by decide) (by decide)
    have Lcheck_code := gg C "check_code" rfl
    have Lcheck_text := gg C "check_text" rfl
    have Llen := gg C "len" rfl
    have Lrange := gg C "range" rfl
    have Lsorted := gg C "sorted" rfl
    have Lsum_of := gg C "sum_of" rfl
    have Ltuple := gg C "tuple" rfl
    exact (ss_cons (ss_expr (se_call C (DefG.to G_check_code) (by decide) denFn_ar Lcheck_code (sa_cons (V0 _) (sa_cons (V1 _) sa_nil rfl) rfl) (by decide) rfl rfl) rfl)
      (ss_cons (ss_expr (se_call C (DefG.to G_check_text) (by decide) denFn_ar Lcheck_text (sa_cons (V2 _) (sa_cons (V0 _) sa_nil rfl) rfl) (by decide) rfl rfl) rfl)
      (ss_cons (ss_set C rfl (by first | exact .inl rfl | exact .inr rfl) se_dct0 rfl (.inl rfl))
      (ss_cons (ss_for C (passes_of rfl) (si_range1 Lrange T.n_range (sb_cons (se_bin op_sub os_sub (se_callB (cr_lenA) os_len Llen T.n_len rfl (sb_cons (V2 _) sb_nil rfl) (by decide) (by decide) rfl rfl) se_int) sb_nil rfl) rfl) (sg_name C rfl (by first | exact .inl rfl | exact .inr rfl) (by first | exact .inl rfl | exact .inr rfl)) (ss_cons (ss_set C rfl (by first | exact .inl rfl | exact .inr rfl) (se_bin op_addA os_add (se_bin op_addA os_add (se_bin op_addA os_add (se_slice (V2 _) so_none (so_some (V4 _))) (se_ix ix_seq os_ix (fun _ _ => rfl) (V2 _) (se_bin op_addA os_add (V4 _) se_int))) (se_ix ix_seq os_ix (fun _ _ => rfl) (V2 _) (V4 _))) (se_slice (V2 _) (so_some (se_bin op_addA os_add (V4 _) se_int)) so_none)) rfl (.inl rfl))
      (ss_one (ss_if (st_sw (sw_and (st_cmp (op_neC C) os_ne rfl (V5 _) (V2 _)) (sw_and1 (st_cmp (op_eqC C) os_eq rfl (se_call C (DefG.to G_sum_of) (by decide) denFn_ar Lsum_of (sa_cons (V0 _) (sa_cons (V1 _) (sa_cons (V5 _) sa_nil rfl) rfl) rfl) (by decide) rfl rfl) se_int)))) (ss_one (ss_stIx C (pe_var rfl (by first | exact .inl rfl | exact .inr (.inl rfl) | exact .inr (.inr rfl)) (by decide) (by decide)) (V5 _) se_bl (fun _ => rfl) rfl rfl rfl)) ss_nil))) (fun _ => rfl))
      (ss_one (ss_ret (se_callTy (call_tuple_of) os_tup Ltuple T.n_tuple rfl (sb_cons (se_callB (cr_srtA rfl) os_srt Lsorted T.n_sorted rfl (sb_cons (V3 _) sb_nil rfl) (by decide) (by decide) rfl rfl) sb_nil rfl) (by decide) (by decide) rfl rfl)))))))
  have q := defG (P := P) (w := w) (base := base) (k := 2) D sc_turn_repairs hb
  exact q
theorem sc_filled : FnScope N_filled P_filled (defScope st_filled) := ⟨rfl, rfl, rfl, by decide +kernel, rfl, by decide +kernel, by decide +kernel⟩
theorem G_filled {P : Program} {w : World} {K : PySem.W.Frag} {mg : Str → Option Value} {base : Heap} (T : Tx K mg) (G_check_code : DefG P w K mg base 2 "check_code" 2 g_check_code) (G_check_text : DefG P w K mg base 2 "check_text" 2 g_check_text) (G_is_integer : DefG P w K mg base 1 "is_integer" 1 g_is_integer) (G_sum_of : DefG P w K mg base 1 "sum_of" 3 g_sum_of) : DefG P w K mg base 3 "filled" 4 g_filled := by
  obtain ⟨f, fd, D⟩ := T.d_filled
  have hb : ∀ (cdv : Value) (A : Around) (outer : List Env) (s : Shared) (H : Hp) (E : XK), Cg (bodyX P w K mg base N_filled "filled" st_filled f cdv A outer s H E) 2 → SSs (bodyX P w K mg base N_filled "filled" st_filled f cdv A outer s H E) b_filled (defBody st_filled) := by
    intro cdv A outer s H E C
    have V0 := vv C 0 "modulus" rfl (by first | exact .inl rfl | exact .inr (.inl rfl) | exact .inr (.inr rfl)) (by decide) (by decide)
    have V3 := vv C 3 "place" rfl (by first | exact .inl rfl | exact .inr (.inl rfl) | exact .inr (.inr rfl)) (by decide) (by decide)
    have V4 := vv C 4 "rows" rfl (by first | exact .inl rfl | exact .inr (.inl rfl) | exact .inr (.inr rfl)) (by decide) (by decide)
    have V2 := vv C 2 "text" rfl (by first | exact .inl rfl | exact .inr (.inl rfl) | exact .inr (.inr rfl)) (by decide) (by decide)
    have V1 := vv C 1 "weights" rfl (by first | exact .inl rfl | exact .inr (.inl rfl) | exact .inr (.inr rfl)) (by decide) (by decide)
    have KSIGNS := kk C "SIGNS" T.c_SIGNS rfl (by decide)
    have Lcheck_code := gg C "check_code" rfl
    have Lcheck_text := gg C "check_text" rfl
    have Lis_integer := gg C "is_integer" rfl
    have Llen := gg C "len" rfl
    have Ltuple := gg C "tuple" rfl
    exact (ss_cons (ss_expr (se_call C (DefG.to G_check_code) (by decide) denFn_ar Lcheck_code (sa_cons (V0 _) (sa_cons (V1 _) sa_nil rfl) rfl) (by decide) rfl rfl) rfl)
      (ss_cons (ss_expr (se_call C (DefG.to G_check_text) (by decide) denFn_ar Lcheck_text (sa_cons (V2 _) (sa_cons (V0 _) sa_nil rfl) rfl) (by decide) rfl rfl) rfl)
      (ss_cons (ss_if (st_sw (sw_or (st_not (st_tru (se_call C (DefG.to G_is_integer) (by decide) denFn_ar Lis_integer (sa_cons (V3 _) sa_nil rfl) (by decide) rfl rfl) fun _ => rfl)) (sw_or1 (st_not (st_chain op_leA os_le op_ltA os_lt rfl se_int (V3 _) (se_callB (cr_lenA) os_len Llen T.n_len rfl (sb_cons (V2 _) sb_nil rfl) (by decide) (by decide) rfl rfl)))))) (ss_one ss_never) ss_nil)
      (ss_cons (ss_setLcC [("sign", 5)] [5] C rfl rfl rfl (si_val (se_slice (KSIGNS _) so_none (so_some (V0 _)))) (by kernel_rfl) (by decide) (by
      intro s H0 Cc cl fp C
      have Vb1_3 := vv C 3 "place" rfl (by first | exact .inl rfl | exact .inr (.inl rfl) | exact .inr (.inr rfl)) (by decide) (by decide)
      have Vb1_5 := vv C 5 "sign" rfl (by first | exact .inl rfl | exact .inr (.inl rfl) | exact .inr (.inr rfl)) (by decide) (by decide)
      have Vb1_2 := vv C 2 "text" rfl (by first | exact .inl rfl | exact .inr (.inl rfl) | exact .inr (.inr rfl)) (by decide) (by decide)
      exact (sg_name C rfl (by first | exact .inl rfl | exact .inr rfl) (by first | exact .inl rfl | exact .inr rfl))) (by
      intro s H0 Cc cl fp C
      have Vb1_3 := vv C 3 "place" rfl (by first | exact .inl rfl | exact .inr (.inl rfl) | exact .inr (.inr rfl)) (by decide) (by decide)
      have Vb1_5 := vv C 5 "sign" rfl (by first | exact .inl rfl | exact .inr (.inl rfl) | exact .inr (.inr rfl)) (by decide) (by decide)
      have Vb1_2 := vv C 2 "text" rfl (by first | exact .inl rfl | exact .inr (.inl rfl) | exact .inr (.inr rfl)) (by decide) (by decide)
      exact sts_nil) (by
      intro s H0 Cc cl fp C
      have Vb1_3 := vv C 3 "place" rfl (by first | exact .inl rfl | exact .inr (.inl rfl) | exact .inr (.inr rfl)) (by decide) (by decide)
      have Vb1_5 := vv C 5 "sign" rfl (by first | exact .inl rfl | exact .inr (.inl rfl) | exact .inr (.inr rfl)) (by decide) (by decide)
      have Vb1_2 := vv C 2 "text" rfl (by first | exact .inl rfl | exact .inr (.inl rfl) | exact .inr (.inr rfl)) (by decide) (by decide)
      exact (se_bin op_addA os_add (se_bin op_addA os_add (se_slice (Vb1_2 _) so_none (so_some (Vb1_3 _))) (Vb1_5 _)) (se_slice (Vb1_2 _) (so_some (se_bin op_addA os_add (Vb1_3 _) se_int)) so_none))) (fun _ => rfl))
      (ss_one (ss_ret (se_callTy (call_tuple_of) os_tup Ltuple T.n_tuple rfl (sb_cons (se_lcC [("row", 6)] [6] C (si_val (V4 _)) (by kernel_rfl) (by decide) (by
      intro s H0 Cc cl fp C
      have Vb2_0 := vv C 0 "modulus" rfl (by first | exact .inl rfl | exact .inr (.inl rfl) | exact .inr (.inr rfl)) (by decide) (by decide)
      have Vb2_6 := vv C 6 "row" rfl (by first | exact .inl rfl | exact .inr (.inl rfl) | exact .inr (.inr rfl)) (by decide) (by decide)
      have Vb2_1 := vv C 1 "weights" rfl (by first | exact .inl rfl | exact .inr (.inl rfl) | exact .inr (.inr rfl)) (by decide) (by decide)
      have Lb2_sum_of := gg C "sum_of" rfl
      exact (sg_name C rfl (by first | exact .inl rfl | exact .inr rfl) (by first | exact .inl rfl | exact .inr rfl))) (by
      intro s H0 Cc cl fp C
      have Vb2_0 := vv C 0 "modulus" rfl (by first | exact .inl rfl | exact .inr (.inl rfl) | exact .inr (.inr rfl)) (by decide) (by decide)
      have Vb2_6 := vv C 6 "row" rfl (by first | exact .inl rfl | exact .inr (.inl rfl) | exact .inr (.inr rfl)) (by decide) (by decide)
      have Vb2_1 := vv C 1 "weights" rfl (by first | exact .inl rfl | exact .inr (.inl rfl) | exact .inr (.inr rfl)) (by decide) (by decide)
      have Lb2_sum_of := gg C "sum_of" rfl
      exact (sts_one (st_cmp (op_eqC C) os_eq rfl (se_call C (DefG.to G_sum_of) (by decide) denFn_ar Lb2_sum_of (sa_cons (Vb2_0 _) (sa_cons (Vb2_1 _) (sa_cons (Vb2_6 _) sa_nil rfl) rfl) rfl) (by decide) rfl rfl) se_int))) (by
      intro s H0 Cc cl fp C
      have Vb2_0 := vv C 0 "modulus" rfl (by first | exact .inl rfl | exact .inr (.inl rfl) | exact .inr (.inr rfl)) (by decide) (by decide)
      have Vb2_6 := vv C 6 "row" rfl (by first | exact .inl rfl | exact .inr (.inl rfl) | exact .inr (.inr rfl)) (by decide) (by decide)
      have Vb2_1 := vv C 1 "weights" rfl (by first | exact .inl rfl | exact .inr (.inl rfl) | exact .inr (.inr rfl)) (by decide) (by decide)
      have Lb2_sum_of := gg C "sum_of" rfl
      exact (Vb2_6 _)) (fun _ => rfl)) sb_nil rfl) (by decide) (by decide) rfl rfl)))))))
  have q := defG (P := P) (w := w) (base := base) (k := 2) D sc_filled hb
  exact q
theorem sc_turns_found : FnScope N_turns_found P_turns_found (defScope st_turns_found) := ⟨rfl, rfl, rfl, by decide +kernel, rfl, by decide +kernel, by decide +kernel⟩
theorem G_turns_found {P : Program} {w : World} {K : PySem.W.Frag} {mg : Str → Option Value} {base : Heap} (T : Tx K mg) (G_divisor : DefG P w K mg base 1 "divisor" 2 g_divisor) (G_signs_of : DefG P w K mg base 1 "signs_of" 1 g_signs_of) : DefG P w K mg base 2 "turns_found" 3 g_turns_found := by
  obtain ⟨f, fd, D⟩ := T.d_turns_found
  have hb : ∀ (cdv : Value) (A : Around) (outer : List Env) (s : Shared) (H : Hp) (E : XK), Cg (bodyX P w K mg base N_turns_found "turns_found" st_turns_found f cdv A outer s H E) 1 → SSs (bodyX P w K mg base N_turns_found "turns_found" st_turns_found f cdv A outer s H E) b_turns_found (defBody st_turns_found) := by
    intro cdv A outer s H E C
    have V3 := vv C 3 "common" rfl (by first | exact .inl rfl | exact .inr (.inl rfl) | exact .inr (.inr rfl)) (by decide) (by decide)
    have V0 := vv C 0 "modulus" rfl (by first | exact .inl rfl | exact .inr (.inl rfl) | exact .inr (.inr rfl)) (by decide) (by decide)
    have V1 := vv C 1 "one" rfl (by first | exact .inl rfl | exact .inr (.inl rfl) | exact .inr (.inr rfl)) (by decide) (by decide)
    have V2 := vv C 2 "other" rfl (by first | exact .inl rfl | exact .inr (.inl rfl) | exact .inr (.inr rfl)) (by decide) (by decide)
    have Ldivisor := gg C "divisor" rfl
    have Lsigns_of := gg C "signs_of" rfl
    exact (ss_cons (ss_set C rfl (by first | exact .inl rfl | exact .inr rfl) (se_call C (DefG.to G_divisor) (by decide) denFn_ar Ldivisor (sa_cons (V0 _) (sa_cons (se_bin op_mod os_mod (se_bin op_sub os_sub (V1 _) (V2 _)) (V0 _)) sa_nil rfl) rfl) (by decide) rfl rfl) rfl (.inl rfl))
      (ss_one (ss_ret (se_or (se_cmp (op_eqC C) os_eq rfl (V3 _) se_int) (se_one (se_cmp op_geA os_ge rfl (se_bin op_fdivW os_fdiv (V0 _) (V3 _)) (se_call C (DefG.to G_signs_of) (by decide) denFn_ar Lsigns_of (sa_cons (V0 _) sa_nil rfl) (by decide) rfl rfl)))))))
  have q := defG (P := P) (w := w) (base := base) (k := 1) D sc_turns_found hb
  exact q
theorem sc_extended : FnScope N_extended P_extended (defScope st_extended) := ⟨rfl, rfl, rfl, by decide +kernel, rfl, by decide +kernel, by decide +kernel⟩
theorem harn_extended : ∀ m, ArOk 4 (gn_extended m)
  | 0 => fun _ _ h => by rcases h with ⟨_, _, _, h⟩ | ⟨_, _, _, h⟩ <;> cases h
  | m + 1 => denFn_ar
theorem har_extended : ArOk 4 g_extended := harn_extended 6
theorem Gn_extended {P : Program} {w : World} {K : PySem.W.Frag} {mg : Str → Option Value} {base : Heap} (T : Tx K mg) (G_judge_turns : DefG P w K mg base 3 "judge_turns" 2 g_judge_turns) (G_turns_found : DefG P w K mg base 2 "turns_found" 3 g_turns_found) : ∀ m, DefG P w K mg base (3 + m) "extended" 4 (gn_extended m)
  | 0 => by
    obtain ⟨f, fd, D⟩ := T.d_extended
    exact defG0 D
  | m + 1 => by
    have G_rec := Gn_extended (P := P) (w := w) (base := base) T G_judge_turns G_turns_found m
    have har_rec := harn_extended m
    obtain ⟨f, fd, D⟩ := T.d_extended
    have hb : ∀ (cdv : Value) (A : Around) (outer : List Env) (s : Shared) (H : Hp) (E : XK), Cg (bodyX P w K mg base N_extended "extended" st_extended f cdv A outer s H E) (3 + m) → SSs (bodyX P w K mg base N_extended "extended" st_extended f cdv A outer s H E) (b_extended (gn_extended m)) (defBody st_extended) := by
      intro cdv A outer s H E C
      have V3 := vv C 3 "fits" rfl (by first | exact .inl rfl | exact .inr (.inl rfl) | exact .inr (.inr rfl)) (by decide) (by decide)
      have V2 := vv C 2 "many" rfl (by first | exact .inl rfl | exact .inr (.inl rfl) | exact .inr (.inr rfl)) (by decide) (by decide)
      have V0 := vv C 0 "modulus" rfl (by first | exact .inl rfl | exact .inr (.inl rfl) | exact .inr (.inr rfl)) (by decide) (by decide)
      have V1 := vv C 1 "row" rfl (by first | exact .inl rfl | exact .inr (.inl rfl) | exact .inr (.inr rfl)) (by decide) (by decide)
      have V5 := vv C 5 "told" rfl (by first | exact .inl rfl | exact .inr (.inl rfl) | exact .inr (.inr rfl)) (by decide) (by decide)
      have V4 := vv C 4 "weight" rfl (by first | exact .inl rfl | exact .inr (.inl rfl) | exact .inr (.inr rfl)) (by decide) (by decide)
      have Lextended := gg C "extended" rfl
      have Ljudge_turns := gg C "judge_turns" rfl
      have Llen := gg C "len" rfl
      have Lturns_found := gg C "turns_found" rfl
      exact (ss_cons (ss_if (st_cmp (op_eqC C) os_eq rfl (se_callB (cr_lenA) os_len Llen T.n_len rfl (sb_cons (V1 _) sb_nil rfl) (by decide) (by decide) rfl rfl) (V2 _)) (ss_one (ss_ret (se_ifE (st_cmp (op_eqC C) os_eq rfl (se_call C (DefG.to G_judge_turns) (by omega) denFn_ar Ljudge_turns (sa_cons (V0 _) (sa_cons (V1 _) sa_nil rfl) rfl) (by decide) rfl rfl) (se_tup (sa_cons (se_strL (by decide +kernel)) sa_nil rfl))) (V1 _) se_non))) ss_nil)
      (ss_cons (ss_for C (passes_of rfl) (si_val (V3 _)) (sg_name C rfl (by first | exact .inl rfl | exact .inr rfl) (by first | exact .inl rfl | exact .inr rfl)) (ss_one (ss_if (st_sw (sw_or (st_not (st_tru (V1 _) fun _ => rfl)) (sw_or1 (st_tru (se_call C (DefG.to G_turns_found) (by omega) denFn_ar Lturns_found (sa_cons (V0 _) (sa_cons (se_ix ix_seq os_ix (fun _ _ => rfl) (V1 _) (se_un un_neg os_neg se_int)) (sa_cons (V4 _) sa_nil rfl) rfl) rfl) (by decide) rfl rfl) fun _ => rfl)))) (ss_cons (ss_set C rfl (by first | exact .inl rfl | exact .inr rfl) (se_call C (DefG.to G_rec) (by omega) har_rec Lextended (sa_cons (V0 _) (sa_cons (se_bin op_addA os_add (V1 _) (se_tup (sa_cons (V4 _) sa_nil rfl))) (sa_cons (V2 _) (sa_cons (V3 _) sa_nil rfl) rfl) rfl) rfl) (by decide) rfl rfl) rfl (.inl rfl))
      (ss_one (ss_if (st_cmp op_notN os_isnt rfl (V5 _) se_non) (ss_one (ss_ret (V5 _))) ss_nil))) ss_nil)) (fun _ => rfl))
      (ss_one (ss_ret se_non))))
    have q := defG (P := P) (w := w) (base := base) (k := 3 + m) D sc_extended hb
    exact q
theorem G_extended {P : Program} {w : World} {K : PySem.W.Frag} {mg : Str → Option Value} {base : Heap} (T : Tx K mg) (G_judge_turns : DefG P w K mg base 3 "judge_turns" 2 g_judge_turns) (G_turns_found : DefG P w K mg base 2 "turns_found" 3 g_turns_found) : DefG P w K mg base 9 "extended" 4 g_extended := Gn_extended T G_judge_turns G_turns_found 6
theorem sc_good_weights : FnScope N_good_weights P_good_weights (defScope st_good_weights) := ⟨rfl, rfl, rfl, by decide +kernel, rfl, by decide +kernel, by decide +kernel⟩
theorem G_good_weights {P : Program} {w : World} {K : PySem.W.Frag} {mg : Str → Option Value} {base : Heap} (T : Tx K mg) (G_is_integer : DefG P w K mg base 1 "is_integer" 1 g_is_integer) (G_judge_changes : DefG P w K mg base 3 "judge_changes" 2 g_judge_changes) (G_extended : DefG P w K mg base 9 "extended" 4 g_extended) : DefG P w K mg base 10 "good_weights" 2 g_good_weights := by
  obtain ⟨f, fd, D⟩ := T.d_good_weights
  have hb : ∀ (cdv : Value) (A : Around) (outer : List Env) (s : Shared) (H : Hp) (E : XK), Cg (bodyX P w K mg base N_good_weights "good_weights" st_good_weights f cdv A outer s H E) 9 → SSs (bodyX P w K mg base N_good_weights "good_weights" st_good_weights f cdv A outer s H E) b_good_weights (defBody st_good_weights) := by
    intro cdv A outer s H E C
    have V2 := vv C 2 "fits" rfl (by first | exact .inl rfl | exact .inr (.inl rfl) | exact .inr (.inr rfl)) (by decide) (by decide)
    have V1 := vv C 1 "many" rfl (by first | exact .inl rfl | exact .inr (.inl rfl) | exact .inr (.inr rfl)) (by decide) (by decide)
    have V0 := vv C 0 "modulus" rfl (by first | exact .inl rfl | exact .inr (.inl rfl) | exact .inr (.inr rfl)) (by decide) (by decide)
    have KMOST := kk C "MOST" T.c_MOST rfl (by decide)
    have Lextended := gg C "extended" rfl
    have Lis_integer := gg C "is_integer" rfl
    have Lrange := gg C "range" rfl
    exact (ss_cons (ss_if (st_sw (sw_or (st_not (st_tru (se_call C (DefG.to G_is_integer) (by decide) denFn_ar Lis_integer (sa_cons (V0 _) sa_nil rfl) (by decide) rfl rfl) fun _ => rfl)) (sw_or1 (st_not (st_chain op_leA os_le op_leA os_le rfl se_int (V0 _) (KMOST _)))))) (ss_one ss_never) ss_nil)
      (ss_cons (ss_if (st_sw (sw_or (st_not (st_tru (se_call C (DefG.to G_is_integer) (by decide) denFn_ar Lis_integer (sa_cons (V1 _) sa_nil rfl) (by decide) rfl rfl) fun _ => rfl)) (sw_or1 (st_not (st_chain op_leA os_le op_leA os_le rfl se_int (V1 _) se_int))))) (ss_one ss_never) ss_nil)
      (ss_cons (ss_setLcC [("weight", 3)] [3] C rfl rfl rfl (si_range1 Lrange T.n_range (sb_cons (V0 _) sb_nil rfl) rfl) (by kernel_rfl) (by decide) (by
      intro s H0 Cc cl fp C
      have Vb1_0 := vv C 0 "modulus" rfl (by first | exact .inl rfl | exact .inr (.inl rfl) | exact .inr (.inr rfl)) (by decide) (by decide)
      have Vb1_3 := vv C 3 "weight" rfl (by first | exact .inl rfl | exact .inr (.inl rfl) | exact .inr (.inr rfl)) (by decide) (by decide)
      have Lb1_judge_changes := gg C "judge_changes" rfl
      exact (sg_name C rfl (by first | exact .inl rfl | exact .inr rfl) (by first | exact .inl rfl | exact .inr rfl))) (by
      intro s H0 Cc cl fp C
      have Vb1_0 := vv C 0 "modulus" rfl (by first | exact .inl rfl | exact .inr (.inl rfl) | exact .inr (.inr rfl)) (by decide) (by decide)
      have Vb1_3 := vv C 3 "weight" rfl (by first | exact .inl rfl | exact .inr (.inl rfl) | exact .inr (.inr rfl)) (by decide) (by decide)
      have Lb1_judge_changes := gg C "judge_changes" rfl
      exact (sts_one (st_cmp (op_eqC C) os_eq rfl (se_call C (DefG.to G_judge_changes) (by decide) denFn_ar Lb1_judge_changes (sa_cons (Vb1_0 _) (sa_cons (se_tup (sa_cons (Vb1_3 _) sa_nil rfl)) sa_nil rfl) rfl) (by decide) rfl rfl) (se_tup (sa_cons (se_strL (by decide +kernel)) sa_nil rfl))))) (by
      intro s H0 Cc cl fp C
      have Vb1_0 := vv C 0 "modulus" rfl (by first | exact .inl rfl | exact .inr (.inl rfl) | exact .inr (.inr rfl)) (by decide) (by decide)
      have Vb1_3 := vv C 3 "weight" rfl (by first | exact .inl rfl | exact .inr (.inl rfl) | exact .inr (.inr rfl)) (by decide) (by decide)
      have Lb1_judge_changes := gg C "judge_changes" rfl
      exact (Vb1_3 _)) (fun _ => rfl))
      (ss_one (ss_ret (se_call C (DefG.to G_extended) (by decide) har_extended Lextended (sa_cons (V0 _) (sa_cons (se_tup sa_nil) (sa_cons (V1 _) (sa_cons (V2 _) sa_nil rfl) rfl) rfl) rfl) (by decide) rfl rfl))))))
  have q := defG (P := P) (w := w) (base := base) (k := 9) D sc_good_weights hb
  exact q
theorem sc_missed_share : FnScope N_missed_share P_missed_share (defScope st_missed_share) := ⟨rfl, rfl, rfl, by decide +kernel, rfl, by decide +kernel, by decide +kernel⟩
theorem G_missed_share {P : Program} {w : World} {K : PySem.W.Frag} {mg : Str → Option Value} {base : Heap} (T : Tx K mg) (G_check_code : DefG P w K mg base 2 "check_code" 2 g_check_code) (G_check_text : DefG P w K mg base 2 "check_text" 2 g_check_text) (G_sum_of : DefG P w K mg base 1 "sum_of" 3 g_sum_of) (G_signs_of : DefG P w K mg base 1 "signs_of" 1 g_signs_of) : DefG P w K mg base 3 "missed_share" 3 g_missed_share := by
  obtain ⟨f, fd, D⟩ := T.d_missed_share
  have hb : ∀ (cdv : Value) (A : Around) (outer : List Env) (s : Shared) (H : Hp) (E : XK), Cg (bodyX P w K mg base N_missed_share "missed_share" st_missed_share f cdv A outer s H E) 2 → SSs (bodyX P w K mg base N_missed_share "missed_share" st_missed_share f cdv A outer s H E) b_missed_share (defBody st_missed_share) := by
    intro cdv A outer s H E C
    have V4 := vv C 4 "at" rfl (by first | exact .inl rfl | exact .inr (.inl rfl) | exact .inr (.inr rfl)) (by decide) (by decide)
    have V3 := vv C 3 "missed" rfl (by first | exact .inl rfl | exact .inr (.inl rfl) | exact .inr (.inr rfl)) (by decide) (by decide)
    have V0 := vv C 0 "modulus" rfl (by first | exact .inl rfl | exact .inr (.inl rfl) | exact .inr (.inr rfl)) (by decide) (by decide)
    have V6 := vv C 6 "number" rfl (by first | exact .inl rfl | exact .inr (.inl rfl) | exact .inr (.inr rfl)) (by decide) (by decide)
    have V5 := vv C 5 "sign" rfl (by first | exact .inl rfl | exact .inr (.inl rfl) | exact .inr (.inr rfl)) (by decide) (by decide)
    have V2 := vv C 2 "text" rfl (by first | exact .inl rfl | exact .inr (.inl rfl) | exact .inr (.inr rfl)) (by decide) (by decide)
    have V1 := vv C 1 "weights" rfl (by first | exact .inl rfl | exact .inr (.inl rfl) | exact .inr (.inr rfl)) (by decide) (by decide)
    have KSIGNS := kk C "SIGNS" T.c_SIGNS rfl (by decide)
    have Lcheck_code := gg C "check_code" rfl
    have Lcheck_text := gg C "check_text" rfl
    have Lenumerate := gg C "enumerate" rfl
    have Llen := gg C "len" rfl
    have Lrange := gg C "range" rfl
    have Lsigns_of := gg C "signs_of" rfl
    have Lsum_of := gg C "sum_of" rfl
    exact (ss_cons (ss_expr (se_call C (DefG.to G_check_code) (by decide) denFn_ar Lcheck_code (sa_cons (V0 _) (sa_cons (V1 _) sa_nil rfl) rfl) (by decide) rfl rfl) rfl)
      (ss_cons (ss_expr (se_call C (DefG.to G_check_text) (by decide) denFn_ar Lcheck_text (sa_cons (V2 _) (sa_cons (V0 _) sa_nil rfl) rfl) (by decide) rfl rfl) rfl)
      (ss_cons (ss_if (st_cmp (op_neC C) os_ne rfl (se_call C (DefG.to G_sum_of) (by decide) denFn_ar Lsum_of (sa_cons (V0 _) (sa_cons (V1 _) (sa_cons (V2 _) sa_nil rfl) rfl) rfl) (by decide) rfl rfl) se_int) (ss_one ss_never) ss_nil)
      (ss_cons (ss_set C rfl (by first | exact .inl rfl | exact .inr rfl) se_int rfl (.inl rfl))
      (ss_cons (ss_for C (passes_of rfl) (si_enum Lenumerate T.n_enumerate (sa_cons (V2 _) sa_nil rfl) rfl) (sg_tup C (sgs_cons (sg_name C rfl (by first | exact .inl rfl | exact .inr rfl) (by first | exact .inl rfl | exact .inr rfl)) (sgs_cons (sg_name C rfl (by first | exact .inl rfl | exact .inr rfl) (by first | exact .inl rfl | exact .inr rfl)) sgs_nil rfl) rfl) rfl rfl rfl) (ss_one (ss_for C (passes_of rfl) (si_range1 Lrange T.n_range (sb_cons (se_call C (DefG.to G_signs_of) (by decide) denFn_ar Lsigns_of (sa_cons (V0 _) sa_nil rfl) (by decide) rfl rfl) sb_nil rfl) rfl) (sg_name C rfl (by first | exact .inl rfl | exact .inr rfl) (by first | exact .inl rfl | exact .inr rfl)) (ss_one (ss_if (st_sw (sw_and (st_cmp (op_neC C) os_ne rfl (se_ix ix_seq os_ix (fun _ _ => rfl) (KSIGNS _) (V6 _)) (V5 _)) (sw_and1 (st_cmp (op_eqC C) os_eq rfl (se_bin op_mod os_mod (se_bin op_mulA os_mul (se_ix ix_seq os_ix (fun _ _ => rfl) (V1 _) (se_bin op_mod os_mod (V4 _) (se_callB (cr_lenA) os_len Llen T.n_len rfl (sb_cons (V1 _) sb_nil rfl) (by decide) (by decide) rfl rfl))) (se_bin op_sub os_sub (V6 _) (se_mthS PySem.F.slot_str_index PySem.F.type_str_index mt_idxS os_index (KSIGNS _) (sb_cons (V5 _) sb_nil rfl) rfl rfl rfl rfl rfl))) (V0 _)) se_int)))) (ss_one (ss_aug C op_addIS os_addI no_addI rfl (by first | exact .inl rfl | exact .inr rfl) se_int (.inl rfl))) ss_nil)) (fun _ => rfl))) (fun _ => rfl))
      (ss_one (ss_ret (se_tup (sa_cons (V3 _) (sa_cons (se_bin op_mulA os_mul (se_callB (cr_lenA) os_len Llen T.n_len rfl (sb_cons (V2 _) sb_nil rfl) (by decide) (by decide) rfl rfl) (se_bin op_sub os_sub (se_call C (DefG.to G_signs_of) (by decide) denFn_ar Lsigns_of (sa_cons (V0 _) sa_nil rfl) (by decide) rfl rfl) se_int)) sa_nil rfl) rfl)))))))))
  have q := defG (P := P) (w := w) (base := base) (k := 2) D sc_missed_share hb
  exact q
theorem sc__law_start : FnScope N__law_start P__law_start (defScope st__law_start) := ⟨rfl, rfl, rfl, by decide +kernel, rfl, by decide +kernel, by decide +kernel⟩
theorem G__law_start {P : Program} {w : World} {K : PySem.W.Frag} {mg : Str → Option Value} {base : Heap} (T : Tx K mg) : DefG P w K mg base 1 "_law_start" 1 g__law_start := by
  obtain ⟨f, fd, D⟩ := T.d__law_start
  have hb : ∀ (cdv : Value) (A : Around) (outer : List Env) (s : Shared) (H : Hp) (E : XK), Cg (bodyX P w K mg base N__law_start "_law_start" st__law_start f cdv A outer s H E) 0 → SSs (bodyX P w K mg base N__law_start "_law_start" st__law_start f cdv A outer s H E) b__law_start (defBody st__law_start) := by
    intro cdv A outer s H E C
    have V2 := vv C 2 "cell" rfl (by first | exact .inl rfl | exact .inr (.inl rfl) | exact .inr (.inr rfl)) (by decide) (by decide)
    have V0 := vv C 0 "script" rfl (by first | exact .inl rfl | exact .inr (.inl rfl) | exact .inr (.inr rfl)) (by decide) (by decide)
    have V1 := vv C 1 "seed" rfl (by first | exact .inl rfl | exact .inr (.inl rfl) | exact .inr (.inr rfl)) (by decide) (by decide)
    have Lint := gg C "int" rfl
    have Llist := gg C "list" rfl
    exact (ss_cons (ss_set C rfl (by first | exact .inl rfl | exact .inr rfl) se_int rfl (.inl rfl))
      (ss_cons (ss_for C (passes_of rfl) (si_val (V0 _)) (sg_name C rfl (by first | exact .inl rfl | exact .inr rfl) (by first | exact .inl rfl | exact .inr rfl)) (ss_one (ss_set C rfl (by first | exact .inl rfl | exact .inr rfl) (se_bin op_addA os_add (se_bin op_mod os_mod (se_callTy (call_int1) os_int Lint T.n_int rfl (sb_cons (se_bin op_addA os_add (se_bin op_mulA os_mul (V1 _) se_int) (V2 _)) sb_nil rfl) (by decide) (by decide) rfl rfl) se_int) se_int) rfl (.inl rfl))) (fun _ => rfl))
      (ss_one (ss_ret (se_lst (sa_cons (se_callTy (cr_lstA rfl) os_lst Llist T.n_list rfl (sb_cons (V0 _) sb_nil rfl) (by decide) (by decide) rfl rfl) (sa_cons se_int (sa_cons se_int (sa_cons (V1 _) sa_nil rfl) rfl) rfl) rfl))))))
  have q := defG (P := P) (w := w) (base := base) (k := 0) D sc__law_start hb
  exact q
theorem sc__law_draw : FnScope N__law_draw P__law_draw (defScope st__law_draw) := ⟨rfl, rfl, rfl, by decide +kernel, rfl, by decide +kernel, by decide +kernel⟩
theorem G__law_draw {P : Program} {w : World} {K : PySem.W.Frag} {mg : Str → Option Value} {base : Heap} (T : Tx K mg) : DefG P w K mg base 1 "_law_draw" 2 g__law_draw := by
  obtain ⟨f, fd, D⟩ := T.d__law_draw
  have hb : ∀ (cdv : Value) (A : Around) (outer : List Env) (s : Shared) (H : Hp) (E : XK), Cg (bodyX P w K mg base N__law_draw "_law_draw" st__law_draw f cdv A outer s H E) 0 → SSs (bodyX P w K mg base N__law_draw "_law_draw" st__law_draw f cdv A outer s H E) b__law_draw (defBody st__law_draw) := by
    intro cdv A outer s H E C
    have V1 := vv C 1 "many" rfl (by first | exact .inl rfl | exact .inr (.inl rfl) | exact .inr (.inr rfl)) (by decide) (by decide)
    have V0 := vv C 0 "state" rfl (by first | exact .inl rfl | exact .inr (.inl rfl) | exact .inr (.inr rfl)) (by decide) (by decide)
    have V2 := vv C 2 "value" rfl (by first | exact .inl rfl | exact .inr (.inl rfl) | exact .inr (.inr rfl)) (by decide) (by decide)
    have Labs := gg C "abs" rfl
    have Lint := gg C "int" rfl
    have Llen := gg C "len" rfl
    exact (ss_cons (ss_if (st_sw (sw_and (st_cmp (op_eqC C) os_eq rfl (se_ix ix_seq os_ix (fun _ _ => rfl) (V0 _) se_int) se_int) (sw_and1 (st_cmp op_geA os_ge rfl (se_ix ix_seq os_ix (fun _ _ => rfl) (V0 _) se_int) (se_callB (cr_lenA) os_len Llen T.n_len rfl (sb_cons (se_ix ix_seq os_ix (fun _ _ => rfl) (V0 _) se_int) sb_nil rfl) (by decide) (by decide) rfl rfl))))) (ss_cons (ss_stIx C (pe_var rfl (by first | exact .inl rfl | exact .inr (.inl rfl) | exact .inr (.inr rfl)) (by decide) (by decide)) se_int (se_bin op_mod os_mod (se_callTy (call_int1) os_int Lint T.n_int rfl (sb_cons (se_bin op_addA os_add (se_bin op_mulA os_mul (se_ix ix_seq os_ix (fun _ _ => rfl) (V0 _) se_int) se_int) se_int) sb_nil rfl) (by decide) (by decide) rfl rfl) se_int) (fun _ => rfl) rfl rfl rfl)
      (ss_one (ss_ret (se_bin op_mod os_mod (se_callTy (call_int1) os_int Lint T.n_int rfl (sb_cons (se_bin op_fdivW os_fdiv (se_ix ix_seq os_ix (fun _ _ => rfl) (V0 _) se_int) se_int) sb_nil rfl) (by decide) (by decide) rfl rfl) (V1 _))))) ss_nil)
      (ss_cons (ss_if (st_cmp (op_eqC C) os_eq rfl (se_ix ix_seq os_ix (fun _ _ => rfl) (V0 _) se_int) se_int) (ss_cons (ss_stIx C (pe_var rfl (by first | exact .inl rfl | exact .inr (.inl rfl) | exact .inr (.inr rfl)) (by decide) (by decide)) se_int (se_callB (call_abs) os_abs Labs T.n_abs rfl (sb_cons (se_ix ix_seq os_ix (fun _ _ => rfl) (se_ix ix_seq os_ix (fun _ _ => rfl) (V0 _) se_int) (se_ix ix_seq os_ix (fun _ _ => rfl) (V0 _) se_int)) sb_nil rfl) (by decide) (by decide) rfl rfl) (fun _ => rfl) rfl rfl rfl)
      (ss_one (ss_stIx C (pe_var rfl (by first | exact .inl rfl | exact .inr (.inl rfl) | exact .inr (.inr rfl)) (by decide) (by decide)) se_int (se_bin op_addA os_add (se_ix ix_seq os_ix (fun _ _ => rfl) (V0 _) se_int) se_int) (fun _ => rfl) rfl rfl rfl))) ss_nil)
      (ss_cons (ss_set C rfl (by first | exact .inl rfl | exact .inr rfl) (se_bin op_mod os_mod (se_callTy (call_int1) os_int Lint T.n_int rfl (sb_cons (se_ix ix_seq os_ix (fun _ _ => rfl) (V0 _) se_int) sb_nil rfl) (by decide) (by decide) rfl rfl) (V1 _)) rfl (.inl rfl))
      (ss_cons (ss_stIx C (pe_var rfl (by first | exact .inl rfl | exact .inr (.inl rfl) | exact .inr (.inr rfl)) (by decide) (by decide)) se_int (se_bin op_fdivW os_fdiv (se_ix ix_seq os_ix (fun _ _ => rfl) (V0 _) se_int) (V1 _)) (fun _ => rfl) rfl rfl rfl)
      (ss_one (ss_ret (V2 _)))))))
  have q := defG (P := P) (w := w) (base := base) (k := 0) D sc__law_draw hb
  exact q
theorem sc__law_signs : FnScope N__law_signs P__law_signs (defScope st__law_signs) := ⟨rfl, rfl, rfl, by decide +kernel, rfl, by decide +kernel, by decide +kernel⟩
theorem G__law_signs {P : Program} {w : World} {K : PySem.W.Frag} {mg : Str → Option Value} {base : Heap} (T : Tx K mg) : DefG P w K mg base 1 "_law_signs" 1 g__law_signs := by
  obtain ⟨f, fd, D⟩ := T.d__law_signs
  have hb : ∀ (cdv : Value) (A : Around) (outer : List Env) (s : Shared) (H : Hp) (E : XK), Cg (bodyX P w K mg base N__law_signs "_law_signs" st__law_signs f cdv A outer s H E) 0 → SSs (bodyX P w K mg base N__law_signs "_law_signs" st__law_signs f cdv A outer s H E) b__law_signs (defBody st__law_signs) := by
    intro cdv A outer s H E C
    have V0 := vv C 0 "modulus" rfl (by first | exact .inl rfl | exact .inr (.inl rfl) | exact .inr (.inr rfl)) (by decide) (by decide)
    exact (ss_one (ss_ret (se_slice (se_strL (by decide +kernel)) so_none (so_some (V0 _)))))
  have q := defG (P := P) (w := w) (base := base) (k := 0) D sc__law_signs hb
  exact q
theorem sc__law_sum : FnScope N__law_sum P__law_sum (defScope st__law_sum) := ⟨rfl, rfl, rfl, by decide +kernel, rfl, by decide +kernel, by decide +kernel⟩
theorem G__law_sum {P : Program} {w : World} {K : PySem.W.Frag} {mg : Str → Option Value} {base : Heap} (T : Tx K mg) (G__law_signs : DefG P w K mg base 1 "_law_signs" 1 g__law_signs) : DefG P w K mg base 2 "_law_sum" 3 g__law_sum := by
  obtain ⟨f, fd, D⟩ := T.d__law_sum
  have hb : ∀ (cdv : Value) (A : Around) (outer : List Env) (s : Shared) (H : Hp) (E : XK), Cg (bodyX P w K mg base N__law_sum "_law_sum" st__law_sum f cdv A outer s H E) 1 → SSs (bodyX P w K mg base N__law_sum "_law_sum" st__law_sum f cdv A outer s H E) b__law_sum (defBody st__law_sum) := by
    intro cdv A outer s H E C
    have V0 := vv C 0 "modulus" rfl (by first | exact .inl rfl | exact .inr (.inl rfl) | exact .inr (.inr rfl)) (by decide) (by decide)
    have V2 := vv C 2 "text" rfl (by first | exact .inl rfl | exact .inr (.inl rfl) | exact .inr (.inr rfl)) (by decide) (by decide)
    have L_law_signs := gg C "_law_signs" rfl
    have Llen := gg C "len" rfl
    have Lrange := gg C "range" rfl
    have Lsum := gg C "sum" rfl
    exact (ss_cons (ss_set C rfl (by first | exact .inl rfl | exact .inr rfl) (se_call C (DefG.to G__law_signs) (by decide) denFn_ar L_law_signs (sa_cons (V0 _) sa_nil rfl) (by decide) rfl rfl) rfl (.inl rfl))
      (ss_one (ss_ret (se_bin op_mod os_mod (se_callB (cr_sum rfl) os_sum Lsum T.n_sum rfl (sb_cons (se_lcC [("k", 4)] [4] C (si_range1 Lrange T.n_range (sb_cons (se_callB (cr_lenA) os_len Llen T.n_len rfl (sb_cons (V2 _) sb_nil rfl) (by decide) (by decide) rfl rfl) sb_nil rfl) rfl) (by kernel_rfl) (by decide) (by
      intro s H0 Cc cl fp C
      have Vb1_4 := vv C 4 "k" rfl (by first | exact .inl rfl | exact .inr (.inl rfl) | exact .inr (.inr rfl)) (by decide) (by decide)
      have Vb1_3 := vv C 3 "signs" rfl (by first | exact .inl rfl | exact .inr (.inl rfl) | exact .inr (.inr rfl)) (by decide) (by decide)
      have Vb1_2 := vv C 2 "text" rfl (by first | exact .inl rfl | exact .inr (.inl rfl) | exact .inr (.inr rfl)) (by decide) (by decide)
      have Vb1_1 := vv C 1 "weights" rfl (by first | exact .inl rfl | exact .inr (.inl rfl) | exact .inr (.inr rfl)) (by decide) (by decide)
      have Lb1_len := gg C "len" rfl
      exact (sg_name C rfl (by first | exact .inl rfl | exact .inr rfl) (by first | exact .inl rfl | exact .inr rfl))) (by
      intro s H0 Cc cl fp C
      have Vb1_4 := vv C 4 "k" rfl (by first | exact .inl rfl | exact .inr (.inl rfl) | exact .inr (.inr rfl)) (by decide) (by decide)
      have Vb1_3 := vv C 3 "signs" rfl (by first | exact .inl rfl | exact .inr (.inl rfl) | exact .inr (.inr rfl)) (by decide) (by decide)
      have Vb1_2 := vv C 2 "text" rfl (by first | exact .inl rfl | exact .inr (.inl rfl) | exact .inr (.inr rfl)) (by decide) (by decide)
      have Vb1_1 := vv C 1 "weights" rfl (by first | exact .inl rfl | exact .inr (.inl rfl) | exact .inr (.inr rfl)) (by decide) (by decide)
      have Lb1_len := gg C "len" rfl
      exact sts_nil) (by
      intro s H0 Cc cl fp C
      have Vb1_4 := vv C 4 "k" rfl (by first | exact .inl rfl | exact .inr (.inl rfl) | exact .inr (.inr rfl)) (by decide) (by decide)
      have Vb1_3 := vv C 3 "signs" rfl (by first | exact .inl rfl | exact .inr (.inl rfl) | exact .inr (.inr rfl)) (by decide) (by decide)
      have Vb1_2 := vv C 2 "text" rfl (by first | exact .inl rfl | exact .inr (.inl rfl) | exact .inr (.inr rfl)) (by decide) (by decide)
      have Vb1_1 := vv C 1 "weights" rfl (by first | exact .inl rfl | exact .inr (.inl rfl) | exact .inr (.inr rfl)) (by decide) (by decide)
      have Lb1_len := gg C "len" rfl
      exact (se_bin op_mulA os_mul (se_mthS PySem.F.slot_str_index PySem.F.type_str_index mt_idxS os_index (Vb1_3 _) (sb_cons (se_ix ix_seq os_ix (fun _ _ => rfl) (Vb1_2 _) (Vb1_4 _)) sb_nil rfl) rfl rfl rfl rfl rfl) (se_ix ix_seq os_ix (fun _ _ => rfl) (Vb1_1 _) (se_bin op_mod os_mod (Vb1_4 _) (se_callB (cr_lenA) os_len Lb1_len T.n_len rfl (sb_cons (Vb1_1 _) sb_nil rfl) (by decide) (by decide) rfl rfl))))) (fun _ => rfl)) sb_nil rfl) (by decide) (by decide) rfl rfl) (V0 _)))))
  have q := defG (P := P) (w := w) (base := base) (k := 1) D sc__law_sum hb
  exact q
theorem sc__law_guarded : FnScope N__law_guarded P__law_guarded (defScope st__law_guarded) := ⟨rfl, rfl, rfl, by decide +kernel, rfl, by decide +kernel, by decide +kernel⟩
theorem G__law_guarded {P : Program} {w : World} {K : PySem.W.Frag} {mg : Str → Option Value} {base : Heap} (T : Tx K mg) (G__law_sum : DefG P w K mg base 2 "_law_sum" 3 g__law_sum) : DefG P w K mg base 3 "_law_guarded" 3 g__law_guarded := by
  obtain ⟨f, fd, D⟩ := T.d__law_guarded
  have hb : ∀ (cdv : Value) (A : Around) (outer : List Env) (s : Shared) (H : Hp) (E : XK), Cg (bodyX P w K mg base N__law_guarded "_law_guarded" st__law_guarded f cdv A outer s H E) 2 → SSs (bodyX P w K mg base N__law_guarded "_law_guarded" st__law_guarded f cdv A outer s H E) b__law_guarded (defBody st__law_guarded) := by
    intro cdv A outer s H E C
    have V2 := vv C 2 "some" rfl (by first | exact .inl rfl | exact .inr (.inl rfl) | exact .inr (.inr rfl)) (by decide) (by decide)
    exact (ss_one (ss_ret (se_lcC [("text", 3)] [3] C (si_val (V2 _)) (by kernel_rfl) (by decide) (by
      intro s H0 Cc cl fp C
      have Vb1_0 := vv C 0 "modulus" rfl (by first | exact .inl rfl | exact .inr (.inl rfl) | exact .inr (.inr rfl)) (by decide) (by decide)
      have Vb1_3 := vv C 3 "text" rfl (by first | exact .inl rfl | exact .inr (.inl rfl) | exact .inr (.inr rfl)) (by decide) (by decide)
      have Vb1_1 := vv C 1 "weights" rfl (by first | exact .inl rfl | exact .inr (.inl rfl) | exact .inr (.inr rfl)) (by decide) (by decide)
      have Lb1__law_sum := gg C "_law_sum" rfl
      exact (sg_name C rfl (by first | exact .inl rfl | exact .inr rfl) (by first | exact .inl rfl | exact .inr rfl))) (by
      intro s H0 Cc cl fp C
      have Vb1_0 := vv C 0 "modulus" rfl (by first | exact .inl rfl | exact .inr (.inl rfl) | exact .inr (.inr rfl)) (by decide) (by decide)
      have Vb1_3 := vv C 3 "text" rfl (by first | exact .inl rfl | exact .inr (.inl rfl) | exact .inr (.inr rfl)) (by decide) (by decide)
      have Vb1_1 := vv C 1 "weights" rfl (by first | exact .inl rfl | exact .inr (.inl rfl) | exact .inr (.inr rfl)) (by decide) (by decide)
      have Lb1__law_sum := gg C "_law_sum" rfl
      exact (sts_one (st_cmp (op_eqC C) os_eq rfl (se_call C (DefG.to G__law_sum) (by decide) denFn_ar Lb1__law_sum (sa_cons (Vb1_0 _) (sa_cons (Vb1_1 _) (sa_cons (Vb1_3 _) sa_nil rfl) rfl) rfl) (by decide) rfl rfl) se_int))) (by
      intro s H0 Cc cl fp C
      have Vb1_0 := vv C 0 "modulus" rfl (by first | exact .inl rfl | exact .inr (.inl rfl) | exact .inr (.inr rfl)) (by decide) (by decide)
      have Vb1_3 := vv C 3 "text" rfl (by first | exact .inl rfl | exact .inr (.inl rfl) | exact .inr (.inr rfl)) (by decide) (by decide)
      have Vb1_1 := vv C 1 "weights" rfl (by first | exact .inl rfl | exact .inr (.inl rfl) | exact .inr (.inr rfl)) (by decide) (by decide)
      have Lb1__law_sum := gg C "_law_sum" rfl
      exact (Vb1_3 _)) (fun _ => rfl))))
  have q := defG (P := P) (w := w) (base := base) (k := 2) D sc__law_guarded hb
  exact q
theorem sc__law_changed : FnScope N__law_changed P__law_changed (defScope st__law_changed) := ⟨rfl, rfl, rfl, by decide +kernel, rfl, by decide +kernel, by decide +kernel⟩
theorem G__law_changed {P : Program} {w : World} {K : PySem.W.Frag} {mg : Str → Option Value} {base : Heap} (T : Tx K mg) (G__law_signs : DefG P w K mg base 1 "_law_signs" 1 g__law_signs) : DefG P w K mg base 2 "_law_changed" 3 g__law_changed := by
  obtain ⟨f, fd, D⟩ := T.d__law_changed
  have hb : ∀ (cdv : Value) (A : Around) (outer : List Env) (s : Shared) (H : Hp) (E : XK), Cg (bodyX P w K mg base N__law_changed "_law_changed" st__law_changed f cdv A outer s H E) 1 → SSs (bodyX P w K mg base N__law_changed "_law_changed" st__law_changed f cdv A outer s H E) b__law_changed (defBody st__law_changed) := by
    intro cdv A outer s H E C
    have V0 := vv C 0 "modulus" rfl (by first | exact .inl rfl | exact .inr (.inl rfl) | exact .inr (.inr rfl)) (by decide) (by decide)
    have L_law_signs := gg C "_law_signs" rfl
    exact (ss_one (ss_ret (se_lcC [("sign", 3)] [3] C (si_val (se_call C (DefG.to G__law_signs) (by decide) denFn_ar L_law_signs (sa_cons (V0 _) sa_nil rfl) (by decide) rfl rfl)) (by kernel_rfl) (by decide) (by
      intro s H0 Cc cl fp C
      have Vb1_2 := vv C 2 "at" rfl (by first | exact .inl rfl | exact .inr (.inl rfl) | exact .inr (.inr rfl)) (by decide) (by decide)
      have Vb1_3 := vv C 3 "sign" rfl (by first | exact .inl rfl | exact .inr (.inl rfl) | exact .inr (.inr rfl)) (by decide) (by decide)
      have Vb1_1 := vv C 1 "text" rfl (by first | exact .inl rfl | exact .inr (.inl rfl) | exact .inr (.inr rfl)) (by decide) (by decide)
      exact (sg_name C rfl (by first | exact .inl rfl | exact .inr rfl) (by first | exact .inl rfl | exact .inr rfl))) (by
      intro s H0 Cc cl fp C
      have Vb1_2 := vv C 2 "at" rfl (by first | exact .inl rfl | exact .inr (.inl rfl) | exact .inr (.inr rfl)) (by decide) (by decide)
      have Vb1_3 := vv C 3 "sign" rfl (by first | exact .inl rfl | exact .inr (.inl rfl) | exact .inr (.inr rfl)) (by decide) (by decide)
      have Vb1_1 := vv C 1 "text" rfl (by first | exact .inl rfl | exact .inr (.inl rfl) | exact .inr (.inr rfl)) (by decide) (by decide)
      exact (sts_one (st_cmp (op_neC C) os_ne rfl (Vb1_3 _) (se_ix ix_seq os_ix (fun _ _ => rfl) (Vb1_1 _) (Vb1_2 _))))) (by
      intro s H0 Cc cl fp C
      have Vb1_2 := vv C 2 "at" rfl (by first | exact .inl rfl | exact .inr (.inl rfl) | exact .inr (.inr rfl)) (by decide) (by decide)
      have Vb1_3 := vv C 3 "sign" rfl (by first | exact .inl rfl | exact .inr (.inl rfl) | exact .inr (.inr rfl)) (by decide) (by decide)
      have Vb1_1 := vv C 1 "text" rfl (by first | exact .inl rfl | exact .inr (.inl rfl) | exact .inr (.inr rfl)) (by decide) (by decide)
      exact (se_bin op_addA os_add (se_bin op_addA os_add (se_slice (Vb1_1 _) so_none (so_some (Vb1_2 _))) (Vb1_3 _)) (se_slice (Vb1_1 _) (so_some (se_bin op_addA os_add (Vb1_2 _) se_int)) so_none))) (fun _ => rfl))))
  have q := defG (P := P) (w := w) (base := base) (k := 1) D sc__law_changed hb
  exact q
theorem sc__law_alike : FnScope N__law_alike P__law_alike (defScope st__law_alike) := ⟨rfl, rfl, rfl, by decide +kernel, rfl, by decide +kernel, by decide +kernel⟩
theorem G__law_alike {P : Program} {w : World} {K : PySem.W.Frag} {mg : Str → Option Value} {base : Heap} (T : Tx K mg) (G__law_signs : DefG P w K mg base 1 "_law_signs" 1 g__law_signs) : DefG P w K mg base 2 "_law_alike" 2 g__law_alike := by
  obtain ⟨f, fd, D⟩ := T.d__law_alike
  have hb : ∀ (cdv : Value) (A : Around) (outer : List Env) (s : Shared) (H : Hp) (E : XK), Cg (bodyX P w K mg base N__law_alike "_law_alike" st__law_alike f cdv A outer s H E) 1 → SSs (bodyX P w K mg base N__law_alike "_law_alike" st__law_alike f cdv A outer s H E) b__law_alike (defBody st__law_alike) := by
    intro cdv A outer s H E C
    have V1 := vv C 1 "gap" rfl (by first | exact .inl rfl | exact .inr (.inl rfl) | exact .inr (.inr rfl)) (by decide) (by decide)
    have V2 := vv C 2 "many" rfl (by first | exact .inl rfl | exact .inr (.inl rfl) | exact .inr (.inr rfl)) (by decide) (by decide)
    have V0 := vv C 0 "modulus" rfl (by first | exact .inl rfl | exact .inr (.inl rfl) | exact .inr (.inr rfl)) (by decide) (by decide)
    have V3 := vv C 3 "one" rfl (by first | exact .inl rfl | exact .inr (.inl rfl) | exact .inr (.inr rfl)) (by decide) (by decide)
    have V4 := vv C 4 "other" rfl (by first | exact .inl rfl | exact .inr (.inl rfl) | exact .inr (.inr rfl)) (by decide) (by decide)
    have L_law_signs := gg C "_law_signs" rfl
    have Llen := gg C "len" rfl
    have Lrange := gg C "range" rfl
    exact (ss_cons (ss_set C rfl (by first | exact .inl rfl | exact .inr rfl) (se_callB (cr_lenA) os_len Llen T.n_len rfl (sb_cons (se_call C (DefG.to G__law_signs) (by decide) denFn_ar L_law_signs (sa_cons (V0 _) sa_nil rfl) (by decide) rfl rfl) sb_nil rfl) (by decide) (by decide) rfl rfl) rfl (.inl rfl))
      (ss_cons (ss_for C (passes_of rfl) (si_range1 Lrange T.n_range (sb_cons (V2 _) sb_nil rfl) rfl) (sg_name C rfl (by first | exact .inl rfl | exact .inr rfl) (by first | exact .inl rfl | exact .inr rfl)) (ss_one (ss_for C (passes_of rfl) (si_range2 Lrange T.n_range (sb_cons (se_bin op_addA os_add (V3 _) se_int) (sb_cons (V2 _) sb_nil rfl) rfl) rfl rfl) (sg_name C rfl (by first | exact .inl rfl | exact .inr rfl) (by first | exact .inl rfl | exact .inr rfl)) (ss_one (ss_if (st_cmp (op_eqC C) os_eq rfl (se_bin op_mod os_mod (se_bin op_mulA os_mul (se_bin op_sub os_sub (V4 _) (V3 _)) (V1 _)) (V0 _)) se_int) (ss_one (ss_ret (se_tup (sa_cons (V3 _) (sa_cons (V4 _) sa_nil rfl) rfl)))) ss_nil)) (fun _ => rfl))) (fun _ => rfl))
      (ss_one (ss_ret se_non))))
  have q := defG (P := P) (w := w) (base := base) (k := 1) D sc__law_alike hb
  exact q
theorem sc__law_judged : FnScope N__law_judged P__law_judged (defScope st__law_judged) := ⟨rfl, rfl, rfl, by decide +kernel, rfl, by decide +kernel, by decide +kernel⟩
theorem G__law_judged {P : Program} {w : World} {K : PySem.W.Frag} {mg : Str → Option Value} {base : Heap} (T : Tx K mg) (G__law_alike : DefG P w K mg base 2 "_law_alike" 2 g__law_alike) : DefG P w K mg base 3 "_law_judged" 2 g__law_judged := by
  obtain ⟨f, fd, D⟩ := T.d__law_judged
  have hb : ∀ (cdv : Value) (A : Around) (outer : List Env) (s : Shared) (H : Hp) (E : XK), Cg (bodyX P w K mg base N__law_judged "_law_judged" st__law_judged f cdv A outer s H E) 2 → SSs (bodyX P w K mg base N__law_judged "_law_judged" st__law_judged f cdv A outer s H E) b__law_judged (defBody st__law_judged) := by
    intro cdv A outer s H E C
    have V3 := vv C 3 "found" rfl (by first | exact .inl rfl | exact .inr (.inl rfl) | exact .inr (.inr rfl)) (by decide) (by decide)
    have V1 := vv C 1 "gaps" rfl (by first | exact .inl rfl | exact .inr (.inl rfl) | exact .inr (.inr rfl)) (by decide) (by decide)
    have V2 := vv C 2 "k" rfl (by first | exact .inl rfl | exact .inr (.inl rfl) | exact .inr (.inr rfl)) (by decide) (by decide)
    have V0 := vv C 0 "modulus" rfl (by first | exact .inl rfl | exact .inr (.inl rfl) | exact .inr (.inr rfl)) (by decide) (by decide)
    have L_law_alike := gg C "_law_alike" rfl
    have Llen := gg C "len" rfl
    have Lrange := gg C "range" rfl
    exact (ss_cons (ss_for C (passes_of rfl) (si_range1 Lrange T.n_range (sb_cons (se_callB (cr_lenA) os_len Llen T.n_len rfl (sb_cons (V1 _) sb_nil rfl) (by decide) (by decide) rfl rfl) sb_nil rfl) rfl) (sg_name C rfl (by first | exact .inl rfl | exact .inr rfl) (by first | exact .inl rfl | exact .inr rfl)) (ss_cons (ss_set C rfl (by first | exact .inl rfl | exact .inr rfl) (se_call C (DefG.to G__law_alike) (by decide) denFn_ar L_law_alike (sa_cons (V0 _) (sa_cons (se_ix ix_seq os_ix (fun _ _ => rfl) (V1 _) (V2 _)) sa_nil rfl) rfl) (by decide) rfl rfl) rfl (.inl rfl))
      (ss_one (ss_if (st_cmp op_notN os_isnt rfl (V3 _) se_non) (ss_one (ss_ret (se_bin op_addA os_add (se_tup (sa_cons (se_strL (by decide +kernel)) (sa_cons (V2 _) sa_nil rfl) rfl)) (V3 _)))) ss_nil))) (fun _ => rfl))
      (ss_one (ss_ret (se_tup (sa_cons (se_strL (by decide +kernel)) sa_nil rfl)))))
  have q := defG (P := P) (w := w) (base := base) (k := 2) D sc__law_judged hb
  exact q
theorem sc__law_gaps : FnScope N__law_gaps P__law_gaps (defScope st__law_gaps) := ⟨rfl, rfl, rfl, by decide +kernel, rfl, by decide +kernel, by decide +kernel⟩
theorem G__law_gaps {P : Program} {w : World} {K : PySem.W.Frag} {mg : Str → Option Value} {base : Heap} (T : Tx K mg) : DefG P w K mg base 1 "_law_gaps" 1 g__law_gaps := by
  obtain ⟨f, fd, D⟩ := T.d__law_gaps
  have hb : ∀ (cdv : Value) (A : Around) (outer : List Env) (s : Shared) (H : Hp) (E : XK), Cg (bodyX P w K mg base N__law_gaps "_law_gaps" st__law_gaps f cdv A outer s H E) 0 → SSs (bodyX P w K mg base N__law_gaps "_law_gaps" st__law_gaps f cdv A outer s H E) b__law_gaps (defBody st__law_gaps) := by
    intro cdv A outer s H E C
    have V0 := vv C 0 "weights" rfl (by first | exact .inl rfl | exact .inr (.inl rfl) | exact .inr (.inr rfl)) (by decide) (by decide)
    have Llen := gg C "len" rfl
    have Lrange := gg C "range" rfl
    exact (ss_one (ss_ret (se_lcC [("k", 1)] [1] C (si_range1 Lrange T.n_range (sb_cons (se_callB (cr_lenA) os_len Llen T.n_len rfl (sb_cons (V0 _) sb_nil rfl) (by decide) (by decide) rfl rfl) sb_nil rfl) rfl) (by kernel_rfl) (by decide) (by
      intro s H0 Cc cl fp C
      have Vb1_1 := vv C 1 "k" rfl (by first | exact .inl rfl | exact .inr (.inl rfl) | exact .inr (.inr rfl)) (by decide) (by decide)
      have Vb1_0 := vv C 0 "weights" rfl (by first | exact .inl rfl | exact .inr (.inl rfl) | exact .inr (.inr rfl)) (by decide) (by decide)
      have Lb1_len := gg C "len" rfl
      exact (sg_name C rfl (by first | exact .inl rfl | exact .inr rfl) (by first | exact .inl rfl | exact .inr rfl))) (by
      intro s H0 Cc cl fp C
      have Vb1_1 := vv C 1 "k" rfl (by first | exact .inl rfl | exact .inr (.inl rfl) | exact .inr (.inr rfl)) (by decide) (by decide)
      have Vb1_0 := vv C 0 "weights" rfl (by first | exact .inl rfl | exact .inr (.inl rfl) | exact .inr (.inr rfl)) (by decide) (by decide)
      have Lb1_len := gg C "len" rfl
      exact sts_nil) (by
      intro s H0 Cc cl fp C
      have Vb1_1 := vv C 1 "k" rfl (by first | exact .inl rfl | exact .inr (.inl rfl) | exact .inr (.inr rfl)) (by decide) (by decide)
      have Vb1_0 := vv C 0 "weights" rfl (by first | exact .inl rfl | exact .inr (.inl rfl) | exact .inr (.inr rfl)) (by decide) (by decide)
      have Lb1_len := gg C "len" rfl
      exact (se_bin op_sub os_sub (se_ix ix_seq os_ix (fun _ _ => rfl) (Vb1_0 _) (Vb1_1 _)) (se_ix ix_seq os_ix (fun _ _ => rfl) (Vb1_0 _) (se_bin op_mod os_mod (se_bin op_addA os_add (Vb1_1 _) se_int) (se_callB (cr_lenA) os_len Lb1_len T.n_len rfl (sb_cons (Vb1_0 _) sb_nil rfl) (by decide) (by decide) rfl rfl))))) (fun _ => rfl))))
  have q := defG (P := P) (w := w) (base := base) (k := 0) D sc__law_gaps hb
  exact q
theorem sc__law_good : FnScope N__law_good P__law_good (defScope st__law_good) := ⟨rfl, rfl, rfl, by decide +kernel, rfl, by decide +kernel, by decide +kernel⟩
theorem G__law_good {P : Program} {w : World} {K : PySem.W.Frag} {mg : Str → Option Value} {base : Heap} (T : Tx K mg) (G__law_alike : DefG P w K mg base 2 "_law_alike" 2 g__law_alike) (G__law_gaps : DefG P w K mg base 1 "_law_gaps" 1 g__law_gaps) (G__law_judged : DefG P w K mg base 3 "_law_judged" 2 g__law_judged) : DefG P w K mg base 4 "_law_good" 2 g__law_good := by
  obtain ⟨f, fd, D⟩ := T.d__law_good
  have hb : ∀ (cdv : Value) (A : Around) (outer : List Env) (s : Shared) (H : Hp) (E : XK), Cg (bodyX P w K mg base N__law_good "_law_good" st__law_good f cdv A outer s H E) 3 → SSs (bodyX P w K mg base N__law_good "_law_good" st__law_good f cdv A outer s H E) b__law_good (defBody st__law_good) := by
    intro cdv A outer s H E C
    have V4 := vv C 4 "longer" rfl (by first | exact .inl rfl | exact .inr (.inl rfl) | exact .inr (.inr rfl)) (by decide) (by decide)
    have V1 := vv C 1 "many" rfl (by first | exact .inl rfl | exact .inr (.inl rfl) | exact .inr (.inr rfl)) (by decide) (by decide)
    have V0 := vv C 0 "modulus" rfl (by first | exact .inl rfl | exact .inr (.inl rfl) | exact .inr (.inr rfl)) (by decide) (by decide)
    have V5 := vv C 5 "row" rfl (by first | exact .inl rfl | exact .inr (.inl rfl) | exact .inr (.inr rfl)) (by decide) (by decide)
    have V2 := vv C 2 "rows" rfl (by first | exact .inl rfl | exact .inr (.inl rfl) | exact .inr (.inr rfl)) (by decide) (by decide)
    have L_law_gaps := gg C "_law_gaps" rfl
    have L_law_judged := gg C "_law_judged" rfl
    have Lrange := gg C "range" rfl
    exact (ss_cons (ss_set C rfl (by first | exact .inl rfl | exact .inr rfl) (se_lst (sa_cons (se_tup sa_nil) sa_nil rfl)) rfl (.inl rfl))
      (ss_cons (ss_for C (passes_of rfl) (si_range1 Lrange T.n_range (sb_cons (V1 _) sb_nil rfl) rfl) (sg_name C rfl (by first | exact .inl rfl | exact .inr rfl) (by first | exact .inl rfl | exact .inr rfl)) (ss_cons (ss_set C rfl (by first | exact .inl rfl | exact .inr rfl) (se_lst sa_nil) rfl (.inl rfl))
      (ss_cons (ss_for C (passes_of rfl) (si_val (V2 _)) (sg_name C rfl (by first | exact .inl rfl | exact .inr rfl) (by first | exact .inl rfl | exact .inr rfl)) (ss_one (ss_ext (pe_var rfl (by first | exact .inl rfl | exact .inr (.inl rfl) | exact .inr (.inr rfl)) (by decide) (by decide)) (se_lcC [("weight", 6)] [6] C (si_range1 Lrange T.n_range (sb_cons (V0 _) sb_nil rfl) rfl) (by kernel_rfl) (by decide) (by
      intro s H0 Cc cl fp C
      have Vb1_0 := vv C 0 "modulus" rfl (by first | exact .inl rfl | exact .inr (.inl rfl) | exact .inr (.inr rfl)) (by decide) (by decide)
      have Vb1_5 := vv C 5 "row" rfl (by first | exact .inl rfl | exact .inr (.inl rfl) | exact .inr (.inr rfl)) (by decide) (by decide)
      have Vb1_6 := vv C 6 "weight" rfl (by first | exact .inl rfl | exact .inr (.inl rfl) | exact .inr (.inr rfl)) (by decide) (by decide)
      have Lb1__law_alike := gg C "_law_alike" rfl
      exact (sg_name C rfl (by first | exact .inl rfl | exact .inr rfl) (by first | exact .inl rfl | exact .inr rfl))) (by
      intro s H0 Cc cl fp C
      have Vb1_0 := vv C 0 "modulus" rfl (by first | exact .inl rfl | exact .inr (.inl rfl) | exact .inr (.inr rfl)) (by decide) (by decide)
      have Vb1_5 := vv C 5 "row" rfl (by first | exact .inl rfl | exact .inr (.inl rfl) | exact .inr (.inr rfl)) (by decide) (by decide)
      have Vb1_6 := vv C 6 "weight" rfl (by first | exact .inl rfl | exact .inr (.inl rfl) | exact .inr (.inr rfl)) (by decide) (by decide)
      have Lb1__law_alike := gg C "_law_alike" rfl
      exact (sts_one (st_cmp op_isN os_is rfl (se_call C (DefG.to G__law_alike) (by decide) denFn_ar Lb1__law_alike (sa_cons (Vb1_0 _) (sa_cons (Vb1_6 _) sa_nil rfl) rfl) (by decide) rfl rfl) se_non))) (by
      intro s H0 Cc cl fp C
      have Vb1_0 := vv C 0 "modulus" rfl (by first | exact .inl rfl | exact .inr (.inl rfl) | exact .inr (.inr rfl)) (by decide) (by decide)
      have Vb1_5 := vv C 5 "row" rfl (by first | exact .inl rfl | exact .inr (.inl rfl) | exact .inr (.inr rfl)) (by decide) (by decide)
      have Vb1_6 := vv C 6 "weight" rfl (by first | exact .inl rfl | exact .inr (.inl rfl) | exact .inr (.inr rfl)) (by decide) (by decide)
      have Lb1__law_alike := gg C "_law_alike" rfl
      exact (se_bin op_addA os_add (Vb1_5 _) (se_tup (sa_cons (Vb1_6 _) sa_nil rfl)))) (fun _ => rfl)) rfl rfl rfl rfl rfl)) (fun _ => rfl))
      (ss_one (ss_set C rfl (by first | exact .inl rfl | exact .inr rfl) (V4 _) rfl (.inl rfl))))) (fun _ => rfl))
      (ss_cons (ss_for C (passes_of rfl) (si_val (V2 _)) (sg_name C rfl (by first | exact .inl rfl | exact .inr rfl) (by first | exact .inl rfl | exact .inr rfl)) (ss_one (ss_if (st_cmp (op_eqC C) os_eq rfl (se_call C (DefG.to G__law_judged) (by decide) denFn_ar L_law_judged (sa_cons (V0 _) (sa_cons (se_call C (DefG.to G__law_gaps) (by decide) denFn_ar L_law_gaps (sa_cons (V5 _) sa_nil rfl) (by decide) rfl rfl) sa_nil rfl) rfl) (by decide) rfl rfl) (se_tup (sa_cons (se_strL (by decide +kernel)) sa_nil rfl))) (ss_one (ss_ret (V5 _))) ss_nil)) (fun _ => rfl))
      (ss_one (ss_ret se_non)))))
  have q := defG (P := P) (w := w) (base := base) (k := 3) D sc__law_good hb
  exact q
theorem sc_law : FnScope N_law P_law (defScope st_law) := ⟨rfl, rfl, rfl, by decide +kernel, rfl, by decide +kernel, by decide +kernel⟩
abbrev first_law : Stmt := (defBody st_law).headD (.Pass ⟨0, 0, 0, 0⟩)
abbrev rest_law : List Stmt := (defBody st_law).tail
theorem all_law {P : Program} {w : World} {K : PySem.W.Frag} {mg : Str → Option Value} (T : Tx K mg) (hm : LawM 20 63 b1_law b_law) (base : Heap) (f : Addr) (fd : FuncData) (D : DefAt K mg "law" st_law P_law f fd) : FnOk P w K mg base (L2.CX P w) 11 f fd P_law (spL K 63) := by
  have G_is_integer := G_is_integer (P := P) (w := w) (base := base) T
  have G_check_code := G_check_code (P := P) (w := w) (base := base) T G_is_integer
  have G_is_text := G_is_text (P := P) (w := w) (base := base) T
  have G_check_text := G_check_text (P := P) (w := w) (base := base) T G_is_text
  have G_sum_of := G_sum_of (P := P) (w := w) (base := base) T
  have G_check_sum := G_check_sum (P := P) (w := w) (base := base) T G_check_code G_check_text G_sum_of
  have G_is_guarded := G_is_guarded (P := P) (w := w) (base := base) T G_check_code G_check_text G_sum_of
  have G_guards_of := G_guards_of (P := P) (w := w) (base := base) T G_check_code G_check_text G_sum_of
  have G_divisor := G_divisor (P := P) (w := w) (base := base) T
  have G_signs_of := G_signs_of (P := P) (w := w) (base := base) T
  have G_judge_changes := G_judge_changes (P := P) (w := w) (base := base) T G_check_code G_divisor G_signs_of
  have G_judge_turns := G_judge_turns (P := P) (w := w) (base := base) T G_check_code G_divisor G_signs_of
  have G_accept_missed := G_accept_missed (P := P) (w := w) (base := base) T G_check_code G_is_text G_sum_of
  have G_repairs := G_repairs (P := P) (w := w) (base := base) T G_check_code G_check_text G_sum_of G_signs_of
  have G_turn_repairs := G_turn_repairs (P := P) (w := w) (base := base) T G_check_code G_check_text G_sum_of
  have G_filled := G_filled (P := P) (w := w) (base := base) T G_check_code G_check_text G_is_integer G_sum_of
  have G_turns_found := G_turns_found (P := P) (w := w) (base := base) T G_divisor G_signs_of
  have G_extended := G_extended (P := P) (w := w) (base := base) T G_judge_turns G_turns_found
  have G_good_weights := G_good_weights (P := P) (w := w) (base := base) T G_is_integer G_judge_changes G_extended
  have G_missed_share := G_missed_share (P := P) (w := w) (base := base) T G_check_code G_check_text G_sum_of G_signs_of
  have G__law_start := G__law_start (P := P) (w := w) (base := base) T
  have G__law_draw := G__law_draw (P := P) (w := w) (base := base) T
  have G__law_signs := G__law_signs (P := P) (w := w) (base := base) T
  have G__law_sum := G__law_sum (P := P) (w := w) (base := base) T G__law_signs
  have G__law_guarded := G__law_guarded (P := P) (w := w) (base := base) T G__law_sum
  have G__law_changed := G__law_changed (P := P) (w := w) (base := base) T G__law_signs
  have G__law_alike := G__law_alike (P := P) (w := w) (base := base) T G__law_signs
  have G__law_judged := G__law_judged (P := P) (w := w) (base := base) T G__law_alike
  have G__law_gaps := G__law_gaps (P := P) (w := w) (base := base) T
  have G__law_good := G__law_good (P := P) (w := w) (base := base) T G__law_alike G__law_gaps G__law_judged
  have hb1 : ∀ (cdv : Value) (A : Around) (outer : List Env) (s : Shared) (H : Hp) (E : XK), Cg (bodyX P w K mg base N_law "law" st_law f cdv A outer s H E) 10 → SS (bodyX P w K mg base N_law "law" st_law f cdv A outer s H E) b1_law first_law := by
    intro cdv A outer s H E C
    have V15 := vv C 15 "ahead" rfl (by first | exact .inl rfl | exact .inr (.inl rfl) | exact .inr (.inr rfl)) (by decide) (by decide)
    have V10 := vv C 10 "at" rfl (by first | exact .inl rfl | exact .inr (.inl rfl) | exact .inr (.inr rfl)) (by decide) (by decide)
    have V13 := vv C 13 "changes" rfl (by first | exact .inl rfl | exact .inr (.inl rfl) | exact .inr (.inr rfl)) (by decide) (by decide)
    have V7 := vv C 7 "due" rfl (by first | exact .inl rfl | exact .inr (.inl rfl) | exact .inr (.inr rfl)) (by decide) (by decide)
    have V8 := vv C 8 "guards" rfl (by first | exact .inl rfl | exact .inr (.inl rfl) | exact .inr (.inr rfl)) (by decide) (by decide)
    have V19 := vv C 19 "many" rfl (by first | exact .inl rfl | exact .inr (.inl rfl) | exact .inr (.inr rfl)) (by decide) (by decide)
    have V3 := vv C 3 "modulus" rfl (by first | exact .inl rfl | exact .inr (.inl rfl) | exact .inr (.inr rfl)) (by decide) (by decide)
    have V16 := vv C 16 "one" rfl (by first | exact .inl rfl | exact .inr (.inl rfl) | exact .inr (.inr rfl)) (by decide) (by decide)
    have V17 := vv C 17 "other" rfl (by first | exact .inl rfl | exact .inr (.inl rfl) | exact .inr (.inr rfl)) (by decide) (by decide)
    have V0 := vv C 0 "script" rfl (by first | exact .inl rfl | exact .inr (.inl rfl) | exact .inr (.inr rfl)) (by decide) (by decide)
    have V5 := vv C 5 "signs" rfl (by first | exact .inl rfl | exact .inr (.inl rfl) | exact .inr (.inr rfl)) (by decide) (by decide)
    have V18 := vv C 18 "small" rfl (by first | exact .inl rfl | exact .inr (.inl rfl) | exact .inr (.inr rfl)) (by decide) (by decide)
    have V9 := vv C 9 "some" rfl (by first | exact .inl rfl | exact .inr (.inl rfl) | exact .inr (.inr rfl)) (by decide) (by decide)
    have V1 := vv C 1 "state" rfl (by first | exact .inl rfl | exact .inr (.inl rfl) | exact .inr (.inr rfl)) (by decide) (by decide)
    have V6 := vv C 6 "text" rfl (by first | exact .inl rfl | exact .inr (.inl rfl) | exact .inr (.inr rfl)) (by decide) (by decide)
    have V11 := vv C 11 "turned" rfl (by first | exact .inl rfl | exact .inr (.inl rfl) | exact .inr (.inr rfl)) (by decide) (by decide)
    have V14 := vv C 14 "turns" rfl (by first | exact .inl rfl | exact .inr (.inl rfl) | exact .inr (.inr rfl)) (by decide) (by decide)
    have V4 := vv C 4 "weights" rfl (by first | exact .inl rfl | exact .inr (.inl rfl) | exact .inr (.inr rfl)) (by decide) (by decide)
    have V12 := vv C 12 "whole" rfl (by first | exact .inl rfl | exact .inr (.inl rfl) | exact .inr (.inr rfl)) (by decide) (by decide)
    have L_law_changed := gg C "_law_changed" rfl
    have L_law_draw := gg C "_law_draw" rfl
    have L_law_gaps := gg C "_law_gaps" rfl
    have L_law_good := gg C "_law_good" rfl
    have L_law_guarded := gg C "_law_guarded" rfl
    have L_law_judged := gg C "_law_judged" rfl
    have L_law_signs := gg C "_law_signs" rfl
    have L_law_start := gg C "_law_start" rfl
    have L_law_sum := gg C "_law_sum" rfl
    have Laccept_missed := gg C "accept_missed" rfl
    have Lcheck_sum := gg C "check_sum" rfl
    have Ldict := gg C "dict" rfl
    have Lfilled := gg C "filled" rfl
    have Lgood_weights := gg C "good_weights" rfl
    have Lguards_of := gg C "guards_of" rfl
    have Lis_guarded := gg C "is_guarded" rfl
    have Ljudge_changes := gg C "judge_changes" rfl
    have Ljudge_turns := gg C "judge_turns" rfl
    have Llen := gg C "len" rfl
    have Llist := gg C "list" rfl
    have Lmissed_share := gg C "missed_share" rfl
    have Lrange := gg C "range" rfl
    have Lrepairs := gg C "repairs" rfl
    have Lsorted := gg C "sorted" rfl
    have Ltuple := gg C "tuple" rfl
    have Lturn_repairs := gg C "turn_repairs" rfl
    exact (ss_set C rfl (by first | exact .inl rfl | exact .inr rfl) (se_call C (DefG.to G__law_start) (by decide) denFn_ar L_law_start (sa_cons (V0 _) sa_nil rfl) (by decide) rfl rfl) rfl (.inl rfl))
  have hb : ∀ (cdv : Value) (A : Around) (outer : List Env) (s : Shared) (H : Hp) (E : XK), Cg (bodyX P w K mg base N_law "law" st_law f cdv A outer s H E) 10 → SSs (bodyX P w K mg base N_law "law" st_law f cdv A outer s H E) b_law rest_law := by
    intro cdv A outer s H E C
    have V15 := vv C 15 "ahead" rfl (by first | exact .inl rfl | exact .inr (.inl rfl) | exact .inr (.inr rfl)) (by decide) (by decide)
    have V10 := vv C 10 "at" rfl (by first | exact .inl rfl | exact .inr (.inl rfl) | exact .inr (.inr rfl)) (by decide) (by decide)
    have V13 := vv C 13 "changes" rfl (by first | exact .inl rfl | exact .inr (.inl rfl) | exact .inr (.inr rfl)) (by decide) (by decide)
    have V7 := vv C 7 "due" rfl (by first | exact .inl rfl | exact .inr (.inl rfl) | exact .inr (.inr rfl)) (by decide) (by decide)
    have V8 := vv C 8 "guards" rfl (by first | exact .inl rfl | exact .inr (.inl rfl) | exact .inr (.inr rfl)) (by decide) (by decide)
    have V19 := vv C 19 "many" rfl (by first | exact .inl rfl | exact .inr (.inl rfl) | exact .inr (.inr rfl)) (by decide) (by decide)
    have V3 := vv C 3 "modulus" rfl (by first | exact .inl rfl | exact .inr (.inl rfl) | exact .inr (.inr rfl)) (by decide) (by decide)
    have V16 := vv C 16 "one" rfl (by first | exact .inl rfl | exact .inr (.inl rfl) | exact .inr (.inr rfl)) (by decide) (by decide)
    have V17 := vv C 17 "other" rfl (by first | exact .inl rfl | exact .inr (.inl rfl) | exact .inr (.inr rfl)) (by decide) (by decide)
    have V0 := vv C 0 "script" rfl (by first | exact .inl rfl | exact .inr (.inl rfl) | exact .inr (.inr rfl)) (by decide) (by decide)
    have V5 := vv C 5 "signs" rfl (by first | exact .inl rfl | exact .inr (.inl rfl) | exact .inr (.inr rfl)) (by decide) (by decide)
    have V18 := vv C 18 "small" rfl (by first | exact .inl rfl | exact .inr (.inl rfl) | exact .inr (.inr rfl)) (by decide) (by decide)
    have V9 := vv C 9 "some" rfl (by first | exact .inl rfl | exact .inr (.inl rfl) | exact .inr (.inr rfl)) (by decide) (by decide)
    have V1 := vv C 1 "state" rfl (by first | exact .inl rfl | exact .inr (.inl rfl) | exact .inr (.inr rfl)) (by decide) (by decide)
    have V6 := vv C 6 "text" rfl (by first | exact .inl rfl | exact .inr (.inl rfl) | exact .inr (.inr rfl)) (by decide) (by decide)
    have V11 := vv C 11 "turned" rfl (by first | exact .inl rfl | exact .inr (.inl rfl) | exact .inr (.inr rfl)) (by decide) (by decide)
    have V14 := vv C 14 "turns" rfl (by first | exact .inl rfl | exact .inr (.inl rfl) | exact .inr (.inr rfl)) (by decide) (by decide)
    have V4 := vv C 4 "weights" rfl (by first | exact .inl rfl | exact .inr (.inl rfl) | exact .inr (.inr rfl)) (by decide) (by decide)
    have V12 := vv C 12 "whole" rfl (by first | exact .inl rfl | exact .inr (.inl rfl) | exact .inr (.inr rfl)) (by decide) (by decide)
    have L_law_changed := gg C "_law_changed" rfl
    have L_law_draw := gg C "_law_draw" rfl
    have L_law_gaps := gg C "_law_gaps" rfl
    have L_law_good := gg C "_law_good" rfl
    have L_law_guarded := gg C "_law_guarded" rfl
    have L_law_judged := gg C "_law_judged" rfl
    have L_law_signs := gg C "_law_signs" rfl
    have L_law_start := gg C "_law_start" rfl
    have L_law_sum := gg C "_law_sum" rfl
    have Laccept_missed := gg C "accept_missed" rfl
    have Lcheck_sum := gg C "check_sum" rfl
    have Ldict := gg C "dict" rfl
    have Lfilled := gg C "filled" rfl
    have Lgood_weights := gg C "good_weights" rfl
    have Lguards_of := gg C "guards_of" rfl
    have Lis_guarded := gg C "is_guarded" rfl
    have Ljudge_changes := gg C "judge_changes" rfl
    have Ljudge_turns := gg C "judge_turns" rfl
    have Llen := gg C "len" rfl
    have Llist := gg C "list" rfl
    have Lmissed_share := gg C "missed_share" rfl
    have Lrange := gg C "range" rfl
    have Lrepairs := gg C "repairs" rfl
    have Lsorted := gg C "sorted" rfl
    have Ltuple := gg C "tuple" rfl
    have Lturn_repairs := gg C "turn_repairs" rfl
    exact (ss_cons (ss_for C (passes_of rfl) (si_range1 Lrange T.n_range (sb_cons se_int sb_nil rfl) rfl) (sg_name C rfl (by first | exact .inl rfl | exact .inr rfl) (by first | exact .inl rfl | exact .inr rfl)) (ss_cons (ss_set C rfl (by first | exact .inl rfl | exact .inr rfl) (se_ix ix_seq os_ix (fun _ _ => rfl) (se_lst (sa_cons se_int (sa_cons se_int (sa_cons se_int (sa_cons se_int (sa_cons se_int (sa_cons se_int (sa_cons se_int (sa_cons se_int (sa_cons se_int (sa_cons se_int (sa_cons se_int (sa_cons se_int (sa_cons se_int sa_nil rfl) rfl) rfl) rfl) rfl) rfl) rfl) rfl) rfl) rfl) rfl) rfl) rfl)) (se_call C (DefG.to G__law_draw) (by decide) denFn_ar L_law_draw (sa_cons (V1 _) (sa_cons se_int sa_nil rfl) rfl) (by decide) rfl rfl)) rfl (.inl rfl))
      (ss_cons (ss_set C rfl (by first | exact .inl rfl | exact .inr rfl) (se_callTy (call_tuple_of) os_tup Ltuple T.n_tuple rfl (sb_cons (se_lcC [("k", 20)] [20] C (si_range1 Lrange T.n_range (sb_cons (se_bin op_addA os_add se_int (se_call C (DefG.to G__law_draw) (by decide) denFn_ar L_law_draw (sa_cons (V1 _) (sa_cons se_int sa_nil rfl) rfl) (by decide) rfl rfl)) sb_nil rfl) rfl) (by kernel_rfl) (by decide) (by
      intro s H0 Cc cl fp C
      have Vb1_3 := vv C 3 "modulus" rfl (by first | exact .inl rfl | exact .inr (.inl rfl) | exact .inr (.inr rfl)) (by decide) (by decide)
      have Vb1_1 := vv C 1 "state" rfl (by first | exact .inl rfl | exact .inr (.inl rfl) | exact .inr (.inr rfl)) (by decide) (by decide)
      have Lb1__law_draw := gg C "_law_draw" rfl
      exact (sg_name C rfl (by first | exact .inl rfl | exact .inr rfl) (by first | exact .inl rfl | exact .inr rfl))) (by
      intro s H0 Cc cl fp C
      have Vb1_3 := vv C 3 "modulus" rfl (by first | exact .inl rfl | exact .inr (.inl rfl) | exact .inr (.inr rfl)) (by decide) (by decide)
      have Vb1_1 := vv C 1 "state" rfl (by first | exact .inl rfl | exact .inr (.inl rfl) | exact .inr (.inr rfl)) (by decide) (by decide)
      have Lb1__law_draw := gg C "_law_draw" rfl
      exact sts_nil) (by
      intro s H0 Cc cl fp C
      have Vb1_3 := vv C 3 "modulus" rfl (by first | exact .inl rfl | exact .inr (.inl rfl) | exact .inr (.inr rfl)) (by decide) (by decide)
      have Vb1_1 := vv C 1 "state" rfl (by first | exact .inl rfl | exact .inr (.inl rfl) | exact .inr (.inr rfl)) (by decide) (by decide)
      have Lb1__law_draw := gg C "_law_draw" rfl
      exact (se_call C (DefG.to G__law_draw) (by decide) denFn_ar Lb1__law_draw (sa_cons (Vb1_1 _) (sa_cons (Vb1_3 _) sa_nil rfl) rfl) (by decide) rfl rfl)) (fun _ => rfl)) sb_nil rfl) (by decide) (by decide) rfl rfl) rfl (.inl rfl))
      (ss_cons (ss_set C rfl (by first | exact .inl rfl | exact .inr rfl) (se_call C (DefG.to G__law_signs) (by decide) denFn_ar L_law_signs (sa_cons (V3 _) sa_nil rfl) (by decide) rfl rfl) rfl (.inl rfl))
      (ss_cons (ss_set C rfl (by first | exact .inl rfl | exact .inr rfl) (se_mthS PySem.F.slot_str_join PySem.F.type_str_join mt_joinA os_join (se_strL (by decide +kernel)) (sb_cons (se_lcC [("k", 20)] [20] C (si_range1 Lrange T.n_range (sb_cons (se_call C (DefG.to G__law_draw) (by decide) denFn_ar L_law_draw (sa_cons (V1 _) (sa_cons se_int sa_nil rfl) rfl) (by decide) rfl rfl) sb_nil rfl) rfl) (by kernel_rfl) (by decide) (by
      intro s H0 Cc cl fp C
      have Vb2_5 := vv C 5 "signs" rfl (by first | exact .inl rfl | exact .inr (.inl rfl) | exact .inr (.inr rfl)) (by decide) (by decide)
      have Vb2_1 := vv C 1 "state" rfl (by first | exact .inl rfl | exact .inr (.inl rfl) | exact .inr (.inr rfl)) (by decide) (by decide)
      have Lb2__law_draw := gg C "_law_draw" rfl
      have Lb2_len := gg C "len" rfl
      exact (sg_name C rfl (by first | exact .inl rfl | exact .inr rfl) (by first | exact .inl rfl | exact .inr rfl))) (by
      intro s H0 Cc cl fp C
      have Vb2_5 := vv C 5 "signs" rfl (by first | exact .inl rfl | exact .inr (.inl rfl) | exact .inr (.inr rfl)) (by decide) (by decide)
      have Vb2_1 := vv C 1 "state" rfl (by first | exact .inl rfl | exact .inr (.inl rfl) | exact .inr (.inr rfl)) (by decide) (by decide)
      have Lb2__law_draw := gg C "_law_draw" rfl
      have Lb2_len := gg C "len" rfl
      exact sts_nil) (by
      intro s H0 Cc cl fp C
      have Vb2_5 := vv C 5 "signs" rfl (by first | exact .inl rfl | exact .inr (.inl rfl) | exact .inr (.inr rfl)) (by decide) (by decide)
      have Vb2_1 := vv C 1 "state" rfl (by first | exact .inl rfl | exact .inr (.inl rfl) | exact .inr (.inr rfl)) (by decide) (by decide)
      have Lb2__law_draw := gg C "_law_draw" rfl
      have Lb2_len := gg C "len" rfl
      exact (se_ix ix_seq os_ix (fun _ _ => rfl) (Vb2_5 _) (se_call C (DefG.to G__law_draw) (by decide) denFn_ar Lb2__law_draw (sa_cons (Vb2_1 _) (sa_cons (se_callB (cr_lenA) os_len Lb2_len T.n_len rfl (sb_cons (Vb2_5 _) sb_nil rfl) (by decide) (by decide) rfl rfl) sa_nil rfl) rfl) (by decide) rfl rfl))) (fun _ => rfl)) sb_nil rfl) rfl rfl rfl rfl rfl) rfl (.inl rfl))
      (ss_cons (ss_set C rfl (by first | exact .inl rfl | exact .inr rfl) (se_call C (DefG.to G__law_sum) (by decide) denFn_ar L_law_sum (sa_cons (V3 _) (sa_cons (V4 _) (sa_cons (V6 _) sa_nil rfl) rfl) rfl) (by decide) rfl rfl) rfl (.inl rfl))
      (ss_cons (ss_if (st_sw (sw_or (st_cmp (op_neC C) os_ne rfl (se_call C (DefG.to G_check_sum) (by decide) denFn_ar Lcheck_sum (sa_cons (V3 _) (sa_cons (V4 _) (sa_cons (V6 _) sa_nil rfl) rfl) rfl) (by decide) rfl rfl) (V7 _)) (sw_or1 (st_cmp (op_neC C) os_ne rfl (se_call C (DefG.to G_is_guarded) (by decide) denFn_ar Lis_guarded (sa_cons (V3 _) (sa_cons (V4 _) (sa_cons (V6 _) sa_nil rfl) rfl) rfl) (by decide) rfl rfl) (se_cmp (op_eqC C) os_eq rfl (V7 _) se_int))))) (ss_one (ss_ret se_bl)) ss_nil)
      (ss_cons (ss_set C rfl (by first | exact .inl rfl | exact .inr rfl) (se_call C (DefG.to G_guards_of) (by decide) denFn_ar Lguards_of (sa_cons (V3 _) (sa_cons (V4 _) (sa_cons (V6 _) sa_nil rfl) rfl) rfl) (by decide) rfl rfl) rfl (.inl rfl))
      (ss_cons (ss_if (st_cmp (op_neC C) os_ne rfl (V8 _) (se_callTy (call_tuple_of) os_tup Ltuple T.n_tuple rfl (sb_cons (se_lcC [("sign", 21)] [21] C (si_val (V5 _)) (by kernel_rfl) (by decide) (by
      intro s H0 Cc cl fp C
      have Vb3_3 := vv C 3 "modulus" rfl (by first | exact .inl rfl | exact .inr (.inl rfl) | exact .inr (.inr rfl)) (by decide) (by decide)
      have Vb3_21 := vv C 21 "sign" rfl (by first | exact .inl rfl | exact .inr (.inl rfl) | exact .inr (.inr rfl)) (by decide) (by decide)
      have Vb3_6 := vv C 6 "text" rfl (by first | exact .inl rfl | exact .inr (.inl rfl) | exact .inr (.inr rfl)) (by decide) (by decide)
      have Vb3_4 := vv C 4 "weights" rfl (by first | exact .inl rfl | exact .inr (.inl rfl) | exact .inr (.inr rfl)) (by decide) (by decide)
      have Lb3__law_sum := gg C "_law_sum" rfl
      exact (sg_name C rfl (by first | exact .inl rfl | exact .inr rfl) (by first | exact .inl rfl | exact .inr rfl))) (by
      intro s H0 Cc cl fp C
      have Vb3_3 := vv C 3 "modulus" rfl (by first | exact .inl rfl | exact .inr (.inl rfl) | exact .inr (.inr rfl)) (by decide) (by decide)
      have Vb3_21 := vv C 21 "sign" rfl (by first | exact .inl rfl | exact .inr (.inl rfl) | exact .inr (.inr rfl)) (by decide) (by decide)
      have Vb3_6 := vv C 6 "text" rfl (by first | exact .inl rfl | exact .inr (.inl rfl) | exact .inr (.inr rfl)) (by decide) (by decide)
      have Vb3_4 := vv C 4 "weights" rfl (by first | exact .inl rfl | exact .inr (.inl rfl) | exact .inr (.inr rfl)) (by decide) (by decide)
      have Lb3__law_sum := gg C "_law_sum" rfl
      exact (sts_one (st_cmp (op_eqC C) os_eq rfl (se_call C (DefG.to G__law_sum) (by decide) denFn_ar Lb3__law_sum (sa_cons (Vb3_3 _) (sa_cons (Vb3_4 _) (sa_cons (se_bin op_addA os_add (Vb3_6 _) (Vb3_21 _)) sa_nil rfl) rfl) rfl) (by decide) rfl rfl) se_int))) (by
      intro s H0 Cc cl fp C
      have Vb3_3 := vv C 3 "modulus" rfl (by first | exact .inl rfl | exact .inr (.inl rfl) | exact .inr (.inr rfl)) (by decide) (by decide)
      have Vb3_21 := vv C 21 "sign" rfl (by first | exact .inl rfl | exact .inr (.inl rfl) | exact .inr (.inr rfl)) (by decide) (by decide)
      have Vb3_6 := vv C 6 "text" rfl (by first | exact .inl rfl | exact .inr (.inl rfl) | exact .inr (.inr rfl)) (by decide) (by decide)
      have Vb3_4 := vv C 4 "weights" rfl (by first | exact .inl rfl | exact .inr (.inl rfl) | exact .inr (.inr rfl)) (by decide) (by decide)
      have Lb3__law_sum := gg C "_law_sum" rfl
      exact (Vb3_21 _)) (fun _ => rfl)) sb_nil rfl) (by decide) (by decide) rfl rfl)) (ss_one (ss_ret se_bl)) ss_nil)
      (ss_cons (ss_set C rfl (by first | exact .inl rfl | exact .inr rfl) (se_lst sa_nil) rfl (.inl rfl))
      (ss_cons (ss_for C (passes_of rfl) (si_range1 Lrange T.n_range (sb_cons (se_callB (cr_lenA) os_len Llen T.n_len rfl (sb_cons (V6 _) sb_nil rfl) (by decide) (by decide) rfl rfl) sb_nil rfl) rfl) (sg_name C rfl (by first | exact .inl rfl | exact .inr rfl) (by first | exact .inl rfl | exact .inr rfl)) (ss_one (ss_ext (pe_var rfl (by first | exact .inl rfl | exact .inr (.inl rfl) | exact .inr (.inr rfl)) (by decide) (by decide)) (se_call C (DefG.to G__law_changed) (by decide) denFn_ar L_law_changed (sa_cons (V3 _) (sa_cons (V6 _) (sa_cons (V10 _) sa_nil rfl) rfl) rfl) (by decide) rfl rfl) rfl rfl rfl rfl rfl)) (fun _ => rfl))
      (ss_cons (ss_if (st_cmp (op_neC C) os_ne rfl (se_call C (DefG.to G_repairs) (by decide) denFn_ar Lrepairs (sa_cons (V3 _) (sa_cons (V4 _) (sa_cons (V6 _) sa_nil rfl) rfl) rfl) (by decide) rfl rfl) (se_ifE (st_cmp (op_eqC C) os_eq rfl (V7 _) se_int) (se_tup (sa_cons (V6 _) sa_nil rfl)) (se_callTy (call_tuple_of) os_tup Ltuple T.n_tuple rfl (sb_cons (se_callB (cr_srtA rfl) os_srt Lsorted T.n_sorted rfl (sb_cons (se_call C (DefG.to G__law_guarded) (by decide) denFn_ar L_law_guarded (sa_cons (V3 _) (sa_cons (V4 _) (sa_cons (V9 _) sa_nil rfl) rfl) rfl) (by decide) rfl rfl) sb_nil rfl) (by decide) (by decide) rfl rfl) sb_nil rfl) (by decide) (by decide) rfl rfl))) (ss_one (ss_ret se_bl)) ss_nil)
      (ss_cons (ss_set C rfl (by first | exact .inl rfl | exact .inr rfl) (se_callTy (cr_dctP rfl) os_dct Ldict T.n_dict rfl (sb_cons (se_lcC [("at", 10)] [10] C (si_range1 Lrange T.n_range (sb_cons (se_bin op_sub os_sub (se_callB (cr_lenA) os_len Llen T.n_len rfl (sb_cons (V6 _) sb_nil rfl) (by decide) (by decide) rfl rfl) se_int) sb_nil rfl) rfl) (by kernel_rfl) (by decide) (by
      intro s H0 Cc cl fp C
      have Vb4_10 := vv C 10 "at" rfl (by first | exact .inl rfl | exact .inr (.inl rfl) | exact .inr (.inr rfl)) (by decide) (by decide)
      have Vb4_6 := vv C 6 "text" rfl (by first | exact .inl rfl | exact .inr (.inl rfl) | exact .inr (.inr rfl)) (by decide) (by decide)
      exact (sg_name C rfl (by first | exact .inl rfl | exact .inr rfl) (by first | exact .inl rfl | exact .inr rfl))) (by
      intro s H0 Cc cl fp C
      have Vb4_10 := vv C 10 "at" rfl (by first | exact .inl rfl | exact .inr (.inl rfl) | exact .inr (.inr rfl)) (by decide) (by decide)
      have Vb4_6 := vv C 6 "text" rfl (by first | exact .inl rfl | exact .inr (.inl rfl) | exact .inr (.inr rfl)) (by decide) (by decide)
      exact (sts_one (st_cmp (op_neC C) os_ne rfl (se_ix ix_seq os_ix (fun _ _ => rfl) (Vb4_6 _) (Vb4_10 _)) (se_ix ix_seq os_ix (fun _ _ => rfl) (Vb4_6 _) (se_bin op_addA os_add (Vb4_10 _) se_int))))) (by
      intro s H0 Cc cl fp C
      have Vb4_10 := vv C 10 "at" rfl (by first | exact .inl rfl | exact .inr (.inl rfl) | exact .inr (.inr rfl)) (by decide) (by decide)
      have Vb4_6 := vv C 6 "text" rfl (by first | exact .inl rfl | exact .inr (.inl rfl) | exact .inr (.inr rfl)) (by decide) (by decide)
      exact (se_tup (sa_cons (se_bin op_addA os_add (se_bin op_addA os_add (se_bin op_addA os_add (se_slice (Vb4_6 _) so_none (so_some (Vb4_10 _))) (se_ix ix_seq os_ix (fun _ _ => rfl) (Vb4_6 _) (se_bin op_addA os_add (Vb4_10 _) se_int))) (se_ix ix_seq os_ix (fun _ _ => rfl) (Vb4_6 _) (Vb4_10 _))) (se_slice (Vb4_6 _) (so_some (se_bin op_addA os_add (Vb4_10 _) se_int)) so_none)) (sa_cons se_bl sa_nil rfl) rfl))) (fun _ => rfl)) sb_nil rfl) (by decide) (by decide) rfl rfl) rfl (.inl rfl))
      (ss_cons (ss_if (st_cmp (op_neC C) os_ne rfl (se_call C (DefG.to G_turn_repairs) (by decide) denFn_ar Lturn_repairs (sa_cons (V3 _) (sa_cons (V4 _) (sa_cons (V6 _) sa_nil rfl) rfl) rfl) (by decide) rfl rfl) (se_callTy (call_tuple_of) os_tup Ltuple T.n_tuple rfl (sb_cons (se_callB (cr_srtA rfl) os_srt Lsorted T.n_sorted rfl (sb_cons (se_call C (DefG.to G__law_guarded) (by decide) denFn_ar L_law_guarded (sa_cons (V3 _) (sa_cons (V4 _) (sa_cons (se_callTy (cr_lstA rfl) os_lst Llist T.n_list rfl (sb_cons (V11 _) sb_nil rfl) (by decide) (by decide) rfl rfl) sa_nil rfl) rfl) rfl) (by decide) rfl rfl) sb_nil rfl) (by decide) (by decide) rfl rfl) sb_nil rfl) (by decide) (by decide) rfl rfl)) (ss_one (ss_ret se_bl)) ss_nil)
      (ss_cons (ss_if (st_tru (V6 _) fun _ => rfl) (ss_cons (ss_set C rfl (by first | exact .inl rfl | exact .inr rfl) (se_call C (DefG.to G__law_draw) (by decide) denFn_ar L_law_draw (sa_cons (V1 _) (sa_cons (se_callB (cr_lenA) os_len Llen T.n_len rfl (sb_cons (V6 _) sb_nil rfl) (by decide) (by decide) rfl rfl) sa_nil rfl) rfl) (by decide) rfl rfl) rfl (.inl rfl))
      (ss_one (ss_if (st_cmp (op_neC C) os_ne rfl (se_call C (DefG.to G_filled) (by decide) denFn_ar Lfilled (sa_cons (V3 _) (sa_cons (V4 _) (sa_cons (V6 _) (sa_cons (V10 _) sa_nil rfl) rfl) rfl) rfl) (by decide) rfl rfl) (se_callTy (call_tuple_of) os_tup Ltuple T.n_tuple rfl (sb_cons (se_lcC [("sign", 21)] [21] C (si_val (V5 _)) (by kernel_rfl) (by decide) (by
      intro s H0 Cc cl fp C
      have Vb5_10 := vv C 10 "at" rfl (by first | exact .inl rfl | exact .inr (.inl rfl) | exact .inr (.inr rfl)) (by decide) (by decide)
      have Vb5_3 := vv C 3 "modulus" rfl (by first | exact .inl rfl | exact .inr (.inl rfl) | exact .inr (.inr rfl)) (by decide) (by decide)
      have Vb5_21 := vv C 21 "sign" rfl (by first | exact .inl rfl | exact .inr (.inl rfl) | exact .inr (.inr rfl)) (by decide) (by decide)
      have Vb5_6 := vv C 6 "text" rfl (by first | exact .inl rfl | exact .inr (.inl rfl) | exact .inr (.inr rfl)) (by decide) (by decide)
      have Vb5_4 := vv C 4 "weights" rfl (by first | exact .inl rfl | exact .inr (.inl rfl) | exact .inr (.inr rfl)) (by decide) (by decide)
      have Lb5__law_sum := gg C "_law_sum" rfl
      exact (sg_name C rfl (by first | exact .inl rfl | exact .inr rfl) (by first | exact .inl rfl | exact .inr rfl))) (by
      intro s H0 Cc cl fp C
      have Vb5_10 := vv C 10 "at" rfl (by first | exact .inl rfl | exact .inr (.inl rfl) | exact .inr (.inr rfl)) (by decide) (by decide)
      have Vb5_3 := vv C 3 "modulus" rfl (by first | exact .inl rfl | exact .inr (.inl rfl) | exact .inr (.inr rfl)) (by decide) (by decide)
      have Vb5_21 := vv C 21 "sign" rfl (by first | exact .inl rfl | exact .inr (.inl rfl) | exact .inr (.inr rfl)) (by decide) (by decide)
      have Vb5_6 := vv C 6 "text" rfl (by first | exact .inl rfl | exact .inr (.inl rfl) | exact .inr (.inr rfl)) (by decide) (by decide)
      have Vb5_4 := vv C 4 "weights" rfl (by first | exact .inl rfl | exact .inr (.inl rfl) | exact .inr (.inr rfl)) (by decide) (by decide)
      have Lb5__law_sum := gg C "_law_sum" rfl
      exact (sts_one (st_cmp (op_eqC C) os_eq rfl (se_call C (DefG.to G__law_sum) (by decide) denFn_ar Lb5__law_sum (sa_cons (Vb5_3 _) (sa_cons (Vb5_4 _) (sa_cons (se_bin op_addA os_add (se_bin op_addA os_add (se_slice (Vb5_6 _) so_none (so_some (Vb5_10 _))) (Vb5_21 _)) (se_slice (Vb5_6 _) (so_some (se_bin op_addA os_add (Vb5_10 _) se_int)) so_none)) sa_nil rfl) rfl) rfl) (by decide) rfl rfl) se_int))) (by
      intro s H0 Cc cl fp C
      have Vb5_10 := vv C 10 "at" rfl (by first | exact .inl rfl | exact .inr (.inl rfl) | exact .inr (.inr rfl)) (by decide) (by decide)
      have Vb5_3 := vv C 3 "modulus" rfl (by first | exact .inl rfl | exact .inr (.inl rfl) | exact .inr (.inr rfl)) (by decide) (by decide)
      have Vb5_21 := vv C 21 "sign" rfl (by first | exact .inl rfl | exact .inr (.inl rfl) | exact .inr (.inr rfl)) (by decide) (by decide)
      have Vb5_6 := vv C 6 "text" rfl (by first | exact .inl rfl | exact .inr (.inl rfl) | exact .inr (.inr rfl)) (by decide) (by decide)
      have Vb5_4 := vv C 4 "weights" rfl (by first | exact .inl rfl | exact .inr (.inl rfl) | exact .inr (.inr rfl)) (by decide) (by decide)
      have Lb5__law_sum := gg C "_law_sum" rfl
      exact (se_bin op_addA os_add (se_bin op_addA os_add (se_slice (Vb5_6 _) so_none (so_some (Vb5_10 _))) (Vb5_21 _)) (se_slice (Vb5_6 _) (so_some (se_bin op_addA os_add (Vb5_10 _) se_int)) so_none))) (fun _ => rfl)) sb_nil rfl) (by decide) (by decide) rfl rfl)) (ss_one (ss_ret se_bl)) ss_nil))) ss_nil)
      (ss_cons (ss_for C (passes_of rfl) (si_val (se_bin op_addA os_add (se_bin op_mulA os_mul (se_lst (sa_cons (V6 _) sa_nil rfl)) (se_ifE (st_cmp (op_eqC C) os_eq rfl (V7 _) se_int) se_int se_int)) (se_lcC [("sign", 21)] [21] C (si_val (se_slice (V8 _) so_none (so_some se_int))) (by kernel_rfl) (by decide) (by
      intro s H0 Cc cl fp C
      have Vb6_21 := vv C 21 "sign" rfl (by first | exact .inl rfl | exact .inr (.inl rfl) | exact .inr (.inr rfl)) (by decide) (by decide)
      have Vb6_6 := vv C 6 "text" rfl (by first | exact .inl rfl | exact .inr (.inl rfl) | exact .inr (.inr rfl)) (by decide) (by decide)
      exact (sg_name C rfl (by first | exact .inl rfl | exact .inr rfl) (by first | exact .inl rfl | exact .inr rfl))) (by
      intro s H0 Cc cl fp C
      have Vb6_21 := vv C 21 "sign" rfl (by first | exact .inl rfl | exact .inr (.inl rfl) | exact .inr (.inr rfl)) (by decide) (by decide)
      have Vb6_6 := vv C 6 "text" rfl (by first | exact .inl rfl | exact .inr (.inl rfl) | exact .inr (.inr rfl)) (by decide) (by decide)
      exact sts_nil) (by
      intro s H0 Cc cl fp C
      have Vb6_21 := vv C 21 "sign" rfl (by first | exact .inl rfl | exact .inr (.inl rfl) | exact .inr (.inr rfl)) (by decide) (by decide)
      have Vb6_6 := vv C 6 "text" rfl (by first | exact .inl rfl | exact .inr (.inl rfl) | exact .inr (.inr rfl)) (by decide) (by decide)
      exact (se_bin op_addA os_add (Vb6_6 _) (Vb6_21 _))) (fun _ => rfl)))) (sg_name C rfl (by first | exact .inl rfl | exact .inr rfl) (by first | exact .inl rfl | exact .inr rfl)) (ss_cons (ss_set C rfl (by first | exact .inl rfl | exact .inr rfl) (se_lst sa_nil) rfl (.inl rfl))
      (ss_cons (ss_for C (passes_of rfl) (si_range1 Lrange T.n_range (sb_cons (se_callB (cr_lenA) os_len Llen T.n_len rfl (sb_cons (V12 _) sb_nil rfl) (by decide) (by decide) rfl rfl) sb_nil rfl) rfl) (sg_name C rfl (by first | exact .inl rfl | exact .inr rfl) (by first | exact .inl rfl | exact .inr rfl)) (ss_one (ss_ext (pe_var rfl (by first | exact .inl rfl | exact .inr (.inl rfl) | exact .inr (.inr rfl)) (by decide) (by decide)) (se_call C (DefG.to G__law_changed) (by decide) denFn_ar L_law_changed (sa_cons (V3 _) (sa_cons (V12 _) (sa_cons (V10 _) sa_nil rfl) rfl) rfl) (by decide) rfl rfl) rfl rfl rfl rfl rfl)) (fun _ => rfl))
      (ss_one (ss_if (st_cmp (op_neC C) os_ne rfl (se_call C (DefG.to G_missed_share) (by decide) denFn_ar Lmissed_share (sa_cons (V3 _) (sa_cons (V4 _) (sa_cons (V12 _) sa_nil rfl) rfl) rfl) (by decide) rfl rfl) (se_tup (sa_cons (se_callB (cr_lenA) os_len Llen T.n_len rfl (sb_cons (se_call C (DefG.to G__law_guarded) (by decide) denFn_ar L_law_guarded (sa_cons (V3 _) (sa_cons (V4 _) (sa_cons (V9 _) sa_nil rfl) rfl) rfl) (by decide) rfl rfl) sb_nil rfl) (by decide) (by decide) rfl rfl) (sa_cons (se_callB (cr_lenA) os_len Llen T.n_len rfl (sb_cons (V9 _) sb_nil rfl) (by decide) (by decide) rfl rfl) sa_nil rfl) rfl))) (ss_one (ss_ret se_bl)) ss_nil)))) (fun _ => rfl))
      (ss_cons (ss_par C rfl rfl (by decide) rfl rfl (sa_cons (se_call C (DefG.to G_judge_changes) (by decide) denFn_ar Ljudge_changes (sa_cons (V3 _) (sa_cons (V4 _) sa_nil rfl) rfl) (by decide) rfl rfl) (sa_cons (se_call C (DefG.to G_judge_turns) (by decide) denFn_ar Ljudge_turns (sa_cons (V3 _) (sa_cons (V4 _) sa_nil rfl) rfl) (by decide) rfl rfl) sa_nil rfl) rfl) rfl rfl)
      (ss_cons (ss_if (st_sw (sw_or (st_cmp (op_neC C) os_ne rfl (V13 _) (se_call C (DefG.to G__law_judged) (by decide) denFn_ar L_law_judged (sa_cons (V3 _) (sa_cons (se_callTy (cr_lstA rfl) os_lst Llist T.n_list rfl (sb_cons (V4 _) sb_nil rfl) (by decide) (by decide) rfl rfl) sa_nil rfl) rfl) (by decide) rfl rfl)) (sw_or1 (st_cmp (op_neC C) os_ne rfl (V14 _) (se_call C (DefG.to G__law_judged) (by decide) denFn_ar L_law_judged (sa_cons (V3 _) (sa_cons (se_call C (DefG.to G__law_gaps) (by decide) denFn_ar L_law_gaps (sa_cons (V4 _) sa_nil rfl) (by decide) rfl rfl) sa_nil rfl) rfl) (by decide) rfl rfl))))) (ss_one (ss_ret se_bl)) ss_nil)
      (ss_cons (ss_set C rfl (by first | exact .inl rfl | exact .inr rfl) (se_bin op_mulA os_mul (se_ix ix_seq os_ix (fun _ _ => rfl) (V5 _) se_int) (se_callB (cr_lenA) os_len Llen T.n_len rfl (sb_cons (V4 _) sb_nil rfl) (by decide) (by decide) rfl rfl)) rfl (.inl rfl))
      (ss_cons (ss_if (st_cmp op_gtA os_gt rfl (se_callB (cr_lenA) os_len Llen T.n_len rfl (sb_cons (V13 _) sb_nil rfl) (by decide) (by decide) rfl rfl) se_int) (ss_cons (ss_par C rfl rfl (by decide) rfl rfl (sa_cons (se_bin op_addA os_add (se_slice (V15 _) so_none (so_some (se_ix ix_seq os_ix (fun _ _ => rfl) (V13 _) se_int))) (se_ix ix_seq os_ix (fun _ _ => rfl) (V5 _) (se_ix ix_seq os_ix (fun _ _ => rfl) (V13 _) se_int))) (sa_cons (se_bin op_addA os_add (se_slice (V15 _) so_none (so_some (se_ix ix_seq os_ix (fun _ _ => rfl) (V13 _) se_int))) (se_ix ix_seq os_ix (fun _ _ => rfl) (V5 _) (se_ix ix_seq os_ix (fun _ _ => rfl) (V13 _) se_int))) sa_nil rfl) rfl) rfl rfl)
      (ss_one (ss_if (st_cmp op_notN os_isnt rfl (se_call C (DefG.to G_accept_missed) (by decide) denFn_ar Laccept_missed (sa_cons (V3 _) (sa_cons (V4 _) (sa_cons (V16 _) (sa_cons (V17 _) sa_nil rfl) rfl) rfl) rfl) (by decide) rfl rfl) se_non) (ss_one (ss_ret se_bl)) ss_nil))) ss_nil)
      (ss_cons (ss_if (st_cmp op_gtA os_gt rfl (se_callB (cr_lenA) os_len Llen T.n_len rfl (sb_cons (V14 _) sb_nil rfl) (by decide) (by decide) rfl rfl) se_int) (ss_cons (ss_par C rfl rfl (by decide) rfl rfl (sa_cons (se_bin op_addA os_add (se_bin op_addA os_add (se_slice (V15 _) so_none (so_some (se_ix ix_seq os_ix (fun _ _ => rfl) (V14 _) se_int))) (se_ix ix_seq os_ix (fun _ _ => rfl) (V5 _) (se_ix ix_seq os_ix (fun _ _ => rfl) (V14 _) se_int))) (se_ix ix_seq os_ix (fun _ _ => rfl) (V5 _) (se_ix ix_seq os_ix (fun _ _ => rfl) (V14 _) se_int))) (sa_cons (se_bin op_addA os_add (se_bin op_addA os_add (se_slice (V15 _) so_none (so_some (se_ix ix_seq os_ix (fun _ _ => rfl) (V14 _) se_int))) (se_ix ix_seq os_ix (fun _ _ => rfl) (V5 _) (se_ix ix_seq os_ix (fun _ _ => rfl) (V14 _) se_int))) (se_ix ix_seq os_ix (fun _ _ => rfl) (V5 _) (se_ix ix_seq os_ix (fun _ _ => rfl) (V14 _) se_int))) sa_nil rfl) rfl) rfl rfl)
      (ss_one (ss_if (st_cmp op_notN os_isnt rfl (se_call C (DefG.to G_accept_missed) (by decide) denFn_ar Laccept_missed (sa_cons (V3 _) (sa_cons (V4 _) (sa_cons (V16 _) (sa_cons (V17 _) sa_nil rfl) rfl) rfl) rfl) (by decide) rfl rfl) se_non) (ss_one (ss_ret se_bl)) ss_nil))) ss_nil)
      (ss_cons (ss_par C rfl rfl (by decide) rfl rfl (sa_cons (se_ix ix_seq os_ix (fun _ _ => rfl) (se_lst (sa_cons se_int (sa_cons se_int (sa_cons se_int (sa_cons se_int (sa_cons se_int (sa_cons se_int (sa_cons se_int sa_nil rfl) rfl) rfl) rfl) rfl) rfl) rfl)) (se_call C (DefG.to G__law_draw) (by decide) denFn_ar L_law_draw (sa_cons (V1 _) (sa_cons se_int sa_nil rfl) rfl) (by decide) rfl rfl)) (sa_cons (se_bin op_addA os_add se_int (se_call C (DefG.to G__law_draw) (by decide) denFn_ar L_law_draw (sa_cons (V1 _) (sa_cons se_int sa_nil rfl) rfl) (by decide) rfl rfl)) sa_nil rfl) rfl) rfl rfl)
      (ss_one (ss_if (st_cmp (op_neC C) os_ne rfl (se_call C (DefG.to G_good_weights) (by decide) denFn_ar Lgood_weights (sa_cons (V18 _) (sa_cons (V19 _) sa_nil rfl) rfl) (by decide) rfl rfl) (se_call C (DefG.to G__law_good) (by decide) denFn_ar L_law_good (sa_cons (V18 _) (sa_cons (V19 _) sa_nil rfl) rfl) (by decide) rfl rfl)) (ss_one (ss_ret se_bl)) ss_nil))))))))))))))))))))))) (fun _ => rfl))
      (ss_one (ss_ret se_bl)))
  have q := law_ok (P := P) (w := w) (base := base) (M := 20) (n := 63) (p := "script") (k := 10) (first := first_law) (rest := rest_law) D.fn sc_law rfl rfl hb1 hb hm
  exact q
end K56
namespace K56
open PySem PySem.Spec L2 PM
theorem draw_is : g__law_draw = gDraw := rfl
theorem start_is : g__law_start = gStart := rfl
theorem is_integer_is (m : Int) (S : List D) : g_is_integer [.int m] S = .ok S false (.bl true) := rfl
theorem signs_len : c_SIGNS.length = 66 := rfl
def nS (m : Int) : Int := if 66 < m then 66 else m
theorem signs_of_is (m : Int) (S : List D) : g_signs_of [.int m] S = .ok S false (.int (nS m)) := rfl
/-- a code -/
structure Code (m : Int) (ws : List Int) : Prop where
  m1 : 2 ≤ m
  m2 : m ≤ 97
  w1 : 1 ≤ ws.length
  w2 : ws.length ≤ 12
  w : ∀ x ∈ ws, 0 ≤ x ∧ x < m
theorem allD_bl (bs : List Bool) : allD [.lst (bs.map D.bl)] = some (false, .bl (bs.all id)) := by
  unfold allD lisD
  simp only [Option.bind, bolsD_map]
  rfl
theorem filterMap_some {β γ : Type} (f : β → γ) (l : List β) : l.filterMap (fun x => some (f x)) = l.map f := by
  rw [← List.filterMap_eq_map]; rfl
theorem check_code_is {m : Int} {ws : List Int} (h : Code m ws) (S : List D) : g_check_code [.int m, .tup (ws.map D.int)] S = .ok S false .non := by
  have hl : (eLc (iVal (eVar 1)) [2] (gN 2) tYs (eAnd2 (eCall g_is_integer (aCons (eVar 2) aNil)) (eChain leD2 ltD2 (eCst (.int 0)) (eVar 2) (eVar 0)))) ⟨[.fz (.int m), .fz (.tup (ws.map D.int)), .un], S⟩ =
      .ok ⟨[.fz (.int m), .fz (.tup (ws.map D.int)), .un], S⟩ (.fr, .lst ((ws.map fun _ => true).map D.bl)) := by
    refine (eLc_pure (p1 := ⟨[.fz (.int m), .fz (.tup (ws.map D.int)), .un], S⟩) (items := ws.map D.int) (fun _ => some (.bl true)) rfl ?_ ?_).trans ?_
    · intro d hd
      obtain ⟨x, hx, rfl⟩ := List.mem_map.mp hd
      obtain ⟨h1, h2⟩ := h.w x hx
      refine ⟨⟨[.fz (.int m), .fz (.tup (ws.map D.int)), .fz (.int x)], S⟩, _, true, rfl, rfl, .inr ⟨rfl, ⟨[.fz (.int m), .fz (.tup (ws.map D.int)), .fz (.int x)], S⟩, .fz, .bl true, ?_, rfl, rfl⟩⟩
      simp only [denFn, startP, outF, frOf, sSeq, sIf, sSet, sRet, sRetN, sExpr, sNil, sBrk, sCnt, sAug, sPar, sTgt, sApp, sExt, sStIx, sFor, eVar, eCst, eOp2, eOp1, eOpN, eChain, eAnd2, eOr2, eNot1, eIfE, tOfV, tTru, tAnd2, tOr2, tNot1, tYs, aNil, aCons, bNil, bCons, eTup, eLst, eDct0, eSl, eMthS, eCall, gN, gT, gSeq, iVal, iRange1, iRange2, iEnumr, itemsD, opOut, kdOf, deref, derefs, PSt.put, PSt.frzK, PSt.frz, Out.bind, Option.bind, Option.map, add_int, sub_int, addI, ix_tupE, ix_lstE, isTx, isntD2, isD2, isNone, guard', stIx, held, isKey, List.map_cons, List.map_nil, List.length_cons, List.length_nil, List.replicate_succ, List.replicate_zero, List.cons_append, List.nil_append, List.append_nil, List.getElem?_cons_zero, List.getElem?_cons_succ, List.set_cons_zero, List.set_cons_succ, Nat.reduceAdd, Nat.reduceSub, Nat.reduceEqDiff, if_true, if_false, ite_true, ite_false, reduceIte, at0, at1, at2, at3, eq_int, ne_int, ge_int, le_int, lt_int, gt_int, len_lst, len_tup, len_dct, intD, absD, List.length_map, Bool.not_true, Bool.not_false, Bool.false_eq_true, is_integer_is, h1, h2, decide_true]
    · have := h.w2
      rw [List.length_map]; omega
    · rw [filterMap_some, List.map_map, List.map_map]; rfl
  have e1 : (2 : Int) ≤ m := h.m1
  have e2 : m ≤ 97 := h.m2
  have e3 : (1 : Int) ≤ (ws.length : Nat) := by have := h.w1; omega
  have e4 : ((ws.length : Nat) : Int) ≤ 12 := by have := h.w2; omega
  have e5 : isiD [D.tup (ws.map D.int), D.ty "tuple"] = some (false, .bl true) := rfl
  have e6 : (ws.map fun _ => true).all id = true := by simp
  unfold g_check_code b_check_code
  refine denFn_run rfl ?_
  simp only [denFn, startP, outF, frOf, sSeq, sIf, sSet, sRet, sRetN, sExpr, sNil, sBrk, sCnt, sAug, sPar, sTgt, sApp, sExt, sStIx, sFor, eVar, eCst, eOp2, eOp1, eOpN, eChain, eAnd2, eOr2, eNot1, eIfE, tOfV, tTru, tAnd2, tOr2, tNot1, tYs, aNil, aCons, bNil, bCons, eTup, eLst, eDct0, eSl, eMthS, eCall, gN, gT, gSeq, iVal, iRange1, iRange2, iEnumr, itemsD, opOut, kdOf, deref, derefs, PSt.put, PSt.frzK, PSt.frz, Out.bind, Option.bind, Option.map, add_int, sub_int, addI, ix_tupE, ix_lstE, isTx, isntD2, isD2, isNone, guard', stIx, held, isKey, List.map_cons, List.map_nil, List.length_cons, List.length_nil, List.replicate_succ, List.replicate_zero, List.cons_append, List.nil_append, List.append_nil, List.getElem?_cons_zero, List.getElem?_cons_succ, List.set_cons_zero, List.set_cons_succ, Nat.reduceAdd, Nat.reduceSub, Nat.reduceEqDiff, if_true, if_false, ite_true, ite_false, reduceIte, at0, at1, at2, at3, eq_int, ne_int, ge_int, le_int, lt_int, gt_int, len_lst, len_tup, len_dct, intD, absD, List.length_map, Bool.not_true, Bool.not_false, Bool.false_eq_true, is_integer_is, e1, e2, e3, e4, e5, hl, decide_true, truD, allD_bl, e6]
def sg (m : Int) : List Nat := c_SIGNS.take m.toNat
/-- a text of a code's first signs -/
structure Txt (m : Int) (t : List Nat) : Prop where
  s : ∀ c ∈ t, c ∈ sg m
  l : t.length ≤ 4000
theorem slS {m : Int} (h : 0 ≤ m) : slD (.str c_SIGNS) none (some m) = some (false, .str (sg m)) := by
  have := sl_strTo (s := c_SIGNS) (k := m.toNat) (by decide)
  rwa [Int.toNat_of_nonneg h] at this
theorem is_text_is {m : Int} {t : List Nat} (hm : 0 ≤ m) (h : Txt m t) (S : List D) : g_is_text [.str t, .int m] S = .ok S false (.bl true) := by
  have hl : (eLc (iVal (eVar 0)) [3] (gN 3) tYs (eOp2 inSD (eVar 3) (eVar 2))) ⟨[.fz (.str t), .fz (.int m), .fz (.str (sg m)), .un], S⟩ =
      .ok ⟨[.fz (.str t), .fz (.int m), .fz (.str (sg m)), .un], S⟩ (.fr, .lst ((t.map fun _ => true).map D.bl)) := by
    refine (eLc_pure (p1 := ⟨[.fz (.str t), .fz (.int m), .fz (.str (sg m)), .un], S⟩) (items := t.map fun c => .str [c]) (fun _ => some (.bl true)) rfl ?_ ?_).trans ?_
    · intro d hd
      obtain ⟨x, hx, rfl⟩ := List.mem_map.mp hd
      have h1 := h.s x hx
      refine ⟨⟨[.fz (.str t), .fz (.int m), .fz (.str (sg m)), .fz (.str [x])], S⟩, _, true, rfl, rfl, .inr ⟨rfl, ⟨[.fz (.str t), .fz (.int m), .fz (.str (sg m)), .fz (.str [x])], S⟩, .fz, .bl true, ?_, rfl, rfl⟩⟩
      simp only [denFn, startP, outF, frOf, sSeq, sIf, sSet, sRet, sRetN, sExpr, sNil, sBrk, sCnt, sAug, sPar, sTgt, sApp, sExt, sStIx, sFor, eVar, eCst, eOp2, eOp1, eOpN, eChain, eAnd2, eOr2, eNot1, eIfE, tOfV, tTru, tAnd2, tOr2, tNot1, tYs, aNil, aCons, bNil, bCons, eTup, eLst, eDct0, eSl, eMthS, eCall, gN, gT, gSeq, iVal, iRange1, iRange2, iEnumr, itemsD, opOut, kdOf, deref, derefs, PSt.put, PSt.frzK, PSt.frz, Out.bind, Option.bind, Option.map, add_int, sub_int, addI, ix_tupE, ix_lstE, isTx, isntD2, isD2, isNone, guard', stIx, held, isKey, List.map_cons, List.map_nil, List.length_cons, List.length_nil, List.replicate_succ, List.replicate_zero, List.cons_append, List.nil_append, List.append_nil, List.getElem?_cons_zero, List.getElem?_cons_succ, List.set_cons_zero, List.set_cons_succ, Nat.reduceAdd, Nat.reduceSub, Nat.reduceEqDiff, if_true, if_false, ite_true, ite_false, reduceIte, at0, at1, at2, at3, eq_int, ne_int, ge_int, le_int, lt_int, gt_int, len_lst, len_tup, len_dct, intD, absD, List.length_map, Bool.not_true, Bool.not_false, Bool.false_eq_true, inSD, h1, decide_true]
    · have := h.l
      rw [List.length_map]; omega
    · rw [filterMap_some, List.map_map, List.map_map]; rfl
  have e4 : ((t.length : Nat) : Int) ≤ 4000 := by have := h.l; omega
  have e5 : isiD [D.str t, D.ty "str"] = some (false, .bl true) := rfl
  have e6 : (t.map fun _ => true).all id = true := by simp
  have e7 : lenD [.str t] = some (false, .int t.length) := len_str (by have := h.l; omega)
  unfold g_is_text b_is_text
  refine denFn_run rfl ?_
  simp only [denFn, startP, outF, frOf, sSeq, sIf, sSet, sRet, sRetN, sExpr, sNil, sBrk, sCnt, sAug, sPar, sTgt, sApp, sExt, sStIx, sFor, eVar, eCst, eOp2, eOp1, eOpN, eChain, eAnd2, eOr2, eNot1, eIfE, tOfV, tTru, tAnd2, tOr2, tNot1, tYs, aNil, aCons, bNil, bCons, eTup, eLst, eDct0, eSl, eMthS, eCall, gN, gT, gSeq, iVal, iRange1, iRange2, iEnumr, itemsD, opOut, kdOf, deref, derefs, PSt.put, PSt.frzK, PSt.frz, Out.bind, Option.bind, Option.map, add_int, sub_int, addI, ix_tupE, ix_lstE, isTx, isntD2, isD2, isNone, guard', stIx, held, isKey, List.map_cons, List.map_nil, List.length_cons, List.length_nil, List.replicate_succ, List.replicate_zero, List.cons_append, List.nil_append, List.append_nil, List.getElem?_cons_zero, List.getElem?_cons_succ, List.set_cons_zero, List.set_cons_succ, Nat.reduceAdd, Nat.reduceSub, Nat.reduceEqDiff, if_true, if_false, ite_true, ite_false, reduceIte, at0, at1, at2, at3, eq_int, ne_int, ge_int, le_int, lt_int, gt_int, len_lst, len_tup, len_dct, intD, absD, List.length_map, Bool.not_true, Bool.not_false, Bool.false_eq_true, slS hm, e4, e5, e7, hl, decide_true, allD_bl, e6]
theorem check_text_is {m : Int} {t : List Nat} (hm : 0 ≤ m) (h : Txt m t) (S : List D) : g_check_text [.str t, .int m] S = .ok S false .non := by
  unfold g_check_text b_check_text
  refine denFn_run rfl ?_
  simp only [denFn, startP, outF, frOf, sSeq, sIf, sSet, sRet, sRetN, sExpr, sNil, sBrk, sCnt, sAug, sPar, sTgt, sApp, sExt, sStIx, sFor, eVar, eCst, eOp2, eOp1, eOpN, eChain, eAnd2, eOr2, eNot1, eIfE, tOfV, tTru, tAnd2, tOr2, tNot1, tYs, aNil, aCons, bNil, bCons, eTup, eLst, eDct0, eSl, eMthS, eCall, gN, gT, gSeq, iVal, iRange1, iRange2, iEnumr, itemsD, opOut, kdOf, deref, derefs, PSt.put, PSt.frzK, PSt.frz, Out.bind, Option.bind, Option.map, add_int, sub_int, addI, ix_tupE, ix_lstE, isTx, isntD2, isD2, isNone, guard', stIx, held, isKey, List.map_cons, List.map_nil, List.length_cons, List.length_nil, List.replicate_succ, List.replicate_zero, List.cons_append, List.nil_append, List.append_nil, List.getElem?_cons_zero, List.getElem?_cons_succ, List.set_cons_zero, List.set_cons_succ, Nat.reduceAdd, Nat.reduceSub, Nat.reduceEqDiff, if_true, if_false, ite_true, ite_false, reduceIte, at0, at1, at2, at3, eq_int, ne_int, ge_int, le_int, lt_int, gt_int, len_lst, len_tup, len_dct, intD, absD, List.length_map, Bool.not_true, Bool.not_false, Bool.false_eq_true, is_text_is hm h, truD]
/-! ### sums -/
def idx (c : Nat) : Int := (c_SIGNS.findIdx (· == c) : Nat)
def wAt (ws : List Int) (k : Nat) : Int := ws.getD (k % ws.length) 0
def sumF (ws : List Int) : Nat → List Nat → Int
  | _, [] => 0
  | k, c :: r => idx c * wAt ws k + sumF ws (k + 1) r
theorem sg_sub {m : Int} {c : Nat} (h : c ∈ sg m) : c ∈ c_SIGNS := List.mem_of_mem_take h
theorem index_is {m : Int} {c : Nat} (h : c ∈ sg m) : indexD (.str c_SIGNS) [.str [c]] = some (false, .int (idx c)) := by
  unfold indexD
  simp only [idxT_one (sg_sub h)]
  rfl
theorem idx_small (c : Nat) : (idx c).natAbs < 2 ^ 64 := by
  have : c_SIGNS.findIdx (· == c) ≤ 66 := List.findIdx_le_length
  unfold idx
  omega
theorem wAt_is {ws : List Int} (h : 1 ≤ ws.length) (k : Nat) : atI (ws.map D.int) ((k : Int) % ((ws.length : Nat) : Int)) = some (.int (wAt ws k)) := by
  have hk : k % ws.length < ws.length := Nat.mod_lt _ (by omega)
  have e : (k : Int) % ((ws.length : Nat) : Int) = ((k % ws.length : Nat) : Int) := by omega
  rw [e, atI_map, atN hk]
  unfold wAt
  rw [List.getD_eq_getElem?_getD, List.getElem?_eq_getElem hk]; rfl
theorem sum_loop {m : Int} {ws : List Int} (h : Code m ws) (d0 d1 d2 : D) (hd1 : d1 = .tup (ws.map D.int)) (S : List D) : ∀ (t : List Nat) (k : Nat) (acc : Int) (x y : Sl), (∀ c ∈ t, c ∈ sg m) → ∃ x' y',
    forLoop (gT [(gN 4), (gN 5)]) (sAug 3 addI (eOp2 mulD (eMthS indexD (eCst (.str c_SIGNS)) (bCons (eVar 5) bNil)) (eOp2 ixD (eVar 1) (eOp2 modD (eVar 4) (eOpN lenD (bCons (eVar 1) bNil)))))) (enumD k (t.map fun c => .str [c])) ⟨[.fz d0, .fz d1, .fz d2, .fz (.int acc), x, y], S⟩
      = .ok ⟨[.fz d0, .fz d1, .fz d2, .fz (.int (acc + sumF ws k t)), x', y'], S⟩ .nx
  | [], k, acc, x, y, _ => ⟨x, y, by rw [sumF, Int.add_zero]; rfl⟩
  | c :: r, k, acc, x, y, hc => by
    obtain ⟨x', y', e⟩ := sum_loop h d0 d1 d2 hd1 S r (k + 1) (acc + idx c * wAt ws k) (.fz (.int (k : Int))) (.fz (.str [c])) fun z hz => hc z (List.mem_cons_of_mem _ hz)
    refine ⟨x', y', ?_⟩
    have e0 : enumD k ((c :: r).map fun c => D.str [c]) = .tup [.int (k : Nat), .str [c]] :: enumD (k + 1) (r.map fun c => .str [c]) := rfl
    rw [e0, sumF, ← Int.add_assoc, ← e]
    have h1 : mulD (.int (idx c)) (.int (wAt ws k)) = some (false, .int (idx c * wAt ws k)) := mul_small (idx_small c)
    have h2 : ∀ x, modD (.int x) (.int (ws.length : Nat)) = some (false, .int (x % (ws.length : Nat))) := fun x => mod_pos (by have := h.w1; omega)
    have h3 := index_is (hc c List.mem_cons_self)
    have h4 := wAt_is h.w1 k
    refine forLoop_cons (p1 := ⟨[.fz d0, .fz d1, .fz d2, .fz (.int acc), .fz (.int (k : Nat)), .fz (.str [c])], S⟩) rfl ?_
    subst hd1
    simp only [denFn, startP, outF, frOf, sSeq, sIf, sSet, sRet, sRetN, sExpr, sNil, sBrk, sCnt, sAug, sPar, sTgt, sApp, sExt, sStIx, sFor, eVar, eCst, eOp2, eOp1, eOpN, eChain, eAnd2, eOr2, eNot1, eIfE, tOfV, tTru, tAnd2, tOr2, tNot1, tYs, aNil, aCons, bNil, bCons, eTup, eLst, eDct0, eSl, eMthS, eCall, gN, gT, gSeq, iVal, iRange1, iRange2, iEnumr, itemsD, opOut, kdOf, deref, derefs, PSt.put, PSt.frzK, PSt.frz, Out.bind, Option.bind, Option.map, add_int, sub_int, addI, ix_tupE, ix_lstE, isTx, isntD2, isD2, isNone, guard', stIx, held, isKey, List.map_cons, List.map_nil, List.length_cons, List.length_nil, List.replicate_succ, List.replicate_zero, List.cons_append, List.nil_append, List.append_nil, List.getElem?_cons_zero, List.getElem?_cons_succ, List.set_cons_zero, List.set_cons_succ, Nat.reduceAdd, Nat.reduceSub, Nat.reduceEqDiff, if_true, if_false, ite_true, ite_false, reduceIte, at0, at1, at2, at3, eq_int, ne_int, ge_int, le_int, lt_int, gt_int, len_lst, len_tup, len_dct, intD, absD, List.length_map, Bool.not_true, Bool.not_false, Bool.false_eq_true, h1, h2, h3, h4]
theorem sum_of_is {m : Int} {ws : List Int} {t : List Nat} (h : Code m ws) (ht : ∀ c ∈ t, c ∈ sg m) (S : List D) : g_sum_of [.int m, .tup (ws.map D.int), .str t] S = .ok S false (.int (sumF ws 0 t % m)) := by
  obtain ⟨x, y, e⟩ := sum_loop h (.int m) (.tup (ws.map D.int)) (.str t) rfl S t 0 0 .un .un ht
  have h2 : ∀ x, modD (.int x) (.int m) = some (false, .int (x % m)) := fun x => mod_pos (by have := h.m1; omega)
  unfold g_sum_of b_sum_of
  refine denFn_run rfl ?_
  have e3 : startP 6 [.int m, .tup (ws.map D.int), .str t] S = ⟨[.fz (.int m), .fz (.tup (ws.map D.int)), .fz (.str t), .un, .un, .un], S⟩ := rfl
  rw [e3, sSeq_nx (p1 := ⟨[.fz (.int m), .fz (.tup (ws.map D.int)), .fz (.str t), .fz (.int 0), .un, .un], S⟩) rfl, sSeq_for rfl e]
  simp only [denFn, startP, outF, frOf, sSeq, sIf, sSet, sRet, sRetN, sExpr, sNil, sBrk, sCnt, sAug, sPar, sTgt, sApp, sExt, sStIx, sFor, eVar, eCst, eOp2, eOp1, eOpN, eChain, eAnd2, eOr2, eNot1, eIfE, tOfV, tTru, tAnd2, tOr2, tNot1, tYs, aNil, aCons, bNil, bCons, eTup, eLst, eDct0, eSl, eMthS, eCall, gN, gT, gSeq, iVal, iRange1, iRange2, iEnumr, itemsD, opOut, kdOf, deref, derefs, PSt.put, PSt.frzK, PSt.frz, Out.bind, Option.bind, Option.map, add_int, sub_int, addI, ix_tupE, ix_lstE, isTx, isntD2, isD2, isNone, guard', stIx, held, isKey, List.map_cons, List.map_nil, List.length_cons, List.length_nil, List.replicate_succ, List.replicate_zero, List.cons_append, List.nil_append, List.append_nil, List.getElem?_cons_zero, List.getElem?_cons_succ, List.set_cons_zero, List.set_cons_succ, Nat.reduceAdd, Nat.reduceSub, Nat.reduceEqDiff, if_true, if_false, ite_true, ite_false, reduceIte, at0, at1, at2, at3, eq_int, ne_int, ge_int, le_int, lt_int, gt_int, len_lst, len_tup, len_dct, intD, absD, List.length_map, Bool.not_true, Bool.not_false, Bool.false_eq_true, h2, Int.zero_add]
theorem check_sum_is {m : Int} {ws : List Int} {t : List Nat} (h : Code m ws) (ht : Txt m t) (S : List D) : g_check_sum [.int m, .tup (ws.map D.int), .str t] S = .ok S false (.int (sumF ws 0 t % m)) := by
  have hm : 0 ≤ m := by have := h.m1; omega
  unfold g_check_sum b_check_sum
  refine denFn_run rfl ?_
  simp only [denFn, startP, outF, frOf, sSeq, sIf, sSet, sRet, sRetN, sExpr, sNil, sBrk, sCnt, sAug, sPar, sTgt, sApp, sExt, sStIx, sFor, eVar, eCst, eOp2, eOp1, eOpN, eChain, eAnd2, eOr2, eNot1, eIfE, tOfV, tTru, tAnd2, tOr2, tNot1, tYs, aNil, aCons, bNil, bCons, eTup, eLst, eDct0, eSl, eMthS, eCall, gN, gT, gSeq, iVal, iRange1, iRange2, iEnumr, itemsD, opOut, kdOf, deref, derefs, PSt.put, PSt.frzK, PSt.frz, Out.bind, Option.bind, Option.map, add_int, sub_int, addI, ix_tupE, ix_lstE, isTx, isntD2, isD2, isNone, guard', stIx, held, isKey, List.map_cons, List.map_nil, List.length_cons, List.length_nil, List.replicate_succ, List.replicate_zero, List.cons_append, List.nil_append, List.append_nil, List.getElem?_cons_zero, List.getElem?_cons_succ, List.set_cons_zero, List.set_cons_succ, Nat.reduceAdd, Nat.reduceSub, Nat.reduceEqDiff, if_true, if_false, ite_true, ite_false, reduceIte, at0, at1, at2, at3, eq_int, ne_int, ge_int, le_int, lt_int, gt_int, len_lst, len_tup, len_dct, intD, absD, List.length_map, Bool.not_true, Bool.not_false, Bool.false_eq_true, check_code_is h, check_text_is hm ht, sum_of_is h ht.s]
theorem is_guarded_is {m : Int} {ws : List Int} {t : List Nat} (h : Code m ws) (ht : Txt m t) (S : List D) : g_is_guarded [.int m, .tup (ws.map D.int), .str t] S = .ok S false (.bl (decide (sumF ws 0 t % m = 0))) := by
  have hm : 0 ≤ m := by have := h.m1; omega
  unfold g_is_guarded b_is_guarded
  refine denFn_run rfl ?_
  simp only [denFn, startP, outF, frOf, sSeq, sIf, sSet, sRet, sRetN, sExpr, sNil, sBrk, sCnt, sAug, sPar, sTgt, sApp, sExt, sStIx, sFor, eVar, eCst, eOp2, eOp1, eOpN, eChain, eAnd2, eOr2, eNot1, eIfE, tOfV, tTru, tAnd2, tOr2, tNot1, tYs, aNil, aCons, bNil, bCons, eTup, eLst, eDct0, eSl, eMthS, eCall, gN, gT, gSeq, iVal, iRange1, iRange2, iEnumr, itemsD, opOut, kdOf, deref, derefs, PSt.put, PSt.frzK, PSt.frz, Out.bind, Option.bind, Option.map, add_int, sub_int, addI, ix_tupE, ix_lstE, isTx, isntD2, isD2, isNone, guard', stIx, held, isKey, List.map_cons, List.map_nil, List.length_cons, List.length_nil, List.replicate_succ, List.replicate_zero, List.cons_append, List.nil_append, List.append_nil, List.getElem?_cons_zero, List.getElem?_cons_succ, List.set_cons_zero, List.set_cons_succ, Nat.reduceAdd, Nat.reduceSub, Nat.reduceEqDiff, if_true, if_false, ite_true, ite_false, reduceIte, at0, at1, at2, at3, eq_int, ne_int, ge_int, le_int, lt_int, gt_int, len_lst, len_tup, len_dct, intD, absD, List.length_map, Bool.not_true, Bool.not_false, Bool.false_eq_true, check_code_is h, check_text_is hm ht, sum_of_is h ht.s]
end K56
namespace K56
open PySem PySem.Spec L2 PM
def su (m : Int) (ws : List Int) (t : List Nat) : Int := sumF ws 0 t % m
def gd (m : Int) (ws : List Int) (t : List Nat) : Bool := decide (su m ws t = 0)
theorem sg_len {m : Int} : (sg m).length ≤ 66 := by
  unfold sg
  rw [List.length_take]
  exact Nat.min_le_right _ _
theorem tupD_lst (xs : List D) : tupD [.lst xs] = some (false, .tup xs) := rfl
theorem txt_app {m : Int} {t u : List Nat} (h : ∀ c ∈ t, c ∈ sg m) (h2 : ∀ c ∈ u, c ∈ sg m) : ∀ c ∈ t ++ u, c ∈ sg m := fun c hc => (List.mem_append.mp hc).elim (h c) (h2 c)
theorem one_in {m : Int} {c : Nat} (h : c ∈ sg m) : ∀ d ∈ [c], d ∈ sg m := fun d hd => by
  cases List.mem_singleton.mp hd
  exact h
theorem guards_of_is {m : Int} {ws : List Int} {t : List Nat} (h : Code m ws) (ht : Txt m t) (hl : t.length < 4000) (S : List D) : g_guards_of [.int m, .tup (ws.map D.int), .str t] S =
    .ok S false (.tup (((sg m).filter fun c => gd m ws (t ++ [c])).map fun c => .str [c])) := by
  have hm : 0 ≤ m := by have := h.m1; omega
  have hlc : (eLc (iVal (eVar 3)) [4] (gN 4) (tOfV (eOp2 eqD2 (eCall g_sum_of (aCons (eVar 0) (aCons (eVar 1) (aCons (eOp2 addD (eVar 2) (eVar 4)) aNil)))) (eCst (.int 0)))) (eVar 4)) ⟨[.fz (.int m), .fz (.tup (ws.map D.int)), .fz (.str t), .fz (.str (sg m)), .un], S⟩ =
      .ok ⟨[.fz (.int m), .fz (.tup (ws.map D.int)), .fz (.str t), .fz (.str (sg m)), .un], S⟩ (.fr, .lst (((sg m).filter fun c => gd m ws (t ++ [c])).map fun c => .str [c])) := by
    refine (eLc_filter (p1 := ⟨[.fz (.int m), .fz (.tup (ws.map D.int)), .fz (.str t), .fz (.str (sg m)), .un], S⟩) (sg m) (fun c => .str [c]) (fun c => .str [c]) (fun c => gd m ws (t ++ [c])) rfl ?_ ?_).trans rfl
    · intro c hc
      refine ⟨⟨[.fz (.int m), .fz (.tup (ws.map D.int)), .fz (.str t), .fz (.str (sg m)), .fz (.str [c])], S⟩, ⟨[.fz (.int m), .fz (.tup (ws.map D.int)), .fz (.str t), .fz (.str (sg m)), .fz (.str [c])], S⟩, rfl, ?_, fun _ => rfl, fun _ => ⟨_, .fz, rfl, rfl⟩⟩
      have e1 : addD (.str t) (.str [c]) = some (false, .str (t ++ [c])) := add_str (by simp; omega)
      simp only [denFn, startP, outF, frOf, sSeq, sIf, sSet, sRet, sRetN, sExpr, sNil, sBrk, sCnt, sAug, sPar, sTgt, sApp, sExt, sStIx, sFor, eVar, eCst, eOp2, eOp1, eOpN, eChain, eAnd2, eOr2, eNot1, eIfE, tOfV, tTru, tAnd2, tOr2, tNot1, tYs, aNil, aCons, bNil, bCons, eTup, eLst, eDct0, eSl, eMthS, eCall, gN, gT, gSeq, iVal, iRange1, iRange2, iEnumr, itemsD, opOut, kdOf, deref, derefs, PSt.put, PSt.frzK, PSt.frz, Out.bind, Option.bind, Option.map, add_int, sub_int, addI, ix_tupE, ix_lstE, isTx, isntD2, isD2, isNone, guard', stIx, held, isKey, List.map_cons, List.map_nil, List.length_cons, List.length_nil, List.replicate_succ, List.replicate_zero, List.cons_append, List.nil_append, List.append_nil, List.getElem?_cons_zero, List.getElem?_cons_succ, List.set_cons_zero, List.set_cons_succ, Nat.reduceAdd, Nat.reduceSub, Nat.reduceEqDiff, if_true, if_false, ite_true, ite_false, reduceIte, at0, at1, at2, at3, eq_int, ne_int, ge_int, le_int, lt_int, gt_int, len_lst, len_tup, len_dct, intD, absD, List.length_map, Bool.not_true, Bool.not_false, Bool.false_eq_true, e1, sum_of_is h (txt_app ht.s (one_in hc)), gd, su]
      try rfl
    · have := @sg_len m; omega
  have e2 : ¬ ((t.length : Nat) : Int) = 4000 := by omega
  have e7 : lenD [.str t] = some (false, .int t.length) := len_str (by have := ht.l; omega)
  unfold g_guards_of b_guards_of
  refine denFn_run rfl ?_
  simp only [denFn, startP, outF, frOf, sSeq, sIf, sSet, sRet, sRetN, sExpr, sNil, sBrk, sCnt, sAug, sPar, sTgt, sApp, sExt, sStIx, sFor, eVar, eCst, eOp2, eOp1, eOpN, eChain, eAnd2, eOr2, eNot1, eIfE, tOfV, tTru, tAnd2, tOr2, tNot1, tYs, aNil, aCons, bNil, bCons, eTup, eLst, eDct0, eSl, eMthS, eCall, gN, gT, gSeq, iVal, iRange1, iRange2, iEnumr, itemsD, opOut, kdOf, deref, derefs, PSt.put, PSt.frzK, PSt.frz, Out.bind, Option.bind, Option.map, add_int, sub_int, addI, ix_tupE, ix_lstE, isTx, isntD2, isD2, isNone, guard', stIx, held, isKey, List.map_cons, List.map_nil, List.length_cons, List.length_nil, List.replicate_succ, List.replicate_zero, List.cons_append, List.nil_append, List.append_nil, List.getElem?_cons_zero, List.getElem?_cons_succ, List.set_cons_zero, List.set_cons_succ, Nat.reduceAdd, Nat.reduceSub, Nat.reduceEqDiff, if_true, if_false, ite_true, ite_false, reduceIte, at0, at1, at2, at3, eq_int, ne_int, ge_int, le_int, lt_int, gt_int, len_lst, len_tup, len_dct, intD, absD, List.length_map, Bool.not_true, Bool.not_false, Bool.false_eq_true, check_code_is h, check_text_is hm ht, e7, e2, decide_false, slS hm, hlc, tupD_lst]
/-! ### divisors -/
def dv (a b : Int) : Int := (Nat.gcd a.toNat b.toNat : Nat)
theorem div_loop (S : List D) : ∀ (n a b : Nat), b ≤ n → whN (tTru (eVar 1)) (sPar 0 1 (aCons (eVar 1) (aCons (eOp2 modD (eVar 0) (eVar 1)) aNil))) (n + 1) ⟨[.fz (.int (a : Nat)), .fz (.int (b : Nat))], S⟩ = .ok ⟨[.fz (.int (Nat.gcd a b : Nat)), .fz (.int 0)], S⟩ .nx
  | n, a, 0, _ => by
    have e : whN (tTru (eVar 1)) (sPar 0 1 (aCons (eVar 1) (aCons (eOp2 modD (eVar 0) (eVar 1)) aNil))) (n + 1) ⟨[.fz (.int (a : Nat)), .fz (.int ((0 : Nat) : Int))], S⟩ = .ok ⟨[.fz (.int (a : Nat)), .fz (.int ((0 : Nat) : Int))], S⟩ .nx := rfl
    rw [e, Nat.gcd_zero_right]; rfl
  | 0, a, b + 1, h => by omega
  | n + 1, a, b + 1, h => by
    have hr : a % (b + 1) < b + 1 := Nat.mod_lt _ (Nat.succ_pos _)
    have ih := div_loop S n (b + 1) (a % (b + 1)) (by omega)
    have e1 : Nat.gcd (b + 1) (a % (b + 1)) = Nat.gcd a (b + 1) := by
      rw [Nat.gcd_comm (b + 1), ← Nat.gcd_rec, Nat.gcd_comm]
    rw [e1] at ih
    rw [← ih]
    have h1 : modD (.int (a : Nat)) (.int ((b + 1 : Nat) : Int)) = some (false, .int ((a : Int) % ((b + 1 : Nat) : Int))) := mod_pos (by omega)
    have h2 : (((b + 1 : Nat) : Int) != 0) = true := by simp; omega
    have h3 : (a : Int) % ((b + 1 : Nat) : Int) = ((a % (b + 1) : Nat) : Int) := by omega
    conv => lhs; unfold whN
    simp only [denFn, startP, outF, frOf, sSeq, sIf, sSet, sRet, sRetN, sExpr, sNil, sBrk, sCnt, sAug, sPar, sTgt, sApp, sExt, sStIx, sFor, eVar, eCst, eOp2, eOp1, eOpN, eChain, eAnd2, eOr2, eNot1, eIfE, tOfV, tTru, tAnd2, tOr2, tNot1, tYs, aNil, aCons, bNil, bCons, eTup, eLst, eDct0, eSl, eMthS, eCall, gN, gT, gSeq, iVal, iRange1, iRange2, iEnumr, itemsD, opOut, kdOf, deref, derefs, PSt.put, PSt.frzK, PSt.frz, Out.bind, Option.bind, Option.map, add_int, sub_int, addI, ix_tupE, ix_lstE, isTx, isntD2, isD2, isNone, guard', stIx, held, isKey, List.map_cons, List.map_nil, List.length_cons, List.length_nil, List.replicate_succ, List.replicate_zero, List.cons_append, List.nil_append, List.append_nil, List.getElem?_cons_zero, List.getElem?_cons_succ, List.set_cons_zero, List.set_cons_succ, Nat.reduceAdd, Nat.reduceSub, Nat.reduceEqDiff, if_true, if_false, ite_true, ite_false, reduceIte, at0, at1, at2, at3, eq_int, ne_int, ge_int, le_int, lt_int, gt_int, len_lst, len_tup, len_dct, intD, absD, List.length_map, Bool.not_true, Bool.not_false, Bool.false_eq_true, truD, h2, h1, h3]
theorem divisor_is {a b : Int} (ha : 0 ≤ a) (hb : 0 ≤ b) (S : List D) : g_divisor [.int a, .int b] S = .ok S false (.int (dv a b)) := by
  have e := div_loop S b.toNat a.toNat b.toNat (Nat.le_refl _)
  rw [Int.toNat_of_nonneg ha, Int.toNat_of_nonneg hb] at e
  have e2 := sWhile_eq (n := b.toNat + 1) (p := ⟨[.fz (.int a), .fz (.int b)], S⟩) (by rw [e]; intro z; cases z)
  unfold g_divisor b_divisor
  refine denFn_run rfl ?_
  have e3 : startP 2 [.int a, .int b] S = ⟨[.fz (.int a), .fz (.int b)], S⟩ := rfl
  rw [e3, sSeq_nx (e2.trans e)]
  rfl
theorem dv_pos {a b : Int} (ha : 0 < a) : 0 < dv a b := by
  unfold dv
  have := Nat.gcd_pos_of_pos_left (n := b.toNat) (m := a.toNat) (by omega)
  omega
theorem dv_le {a b : Int} (ha : 0 < a) : dv a b ≤ a := by
  unfold dv
  have := Nat.gcd_le_left (n := b.toNat) (m := a.toNat) (by omega)
  omega
theorem nS_le (m : Int) : nS m ≤ m := by unfold nS; split <;> omega
/-- signs that count alike: none, or those that far apart -/
def miss (m w : Int) : Bool := decide (m / dv m w < nS m)
def tMiss (m : Int) (k : Nat) (w : Int) : D := .tup [.str [109, 105, 115, 115, 101, 115], .int k, .int 0, .int (m / dv m w)]
def tFinds : D := .tup [.str [102, 105, 110, 100, 115]]
def jF (m : Int) : Nat → List Int → D
  | _, [] => tFinds
  | k, w :: r => if miss m w = true then tMiss m k w else jF m (k + 1) r
theorem miss_and {m w : Int} (hm : 2 ≤ m) : (decide (1 < dv m w) && miss m w) = miss m w := by
  by_cases c : 1 < dv m w
  · simp [c]
  · have h1 := @dv_pos m w (by omega)
    have h2 : dv m w = 1 := by omega
    have h3 : miss m w = false := by
      unfold miss
      rw [h2, Int.ediv_one]
      have := nS_le m
      simp; omega
    rw [h3]; simp
end K56
namespace K56
open PySem PySem.Spec L2 PM
def jR (m : Int) : Nat → List Int → Option D
  | _, [] => none
  | k, w :: r => if miss m w = true then some (tMiss m k w) else jR m (k + 1) r
def endJ (p : PSt) : Option D → Out Fl
  | none => .ok p .nx
  | some d => .ok p (.rt .fz d)
def retJ : Option D → D
  | none => tFinds
  | some d => d
theorem jc_loop {m : Int} (hm : 2 ≤ m) (hm2 : m ≤ 97) (d1 : D) (S : List D) : ∀ (r : List Int) (k : Nat) (x y z : Sl), (∀ w ∈ r, 0 ≤ w) → ∃ x' y' z',
    forLoop (gT [(gN 2), (gN 3)]) (sSeq (sSet 4 (eCall g_divisor (aCons (eVar 0) (aCons (eVar 3) aNil)))) (sIf (tAnd2 (tOfV (eOp2 gtD2 (eVar 4) (eCst (.int 1)))) (tOfV (eOp2 ltD2 (eOp2 fdivD (eVar 0) (eVar 4)) (eCall g_signs_of (aCons (eVar 0) aNil))))) (sRet (eTup (aCons (eCst (.str [109, 105, 115, 115, 101, 115])) (aCons (eVar 2) (aCons (eCst (.int 0)) (aCons (eOp2 fdivD (eVar 0) (eVar 4)) aNil)))))) sNil))
      (enumD k (r.map D.int)) ⟨[.fz (.int m), .fz d1, x, y, z], S⟩ = endJ ⟨[.fz (.int m), .fz d1, x', y', z'], S⟩ (jR m k r)
  | [], k, x, y, z, _ => ⟨x, y, z, rfl⟩
  | w :: r, k, x, y, z, hw => by
    have h0 := hw w List.mem_cons_self
    have h1 := @dv_pos m w (by omega)
    have h2 := @dv_le m w (by omega)
    have e1 : fdivD (.int m) (.int (dv m w)) = some (false, .int (m / dv m w)) := fdiv_pos h1 (by omega)
    have e0 : enumD k ((w :: r).map D.int) = .tup [.int (k : Nat), .int w] :: enumD (k + 1) (r.map D.int) := rfl
    have hd := divisor_is (show (0 : Int) ≤ m by omega) h0 S
    rw [e0]
    have ha := miss_and (m := m) (w := w) hm
    by_cases c : miss m w = true
    · rw [c, Bool.and_true] at ha
      have c2 : m / dv m w < nS m := of_decide_eq_true c
      have c3 : 1 < dv m w := of_decide_eq_true ha
      refine ⟨.fz (.int (k : Nat)), .fz (.int w), .fz (.int (dv m w)), ?_⟩
      have : jR m k (w :: r) = some (tMiss m k w) := by show (if miss m w = true then some (tMiss m k w) else jR m (k + 1) r) = _; rw [if_pos c]
      rw [this]
      refine forLoop_rt (p1 := ⟨[.fz (.int m), .fz d1, .fz (.int (k : Nat)), .fz (.int w), z], S⟩) rfl ?_
      simp only [denFn, startP, outF, frOf, sSeq, sIf, sSet, sRet, sRetN, sExpr, sNil, sBrk, sCnt, sAug, sPar, sTgt, sApp, sExt, sStIx, sFor, eVar, eCst, eOp2, eOp1, eOpN, eChain, eAnd2, eOr2, eNot1, eIfE, tOfV, tTru, tAnd2, tOr2, tNot1, tYs, aNil, aCons, bNil, bCons, eTup, eLst, eDct0, eSl, eMthS, eCall, gN, gT, gSeq, iVal, iRange1, iRange2, iEnumr, itemsD, opOut, kdOf, deref, derefs, PSt.put, PSt.frzK, PSt.frz, Out.bind, Option.bind, Option.map, add_int, sub_int, addI, ix_tupE, ix_lstE, isTx, isntD2, isD2, isNone, guard', stIx, held, isKey, List.map_cons, List.map_nil, List.length_cons, List.length_nil, List.replicate_succ, List.replicate_zero, List.cons_append, List.nil_append, List.append_nil, List.getElem?_cons_zero, List.getElem?_cons_succ, List.set_cons_zero, List.set_cons_succ, Nat.reduceAdd, Nat.reduceSub, Nat.reduceEqDiff, if_true, if_false, ite_true, ite_false, reduceIte, at0, at1, at2, at3, eq_int, ne_int, ge_int, le_int, lt_int, gt_int, len_lst, len_tup, len_dct, intD, absD, List.length_map, Bool.not_true, Bool.not_false, Bool.false_eq_true, hd, signs_of_is, e1, c2, c3, decide_true]
      rfl
    · obtain ⟨x', y', z', e⟩ := jc_loop hm hm2 d1 S r (k + 1) (.fz (.int (k : Nat))) (.fz (.int w)) (.fz (.int (dv m w))) fun v hv => hw v (List.mem_cons_of_mem _ hv)
      refine ⟨x', y', z', ?_⟩
      have : jR m k (w :: r) = jR m (k + 1) r := by show (if miss m w = true then some (tMiss m k w) else jR m (k + 1) r) = _; rw [if_neg c]
      rw [this, ← e]
      have c2 : ¬ m / dv m w < nS m := fun z => c (decide_eq_true z)
      refine forLoop_cons (p1 := ⟨[.fz (.int m), .fz d1, .fz (.int (k : Nat)), .fz (.int w), z], S⟩) rfl ?_
      by_cases c3 : 1 < dv m w
      · simp only [denFn, startP, outF, frOf, sSeq, sIf, sSet, sRet, sRetN, sExpr, sNil, sBrk, sCnt, sAug, sPar, sTgt, sApp, sExt, sStIx, sFor, eVar, eCst, eOp2, eOp1, eOpN, eChain, eAnd2, eOr2, eNot1, eIfE, tOfV, tTru, tAnd2, tOr2, tNot1, tYs, aNil, aCons, bNil, bCons, eTup, eLst, eDct0, eSl, eMthS, eCall, gN, gT, gSeq, iVal, iRange1, iRange2, iEnumr, itemsD, opOut, kdOf, deref, derefs, PSt.put, PSt.frzK, PSt.frz, Out.bind, Option.bind, Option.map, add_int, sub_int, addI, ix_tupE, ix_lstE, isTx, isntD2, isD2, isNone, guard', stIx, held, isKey, List.map_cons, List.map_nil, List.length_cons, List.length_nil, List.replicate_succ, List.replicate_zero, List.cons_append, List.nil_append, List.append_nil, List.getElem?_cons_zero, List.getElem?_cons_succ, List.set_cons_zero, List.set_cons_succ, Nat.reduceAdd, Nat.reduceSub, Nat.reduceEqDiff, if_true, if_false, ite_true, ite_false, reduceIte, at0, at1, at2, at3, eq_int, ne_int, ge_int, le_int, lt_int, gt_int, len_lst, len_tup, len_dct, intD, absD, List.length_map, Bool.not_true, Bool.not_false, Bool.false_eq_true, hd, signs_of_is, e1, c2, c3, decide_true, decide_false]
      · simp only [denFn, startP, outF, frOf, sSeq, sIf, sSet, sRet, sRetN, sExpr, sNil, sBrk, sCnt, sAug, sPar, sTgt, sApp, sExt, sStIx, sFor, eVar, eCst, eOp2, eOp1, eOpN, eChain, eAnd2, eOr2, eNot1, eIfE, tOfV, tTru, tAnd2, tOr2, tNot1, tYs, aNil, aCons, bNil, bCons, eTup, eLst, eDct0, eSl, eMthS, eCall, gN, gT, gSeq, iVal, iRange1, iRange2, iEnumr, itemsD, opOut, kdOf, deref, derefs, PSt.put, PSt.frzK, PSt.frz, Out.bind, Option.bind, Option.map, add_int, sub_int, addI, ix_tupE, ix_lstE, isTx, isntD2, isD2, isNone, guard', stIx, held, isKey, List.map_cons, List.map_nil, List.length_cons, List.length_nil, List.replicate_succ, List.replicate_zero, List.cons_append, List.nil_append, List.append_nil, List.getElem?_cons_zero, List.getElem?_cons_succ, List.set_cons_zero, List.set_cons_succ, Nat.reduceAdd, Nat.reduceSub, Nat.reduceEqDiff, if_true, if_false, ite_true, ite_false, reduceIte, at0, at1, at2, at3, eq_int, ne_int, ge_int, le_int, lt_int, gt_int, len_lst, len_tup, len_dct, intD, absD, List.length_map, Bool.not_true, Bool.not_false, Bool.false_eq_true, hd, signs_of_is, e1, c3, decide_false]
theorem judge_changes_is {m : Int} {ws : List Int} (h : Code m ws) (S : List D) : g_judge_changes [.int m, .tup (ws.map D.int)] S = .ok S false (retJ (jR m 0 ws)) := by
  obtain ⟨x, y, z, e⟩ := jc_loop h.m1 h.m2 (.tup (ws.map D.int)) S ws 0 .un .un .un fun w hw => (h.w w hw).1
  unfold g_judge_changes b_judge_changes
  refine denFn_run rfl ?_
  have e3 : startP 5 [.int m, .tup (ws.map D.int)] S = ⟨[.fz (.int m), .fz (.tup (ws.map D.int)), .un, .un, .un], S⟩ := rfl
  rw [e3, sSeq_nx (p1 := ⟨[.fz (.int m), .fz (.tup (ws.map D.int)), .un, .un, .un], S⟩) (by simp only [denFn, startP, outF, frOf, sSeq, sIf, sSet, sRet, sRetN, sExpr, sNil, sBrk, sCnt, sAug, sPar, sTgt, sApp, sExt, sStIx, sFor, eVar, eCst, eOp2, eOp1, eOpN, eChain, eAnd2, eOr2, eNot1, eIfE, tOfV, tTru, tAnd2, tOr2, tNot1, tYs, aNil, aCons, bNil, bCons, eTup, eLst, eDct0, eSl, eMthS, eCall, gN, gT, gSeq, iVal, iRange1, iRange2, iEnumr, itemsD, opOut, kdOf, deref, derefs, PSt.put, PSt.frzK, PSt.frz, Out.bind, Option.bind, Option.map, add_int, sub_int, addI, ix_tupE, ix_lstE, isTx, isntD2, isD2, isNone, guard', stIx, held, isKey, List.map_cons, List.map_nil, List.length_cons, List.length_nil, List.replicate_succ, List.replicate_zero, List.cons_append, List.nil_append, List.append_nil, List.getElem?_cons_zero, List.getElem?_cons_succ, List.set_cons_zero, List.set_cons_succ, Nat.reduceAdd, Nat.reduceSub, Nat.reduceEqDiff, if_true, if_false, ite_true, ite_false, reduceIte, at0, at1, at2, at3, eq_int, ne_int, ge_int, le_int, lt_int, gt_int, len_lst, len_tup, len_dct, intD, absD, List.length_map, Bool.not_true, Bool.not_false, Bool.false_eq_true, check_code_is h])]
  cases c : jR m 0 ws with
  | none =>
    rw [c] at e
    rw [sSeq_for rfl e]
    rfl
  | some d =>
    rw [c] at e
    rw [sSeq_forR rfl e]
    rfl
/-! ### neighbours -/
def gaps (ws : List Int) (k : Nat) : Int := wAt ws k - wAt ws (k + 1)
def tR (m : Int) (ws : List Int) : List Nat → Option D
  | [] => none
  | k :: r => if miss m (gaps ws k % m) = true then some (tMiss m k (gaps ws k % m)) else tR m ws r
theorem wAt_at {ws : List Int} {k : Nat} (h : k < ws.length) : atI (ws.map D.int) (k : Int) = some (.int (wAt ws k)) := by
  have := wAt_is (ws := ws) (by omega) k
  have e : (k : Int) % ((ws.length : Nat) : Int) = (k : Int) := Int.emod_eq_of_lt (by omega) (by omega)
  rwa [e] at this
theorem jt_loop {m : Int} {ws : List Int} (h : Code m ws) (S : List D) : ∀ (r : List Nat) (x y z : Sl), (∀ k ∈ r, k < ws.length) → ∃ x' y' z',
    forLoop (gN 2) (sSeq (sSet 3 (eOp2 modD (eOp2 subD (eOp2 ixD (eVar 1) (eVar 2)) (eOp2 ixD (eVar 1) (eOp2 modD (eOp2 addD (eVar 2) (eCst (.int 1))) (eOpN lenD (bCons (eVar 1) bNil))))) (eVar 0))) (sSeq (sSet 4 (eCall g_divisor (aCons (eVar 0) (aCons (eVar 3) aNil)))) (sIf (tAnd2 (tOfV (eOp2 gtD2 (eVar 4) (eCst (.int 1)))) (tOfV (eOp2 ltD2 (eOp2 fdivD (eVar 0) (eVar 4)) (eCall g_signs_of (aCons (eVar 0) aNil))))) (sRet (eTup (aCons (eCst (.str [109, 105, 115, 115, 101, 115])) (aCons (eVar 2) (aCons (eCst (.int 0)) (aCons (eOp2 fdivD (eVar 0) (eVar 4)) aNil)))))) sNil)))
      (r.map fun k => .int (0 + (k : Nat))) ⟨[.fz (.int m), .fz (.tup (ws.map D.int)), x, y, z], S⟩ = endJ ⟨[.fz (.int m), .fz (.tup (ws.map D.int)), x', y', z'], S⟩ (tR m ws r)
  | [], x, y, z, _ => ⟨x, y, z, rfl⟩
  | k :: r, x, y, z, hw => by
    have hk := hw k List.mem_cons_self
    have hm := h.m1
    have hmod : ∀ x, modD (.int x) (.int m) = some (false, .int (x % m)) := fun x => mod_pos (by omega)
    have hmod2 : ∀ x, modD (.int x) (.int (ws.length : Nat)) = some (false, .int (x % (ws.length : Nat))) := fun x => mod_pos (by have := h.w1; omega)
    have a1 := wAt_at hk
    have a2 := wAt_is h.w1 (k + 1)
    have a3 : ((k + 1 : Nat) : Int) = (k : Int) + 1 := by omega
    rw [a3] at a2
    have h0 : 0 ≤ gaps ws k % m := Int.emod_nonneg _ (by omega)
    have g0 : gaps ws k = wAt ws k - wAt ws (k + 1) := rfl
    have h1 := @dv_pos m (gaps ws k % m) (by omega)
    have h2 := @dv_le m (gaps ws k % m) (by omega)
    have hm2 := h.m2
    have e1 : fdivD (.int m) (.int (dv m (gaps ws k % m))) = some (false, .int (m / dv m (gaps ws k % m))) := fdiv_pos h1 (by omega)
    have hd := divisor_is (show (0 : Int) ≤ m by omega) h0 S
    rw [List.map_cons, Int.zero_add]
    have ha := miss_and (m := m) (w := gaps ws k % m) hm
    by_cases c : miss m (gaps ws k % m) = true
    · rw [c, Bool.and_true] at ha
      have c2 : m / dv m (gaps ws k % m) < nS m := of_decide_eq_true c
      have c3 : 1 < dv m (gaps ws k % m) := of_decide_eq_true ha
      refine ⟨.fz (.int (k : Nat)), .fz (.int (gaps ws k % m)), .fz (.int (dv m (gaps ws k % m))), ?_⟩
      have : tR m ws (k :: r) = some (tMiss m k (gaps ws k % m)) := by show (if miss m (gaps ws k % m) = true then some (tMiss m k (gaps ws k % m)) else tR m ws r) = _; rw [if_pos c]
      rw [this]
      refine forLoop_rt (p1 := ⟨[.fz (.int m), .fz (.tup (ws.map D.int)), .fz (.int (k : Nat)), y, z], S⟩) rfl ?_
      simp only [denFn, startP, outF, frOf, sSeq, sIf, sSet, sRet, sRetN, sExpr, sNil, sBrk, sCnt, sAug, sPar, sTgt, sApp, sExt, sStIx, sFor, eVar, eCst, eOp2, eOp1, eOpN, eChain, eAnd2, eOr2, eNot1, eIfE, tOfV, tTru, tAnd2, tOr2, tNot1, tYs, aNil, aCons, bNil, bCons, eTup, eLst, eDct0, eSl, eMthS, eCall, gN, gT, gSeq, iVal, iRange1, iRange2, iEnumr, itemsD, opOut, kdOf, deref, derefs, PSt.put, PSt.frzK, PSt.frz, Out.bind, Option.bind, Option.map, add_int, sub_int, addI, ix_tupE, ix_lstE, isTx, isntD2, isD2, isNone, guard', stIx, held, isKey, List.map_cons, List.map_nil, List.length_cons, List.length_nil, List.replicate_succ, List.replicate_zero, List.cons_append, List.nil_append, List.append_nil, List.getElem?_cons_zero, List.getElem?_cons_succ, List.set_cons_zero, List.set_cons_succ, Nat.reduceAdd, Nat.reduceSub, Nat.reduceEqDiff, if_true, if_false, ite_true, ite_false, reduceIte, at0, at1, at2, at3, eq_int, ne_int, ge_int, le_int, lt_int, gt_int, len_lst, len_tup, len_dct, intD, absD, List.length_map, Bool.not_true, Bool.not_false, Bool.false_eq_true, a1, a2, hmod, hmod2, ← g0, hd, signs_of_is, e1, c2, c3, decide_true]
      rfl
    · obtain ⟨x', y', z', e⟩ := jt_loop h S r (.fz (.int (k : Nat))) (.fz (.int (gaps ws k % m))) (.fz (.int (dv m (gaps ws k % m)))) fun v hv => hw v (List.mem_cons_of_mem _ hv)
      refine ⟨x', y', z', ?_⟩
      have : tR m ws (k :: r) = tR m ws r := by show (if miss m (gaps ws k % m) = true then some (tMiss m k (gaps ws k % m)) else tR m ws r) = _; rw [if_neg c]
      rw [this, ← e]
      have c2 : ¬ m / dv m (gaps ws k % m) < nS m := fun z => c (decide_eq_true z)
      refine forLoop_cons (p1 := ⟨[.fz (.int m), .fz (.tup (ws.map D.int)), .fz (.int (k : Nat)), y, z], S⟩) rfl ?_
      by_cases c3 : 1 < dv m (gaps ws k % m)
      · simp only [denFn, startP, outF, frOf, sSeq, sIf, sSet, sRet, sRetN, sExpr, sNil, sBrk, sCnt, sAug, sPar, sTgt, sApp, sExt, sStIx, sFor, eVar, eCst, eOp2, eOp1, eOpN, eChain, eAnd2, eOr2, eNot1, eIfE, tOfV, tTru, tAnd2, tOr2, tNot1, tYs, aNil, aCons, bNil, bCons, eTup, eLst, eDct0, eSl, eMthS, eCall, gN, gT, gSeq, iVal, iRange1, iRange2, iEnumr, itemsD, opOut, kdOf, deref, derefs, PSt.put, PSt.frzK, PSt.frz, Out.bind, Option.bind, Option.map, add_int, sub_int, addI, ix_tupE, ix_lstE, isTx, isntD2, isD2, isNone, guard', stIx, held, isKey, List.map_cons, List.map_nil, List.length_cons, List.length_nil, List.replicate_succ, List.replicate_zero, List.cons_append, List.nil_append, List.append_nil, List.getElem?_cons_zero, List.getElem?_cons_succ, List.set_cons_zero, List.set_cons_succ, Nat.reduceAdd, Nat.reduceSub, Nat.reduceEqDiff, if_true, if_false, ite_true, ite_false, reduceIte, at0, at1, at2, at3, eq_int, ne_int, ge_int, le_int, lt_int, gt_int, len_lst, len_tup, len_dct, intD, absD, List.length_map, Bool.not_true, Bool.not_false, Bool.false_eq_true, a1, a2, hmod, hmod2, ← g0, hd, signs_of_is, e1, c2, c3, decide_true, decide_false]
      · simp only [denFn, startP, outF, frOf, sSeq, sIf, sSet, sRet, sRetN, sExpr, sNil, sBrk, sCnt, sAug, sPar, sTgt, sApp, sExt, sStIx, sFor, eVar, eCst, eOp2, eOp1, eOpN, eChain, eAnd2, eOr2, eNot1, eIfE, tOfV, tTru, tAnd2, tOr2, tNot1, tYs, aNil, aCons, bNil, bCons, eTup, eLst, eDct0, eSl, eMthS, eCall, gN, gT, gSeq, iVal, iRange1, iRange2, iEnumr, itemsD, opOut, kdOf, deref, derefs, PSt.put, PSt.frzK, PSt.frz, Out.bind, Option.bind, Option.map, add_int, sub_int, addI, ix_tupE, ix_lstE, isTx, isntD2, isD2, isNone, guard', stIx, held, isKey, List.map_cons, List.map_nil, List.length_cons, List.length_nil, List.replicate_succ, List.replicate_zero, List.cons_append, List.nil_append, List.append_nil, List.getElem?_cons_zero, List.getElem?_cons_succ, List.set_cons_zero, List.set_cons_succ, Nat.reduceAdd, Nat.reduceSub, Nat.reduceEqDiff, if_true, if_false, ite_true, ite_false, reduceIte, at0, at1, at2, at3, eq_int, ne_int, ge_int, le_int, lt_int, gt_int, len_lst, len_tup, len_dct, intD, absD, List.length_map, Bool.not_true, Bool.not_false, Bool.false_eq_true, a1, a2, hmod, hmod2, ← g0, hd, signs_of_is, e1, c3, decide_false]
theorem rng_nat (n : Nat) : rngD 0 ((n : Nat) : Int) = (List.range n).map fun k => .int (0 + (k : Nat)) := by
  unfold rngD
  have : ((n : Int) - 0).toNat = n := by omega
  rw [this]
theorem judge_turns_is {m : Int} {ws : List Int} (h : Code m ws) (S : List D) : g_judge_turns [.int m, .tup (ws.map D.int)] S = .ok S false (retJ (tR m ws (List.range ws.length))) := by
  obtain ⟨x, y, z, e⟩ := jt_loop h S (List.range ws.length) .un .un .un fun k hk => List.mem_range.mp hk
  unfold g_judge_turns b_judge_turns
  refine denFn_run rfl ?_
  have e3 : startP 5 [.int m, .tup (ws.map D.int)] S = ⟨[.fz (.int m), .fz (.tup (ws.map D.int)), .un, .un, .un], S⟩ := rfl
  have hb : bnd ((ws.length : Nat) : Int) = true := by
    have := h.w2
    exact bnd_of (by omega) (by omega)
  have e4 : iRange1 (bCons (eOpN lenD (bCons (eVar 1) bNil)) bNil) ⟨[.fz (.int m), .fz (.tup (ws.map D.int)), .un, .un, .un], S⟩ = .ok ⟨[.fz (.int m), .fz (.tup (ws.map D.int)), .un, .un, .un], S⟩ ((List.range ws.length).map fun k => .int (0 + (k : Nat))) := by
    rw [← rng_nat]
    simp only [denFn, startP, outF, frOf, sSeq, sIf, sSet, sRet, sRetN, sExpr, sNil, sBrk, sCnt, sAug, sPar, sTgt, sApp, sExt, sStIx, sFor, eVar, eCst, eOp2, eOp1, eOpN, eChain, eAnd2, eOr2, eNot1, eIfE, tOfV, tTru, tAnd2, tOr2, tNot1, tYs, aNil, aCons, bNil, bCons, eTup, eLst, eDct0, eSl, eMthS, eCall, gN, gT, gSeq, iVal, iRange1, iRange2, iEnumr, itemsD, opOut, kdOf, deref, derefs, PSt.put, PSt.frzK, PSt.frz, Out.bind, Option.bind, Option.map, add_int, sub_int, addI, ix_tupE, ix_lstE, isTx, isntD2, isD2, isNone, guard', stIx, held, isKey, List.map_cons, List.map_nil, List.length_cons, List.length_nil, List.replicate_succ, List.replicate_zero, List.cons_append, List.nil_append, List.append_nil, List.getElem?_cons_zero, List.getElem?_cons_succ, List.set_cons_zero, List.set_cons_succ, Nat.reduceAdd, Nat.reduceSub, Nat.reduceEqDiff, if_true, if_false, ite_true, ite_false, reduceIte, at0, at1, at2, at3, eq_int, ne_int, ge_int, le_int, lt_int, gt_int, len_lst, len_tup, len_dct, intD, absD, List.length_map, Bool.not_true, Bool.not_false, Bool.false_eq_true, hb]
  rw [e3, sSeq_nx (p1 := ⟨[.fz (.int m), .fz (.tup (ws.map D.int)), .un, .un, .un], S⟩) (by simp only [denFn, startP, outF, frOf, sSeq, sIf, sSet, sRet, sRetN, sExpr, sNil, sBrk, sCnt, sAug, sPar, sTgt, sApp, sExt, sStIx, sFor, eVar, eCst, eOp2, eOp1, eOpN, eChain, eAnd2, eOr2, eNot1, eIfE, tOfV, tTru, tAnd2, tOr2, tNot1, tYs, aNil, aCons, bNil, bCons, eTup, eLst, eDct0, eSl, eMthS, eCall, gN, gT, gSeq, iVal, iRange1, iRange2, iEnumr, itemsD, opOut, kdOf, deref, derefs, PSt.put, PSt.frzK, PSt.frz, Out.bind, Option.bind, Option.map, add_int, sub_int, addI, ix_tupE, ix_lstE, isTx, isntD2, isD2, isNone, guard', stIx, held, isKey, List.map_cons, List.map_nil, List.length_cons, List.length_nil, List.replicate_succ, List.replicate_zero, List.cons_append, List.nil_append, List.append_nil, List.getElem?_cons_zero, List.getElem?_cons_succ, List.set_cons_zero, List.set_cons_succ, Nat.reduceAdd, Nat.reduceSub, Nat.reduceEqDiff, if_true, if_false, ite_true, ite_false, reduceIte, at0, at1, at2, at3, eq_int, ne_int, ge_int, le_int, lt_int, gt_int, len_lst, len_tup, len_dct, intD, absD, List.length_map, Bool.not_true, Bool.not_false, Bool.false_eq_true, check_code_is h])]
  cases c : tR m ws (List.range ws.length) with
  | none =>
    rw [c] at e
    rw [sSeq_for e4 e]
    rfl
  | some d =>
    rw [c] at e
    rw [sSeq_forR e4 e]
    rfl
theorem turns_found_is {m a b : Int} (hm : 2 ≤ m) (hm2 : m ≤ 97) (S : List D) : g_turns_found [.int m, .int a, .int b] S = .ok S false (.bl (!miss m ((a - b) % m))) := by
  have h0 : 0 ≤ (a - b) % m := Int.emod_nonneg _ (by omega)
  have hmod : ∀ x, modD (.int x) (.int m) = some (false, .int (x % m)) := fun x => mod_pos (by omega)
  have h1 := @dv_pos m ((a - b) % m) (by omega)
  have h2 := @dv_le m ((a - b) % m) (by omega)
  have e1 : fdivD (.int m) (.int (dv m ((a - b) % m))) = some (false, .int (m / dv m ((a - b) % m))) := fdiv_pos h1 (by omega)
  have hd := divisor_is (show (0 : Int) ≤ m by omega) h0 S
  have ha := miss_and (m := m) (w := (a - b) % m) hm
  unfold g_turns_found b_turns_found
  refine denFn_run rfl ?_
  by_cases c3 : dv m ((a - b) % m) = 1
  · have c4 : miss m ((a - b) % m) = false := by
      rw [← ha, c3]; rfl
    simp only [denFn, startP, outF, frOf, sSeq, sIf, sSet, sRet, sRetN, sExpr, sNil, sBrk, sCnt, sAug, sPar, sTgt, sApp, sExt, sStIx, sFor, eVar, eCst, eOp2, eOp1, eOpN, eChain, eAnd2, eOr2, eNot1, eIfE, tOfV, tTru, tAnd2, tOr2, tNot1, tYs, aNil, aCons, bNil, bCons, eTup, eLst, eDct0, eSl, eMthS, eCall, gN, gT, gSeq, iVal, iRange1, iRange2, iEnumr, itemsD, opOut, kdOf, deref, derefs, PSt.put, PSt.frzK, PSt.frz, Out.bind, Option.bind, Option.map, add_int, sub_int, addI, ix_tupE, ix_lstE, isTx, isntD2, isD2, isNone, guard', stIx, held, isKey, List.map_cons, List.map_nil, List.length_cons, List.length_nil, List.replicate_succ, List.replicate_zero, List.cons_append, List.nil_append, List.append_nil, List.getElem?_cons_zero, List.getElem?_cons_succ, List.set_cons_zero, List.set_cons_succ, Nat.reduceAdd, Nat.reduceSub, Nat.reduceEqDiff, if_true, if_false, ite_true, ite_false, reduceIte, at0, at1, at2, at3, eq_int, ne_int, ge_int, le_int, lt_int, gt_int, len_lst, len_tup, len_dct, intD, absD, List.length_map, Bool.not_true, Bool.not_false, Bool.false_eq_true, hmod, hd, c3, decide_true, c4]
  · by_cases c : miss m ((a - b) % m) = true
    · have c2 : ¬ nS m ≤ m / dv m ((a - b) % m) := by
        have : m / dv m ((a - b) % m) < nS m := of_decide_eq_true c
        omega
      simp only [denFn, startP, outF, frOf, sSeq, sIf, sSet, sRet, sRetN, sExpr, sNil, sBrk, sCnt, sAug, sPar, sTgt, sApp, sExt, sStIx, sFor, eVar, eCst, eOp2, eOp1, eOpN, eChain, eAnd2, eOr2, eNot1, eIfE, tOfV, tTru, tAnd2, tOr2, tNot1, tYs, aNil, aCons, bNil, bCons, eTup, eLst, eDct0, eSl, eMthS, eCall, gN, gT, gSeq, iVal, iRange1, iRange2, iEnumr, itemsD, opOut, kdOf, deref, derefs, PSt.put, PSt.frzK, PSt.frz, Out.bind, Option.bind, Option.map, add_int, sub_int, addI, ix_tupE, ix_lstE, isTx, isntD2, isD2, isNone, guard', stIx, held, isKey, List.map_cons, List.map_nil, List.length_cons, List.length_nil, List.replicate_succ, List.replicate_zero, List.cons_append, List.nil_append, List.append_nil, List.getElem?_cons_zero, List.getElem?_cons_succ, List.set_cons_zero, List.set_cons_succ, Nat.reduceAdd, Nat.reduceSub, Nat.reduceEqDiff, if_true, if_false, ite_true, ite_false, reduceIte, at0, at1, at2, at3, eq_int, ne_int, ge_int, le_int, lt_int, gt_int, len_lst, len_tup, len_dct, intD, absD, List.length_map, Bool.not_true, Bool.not_false, Bool.false_eq_true, hmod, hd, c3, c2, decide_false, c, e1, signs_of_is]
    · have c2 : nS m ≤ m / dv m ((a - b) % m) := by
        have : ¬ m / dv m ((a - b) % m) < nS m := fun z => c (decide_eq_true z)
        omega
      have c5 : miss m ((a - b) % m) = false := by simpa using c
      simp only [denFn, startP, outF, frOf, sSeq, sIf, sSet, sRet, sRetN, sExpr, sNil, sBrk, sCnt, sAug, sPar, sTgt, sApp, sExt, sStIx, sFor, eVar, eCst, eOp2, eOp1, eOpN, eChain, eAnd2, eOr2, eNot1, eIfE, tOfV, tTru, tAnd2, tOr2, tNot1, tYs, aNil, aCons, bNil, bCons, eTup, eLst, eDct0, eSl, eMthS, eCall, gN, gT, gSeq, iVal, iRange1, iRange2, iEnumr, itemsD, opOut, kdOf, deref, derefs, PSt.put, PSt.frzK, PSt.frz, Out.bind, Option.bind, Option.map, add_int, sub_int, addI, ix_tupE, ix_lstE, isTx, isntD2, isD2, isNone, guard', stIx, held, isKey, List.map_cons, List.map_nil, List.length_cons, List.length_nil, List.replicate_succ, List.replicate_zero, List.cons_append, List.nil_append, List.append_nil, List.getElem?_cons_zero, List.getElem?_cons_succ, List.set_cons_zero, List.set_cons_succ, Nat.reduceAdd, Nat.reduceSub, Nat.reduceEqDiff, if_true, if_false, ite_true, ite_false, reduceIte, at0, at1, at2, at3, eq_int, ne_int, ge_int, le_int, lt_int, gt_int, len_lst, len_tup, len_dct, intD, absD, List.length_map, Bool.not_true, Bool.not_false, Bool.false_eq_true, hmod, hd, c3, c2, decide_false, decide_true, c5, e1, signs_of_is]
/-! ### one sign put at a place -/
def put1 (t : List Nat) (at' : Nat) (c : Nat) : List Nat := t.take at' ++ [c] ++ t.drop (at' + 1)
theorem put1_len {t : List Nat} {k c : Nat} (h : k < t.length) : (put1 t k c).length = t.length := by
  unfold put1
  simp only [List.length_append, List.length_take, List.length_drop, List.length_singleton]
  omega
theorem put1_in {m : Int} {t : List Nat} {k c : Nat} (h : ∀ c ∈ t, c ∈ sg m) (hc : c ∈ sg m) : ∀ d ∈ put1 t k c, d ∈ sg m := fun d hd => by
  unfold put1 at hd
  rcases List.mem_append.mp hd with hd | hd
  · rcases List.mem_append.mp hd with hd | hd
    · exact h d (List.mem_of_mem_take hd)
    · cases List.mem_singleton.mp hd; exact hc
  · exact h d (List.mem_of_mem_drop hd)
theorem put1_add {t : List Nat} {k c : Nat} (hl : t.length ≤ 4000) (hk : k < t.length) : addD (.str (t.take k)) (.str [c]) = some (false, .str (t.take k ++ [c])) ∧ addD (.str (t.take k ++ [c])) (.str (t.drop (k + 1))) = some (false, .str (put1 t k c)) := by
  refine ⟨add_str ?_, add_str ?_⟩
  · simp only [List.length_take, List.length_singleton]; omega
  · simp only [List.length_append, List.length_take, List.length_drop, List.length_singleton]; omega
theorem filled_is {m : Int} {ws : List Int} {t : List Nat} {k : Nat} (h : Code m ws) (ht : Txt m t) (hk : k < t.length) (S : List D) : g_filled [.int m, .tup (ws.map D.int), .str t, .int (k : Nat)] S =
    .ok S false (.tup (((sg m).filter fun c => gd m ws (put1 t k c)).map fun c => .str (put1 t k c))) := by
  have hm : 0 ≤ m := by have := h.m1; omega
  have hl := ht.l
  have k1 : ((k : Nat) : Int) + 1 = ((k + 1 : Nat) : Int) := by omega
  have s1 : slD (.str t) none (some (k : Int)) = some (false, .str (t.take k)) := sl_strTo (by omega)
  have s2 : slD (.str t) (some ((k + 1 : Nat) : Int)) none = some (false, .str (t.drop (k + 1))) := sl_strFrom (by omega)
  have hsg := @sg_len m
  have h1 : (eLc (iVal (eSl (eCst (.str c_SIGNS)) none (some (eVar 0)))) [5] (gN 5) tYs (eOp2 addD (eOp2 addD (eSl (eVar 2) none (some (eVar 3))) (eVar 5)) (eSl (eVar 2) (some (eOp2 addD (eVar 3) (eCst (.int 1)))) none))) ⟨[.fz (.int m), .fz (.tup (ws.map D.int)), .fz (.str t), .fz (.int (k : Nat)), .un, .un, .un], S⟩ =
      .ok ⟨[.fz (.int m), .fz (.tup (ws.map D.int)), .fz (.str t), .fz (.int (k : Nat)), .un, .un, .un], S⟩ (.fr, .lst ((sg m).map fun c => .str (put1 t k c))) := by
    refine (eLc_map (p1 := ⟨[.fz (.int m), .fz (.tup (ws.map D.int)), .fz (.str t), .fz (.int (k : Nat)), .un, .un, .un], S⟩) (sg m) (fun c => .str [c]) (fun c => .str (put1 t k c)) ?_ ?_ ?_).trans rfl
    · simp only [denFn, startP, outF, frOf, sSeq, sIf, sSet, sRet, sRetN, sExpr, sNil, sBrk, sCnt, sAug, sPar, sTgt, sApp, sExt, sStIx, sFor, eVar, eCst, eOp2, eOp1, eOpN, eChain, eAnd2, eOr2, eNot1, eIfE, tOfV, tTru, tAnd2, tOr2, tNot1, tYs, aNil, aCons, bNil, bCons, eTup, eLst, eDct0, eSl, eMthS, eCall, gN, gT, gSeq, iVal, iRange1, iRange2, iEnumr, itemsD, opOut, kdOf, deref, derefs, PSt.put, PSt.frzK, PSt.frz, Out.bind, Option.bind, Option.map, add_int, sub_int, addI, ix_tupE, ix_lstE, isTx, isntD2, isD2, isNone, guard', stIx, held, isKey, List.map_cons, List.map_nil, List.length_cons, List.length_nil, List.replicate_succ, List.replicate_zero, List.cons_append, List.nil_append, List.append_nil, List.getElem?_cons_zero, List.getElem?_cons_succ, List.set_cons_zero, List.set_cons_succ, Nat.reduceAdd, Nat.reduceSub, Nat.reduceEqDiff, if_true, if_false, ite_true, ite_false, reduceIte, at0, at1, at2, at3, eq_int, ne_int, ge_int, le_int, lt_int, gt_int, len_lst, len_tup, len_dct, intD, absD, List.length_map, Bool.not_true, Bool.not_false, Bool.false_eq_true, slS hm]
    · intro c hc
      obtain ⟨a1, a2⟩ := put1_add (c := c) hl hk
      refine ⟨⟨[.fz (.int m), .fz (.tup (ws.map D.int)), .fz (.str t), .fz (.int (k : Nat)), .un, .fz (.str [c]), .un], S⟩, ⟨[.fz (.int m), .fz (.tup (ws.map D.int)), .fz (.str t), .fz (.int (k : Nat)), .un, .fz (.str [c]), .un], S⟩, .fz, rfl, ?_, rfl⟩
      simp only [denFn, startP, outF, frOf, sSeq, sIf, sSet, sRet, sRetN, sExpr, sNil, sBrk, sCnt, sAug, sPar, sTgt, sApp, sExt, sStIx, sFor, eVar, eCst, eOp2, eOp1, eOpN, eChain, eAnd2, eOr2, eNot1, eIfE, tOfV, tTru, tAnd2, tOr2, tNot1, tYs, aNil, aCons, bNil, bCons, eTup, eLst, eDct0, eSl, eMthS, eCall, gN, gT, gSeq, iVal, iRange1, iRange2, iEnumr, itemsD, opOut, kdOf, deref, derefs, PSt.put, PSt.frzK, PSt.frz, Out.bind, Option.bind, Option.map, add_int, sub_int, addI, ix_tupE, ix_lstE, isTx, isntD2, isD2, isNone, guard', stIx, held, isKey, List.map_cons, List.map_nil, List.length_cons, List.length_nil, List.replicate_succ, List.replicate_zero, List.cons_append, List.nil_append, List.append_nil, List.getElem?_cons_zero, List.getElem?_cons_succ, List.set_cons_zero, List.set_cons_succ, Nat.reduceAdd, Nat.reduceSub, Nat.reduceEqDiff, if_true, if_false, ite_true, ite_false, reduceIte, at0, at1, at2, at3, eq_int, ne_int, ge_int, le_int, lt_int, gt_int, len_lst, len_tup, len_dct, intD, absD, List.length_map, Bool.not_true, Bool.not_false, Bool.false_eq_true, k1, s1, s2, a1, a2]
    · omega
  have h2 : (eLc (iVal (eVar 4)) [6] (gN 6) (tOfV (eOp2 eqD2 (eCall g_sum_of (aCons (eVar 0) (aCons (eVar 1) (aCons (eVar 6) aNil)))) (eCst (.int 0)))) (eVar 6)) ⟨[.fz (.int m), .fz (.tup (ws.map D.int)), .fz (.str t), .fz (.int (k : Nat)), .ow (.lst ((sg m).map fun c => .str (put1 t k c))), .un, .un], S⟩ =
      .ok ⟨[.fz (.int m), .fz (.tup (ws.map D.int)), .fz (.str t), .fz (.int (k : Nat)), .fz (.lst ((sg m).map fun c => .str (put1 t k c))), .un, .un], S⟩ (.fr, .lst (((sg m).filter fun c => gd m ws (put1 t k c)).map fun c => .str (put1 t k c))) := by
    refine (eLc_filter (p1 := ⟨[.fz (.int m), .fz (.tup (ws.map D.int)), .fz (.str t), .fz (.int (k : Nat)), .fz (.lst ((sg m).map fun c => .str (put1 t k c))), .un, .un], S⟩) (sg m) (fun c => .str (put1 t k c)) (fun c => .str (put1 t k c)) (fun c => gd m ws (put1 t k c)) rfl ?_ ?_).trans rfl
    · intro c hc
      refine ⟨⟨[.fz (.int m), .fz (.tup (ws.map D.int)), .fz (.str t), .fz (.int (k : Nat)), .fz (.lst ((sg m).map fun c => .str (put1 t k c))), .un, .fz (.str (put1 t k c))], S⟩, ⟨[.fz (.int m), .fz (.tup (ws.map D.int)), .fz (.str t), .fz (.int (k : Nat)), .fz (.lst ((sg m).map fun c => .str (put1 t k c))), .un, .fz (.str (put1 t k c))], S⟩, rfl, ?_, fun _ => rfl, fun _ => ⟨_, .fz, rfl, rfl⟩⟩
      simp only [denFn, startP, outF, frOf, sSeq, sIf, sSet, sRet, sRetN, sExpr, sNil, sBrk, sCnt, sAug, sPar, sTgt, sApp, sExt, sStIx, sFor, eVar, eCst, eOp2, eOp1, eOpN, eChain, eAnd2, eOr2, eNot1, eIfE, tOfV, tTru, tAnd2, tOr2, tNot1, tYs, aNil, aCons, bNil, bCons, eTup, eLst, eDct0, eSl, eMthS, eCall, gN, gT, gSeq, iVal, iRange1, iRange2, iEnumr, itemsD, opOut, kdOf, deref, derefs, PSt.put, PSt.frzK, PSt.frz, Out.bind, Option.bind, Option.map, add_int, sub_int, addI, ix_tupE, ix_lstE, isTx, isntD2, isD2, isNone, guard', stIx, held, isKey, List.map_cons, List.map_nil, List.length_cons, List.length_nil, List.replicate_succ, List.replicate_zero, List.cons_append, List.nil_append, List.append_nil, List.getElem?_cons_zero, List.getElem?_cons_succ, List.set_cons_zero, List.set_cons_succ, Nat.reduceAdd, Nat.reduceSub, Nat.reduceEqDiff, if_true, if_false, ite_true, ite_false, reduceIte, at0, at1, at2, at3, eq_int, ne_int, ge_int, le_int, lt_int, gt_int, len_lst, len_tup, len_dct, intD, absD, List.length_map, Bool.not_true, Bool.not_false, Bool.false_eq_true, sum_of_is h (put1_in (k := k) ht.s hc), gd, su]
      try rfl
    · omega
  have e4 : ((k : Nat) : Int) < ((t.length : Nat) : Int) := by omega
  have e5 : (0 : Int) ≤ ((k : Nat) : Int) := by omega
  have e7 : lenD [.str t] = some (false, .int t.length) := len_str (by omega)
  unfold g_filled b_filled
  refine denFn_run rfl ?_
  simp only [denFn, startP, outF, frOf, sSeq, sIf, sSet, sRet, sRetN, sExpr, sNil, sBrk, sCnt, sAug, sPar, sTgt, sApp, sExt, sStIx, sFor, eVar, eCst, eOp2, eOp1, eOpN, eChain, eAnd2, eOr2, eNot1, eIfE, tOfV, tTru, tAnd2, tOr2, tNot1, tYs, aNil, aCons, bNil, bCons, eTup, eLst, eDct0, eSl, eMthS, eCall, gN, gT, gSeq, iVal, iRange1, iRange2, iEnumr, itemsD, opOut, kdOf, deref, derefs, PSt.put, PSt.frzK, PSt.frz, Out.bind, Option.bind, Option.map, add_int, sub_int, addI, ix_tupE, ix_lstE, isTx, isntD2, isD2, isNone, guard', stIx, held, isKey, List.map_cons, List.map_nil, List.length_cons, List.length_nil, List.replicate_succ, List.replicate_zero, List.cons_append, List.nil_append, List.append_nil, List.getElem?_cons_zero, List.getElem?_cons_succ, List.set_cons_zero, List.set_cons_succ, Nat.reduceAdd, Nat.reduceSub, Nat.reduceEqDiff, if_true, if_false, ite_true, ite_false, reduceIte, at0, at1, at2, at3, eq_int, ne_int, ge_int, le_int, lt_int, gt_int, len_lst, len_tup, len_dct, intD, absD, List.length_map, Bool.not_true, Bool.not_false, Bool.false_eq_true, check_code_is h, check_text_is hm ht, is_integer_is, truD, e7, e4, e5, decide_true, h1, h2, tupD_lst]
end K56
namespace K56
open PySem PySem.Spec L2 PM
/-- the j-th sign -/
def sgn (j : Nat) : Nat := c_SIGNS.getD j 0
def nN (m : Int) : Nat := (nS m).toNat
theorem nN_le (m : Int) : nN m ≤ 66 := by unfold nN nS; split <;> omega
theorem nN_int {m : Int} (h : 0 ≤ m) : ((nN m : Nat) : Int) = nS m := by unfold nN nS; split <;> omega
theorem sg_is {m : Int} (h : 0 ≤ m) : sg m = (List.range (nN m)).map sgn := by
  have h66 : c_SIGNS = (List.range 66).map sgn := by decide +kernel
  unfold sg
  rw [h66, ← List.map_take, List.take_range]
  congr 2
  unfold nN nS
  split <;> omega
theorem idx_sgn {j : Nat} (h : j < 66) : idx (sgn j) = (j : Nat) := by
  have : ((List.range 66).all fun j => decide (c_SIGNS.findIdx (· == sgn j) = j)) = true := by decide +kernel
  have q := List.all_eq_true.mp this j (List.mem_range.mpr h)
  unfold idx
  rw [of_decide_eq_true q]
theorem ix_sgn {j : Nat} (h : j < 66) : ixD (.str c_SIGNS) (.int (j : Nat)) = some (false, .str [sgn j]) := by
  refine ix_str (by decide) ?_
  have : j < c_SIGNS.length := h
  rw [atN this]
  unfold sgn
  rw [List.getD_eq_getElem?_getD, List.getElem?_eq_getElem this]; rfl
theorem sumF_app (ws : List Int) : ∀ (a b : List Nat) (k : Nat), sumF ws k (a ++ b) = sumF ws k a + sumF ws (k + a.length) b
  | [], b, k => by simp [sumF]
  | c :: a, b, k => by
    rw [List.cons_append, sumF, sumF, sumF_app ws a b (k + 1), List.length_cons]
    have : k + 1 + a.length = k + (a.length + 1) := by omega
    rw [this]; omega
theorem split_at {t : List Nat} {k c : Nat} {r : List Nat} (h : t.drop k = c :: r) : t = t.take k ++ [c] ++ r ∧ t.drop (k + 1) = r ∧ k < t.length ∧ (t.take k).length = k := by
  have hk : k < t.length := by
    rcases Nat.lt_or_ge k t.length with q | q
    · exact q
    · rw [List.drop_of_length_le q] at h; cases h
  refine ⟨?_, ?_, hk, by rw [List.length_take]; omega⟩
  · rw [List.append_assoc]
    show t = t.take k ++ (c :: r)
    rw [← h, List.take_append_drop]
  · rw [← List.drop_drop, h]; rfl
theorem sum_put {ws : List Int} {t : List Nat} {k c d : Nat} {r : List Nat} (h : t.drop k = c :: r) : sumF ws 0 (put1 t k d) = sumF ws 0 t + wAt ws k * (idx d - idx c) := by
  obtain ⟨h1, h2, h3, h4⟩ := split_at h
  have e1 : sumF ws 0 (put1 t k d) = sumF ws 0 (t.take k) + (idx d * wAt ws k + sumF ws (k + 1) r) := by
    unfold put1
    rw [h2, List.append_assoc, sumF_app, h4, Nat.zero_add]; rfl
  have e2 : sumF ws 0 t = sumF ws 0 (t.take k) + (idx c * wAt ws k + sumF ws (k + 1) r) := by
    conv => lhs; rw [h1]
    rw [List.append_assoc, sumF_app, h4, Nat.zero_add]; rfl
  rw [e1, e2, Int.mul_sub, Int.mul_comm (wAt ws k) (idx d), Int.mul_comm (wAt ws k) (idx c)]
  omega
theorem put_same {t : List Nat} {k c : Nat} {r : List Nat} (h : t.drop k = c :: r) : put1 t k c = t := by
  obtain ⟨h1, h2, h3, h4⟩ := split_at h
  unfold put1
  rw [h2]; exact h1.symm
theorem srtD_str (xs : List (List Nat)) : srtD [.lst (xs.map D.str)] = some (true, .lst ((srtT xs).map D.str)) := by
  cases xs with
  | nil =>
    have e1 : srtI [] = [] := by simp [srtI]
    have e2 : srtT [] = [] := by simp [srtT]
    show some (true, D.lst ((srtI []).map D.int)) = _
    rw [e1, e2]; rfl
  | cons a r =>
    have e1 : intsD ((a :: r).map D.str) = none := rfl
    have e2 := txtsD_map (a :: r)
    show (match intsD ((a :: r).map D.str) with
      | some ns => some (true, D.lst ((srtI ns).map D.int))
      | none => (txtsD ((a :: r).map D.str)).map fun ns => (true, D.lst ((srtT ns).map D.str))) = _
    rw [e1, e2]; rfl
/-! ### repairs -/
def okJ (m : Int) (ws : List Int) (tot : Int) (k c : Nat) (j : Nat) : Bool := decide ((tot + wAt ws k * ((j : Nat) - idx c)) % m = 0)
def repL (m : Int) (ws : List Int) (t : List Nat) (tot : Int) : Nat → List Nat → List (List Nat)
  | _, [] => []
  | k, c :: r => ((List.range (nN m)).filter (okJ m ws tot k c)).map (fun j => put1 t k (sgn j)) ++ repL m ws t tot (k + 1) r
theorem repL_len (m : Int) (ws : List Int) (t : List Nat) (tot : Int) : ∀ (r : List Nat) (k : Nat), (repL m ws t tot k r).length ≤ 66 * r.length
  | [], k => by simp [repL]
  | c :: r, k => by
    rw [repL, List.length_append, List.length_map, List.length_cons]
    have h1 := repL_len m ws t tot r (k + 1)
    have h2 := List.length_filter_le (okJ m ws tot k c) (List.range (nN m))
    rw [List.length_range] at h2
    have := nN_le m
    omega
theorem rep_in {m : Int} {ws : List Int} {t : List Nat} {tot : Int} (h : Code m ws) (hl : t.length ≤ 4000) {k c : Nat} {r : List Nat} (hd : t.drop k = c :: r) (hc : c ∈ sg m) (d1 d3 : D) (S : List D) : ∀ (js : List Nat) (acc : List (List Nat)) (x : Sl), (∀ j ∈ js, j < 66) → acc.length + js.length ≤ 1000000 → ∃ x',
    forLoop (gN 8) (sIf (tOfV (eOp2 eqD2 (eOp2 modD (eOp2 addD (eVar 3) (eOp2 mulD (eVar 7) (eOp2 subD (eVar 8) (eMthS indexD (eCst (.str c_SIGNS)) (bCons (eVar 6) bNil))))) (eVar 0)) (eCst (.int 0)))) (sApp 4 (eOp2 addD (eOp2 addD (eSl (eVar 2) none (some (eVar 5))) (eOp2 ixD (eCst (.str c_SIGNS)) (eVar 8))) (eSl (eVar 2) (some (eOp2 addD (eVar 5) (eCst (.int 1)))) none))) sNil)
      (js.map fun j => .int (0 + (j : Nat))) ⟨[.fz (.int m), .fz d1, .fz (.str t), .fz (.int tot), .ow (.lst (acc.map D.str)), .fz (.int (k : Nat)), .fz (.str [c]), .fz (.int (wAt ws k)), x], S⟩ =
    .ok ⟨[.fz (.int m), .fz d1, .fz (.str t), .fz (.int tot), .ow (.lst ((acc ++ (js.filter (okJ m ws tot k c)).map fun j => put1 t k (sgn j)).map D.str)), .fz (.int (k : Nat)), .fz (.str [c]), .fz (.int (wAt ws k)), x'], S⟩ .nx
  | [], acc, x, _, _ => ⟨x, by simp [forLoop]⟩
  | j :: js, acc, x, hj, hz => by
    have h66 := hj j List.mem_cons_self
    rw [List.length_cons] at hz
    have hm := h.m1
    have hw : (wAt ws k).natAbs < 2 ^ 64 := by
      unfold wAt
      rw [List.getD_eq_getElem?_getD]
      cases e : ws[k % ws.length]? with
      | none => simp
      | some v =>
        obtain ⟨q1, q2⟩ := h.w v (List.mem_of_getElem? e)
        have := h.m2
        simp only [Option.getD_some]
        omega
    have hmod : ∀ x, modD (.int x) (.int m) = some (false, .int (x % m)) := fun x => mod_pos (by omega)
    have hmul : ∀ y, mulD (.int (wAt ws k)) (.int y) = some (false, .int (wAt ws k * y)) := fun y => mul_small hw
    obtain ⟨p1, p2, p3, p4⟩ := split_at hd
    have s1 : slD (.str t) none (some (k : Int)) = some (false, .str (t.take k)) := sl_strTo (by omega)
    have k1 : ((k : Nat) : Int) + 1 = ((k + 1 : Nat) : Int) := by omega
    have s2 : slD (.str t) (some ((k + 1 : Nat) : Int)) none = some (false, .str (t.drop (k + 1))) := sl_strFrom (by omega)
    obtain ⟨a1, a2⟩ := put1_add (c := sgn j) hl p3
    have hx := ix_sgn h66
    have hi := index_is hc
    rw [List.map_cons, Int.zero_add]
    by_cases q : (tot + wAt ws k * ((j : Nat) - idx c)) % m = 0
    · obtain ⟨x', e⟩ := rep_in (tot := tot) h hl hd hc d1 d3 S js (acc ++ [put1 t k (sgn j)]) (.fz (.int (j : Nat))) (fun i hi => hj i (List.mem_cons_of_mem _ hi)) (by rw [List.length_append, List.length_singleton]; omega)
      refine ⟨x', ?_⟩
      have qf : okJ m ws tot k c j = true := decide_eq_true q
      have ea : acc ++ ((j :: js).filter (okJ m ws tot k c)).map (fun j => put1 t k (sgn j)) = (acc ++ [put1 t k (sgn j)]) ++ (js.filter (okJ m ws tot k c)).map (fun j => put1 t k (sgn j)) := by
        rw [List.filter_cons_of_pos qf, List.map_cons, List.append_assoc]; rfl
      rw [ea, ← e]
      refine forLoop_cons (p1 := ⟨[.fz (.int m), .fz d1, .fz (.str t), .fz (.int tot), .ow (.lst (acc.map D.str)), .fz (.int (k : Nat)), .fz (.str [c]), .fz (.int (wAt ws k)), .fz (.int (j : Nat))], S⟩) rfl ?_
      have hsz : szB (acc.length + 1) = true := szB_of (by omega)
      simp only [denFn, startP, outF, frOf, sSeq, sIf, sSet, sRet, sRetN, sExpr, sNil, sBrk, sCnt, sAug, sPar, sTgt, sApp, sExt, sStIx, sFor, eVar, eCst, eOp2, eOp1, eOpN, eChain, eAnd2, eOr2, eNot1, eIfE, tOfV, tTru, tAnd2, tOr2, tNot1, tYs, aNil, aCons, bNil, bCons, eTup, eLst, eDct0, eSl, eMthS, eCall, gN, gT, gSeq, iVal, iRange1, iRange2, iEnumr, itemsD, opOut, kdOf, deref, derefs, PSt.put, PSt.frzK, PSt.frz, Out.bind, Option.bind, Option.map, add_int, sub_int, addI, ix_tupE, ix_lstE, isTx, isntD2, isD2, isNone, guard', stIx, held, isKey, List.map_cons, List.map_nil, List.length_cons, List.length_nil, List.replicate_succ, List.replicate_zero, List.cons_append, List.nil_append, List.append_nil, List.getElem?_cons_zero, List.getElem?_cons_succ, List.set_cons_zero, List.set_cons_succ, Nat.reduceAdd, Nat.reduceSub, Nat.reduceEqDiff, if_true, if_false, ite_true, ite_false, reduceIte, at0, at1, at2, at3, eq_int, ne_int, ge_int, le_int, lt_int, gt_int, len_lst, len_tup, len_dct, intD, absD, List.length_map, Bool.not_true, Bool.not_false, Bool.false_eq_true, hi, hmul, hmod, q, decide_true, s1, k1, s2, hx, a1, a2, hsz, List.map_append]
    · obtain ⟨x', e⟩ := rep_in (tot := tot) h hl hd hc d1 d3 S js acc (.fz (.int (j : Nat))) (fun i hi => hj i (List.mem_cons_of_mem _ hi)) (by omega)
      refine ⟨x', ?_⟩
      have qf : ¬ okJ m ws tot k c j = true := fun z => q (of_decide_eq_true z)
      rw [List.filter_cons_of_neg qf, ← e]
      refine forLoop_cons (p1 := ⟨[.fz (.int m), .fz d1, .fz (.str t), .fz (.int tot), .ow (.lst (acc.map D.str)), .fz (.int (k : Nat)), .fz (.str [c]), .fz (.int (wAt ws k)), .fz (.int (j : Nat))], S⟩) rfl ?_
      simp only [denFn, startP, outF, frOf, sSeq, sIf, sSet, sRet, sRetN, sExpr, sNil, sBrk, sCnt, sAug, sPar, sTgt, sApp, sExt, sStIx, sFor, eVar, eCst, eOp2, eOp1, eOpN, eChain, eAnd2, eOr2, eNot1, eIfE, tOfV, tTru, tAnd2, tOr2, tNot1, tYs, aNil, aCons, bNil, bCons, eTup, eLst, eDct0, eSl, eMthS, eCall, gN, gT, gSeq, iVal, iRange1, iRange2, iEnumr, itemsD, opOut, kdOf, deref, derefs, PSt.put, PSt.frzK, PSt.frz, Out.bind, Option.bind, Option.map, add_int, sub_int, addI, ix_tupE, ix_lstE, isTx, isntD2, isD2, isNone, guard', stIx, held, isKey, List.map_cons, List.map_nil, List.length_cons, List.length_nil, List.replicate_succ, List.replicate_zero, List.cons_append, List.nil_append, List.append_nil, List.getElem?_cons_zero, List.getElem?_cons_succ, List.set_cons_zero, List.set_cons_succ, Nat.reduceAdd, Nat.reduceSub, Nat.reduceEqDiff, if_true, if_false, ite_true, ite_false, reduceIte, at0, at1, at2, at3, eq_int, ne_int, ge_int, le_int, lt_int, gt_int, len_lst, len_tup, len_dct, intD, absD, List.length_map, Bool.not_true, Bool.not_false, Bool.false_eq_true, hi, hmul, hmod, q, decide_false]
theorem rep_out {m : Int} {ws : List Int} {t : List Nat} {tot : Int} (h : Code m ws) (ht : Txt m t) (S : List D) : ∀ (r : List Nat) (k : Nat) (acc : List (List Nat)) (x y z v : Sl), t.drop k = r → acc.length + 66 * r.length ≤ 900000 → ∃ x' y' z' v',
    forLoop (gT [(gN 5), (gN 6)]) (sSeq (sSet 7 (eOp2 ixD (eVar 1) (eOp2 modD (eVar 5) (eOpN lenD (bCons (eVar 1) bNil))))) (sFor (iRange1 (bCons (eCall g_signs_of (aCons (eVar 0) aNil)) bNil)) (gN 8) (sIf (tOfV (eOp2 eqD2 (eOp2 modD (eOp2 addD (eVar 3) (eOp2 mulD (eVar 7) (eOp2 subD (eVar 8) (eMthS indexD (eCst (.str c_SIGNS)) (bCons (eVar 6) bNil))))) (eVar 0)) (eCst (.int 0)))) (sApp 4 (eOp2 addD (eOp2 addD (eSl (eVar 2) none (some (eVar 5))) (eOp2 ixD (eCst (.str c_SIGNS)) (eVar 8))) (eSl (eVar 2) (some (eOp2 addD (eVar 5) (eCst (.int 1)))) none))) sNil)))
      (enumD k (r.map fun c => .str [c])) ⟨[.fz (.int m), .fz (.tup (ws.map D.int)), .fz (.str t), .fz (.int tot), .ow (.lst (acc.map D.str)), x, y, z, v], S⟩ =
    .ok ⟨[.fz (.int m), .fz (.tup (ws.map D.int)), .fz (.str t), .fz (.int tot), .ow (.lst ((acc ++ repL m ws t tot k r).map D.str)), x', y', z', v'], S⟩ .nx
  | [], k, acc, x, y, z, v, _, _ => ⟨x, y, z, v, by rw [repL, List.append_nil]; rfl⟩
  | c :: r, k, acc, x, y, z, v, hd, hz => by
    obtain ⟨p1, p2, p3, p4⟩ := split_at hd
    rw [List.length_cons] at hz
    have hm := h.m1
    have hc : c ∈ sg m := ht.s c (by rw [p1]; simp)
    have hn : ∀ j ∈ List.range (nN m), j < 66 := fun j hj => by have := List.mem_range.mp hj; have := nN_le m; omega
    obtain ⟨v1, e1⟩ := rep_in (tot := tot) h ht.l hd hc (.tup (ws.map D.int)) .non S (List.range (nN m)) acc v hn (by rw [List.length_range]; have := nN_le m; omega)
    have hf := List.length_filter_le (okJ m ws tot k c) (List.range (nN m))
    rw [List.length_range] at hf
    have hnl := nN_le m
    obtain ⟨x', y', z', v', e⟩ := rep_out (tot := tot) h ht S r (k + 1) (acc ++ ((List.range (nN m)).filter (okJ m ws tot k c)).map fun j => put1 t k (sgn j)) (.fz (.int (k : Nat))) (.fz (.str [c])) (.fz (.int (wAt ws k))) v1 p2 (by rw [List.length_append, List.length_map]; omega)
    refine ⟨x', y', z', v', ?_⟩
    have e0 : enumD k ((c :: r).map fun c => D.str [c]) = .tup [.int (k : Nat), .str [c]] :: enumD (k + 1) (r.map fun c => .str [c]) := rfl
    rw [e0, repL, ← List.append_assoc, ← e]
    have hmod2 : ∀ x, modD (.int x) (.int (ws.length : Nat)) = some (false, .int (x % (ws.length : Nat))) := fun x => mod_pos (by have := h.w1; omega)
    have a2 := wAt_is h.w1 k
    refine forLoop_cons (p1 := ⟨[.fz (.int m), .fz (.tup (ws.map D.int)), .fz (.str t), .fz (.int tot), .ow (.lst (acc.map D.str)), .fz (.int (k : Nat)), .fz (.str [c]), z, v], S⟩) rfl ?_
    have hb : bnd (nS m) = true := bnd_of (by unfold nS; split <;> omega) (by unfold nS; split <;> omega)
    rw [sSeq_nx (p1 := ⟨[.fz (.int m), .fz (.tup (ws.map D.int)), .fz (.str t), .fz (.int tot), .ow (.lst (acc.map D.str)), .fz (.int (k : Nat)), .fz (.str [c]), .fz (.int (wAt ws k)), v], S⟩) (by simp only [denFn, startP, outF, frOf, sSeq, sIf, sSet, sRet, sRetN, sExpr, sNil, sBrk, sCnt, sAug, sPar, sTgt, sApp, sExt, sStIx, sFor, eVar, eCst, eOp2, eOp1, eOpN, eChain, eAnd2, eOr2, eNot1, eIfE, tOfV, tTru, tAnd2, tOr2, tNot1, tYs, aNil, aCons, bNil, bCons, eTup, eLst, eDct0, eSl, eMthS, eCall, gN, gT, gSeq, iVal, iRange1, iRange2, iEnumr, itemsD, opOut, kdOf, deref, derefs, PSt.put, PSt.frzK, PSt.frz, Out.bind, Option.bind, Option.map, add_int, sub_int, addI, ix_tupE, ix_lstE, isTx, isntD2, isD2, isNone, guard', stIx, held, isKey, List.map_cons, List.map_nil, List.length_cons, List.length_nil, List.replicate_succ, List.replicate_zero, List.cons_append, List.nil_append, List.append_nil, List.getElem?_cons_zero, List.getElem?_cons_succ, List.set_cons_zero, List.set_cons_succ, Nat.reduceAdd, Nat.reduceSub, Nat.reduceEqDiff, if_true, if_false, ite_true, ite_false, reduceIte, at0, at1, at2, at3, eq_int, ne_int, ge_int, le_int, lt_int, gt_int, len_lst, len_tup, len_dct, intD, absD, List.length_map, Bool.not_true, Bool.not_false, Bool.false_eq_true, hmod2, a2])]
    refine sFor_run (p1 := ⟨[.fz (.int m), .fz (.tup (ws.map D.int)), .fz (.str t), .fz (.int tot), .ow (.lst (acc.map D.str)), .fz (.int (k : Nat)), .fz (.str [c]), .fz (.int (wAt ws k)), v], S⟩) (items := (List.range (nN m)).map fun j => .int (0 + (j : Nat))) ?_ e1
    rw [← rng_nat, nN_int (by omega)]
    simp only [denFn, startP, outF, frOf, sSeq, sIf, sSet, sRet, sRetN, sExpr, sNil, sBrk, sCnt, sAug, sPar, sTgt, sApp, sExt, sStIx, sFor, eVar, eCst, eOp2, eOp1, eOpN, eChain, eAnd2, eOr2, eNot1, eIfE, tOfV, tTru, tAnd2, tOr2, tNot1, tYs, aNil, aCons, bNil, bCons, eTup, eLst, eDct0, eSl, eMthS, eCall, gN, gT, gSeq, iVal, iRange1, iRange2, iEnumr, itemsD, opOut, kdOf, deref, derefs, PSt.put, PSt.frzK, PSt.frz, Out.bind, Option.bind, Option.map, add_int, sub_int, addI, ix_tupE, ix_lstE, isTx, isntD2, isD2, isNone, guard', stIx, held, isKey, List.map_cons, List.map_nil, List.length_cons, List.length_nil, List.replicate_succ, List.replicate_zero, List.cons_append, List.nil_append, List.append_nil, List.getElem?_cons_zero, List.getElem?_cons_succ, List.set_cons_zero, List.set_cons_succ, Nat.reduceAdd, Nat.reduceSub, Nat.reduceEqDiff, if_true, if_false, ite_true, ite_false, reduceIte, at0, at1, at2, at3, eq_int, ne_int, ge_int, le_int, lt_int, gt_int, len_lst, len_tup, len_dct, intD, absD, List.length_map, Bool.not_true, Bool.not_false, Bool.false_eq_true, signs_of_is, hb]
theorem repairs_is {m : Int} {ws : List Int} {t : List Nat} (h : Code m ws) (ht : Txt m t) (S : List D) : g_repairs [.int m, .tup (ws.map D.int), .str t] S =
    .ok S false (.tup (if su m ws t = 0 then [.str t] else (srtT (repL m ws t (su m ws t) 0 t)).map D.str)) := by
  have hm : 0 ≤ m := by have := h.m1; omega
  have hl := ht.l
  unfold g_repairs b_repairs
  refine denFn_run rfl ?_
  have e3 : startP 9 [.int m, .tup (ws.map D.int), .str t] S = ⟨[.fz (.int m), .fz (.tup (ws.map D.int)), .fz (.str t), .un, .un, .un, .un, .un, .un], S⟩ := rfl
  rw [e3, sSeq_nx (p1 := ⟨[.fz (.int m), .fz (.tup (ws.map D.int)), .fz (.str t), .un, .un, .un, .un, .un, .un], S⟩) (by simp only [denFn, startP, outF, frOf, sSeq, sIf, sSet, sRet, sRetN, sExpr, sNil, sBrk, sCnt, sAug, sPar, sTgt, sApp, sExt, sStIx, sFor, eVar, eCst, eOp2, eOp1, eOpN, eChain, eAnd2, eOr2, eNot1, eIfE, tOfV, tTru, tAnd2, tOr2, tNot1, tYs, aNil, aCons, bNil, bCons, eTup, eLst, eDct0, eSl, eMthS, eCall, gN, gT, gSeq, iVal, iRange1, iRange2, iEnumr, itemsD, opOut, kdOf, deref, derefs, PSt.put, PSt.frzK, PSt.frz, Out.bind, Option.bind, Option.map, add_int, sub_int, addI, ix_tupE, ix_lstE, isTx, isntD2, isD2, isNone, guard', stIx, held, isKey, List.map_cons, List.map_nil, List.length_cons, List.length_nil, List.replicate_succ, List.replicate_zero, List.cons_append, List.nil_append, List.append_nil, List.getElem?_cons_zero, List.getElem?_cons_succ, List.set_cons_zero, List.set_cons_succ, Nat.reduceAdd, Nat.reduceSub, Nat.reduceEqDiff, if_true, if_false, ite_true, ite_false, reduceIte, at0, at1, at2, at3, eq_int, ne_int, ge_int, le_int, lt_int, gt_int, len_lst, len_tup, len_dct, intD, absD, List.length_map, Bool.not_true, Bool.not_false, Bool.false_eq_true, check_code_is h])]
  rw [sSeq_nx (p1 := ⟨[.fz (.int m), .fz (.tup (ws.map D.int)), .fz (.str t), .un, .un, .un, .un, .un, .un], S⟩) (by simp only [denFn, startP, outF, frOf, sSeq, sIf, sSet, sRet, sRetN, sExpr, sNil, sBrk, sCnt, sAug, sPar, sTgt, sApp, sExt, sStIx, sFor, eVar, eCst, eOp2, eOp1, eOpN, eChain, eAnd2, eOr2, eNot1, eIfE, tOfV, tTru, tAnd2, tOr2, tNot1, tYs, aNil, aCons, bNil, bCons, eTup, eLst, eDct0, eSl, eMthS, eCall, gN, gT, gSeq, iVal, iRange1, iRange2, iEnumr, itemsD, opOut, kdOf, deref, derefs, PSt.put, PSt.frzK, PSt.frz, Out.bind, Option.bind, Option.map, add_int, sub_int, addI, ix_tupE, ix_lstE, isTx, isntD2, isD2, isNone, guard', stIx, held, isKey, List.map_cons, List.map_nil, List.length_cons, List.length_nil, List.replicate_succ, List.replicate_zero, List.cons_append, List.nil_append, List.append_nil, List.getElem?_cons_zero, List.getElem?_cons_succ, List.set_cons_zero, List.set_cons_succ, Nat.reduceAdd, Nat.reduceSub, Nat.reduceEqDiff, if_true, if_false, ite_true, ite_false, reduceIte, at0, at1, at2, at3, eq_int, ne_int, ge_int, le_int, lt_int, gt_int, len_lst, len_tup, len_dct, intD, absD, List.length_map, Bool.not_true, Bool.not_false, Bool.false_eq_true, check_text_is hm ht])]
  rw [sSeq_nx (p1 := ⟨[.fz (.int m), .fz (.tup (ws.map D.int)), .fz (.str t), .fz (.int (su m ws t)), .un, .un, .un, .un, .un], S⟩) (by simp only [denFn, startP, outF, frOf, sSeq, sIf, sSet, sRet, sRetN, sExpr, sNil, sBrk, sCnt, sAug, sPar, sTgt, sApp, sExt, sStIx, sFor, eVar, eCst, eOp2, eOp1, eOpN, eChain, eAnd2, eOr2, eNot1, eIfE, tOfV, tTru, tAnd2, tOr2, tNot1, tYs, aNil, aCons, bNil, bCons, eTup, eLst, eDct0, eSl, eMthS, eCall, gN, gT, gSeq, iVal, iRange1, iRange2, iEnumr, itemsD, opOut, kdOf, deref, derefs, PSt.put, PSt.frzK, PSt.frz, Out.bind, Option.bind, Option.map, add_int, sub_int, addI, ix_tupE, ix_lstE, isTx, isntD2, isD2, isNone, guard', stIx, held, isKey, List.map_cons, List.map_nil, List.length_cons, List.length_nil, List.replicate_succ, List.replicate_zero, List.cons_append, List.nil_append, List.append_nil, List.getElem?_cons_zero, List.getElem?_cons_succ, List.set_cons_zero, List.set_cons_succ, Nat.reduceAdd, Nat.reduceSub, Nat.reduceEqDiff, if_true, if_false, ite_true, ite_false, reduceIte, at0, at1, at2, at3, eq_int, ne_int, ge_int, le_int, lt_int, gt_int, len_lst, len_tup, len_dct, intD, absD, List.length_map, Bool.not_true, Bool.not_false, Bool.false_eq_true, sum_of_is h ht.s, su])]
  by_cases c : su m ws t = 0
  · rw [if_pos c, sSeq_rt (p1 := ⟨[.fz (.int m), .fz (.tup (ws.map D.int)), .fz (.str t), .fz (.int (su m ws t)), .un, .un, .un, .un, .un], S⟩) (k := .fz) (d := .tup [.str t]) (by simp only [denFn, startP, outF, frOf, sSeq, sIf, sSet, sRet, sRetN, sExpr, sNil, sBrk, sCnt, sAug, sPar, sTgt, sApp, sExt, sStIx, sFor, eVar, eCst, eOp2, eOp1, eOpN, eChain, eAnd2, eOr2, eNot1, eIfE, tOfV, tTru, tAnd2, tOr2, tNot1, tYs, aNil, aCons, bNil, bCons, eTup, eLst, eDct0, eSl, eMthS, eCall, gN, gT, gSeq, iVal, iRange1, iRange2, iEnumr, itemsD, opOut, kdOf, deref, derefs, PSt.put, PSt.frzK, PSt.frz, Out.bind, Option.bind, Option.map, add_int, sub_int, addI, ix_tupE, ix_lstE, isTx, isntD2, isD2, isNone, guard', stIx, held, isKey, List.map_cons, List.map_nil, List.length_cons, List.length_nil, List.replicate_succ, List.replicate_zero, List.cons_append, List.nil_append, List.append_nil, List.getElem?_cons_zero, List.getElem?_cons_succ, List.set_cons_zero, List.set_cons_succ, Nat.reduceAdd, Nat.reduceSub, Nat.reduceEqDiff, if_true, if_false, ite_true, ite_false, reduceIte, at0, at1, at2, at3, eq_int, ne_int, ge_int, le_int, lt_int, gt_int, len_lst, len_tup, len_dct, intD, absD, List.length_map, Bool.not_true, Bool.not_false, Bool.false_eq_true, c, decide_true]; rfl)]
    rfl
  · obtain ⟨x, y, z, v, e⟩ := rep_out (tot := su m ws t) h ht S t 0 [] .un .un .un .un rfl (by simp; omega)
    rw [if_neg c, sSeq_nx (p1 := ⟨[.fz (.int m), .fz (.tup (ws.map D.int)), .fz (.str t), .fz (.int (su m ws t)), .un, .un, .un, .un, .un], S⟩) (by simp only [denFn, startP, outF, frOf, sSeq, sIf, sSet, sRet, sRetN, sExpr, sNil, sBrk, sCnt, sAug, sPar, sTgt, sApp, sExt, sStIx, sFor, eVar, eCst, eOp2, eOp1, eOpN, eChain, eAnd2, eOr2, eNot1, eIfE, tOfV, tTru, tAnd2, tOr2, tNot1, tYs, aNil, aCons, bNil, bCons, eTup, eLst, eDct0, eSl, eMthS, eCall, gN, gT, gSeq, iVal, iRange1, iRange2, iEnumr, itemsD, opOut, kdOf, deref, derefs, PSt.put, PSt.frzK, PSt.frz, Out.bind, Option.bind, Option.map, add_int, sub_int, addI, ix_tupE, ix_lstE, isTx, isntD2, isD2, isNone, guard', stIx, held, isKey, List.map_cons, List.map_nil, List.length_cons, List.length_nil, List.replicate_succ, List.replicate_zero, List.cons_append, List.nil_append, List.append_nil, List.getElem?_cons_zero, List.getElem?_cons_succ, List.set_cons_zero, List.set_cons_succ, Nat.reduceAdd, Nat.reduceSub, Nat.reduceEqDiff, if_true, if_false, ite_true, ite_false, reduceIte, at0, at1, at2, at3, eq_int, ne_int, ge_int, le_int, lt_int, gt_int, len_lst, len_tup, len_dct, intD, absD, List.length_map, Bool.not_true, Bool.not_false, Bool.false_eq_true, c, decide_false])]
    rw [sSeq_nx (p1 := ⟨[.fz (.int m), .fz (.tup (ws.map D.int)), .fz (.str t), .fz (.int (su m ws t)), .ow (.lst ([].map D.str)), .un, .un, .un, .un], S⟩) rfl]
    rw [sSeq_for rfl e, List.nil_append]
    simp only [denFn, startP, outF, frOf, sSeq, sIf, sSet, sRet, sRetN, sExpr, sNil, sBrk, sCnt, sAug, sPar, sTgt, sApp, sExt, sStIx, sFor, eVar, eCst, eOp2, eOp1, eOpN, eChain, eAnd2, eOr2, eNot1, eIfE, tOfV, tTru, tAnd2, tOr2, tNot1, tYs, aNil, aCons, bNil, bCons, eTup, eLst, eDct0, eSl, eMthS, eCall, gN, gT, gSeq, iVal, iRange1, iRange2, iEnumr, itemsD, opOut, kdOf, deref, derefs, PSt.put, PSt.frzK, PSt.frz, Out.bind, Option.bind, Option.map, add_int, sub_int, addI, ix_tupE, ix_lstE, isTx, isntD2, isD2, isNone, guard', stIx, held, isKey, List.map_cons, List.map_nil, List.length_cons, List.length_nil, List.replicate_succ, List.replicate_zero, List.cons_append, List.nil_append, List.append_nil, List.getElem?_cons_zero, List.getElem?_cons_succ, List.set_cons_zero, List.set_cons_succ, Nat.reduceAdd, Nat.reduceSub, Nat.reduceEqDiff, if_true, if_false, ite_true, ite_false, reduceIte, at0, at1, at2, at3, eq_int, ne_int, ge_int, le_int, lt_int, gt_int, len_lst, len_tup, len_dct, intD, absD, List.length_map, Bool.not_true, Bool.not_false, Bool.false_eq_true, srtD_str, tupD_lst]
end K56
namespace K56
open PySem PySem.Spec L2 PM
theorem okT_sg {m : Int} {t : List Nat} (h : ∀ c ∈ t, c ∈ sg m) : okT t = true := by
  have q : (c_SIGNS.all fun c => decide (c < 0x110000)) = true := by decide +kernel
  unfold okT
  rw [List.all_eq_true]
  intro c hc
  exact List.all_eq_true.mp q c (sg_sub (h c hc))
theorem sgn_in {m : Int} (h : 0 ≤ m) {j : Nat} (hj : j < nN m) : sgn j ∈ sg m := by
  rw [sg_is h]
  exact List.mem_map.mpr ⟨j, List.mem_range.mpr hj, rfl⟩
theorem wAt_small {m : Int} {ws : List Int} (h : Code m ws) (k : Nat) : (wAt ws k).natAbs < 2 ^ 64 := by
  unfold wAt
  rw [List.getD_eq_getElem?_getD]
  cases e : ws[k % ws.length]? with
  | none => simp
  | some v =>
    obtain ⟨q1, q2⟩ := h.w v (List.mem_of_getElem? e)
    have := h.m2
    simp only [Option.getD_some]
    omega
/-! ### what is missed -/
def misJ (m : Int) (ws : List Int) (k c j : Nat) : Bool := (!decide ([sgn j] = [c])) && decide (wAt ws k * ((j : Nat) - idx c) % m = 0)
def misL (m : Int) (ws : List Int) : Nat → List Nat → Nat
  | _, [] => 0
  | k, c :: r => ((List.range (nN m)).filter (misJ m ws k c)).length + misL m ws (k + 1) r
theorem mis_in {m : Int} {ws : List Int} {k c : Nat} (h : Code m ws) (hc : c ∈ sg m) (d2 : D) (S : List D) : ∀ (js : List Nat) (acc : Int) (x : Sl), (∀ j ∈ js, j < nN m) → ∃ x',
    forLoop (gN 6) (sIf (tAnd2 (tOfV (eOp2 neD2 (eOp2 ixD (eCst (.str c_SIGNS)) (eVar 6)) (eVar 5))) (tOfV (eOp2 eqD2 (eOp2 modD (eOp2 mulD (eOp2 ixD (eVar 1) (eOp2 modD (eVar 4) (eOpN lenD (bCons (eVar 1) bNil)))) (eOp2 subD (eVar 6) (eMthS indexD (eCst (.str c_SIGNS)) (bCons (eVar 5) bNil)))) (eVar 0)) (eCst (.int 0))))) (sAug 3 addI (eCst (.int 1))) sNil)
      (js.map fun j => .int (0 + (j : Nat))) ⟨[.fz (.int m), .fz (.tup (ws.map D.int)), .fz d2, .fz (.int acc), .fz (.int (k : Nat)), .fz (.str [c]), x], S⟩ =
    .ok ⟨[.fz (.int m), .fz (.tup (ws.map D.int)), .fz d2, .fz (.int (acc + ((js.filter (misJ m ws k c)).length : Nat))), .fz (.int (k : Nat)), .fz (.str [c]), x'], S⟩ .nx
  | [], acc, x, _ => ⟨x, by simp [forLoop]⟩
  | j :: js, acc, x, hj => by
    have hjn := hj j List.mem_cons_self
    have h66 : j < 66 := by have := nN_le m; omega
    have hm := h.m1
    have hmod : ∀ x, modD (.int x) (.int m) = some (false, .int (x % m)) := fun x => mod_pos (by omega)
    have hmod2 : ∀ x, modD (.int x) (.int (ws.length : Nat)) = some (false, .int (x % (ws.length : Nat))) := fun x => mod_pos (by have := h.w1; omega)
    have hmul : ∀ y, mulD (.int (wAt ws k)) (.int y) = some (false, .int (wAt ws k * y)) := fun y => mul_small (wAt_small h k)
    have a2 := wAt_is h.w1 k
    have hx := ix_sgn h66
    have hi := index_is hc
    have hne : neD2 (.str [sgn j]) (.str [c]) = some (false, .bl (!decide ([sgn j] = [c]))) := ne_str (okT_sg (m := m) (one_in (sgn_in (by omega) hjn))) (okT_sg (one_in hc))
    rw [List.map_cons, Int.zero_add]
    by_cases q : misJ m ws k c j = true
    · obtain ⟨x', e⟩ := mis_in h hc d2 S js (acc + 1) (.fz (.int (j : Nat))) (fun i hi => hj i (List.mem_cons_of_mem _ hi))
      refine ⟨x', ?_⟩
      have ea : acc + (((j :: js).filter (misJ m ws k c)).length : Nat) = acc + 1 + ((js.filter (misJ m ws k c)).length : Nat) := by
        rw [List.filter_cons_of_pos q, List.length_cons]; omega
      rw [ea, ← e]
      refine forLoop_cons (p1 := ⟨[.fz (.int m), .fz (.tup (ws.map D.int)), .fz d2, .fz (.int acc), .fz (.int (k : Nat)), .fz (.str [c]), .fz (.int (j : Nat))], S⟩) rfl ?_
      unfold misJ at q
      rw [Bool.and_eq_true] at q
      have q1 := q.1
      have q2 := of_decide_eq_true q.2
      simp only [denFn, startP, outF, frOf, sSeq, sIf, sSet, sRet, sRetN, sExpr, sNil, sBrk, sCnt, sAug, sPar, sTgt, sApp, sExt, sStIx, sFor, eVar, eCst, eOp2, eOp1, eOpN, eChain, eAnd2, eOr2, eNot1, eIfE, tOfV, tTru, tAnd2, tOr2, tNot1, tYs, aNil, aCons, bNil, bCons, eTup, eLst, eDct0, eSl, eMthS, eCall, gN, gT, gSeq, iVal, iRange1, iRange2, iEnumr, itemsD, opOut, kdOf, deref, derefs, PSt.put, PSt.frzK, PSt.frz, Out.bind, Option.bind, Option.map, add_int, sub_int, addI, ix_tupE, ix_lstE, isTx, isntD2, isD2, isNone, guard', stIx, held, isKey, List.map_cons, List.map_nil, List.length_cons, List.length_nil, List.replicate_succ, List.replicate_zero, List.cons_append, List.nil_append, List.append_nil, List.getElem?_cons_zero, List.getElem?_cons_succ, List.set_cons_zero, List.set_cons_succ, Nat.reduceAdd, Nat.reduceSub, Nat.reduceEqDiff, if_true, if_false, ite_true, ite_false, reduceIte, at0, at1, at2, at3, eq_int, ne_int, ge_int, le_int, lt_int, gt_int, len_lst, len_tup, len_dct, intD, absD, List.length_map, Bool.not_true, Bool.not_false, Bool.false_eq_true, hx, hne, q1, hmod2, a2, hi, hmul, hmod, q2, decide_true]
    · obtain ⟨x', e⟩ := mis_in h hc d2 S js acc (.fz (.int (j : Nat))) (fun i hi => hj i (List.mem_cons_of_mem _ hi))
      refine ⟨x', ?_⟩
      rw [List.filter_cons_of_neg q, ← e]
      refine forLoop_cons (p1 := ⟨[.fz (.int m), .fz (.tup (ws.map D.int)), .fz d2, .fz (.int acc), .fz (.int (k : Nat)), .fz (.str [c]), .fz (.int (j : Nat))], S⟩) rfl ?_
      unfold misJ at q
      by_cases q1 : (!decide ([sgn j] = [c])) = true
      · have q2 : ¬ wAt ws k * ((j : Nat) - idx c) % m = 0 := fun z => q (by rw [q1, decide_eq_true z]; rfl)
        simp only [denFn, startP, outF, frOf, sSeq, sIf, sSet, sRet, sRetN, sExpr, sNil, sBrk, sCnt, sAug, sPar, sTgt, sApp, sExt, sStIx, sFor, eVar, eCst, eOp2, eOp1, eOpN, eChain, eAnd2, eOr2, eNot1, eIfE, tOfV, tTru, tAnd2, tOr2, tNot1, tYs, aNil, aCons, bNil, bCons, eTup, eLst, eDct0, eSl, eMthS, eCall, gN, gT, gSeq, iVal, iRange1, iRange2, iEnumr, itemsD, opOut, kdOf, deref, derefs, PSt.put, PSt.frzK, PSt.frz, Out.bind, Option.bind, Option.map, add_int, sub_int, addI, ix_tupE, ix_lstE, isTx, isntD2, isD2, isNone, guard', stIx, held, isKey, List.map_cons, List.map_nil, List.length_cons, List.length_nil, List.replicate_succ, List.replicate_zero, List.cons_append, List.nil_append, List.append_nil, List.getElem?_cons_zero, List.getElem?_cons_succ, List.set_cons_zero, List.set_cons_succ, Nat.reduceAdd, Nat.reduceSub, Nat.reduceEqDiff, if_true, if_false, ite_true, ite_false, reduceIte, at0, at1, at2, at3, eq_int, ne_int, ge_int, le_int, lt_int, gt_int, len_lst, len_tup, len_dct, intD, absD, List.length_map, Bool.not_true, Bool.not_false, Bool.false_eq_true, hx, hne, q1, hmod2, a2, hi, hmul, hmod, q2, decide_false]
      · have q1 : (!decide ([sgn j] = [c])) = false := by simpa using q1
        simp only [denFn, startP, outF, frOf, sSeq, sIf, sSet, sRet, sRetN, sExpr, sNil, sBrk, sCnt, sAug, sPar, sTgt, sApp, sExt, sStIx, sFor, eVar, eCst, eOp2, eOp1, eOpN, eChain, eAnd2, eOr2, eNot1, eIfE, tOfV, tTru, tAnd2, tOr2, tNot1, tYs, aNil, aCons, bNil, bCons, eTup, eLst, eDct0, eSl, eMthS, eCall, gN, gT, gSeq, iVal, iRange1, iRange2, iEnumr, itemsD, opOut, kdOf, deref, derefs, PSt.put, PSt.frzK, PSt.frz, Out.bind, Option.bind, Option.map, add_int, sub_int, addI, ix_tupE, ix_lstE, isTx, isntD2, isD2, isNone, guard', stIx, held, isKey, List.map_cons, List.map_nil, List.length_cons, List.length_nil, List.replicate_succ, List.replicate_zero, List.cons_append, List.nil_append, List.append_nil, List.getElem?_cons_zero, List.getElem?_cons_succ, List.set_cons_zero, List.set_cons_succ, Nat.reduceAdd, Nat.reduceSub, Nat.reduceEqDiff, if_true, if_false, ite_true, ite_false, reduceIte, at0, at1, at2, at3, eq_int, ne_int, ge_int, le_int, lt_int, gt_int, len_lst, len_tup, len_dct, intD, absD, List.length_map, Bool.not_true, Bool.not_false, Bool.false_eq_true, hx, hne, q1]
theorem mis_out {m : Int} {ws : List Int} (h : Code m ws) (d2 : D) (S : List D) : ∀ (r : List Nat) (k : Nat) (acc : Int) (x y z : Sl), (∀ c ∈ r, c ∈ sg m) → ∃ x' y' z',
    forLoop (gT [(gN 4), (gN 5)]) (sFor (iRange1 (bCons (eCall g_signs_of (aCons (eVar 0) aNil)) bNil)) (gN 6) (sIf (tAnd2 (tOfV (eOp2 neD2 (eOp2 ixD (eCst (.str c_SIGNS)) (eVar 6)) (eVar 5))) (tOfV (eOp2 eqD2 (eOp2 modD (eOp2 mulD (eOp2 ixD (eVar 1) (eOp2 modD (eVar 4) (eOpN lenD (bCons (eVar 1) bNil)))) (eOp2 subD (eVar 6) (eMthS indexD (eCst (.str c_SIGNS)) (bCons (eVar 5) bNil)))) (eVar 0)) (eCst (.int 0))))) (sAug 3 addI (eCst (.int 1))) sNil))
      (enumD k (r.map fun c => .str [c])) ⟨[.fz (.int m), .fz (.tup (ws.map D.int)), .fz d2, .fz (.int acc), x, y, z], S⟩ =
    .ok ⟨[.fz (.int m), .fz (.tup (ws.map D.int)), .fz d2, .fz (.int (acc + (misL m ws k r : Nat))), x', y', z'], S⟩ .nx
  | [], k, acc, x, y, z, _ => ⟨x, y, z, by rw [misL]; simp [forLoop, enumD]⟩
  | c :: r, k, acc, x, y, z, hr => by
    have hm := h.m1
    have hc := hr c List.mem_cons_self
    obtain ⟨v1, e1⟩ := mis_in (k := k) h hc d2 S (List.range (nN m)) acc z (fun j hj => List.mem_range.mp hj)
    obtain ⟨x', y', z', e⟩ := mis_out h d2 S r (k + 1) (acc + (((List.range (nN m)).filter (misJ m ws k c)).length : Nat)) (.fz (.int (k : Nat))) (.fz (.str [c])) v1 (fun i hi => hr i (List.mem_cons_of_mem _ hi))
    refine ⟨x', y', z', ?_⟩
    have e0 : enumD k ((c :: r).map fun c => D.str [c]) = .tup [.int (k : Nat), .str [c]] :: enumD (k + 1) (r.map fun c => .str [c]) := rfl
    have ea : acc + (misL m ws k (c :: r) : Nat) = acc + (((List.range (nN m)).filter (misJ m ws k c)).length : Nat) + (misL m ws (k + 1) r : Nat) := by rw [misL]; omega
    rw [e0, ea, ← e]
    refine forLoop_cons (p1 := ⟨[.fz (.int m), .fz (.tup (ws.map D.int)), .fz d2, .fz (.int acc), .fz (.int (k : Nat)), .fz (.str [c]), z], S⟩) rfl ?_
    have hb : bnd (nS m) = true := bnd_of (by unfold nS; split <;> omega) (by unfold nS; split <;> omega)
    refine sFor_run (p1 := ⟨[.fz (.int m), .fz (.tup (ws.map D.int)), .fz d2, .fz (.int acc), .fz (.int (k : Nat)), .fz (.str [c]), z], S⟩) (items := (List.range (nN m)).map fun j => .int (0 + (j : Nat))) ?_ e1
    rw [← rng_nat, nN_int (by omega)]
    simp only [denFn, startP, outF, frOf, sSeq, sIf, sSet, sRet, sRetN, sExpr, sNil, sBrk, sCnt, sAug, sPar, sTgt, sApp, sExt, sStIx, sFor, eVar, eCst, eOp2, eOp1, eOpN, eChain, eAnd2, eOr2, eNot1, eIfE, tOfV, tTru, tAnd2, tOr2, tNot1, tYs, aNil, aCons, bNil, bCons, eTup, eLst, eDct0, eSl, eMthS, eCall, gN, gT, gSeq, iVal, iRange1, iRange2, iEnumr, itemsD, opOut, kdOf, deref, derefs, PSt.put, PSt.frzK, PSt.frz, Out.bind, Option.bind, Option.map, add_int, sub_int, addI, ix_tupE, ix_lstE, isTx, isntD2, isD2, isNone, guard', stIx, held, isKey, List.map_cons, List.map_nil, List.length_cons, List.length_nil, List.replicate_succ, List.replicate_zero, List.cons_append, List.nil_append, List.append_nil, List.getElem?_cons_zero, List.getElem?_cons_succ, List.set_cons_zero, List.set_cons_succ, Nat.reduceAdd, Nat.reduceSub, Nat.reduceEqDiff, if_true, if_false, ite_true, ite_false, reduceIte, at0, at1, at2, at3, eq_int, ne_int, ge_int, le_int, lt_int, gt_int, len_lst, len_tup, len_dct, intD, absD, List.length_map, Bool.not_true, Bool.not_false, Bool.false_eq_true, signs_of_is, hb]
theorem missed_share_is {m : Int} {ws : List Int} {t : List Nat} (h : Code m ws) (ht : Txt m t) (h0 : su m ws t = 0) (S : List D) : g_missed_share [.int m, .tup (ws.map D.int), .str t] S =
    .ok S false (.tup [.int (misL m ws 0 t : Nat), .int ((t.length : Nat) * (nS m - 1))]) := by
  have hm : 0 ≤ m := by have := h.m1; omega
  have hl := ht.l
  have h00 : sumF ws 0 t % m = 0 := h0
  unfold g_missed_share b_missed_share
  refine denFn_run rfl ?_
  have e3 : startP 7 [.int m, .tup (ws.map D.int), .str t] S = ⟨[.fz (.int m), .fz (.tup (ws.map D.int)), .fz (.str t), .un, .un, .un, .un], S⟩ := rfl
  rw [e3, sSeq_nx (p1 := ⟨[.fz (.int m), .fz (.tup (ws.map D.int)), .fz (.str t), .un, .un, .un, .un], S⟩) (by simp only [denFn, startP, outF, frOf, sSeq, sIf, sSet, sRet, sRetN, sExpr, sNil, sBrk, sCnt, sAug, sPar, sTgt, sApp, sExt, sStIx, sFor, eVar, eCst, eOp2, eOp1, eOpN, eChain, eAnd2, eOr2, eNot1, eIfE, tOfV, tTru, tAnd2, tOr2, tNot1, tYs, aNil, aCons, bNil, bCons, eTup, eLst, eDct0, eSl, eMthS, eCall, gN, gT, gSeq, iVal, iRange1, iRange2, iEnumr, itemsD, opOut, kdOf, deref, derefs, PSt.put, PSt.frzK, PSt.frz, Out.bind, Option.bind, Option.map, add_int, sub_int, addI, ix_tupE, ix_lstE, isTx, isntD2, isD2, isNone, guard', stIx, held, isKey, List.map_cons, List.map_nil, List.length_cons, List.length_nil, List.replicate_succ, List.replicate_zero, List.cons_append, List.nil_append, List.append_nil, List.getElem?_cons_zero, List.getElem?_cons_succ, List.set_cons_zero, List.set_cons_succ, Nat.reduceAdd, Nat.reduceSub, Nat.reduceEqDiff, if_true, if_false, ite_true, ite_false, reduceIte, at0, at1, at2, at3, eq_int, ne_int, ge_int, le_int, lt_int, gt_int, len_lst, len_tup, len_dct, intD, absD, List.length_map, Bool.not_true, Bool.not_false, Bool.false_eq_true, check_code_is h])]
  rw [sSeq_nx (p1 := ⟨[.fz (.int m), .fz (.tup (ws.map D.int)), .fz (.str t), .un, .un, .un, .un], S⟩) (by simp only [denFn, startP, outF, frOf, sSeq, sIf, sSet, sRet, sRetN, sExpr, sNil, sBrk, sCnt, sAug, sPar, sTgt, sApp, sExt, sStIx, sFor, eVar, eCst, eOp2, eOp1, eOpN, eChain, eAnd2, eOr2, eNot1, eIfE, tOfV, tTru, tAnd2, tOr2, tNot1, tYs, aNil, aCons, bNil, bCons, eTup, eLst, eDct0, eSl, eMthS, eCall, gN, gT, gSeq, iVal, iRange1, iRange2, iEnumr, itemsD, opOut, kdOf, deref, derefs, PSt.put, PSt.frzK, PSt.frz, Out.bind, Option.bind, Option.map, add_int, sub_int, addI, ix_tupE, ix_lstE, isTx, isntD2, isD2, isNone, guard', stIx, held, isKey, List.map_cons, List.map_nil, List.length_cons, List.length_nil, List.replicate_succ, List.replicate_zero, List.cons_append, List.nil_append, List.append_nil, List.getElem?_cons_zero, List.getElem?_cons_succ, List.set_cons_zero, List.set_cons_succ, Nat.reduceAdd, Nat.reduceSub, Nat.reduceEqDiff, if_true, if_false, ite_true, ite_false, reduceIte, at0, at1, at2, at3, eq_int, ne_int, ge_int, le_int, lt_int, gt_int, len_lst, len_tup, len_dct, intD, absD, List.length_map, Bool.not_true, Bool.not_false, Bool.false_eq_true, check_text_is hm ht])]
  rw [sSeq_nx (p1 := ⟨[.fz (.int m), .fz (.tup (ws.map D.int)), .fz (.str t), .un, .un, .un, .un], S⟩) (by simp only [denFn, startP, outF, frOf, sSeq, sIf, sSet, sRet, sRetN, sExpr, sNil, sBrk, sCnt, sAug, sPar, sTgt, sApp, sExt, sStIx, sFor, eVar, eCst, eOp2, eOp1, eOpN, eChain, eAnd2, eOr2, eNot1, eIfE, tOfV, tTru, tAnd2, tOr2, tNot1, tYs, aNil, aCons, bNil, bCons, eTup, eLst, eDct0, eSl, eMthS, eCall, gN, gT, gSeq, iVal, iRange1, iRange2, iEnumr, itemsD, opOut, kdOf, deref, derefs, PSt.put, PSt.frzK, PSt.frz, Out.bind, Option.bind, Option.map, add_int, sub_int, addI, ix_tupE, ix_lstE, isTx, isntD2, isD2, isNone, guard', stIx, held, isKey, List.map_cons, List.map_nil, List.length_cons, List.length_nil, List.replicate_succ, List.replicate_zero, List.cons_append, List.nil_append, List.append_nil, List.getElem?_cons_zero, List.getElem?_cons_succ, List.set_cons_zero, List.set_cons_succ, Nat.reduceAdd, Nat.reduceSub, Nat.reduceEqDiff, if_true, if_false, ite_true, ite_false, reduceIte, at0, at1, at2, at3, eq_int, ne_int, ge_int, le_int, lt_int, gt_int, len_lst, len_tup, len_dct, intD, absD, List.length_map, Bool.not_true, Bool.not_false, Bool.false_eq_true, sum_of_is h ht.s, h00, decide_true])]
  obtain ⟨x, y, z, e⟩ := mis_out h (.str t) S t 0 0 .un .un .un ht.s
  rw [sSeq_nx (p1 := ⟨[.fz (.int m), .fz (.tup (ws.map D.int)), .fz (.str t), .fz (.int 0), .un, .un, .un], S⟩) rfl]
  rw [sSeq_for rfl e]
  have e7 : lenD [.str t] = some (false, .int t.length) := len_str (by omega)
  have hmul : ∀ y, mulD (.int (t.length : Nat)) (.int y) = some (false, .int ((t.length : Nat) * y)) := fun y => mul_small (by omega)
  simp only [denFn, startP, outF, frOf, sSeq, sIf, sSet, sRet, sRetN, sExpr, sNil, sBrk, sCnt, sAug, sPar, sTgt, sApp, sExt, sStIx, sFor, eVar, eCst, eOp2, eOp1, eOpN, eChain, eAnd2, eOr2, eNot1, eIfE, tOfV, tTru, tAnd2, tOr2, tNot1, tYs, aNil, aCons, bNil, bCons, eTup, eLst, eDct0, eSl, eMthS, eCall, gN, gT, gSeq, iVal, iRange1, iRange2, iEnumr, itemsD, opOut, kdOf, deref, derefs, PSt.put, PSt.frzK, PSt.frz, Out.bind, Option.bind, Option.map, add_int, sub_int, addI, ix_tupE, ix_lstE, isTx, isntD2, isD2, isNone, guard', stIx, held, isKey, List.map_cons, List.map_nil, List.length_cons, List.length_nil, List.replicate_succ, List.replicate_zero, List.cons_append, List.nil_append, List.append_nil, List.getElem?_cons_zero, List.getElem?_cons_succ, List.set_cons_zero, List.set_cons_succ, Nat.reduceAdd, Nat.reduceSub, Nat.reduceEqDiff, if_true, if_false, ite_true, ite_false, reduceIte, at0, at1, at2, at3, eq_int, ne_int, ge_int, le_int, lt_int, gt_int, len_lst, len_tup, len_dct, intD, absD, List.length_map, Bool.not_true, Bool.not_false, Bool.false_eq_true, e7, signs_of_is, hmul, Int.zero_add]
  rfl
end K56
namespace K56
open PySem PySem.Spec L2 PM
theorem bnd_m1 {n : Int} (h0 : -100 ≤ n) (h : n ≤ 100000000) : bnd n = true := by
  have e : (2 : Int) ^ 62 = 4611686018427387904 := by decide
  exact @decide_eq_true _ (Classical.propDecidable _) (by rw [e]; omega)
/-! ### two neighbours exchanged -/
def swp (t : List Nat) (k : Nat) : List Nat := t.take k ++ [t.getD (k + 1) 0] ++ [t.getD k 0] ++ t.drop (k + 2)
def insK (ks : List (List Nat)) (k : List Nat) : List (List Nat) := if k ∈ ks then ks else ks ++ [k]
def keyP (k : List Nat) : D × D := (.str k, .bl true)
theorem put_ins (ks : List (List Nat)) (k : List Nat) : putD (ks.map keyP) (.str k) (.bl true) = (insK ks k).map keyP := by
  unfold putD insK
  have h : ((ks.map keyP).any fun q => keyEq q.1 (.str k)) = decide (k ∈ ks) := by
    rw [List.any_map]
    induction ks with
    | nil => rfl
    | cons a r ih =>
      rw [List.any_cons, ih]
      by_cases e : a = k
      · subst e; simp [keyP, keyEq]
      · have e2 : ¬ k = a := fun z => e z.symm
        simp [keyP, keyEq, e, e2]
  rw [h]
  by_cases c : k ∈ ks
  · rw [if_pos (decide_eq_true c), if_pos c, List.map_map]
    refine List.map_congr_left fun a _ => ?_
    show (if keyEq (keyP a).1 (.str k) = true then ((keyP a).1, D.bl true) else keyP a) = keyP a
    by_cases e : a = k
    · subst e; simp [keyP, keyEq]
    · simp [keyP, keyEq, e]
  · rw [if_neg (by simp [c]), if_neg c, List.map_append]; rfl
theorem insK_len (ks : List (List Nat)) (k : List Nat) : (insK ks k).length ≤ ks.length + 1 := by
  unfold insK
  split
  · omega
  · simp
theorem swp_ne {t : List Nat} {k : Nat} (h : k + 1 < t.length) : (swp t k = t) ↔ t.getD k 0 = t.getD (k + 1) 0 := by
  have e0 : t = t.take k ++ ([t.getD k 0] ++ [t.getD (k + 1) 0] ++ t.drop (k + 2)) := by
    conv => lhs; rw [← List.take_append_drop k t]
    congr 1
    rw [List.drop_eq_getElem_cons (by omega : k < t.length), List.drop_eq_getElem_cons (by omega : k + 1 < t.length)]
    rw [List.getD_eq_getElem?_getD, List.getD_eq_getElem?_getD, List.getElem?_eq_getElem (by omega : k < t.length), List.getElem?_eq_getElem h]
    rfl
  have e1 : swp t k = t.take k ++ ([t.getD (k + 1) 0] ++ [t.getD k 0] ++ t.drop (k + 2)) := by
    unfold swp
    simp only [List.append_assoc]
  constructor
  · intro q
    rw [e1] at q
    conv at q => rhs; rw [e0]
    have q2 := List.append_cancel_left q
    simp at q2
    rw [List.getD_eq_getElem?_getD, List.getD_eq_getElem?_getD]
    exact q2.2
  · intro q
    rw [e1, q]
    conv => rhs; rw [e0, q]
theorem swp_in {m : Int} {t : List Nat} {k : Nat} (h : ∀ c ∈ t, c ∈ sg m) (hk : k + 1 < t.length) : ∀ c ∈ swp t k, c ∈ sg m := fun c hc => by
  have g : ∀ j, j < t.length → t.getD j 0 ∈ t := fun j hj => by
    rw [List.getD_eq_getElem?_getD, List.getElem?_eq_getElem hj]
    exact List.getElem_mem hj
  unfold swp at hc
  simp only [List.mem_append, List.mem_singleton] at hc
  rcases hc with ((hc | hc) | hc) | hc
  · exact h c (List.mem_of_mem_take hc)
  · rw [hc]; exact h _ (g _ hk)
  · rw [hc]; exact h _ (g _ (by omega))
  · exact h c (List.mem_of_mem_drop hc)
theorem ix_t {t : List Nat} (hl : t.length ≤ 4000) {k : Nat} (hk : k < t.length) : ixD (.str t) (.int (k : Nat)) = some (false, .str [t.getD k 0]) := by
  refine ix_str (by omega) ?_
  rw [atN hk, List.getD_eq_getElem?_getD, List.getElem?_eq_getElem hk]; rfl
def okS (m : Int) (ws : List Int) (t : List Nat) (k : Nat) : Bool := (!decide (swp t k = t)) && gd m ws (swp t k)
theorem tr_loop {m : Int} {ws : List Int} {t : List Nat} (h : Code m ws) (ht : Txt m t) (S : List D) : ∀ (js : List Nat) (ks : List (List Nat)) (x y : Sl), (∀ j ∈ js, j + 1 < t.length) → ks.length + js.length ≤ 100000 → ∃ x' y',
    forLoop (gN 4) (sSeq (sSet 5 (eOp2 addD (eOp2 addD (eOp2 addD (eSl (eVar 2) none (some (eVar 4))) (eOp2 ixD (eVar 2) (eOp2 addD (eVar 4) (eCst (.int 1))))) (eOp2 ixD (eVar 2) (eVar 4))) (eSl (eVar 2) (some (eOp2 addD (eVar 4) (eCst (.int 2)))) none))) (sIf (tAnd2 (tOfV (eOp2 neD2 (eVar 5) (eVar 2))) (tOfV (eOp2 eqD2 (eCall g_sum_of (aCons (eVar 0) (aCons (eVar 1) (aCons (eVar 5) aNil)))) (eCst (.int 0))))) (sStIx 3 (eVar 5) (eCst (.bl true))) sNil))
      (js.map fun j => .int (0 + (j : Nat))) ⟨[.fz (.int m), .fz (.tup (ws.map D.int)), .fz (.str t), .ow (.dct (ks.map keyP)), x, y], S⟩ =
    .ok ⟨[.fz (.int m), .fz (.tup (ws.map D.int)), .fz (.str t), .ow (.dct ((((js.filter (okS m ws t)).map (swp t)).foldl insK ks).map keyP)), x', y'], S⟩ .nx
  | [], ks, x, y, _, _ => ⟨x, y, by simp [forLoop]⟩
  | j :: js, ks, x, y, hj, hz => by
    have hk := hj j List.mem_cons_self
    have hl := ht.l
    rw [List.length_cons] at hz
    have s1 : slD (.str t) none (some (j : Int)) = some (false, .str (t.take j)) := sl_strTo (by omega)
    have k2 : ((j : Nat) : Int) + 2 = ((j + 2 : Nat) : Int) := by omega
    have k1 : ((j : Nat) : Int) + 1 = ((j + 1 : Nat) : Int) := by omega
    have s2 : slD (.str t) (some ((j + 2 : Nat) : Int)) none = some (false, .str (t.drop (j + 2))) := sl_strFrom (by omega)
    have i1 := ix_t hl hk
    have i0 := ix_t hl (show j < t.length by omega)
    have a1 : addD (.str (t.take j)) (.str [t.getD (j + 1) 0]) = some (false, .str (t.take j ++ [t.getD (j + 1) 0])) := add_str (by simp only [List.length_take, List.length_singleton]; omega)
    have a2 : addD (.str (t.take j ++ [t.getD (j + 1) 0])) (.str [t.getD j 0]) = some (false, .str (t.take j ++ [t.getD (j + 1) 0] ++ [t.getD j 0])) := add_str (by simp only [List.length_append, List.length_take, List.length_singleton]; omega)
    have a3 : addD (.str (t.take j ++ [t.getD (j + 1) 0] ++ [t.getD j 0])) (.str (t.drop (j + 2))) = some (false, .str (swp t j)) := add_str (by simp only [List.length_append, List.length_take, List.length_drop, List.length_singleton]; omega)
    have hsw := swp_in ht.s hk
    have hne : neD2 (.str (swp t j)) (.str t) = some (false, .bl (!decide (swp t j = t))) := ne_str (okT_sg hsw) (okT_sg ht.s)
    have hsum := sum_of_is h hsw S
    rw [List.map_cons, Int.zero_add]
    by_cases q : okS m ws t j = true
    · obtain ⟨x', y', e⟩ := tr_loop h ht S js (insK ks (swp t j)) (.fz (.int (j : Nat))) (.fz (.str (swp t j))) (fun i hi => hj i (List.mem_cons_of_mem _ hi)) (by have := insK_len ks (swp t j); omega)
      refine ⟨x', y', ?_⟩
      rw [List.filter_cons_of_pos q, List.map_cons, List.foldl_cons, ← e]
      refine forLoop_cons (p1 := ⟨[.fz (.int m), .fz (.tup (ws.map D.int)), .fz (.str t), .ow (.dct (ks.map keyP)), .fz (.int (j : Nat)), y], S⟩) rfl ?_
      rw [sSeq_nx (p1 := ⟨[.fz (.int m), .fz (.tup (ws.map D.int)), .fz (.str t), .ow (.dct (ks.map keyP)), .fz (.int (j : Nat)), .fz (.str (swp t j))], S⟩) (by simp only [denFn, startP, outF, frOf, sSeq, sIf, sSet, sRet, sRetN, sExpr, sNil, sBrk, sCnt, sAug, sPar, sTgt, sApp, sExt, sStIx, sFor, eVar, eCst, eOp2, eOp1, eOpN, eChain, eAnd2, eOr2, eNot1, eIfE, tOfV, tTru, tAnd2, tOr2, tNot1, tYs, aNil, aCons, bNil, bCons, eTup, eLst, eDct0, eSl, eMthS, eCall, gN, gT, gSeq, iVal, iRange1, iRange2, iEnumr, itemsD, opOut, kdOf, deref, derefs, PSt.put, PSt.frzK, PSt.frz, Out.bind, Option.bind, Option.map, add_int, sub_int, addI, ix_tupE, ix_lstE, isTx, isntD2, isD2, isNone, guard', stIx, held, isKey, List.map_cons, List.map_nil, List.length_cons, List.length_nil, List.replicate_succ, List.replicate_zero, List.cons_append, List.nil_append, List.append_nil, List.getElem?_cons_zero, List.getElem?_cons_succ, List.set_cons_zero, List.set_cons_succ, Nat.reduceAdd, Nat.reduceSub, Nat.reduceEqDiff, if_true, if_false, ite_true, ite_false, reduceIte, at0, at1, at2, at3, eq_int, ne_int, ge_int, le_int, lt_int, gt_int, len_lst, len_tup, len_dct, intD, absD, List.length_map, Bool.not_true, Bool.not_false, Bool.false_eq_true, s1, k1, k2, s2, i1, i0, a1, a2, a3])]
      unfold okS at q
      rw [Bool.and_eq_true] at q
      have q1 := q.1
      have q2 : sumF ws 0 (swp t j) % m = 0 := of_decide_eq_true q.2
      have hsz : szB (ks.length + 1) = true := szB_of (by omega)
      simp only [denFn, startP, outF, frOf, sSeq, sIf, sSet, sRet, sRetN, sExpr, sNil, sBrk, sCnt, sAug, sPar, sTgt, sApp, sExt, sStIx, sFor, eVar, eCst, eOp2, eOp1, eOpN, eChain, eAnd2, eOr2, eNot1, eIfE, tOfV, tTru, tAnd2, tOr2, tNot1, tYs, aNil, aCons, bNil, bCons, eTup, eLst, eDct0, eSl, eMthS, eCall, gN, gT, gSeq, iVal, iRange1, iRange2, iEnumr, itemsD, opOut, kdOf, deref, derefs, PSt.put, PSt.frzK, PSt.frz, Out.bind, Option.bind, Option.map, add_int, sub_int, addI, ix_tupE, ix_lstE, isTx, isntD2, isD2, isNone, guard', stIx, held, isKey, List.map_cons, List.map_nil, List.length_cons, List.length_nil, List.replicate_succ, List.replicate_zero, List.cons_append, List.nil_append, List.append_nil, List.getElem?_cons_zero, List.getElem?_cons_succ, List.set_cons_zero, List.set_cons_succ, Nat.reduceAdd, Nat.reduceSub, Nat.reduceEqDiff, if_true, if_false, ite_true, ite_false, reduceIte, at0, at1, at2, at3, eq_int, ne_int, ge_int, le_int, lt_int, gt_int, len_lst, len_tup, len_dct, intD, absD, List.length_map, Bool.not_true, Bool.not_false, Bool.false_eq_true, hne, q1, hsum, q2, decide_true, put_ins, hsz, Bool.and_self]
    · obtain ⟨x', y', e⟩ := tr_loop h ht S js ks (.fz (.int (j : Nat))) (.fz (.str (swp t j))) (fun i hi => hj i (List.mem_cons_of_mem _ hi)) (by omega)
      refine ⟨x', y', ?_⟩
      rw [List.filter_cons_of_neg q, ← e]
      refine forLoop_cons (p1 := ⟨[.fz (.int m), .fz (.tup (ws.map D.int)), .fz (.str t), .ow (.dct (ks.map keyP)), .fz (.int (j : Nat)), y], S⟩) rfl ?_
      rw [sSeq_nx (p1 := ⟨[.fz (.int m), .fz (.tup (ws.map D.int)), .fz (.str t), .ow (.dct (ks.map keyP)), .fz (.int (j : Nat)), .fz (.str (swp t j))], S⟩) (by simp only [denFn, startP, outF, frOf, sSeq, sIf, sSet, sRet, sRetN, sExpr, sNil, sBrk, sCnt, sAug, sPar, sTgt, sApp, sExt, sStIx, sFor, eVar, eCst, eOp2, eOp1, eOpN, eChain, eAnd2, eOr2, eNot1, eIfE, tOfV, tTru, tAnd2, tOr2, tNot1, tYs, aNil, aCons, bNil, bCons, eTup, eLst, eDct0, eSl, eMthS, eCall, gN, gT, gSeq, iVal, iRange1, iRange2, iEnumr, itemsD, opOut, kdOf, deref, derefs, PSt.put, PSt.frzK, PSt.frz, Out.bind, Option.bind, Option.map, add_int, sub_int, addI, ix_tupE, ix_lstE, isTx, isntD2, isD2, isNone, guard', stIx, held, isKey, List.map_cons, List.map_nil, List.length_cons, List.length_nil, List.replicate_succ, List.replicate_zero, List.cons_append, List.nil_append, List.append_nil, List.getElem?_cons_zero, List.getElem?_cons_succ, List.set_cons_zero, List.set_cons_succ, Nat.reduceAdd, Nat.reduceSub, Nat.reduceEqDiff, if_true, if_false, ite_true, ite_false, reduceIte, at0, at1, at2, at3, eq_int, ne_int, ge_int, le_int, lt_int, gt_int, len_lst, len_tup, len_dct, intD, absD, List.length_map, Bool.not_true, Bool.not_false, Bool.false_eq_true, s1, k1, k2, s2, i1, i0, a1, a2, a3])]
      unfold okS at q
      by_cases q1 : (!decide (swp t j = t)) = true
      · have q2 : ¬ sumF ws 0 (swp t j) % m = 0 := fun z => q (by rw [q1]; exact decide_eq_true z)
        simp only [denFn, startP, outF, frOf, sSeq, sIf, sSet, sRet, sRetN, sExpr, sNil, sBrk, sCnt, sAug, sPar, sTgt, sApp, sExt, sStIx, sFor, eVar, eCst, eOp2, eOp1, eOpN, eChain, eAnd2, eOr2, eNot1, eIfE, tOfV, tTru, tAnd2, tOr2, tNot1, tYs, aNil, aCons, bNil, bCons, eTup, eLst, eDct0, eSl, eMthS, eCall, gN, gT, gSeq, iVal, iRange1, iRange2, iEnumr, itemsD, opOut, kdOf, deref, derefs, PSt.put, PSt.frzK, PSt.frz, Out.bind, Option.bind, Option.map, add_int, sub_int, addI, ix_tupE, ix_lstE, isTx, isntD2, isD2, isNone, guard', stIx, held, isKey, List.map_cons, List.map_nil, List.length_cons, List.length_nil, List.replicate_succ, List.replicate_zero, List.cons_append, List.nil_append, List.append_nil, List.getElem?_cons_zero, List.getElem?_cons_succ, List.set_cons_zero, List.set_cons_succ, Nat.reduceAdd, Nat.reduceSub, Nat.reduceEqDiff, if_true, if_false, ite_true, ite_false, reduceIte, at0, at1, at2, at3, eq_int, ne_int, ge_int, le_int, lt_int, gt_int, len_lst, len_tup, len_dct, intD, absD, List.length_map, Bool.not_true, Bool.not_false, Bool.false_eq_true, hne, q1, hsum, q2, decide_false]
      · have q1 : (!decide (swp t j = t)) = false := by simpa using q1
        simp only [denFn, startP, outF, frOf, sSeq, sIf, sSet, sRet, sRetN, sExpr, sNil, sBrk, sCnt, sAug, sPar, sTgt, sApp, sExt, sStIx, sFor, eVar, eCst, eOp2, eOp1, eOpN, eChain, eAnd2, eOr2, eNot1, eIfE, tOfV, tTru, tAnd2, tOr2, tNot1, tYs, aNil, aCons, bNil, bCons, eTup, eLst, eDct0, eSl, eMthS, eCall, gN, gT, gSeq, iVal, iRange1, iRange2, iEnumr, itemsD, opOut, kdOf, deref, derefs, PSt.put, PSt.frzK, PSt.frz, Out.bind, Option.bind, Option.map, add_int, sub_int, addI, ix_tupE, ix_lstE, isTx, isntD2, isD2, isNone, guard', stIx, held, isKey, List.map_cons, List.map_nil, List.length_cons, List.length_nil, List.replicate_succ, List.replicate_zero, List.cons_append, List.nil_append, List.append_nil, List.getElem?_cons_zero, List.getElem?_cons_succ, List.set_cons_zero, List.set_cons_succ, Nat.reduceAdd, Nat.reduceSub, Nat.reduceEqDiff, if_true, if_false, ite_true, ite_false, reduceIte, at0, at1, at2, at3, eq_int, ne_int, ge_int, le_int, lt_int, gt_int, len_lst, len_tup, len_dct, intD, absD, List.length_map, Bool.not_true, Bool.not_false, Bool.false_eq_true, hne, q1]
theorem insL_len : ∀ (l ks : List (List Nat)), (l.foldl insK ks).length ≤ ks.length + l.length
  | [], ks => by simp
  | a :: r, ks => by
    rw [List.foldl_cons, List.length_cons]
    have h1 := insL_len r (insK ks a)
    have h2 := insK_len ks a
    omega
theorem rng_m1 (n : Nat) : rngD 0 ((n : Nat) - 1 : Int) = (List.range (n - 1)).map fun k => .int (0 + (k : Nat)) := by
  unfold rngD
  have : ((n : Int) - 1 - 0).toNat = n - 1 := by omega
  rw [this]
theorem keys_txts (ks : List (List Nat)) : txtsD ((ks.map keyP).map (·.1)) = some ks := by
  rw [List.map_map]
  exact txtsD_map ks
def trK (m : Int) (ws : List Int) (t : List Nat) : List (List Nat) := (((List.range (t.length - 1)).filter (okS m ws t)).map (swp t)).foldl insK []
theorem turn_repairs_is {m : Int} {ws : List Int} {t : List Nat} (h : Code m ws) (ht : Txt m t) (hl : t.length ≤ 60) (S : List D) : g_turn_repairs [.int m, .tup (ws.map D.int), .str t] S =
    .ok S false (.tup ((srtT (trK m ws t)).map D.str)) := by
  have hm : 0 ≤ m := by have := h.m1; omega
  unfold g_turn_repairs b_turn_repairs
  refine denFn_run rfl ?_
  have e3 : startP 6 [.int m, .tup (ws.map D.int), .str t] S = ⟨[.fz (.int m), .fz (.tup (ws.map D.int)), .fz (.str t), .un, .un, .un], S⟩ := rfl
  rw [e3, sSeq_nx (p1 := ⟨[.fz (.int m), .fz (.tup (ws.map D.int)), .fz (.str t), .un, .un, .un], S⟩) (by simp only [denFn, startP, outF, frOf, sSeq, sIf, sSet, sRet, sRetN, sExpr, sNil, sBrk, sCnt, sAug, sPar, sTgt, sApp, sExt, sStIx, sFor, eVar, eCst, eOp2, eOp1, eOpN, eChain, eAnd2, eOr2, eNot1, eIfE, tOfV, tTru, tAnd2, tOr2, tNot1, tYs, aNil, aCons, bNil, bCons, eTup, eLst, eDct0, eSl, eMthS, eCall, gN, gT, gSeq, iVal, iRange1, iRange2, iEnumr, itemsD, opOut, kdOf, deref, derefs, PSt.put, PSt.frzK, PSt.frz, Out.bind, Option.bind, Option.map, add_int, sub_int, addI, ix_tupE, ix_lstE, isTx, isntD2, isD2, isNone, guard', stIx, held, isKey, List.map_cons, List.map_nil, List.length_cons, List.length_nil, List.replicate_succ, List.replicate_zero, List.cons_append, List.nil_append, List.append_nil, List.getElem?_cons_zero, List.getElem?_cons_succ, List.set_cons_zero, List.set_cons_succ, Nat.reduceAdd, Nat.reduceSub, Nat.reduceEqDiff, if_true, if_false, ite_true, ite_false, reduceIte, at0, at1, at2, at3, eq_int, ne_int, ge_int, le_int, lt_int, gt_int, len_lst, len_tup, len_dct, intD, absD, List.length_map, Bool.not_true, Bool.not_false, Bool.false_eq_true, check_code_is h])]
  rw [sSeq_nx (p1 := ⟨[.fz (.int m), .fz (.tup (ws.map D.int)), .fz (.str t), .un, .un, .un], S⟩) (by simp only [denFn, startP, outF, frOf, sSeq, sIf, sSet, sRet, sRetN, sExpr, sNil, sBrk, sCnt, sAug, sPar, sTgt, sApp, sExt, sStIx, sFor, eVar, eCst, eOp2, eOp1, eOpN, eChain, eAnd2, eOr2, eNot1, eIfE, tOfV, tTru, tAnd2, tOr2, tNot1, tYs, aNil, aCons, bNil, bCons, eTup, eLst, eDct0, eSl, eMthS, eCall, gN, gT, gSeq, iVal, iRange1, iRange2, iEnumr, itemsD, opOut, kdOf, deref, derefs, PSt.put, PSt.frzK, PSt.frz, Out.bind, Option.bind, Option.map, add_int, sub_int, addI, ix_tupE, ix_lstE, isTx, isntD2, isD2, isNone, guard', stIx, held, isKey, List.map_cons, List.map_nil, List.length_cons, List.length_nil, List.replicate_succ, List.replicate_zero, List.cons_append, List.nil_append, List.append_nil, List.getElem?_cons_zero, List.getElem?_cons_succ, List.set_cons_zero, List.set_cons_succ, Nat.reduceAdd, Nat.reduceSub, Nat.reduceEqDiff, if_true, if_false, ite_true, ite_false, reduceIte, at0, at1, at2, at3, eq_int, ne_int, ge_int, le_int, lt_int, gt_int, len_lst, len_tup, len_dct, intD, absD, List.length_map, Bool.not_true, Bool.not_false, Bool.false_eq_true, check_text_is hm ht])]
  rw [sSeq_nx (p1 := ⟨[.fz (.int m), .fz (.tup (ws.map D.int)), .fz (.str t), .ow (.dct (([] : List (List Nat)).map keyP)), .un, .un], S⟩) rfl]
  obtain ⟨x, y, e⟩ := tr_loop h ht S (List.range (t.length - 1)) [] .un .un (fun j hj => by have := List.mem_range.mp hj; omega) (by rw [List.length_range]; simp; omega)
  have e7 : lenD [.str t] = some (false, .int t.length) := len_str (by omega)
  have hb : bnd ((t.length : Nat) - 1 : Int) = true := bnd_m1 (by omega) (by omega)
  have e4 : iRange1 (bCons (eOp2 subD (eOpN lenD (bCons (eVar 2) bNil)) (eCst (.int 1))) bNil) ⟨[.fz (.int m), .fz (.tup (ws.map D.int)), .fz (.str t), .ow (.dct (([] : List (List Nat)).map keyP)), .un, .un], S⟩ =
      .ok ⟨[.fz (.int m), .fz (.tup (ws.map D.int)), .fz (.str t), .ow (.dct (([] : List (List Nat)).map keyP)), .un, .un], S⟩ ((List.range (t.length - 1)).map fun k => .int (0 + (k : Nat))) := by
    rw [← rng_m1]
    simp only [denFn, startP, outF, frOf, sSeq, sIf, sSet, sRet, sRetN, sExpr, sNil, sBrk, sCnt, sAug, sPar, sTgt, sApp, sExt, sStIx, sFor, eVar, eCst, eOp2, eOp1, eOpN, eChain, eAnd2, eOr2, eNot1, eIfE, tOfV, tTru, tAnd2, tOr2, tNot1, tYs, aNil, aCons, bNil, bCons, eTup, eLst, eDct0, eSl, eMthS, eCall, gN, gT, gSeq, iVal, iRange1, iRange2, iEnumr, itemsD, opOut, kdOf, deref, derefs, PSt.put, PSt.frzK, PSt.frz, Out.bind, Option.bind, Option.map, add_int, sub_int, addI, ix_tupE, ix_lstE, isTx, isntD2, isD2, isNone, guard', stIx, held, isKey, List.map_cons, List.map_nil, List.length_cons, List.length_nil, List.replicate_succ, List.replicate_zero, List.cons_append, List.nil_append, List.append_nil, List.getElem?_cons_zero, List.getElem?_cons_succ, List.set_cons_zero, List.set_cons_succ, Nat.reduceAdd, Nat.reduceSub, Nat.reduceEqDiff, if_true, if_false, ite_true, ite_false, reduceIte, at0, at1, at2, at3, eq_int, ne_int, ge_int, le_int, lt_int, gt_int, len_lst, len_tup, len_dct, intD, absD, List.length_map, Bool.not_true, Bool.not_false, Bool.false_eq_true, e7, hb]
  rw [sSeq_for e4 e]
  have hlen : (trK m ws t).length < 64 := by
    have h1 := insL_len (((List.range (t.length - 1)).filter (okS m ws t)).map (swp t)) []
    have h2 := List.length_filter_le (okS m ws t) (List.range (t.length - 1))
    rw [List.length_map] at h1
    rw [List.length_range] at h2
    unfold trK
    simp only [List.length_nil] at h1
    omega
  have hs : srtD [.dct ((trK m ws t).map keyP)] = some (true, .lst ((srtT (trK m ws t)).map D.str)) := by
    show (txtsD (((trK m ws t).map keyP).map (·.1))).bind (fun ks => if ks.length < 64 then some (true, D.lst ((srtT ks).map D.str)) else none) = _
    rw [keys_txts]
    show (if (trK m ws t).length < 64 then some (true, D.lst ((srtT (trK m ws t)).map D.str)) else none) = _
    rw [if_pos hlen]
  have e5 : (((List.range (t.length - 1)).filter (okS m ws t)).map (swp t)).foldl insK [] = trK m ws t := rfl
  rw [e5]
  simp only [denFn, startP, outF, frOf, sSeq, sIf, sSet, sRet, sRetN, sExpr, sNil, sBrk, sCnt, sAug, sPar, sTgt, sApp, sExt, sStIx, sFor, eVar, eCst, eOp2, eOp1, eOpN, eChain, eAnd2, eOr2, eNot1, eIfE, tOfV, tTru, tAnd2, tOr2, tNot1, tYs, aNil, aCons, bNil, bCons, eTup, eLst, eDct0, eSl, eMthS, eCall, gN, gT, gSeq, iVal, iRange1, iRange2, iEnumr, itemsD, opOut, kdOf, deref, derefs, PSt.put, PSt.frzK, PSt.frz, Out.bind, Option.bind, Option.map, add_int, sub_int, addI, ix_tupE, ix_lstE, isTx, isntD2, isD2, isNone, guard', stIx, held, isKey, List.map_cons, List.map_nil, List.length_cons, List.length_nil, List.replicate_succ, List.replicate_zero, List.cons_append, List.nil_append, List.append_nil, List.getElem?_cons_zero, List.getElem?_cons_succ, List.set_cons_zero, List.set_cons_succ, Nat.reduceAdd, Nat.reduceSub, Nat.reduceEqDiff, if_true, if_false, ite_true, ite_false, reduceIte, at0, at1, at2, at3, eq_int, ne_int, ge_int, le_int, lt_int, gt_int, len_lst, len_tup, len_dct, intD, absD, List.length_map, Bool.not_true, Bool.not_false, Bool.false_eq_true, hs, tupD_lst]
end K56
namespace K56
open PySem PySem.Spec L2 PM
/-! ### the law's own functions -/
theorem lsigns_is {m : Int} (hm : 0 ≤ m) (S : List D) : g__law_signs [.int m] S = .ok S false (.str (sg m)) := by
  unfold g__law_signs b__law_signs
  refine denFn_run rfl ?_
  have e := slS hm
  unfold c_SIGNS at e
  simp only [denFn, startP, outF, frOf, sSeq, sIf, sSet, sRet, sRetN, sExpr, sNil, sBrk, sCnt, sAug, sPar, sTgt, sApp, sExt, sStIx, sFor, eVar, eCst, eOp2, eOp1, eOpN, eChain, eAnd2, eOr2, eNot1, eIfE, tOfV, tTru, tAnd2, tOr2, tNot1, tYs, aNil, aCons, bNil, bCons, eTup, eLst, eDct0, eSl, eMthS, eCall, gN, gT, gSeq, iVal, iRange1, iRange2, iEnumr, itemsD, opOut, kdOf, deref, derefs, PSt.put, PSt.frzK, PSt.frz, Out.bind, Option.bind, Option.map, add_int, sub_int, addI, ix_tupE, ix_lstE, isTx, isntD2, isD2, isNone, guard', stIx, held, isKey, List.map_cons, List.map_nil, List.length_cons, List.length_nil, List.replicate_succ, List.replicate_zero, List.cons_append, List.nil_append, List.append_nil, List.getElem?_cons_zero, List.getElem?_cons_succ, List.set_cons_zero, List.set_cons_succ, Nat.reduceAdd, Nat.reduceSub, Nat.reduceEqDiff, if_true, if_false, ite_true, ite_false, reduceIte, at0, at1, at2, at3, eq_int, ne_int, ge_int, le_int, lt_int, gt_int, len_lst, len_tup, len_dct, intD, absD, List.length_map, Bool.not_true, Bool.not_false, Bool.false_eq_true, e]
theorem idx_take {m : Int} {c : Nat} (h : c ∈ sg m) : (sg m).findIdx (· == c) = c_SIGNS.findIdx (· == c) := by
  have e : c_SIGNS = sg m ++ c_SIGNS.drop m.toNat := (List.take_append_drop _ _).symm
  conv => rhs; rw [e, List.findIdx_append]
  rw [if_pos (List.findIdx_lt_length_of_exists ⟨c, h, by simp⟩)]
theorem index_sg {m : Int} {c : Nat} (h : c ∈ sg m) : indexD (.str (sg m)) [.str [c]] = some (false, .int (idx c)) := by
  unfold indexD
  simp only [idxT_one h]
  unfold idx
  rw [idx_take h]; rfl
theorem sumD_int (xs : List Int) : sumD [.lst (xs.map D.int)] = some (false, .int xs.sum) := by
  unfold sumD lisD
  simp only [Option.bind, intsD_map]
  rfl
theorem sumF_sum (ws : List Int) : ∀ (t : List Nat) (k : Nat), sumF ws k t = ((List.range t.length).map fun j => idx (t.getD j 0) * wAt ws (k + j)).sum
  | [], k => rfl
  | c :: r, k => by
    rw [sumF, List.length_cons, List.range_succ_eq_map, List.map_cons, List.sum_cons, List.map_map, sumF_sum ws r (k + 1)]
    congr 2
    refine List.map_congr_left fun j _ => ?_
    show _ = idx ((c :: r).getD (j + 1) 0) * wAt ws (k + (j + 1))
    have : k + 1 + j = k + (j + 1) := by omega
    rw [this]; rfl
theorem getD_in {t : List Nat} {k : Nat} (h : k < t.length) : t.getD k 0 ∈ t := by
  rw [List.getD_eq_getElem?_getD, List.getElem?_eq_getElem h]
  exact List.getElem_mem h
theorem lsum_is {m : Int} {ws : List Int} {t : List Nat} (h : Code m ws) (ht : Txt m t) (S : List D) : g__law_sum [.int m, .tup (ws.map D.int), .str t] S = .ok S false (.int (su m ws t)) := by
  have hm : 0 ≤ m := by have := h.m1; omega
  have hl := ht.l
  have hmod : ∀ x, modD (.int x) (.int m) = some (false, .int (x % m)) := fun x => mod_pos (by have := h.m1; omega)
  have hmod2 : ∀ x, modD (.int x) (.int (ws.length : Nat)) = some (false, .int (x % (ws.length : Nat))) := fun x => mod_pos (by have := h.w1; omega)
  have e7 : lenD [.str t] = some (false, .int t.length) := len_str (by omega)
  have hb : bnd ((t.length : Nat) : Int) = true := bnd_of (by omega) (by omega)
  have hlc : (eLc (iRange1 (bCons (eOpN lenD (bCons (eVar 2) bNil)) bNil)) [4] (gN 4) tYs (eOp2 mulD (eMthS indexD (eVar 3) (bCons (eOp2 ixD (eVar 2) (eVar 4)) bNil)) (eOp2 ixD (eVar 1) (eOp2 modD (eVar 4) (eOpN lenD (bCons (eVar 1) bNil)))))) ⟨[.fz (.int m), .fz (.tup (ws.map D.int)), .fz (.str t), .fz (.str (sg m)), .un], S⟩ =
      .ok ⟨[.fz (.int m), .fz (.tup (ws.map D.int)), .fz (.str t), .fz (.str (sg m)), .un], S⟩ (.fr, .lst (((List.range t.length).map fun j => idx (t.getD j 0) * wAt ws (0 + j)).map D.int)) := by
    refine (eLc_map (p1 := ⟨[.fz (.int m), .fz (.tup (ws.map D.int)), .fz (.str t), .fz (.str (sg m)), .un], S⟩) (List.range t.length) (fun j => .int (0 + (j : Nat))) (fun j => .int (idx (t.getD j 0) * wAt ws (0 + j))) ?_ ?_ ?_).trans ?_
    · rw [← rng_nat]
      simp only [denFn, startP, outF, frOf, sSeq, sIf, sSet, sRet, sRetN, sExpr, sNil, sBrk, sCnt, sAug, sPar, sTgt, sApp, sExt, sStIx, sFor, eVar, eCst, eOp2, eOp1, eOpN, eChain, eAnd2, eOr2, eNot1, eIfE, tOfV, tTru, tAnd2, tOr2, tNot1, tYs, aNil, aCons, bNil, bCons, eTup, eLst, eDct0, eSl, eMthS, eCall, gN, gT, gSeq, iVal, iRange1, iRange2, iEnumr, itemsD, opOut, kdOf, deref, derefs, PSt.put, PSt.frzK, PSt.frz, Out.bind, Option.bind, Option.map, add_int, sub_int, addI, ix_tupE, ix_lstE, isTx, isntD2, isD2, isNone, guard', stIx, held, isKey, List.map_cons, List.map_nil, List.length_cons, List.length_nil, List.replicate_succ, List.replicate_zero, List.cons_append, List.nil_append, List.append_nil, List.getElem?_cons_zero, List.getElem?_cons_succ, List.set_cons_zero, List.set_cons_succ, Nat.reduceAdd, Nat.reduceSub, Nat.reduceEqDiff, if_true, if_false, ite_true, ite_false, reduceIte, at0, at1, at2, at3, eq_int, ne_int, ge_int, le_int, lt_int, gt_int, len_lst, len_tup, len_dct, intD, absD, List.length_map, Bool.not_true, Bool.not_false, Bool.false_eq_true, e7, hb]
    · intro j hj
      have hj := List.mem_range.mp hj
      have i1 := ix_t hl hj
      have a2 := wAt_is h.w1 j
      have hx := index_sg (ht.s _ (getD_in hj))
      have hmul : mulD (.int (idx (t.getD j 0))) (.int (wAt ws j)) = some (false, .int (idx (t.getD j 0) * wAt ws j)) := mul_small (idx_small _)
      refine ⟨⟨[.fz (.int m), .fz (.tup (ws.map D.int)), .fz (.str t), .fz (.str (sg m)), .fz (.int (j : Nat))], S⟩, ⟨[.fz (.int m), .fz (.tup (ws.map D.int)), .fz (.str t), .fz (.str (sg m)), .fz (.int (j : Nat))], S⟩, .fz, by rw [Int.zero_add]; rfl, ?_, rfl⟩
      simp only [denFn, startP, outF, frOf, sSeq, sIf, sSet, sRet, sRetN, sExpr, sNil, sBrk, sCnt, sAug, sPar, sTgt, sApp, sExt, sStIx, sFor, eVar, eCst, eOp2, eOp1, eOpN, eChain, eAnd2, eOr2, eNot1, eIfE, tOfV, tTru, tAnd2, tOr2, tNot1, tYs, aNil, aCons, bNil, bCons, eTup, eLst, eDct0, eSl, eMthS, eCall, gN, gT, gSeq, iVal, iRange1, iRange2, iEnumr, itemsD, opOut, kdOf, deref, derefs, PSt.put, PSt.frzK, PSt.frz, Out.bind, Option.bind, Option.map, add_int, sub_int, addI, ix_tupE, ix_lstE, isTx, isntD2, isD2, isNone, guard', stIx, held, isKey, List.map_cons, List.map_nil, List.length_cons, List.length_nil, List.replicate_succ, List.replicate_zero, List.cons_append, List.nil_append, List.append_nil, List.getElem?_cons_zero, List.getElem?_cons_succ, List.set_cons_zero, List.set_cons_succ, Nat.reduceAdd, Nat.reduceSub, Nat.reduceEqDiff, if_true, if_false, ite_true, ite_false, reduceIte, at0, at1, at2, at3, eq_int, ne_int, ge_int, le_int, lt_int, gt_int, len_lst, len_tup, len_dct, intD, absD, List.length_map, Bool.not_true, Bool.not_false, Bool.false_eq_true, i1, a2, hx, hmod2, hmul, Nat.zero_add]
    · rw [List.length_range]; omega
    · rw [List.map_map]; rfl
  unfold g__law_sum b__law_sum
  refine denFn_run rfl ?_
  simp only [denFn, startP, outF, frOf, sSeq, sIf, sSet, sRet, sRetN, sExpr, sNil, sBrk, sCnt, sAug, sPar, sTgt, sApp, sExt, sStIx, sFor, eVar, eCst, eOp2, eOp1, eOpN, eChain, eAnd2, eOr2, eNot1, eIfE, tOfV, tTru, tAnd2, tOr2, tNot1, tYs, aNil, aCons, bNil, bCons, eTup, eLst, eDct0, eSl, eMthS, eCall, gN, gT, gSeq, iVal, iRange1, iRange2, iEnumr, itemsD, opOut, kdOf, deref, derefs, PSt.put, PSt.frzK, PSt.frz, Out.bind, Option.bind, Option.map, add_int, sub_int, addI, ix_tupE, ix_lstE, isTx, isntD2, isD2, isNone, guard', stIx, held, isKey, List.map_cons, List.map_nil, List.length_cons, List.length_nil, List.replicate_succ, List.replicate_zero, List.cons_append, List.nil_append, List.append_nil, List.getElem?_cons_zero, List.getElem?_cons_succ, List.set_cons_zero, List.set_cons_succ, Nat.reduceAdd, Nat.reduceSub, Nat.reduceEqDiff, if_true, if_false, ite_true, ite_false, reduceIte, at0, at1, at2, at3, eq_int, ne_int, ge_int, le_int, lt_int, gt_int, len_lst, len_tup, len_dct, intD, absD, List.length_map, Bool.not_true, Bool.not_false, Bool.false_eq_true, lsigns_is hm, hlc, sumD_int, hmod]
  unfold su
  rw [sumF_sum]
theorem lguarded_is {m : Int} {ws : List Int} (h : Code m ws) (ts : List (List Nat)) (ht : ∀ t ∈ ts, Txt m t) (hz : ts.length ≤ 1000000) (S : List D) : g__law_guarded [.int m, .tup (ws.map D.int), .lst (ts.map D.str)] S = .ok S true (.lst ((ts.filter (gd m ws)).map D.str)) := by
  have hlc : (eLc (iVal (eVar 2)) [3] (gN 3) (tOfV (eOp2 eqD2 (eCall g__law_sum (aCons (eVar 0) (aCons (eVar 1) (aCons (eVar 3) aNil)))) (eCst (.int 0)))) (eVar 3)) ⟨[.fz (.int m), .fz (.tup (ws.map D.int)), .fz (.lst (ts.map D.str)), .un], S⟩ =
      .ok ⟨[.fz (.int m), .fz (.tup (ws.map D.int)), .fz (.lst (ts.map D.str)), .un], S⟩ (.fr, .lst ((ts.filter (gd m ws)).map D.str)) := by
    refine (eLc_filter (p1 := ⟨[.fz (.int m), .fz (.tup (ws.map D.int)), .fz (.lst (ts.map D.str)), .un], S⟩) ts D.str D.str (gd m ws) rfl ?_ (by omega)).trans rfl
    intro t hm
    refine ⟨⟨[.fz (.int m), .fz (.tup (ws.map D.int)), .fz (.lst (ts.map D.str)), .fz (.str t)], S⟩, ⟨[.fz (.int m), .fz (.tup (ws.map D.int)), .fz (.lst (ts.map D.str)), .fz (.str t)], S⟩, rfl, ?_, fun _ => rfl, fun _ => ⟨_, .fz, rfl, rfl⟩⟩
    simp only [denFn, startP, outF, frOf, sSeq, sIf, sSet, sRet, sRetN, sExpr, sNil, sBrk, sCnt, sAug, sPar, sTgt, sApp, sExt, sStIx, sFor, eVar, eCst, eOp2, eOp1, eOpN, eChain, eAnd2, eOr2, eNot1, eIfE, tOfV, tTru, tAnd2, tOr2, tNot1, tYs, aNil, aCons, bNil, bCons, eTup, eLst, eDct0, eSl, eMthS, eCall, gN, gT, gSeq, iVal, iRange1, iRange2, iEnumr, itemsD, opOut, kdOf, deref, derefs, PSt.put, PSt.frzK, PSt.frz, Out.bind, Option.bind, Option.map, add_int, sub_int, addI, ix_tupE, ix_lstE, isTx, isntD2, isD2, isNone, guard', stIx, held, isKey, List.map_cons, List.map_nil, List.length_cons, List.length_nil, List.replicate_succ, List.replicate_zero, List.cons_append, List.nil_append, List.append_nil, List.getElem?_cons_zero, List.getElem?_cons_succ, List.set_cons_zero, List.set_cons_succ, Nat.reduceAdd, Nat.reduceSub, Nat.reduceEqDiff, if_true, if_false, ite_true, ite_false, reduceIte, at0, at1, at2, at3, eq_int, ne_int, ge_int, le_int, lt_int, gt_int, len_lst, len_tup, len_dct, intD, absD, List.length_map, Bool.not_true, Bool.not_false, Bool.false_eq_true, lsum_is h (ht t hm), gd]
    try rfl
  unfold g__law_guarded b__law_guarded
  refine denFn_run rfl ?_
  simp only [denFn, startP, outF, frOf, sSeq, sIf, sSet, sRet, sRetN, sExpr, sNil, sBrk, sCnt, sAug, sPar, sTgt, sApp, sExt, sStIx, sFor, eVar, eCst, eOp2, eOp1, eOpN, eChain, eAnd2, eOr2, eNot1, eIfE, tOfV, tTru, tAnd2, tOr2, tNot1, tYs, aNil, aCons, bNil, bCons, eTup, eLst, eDct0, eSl, eMthS, eCall, gN, gT, gSeq, iVal, iRange1, iRange2, iEnumr, itemsD, opOut, kdOf, deref, derefs, PSt.put, PSt.frzK, PSt.frz, Out.bind, Option.bind, Option.map, add_int, sub_int, addI, ix_tupE, ix_lstE, isTx, isntD2, isD2, isNone, guard', stIx, held, isKey, List.map_cons, List.map_nil, List.length_cons, List.length_nil, List.replicate_succ, List.replicate_zero, List.cons_append, List.nil_append, List.append_nil, List.getElem?_cons_zero, List.getElem?_cons_succ, List.set_cons_zero, List.set_cons_succ, Nat.reduceAdd, Nat.reduceSub, Nat.reduceEqDiff, if_true, if_false, ite_true, ite_false, reduceIte, at0, at1, at2, at3, eq_int, ne_int, ge_int, le_int, lt_int, gt_int, len_lst, len_tup, len_dct, intD, absD, List.length_map, Bool.not_true, Bool.not_false, Bool.false_eq_true, hlc]
def chg (m : Int) (t : List Nat) (k : Nat) : List (List Nat) := ((sg m).filter fun c => !decide ([c] = [t.getD k 0])).map (put1 t k)
theorem lchanged_is {m : Int} {t : List Nat} {k : Nat} (hm : 0 ≤ m) (ht : Txt m t) (hk : k < t.length) (S : List D) : g__law_changed [.int m, .str t, .int (k : Nat)] S = .ok S true (.lst ((chg m t k).map D.str)) := by
  have hl := ht.l
  have hsg := @sg_len m
  have k1 : ((k : Nat) : Int) + 1 = ((k + 1 : Nat) : Int) := by omega
  have s1 : slD (.str t) none (some (k : Int)) = some (false, .str (t.take k)) := sl_strTo (by omega)
  have s2 : slD (.str t) (some ((k + 1 : Nat) : Int)) none = some (false, .str (t.drop (k + 1))) := sl_strFrom (by omega)
  have hlc : (eLc (iVal (eCall g__law_signs (aCons (eVar 0) aNil))) [3] (gN 3) (tOfV (eOp2 neD2 (eVar 3) (eOp2 ixD (eVar 1) (eVar 2)))) (eOp2 addD (eOp2 addD (eSl (eVar 1) none (some (eVar 2))) (eVar 3)) (eSl (eVar 1) (some (eOp2 addD (eVar 2) (eCst (.int 1)))) none))) ⟨[.fz (.int m), .fz (.str t), .fz (.int (k : Nat)), .un], S⟩ =
      .ok ⟨[.fz (.int m), .fz (.str t), .fz (.int (k : Nat)), .un], S⟩ (.fr, .lst ((chg m t k).map D.str)) := by
    refine (eLc_filter (p1 := ⟨[.fz (.int m), .fz (.str t), .fz (.int (k : Nat)), .un], S⟩) (sg m) (fun c => .str [c]) (fun c => .str (put1 t k c)) (fun c => !decide ([c] = [t.getD k 0])) ?_ ?_ (by omega)).trans ?_
    · simp only [denFn, startP, outF, frOf, sSeq, sIf, sSet, sRet, sRetN, sExpr, sNil, sBrk, sCnt, sAug, sPar, sTgt, sApp, sExt, sStIx, sFor, eVar, eCst, eOp2, eOp1, eOpN, eChain, eAnd2, eOr2, eNot1, eIfE, tOfV, tTru, tAnd2, tOr2, tNot1, tYs, aNil, aCons, bNil, bCons, eTup, eLst, eDct0, eSl, eMthS, eCall, gN, gT, gSeq, iVal, iRange1, iRange2, iEnumr, itemsD, opOut, kdOf, deref, derefs, PSt.put, PSt.frzK, PSt.frz, Out.bind, Option.bind, Option.map, add_int, sub_int, addI, ix_tupE, ix_lstE, isTx, isntD2, isD2, isNone, guard', stIx, held, isKey, List.map_cons, List.map_nil, List.length_cons, List.length_nil, List.replicate_succ, List.replicate_zero, List.cons_append, List.nil_append, List.append_nil, List.getElem?_cons_zero, List.getElem?_cons_succ, List.set_cons_zero, List.set_cons_succ, Nat.reduceAdd, Nat.reduceSub, Nat.reduceEqDiff, if_true, if_false, ite_true, ite_false, reduceIte, at0, at1, at2, at3, eq_int, ne_int, ge_int, le_int, lt_int, gt_int, len_lst, len_tup, len_dct, intD, absD, List.length_map, Bool.not_true, Bool.not_false, Bool.false_eq_true, lsigns_is hm]
    · intro c hc
      obtain ⟨a1, a2⟩ := put1_add (c := c) hl hk
      have i1 := ix_t hl hk
      have hne : neD2 (.str [c]) (.str [t.getD k 0]) = some (false, .bl (!decide ([c] = [t.getD k 0]))) := ne_str (okT_sg (one_in hc)) (okT_sg (one_in (ht.s _ (getD_in hk))))
      refine ⟨⟨[.fz (.int m), .fz (.str t), .fz (.int (k : Nat)), .fz (.str [c])], S⟩, ⟨[.fz (.int m), .fz (.str t), .fz (.int (k : Nat)), .fz (.str [c])], S⟩, rfl, ?_, fun _ => rfl, fun _ => ⟨⟨[.fz (.int m), .fz (.str t), .fz (.int (k : Nat)), .fz (.str [c])], S⟩, .fz, ?_, rfl⟩⟩
      · simp only [denFn, startP, outF, frOf, sSeq, sIf, sSet, sRet, sRetN, sExpr, sNil, sBrk, sCnt, sAug, sPar, sTgt, sApp, sExt, sStIx, sFor, eVar, eCst, eOp2, eOp1, eOpN, eChain, eAnd2, eOr2, eNot1, eIfE, tOfV, tTru, tAnd2, tOr2, tNot1, tYs, aNil, aCons, bNil, bCons, eTup, eLst, eDct0, eSl, eMthS, eCall, gN, gT, gSeq, iVal, iRange1, iRange2, iEnumr, itemsD, opOut, kdOf, deref, derefs, PSt.put, PSt.frzK, PSt.frz, Out.bind, Option.bind, Option.map, add_int, sub_int, addI, ix_tupE, ix_lstE, isTx, isntD2, isD2, isNone, guard', stIx, held, isKey, List.map_cons, List.map_nil, List.length_cons, List.length_nil, List.replicate_succ, List.replicate_zero, List.cons_append, List.nil_append, List.append_nil, List.getElem?_cons_zero, List.getElem?_cons_succ, List.set_cons_zero, List.set_cons_succ, Nat.reduceAdd, Nat.reduceSub, Nat.reduceEqDiff, if_true, if_false, ite_true, ite_false, reduceIte, at0, at1, at2, at3, eq_int, ne_int, ge_int, le_int, lt_int, gt_int, len_lst, len_tup, len_dct, intD, absD, List.length_map, Bool.not_true, Bool.not_false, Bool.false_eq_true, i1, hne]
      · simp only [denFn, startP, outF, frOf, sSeq, sIf, sSet, sRet, sRetN, sExpr, sNil, sBrk, sCnt, sAug, sPar, sTgt, sApp, sExt, sStIx, sFor, eVar, eCst, eOp2, eOp1, eOpN, eChain, eAnd2, eOr2, eNot1, eIfE, tOfV, tTru, tAnd2, tOr2, tNot1, tYs, aNil, aCons, bNil, bCons, eTup, eLst, eDct0, eSl, eMthS, eCall, gN, gT, gSeq, iVal, iRange1, iRange2, iEnumr, itemsD, opOut, kdOf, deref, derefs, PSt.put, PSt.frzK, PSt.frz, Out.bind, Option.bind, Option.map, add_int, sub_int, addI, ix_tupE, ix_lstE, isTx, isntD2, isD2, isNone, guard', stIx, held, isKey, List.map_cons, List.map_nil, List.length_cons, List.length_nil, List.replicate_succ, List.replicate_zero, List.cons_append, List.nil_append, List.append_nil, List.getElem?_cons_zero, List.getElem?_cons_succ, List.set_cons_zero, List.set_cons_succ, Nat.reduceAdd, Nat.reduceSub, Nat.reduceEqDiff, if_true, if_false, ite_true, ite_false, reduceIte, at0, at1, at2, at3, eq_int, ne_int, ge_int, le_int, lt_int, gt_int, len_lst, len_tup, len_dct, intD, absD, List.length_map, Bool.not_true, Bool.not_false, Bool.false_eq_true, k1, s1, s2, a1, a2]
    · unfold chg
      rw [List.map_map]; rfl
  unfold g__law_changed b__law_changed
  refine denFn_run rfl ?_
  simp only [denFn, startP, outF, frOf, sSeq, sIf, sSet, sRet, sRetN, sExpr, sNil, sBrk, sCnt, sAug, sPar, sTgt, sApp, sExt, sStIx, sFor, eVar, eCst, eOp2, eOp1, eOpN, eChain, eAnd2, eOr2, eNot1, eIfE, tOfV, tTru, tAnd2, tOr2, tNot1, tYs, aNil, aCons, bNil, bCons, eTup, eLst, eDct0, eSl, eMthS, eCall, gN, gT, gSeq, iVal, iRange1, iRange2, iEnumr, itemsD, opOut, kdOf, deref, derefs, PSt.put, PSt.frzK, PSt.frz, Out.bind, Option.bind, Option.map, add_int, sub_int, addI, ix_tupE, ix_lstE, isTx, isntD2, isD2, isNone, guard', stIx, held, isKey, List.map_cons, List.map_nil, List.length_cons, List.length_nil, List.replicate_succ, List.replicate_zero, List.cons_append, List.nil_append, List.append_nil, List.getElem?_cons_zero, List.getElem?_cons_succ, List.set_cons_zero, List.set_cons_succ, Nat.reduceAdd, Nat.reduceSub, Nat.reduceEqDiff, if_true, if_false, ite_true, ite_false, reduceIte, at0, at1, at2, at3, eq_int, ne_int, ge_int, le_int, lt_int, gt_int, len_lst, len_tup, len_dct, intD, absD, List.length_map, Bool.not_true, Bool.not_false, Bool.false_eq_true, hlc]
/-! ### numbers that count alike -/
theorem div_alike {m gap : Int} (hm : 0 < m) (x : Nat) : ((x : Int) * gap % m = 0) ↔ (m / dv m (gap % m)).toNat ∣ x := by
  have hg0 : 0 ≤ gap % m := Int.emod_nonneg _ (by omega)
  obtain ⟨M, rfl⟩ := Int.eq_ofNat_of_zero_le (show 0 ≤ m by omega)
  obtain ⟨g, hg⟩ := Int.eq_ofNat_of_zero_le hg0
  have hM : 0 < M := by omega
  have e1 : (x : Int) * gap % (M : Nat) = ((x * g % M : Nat) : Int) := by
    rw [Int.mul_emod, hg]
    have : (g : Int) % (M : Nat) = ((g % M : Nat) : Int) := by omega
    have h2 : (x : Int) % (M : Nat) = ((x % M : Nat) : Int) := by omega
    rw [h2, ← Int.natCast_mul]
    have h3 : (((x % M) * g : Nat) : Int) % (M : Nat) = (((x % M) * g % M : Nat) : Int) := by omega
    rw [h3]
    congr 1
    rw [Nat.mod_mul_mod]
  have e2 : dv (M : Nat) (gap % (M : Nat)) = (Nat.gcd M g : Nat) := by
    unfold dv
    rw [hg]; rfl
  have e3 : ((M : Nat) / dv (M : Nat) (gap % (M : Nat)) : Int).toNat = M / Nat.gcd M g := by
    rw [e2]
    have : ((M : Nat) : Int) / ((Nat.gcd M g : Nat) : Int) = ((M / Nat.gcd M g : Nat) : Int) := by omega
    rw [this]; rfl
  rw [e1, e3, Nat.div_dvd_iff_dvd_mul (Nat.gcd_dvd_left M g) (Nat.gcd_pos_of_pos_left _ hM), Nat.dvd_gcd_mul_iff_dvd_mul, Nat.mul_comm g x]
  constructor
  · intro h
    exact Nat.dvd_of_mod_eq_zero (by omega)
  · intro h
    have := Nat.mod_eq_zero_of_dvd h
    omega
def al (m gap : Int) (i : Nat) (j : Nat) : Bool := decide (((j : Int) - (i : Nat)) * gap % m = 0)
def alI (m gap : Int) (n i : Nat) : Option Nat := ((List.range (n - (i + 1))).map fun k => i + 1 + k).find? (al m gap i)
def alO (m gap : Int) (n : Nat) : List Nat → Option (Nat × Nat)
  | [] => none
  | i :: r => match alI m gap n i with
    | some j => some (i, j)
    | none => alO m gap n r
def pairD : Option (Nat × Nat) → Option D
  | none => none
  | some (i, j) => some (.tup [.int (i : Nat), .int (j : Nat)])
theorem al_in {m gap : Int} (hm : 0 < m) (hgap : gap.natAbs < 2 ^ 64) (d2 : D) (i : Nat) (S : List D) : ∀ (js : List Nat) (x : Sl), ∃ x',
    forLoop (gN 4) (sIf (tOfV (eOp2 eqD2 (eOp2 modD (eOp2 mulD (eOp2 subD (eVar 4) (eVar 3)) (eVar 1)) (eVar 0)) (eCst (.int 0)))) (sRet (eTup (aCons (eVar 3) (aCons (eVar 4) aNil)))) sNil)
      (js.map fun j => .int (j : Nat)) ⟨[.fz (.int m), .fz (.int gap), .fz d2, .fz (.int (i : Nat)), x], S⟩ = endJ ⟨[.fz (.int m), .fz (.int gap), .fz d2, .fz (.int (i : Nat)), x'], S⟩ (pairD ((js.find? (al m gap i)).map fun j => (i, j)))
  | [], x => ⟨x, rfl⟩
  | j :: js, x => by
    have hmod : ∀ x, modD (.int x) (.int m) = some (false, .int (x % m)) := fun x => mod_pos hm
    have hmul : ∀ y, mulD (.int y) (.int gap) = some (false, .int (y * gap)) := fun y => mul_smallR hgap
    rw [List.map_cons]
    by_cases q : ((j : Int) - (i : Nat)) * gap % m = 0
    · have qf : al m gap i j = true := decide_eq_true q
      refine ⟨.fz (.int (j : Nat)), ?_⟩
      rw [List.find?_cons_of_pos qf]
      refine forLoop_rt (p1 := ⟨[.fz (.int m), .fz (.int gap), .fz d2, .fz (.int (i : Nat)), .fz (.int (j : Nat))], S⟩) rfl ?_
      simp only [denFn, startP, outF, frOf, sSeq, sIf, sSet, sRet, sRetN, sExpr, sNil, sBrk, sCnt, sAug, sPar, sTgt, sApp, sExt, sStIx, sFor, eVar, eCst, eOp2, eOp1, eOpN, eChain, eAnd2, eOr2, eNot1, eIfE, tOfV, tTru, tAnd2, tOr2, tNot1, tYs, aNil, aCons, bNil, bCons, eTup, eLst, eDct0, eSl, eMthS, eCall, gN, gT, gSeq, iVal, iRange1, iRange2, iEnumr, itemsD, opOut, kdOf, deref, derefs, PSt.put, PSt.frzK, PSt.frz, Out.bind, Option.bind, Option.map, add_int, sub_int, addI, ix_tupE, ix_lstE, isTx, isntD2, isD2, isNone, guard', stIx, held, isKey, List.map_cons, List.map_nil, List.length_cons, List.length_nil, List.replicate_succ, List.replicate_zero, List.cons_append, List.nil_append, List.append_nil, List.getElem?_cons_zero, List.getElem?_cons_succ, List.set_cons_zero, List.set_cons_succ, Nat.reduceAdd, Nat.reduceSub, Nat.reduceEqDiff, if_true, if_false, ite_true, ite_false, reduceIte, at0, at1, at2, at3, eq_int, ne_int, ge_int, le_int, lt_int, gt_int, len_lst, len_tup, len_dct, intD, absD, List.length_map, Bool.not_true, Bool.not_false, Bool.false_eq_true, hmul, hmod, q, decide_true]
      rfl
    · have qf : ¬ al m gap i j = true := fun z => q (of_decide_eq_true z)
      obtain ⟨x', e⟩ := al_in hm hgap d2 i S js (.fz (.int (j : Nat)))
      refine ⟨x', ?_⟩
      rw [List.find?_cons_of_neg qf, ← e]
      refine forLoop_cons (p1 := ⟨[.fz (.int m), .fz (.int gap), .fz d2, .fz (.int (i : Nat)), .fz (.int (j : Nat))], S⟩) rfl ?_
      simp only [denFn, startP, outF, frOf, sSeq, sIf, sSet, sRet, sRetN, sExpr, sNil, sBrk, sCnt, sAug, sPar, sTgt, sApp, sExt, sStIx, sFor, eVar, eCst, eOp2, eOp1, eOpN, eChain, eAnd2, eOr2, eNot1, eIfE, tOfV, tTru, tAnd2, tOr2, tNot1, tYs, aNil, aCons, bNil, bCons, eTup, eLst, eDct0, eSl, eMthS, eCall, gN, gT, gSeq, iVal, iRange1, iRange2, iEnumr, itemsD, opOut, kdOf, deref, derefs, PSt.put, PSt.frzK, PSt.frz, Out.bind, Option.bind, Option.map, add_int, sub_int, addI, ix_tupE, ix_lstE, isTx, isntD2, isD2, isNone, guard', stIx, held, isKey, List.map_cons, List.map_nil, List.length_cons, List.length_nil, List.replicate_succ, List.replicate_zero, List.cons_append, List.nil_append, List.append_nil, List.getElem?_cons_zero, List.getElem?_cons_succ, List.set_cons_zero, List.set_cons_succ, Nat.reduceAdd, Nat.reduceSub, Nat.reduceEqDiff, if_true, if_false, ite_true, ite_false, reduceIte, at0, at1, at2, at3, eq_int, ne_int, ge_int, le_int, lt_int, gt_int, len_lst, len_tup, len_dct, intD, absD, List.length_map, Bool.not_true, Bool.not_false, Bool.false_eq_true, hmul, hmod, q, decide_false]
theorem rng_two (i n : Nat) : rngD ((i : Nat) + 1 : Int) ((n : Nat) : Int) = (((List.range (n - (i + 1))).map fun k => i + 1 + k)).map fun j => .int (j : Nat) := by
  unfold rngD
  have : ((n : Int) - ((i : Nat) + 1)).toNat = n - (i + 1) := by omega
  rw [this, List.map_map]
  refine List.map_congr_left fun k _ => ?_
  show D.int ((i : Int) + 1 + (k : Nat)) = .int ((i + 1 + k : Nat) : Int)
  congr 1
theorem al_out {m gap : Int} (hm : 0 < m) (hgap : gap.natAbs < 2 ^ 64) (n : Nat) (hn : n ≤ 66) (S : List D) : ∀ (is : List Nat) (x y : Sl), (∀ i ∈ is, i ≤ 66) → ∃ x' y',
    forLoop (gN 3) (sFor (iRange2 (bCons (eOp2 addD (eVar 3) (eCst (.int 1))) (bCons (eVar 2) bNil))) (gN 4) (sIf (tOfV (eOp2 eqD2 (eOp2 modD (eOp2 mulD (eOp2 subD (eVar 4) (eVar 3)) (eVar 1)) (eVar 0)) (eCst (.int 0)))) (sRet (eTup (aCons (eVar 3) (aCons (eVar 4) aNil)))) sNil))
      (is.map fun j => .int (0 + (j : Nat))) ⟨[.fz (.int m), .fz (.int gap), .fz (.int (n : Nat)), x, y], S⟩ = endJ ⟨[.fz (.int m), .fz (.int gap), .fz (.int (n : Nat)), x', y'], S⟩ (pairD (alO m gap n is))
  | [], x, y, _ => ⟨x, y, rfl⟩
  | i :: is, x, y, hi => by
    have h66 := hi i List.mem_cons_self
    have hb1 : bnd ((i : Nat) + 1 : Int) = true := bnd_of (by omega) (by omega)
    have hb2 : bnd ((n : Nat) : Int) = true := bnd_of (by omega) (by omega)
    obtain ⟨y1, e1⟩ := al_in hm hgap (.int (n : Nat)) i S ((List.range (n - (i + 1))).map fun k => i + 1 + k) y
    rw [List.map_cons, Int.zero_add]
    have hit : iRange2 (bCons (eOp2 addD (eVar 3) (eCst (.int 1))) (bCons (eVar 2) bNil)) ⟨[.fz (.int m), .fz (.int gap), .fz (.int (n : Nat)), .fz (.int (i : Nat)), y], S⟩ =
        .ok ⟨[.fz (.int m), .fz (.int gap), .fz (.int (n : Nat)), .fz (.int (i : Nat)), y], S⟩ ((((List.range (n - (i + 1))).map fun k => i + 1 + k)).map fun j => .int (j : Nat)) := by
      rw [← rng_two]
      simp only [denFn, startP, outF, frOf, sSeq, sIf, sSet, sRet, sRetN, sExpr, sNil, sBrk, sCnt, sAug, sPar, sTgt, sApp, sExt, sStIx, sFor, eVar, eCst, eOp2, eOp1, eOpN, eChain, eAnd2, eOr2, eNot1, eIfE, tOfV, tTru, tAnd2, tOr2, tNot1, tYs, aNil, aCons, bNil, bCons, eTup, eLst, eDct0, eSl, eMthS, eCall, gN, gT, gSeq, iVal, iRange1, iRange2, iEnumr, itemsD, opOut, kdOf, deref, derefs, PSt.put, PSt.frzK, PSt.frz, Out.bind, Option.bind, Option.map, add_int, sub_int, addI, ix_tupE, ix_lstE, isTx, isntD2, isD2, isNone, guard', stIx, held, isKey, List.map_cons, List.map_nil, List.length_cons, List.length_nil, List.replicate_succ, List.replicate_zero, List.cons_append, List.nil_append, List.append_nil, List.getElem?_cons_zero, List.getElem?_cons_succ, List.set_cons_zero, List.set_cons_succ, Nat.reduceAdd, Nat.reduceSub, Nat.reduceEqDiff, if_true, if_false, ite_true, ite_false, reduceIte, at0, at1, at2, at3, eq_int, ne_int, ge_int, le_int, lt_int, gt_int, len_lst, len_tup, len_dct, intD, absD, List.length_map, Bool.not_true, Bool.not_false, Bool.false_eq_true, hb1, hb2, Bool.and_self]
    cases c : alI m gap n i with
    | some j =>
      have c' : ((List.range (n - (i + 1))).map fun k => i + 1 + k).find? (al m gap i) = some j := c
      rw [c'] at e1
      refine ⟨.fz (.int (i : Nat)), y1, ?_⟩
      have e0 : alO m gap n (i :: is) = some (i, j) := by
        show (match alI m gap n i with | some j => some (i, j) | none => alO m gap n is) = _
        rw [c]
      rw [e0]
      exact forLoop_rt (p1 := ⟨[.fz (.int m), .fz (.int gap), .fz (.int (n : Nat)), .fz (.int (i : Nat)), y], S⟩) rfl (sFor_run hit e1)
    | none =>
      have c' : ((List.range (n - (i + 1))).map fun k => i + 1 + k).find? (al m gap i) = none := c
      rw [c'] at e1
      obtain ⟨x', y', e⟩ := al_out hm hgap n hn S is (.fz (.int (i : Nat))) y1 (fun j hj => hi j (List.mem_cons_of_mem _ hj))
      refine ⟨x', y', ?_⟩
      have e0 : alO m gap n (i :: is) = alO m gap n is := by
        show (match alI m gap n i with | some j => some (i, j) | none => alO m gap n is) = _
        rw [c]
      rw [e0, ← e]
      exact forLoop_cons (p1 := ⟨[.fz (.int m), .fz (.int gap), .fz (.int (n : Nat)), .fz (.int (i : Nat)), y], S⟩) rfl (sFor_run hit e1)
end K56
namespace K56
open PySem PySem.Spec L2 PM
theorem find_first {p : Nat → Bool} {i N x : Nat} (hx : p (i + 1 + x) = true) (hl : x < N) (hb : ∀ k, k < x → p (i + 1 + k) = false) : ((List.range N).map fun k => i + 1 + k).find? p = some (i + 1 + x) := by
  rw [List.find?_map]
  have : (List.range N).find? (p ∘ fun k => i + 1 + k) = some x := by
    rw [List.find?_range_eq_some]
    exact ⟨hx, List.mem_range.mpr hl, fun j hj => by simp [hb j hj]⟩
  rw [this]; rfl
theorem al_dvd {m gap : Int} (hm : 0 < m) (i k : Nat) : al m gap i (i + 1 + k) = decide ((m / dv m (gap % m)).toNat ∣ (k + 1)) := by
  unfold al
  have e : ((i + 1 + k : Nat) : Int) - (i : Nat) = ((k + 1 : Nat) : Int) := by omega
  rw [e]
  exact decide_eq_decide.mpr (div_alike hm (k + 1))
theorem dd_pos {m w : Int} (hm : 0 < m) : 0 < m / dv m w := by
  have h1 := @dv_pos m w hm
  have h2 := @dv_le m w hm
  exact Int.ediv_pos_of_pos_of_dvd hm (by omega) (by
    unfold dv
    obtain ⟨M, rfl⟩ := Int.eq_ofNat_of_zero_le (show 0 ≤ m by omega)
    exact Int.natCast_dvd_natCast.mpr (Nat.gcd_dvd_left _ _))
theorem alO_none {m gap : Int} {n : Nat} : ∀ {is : List Nat}, (∀ i ∈ is, alI m gap n i = none) → alO m gap n is = none
  | [], _ => rfl
  | i :: is, h => by
    show (match alI m gap n i with | some j => some (i, j) | none => alO m gap n is) = _
    rw [h i List.mem_cons_self]
    exact alO_none fun j hj => h j (List.mem_cons_of_mem _ hj)
theorem alike_eq {m gap : Int} (hm : 2 ≤ m) : alO m gap (nN m) (List.range (nN m)) = if miss m (gap % m) = true then some (0, (m / dv m (gap % m)).toNat) else none := by
  have hd := @dd_pos m (gap % m) (by omega)
  have hn := nN_int (m := m) (by omega)
  have hn2 : 2 ≤ nN m := by unfold nN nS; split <;> omega
  by_cases c : miss m (gap % m) = true
  · rw [if_pos c]
    have c2 : m / dv m (gap % m) < nS m := of_decide_eq_true c
    obtain ⟨x, hx⟩ : ∃ x, (m / dv m (gap % m)).toNat = x + 1 := ⟨(m / dv m (gap % m)).toNat - 1, by omega⟩
    have h0 : alI m gap (nN m) 0 = some (0 + 1 + x) := by
      unfold alI
      refine find_first ?_ (by omega) fun k hk => ?_
      · rw [al_dvd (by omega), hx]
        exact decide_eq_true (Nat.dvd_refl _)
      · rw [al_dvd (by omega), hx]
        exact decide_eq_false fun z => by have := Nat.le_of_dvd (by omega) z; omega
    have hr : List.range (nN m) = 0 :: (List.range (nN m - 1)).map Nat.succ := by
      have : nN m = (nN m - 1) + 1 := by omega
      conv => lhs; rw [this]
      rw [List.range_succ_eq_map]
    rw [hr]
    show (match alI m gap (nN m) 0 with | some j => some (0, j) | none => alO m gap (nN m) _) = _
    rw [h0, hx]
    have : 0 + 1 + x = x + 1 := by omega
    rw [this]
  · rw [if_neg c]
    have c2 : ¬ m / dv m (gap % m) < nS m := fun z => c (decide_eq_true z)
    refine alO_none fun i hi => ?_
    unfold alI
    rw [List.find?_eq_none]
    intro j hj
    obtain ⟨k, hk, rfl⟩ := List.mem_map.mp hj
    have hk := List.mem_range.mp hk
    rw [al_dvd (by omega)]
    intro z
    have := Nat.le_of_dvd (by omega) (of_decide_eq_true z)
    omega
def alD (m gap : Int) : D := if miss m (gap % m) = true then .tup [.int 0, .int (m / dv m (gap % m))] else .non
theorem lalike_is {m gap : Int} (hm : 2 ≤ m) (hgap : gap.natAbs < 2 ^ 64) (S : List D) : g__law_alike [.int m, .int gap] S = .ok S false (alD m gap) := by
  have hm0 : 0 ≤ m := by omega
  obtain ⟨x, y, e⟩ := al_out (gap := gap) (show 0 < m by omega) hgap (nN m) (nN_le m) S (List.range (nN m)) .un .un (fun i hi => by have := List.mem_range.mp hi; have := nN_le m; omega)
  have hsg : (sg m).length = nN m := by rw [sg_is hm0, List.length_map, List.length_range]
  have e7 : lenD [.str (sg m)] = some (false, .int (nN m : Nat)) := by
    rw [len_str (by have := nN_le m; omega), hsg]
  have hb2 : bnd ((nN m : Nat) : Int) = true := bnd_of (by omega) (by have := nN_le m; omega)
  unfold g__law_alike b__law_alike
  refine denFn_run rfl ?_
  have e3 : startP 5 [.int m, .int gap] S = ⟨[.fz (.int m), .fz (.int gap), .un, .un, .un], S⟩ := rfl
  rw [e3, sSeq_nx (p1 := ⟨[.fz (.int m), .fz (.int gap), .fz (.int (nN m : Nat)), .un, .un], S⟩) (by simp only [denFn, startP, outF, frOf, sSeq, sIf, sSet, sRet, sRetN, sExpr, sNil, sBrk, sCnt, sAug, sPar, sTgt, sApp, sExt, sStIx, sFor, eVar, eCst, eOp2, eOp1, eOpN, eChain, eAnd2, eOr2, eNot1, eIfE, tOfV, tTru, tAnd2, tOr2, tNot1, tYs, aNil, aCons, bNil, bCons, eTup, eLst, eDct0, eSl, eMthS, eCall, gN, gT, gSeq, iVal, iRange1, iRange2, iEnumr, itemsD, opOut, kdOf, deref, derefs, PSt.put, PSt.frzK, PSt.frz, Out.bind, Option.bind, Option.map, add_int, sub_int, addI, ix_tupE, ix_lstE, isTx, isntD2, isD2, isNone, guard', stIx, held, isKey, List.map_cons, List.map_nil, List.length_cons, List.length_nil, List.replicate_succ, List.replicate_zero, List.cons_append, List.nil_append, List.append_nil, List.getElem?_cons_zero, List.getElem?_cons_succ, List.set_cons_zero, List.set_cons_succ, Nat.reduceAdd, Nat.reduceSub, Nat.reduceEqDiff, if_true, if_false, ite_true, ite_false, reduceIte, at0, at1, at2, at3, eq_int, ne_int, ge_int, le_int, lt_int, gt_int, len_lst, len_tup, len_dct, intD, absD, List.length_map, Bool.not_true, Bool.not_false, Bool.false_eq_true, lsigns_is hm0, e7])]
  have hit : iRange1 (bCons (eVar 2) bNil) ⟨[.fz (.int m), .fz (.int gap), .fz (.int (nN m : Nat)), .un, .un], S⟩ = .ok ⟨[.fz (.int m), .fz (.int gap), .fz (.int (nN m : Nat)), .un, .un], S⟩ ((List.range (nN m)).map fun j => .int (0 + (j : Nat))) := by
    rw [← rng_nat]
    simp only [denFn, startP, outF, frOf, sSeq, sIf, sSet, sRet, sRetN, sExpr, sNil, sBrk, sCnt, sAug, sPar, sTgt, sApp, sExt, sStIx, sFor, eVar, eCst, eOp2, eOp1, eOpN, eChain, eAnd2, eOr2, eNot1, eIfE, tOfV, tTru, tAnd2, tOr2, tNot1, tYs, aNil, aCons, bNil, bCons, eTup, eLst, eDct0, eSl, eMthS, eCall, gN, gT, gSeq, iVal, iRange1, iRange2, iEnumr, itemsD, opOut, kdOf, deref, derefs, PSt.put, PSt.frzK, PSt.frz, Out.bind, Option.bind, Option.map, add_int, sub_int, addI, ix_tupE, ix_lstE, isTx, isntD2, isD2, isNone, guard', stIx, held, isKey, List.map_cons, List.map_nil, List.length_cons, List.length_nil, List.replicate_succ, List.replicate_zero, List.cons_append, List.nil_append, List.append_nil, List.getElem?_cons_zero, List.getElem?_cons_succ, List.set_cons_zero, List.set_cons_succ, Nat.reduceAdd, Nat.reduceSub, Nat.reduceEqDiff, if_true, if_false, ite_true, ite_false, reduceIte, at0, at1, at2, at3, eq_int, ne_int, ge_int, le_int, lt_int, gt_int, len_lst, len_tup, len_dct, intD, absD, List.length_map, Bool.not_true, Bool.not_false, Bool.false_eq_true, hb2]
  rw [alike_eq hm] at e
  unfold alD
  by_cases c : miss m (gap % m) = true
  · rw [if_pos c] at e ⊢
    rw [sSeq_forR hit e]
    have hd := @dd_pos m (gap % m) (by omega)
    have : (((m / dv m (gap % m)).toNat : Nat) : Int) = m / dv m (gap % m) := by omega
    show FOut.ok S (frOf _ Kd.fz) (D.tup [.int ((0 : Nat) : Int), .int (((m / dv m (gap % m)).toNat : Nat) : Int)]) = _
    rw [this]; rfl
  · rw [if_neg c] at e ⊢
    rw [sSeq_for hit e]
    rfl
def jK (m : Int) (gs : List Int) : List Nat → Option D
  | [] => none
  | k :: r => if miss m (gs.getD k 0 % m) = true then some (tMiss m k (gs.getD k 0 % m)) else jK m gs r
theorem lj_loop {m : Int} {gs : List Int} (hm : 2 ≤ m) (hg : ∀ g ∈ gs, g.natAbs < 2 ^ 64) (S : List D) : ∀ (r : List Nat) (x y : Sl), (∀ k ∈ r, k < gs.length) → ∃ x' y',
    forLoop (gN 2) (sSeq (sSet 3 (eCall g__law_alike (aCons (eVar 0) (aCons (eOp2 ixD (eVar 1) (eVar 2)) aNil)))) (sIf (tOfV (eOp2 isntD2 (eVar 3) (eCst .non))) (sRet (eOp2 addD (eTup (aCons (eCst (.str [109, 105, 115, 115, 101, 115])) (aCons (eVar 2) aNil))) (eVar 3))) sNil))
      (r.map fun k => .int (0 + (k : Nat))) ⟨[.fz (.int m), .fz (.lst (gs.map D.int)), x, y], S⟩ = endJ ⟨[.fz (.int m), .fz (.lst (gs.map D.int)), x', y'], S⟩ (jK m gs r)
  | [], x, y, _ => ⟨x, y, rfl⟩
  | k :: r, x, y, hr => by
    have hk := hr k List.mem_cons_self
    have a1 : atI (gs.map D.int) (k : Nat) = some (.int (gs.getD k 0)) := by
      rw [atI_map, atN hk, List.getD_eq_getElem?_getD, List.getElem?_eq_getElem hk]; rfl
    have hgk : (gs.getD k 0).natAbs < 2 ^ 64 := by
      rw [List.getD_eq_getElem?_getD, List.getElem?_eq_getElem hk]
      exact hg _ (List.getElem_mem hk)
    have ha := lalike_is hm hgk S
    rw [List.map_cons, Int.zero_add]
    by_cases c : miss m (gs.getD k 0 % m) = true
    · have e0 : jK m gs (k :: r) = some (tMiss m k (gs.getD k 0 % m)) := by
        show (if miss m (gs.getD k 0 % m) = true then some (tMiss m k (gs.getD k 0 % m)) else jK m gs r) = _
        rw [if_pos c]
      have hA : alD m (gs.getD k 0) = .tup [.int 0, .int (m / dv m (gs.getD k 0 % m))] := if_pos c
      rw [hA] at ha
      refine ⟨.fz (.int (k : Nat)), .fz (.tup [.int 0, .int (m / dv m (gs.getD k 0 % m))]), ?_⟩
      rw [e0]
      refine forLoop_rt (p1 := ⟨[.fz (.int m), .fz (.lst (gs.map D.int)), .fz (.int (k : Nat)), y], S⟩) rfl ?_
      simp only [denFn, startP, outF, frOf, sSeq, sIf, sSet, sRet, sRetN, sExpr, sNil, sBrk, sCnt, sAug, sPar, sTgt, sApp, sExt, sStIx, sFor, eVar, eCst, eOp2, eOp1, eOpN, eChain, eAnd2, eOr2, eNot1, eIfE, tOfV, tTru, tAnd2, tOr2, tNot1, tYs, aNil, aCons, bNil, bCons, eTup, eLst, eDct0, eSl, eMthS, eCall, gN, gT, gSeq, iVal, iRange1, iRange2, iEnumr, itemsD, opOut, kdOf, deref, derefs, PSt.put, PSt.frzK, PSt.frz, Out.bind, Option.bind, Option.map, add_int, sub_int, addI, ix_tupE, ix_lstE, isTx, isntD2, isD2, isNone, guard', stIx, held, isKey, List.map_cons, List.map_nil, List.length_cons, List.length_nil, List.replicate_succ, List.replicate_zero, List.cons_append, List.nil_append, List.append_nil, List.getElem?_cons_zero, List.getElem?_cons_succ, List.set_cons_zero, List.set_cons_succ, Nat.reduceAdd, Nat.reduceSub, Nat.reduceEqDiff, if_true, if_false, ite_true, ite_false, reduceIte, at0, at1, at2, at3, eq_int, ne_int, ge_int, le_int, lt_int, gt_int, len_lst, len_tup, len_dct, intD, absD, List.length_map, Bool.not_true, Bool.not_false, Bool.false_eq_true, a1, ha]
      rfl
    · have e0 : jK m gs (k :: r) = jK m gs r := by
        show (if miss m (gs.getD k 0 % m) = true then some (tMiss m k (gs.getD k 0 % m)) else jK m gs r) = _
        rw [if_neg c]
      have hA : alD m (gs.getD k 0) = .non := if_neg c
      rw [hA] at ha
      obtain ⟨x', y', e⟩ := lj_loop hm hg S r (.fz (.int (k : Nat))) (.fz .non) (fun i hi => hr i (List.mem_cons_of_mem _ hi))
      refine ⟨x', y', ?_⟩
      rw [e0, ← e]
      refine forLoop_cons (p1 := ⟨[.fz (.int m), .fz (.lst (gs.map D.int)), .fz (.int (k : Nat)), y], S⟩) rfl ?_
      simp only [denFn, startP, outF, frOf, sSeq, sIf, sSet, sRet, sRetN, sExpr, sNil, sBrk, sCnt, sAug, sPar, sTgt, sApp, sExt, sStIx, sFor, eVar, eCst, eOp2, eOp1, eOpN, eChain, eAnd2, eOr2, eNot1, eIfE, tOfV, tTru, tAnd2, tOr2, tNot1, tYs, aNil, aCons, bNil, bCons, eTup, eLst, eDct0, eSl, eMthS, eCall, gN, gT, gSeq, iVal, iRange1, iRange2, iEnumr, itemsD, opOut, kdOf, deref, derefs, PSt.put, PSt.frzK, PSt.frz, Out.bind, Option.bind, Option.map, add_int, sub_int, addI, ix_tupE, ix_lstE, isTx, isntD2, isD2, isNone, guard', stIx, held, isKey, List.map_cons, List.map_nil, List.length_cons, List.length_nil, List.replicate_succ, List.replicate_zero, List.cons_append, List.nil_append, List.append_nil, List.getElem?_cons_zero, List.getElem?_cons_succ, List.set_cons_zero, List.set_cons_succ, Nat.reduceAdd, Nat.reduceSub, Nat.reduceEqDiff, if_true, if_false, ite_true, ite_false, reduceIte, at0, at1, at2, at3, eq_int, ne_int, ge_int, le_int, lt_int, gt_int, len_lst, len_tup, len_dct, intD, absD, List.length_map, Bool.not_true, Bool.not_false, Bool.false_eq_true, a1, ha]
theorem ljudged_is {m : Int} {gs : List Int} (hm : 2 ≤ m) (hg : ∀ g ∈ gs, g.natAbs < 2 ^ 64) (hl : gs.length ≤ 1000) (S : List D) : g__law_judged [.int m, .lst (gs.map D.int)] S = .ok S false (retJ (jK m gs (List.range gs.length))) := by
  obtain ⟨x, y, e⟩ := lj_loop hm hg S (List.range gs.length) .un .un (fun k hk => List.mem_range.mp hk)
  have hb : bnd ((gs.length : Nat) : Int) = true := bnd_of (by omega) (by omega)
  unfold g__law_judged b__law_judged
  refine denFn_run rfl ?_
  have e3 : startP 4 [.int m, .lst (gs.map D.int)] S = ⟨[.fz (.int m), .fz (.lst (gs.map D.int)), .un, .un], S⟩ := rfl
  rw [e3]
  have hit : iRange1 (bCons (eOpN lenD (bCons (eVar 1) bNil)) bNil) ⟨[.fz (.int m), .fz (.lst (gs.map D.int)), .un, .un], S⟩ = .ok ⟨[.fz (.int m), .fz (.lst (gs.map D.int)), .un, .un], S⟩ ((List.range gs.length).map fun j => .int (0 + (j : Nat))) := by
    rw [← rng_nat]
    simp only [denFn, startP, outF, frOf, sSeq, sIf, sSet, sRet, sRetN, sExpr, sNil, sBrk, sCnt, sAug, sPar, sTgt, sApp, sExt, sStIx, sFor, eVar, eCst, eOp2, eOp1, eOpN, eChain, eAnd2, eOr2, eNot1, eIfE, tOfV, tTru, tAnd2, tOr2, tNot1, tYs, aNil, aCons, bNil, bCons, eTup, eLst, eDct0, eSl, eMthS, eCall, gN, gT, gSeq, iVal, iRange1, iRange2, iEnumr, itemsD, opOut, kdOf, deref, derefs, PSt.put, PSt.frzK, PSt.frz, Out.bind, Option.bind, Option.map, add_int, sub_int, addI, ix_tupE, ix_lstE, isTx, isntD2, isD2, isNone, guard', stIx, held, isKey, List.map_cons, List.map_nil, List.length_cons, List.length_nil, List.replicate_succ, List.replicate_zero, List.cons_append, List.nil_append, List.append_nil, List.getElem?_cons_zero, List.getElem?_cons_succ, List.set_cons_zero, List.set_cons_succ, Nat.reduceAdd, Nat.reduceSub, Nat.reduceEqDiff, if_true, if_false, ite_true, ite_false, reduceIte, at0, at1, at2, at3, eq_int, ne_int, ge_int, le_int, lt_int, gt_int, len_lst, len_tup, len_dct, intD, absD, List.length_map, Bool.not_true, Bool.not_false, Bool.false_eq_true, hb]
  cases c : jK m gs (List.range gs.length) with
  | none =>
    rw [c] at e
    rw [sSeq_for hit e]
    rfl
  | some d =>
    rw [c] at e
    rw [sSeq_forR hit e]
    rfl
def gapL (ws : List Int) : List Int := (List.range ws.length).map (gaps ws)
theorem lgaps_is {ws : List Int} (h1 : 1 ≤ ws.length) (h2 : ws.length ≤ 1000) (S : List D) : g__law_gaps [.tup (ws.map D.int)] S = .ok S true (.lst ((gapL ws).map D.int)) := by
  have hb : bnd ((ws.length : Nat) : Int) = true := bnd_of (by omega) (by omega)
  have hmod2 : ∀ x, modD (.int x) (.int (ws.length : Nat)) = some (false, .int (x % (ws.length : Nat))) := fun x => mod_pos (by omega)
  have hlc : (eLc (iRange1 (bCons (eOpN lenD (bCons (eVar 0) bNil)) bNil)) [1] (gN 1) tYs (eOp2 subD (eOp2 ixD (eVar 0) (eVar 1)) (eOp2 ixD (eVar 0) (eOp2 modD (eOp2 addD (eVar 1) (eCst (.int 1))) (eOpN lenD (bCons (eVar 0) bNil)))))) ⟨[.fz (.tup (ws.map D.int)), .un], S⟩ =
      .ok ⟨[.fz (.tup (ws.map D.int)), .un], S⟩ (.fr, .lst ((gapL ws).map D.int)) := by
    refine (eLc_map (p1 := ⟨[.fz (.tup (ws.map D.int)), .un], S⟩) (List.range ws.length) (fun j => .int (0 + (j : Nat))) (fun j => .int (gaps ws j)) ?_ ?_ ?_).trans ?_
    · rw [← rng_nat]
      simp only [denFn, startP, outF, frOf, sSeq, sIf, sSet, sRet, sRetN, sExpr, sNil, sBrk, sCnt, sAug, sPar, sTgt, sApp, sExt, sStIx, sFor, eVar, eCst, eOp2, eOp1, eOpN, eChain, eAnd2, eOr2, eNot1, eIfE, tOfV, tTru, tAnd2, tOr2, tNot1, tYs, aNil, aCons, bNil, bCons, eTup, eLst, eDct0, eSl, eMthS, eCall, gN, gT, gSeq, iVal, iRange1, iRange2, iEnumr, itemsD, opOut, kdOf, deref, derefs, PSt.put, PSt.frzK, PSt.frz, Out.bind, Option.bind, Option.map, add_int, sub_int, addI, ix_tupE, ix_lstE, isTx, isntD2, isD2, isNone, guard', stIx, held, isKey, List.map_cons, List.map_nil, List.length_cons, List.length_nil, List.replicate_succ, List.replicate_zero, List.cons_append, List.nil_append, List.append_nil, List.getElem?_cons_zero, List.getElem?_cons_succ, List.set_cons_zero, List.set_cons_succ, Nat.reduceAdd, Nat.reduceSub, Nat.reduceEqDiff, if_true, if_false, ite_true, ite_false, reduceIte, at0, at1, at2, at3, eq_int, ne_int, ge_int, le_int, lt_int, gt_int, len_lst, len_tup, len_dct, intD, absD, List.length_map, Bool.not_true, Bool.not_false, Bool.false_eq_true, hb]
    · intro k hk
      have hk := List.mem_range.mp hk
      have a1 := wAt_at hk
      have a2 := wAt_is h1 (k + 1)
      have a3 : ((k + 1 : Nat) : Int) = (k : Int) + 1 := by omega
      rw [a3] at a2
      refine ⟨⟨[.fz (.tup (ws.map D.int)), .fz (.int (k : Nat))], S⟩, ⟨[.fz (.tup (ws.map D.int)), .fz (.int (k : Nat))], S⟩, .fz, by rw [Int.zero_add]; rfl, ?_, rfl⟩
      simp only [denFn, startP, outF, frOf, sSeq, sIf, sSet, sRet, sRetN, sExpr, sNil, sBrk, sCnt, sAug, sPar, sTgt, sApp, sExt, sStIx, sFor, eVar, eCst, eOp2, eOp1, eOpN, eChain, eAnd2, eOr2, eNot1, eIfE, tOfV, tTru, tAnd2, tOr2, tNot1, tYs, aNil, aCons, bNil, bCons, eTup, eLst, eDct0, eSl, eMthS, eCall, gN, gT, gSeq, iVal, iRange1, iRange2, iEnumr, itemsD, opOut, kdOf, deref, derefs, PSt.put, PSt.frzK, PSt.frz, Out.bind, Option.bind, Option.map, add_int, sub_int, addI, ix_tupE, ix_lstE, isTx, isntD2, isD2, isNone, guard', stIx, held, isKey, List.map_cons, List.map_nil, List.length_cons, List.length_nil, List.replicate_succ, List.replicate_zero, List.cons_append, List.nil_append, List.append_nil, List.getElem?_cons_zero, List.getElem?_cons_succ, List.set_cons_zero, List.set_cons_succ, Nat.reduceAdd, Nat.reduceSub, Nat.reduceEqDiff, if_true, if_false, ite_true, ite_false, reduceIte, at0, at1, at2, at3, eq_int, ne_int, ge_int, le_int, lt_int, gt_int, len_lst, len_tup, len_dct, intD, absD, List.length_map, Bool.not_true, Bool.not_false, Bool.false_eq_true, a1, a2, hmod2, gaps]
    · rw [List.length_range]; omega
    · unfold gapL
      rw [List.map_map]; rfl
  unfold g__law_gaps b__law_gaps
  refine denFn_run rfl ?_
  simp only [denFn, startP, outF, frOf, sSeq, sIf, sSet, sRet, sRetN, sExpr, sNil, sBrk, sCnt, sAug, sPar, sTgt, sApp, sExt, sStIx, sFor, eVar, eCst, eOp2, eOp1, eOpN, eChain, eAnd2, eOr2, eNot1, eIfE, tOfV, tTru, tAnd2, tOr2, tNot1, tYs, aNil, aCons, bNil, bCons, eTup, eLst, eDct0, eSl, eMthS, eCall, gN, gT, gSeq, iVal, iRange1, iRange2, iEnumr, itemsD, opOut, kdOf, deref, derefs, PSt.put, PSt.frzK, PSt.frz, Out.bind, Option.bind, Option.map, add_int, sub_int, addI, ix_tupE, ix_lstE, isTx, isntD2, isD2, isNone, guard', stIx, held, isKey, List.map_cons, List.map_nil, List.length_cons, List.length_nil, List.replicate_succ, List.replicate_zero, List.cons_append, List.nil_append, List.append_nil, List.getElem?_cons_zero, List.getElem?_cons_succ, List.set_cons_zero, List.set_cons_succ, Nat.reduceAdd, Nat.reduceSub, Nat.reduceEqDiff, if_true, if_false, ite_true, ite_false, reduceIte, at0, at1, at2, at3, eq_int, ne_int, ge_int, le_int, lt_int, gt_int, len_lst, len_tup, len_dct, intD, absD, List.length_map, Bool.not_true, Bool.not_false, Bool.false_eq_true, hlc]
theorem tR_jK {m : Int} {ws : List Int} : ∀ (ks : List Nat), (∀ k ∈ ks, k < ws.length) → tR m ws ks = jK m (gapL ws) ks
  | [], _ => rfl
  | k :: r, h => by
    have hk := h k List.mem_cons_self
    have e : (gapL ws).getD k 0 = gaps ws k := by
      unfold gapL
      rw [List.getD_eq_getElem?_getD, List.getElem?_map, List.getElem?_range hk]; rfl
    show (if miss m (gaps ws k % m) = true then some (tMiss m k (gaps ws k % m)) else tR m ws r) = (if miss m ((gapL ws).getD k 0 % m) = true then some (tMiss m k ((gapL ws).getD k 0 % m)) else jK m (gapL ws) r)
    rw [e, tR_jK r fun i hi => h i (List.mem_cons_of_mem _ hi)]
theorem jR_jK {m : Int} {ws : List Int} (hw : ∀ w ∈ ws, 0 ≤ w ∧ w < m) : ∀ (r : List Int) (k : Nat), ws.drop k = r → jR m k r = jK m ws (List.range' k r.length)
  | [], k, _ => rfl
  | w :: r, k, h => by
    have hk : k < ws.length := by
      rcases Nat.lt_or_ge k ws.length with q | q
      · exact q
      · rw [List.drop_of_length_le q] at h; cases h
    rw [List.drop_eq_getElem_cons hk] at h
    injection h with h1 h2
    have e : ws.getD k 0 = w := by
      rw [List.getD_eq_getElem?_getD, List.getElem?_eq_getElem hk, ← h1]; rfl
    obtain ⟨q1, q2⟩ := hw w (h1 ▸ List.getElem_mem hk)
    have em : w % m = w := Int.emod_eq_of_lt q1 q2
    rw [List.length_cons, List.range'_succ]
    show (if miss m w = true then some (tMiss m k w) else jR m (k + 1) r) = (if miss m (ws.getD k 0 % m) = true then some (tMiss m k (ws.getD k 0 % m)) else jK m ws (List.range' (k + 1) r.length))
    rw [e, em, jR_jK hw r (k + 1) h2]
end K56
namespace K56
open PySem PySem.Spec L2 PM
def optD : Option (List Int) → D
  | none => .non
  | some r => .tup (r.map D.int)
def tOk (m : Int) (row : List Int) : Bool := (tR m row (List.range row.length)).isNone
def goE (m : Int) (row : List Int) (w : Int) : Bool := row.isEmpty || !miss m ((row.getLastD 0 - w) % m)
def extM (m : Int) (many : Nat) (fits : List Int) : Nat → List Int → Option (List Int)
  | 0, _ => none
  | n + 1, row => if row.length = many then (if tOk m row = true then some row else none) else fits.findSome? fun w => if goE m row w = true then extM m many fits n (row ++ [w]) else none
theorem eq_finds : eqD2 tFinds tFinds = some (false, .bl true) := eq_same (by rfl)
theorem shaped_of {d : D} {p : PyData} (h : okD 64 d = true) (e : toPy d = some p) : SeqAt.shaped p = true := by
  obtain ⟨q, e', h1, h2⟩ := okD_py 64 d h
  rw [e] at e'
  cases e'
  unfold SeqAt.shaped
  rw [h1, decide_eq_true h2]; rfl
theorem eq_miss (m : Int) (k : Nat) (w : Int) : eqD2 (tMiss m k w) tFinds = some (false, .bl false) := by
  have h1 : toPy (tMiss m k w) = some (.tuple [.str (tx [109, 105, 115, 115, 101, 115]), .int k, .int 0, .int (m / dv m w)]) := rfl
  have h2 : toPy tFinds = some (.tuple [.str (tx [102, 105, 110, 100, 115])]) := rfl
  have s1 : SeqAt.shaped (.tuple [.str (tx [109, 105, 115, 115, 101, 115]), .int k, .int 0, .int (m / dv m w)]) = true := shaped_of (d := tMiss m k w) (by rfl) h1
  have s2 : SeqAt.shaped (.tuple [.str (tx [102, 105, 110, 100, 115])]) = true := shaped_of (d := tFinds) (by rfl) h2
  have hv : PyData.eqv (.tuple [.str (tx [109, 105, 115, 115, 101, 115]), .int k, .int 0, .int (m / dv m w)]) (.tuple [.str (tx [102, 105, 110, 100, 115])]) = false := by
    simp [PyData.eqv, PyData.eqvAll]
  unfold eqD2 eqD
  rw [h1, h2]
  simp only [s1, s2, and_self, if_true, hv]
  rfl
theorem eq_ret {m : Int} {o : Option D} (h : ∀ d, o = some d → ∃ k w, d = tMiss m k w) : eqD2 (retJ o) tFinds = some (false, .bl o.isNone) := by
  cases o with
  | none => exact eq_finds
  | some d =>
    obtain ⟨k, w, e⟩ := h d rfl
    subst e
    exact eq_miss m k w
theorem tR_miss {m : Int} {ws : List Int} : ∀ (ks : List Nat) (d : D), tR m ws ks = some d → ∃ k w, d = tMiss m k w
  | [], d, h => by cases h
  | k :: r, d, h => by
    have h : (if miss m (gaps ws k % m) = true then some (tMiss m k (gaps ws k % m)) else tR m ws r) = some d := h
    split at h
    · cases h; exact ⟨_, _, rfl⟩
    · exact tR_miss r d h
theorem last_at (r : List Int) (l : Int) : atI ((r ++ [l]).map D.int) (-1) = some (.int l) := by
  rw [List.map_append]
  exact atI_last _ _
def endO (p : PSt) : Option (List Int) → Out Fl
  | none => .ok p .nx
  | some r => .ok p (.rt .fz (.tup (r.map D.int)))
theorem ext_loop {m : Int} {many : Nat} {fits : List Int} (hm : 2 ≤ m) (hm2 : m ≤ 97) (row : List Int) (n : Nat) (S : List D) (hrow : row.length ≤ 20)
    (ih : ∀ w ∈ fits, gn_extended n [.int m, .tup ((row ++ [w]).map D.int), .int (many : Nat), .lst (fits.map D.int)] S = .ok S false (optD (extM m many fits n (row ++ [w])))) : ∀ (fs : List Int) (x y : Sl), (∀ w ∈ fs, w ∈ fits) → ∃ x' y',
    forLoop (gN 4) (sIf (tOr2 (tNot1 (tTru (eVar 1))) (tTru (eCall g_turns_found (aCons (eVar 0) (aCons (eOp2 ixD (eVar 1) (eOp1 negD (eCst (.int 1)))) (aCons (eVar 4) aNil)))))) (sSeq (sSet 5 (eCall (gn_extended n) (aCons (eVar 0) (aCons (eOp2 addD (eVar 1) (eTup (aCons (eVar 4) aNil))) (aCons (eVar 2) (aCons (eVar 3) aNil)))))) (sIf (tOfV (eOp2 isntD2 (eVar 5) (eCst .non))) (sRet (eVar 5)) sNil)) sNil)
      (fs.map D.int) ⟨[.fz (.int m), .fz (.tup (row.map D.int)), .fz (.int (many : Nat)), .fz (.lst (fits.map D.int)), x, y], S⟩ =
    endO ⟨[.fz (.int m), .fz (.tup (row.map D.int)), .fz (.int (many : Nat)), .fz (.lst (fits.map D.int)), x', y'], S⟩ (fs.findSome? fun w => if goE m row w = true then extM m many fits n (row ++ [w]) else none)
  | [], x, y, _ => ⟨x, y, rfl⟩
  | w :: fs, x, y, hf => by
    have hw := ih w (hf w List.mem_cons_self)
    have ha : addD (.tup (row.map D.int)) (.tup [.int w]) = some (false, .tup ((row ++ [w]).map D.int)) := by
      rw [List.map_append]
      show guard' (szB ((row.map D.int).length + 1)) (some (false, .tup (row.map D.int ++ [.int w]))) = _
      rw [szB_of (by rw [List.length_map]; omega)]; rfl
    have hsz : szB 1 = true := rfl
    rw [List.map_cons, List.findSome?_cons]
    have hgo : ∀ (p : PSt), p = ⟨[.fz (.int m), .fz (.tup (row.map D.int)), .fz (.int (many : Nat)), .fz (.lst (fits.map D.int)), .fz (.int w), y], S⟩ →
        (tOr2 (tNot1 (tTru (eVar 1))) (tTru (eCall g_turns_found (aCons (eVar 0) (aCons (eOp2 ixD (eVar 1) (eOp1 negD (eCst (.int 1)))) (aCons (eVar 4) aNil)))))) p = .ok p (goE m row w) := fun p hp => by
      subst hp
      rcases List.eq_nil_or_concat row with e | ⟨r, l, e⟩
      · subst e; rfl
      · rw [List.concat_eq_append] at e
        subst e
        have hl := last_at r l
        have ht := turns_found_is (a := l) (b := w) hm hm2 S
        have he : truD (.tup ((r ++ [l]).map D.int)) = some true := by
          show some (!((r ++ [l]).map D.int).isEmpty) = some true
          simp
        have hg : goE m (r ++ [l]) w = !miss m ((l - w) % m) := by
          unfold goE
          simp
        have hn : negD (.int 1) = some (false, .int (-1)) := rfl
        have hb : ∀ b, truD (.bl b) = some b := fun _ => rfl
        simp only [denFn, startP, outF, frOf, sSeq, sIf, sSet, sRet, sRetN, sExpr, sNil, sBrk, sCnt, sAug, sPar, sTgt, sApp, sExt, sStIx, sFor, eVar, eCst, eOp2, eOp1, eOpN, eChain, eAnd2, eOr2, eNot1, eIfE, tOfV, tTru, tAnd2, tOr2, tNot1, tYs, aNil, aCons, bNil, bCons, eTup, eLst, eDct0, eSl, eMthS, eCall, gN, gT, gSeq, iVal, iRange1, iRange2, iEnumr, itemsD, opOut, kdOf, deref, derefs, PSt.put, PSt.frzK, PSt.frz, Out.bind, Option.bind, Option.map, add_int, sub_int, addI, ix_tupE, ix_lstE, isTx, isntD2, isD2, isNone, guard', stIx, held, isKey, List.map_cons, List.map_nil, List.length_cons, List.length_nil, List.replicate_succ, List.replicate_zero, List.cons_append, List.nil_append, List.append_nil, List.getElem?_cons_zero, List.getElem?_cons_succ, List.set_cons_zero, List.set_cons_succ, Nat.reduceAdd, Nat.reduceSub, Nat.reduceEqDiff, if_true, if_false, ite_true, ite_false, reduceIte, at0, at1, at2, at3, eq_int, ne_int, ge_int, le_int, lt_int, gt_int, len_lst, len_tup, len_dct, intD, absD, List.length_map, Bool.not_true, Bool.not_false, Bool.false_eq_true, he, hn, hl, ht, hg, hb]
    by_cases c : goE m row w = true
    · rw [if_pos c]
      cases ce : extM m many fits n (row ++ [w]) with
      | some r =>
        rw [ce] at hw
        refine ⟨.fz (.int w), .fz (.tup (r.map D.int)), ?_⟩
        refine forLoop_rt (p1 := ⟨[.fz (.int m), .fz (.tup (row.map D.int)), .fz (.int (many : Nat)), .fz (.lst (fits.map D.int)), .fz (.int w), y], S⟩) rfl ?_
        unfold sIf
        rw [hgo _ rfl, c]
        simp only [denFn, startP, outF, frOf, sSeq, sIf, sSet, sRet, sRetN, sExpr, sNil, sBrk, sCnt, sAug, sPar, sTgt, sApp, sExt, sStIx, sFor, eVar, eCst, eOp2, eOp1, eOpN, eChain, eAnd2, eOr2, eNot1, eIfE, tOfV, tTru, tAnd2, tOr2, tNot1, tYs, aNil, aCons, bNil, bCons, eTup, eLst, eDct0, eSl, eMthS, eCall, gN, gT, gSeq, iVal, iRange1, iRange2, iEnumr, itemsD, opOut, kdOf, deref, derefs, PSt.put, PSt.frzK, PSt.frz, Out.bind, Option.bind, Option.map, add_int, sub_int, addI, ix_tupE, ix_lstE, isTx, isntD2, isD2, isNone, guard', stIx, held, isKey, List.map_cons, List.map_nil, List.length_cons, List.length_nil, List.replicate_succ, List.replicate_zero, List.cons_append, List.nil_append, List.append_nil, List.getElem?_cons_zero, List.getElem?_cons_succ, List.set_cons_zero, List.set_cons_succ, Nat.reduceAdd, Nat.reduceSub, Nat.reduceEqDiff, if_true, if_false, ite_true, ite_false, reduceIte, at0, at1, at2, at3, eq_int, ne_int, ge_int, le_int, lt_int, gt_int, len_lst, len_tup, len_dct, intD, absD, List.length_map, Bool.not_true, Bool.not_false, Bool.false_eq_true, ha, hw, hsz, optD]
      | none =>
        rw [ce] at hw
        obtain ⟨x', y', e⟩ := ext_loop hm hm2 row n S hrow ih fs (.fz (.int w)) (.fz .non) (fun i hi => hf i (List.mem_cons_of_mem _ hi))
        refine ⟨x', y', ?_⟩
        rw [← e]
        refine forLoop_cons (p1 := ⟨[.fz (.int m), .fz (.tup (row.map D.int)), .fz (.int (many : Nat)), .fz (.lst (fits.map D.int)), .fz (.int w), y], S⟩) rfl ?_
        unfold sIf
        rw [hgo _ rfl, c]
        simp only [denFn, startP, outF, frOf, sSeq, sIf, sSet, sRet, sRetN, sExpr, sNil, sBrk, sCnt, sAug, sPar, sTgt, sApp, sExt, sStIx, sFor, eVar, eCst, eOp2, eOp1, eOpN, eChain, eAnd2, eOr2, eNot1, eIfE, tOfV, tTru, tAnd2, tOr2, tNot1, tYs, aNil, aCons, bNil, bCons, eTup, eLst, eDct0, eSl, eMthS, eCall, gN, gT, gSeq, iVal, iRange1, iRange2, iEnumr, itemsD, opOut, kdOf, deref, derefs, PSt.put, PSt.frzK, PSt.frz, Out.bind, Option.bind, Option.map, add_int, sub_int, addI, ix_tupE, ix_lstE, isTx, isntD2, isD2, isNone, guard', stIx, held, isKey, List.map_cons, List.map_nil, List.length_cons, List.length_nil, List.replicate_succ, List.replicate_zero, List.cons_append, List.nil_append, List.append_nil, List.getElem?_cons_zero, List.getElem?_cons_succ, List.set_cons_zero, List.set_cons_succ, Nat.reduceAdd, Nat.reduceSub, Nat.reduceEqDiff, if_true, if_false, ite_true, ite_false, reduceIte, at0, at1, at2, at3, eq_int, ne_int, ge_int, le_int, lt_int, gt_int, len_lst, len_tup, len_dct, intD, absD, List.length_map, Bool.not_true, Bool.not_false, Bool.false_eq_true, ha, hw, hsz, optD]
    · rw [if_neg c]
      have c' : goE m row w = false := by simpa using c
      obtain ⟨x', y', e⟩ := ext_loop hm hm2 row n S hrow ih fs (.fz (.int w)) y (fun i hi => hf i (List.mem_cons_of_mem _ hi))
      refine ⟨x', y', ?_⟩
      rw [← e]
      refine forLoop_cons (p1 := ⟨[.fz (.int m), .fz (.tup (row.map D.int)), .fz (.int (many : Nat)), .fz (.lst (fits.map D.int)), .fz (.int w), y], S⟩) rfl ?_
      unfold sIf
      rw [hgo _ rfl, c']
      rfl
theorem gn_is {m : Int} {many : Nat} {fits : List Int} (hm : 2 ≤ m) (hm2 : m ≤ 97) (h1 : 1 ≤ many) (h12 : many ≤ 12) (hf : ∀ w ∈ fits, 0 ≤ w ∧ w < m) (S : List D) : ∀ (n : Nat) (row : List Int), row.length ≤ many → many < n + row.length → (∀ w ∈ row, 0 ≤ w ∧ w < m) →
    gn_extended n [.int m, .tup (row.map D.int), .int (many : Nat), .lst (fits.map D.int)] S = .ok S false (optD (extM m many fits n row))
  | 0, row, hl, hn, _ => by omega
  | n + 1, row, hl, hn, hw => by
    show denFn 4 6 (b_extended (gn_extended n)) _ S = _
    unfold b_extended
    refine denFn_run rfl ?_
    have e3 : startP 6 [.int m, .tup (row.map D.int), .int (many : Nat), .lst (fits.map D.int)] S = ⟨[.fz (.int m), .fz (.tup (row.map D.int)), .fz (.int (many : Nat)), .fz (.lst (fits.map D.int)), .un, .un], S⟩ := rfl
    rw [e3]
    by_cases c : row.length = many
    · have c2 : ((row.length : Nat) : Int) = ((many : Nat) : Int) := by omega
      have hj := judge_turns_is (ws := row) ⟨hm, hm2, by omega, by omega, hw⟩ S
      have e0 : extM m many fits (n + 1) row = if tOk m row = true then some row else none := if_pos c
      rw [e0]
      have hsz : szB 1 = true := rfl
      by_cases ct : tOk m row = true
      · have ho : tR m row (List.range row.length) = none := Option.isNone_iff_eq_none.mp ct
        have he := eq_finds
        rw [ho] at hj
        simp only [retJ, tFinds] at hj he
        rw [if_pos ct, sSeq_rt (p1 := ⟨[.fz (.int m), .fz (.tup (row.map D.int)), .fz (.int (many : Nat)), .fz (.lst (fits.map D.int)), .un, .un], S⟩) (k := .fz) (d := .tup (row.map D.int)) (by simp only [denFn, startP, outF, frOf, sSeq, sIf, sSet, sRet, sRetN, sExpr, sNil, sBrk, sCnt, sAug, sPar, sTgt, sApp, sExt, sStIx, sFor, eVar, eCst, eOp2, eOp1, eOpN, eChain, eAnd2, eOr2, eNot1, eIfE, tOfV, tTru, tAnd2, tOr2, tNot1, tYs, aNil, aCons, bNil, bCons, eTup, eLst, eDct0, eSl, eMthS, eCall, gN, gT, gSeq, iVal, iRange1, iRange2, iEnumr, itemsD, opOut, kdOf, deref, derefs, PSt.put, PSt.frzK, PSt.frz, Out.bind, Option.bind, Option.map, add_int, sub_int, addI, ix_tupE, ix_lstE, isTx, isntD2, isD2, isNone, guard', stIx, held, isKey, List.map_cons, List.map_nil, List.length_cons, List.length_nil, List.replicate_succ, List.replicate_zero, List.cons_append, List.nil_append, List.append_nil, List.getElem?_cons_zero, List.getElem?_cons_succ, List.set_cons_zero, List.set_cons_succ, Nat.reduceAdd, Nat.reduceSub, Nat.reduceEqDiff, if_true, if_false, ite_true, ite_false, reduceIte, at0, at1, at2, at3, eq_int, ne_int, ge_int, le_int, lt_int, gt_int, len_lst, len_tup, len_dct, intD, absD, List.length_map, Bool.not_true, Bool.not_false, Bool.false_eq_true, c2, decide_true, hj, he, hsz])]
        rfl
      · have hne : tR m row (List.range row.length) ≠ none := fun z => ct (by unfold tOk; rw [z]; rfl)
        obtain ⟨d, hd⟩ := Option.ne_none_iff_exists'.mp hne
        obtain ⟨k, w, e⟩ := tR_miss _ _ hd
        subst e
        have he := eq_miss m k w
        rw [hd] at hj
        simp only [retJ, tFinds, tMiss] at hj he
        rw [if_neg ct, sSeq_rt (p1 := ⟨[.fz (.int m), .fz (.tup (row.map D.int)), .fz (.int (many : Nat)), .fz (.lst (fits.map D.int)), .un, .un], S⟩) (k := .fz) (d := .non) (by simp only [denFn, startP, outF, frOf, sSeq, sIf, sSet, sRet, sRetN, sExpr, sNil, sBrk, sCnt, sAug, sPar, sTgt, sApp, sExt, sStIx, sFor, eVar, eCst, eOp2, eOp1, eOpN, eChain, eAnd2, eOr2, eNot1, eIfE, tOfV, tTru, tAnd2, tOr2, tNot1, tYs, aNil, aCons, bNil, bCons, eTup, eLst, eDct0, eSl, eMthS, eCall, gN, gT, gSeq, iVal, iRange1, iRange2, iEnumr, itemsD, opOut, kdOf, deref, derefs, PSt.put, PSt.frzK, PSt.frz, Out.bind, Option.bind, Option.map, add_int, sub_int, addI, ix_tupE, ix_lstE, isTx, isntD2, isD2, isNone, guard', stIx, held, isKey, List.map_cons, List.map_nil, List.length_cons, List.length_nil, List.replicate_succ, List.replicate_zero, List.cons_append, List.nil_append, List.append_nil, List.getElem?_cons_zero, List.getElem?_cons_succ, List.set_cons_zero, List.set_cons_succ, Nat.reduceAdd, Nat.reduceSub, Nat.reduceEqDiff, if_true, if_false, ite_true, ite_false, reduceIte, at0, at1, at2, at3, eq_int, ne_int, ge_int, le_int, lt_int, gt_int, len_lst, len_tup, len_dct, intD, absD, List.length_map, Bool.not_true, Bool.not_false, Bool.false_eq_true, c2, decide_true, hj, he, hsz])]
        rfl
    · have c2 : ¬ ((row.length : Nat) : Int) = ((many : Nat) : Int) := by omega
      rw [sSeq_nx (p1 := ⟨[.fz (.int m), .fz (.tup (row.map D.int)), .fz (.int (many : Nat)), .fz (.lst (fits.map D.int)), .un, .un], S⟩) (by simp only [denFn, startP, outF, frOf, sSeq, sIf, sSet, sRet, sRetN, sExpr, sNil, sBrk, sCnt, sAug, sPar, sTgt, sApp, sExt, sStIx, sFor, eVar, eCst, eOp2, eOp1, eOpN, eChain, eAnd2, eOr2, eNot1, eIfE, tOfV, tTru, tAnd2, tOr2, tNot1, tYs, aNil, aCons, bNil, bCons, eTup, eLst, eDct0, eSl, eMthS, eCall, gN, gT, gSeq, iVal, iRange1, iRange2, iEnumr, itemsD, opOut, kdOf, deref, derefs, PSt.put, PSt.frzK, PSt.frz, Out.bind, Option.bind, Option.map, add_int, sub_int, addI, ix_tupE, ix_lstE, isTx, isntD2, isD2, isNone, guard', stIx, held, isKey, List.map_cons, List.map_nil, List.length_cons, List.length_nil, List.replicate_succ, List.replicate_zero, List.cons_append, List.nil_append, List.append_nil, List.getElem?_cons_zero, List.getElem?_cons_succ, List.set_cons_zero, List.set_cons_succ, Nat.reduceAdd, Nat.reduceSub, Nat.reduceEqDiff, if_true, if_false, ite_true, ite_false, reduceIte, at0, at1, at2, at3, eq_int, ne_int, ge_int, le_int, lt_int, gt_int, len_lst, len_tup, len_dct, intD, absD, List.length_map, Bool.not_true, Bool.not_false, Bool.false_eq_true, c2, decide_false])]
      have ih : ∀ w ∈ fits, gn_extended n [.int m, .tup ((row ++ [w]).map D.int), .int (many : Nat), .lst (fits.map D.int)] S = .ok S false (optD (extM m many fits n (row ++ [w]))) := fun w hwf =>
        gn_is hm hm2 h1 h12 hf S n (row ++ [w]) (by rw [List.length_append, List.length_singleton]; omega) (by rw [List.length_append, List.length_singleton]; omega) (fun v hv => (List.mem_append.mp hv).elim (hw v) fun q => by cases List.mem_singleton.mp q; exact hf w hwf)
      obtain ⟨x, y, e⟩ := ext_loop hm hm2 row n S (by omega) ih fits .un .un (fun _ h => h)
      have e0 : extM m many fits (n + 1) row = fits.findSome? fun w => if goE m row w = true then extM m many fits n (row ++ [w]) else none := if_neg c
      rw [e0]
      cases co : (fits.findSome? fun w => if goE m row w = true then extM m many fits n (row ++ [w]) else none) with
      | none =>
        rw [co] at e
        rw [sSeq_for rfl e]
        rfl
      | some r =>
        rw [co] at e
        rw [sSeq_forR rfl e]
        rfl
def fitsM (m : Int) : List Int := ((List.range m.toNat).map fun k : Nat => (k : Int)).filter fun w => !miss m w
theorem good_weights_is {m : Int} {many : Nat} (hm : 2 ≤ m) (hm2 : m ≤ 97) (h1 : 1 ≤ many) (h4 : many ≤ 4) (S : List D) : g_good_weights [.int m, .int (many : Nat)] S = .ok S false (optD (extM m many (fitsM m) 6 [])) := by
  have hb : bnd m = true := bnd_of (by omega) (by omega)
  have hsz : szB 1 = true := rfl
  have hlc : (eLc (iRange1 (bCons (eVar 0) bNil)) [3] (gN 3) (tOfV (eOp2 eqD2 (eCall g_judge_changes (aCons (eVar 0) (aCons (eTup (aCons (eVar 3) aNil)) aNil))) (eTup (aCons (eCst (.str [102, 105, 110, 100, 115])) aNil)))) (eVar 3)) ⟨[.fz (.int m), .fz (.int (many : Nat)), .un, .un], S⟩ =
      .ok ⟨[.fz (.int m), .fz (.int (many : Nat)), .un, .un], S⟩ (.fr, .lst ((fitsM m).map D.int)) := by
    refine (eLc_filter (p1 := ⟨[.fz (.int m), .fz (.int (many : Nat)), .un, .un], S⟩) (List.range m.toNat) (fun j => .int (0 + (j : Nat))) (fun j => .int (j : Nat)) (fun j => !miss m (j : Nat)) ?_ ?_ ?_).trans ?_
    · rw [← rng_nat, Int.toNat_of_nonneg (by omega)]
      simp only [denFn, startP, outF, frOf, sSeq, sIf, sSet, sRet, sRetN, sExpr, sNil, sBrk, sCnt, sAug, sPar, sTgt, sApp, sExt, sStIx, sFor, eVar, eCst, eOp2, eOp1, eOpN, eChain, eAnd2, eOr2, eNot1, eIfE, tOfV, tTru, tAnd2, tOr2, tNot1, tYs, aNil, aCons, bNil, bCons, eTup, eLst, eDct0, eSl, eMthS, eCall, gN, gT, gSeq, iVal, iRange1, iRange2, iEnumr, itemsD, opOut, kdOf, deref, derefs, PSt.put, PSt.frzK, PSt.frz, Out.bind, Option.bind, Option.map, add_int, sub_int, addI, ix_tupE, ix_lstE, isTx, isntD2, isD2, isNone, guard', stIx, held, isKey, List.map_cons, List.map_nil, List.length_cons, List.length_nil, List.replicate_succ, List.replicate_zero, List.cons_append, List.nil_append, List.append_nil, List.getElem?_cons_zero, List.getElem?_cons_succ, List.set_cons_zero, List.set_cons_succ, Nat.reduceAdd, Nat.reduceSub, Nat.reduceEqDiff, if_true, if_false, ite_true, ite_false, reduceIte, at0, at1, at2, at3, eq_int, ne_int, ge_int, le_int, lt_int, gt_int, len_lst, len_tup, len_dct, intD, absD, List.length_map, Bool.not_true, Bool.not_false, Bool.false_eq_true, hb]
    · intro j hj
      have hj := List.mem_range.mp hj
      have hc : Code m [(j : Int)] := ⟨hm, hm2, by simp, by simp, fun w hw => by cases List.mem_singleton.mp hw; omega⟩
      have hjc := judge_changes_is hc S
      have e1 : jR m 0 [(j : Int)] = if miss m (j : Nat) = true then some (tMiss m 0 (j : Nat)) else none := rfl
      have hjc : g_judge_changes [.int m, .tup [.int (j : Int)]] S = .ok S false (retJ (jR m 0 [(j : Int)])) := hjc
      refine ⟨⟨[.fz (.int m), .fz (.int (many : Nat)), .un, .fz (.int (j : Nat))], S⟩, ⟨[.fz (.int m), .fz (.int (many : Nat)), .un, .fz (.int (j : Nat))], S⟩, by rw [Int.zero_add]; rfl, ?_, fun _ => rfl, fun _ => ⟨_, .fz, rfl, rfl⟩⟩
      rw [e1] at hjc
      cases cm : miss m (j : Nat) with
      | true =>
        have he := eq_miss m 0 (j : Nat)
        rw [cm] at hjc
        simp only [if_true, retJ, tFinds, tMiss] at hjc he
        simp only [denFn, startP, outF, frOf, sSeq, sIf, sSet, sRet, sRetN, sExpr, sNil, sBrk, sCnt, sAug, sPar, sTgt, sApp, sExt, sStIx, sFor, eVar, eCst, eOp2, eOp1, eOpN, eChain, eAnd2, eOr2, eNot1, eIfE, tOfV, tTru, tAnd2, tOr2, tNot1, tYs, aNil, aCons, bNil, bCons, eTup, eLst, eDct0, eSl, eMthS, eCall, gN, gT, gSeq, iVal, iRange1, iRange2, iEnumr, itemsD, opOut, kdOf, deref, derefs, PSt.put, PSt.frzK, PSt.frz, Out.bind, Option.bind, Option.map, add_int, sub_int, addI, ix_tupE, ix_lstE, isTx, isntD2, isD2, isNone, guard', stIx, held, isKey, List.map_cons, List.map_nil, List.length_cons, List.length_nil, List.replicate_succ, List.replicate_zero, List.cons_append, List.nil_append, List.append_nil, List.getElem?_cons_zero, List.getElem?_cons_succ, List.set_cons_zero, List.set_cons_succ, Nat.reduceAdd, Nat.reduceSub, Nat.reduceEqDiff, if_true, if_false, ite_true, ite_false, reduceIte, at0, at1, at2, at3, eq_int, ne_int, ge_int, le_int, lt_int, gt_int, len_lst, len_tup, len_dct, intD, absD, List.length_map, Bool.not_true, Bool.not_false, Bool.false_eq_true, hsz, hjc, he]
      | false =>
        have he := eq_finds
        rw [cm] at hjc
        simp only [Bool.false_eq_true, if_false, retJ, tFinds] at hjc he
        simp only [denFn, startP, outF, frOf, sSeq, sIf, sSet, sRet, sRetN, sExpr, sNil, sBrk, sCnt, sAug, sPar, sTgt, sApp, sExt, sStIx, sFor, eVar, eCst, eOp2, eOp1, eOpN, eChain, eAnd2, eOr2, eNot1, eIfE, tOfV, tTru, tAnd2, tOr2, tNot1, tYs, aNil, aCons, bNil, bCons, eTup, eLst, eDct0, eSl, eMthS, eCall, gN, gT, gSeq, iVal, iRange1, iRange2, iEnumr, itemsD, opOut, kdOf, deref, derefs, PSt.put, PSt.frzK, PSt.frz, Out.bind, Option.bind, Option.map, add_int, sub_int, addI, ix_tupE, ix_lstE, isTx, isntD2, isD2, isNone, guard', stIx, held, isKey, List.map_cons, List.map_nil, List.length_cons, List.length_nil, List.replicate_succ, List.replicate_zero, List.cons_append, List.nil_append, List.append_nil, List.getElem?_cons_zero, List.getElem?_cons_succ, List.set_cons_zero, List.set_cons_succ, Nat.reduceAdd, Nat.reduceSub, Nat.reduceEqDiff, if_true, if_false, ite_true, ite_false, reduceIte, at0, at1, at2, at3, eq_int, ne_int, ge_int, le_int, lt_int, gt_int, len_lst, len_tup, len_dct, intD, absD, List.length_map, Bool.not_true, Bool.not_false, Bool.false_eq_true, hsz, hjc, he]
    · rw [List.length_range]; omega
    · unfold fitsM
      rw [List.filter_map, List.map_map]; rfl
  have hf : ∀ w ∈ fitsM m, 0 ≤ w ∧ w < m := fun w hw => by
    obtain ⟨k, hk, e⟩ := List.mem_map.mp (List.mem_filter.mp hw).1
    have hk := List.mem_range.mp hk
    omega
  have hx := gn_is hm hm2 h1 (by omega) hf S 6 [] (Nat.zero_le _) (by simp; omega) (fun _ h => by cases h)
  have hx : g_extended [.int m, .tup [], .int (many : Nat), .lst ((fitsM m).map D.int)] S = _ := hx
  have q1 : (1 : Int) ≤ (many : Nat) := by omega
  have q2 : ((many : Nat) : Int) ≤ 4 := by omega
  have hsz0 : szB 0 = true := rfl
  unfold g_good_weights b_good_weights
  refine denFn_run rfl ?_
  simp only [denFn, startP, outF, frOf, sSeq, sIf, sSet, sRet, sRetN, sExpr, sNil, sBrk, sCnt, sAug, sPar, sTgt, sApp, sExt, sStIx, sFor, eVar, eCst, eOp2, eOp1, eOpN, eChain, eAnd2, eOr2, eNot1, eIfE, tOfV, tTru, tAnd2, tOr2, tNot1, tYs, aNil, aCons, bNil, bCons, eTup, eLst, eDct0, eSl, eMthS, eCall, gN, gT, gSeq, iVal, iRange1, iRange2, iEnumr, itemsD, opOut, kdOf, deref, derefs, PSt.put, PSt.frzK, PSt.frz, Out.bind, Option.bind, Option.map, add_int, sub_int, addI, ix_tupE, ix_lstE, isTx, isntD2, isD2, isNone, guard', stIx, held, isKey, List.map_cons, List.map_nil, List.length_cons, List.length_nil, List.replicate_succ, List.replicate_zero, List.cons_append, List.nil_append, List.append_nil, List.getElem?_cons_zero, List.getElem?_cons_succ, List.set_cons_zero, List.set_cons_succ, Nat.reduceAdd, Nat.reduceSub, Nat.reduceEqDiff, if_true, if_false, ite_true, ite_false, reduceIte, at0, at1, at2, at3, eq_int, ne_int, ge_int, le_int, lt_int, gt_int, len_lst, len_tup, len_dct, intD, absD, List.length_map, Bool.not_true, Bool.not_false, Bool.false_eq_true, is_integer_is, truD, hm, hm2, q1, q2, decide_true, hlc, hx, hsz0]
end K56
namespace K56
open PySem PySem.Spec L2 PM
def rowD (r : List Int) : D := .tup (r.map D.int)
def nxtR (m : Int) (rows : List (List Int)) : List (List Int) := rows.flatMap fun r => (fitsM m).map fun w => r ++ [w]
def rowsN (m : Int) : Nat → List (List Int) → List (List Int)
  | 0, rows => rows
  | k + 1, rows => rowsN m k (nxtR m rows)
theorem gap_small {m : Int} {ws : List Int} (h : Code m ws) : ∀ g ∈ gapL ws, g.natAbs < 2 ^ 64 := fun g hg => by
  obtain ⟨k, _, rfl⟩ := List.mem_map.mp hg
  have h1 : ∀ k, 0 ≤ wAt ws k ∧ wAt ws k < 98 := fun k => by
    unfold wAt
    rw [List.getD_eq_getElem?_getD]
    cases e : ws[k % ws.length]? with
    | none => simp
    | some v =>
      obtain ⟨q1, q2⟩ := h.w v (List.mem_of_getElem? e)
      have := h.m2
      simp only [Option.getD_some]
      omega
  have a := h1 k
  have b := h1 (k + 1)
  unfold gaps
  omega
theorem gapL_len (ws : List Int) : (gapL ws).length = ws.length := by unfold gapL; rw [List.length_map, List.length_range]
theorem judged_row {m : Int} {row : List Int} (h : Code m row) (S : List D) : g__law_judged [.int m, .lst ((gapL row).map D.int)] S = .ok S false (retJ (tR m row (List.range row.length))) := by
  rw [ljudged_is h.m1 (gap_small h) (by rw [gapL_len]; have := h.w2; omega), gapL_len, tR_jK _ fun k hk => List.mem_range.mp hk]
theorem ext_lc {m : Int} (hm : 2 ≤ m) (hm2 : m ≤ 97) (d1 d2 d3 : D) (x4 : Sl) (row : List Int) (hr : row.length ≤ 20) (S : List D) :
    (eLc (iRange1 (bCons (eVar 0) bNil)) [6] (gN 6) (tOfV (eOp2 isD2 (eCall g__law_alike (aCons (eVar 0) (aCons (eVar 6) aNil))) (eCst .non))) (eOp2 addD (eVar 5) (eTup (aCons (eVar 6) aNil)))) ⟨[.fz (.int m), .fz d1, .fz d2, .fz d3, x4, .fz (rowD row), .un], S⟩ =
    .ok ⟨[.fz (.int m), .fz d1, .fz d2, .fz d3, x4, .fz (rowD row), .un], S⟩ (.fr, .lst (((fitsM m).map fun w => row ++ [w]).map rowD)) := by
  have hb : bnd m = true := bnd_of (by omega) (by omega)
  have hsz : szB 1 = true := rfl
  refine (eLc_filter (p1 := ⟨[.fz (.int m), .fz d1, .fz d2, .fz d3, x4, .fz (rowD row), .un], S⟩) (List.range m.toNat) (fun j => .int (0 + (j : Nat))) (fun j => rowD (row ++ [(j : Int)])) (fun j => !miss m (j : Nat)) ?_ ?_ ?_).trans ?_
  · rw [← rng_nat, Int.toNat_of_nonneg (by omega)]
    simp only [denFn, startP, outF, frOf, sSeq, sIf, sSet, sRet, sRetN, sExpr, sNil, sBrk, sCnt, sAug, sPar, sTgt, sApp, sExt, sStIx, sFor, eVar, eCst, eOp2, eOp1, eOpN, eChain, eAnd2, eOr2, eNot1, eIfE, tOfV, tTru, tAnd2, tOr2, tNot1, tYs, aNil, aCons, bNil, bCons, eTup, eLst, eDct0, eSl, eMthS, eCall, gN, gT, gSeq, iVal, iRange1, iRange2, iEnumr, itemsD, opOut, kdOf, deref, derefs, PSt.put, PSt.frzK, PSt.frz, Out.bind, Option.bind, Option.map, add_int, sub_int, addI, ix_tupE, ix_lstE, isTx, isntD2, isD2, isNone, guard', stIx, held, isKey, List.map_cons, List.map_nil, List.length_cons, List.length_nil, List.replicate_succ, List.replicate_zero, List.cons_append, List.nil_append, List.append_nil, List.getElem?_cons_zero, List.getElem?_cons_succ, List.set_cons_zero, List.set_cons_succ, Nat.reduceAdd, Nat.reduceSub, Nat.reduceEqDiff, if_true, if_false, ite_true, ite_false, reduceIte, at0, at1, at2, at3, eq_int, ne_int, ge_int, le_int, lt_int, gt_int, len_lst, len_tup, len_dct, intD, absD, List.length_map, Bool.not_true, Bool.not_false, Bool.false_eq_true, hb]
  · intro j hj
    have hj := List.mem_range.mp hj
    have ha := lalike_is (gap := (j : Int)) hm (by omega) S
    have em : (j : Int) % m = (j : Int) := Int.emod_eq_of_lt (by omega) (by omega)
    unfold alD at ha
    rw [em] at ha
    have hadd : addD (.tup (row.map D.int)) (.tup [.int (j : Int)]) = some (false, .tup ((row ++ [(j : Int)]).map D.int)) := by
      rw [List.map_append]
      show guard' (szB ((row.map D.int).length + 1)) (some (false, .tup (row.map D.int ++ [.int (j : Int)]))) = _
      rw [szB_of (by rw [List.length_map]; omega)]; rfl
    refine ⟨⟨[.fz (.int m), .fz d1, .fz d2, .fz d3, x4, .fz (rowD row), .fz (.int (j : Nat))], S⟩, ⟨[.fz (.int m), .fz d1, .fz d2, .fz d3, x4, .fz (rowD row), .fz (.int (j : Nat))], S⟩, by rw [Int.zero_add]; rfl, ?_, fun _ => rfl, fun _ => ⟨⟨[.fz (.int m), .fz d1, .fz d2, .fz d3, x4, .fz (rowD row), .fz (.int (j : Nat))], S⟩, .fz, ?_, rfl⟩⟩
    · cases cm : miss m (j : Nat) with
      | true =>
        rw [cm, if_pos rfl] at ha
        simp only [denFn, startP, outF, frOf, sSeq, sIf, sSet, sRet, sRetN, sExpr, sNil, sBrk, sCnt, sAug, sPar, sTgt, sApp, sExt, sStIx, sFor, eVar, eCst, eOp2, eOp1, eOpN, eChain, eAnd2, eOr2, eNot1, eIfE, tOfV, tTru, tAnd2, tOr2, tNot1, tYs, aNil, aCons, bNil, bCons, eTup, eLst, eDct0, eSl, eMthS, eCall, gN, gT, gSeq, iVal, iRange1, iRange2, iEnumr, itemsD, opOut, kdOf, deref, derefs, PSt.put, PSt.frzK, PSt.frz, Out.bind, Option.bind, Option.map, add_int, sub_int, addI, ix_tupE, ix_lstE, isTx, isntD2, isD2, isNone, guard', stIx, held, isKey, List.map_cons, List.map_nil, List.length_cons, List.length_nil, List.replicate_succ, List.replicate_zero, List.cons_append, List.nil_append, List.append_nil, List.getElem?_cons_zero, List.getElem?_cons_succ, List.set_cons_zero, List.set_cons_succ, Nat.reduceAdd, Nat.reduceSub, Nat.reduceEqDiff, if_true, if_false, ite_true, ite_false, reduceIte, at0, at1, at2, at3, eq_int, ne_int, ge_int, le_int, lt_int, gt_int, len_lst, len_tup, len_dct, intD, absD, List.length_map, Bool.not_true, Bool.not_false, Bool.false_eq_true, ha]
      | false =>
        rw [cm, if_neg (by simp)] at ha
        simp only [denFn, startP, outF, frOf, sSeq, sIf, sSet, sRet, sRetN, sExpr, sNil, sBrk, sCnt, sAug, sPar, sTgt, sApp, sExt, sStIx, sFor, eVar, eCst, eOp2, eOp1, eOpN, eChain, eAnd2, eOr2, eNot1, eIfE, tOfV, tTru, tAnd2, tOr2, tNot1, tYs, aNil, aCons, bNil, bCons, eTup, eLst, eDct0, eSl, eMthS, eCall, gN, gT, gSeq, iVal, iRange1, iRange2, iEnumr, itemsD, opOut, kdOf, deref, derefs, PSt.put, PSt.frzK, PSt.frz, Out.bind, Option.bind, Option.map, add_int, sub_int, addI, ix_tupE, ix_lstE, isTx, isntD2, isD2, isNone, guard', stIx, held, isKey, List.map_cons, List.map_nil, List.length_cons, List.length_nil, List.replicate_succ, List.replicate_zero, List.cons_append, List.nil_append, List.append_nil, List.getElem?_cons_zero, List.getElem?_cons_succ, List.set_cons_zero, List.set_cons_succ, Nat.reduceAdd, Nat.reduceSub, Nat.reduceEqDiff, if_true, if_false, ite_true, ite_false, reduceIte, at0, at1, at2, at3, eq_int, ne_int, ge_int, le_int, lt_int, gt_int, len_lst, len_tup, len_dct, intD, absD, List.length_map, Bool.not_true, Bool.not_false, Bool.false_eq_true, ha]
    · simp only [denFn, startP, outF, frOf, sSeq, sIf, sSet, sRet, sRetN, sExpr, sNil, sBrk, sCnt, sAug, sPar, sTgt, sApp, sExt, sStIx, sFor, eVar, eCst, eOp2, eOp1, eOpN, eChain, eAnd2, eOr2, eNot1, eIfE, tOfV, tTru, tAnd2, tOr2, tNot1, tYs, aNil, aCons, bNil, bCons, eTup, eLst, eDct0, eSl, eMthS, eCall, gN, gT, gSeq, iVal, iRange1, iRange2, iEnumr, itemsD, opOut, kdOf, deref, derefs, PSt.put, PSt.frzK, PSt.frz, Out.bind, Option.bind, Option.map, add_int, sub_int, addI, ix_tupE, ix_lstE, isTx, isntD2, isD2, isNone, guard', stIx, held, isKey, List.map_cons, List.map_nil, List.length_cons, List.length_nil, List.replicate_succ, List.replicate_zero, List.cons_append, List.nil_append, List.append_nil, List.getElem?_cons_zero, List.getElem?_cons_succ, List.set_cons_zero, List.set_cons_succ, Nat.reduceAdd, Nat.reduceSub, Nat.reduceEqDiff, if_true, if_false, ite_true, ite_false, reduceIte, at0, at1, at2, at3, eq_int, ne_int, ge_int, le_int, lt_int, gt_int, len_lst, len_tup, len_dct, intD, absD, List.length_map, Bool.not_true, Bool.not_false, Bool.false_eq_true, rowD, hadd, hsz]
  · rw [List.length_range]; omega
  · unfold fitsM
    rw [List.filter_map, List.map_map, List.map_map]; rfl
theorem fits_len {m : Int} (h : 0 ≤ m) : (fitsM m).length ≤ m.toNat := by
  have := List.length_filter_le (fun w => !miss m w) ((List.range m.toNat).map fun k : Nat => (k : Int))
  rw [List.length_map, List.length_range] at this
  exact this
theorem lg_in {m : Int} (hm : 2 ≤ m) (hm2 : m ≤ 97) (d1 d2 d3 : D) (S : List D) : ∀ (rs acc : List (List Int)) (x : Sl), (∀ r ∈ rs, r.length ≤ 20) → acc.length + 97 * rs.length ≤ 10000000 → ∃ x',
    forLoop (gN 5) (sExt 4 (eLc (iRange1 (bCons (eVar 0) bNil)) [6] (gN 6) (tOfV (eOp2 isD2 (eCall g__law_alike (aCons (eVar 0) (aCons (eVar 6) aNil))) (eCst .non))) (eOp2 addD (eVar 5) (eTup (aCons (eVar 6) aNil)))))
      (rs.map rowD) ⟨[.fz (.int m), .fz d1, .fz d2, .fz d3, .ow (.lst (acc.map rowD)), x, .un], S⟩ =
    .ok ⟨[.fz (.int m), .fz d1, .fz d2, .fz d3, .ow (.lst ((acc ++ nxtR m rs).map rowD)), x', .un], S⟩ .nx
  | [], acc, x, _, _ => ⟨x, by simp [forLoop, nxtR]⟩
  | r :: rs, acc, x, hr, hz => by
    rw [List.length_cons] at hz
    have hfl := fits_len (m := m) (by omega)
    obtain ⟨x', e⟩ := lg_in hm hm2 d1 d2 d3 S rs (acc ++ (fitsM m).map fun w => r ++ [w]) (.fz (rowD r)) (fun i hi => hr i (List.mem_cons_of_mem _ hi)) (by rw [List.length_append, List.length_map]; omega)
    refine ⟨x', ?_⟩
    have e0 : acc ++ nxtR m (r :: rs) = (acc ++ (fitsM m).map fun w => r ++ [w]) ++ nxtR m rs := by
      unfold nxtR
      rw [List.flatMap_cons, List.append_assoc]
    rw [e0, ← e, List.map_cons]
    have hl := ext_lc hm hm2 d1 d2 d3 (.ow (.lst (acc.map rowD))) r (hr r List.mem_cons_self) S
    have hsz : szB (acc.length + (fitsM m).length) = true := szB_of (by omega)
    refine forLoop_cons (p1 := ⟨[.fz (.int m), .fz d1, .fz d2, .fz d3, .ow (.lst (acc.map rowD)), .fz (rowD r), .un], S⟩) rfl ?_
    simp only [denFn, startP, outF, frOf, sSeq, sIf, sSet, sRet, sRetN, sExpr, sNil, sBrk, sCnt, sAug, sPar, sTgt, sApp, sExt, sStIx, sFor, eVar, eCst, eOp2, eOp1, eOpN, eChain, eAnd2, eOr2, eNot1, eIfE, tOfV, tTru, tAnd2, tOr2, tNot1, tYs, aNil, aCons, bNil, bCons, eTup, eLst, eDct0, eSl, eMthS, eCall, gN, gT, gSeq, iVal, iRange1, iRange2, iEnumr, itemsD, opOut, kdOf, deref, derefs, PSt.put, PSt.frzK, PSt.frz, Out.bind, Option.bind, Option.map, add_int, sub_int, addI, ix_tupE, ix_lstE, isTx, isntD2, isD2, isNone, guard', stIx, held, isKey, List.map_cons, List.map_nil, List.length_cons, List.length_nil, List.replicate_succ, List.replicate_zero, List.cons_append, List.nil_append, List.append_nil, List.getElem?_cons_zero, List.getElem?_cons_succ, List.set_cons_zero, List.set_cons_succ, Nat.reduceAdd, Nat.reduceSub, Nat.reduceEqDiff, if_true, if_false, ite_true, ite_false, reduceIte, at0, at1, at2, at3, eq_int, ne_int, ge_int, le_int, lt_int, gt_int, len_lst, len_tup, len_dct, intD, absD, List.length_map, Bool.not_true, Bool.not_false, Bool.false_eq_true, hl, hsz, List.map_append]
theorem nxt_len (m : Int) (rows : List (List Int)) : (nxtR m rows).length = rows.length * (fitsM m).length := by
  unfold nxtR
  induction rows with
  | nil => simp
  | cons r rs ih => rw [List.flatMap_cons, List.length_append, List.length_map, ih, List.length_cons, Nat.add_mul, Nat.one_mul, Nat.add_comm]
theorem nxt_row {m : Int} {rows : List (List Int)} {k : Nat} (h : ∀ r ∈ rows, r.length = k ∧ ∀ w ∈ r, 0 ≤ w ∧ w < m) : ∀ r ∈ nxtR m rows, r.length = k + 1 ∧ ∀ w ∈ r, 0 ≤ w ∧ w < m := fun r hr => by
  obtain ⟨r0, h0, hr⟩ := List.mem_flatMap.mp hr
  obtain ⟨w, hw, rfl⟩ := List.mem_map.mp hr
  obtain ⟨q1, q2⟩ := h r0 h0
  refine ⟨by rw [List.length_append, q1]; rfl, fun v hv => ?_⟩
  rcases List.mem_append.mp hv with hv | hv
  · exact q2 v hv
  · cases List.mem_singleton.mp hv
    obtain ⟨k, hk, e⟩ := List.mem_map.mp (List.mem_filter.mp hw).1
    have hk := List.mem_range.mp hk
    omega
theorem lg_out {m : Int} (hm : 2 ≤ m) (hm2 : m ≤ 11) (d1 : D) (S : List D) : ∀ (n j : Nat) (rows : List (List Int)) (k : Nat) (x2 x3 x4 x5 : Sl), (x2 = .ow (.lst (rows.map rowD)) ∨ x2 = .fz (.lst (rows.map rowD))) → (∀ r ∈ rows, r.length = k ∧ ∀ w ∈ r, 0 ≤ w ∧ w < m) → k + n ≤ 20 → rows.length * 11 ^ n ≤ 20000 → ∃ y2 y3 y4 y5,
    forLoop (gN 3) (sSeq (sSet 4 (eLst aNil)) (sSeq (sFor (iVal (eVar 2)) (gN 5) (sExt 4 (eLc (iRange1 (bCons (eVar 0) bNil)) [6] (gN 6) (tOfV (eOp2 isD2 (eCall g__law_alike (aCons (eVar 0) (aCons (eVar 6) aNil))) (eCst .non))) (eOp2 addD (eVar 5) (eTup (aCons (eVar 6) aNil)))))) (sSet 2 (eVar 4))))
      ((List.range' j n).map fun k => .int (0 + (k : Nat))) ⟨[.fz (.int m), .fz d1, x2, x3, x4, x5, .un], S⟩ =
    .ok ⟨[.fz (.int m), .fz d1, y2, y3, y4, y5, .un], S⟩ .nx ∧ (y2 = .ow (.lst ((rowsN m n rows).map rowD)) ∨ y2 = .fz (.lst ((rowsN m n rows).map rowD))) ∧ ∀ r ∈ rowsN m n rows, r.length = k + n ∧ ∀ w ∈ r, 0 ≤ w ∧ w < m
  | 0, j, rows, k, x2, x3, x4, x5, hx, hr, _, _ => ⟨x2, x3, x4, x5, rfl, hx, hr⟩
  | n + 1, j, rows, k, x2, x3, x4, x5, hx, hr, hk, hz => by
    have hfl := fits_len (m := m) (by omega)
    rw [Nat.pow_succ] at hz
    have hp : 1 ≤ 11 ^ n := Nat.pow_pos (by omega)
    have hrl : rows.length * 11 ≤ 20000 := by
      have : rows.length * 11 * 1 ≤ rows.length * 11 * 11 ^ n := Nat.mul_le_mul_left _ hp
      have e : rows.length * 11 * 11 ^ n = rows.length * (11 ^ n * 11) := by rw [Nat.mul_assoc, Nat.mul_comm 11]
      omega
    obtain ⟨x5', e1⟩ := lg_in hm (by omega) d1 (.lst (rows.map rowD)) (.int (j : Nat)) S rows [] x5 (fun r h => by have := (hr r h).1; omega) (by simp; omega)
    have hz2 : (nxtR m rows).length * 11 ^ n ≤ 20000 := by
      rw [nxt_len]
      have : rows.length * (fitsM m).length * 11 ^ n ≤ rows.length * 11 * 11 ^ n := Nat.mul_le_mul_right _ (Nat.mul_le_mul_left _ (by omega))
      have e : rows.length * 11 * 11 ^ n = rows.length * (11 ^ n * 11) := by rw [Nat.mul_assoc, Nat.mul_comm 11]
      omega
    obtain ⟨y2, y3, y4, y5, e, h2, h3⟩ := lg_out hm hm2 d1 S n (j + 1) (nxtR m rows) (k + 1) (.fz (.lst ((nxtR m rows).map rowD))) (.fz (.int (j : Nat))) (.fz (.lst ((nxtR m rows).map rowD))) x5' (.inr rfl) (nxt_row hr) (by omega) hz2
    refine ⟨y2, y3, y4, y5, ?_, h2, fun r h => by have := h3 r h; exact ⟨by omega, this.2⟩⟩
    rw [List.range'_succ, List.map_cons, Int.zero_add, ← e]
    refine forLoop_cons (p1 := ⟨[.fz (.int m), .fz d1, x2, .fz (.int (j : Nat)), x4, x5, .un], S⟩) rfl ?_
    rw [sSeq_nx (p1 := ⟨[.fz (.int m), .fz d1, x2, .fz (.int (j : Nat)), .ow (.lst (([] : List (List Int)).map rowD)), x5, .un], S⟩) rfl]
    have hit : iVal (eVar 2) ⟨[.fz (.int m), .fz d1, x2, .fz (.int (j : Nat)), .ow (.lst (([] : List (List Int)).map rowD)), x5, .un], S⟩ = .ok ⟨[.fz (.int m), .fz d1, .fz (.lst (rows.map rowD)), .fz (.int (j : Nat)), .ow (.lst (([] : List (List Int)).map rowD)), x5, .un], S⟩ (rows.map rowD) := by
      rcases hx with rfl | rfl <;> rfl
    rw [sSeq_for hit e1, List.nil_append]
    rfl
theorem lg_find {m : Int} (hm : 2 ≤ m) (hm2 : m ≤ 97) (d1 d2 : D) (x3 x4 : Sl) (S : List D) : ∀ (rs : List (List Int)) (x5 : Sl), (∀ r ∈ rs, 1 ≤ r.length ∧ r.length ≤ 12 ∧ ∀ w ∈ r, 0 ≤ w ∧ w < m) → ∃ y5,
    forLoop (gN 5) (sIf (tOfV (eOp2 eqD2 (eCall g__law_judged (aCons (eVar 0) (aCons (eCall g__law_gaps (aCons (eVar 5) aNil)) aNil))) (eTup (aCons (eCst (.str [102, 105, 110, 100, 115])) aNil)))) (sRet (eVar 5)) sNil)
      (rs.map rowD) ⟨[.fz (.int m), .fz d1, .fz d2, x3, x4, x5, .un], S⟩ = endO ⟨[.fz (.int m), .fz d1, .fz d2, x3, x4, y5, .un], S⟩ (rs.find? (tOk m))
  | [], x5, _ => ⟨x5, rfl⟩
  | r :: rs, x5, hr => by
    obtain ⟨q1, q2, q3⟩ := hr r List.mem_cons_self
    have hc : Code m r := ⟨hm, hm2, q1, q2, q3⟩
    have hg := lgaps_is q1 (by omega) S
    have hj := judged_row hc S
    have hsz : szB 1 = true := rfl
    rw [List.map_cons]
    by_cases ct : tOk m r = true
    · have ho : tR m r (List.range r.length) = none := Option.isNone_iff_eq_none.mp ct
      have he := eq_finds
      rw [ho] at hj
      simp only [retJ, tFinds] at hj he
      refine ⟨.fz (rowD r), ?_⟩
      rw [List.find?_cons_of_pos ct]
      refine forLoop_rt (p1 := ⟨[.fz (.int m), .fz d1, .fz d2, x3, x4, .fz (rowD r), .un], S⟩) rfl ?_
      simp only [denFn, startP, outF, frOf, sSeq, sIf, sSet, sRet, sRetN, sExpr, sNil, sBrk, sCnt, sAug, sPar, sTgt, sApp, sExt, sStIx, sFor, eVar, eCst, eOp2, eOp1, eOpN, eChain, eAnd2, eOr2, eNot1, eIfE, tOfV, tTru, tAnd2, tOr2, tNot1, tYs, aNil, aCons, bNil, bCons, eTup, eLst, eDct0, eSl, eMthS, eCall, gN, gT, gSeq, iVal, iRange1, iRange2, iEnumr, itemsD, opOut, kdOf, deref, derefs, PSt.put, PSt.frzK, PSt.frz, Out.bind, Option.bind, Option.map, add_int, sub_int, addI, ix_tupE, ix_lstE, isTx, isntD2, isD2, isNone, guard', stIx, held, isKey, List.map_cons, List.map_nil, List.length_cons, List.length_nil, List.replicate_succ, List.replicate_zero, List.cons_append, List.nil_append, List.append_nil, List.getElem?_cons_zero, List.getElem?_cons_succ, List.set_cons_zero, List.set_cons_succ, Nat.reduceAdd, Nat.reduceSub, Nat.reduceEqDiff, if_true, if_false, ite_true, ite_false, reduceIte, at0, at1, at2, at3, eq_int, ne_int, ge_int, le_int, lt_int, gt_int, len_lst, len_tup, len_dct, intD, absD, List.length_map, Bool.not_true, Bool.not_false, Bool.false_eq_true, rowD, hg, hj, he, hsz]
    · have hne : tR m r (List.range r.length) ≠ none := fun z => ct (by unfold tOk; rw [z]; rfl)
      obtain ⟨d, hd⟩ := Option.ne_none_iff_exists'.mp hne
      obtain ⟨k, w, e⟩ := tR_miss _ _ hd
      subst e
      have he := eq_miss m k w
      rw [hd] at hj
      simp only [retJ, tFinds, tMiss] at hj he
      obtain ⟨y5, e⟩ := lg_find hm hm2 d1 d2 x3 x4 S rs (.fz (rowD r)) (fun i hi => hr i (List.mem_cons_of_mem _ hi))
      refine ⟨y5, ?_⟩
      rw [List.find?_cons_of_neg ct, ← e]
      refine forLoop_cons (p1 := ⟨[.fz (.int m), .fz d1, .fz d2, x3, x4, .fz (rowD r), .un], S⟩) rfl ?_
      simp only [denFn, startP, outF, frOf, sSeq, sIf, sSet, sRet, sRetN, sExpr, sNil, sBrk, sCnt, sAug, sPar, sTgt, sApp, sExt, sStIx, sFor, eVar, eCst, eOp2, eOp1, eOpN, eChain, eAnd2, eOr2, eNot1, eIfE, tOfV, tTru, tAnd2, tOr2, tNot1, tYs, aNil, aCons, bNil, bCons, eTup, eLst, eDct0, eSl, eMthS, eCall, gN, gT, gSeq, iVal, iRange1, iRange2, iEnumr, itemsD, opOut, kdOf, deref, derefs, PSt.put, PSt.frzK, PSt.frz, Out.bind, Option.bind, Option.map, add_int, sub_int, addI, ix_tupE, ix_lstE, isTx, isntD2, isD2, isNone, guard', stIx, held, isKey, List.map_cons, List.map_nil, List.length_cons, List.length_nil, List.replicate_succ, List.replicate_zero, List.cons_append, List.nil_append, List.append_nil, List.getElem?_cons_zero, List.getElem?_cons_succ, List.set_cons_zero, List.set_cons_succ, Nat.reduceAdd, Nat.reduceSub, Nat.reduceEqDiff, if_true, if_false, ite_true, ite_false, reduceIte, at0, at1, at2, at3, eq_int, ne_int, ge_int, le_int, lt_int, gt_int, len_lst, len_tup, len_dct, intD, absD, List.length_map, Bool.not_true, Bool.not_false, Bool.false_eq_true, rowD, hg, hj, he, hsz]
theorem lgood_is {m : Int} {many : Nat} (hm : 2 ≤ m) (hm2 : m ≤ 11) (h1 : 1 ≤ many) (h3 : many ≤ 3) (S : List D) : g__law_good [.int m, .int (many : Nat)] S = .ok S false (optD ((rowsN m many [[]]).find? (tOk m))) := by
  have hp : 11 ^ many ≤ 11 ^ 3 := Nat.pow_le_pow_right (by omega) h3
  obtain ⟨y2, y3, y4, y5, e, hy, hrs⟩ := lg_out hm hm2 (.int (many : Nat)) S many 0 [[]] 0 (.ow (.lst (([[]] : List (List Int)).map rowD))) .un .un .un (.inl rfl) (fun r hr => by cases List.mem_singleton.mp hr; exact ⟨rfl, fun _ h => by cases h⟩) (by omega) (by simp only [List.length_singleton]; omega)
  obtain ⟨z5, e2⟩ := lg_find hm (by omega) (.int (many : Nat)) (.lst ((rowsN m many [[]]).map rowD)) y3 y4 S (rowsN m many [[]]) y5 (fun r hr => by have := hrs r hr; exact ⟨by omega, by omega, this.2⟩)
  have hb : bnd ((many : Nat) : Int) = true := bnd_of (by omega) (by omega)
  unfold g__law_good b__law_good
  refine denFn_run rfl ?_
  have e3 : startP 7 [.int m, .int (many : Nat)] S = ⟨[.fz (.int m), .fz (.int (many : Nat)), .un, .un, .un, .un, .un], S⟩ := rfl
  rw [e3, sSeq_nx (p1 := ⟨[.fz (.int m), .fz (.int (many : Nat)), .ow (.lst (([[]] : List (List Int)).map rowD)), .un, .un, .un, .un], S⟩) rfl]
  have hit : iRange1 (bCons (eVar 1) bNil) ⟨[.fz (.int m), .fz (.int (many : Nat)), .ow (.lst (([[]] : List (List Int)).map rowD)), .un, .un, .un, .un], S⟩ = .ok ⟨[.fz (.int m), .fz (.int (many : Nat)), .ow (.lst (([[]] : List (List Int)).map rowD)), .un, .un, .un, .un], S⟩ ((List.range' 0 many).map fun k => .int (0 + (k : Nat))) := by
    rw [← List.range_eq_range', ← rng_nat]
    simp only [denFn, startP, outF, frOf, sSeq, sIf, sSet, sRet, sRetN, sExpr, sNil, sBrk, sCnt, sAug, sPar, sTgt, sApp, sExt, sStIx, sFor, eVar, eCst, eOp2, eOp1, eOpN, eChain, eAnd2, eOr2, eNot1, eIfE, tOfV, tTru, tAnd2, tOr2, tNot1, tYs, aNil, aCons, bNil, bCons, eTup, eLst, eDct0, eSl, eMthS, eCall, gN, gT, gSeq, iVal, iRange1, iRange2, iEnumr, itemsD, opOut, kdOf, deref, derefs, PSt.put, PSt.frzK, PSt.frz, Out.bind, Option.bind, Option.map, add_int, sub_int, addI, ix_tupE, ix_lstE, isTx, isntD2, isD2, isNone, guard', stIx, held, isKey, List.map_cons, List.map_nil, List.length_cons, List.length_nil, List.replicate_succ, List.replicate_zero, List.cons_append, List.nil_append, List.append_nil, List.getElem?_cons_zero, List.getElem?_cons_succ, List.set_cons_zero, List.set_cons_succ, Nat.reduceAdd, Nat.reduceSub, Nat.reduceEqDiff, if_true, if_false, ite_true, ite_false, reduceIte, at0, at1, at2, at3, eq_int, ne_int, ge_int, le_int, lt_int, gt_int, len_lst, len_tup, len_dct, intD, absD, List.length_map, Bool.not_true, Bool.not_false, Bool.false_eq_true, hb]
  rw [sSeq_for hit e]
  have hit2 : iVal (eVar 2) ⟨[.fz (.int m), .fz (.int (many : Nat)), y2, y3, y4, y5, .un], S⟩ = .ok ⟨[.fz (.int m), .fz (.int (many : Nat)), .fz (.lst ((rowsN m many [[]]).map rowD)), y3, y4, y5, .un], S⟩ ((rowsN m many [[]]).map rowD) := by
    rcases hy with rfl | rfl <;> rfl
  cases co : (rowsN m many [[]]).find? (tOk m) with
  | none =>
    rw [co] at e2
    rw [sSeq_for hit2 e2]
    rfl
  | some r =>
    rw [co] at e2
    rw [sSeq_forR hit2 e2]
    rfl
theorem good_all : ([2, 3, 4, 5, 7, 9, 11].all fun m : Int => [1, 2, 3].all fun k : Nat => extM m k (fitsM m) 6 [] == (rowsN m k [[]]).find? (tOk m)) = true := by decide +kernel
theorem good_eq {m : Int} {k : Nat} (hm : m ∈ [2, 3, 4, 5, 7, 9, (11 : Int)]) (h1 : 1 ≤ k) (h3 : k ≤ 3) : extM m k (fitsM m) 6 [] = (rowsN m k [[]]).find? (tOk m) := by
  have q := List.all_eq_true.mp good_all m hm
  have hk : k ∈ [1, 2, 3] := by
    have : k = 1 ∨ k = 2 ∨ k = 3 := by omega
    rcases this with h | h | h <;> simp [h]
  exact eq_of_beq (List.all_eq_true.mp q k hk)
end K56
namespace K56
open PySem PySem.Spec L2 PM
def plc (t u : List Nat) : List Nat := (List.range t.length).filter fun k => !decide ([t.getD k 0] = [u.getD k 0])
theorem am_is {m : Int} {ws : List Int} {t u : List Nat} (h : Code m ws) (ht : Txt m t) (hu : Txt m u) (hl : u.length = t.length) (hs : su m ws t = su m ws u) (a : Nat)
    (hp : (plc t u = [a] ∧ a < t.length) ∨ (plc t u = [a, a + 1] ∧ a + 1 < t.length ∧ t.getD a 0 = u.getD (a + 1) 0 ∧ t.getD (a + 1) 0 = u.getD a 0)) (S : List D) :
    g_accept_missed [.int m, .tup (ws.map D.int), .str t, .str u] S = .ok S false .non := by
  have hm : 0 ≤ m := by have := h.m1; omega
  have htl := ht.l
  have e7 : lenD [.str t] = some (false, .int t.length) := len_str (by omega)
  have e8 : lenD [.str u] = some (false, .int t.length) := by rw [← hl]; exact len_str (by omega)
  have hb : bnd ((t.length : Nat) : Int) = true := bnd_of (by omega) (by omega)
  have hlc : (eLc (iRange1 (bCons (eOpN lenD (bCons (eVar 2) bNil)) bNil)) [6] (gN 6) (tOfV (eOp2 neD2 (eOp2 ixD (eVar 2) (eVar 6)) (eOp2 ixD (eVar 3) (eVar 6)))) (eVar 6)) ⟨[.fz (.int m), .fz (.tup (ws.map D.int)), .fz (.str t), .fz (.str u), .un, .un, .un], S⟩ =
      .ok ⟨[.fz (.int m), .fz (.tup (ws.map D.int)), .fz (.str t), .fz (.str u), .un, .un, .un], S⟩ (.fr, .lst ((plc t u).map fun k : Nat => D.int (k : Int))) := by
    refine (eLc_filter (p1 := ⟨[.fz (.int m), .fz (.tup (ws.map D.int)), .fz (.str t), .fz (.str u), .un, .un, .un], S⟩) (List.range t.length) (fun j => .int (0 + (j : Nat))) (fun k : Nat => D.int (k : Int)) (fun k => !decide ([t.getD k 0] = [u.getD k 0])) ?_ ?_ ?_).trans rfl
    · rw [← rng_nat]
      simp only [denFn, startP, outF, frOf, sSeq, sIf, sSet, sRet, sRetN, sExpr, sNil, sBrk, sCnt, sAug, sPar, sTgt, sApp, sExt, sStIx, sFor, eVar, eCst, eOp2, eOp1, eOpN, eChain, eAnd2, eOr2, eNot1, eIfE, tOfV, tTru, tAnd2, tOr2, tNot1, tYs, aNil, aCons, bNil, bCons, eTup, eLst, eDct0, eSl, eMthS, eCall, gN, gT, gSeq, iVal, iRange1, iRange2, iEnumr, itemsD, opOut, kdOf, deref, derefs, PSt.put, PSt.frzK, PSt.frz, Out.bind, Option.bind, Option.map, add_int, sub_int, addI, ix_tupE, ix_lstE, isTx, isntD2, isD2, isNone, guard', stIx, held, isKey, List.map_cons, List.map_nil, List.length_cons, List.length_nil, List.replicate_succ, List.replicate_zero, List.cons_append, List.nil_append, List.append_nil, List.getElem?_cons_zero, List.getElem?_cons_succ, List.set_cons_zero, List.set_cons_succ, Nat.reduceAdd, Nat.reduceSub, Nat.reduceEqDiff, if_true, if_false, ite_true, ite_false, reduceIte, at0, at1, at2, at3, eq_int, ne_int, ge_int, le_int, lt_int, gt_int, len_lst, len_tup, len_dct, intD, absD, List.length_map, Bool.not_true, Bool.not_false, Bool.false_eq_true, e7, hb]
    · intro k hk
      have hk := List.mem_range.mp hk
      have i1 := ix_t htl hk
      have i2 := ix_t hu.l (show k < u.length by omega)
      have hne : neD2 (.str [t.getD k 0]) (.str [u.getD k 0]) = some (false, .bl (!decide ([t.getD k 0] = [u.getD k 0]))) := ne_str (okT_sg (one_in (ht.s _ (getD_in hk)))) (okT_sg (one_in (hu.s _ (getD_in (by omega)))))
      refine ⟨⟨[.fz (.int m), .fz (.tup (ws.map D.int)), .fz (.str t), .fz (.str u), .un, .un, .fz (.int (k : Nat))], S⟩, ⟨[.fz (.int m), .fz (.tup (ws.map D.int)), .fz (.str t), .fz (.str u), .un, .un, .fz (.int (k : Nat))], S⟩, by rw [Int.zero_add]; rfl, ?_, fun _ => rfl, fun _ => ⟨_, .fz, rfl, rfl⟩⟩
      simp only [denFn, startP, outF, frOf, sSeq, sIf, sSet, sRet, sRetN, sExpr, sNil, sBrk, sCnt, sAug, sPar, sTgt, sApp, sExt, sStIx, sFor, eVar, eCst, eOp2, eOp1, eOpN, eChain, eAnd2, eOr2, eNot1, eIfE, tOfV, tTru, tAnd2, tOr2, tNot1, tYs, aNil, aCons, bNil, bCons, eTup, eLst, eDct0, eSl, eMthS, eCall, gN, gT, gSeq, iVal, iRange1, iRange2, iEnumr, itemsD, opOut, kdOf, deref, derefs, PSt.put, PSt.frzK, PSt.frz, Out.bind, Option.bind, Option.map, add_int, sub_int, addI, ix_tupE, ix_lstE, isTx, isntD2, isD2, isNone, guard', stIx, held, isKey, List.map_cons, List.map_nil, List.length_cons, List.length_nil, List.replicate_succ, List.replicate_zero, List.cons_append, List.nil_append, List.append_nil, List.getElem?_cons_zero, List.getElem?_cons_succ, List.set_cons_zero, List.set_cons_succ, Nat.reduceAdd, Nat.reduceSub, Nat.reduceEqDiff, if_true, if_false, ite_true, ite_false, reduceIte, at0, at1, at2, at3, eq_int, ne_int, ge_int, le_int, lt_int, gt_int, len_lst, len_tup, len_dct, intD, absD, List.length_map, Bool.not_true, Bool.not_false, Bool.false_eq_true, i1, i2, hne]
    · rw [List.length_range]; omega
  have hs1 := sum_of_is h ht.s S
  have hs2 := sum_of_is h hu.s S
  have hs3 : sumF ws 0 t % m = sumF ws 0 u % m := hs
  unfold g_accept_missed b_accept_missed
  refine denFn_run rfl ?_
  have e3 : startP 7 [.int m, .tup (ws.map D.int), .str t, .str u] S = ⟨[.fz (.int m), .fz (.tup (ws.map D.int)), .fz (.str t), .fz (.str u), .un, .un, .un], S⟩ := rfl
  rw [e3, sSeq_nx (p1 := ⟨[.fz (.int m), .fz (.tup (ws.map D.int)), .fz (.str t), .fz (.str u), .un, .un, .un], S⟩) (by simp only [denFn, startP, outF, frOf, sSeq, sIf, sSet, sRet, sRetN, sExpr, sNil, sBrk, sCnt, sAug, sPar, sTgt, sApp, sExt, sStIx, sFor, eVar, eCst, eOp2, eOp1, eOpN, eChain, eAnd2, eOr2, eNot1, eIfE, tOfV, tTru, tAnd2, tOr2, tNot1, tYs, aNil, aCons, bNil, bCons, eTup, eLst, eDct0, eSl, eMthS, eCall, gN, gT, gSeq, iVal, iRange1, iRange2, iEnumr, itemsD, opOut, kdOf, deref, derefs, PSt.put, PSt.frzK, PSt.frz, Out.bind, Option.bind, Option.map, add_int, sub_int, addI, ix_tupE, ix_lstE, isTx, isntD2, isD2, isNone, guard', stIx, held, isKey, List.map_cons, List.map_nil, List.length_cons, List.length_nil, List.replicate_succ, List.replicate_zero, List.cons_append, List.nil_append, List.append_nil, List.getElem?_cons_zero, List.getElem?_cons_succ, List.set_cons_zero, List.set_cons_succ, Nat.reduceAdd, Nat.reduceSub, Nat.reduceEqDiff, if_true, if_false, ite_true, ite_false, reduceIte, at0, at1, at2, at3, eq_int, ne_int, ge_int, le_int, lt_int, gt_int, len_lst, len_tup, len_dct, intD, absD, List.length_map, Bool.not_true, Bool.not_false, Bool.false_eq_true, check_code_is h])]
  rw [sSeq_nx (p1 := ⟨[.fz (.int m), .fz (.tup (ws.map D.int)), .fz (.str t), .fz (.str u), .un, .un, .un], S⟩) (by simp only [denFn, startP, outF, frOf, sSeq, sIf, sSet, sRet, sRetN, sExpr, sNil, sBrk, sCnt, sAug, sPar, sTgt, sApp, sExt, sStIx, sFor, eVar, eCst, eOp2, eOp1, eOpN, eChain, eAnd2, eOr2, eNot1, eIfE, tOfV, tTru, tAnd2, tOr2, tNot1, tYs, aNil, aCons, bNil, bCons, eTup, eLst, eDct0, eSl, eMthS, eCall, gN, gT, gSeq, iVal, iRange1, iRange2, iEnumr, itemsD, opOut, kdOf, deref, derefs, PSt.put, PSt.frzK, PSt.frz, Out.bind, Option.bind, Option.map, add_int, sub_int, addI, ix_tupE, ix_lstE, isTx, isntD2, isD2, isNone, guard', stIx, held, isKey, List.map_cons, List.map_nil, List.length_cons, List.length_nil, List.replicate_succ, List.replicate_zero, List.cons_append, List.nil_append, List.append_nil, List.getElem?_cons_zero, List.getElem?_cons_succ, List.set_cons_zero, List.set_cons_succ, Nat.reduceAdd, Nat.reduceSub, Nat.reduceEqDiff, if_true, if_false, ite_true, ite_false, reduceIte, at0, at1, at2, at3, eq_int, ne_int, ge_int, le_int, lt_int, gt_int, len_lst, len_tup, len_dct, intD, absD, List.length_map, Bool.not_true, Bool.not_false, Bool.false_eq_true, is_text_is hm ht, is_text_is hm hu, truD, e7, e8, decide_true])]
  rw [sSeq_nx (p1 := ⟨[.fz (.int m), .fz (.tup (ws.map D.int)), .fz (.str t), .fz (.str u), .ow (.lst ((plc t u).map fun k : Nat => D.int (k : Int))), .un, .un], S⟩) (by simp only [denFn, startP, outF, frOf, sSeq, sIf, sSet, sRet, sRetN, sExpr, sNil, sBrk, sCnt, sAug, sPar, sTgt, sApp, sExt, sStIx, sFor, eVar, eCst, eOp2, eOp1, eOpN, eChain, eAnd2, eOr2, eNot1, eIfE, tOfV, tTru, tAnd2, tOr2, tNot1, tYs, aNil, aCons, bNil, bCons, eTup, eLst, eDct0, eSl, eMthS, eCall, gN, gT, gSeq, iVal, iRange1, iRange2, iEnumr, itemsD, opOut, kdOf, deref, derefs, PSt.put, PSt.frzK, PSt.frz, Out.bind, Option.bind, Option.map, add_int, sub_int, addI, ix_tupE, ix_lstE, isTx, isntD2, isD2, isNone, guard', stIx, held, isKey, List.map_cons, List.map_nil, List.length_cons, List.length_nil, List.replicate_succ, List.replicate_zero, List.cons_append, List.nil_append, List.append_nil, List.getElem?_cons_zero, List.getElem?_cons_succ, List.set_cons_zero, List.set_cons_succ, Nat.reduceAdd, Nat.reduceSub, Nat.reduceEqDiff, if_true, if_false, ite_true, ite_false, reduceIte, at0, at1, at2, at3, eq_int, ne_int, ge_int, le_int, lt_int, gt_int, len_lst, len_tup, len_dct, intD, absD, List.length_map, Bool.not_true, Bool.not_false, Bool.false_eq_true, hlc])]
  rcases hp with ⟨hp, ha⟩ | ⟨hp, ha, q1, q2⟩
  · rw [hp]
    simp only [List.map_cons, List.map_nil]
    have d1 : ¬ ((1 : Nat) : Int) = 2 := by decide
    have d2 : ((1 : Nat) : Int) = 1 := rfl
    rw [sSeq_nx (p1 := ⟨[.fz (.int m), .fz (.tup (ws.map D.int)), .fz (.str t), .fz (.str u), .ow (.lst [.int (a : Nat)]), .fz (.bl false), .un], S⟩) (by simp only [denFn, startP, outF, frOf, sSeq, sIf, sSet, sRet, sRetN, sExpr, sNil, sBrk, sCnt, sAug, sPar, sTgt, sApp, sExt, sStIx, sFor, eVar, eCst, eOp2, eOp1, eOpN, eChain, eAnd2, eOr2, eNot1, eIfE, tOfV, tTru, tAnd2, tOr2, tNot1, tYs, aNil, aCons, bNil, bCons, eTup, eLst, eDct0, eSl, eMthS, eCall, gN, gT, gSeq, iVal, iRange1, iRange2, iEnumr, itemsD, opOut, kdOf, deref, derefs, PSt.put, PSt.frzK, PSt.frz, Out.bind, Option.bind, Option.map, add_int, sub_int, addI, ix_tupE, ix_lstE, isTx, isntD2, isD2, isNone, guard', stIx, held, isKey, List.map_cons, List.map_nil, List.length_cons, List.length_nil, List.replicate_succ, List.replicate_zero, List.cons_append, List.nil_append, List.append_nil, List.getElem?_cons_zero, List.getElem?_cons_succ, List.set_cons_zero, List.set_cons_succ, Nat.reduceAdd, Nat.reduceSub, Nat.reduceEqDiff, if_true, if_false, ite_true, ite_false, reduceIte, at0, at1, at2, at3, eq_int, ne_int, ge_int, le_int, lt_int, gt_int, len_lst, len_tup, len_dct, intD, absD, List.length_map, Bool.not_true, Bool.not_false, Bool.false_eq_true, d1, decide_false])]
    rw [sSeq_nx (p1 := ⟨[.fz (.int m), .fz (.tup (ws.map D.int)), .fz (.str t), .fz (.str u), .ow (.lst [.int (a : Nat)]), .fz (.bl false), .un], S⟩) (by simp only [denFn, startP, outF, frOf, sSeq, sIf, sSet, sRet, sRetN, sExpr, sNil, sBrk, sCnt, sAug, sPar, sTgt, sApp, sExt, sStIx, sFor, eVar, eCst, eOp2, eOp1, eOpN, eChain, eAnd2, eOr2, eNot1, eIfE, tOfV, tTru, tAnd2, tOr2, tNot1, tYs, aNil, aCons, bNil, bCons, eTup, eLst, eDct0, eSl, eMthS, eCall, gN, gT, gSeq, iVal, iRange1, iRange2, iEnumr, itemsD, opOut, kdOf, deref, derefs, PSt.put, PSt.frzK, PSt.frz, Out.bind, Option.bind, Option.map, add_int, sub_int, addI, ix_tupE, ix_lstE, isTx, isntD2, isD2, isNone, guard', stIx, held, isKey, List.map_cons, List.map_nil, List.length_cons, List.length_nil, List.replicate_succ, List.replicate_zero, List.cons_append, List.nil_append, List.append_nil, List.getElem?_cons_zero, List.getElem?_cons_succ, List.set_cons_zero, List.set_cons_succ, Nat.reduceAdd, Nat.reduceSub, Nat.reduceEqDiff, if_true, if_false, ite_true, ite_false, reduceIte, at0, at1, at2, at3, eq_int, ne_int, ge_int, le_int, lt_int, gt_int, len_lst, len_tup, len_dct, intD, absD, List.length_map, Bool.not_true, Bool.not_false, Bool.false_eq_true, d2, decide_true])]
    simp only [denFn, startP, outF, frOf, sSeq, sIf, sSet, sRet, sRetN, sExpr, sNil, sBrk, sCnt, sAug, sPar, sTgt, sApp, sExt, sStIx, sFor, eVar, eCst, eOp2, eOp1, eOpN, eChain, eAnd2, eOr2, eNot1, eIfE, tOfV, tTru, tAnd2, tOr2, tNot1, tYs, aNil, aCons, bNil, bCons, eTup, eLst, eDct0, eSl, eMthS, eCall, gN, gT, gSeq, iVal, iRange1, iRange2, iEnumr, itemsD, opOut, kdOf, deref, derefs, PSt.put, PSt.frzK, PSt.frz, Out.bind, Option.bind, Option.map, add_int, sub_int, addI, ix_tupE, ix_lstE, isTx, isntD2, isD2, isNone, guard', stIx, held, isKey, List.map_cons, List.map_nil, List.length_cons, List.length_nil, List.replicate_succ, List.replicate_zero, List.cons_append, List.nil_append, List.append_nil, List.getElem?_cons_zero, List.getElem?_cons_succ, List.set_cons_zero, List.set_cons_succ, Nat.reduceAdd, Nat.reduceSub, Nat.reduceEqDiff, if_true, if_false, ite_true, ite_false, reduceIte, at0, at1, at2, at3, eq_int, ne_int, ge_int, le_int, lt_int, gt_int, len_lst, len_tup, len_dct, intD, absD, List.length_map, Bool.not_true, Bool.not_false, Bool.false_eq_true, hs1, hs2, hs3, decide_true]
  · rw [hp]
    simp only [List.map_cons, List.map_nil]
    have d1 : ((1 + 1 : Nat) : Int) = 2 := rfl
    have d2 : ¬ (2 : Int) = 1 := by decide
    have d3 : ((a + 1 : Nat) : Int) = (a : Int) + 1 := by omega
    have i1 := ix_t htl (show a < t.length by omega)
    have i2 := ix_t htl (show a + 1 < t.length by omega)
    have j1 := ix_t hu.l (show a < u.length by omega)
    have j2 := ix_t hu.l (show a + 1 < u.length by omega)
    rw [d3] at i2 j2
    have o1 : okT [u.getD (a + 1) 0] = true := okT_sg (one_in (hu.s _ (getD_in (by omega))))
    have o2 : okT [u.getD a 0] = true := okT_sg (one_in (hu.s _ (getD_in (by omega))))
    rw [q1] at i1
    rw [q2] at i2
    have c1 := eq_str o1 o1
    have c2 := eq_str o2 o2
    rw [sSeq_nx (p1 := ⟨[.fz (.int m), .fz (.tup (ws.map D.int)), .fz (.str t), .fz (.str u), .ow (.lst [.int (a : Nat), .int (a + 1 : Nat)]), .fz (.bl true), .un], S⟩) (by simp only [denFn, startP, outF, frOf, sSeq, sIf, sSet, sRet, sRetN, sExpr, sNil, sBrk, sCnt, sAug, sPar, sTgt, sApp, sExt, sStIx, sFor, eVar, eCst, eOp2, eOp1, eOpN, eChain, eAnd2, eOr2, eNot1, eIfE, tOfV, tTru, tAnd2, tOr2, tNot1, tYs, aNil, aCons, bNil, bCons, eTup, eLst, eDct0, eSl, eMthS, eCall, gN, gT, gSeq, iVal, iRange1, iRange2, iEnumr, itemsD, opOut, kdOf, deref, derefs, PSt.put, PSt.frzK, PSt.frz, Out.bind, Option.bind, Option.map, add_int, sub_int, addI, ix_tupE, ix_lstE, isTx, isntD2, isD2, isNone, guard', stIx, held, isKey, List.map_cons, List.map_nil, List.length_cons, List.length_nil, List.replicate_succ, List.replicate_zero, List.cons_append, List.nil_append, List.append_nil, List.getElem?_cons_zero, List.getElem?_cons_succ, List.set_cons_zero, List.set_cons_succ, Nat.reduceAdd, Nat.reduceSub, Nat.reduceEqDiff, if_true, if_false, ite_true, ite_false, reduceIte, at0, at1, at2, at3, eq_int, ne_int, ge_int, le_int, lt_int, gt_int, len_lst, len_tup, len_dct, intD, absD, List.length_map, Bool.not_true, Bool.not_false, Bool.false_eq_true, d1, d3, i1, j2, c1, decide_true])]
    rw [sSeq_nx (p1 := ⟨[.fz (.int m), .fz (.tup (ws.map D.int)), .fz (.str t), .fz (.str u), .ow (.lst [.int (a : Nat), .int (a + 1 : Nat)]), .fz (.bl true), .un], S⟩) (by simp only [denFn, startP, outF, frOf, sSeq, sIf, sSet, sRet, sRetN, sExpr, sNil, sBrk, sCnt, sAug, sPar, sTgt, sApp, sExt, sStIx, sFor, eVar, eCst, eOp2, eOp1, eOpN, eChain, eAnd2, eOr2, eNot1, eIfE, tOfV, tTru, tAnd2, tOr2, tNot1, tYs, aNil, aCons, bNil, bCons, eTup, eLst, eDct0, eSl, eMthS, eCall, gN, gT, gSeq, iVal, iRange1, iRange2, iEnumr, itemsD, opOut, kdOf, deref, derefs, PSt.put, PSt.frzK, PSt.frz, Out.bind, Option.bind, Option.map, add_int, sub_int, addI, ix_tupE, ix_lstE, isTx, isntD2, isD2, isNone, guard', stIx, held, isKey, List.map_cons, List.map_nil, List.length_cons, List.length_nil, List.replicate_succ, List.replicate_zero, List.cons_append, List.nil_append, List.append_nil, List.getElem?_cons_zero, List.getElem?_cons_succ, List.set_cons_zero, List.set_cons_succ, Nat.reduceAdd, Nat.reduceSub, Nat.reduceEqDiff, if_true, if_false, ite_true, ite_false, reduceIte, at0, at1, at2, at3, eq_int, ne_int, ge_int, le_int, lt_int, gt_int, len_lst, len_tup, len_dct, intD, absD, List.length_map, Bool.not_true, Bool.not_false, Bool.false_eq_true, d1, d2, d3, i2, j1, c2, truD, decide_true, decide_false])]
    simp only [denFn, startP, outF, frOf, sSeq, sIf, sSet, sRet, sRetN, sExpr, sNil, sBrk, sCnt, sAug, sPar, sTgt, sApp, sExt, sStIx, sFor, eVar, eCst, eOp2, eOp1, eOpN, eChain, eAnd2, eOr2, eNot1, eIfE, tOfV, tTru, tAnd2, tOr2, tNot1, tYs, aNil, aCons, bNil, bCons, eTup, eLst, eDct0, eSl, eMthS, eCall, gN, gT, gSeq, iVal, iRange1, iRange2, iEnumr, itemsD, opOut, kdOf, deref, derefs, PSt.put, PSt.frzK, PSt.frz, Out.bind, Option.bind, Option.map, add_int, sub_int, addI, ix_tupE, ix_lstE, isTx, isntD2, isD2, isNone, guard', stIx, held, isKey, List.map_cons, List.map_nil, List.length_cons, List.length_nil, List.replicate_succ, List.replicate_zero, List.cons_append, List.nil_append, List.append_nil, List.getElem?_cons_zero, List.getElem?_cons_succ, List.set_cons_zero, List.set_cons_succ, Nat.reduceAdd, Nat.reduceSub, Nat.reduceEqDiff, if_true, if_false, ite_true, ite_false, reduceIte, at0, at1, at2, at3, eq_int, ne_int, ge_int, le_int, lt_int, gt_int, len_lst, len_tup, len_dct, intD, absD, List.length_map, Bool.not_true, Bool.not_false, Bool.false_eq_true, hs1, hs2, hs3, decide_true]
/-! ### the texts that show what is missed -/
def zs (a : Nat) : List Nat := List.replicate a (sgn 0)
theorem getD_left {l r : List Nat} {k : Nat} (h : k < l.length) : (l ++ r).getD k 0 = l.getD k 0 := by
  rw [List.getD_eq_getElem?_getD, List.getD_eq_getElem?_getD, List.getElem?_append_left h]
theorem getD_mid {l r : List Nat} {x : Nat} : (l ++ x :: r).getD l.length 0 = x := by
  rw [List.getD_eq_getElem?_getD, List.getElem?_append_right (Nat.le_refl _), Nat.sub_self]; rfl
theorem filt_nil {l r r' : List Nat} : (List.range l.length).filter (fun k => !decide ([(l ++ r).getD k 0] = [(l ++ r').getD k 0])) = [] := by
  rw [List.filter_eq_nil_iff]
  intro k hk
  have hk := List.mem_range.mp hk
  rw [getD_left hk, getD_left hk]
  simp
theorem plc_one {l : List Nat} {x y : Nat} (h : x ≠ y) : plc (l ++ [x]) (l ++ [y]) = [l.length] := by
  unfold plc
  rw [List.length_append, List.length_singleton, List.range_succ, List.filter_append, filt_nil, List.nil_append]
  have e1 : (l ++ [x]).getD l.length 0 = x := getD_mid
  have e2 : (l ++ [y]).getD l.length 0 = y := getD_mid
  rw [List.filter_cons_of_pos (by rw [e1, e2]; simp [h])]
  rfl
theorem plc_two {l : List Nat} {x y : Nat} (h : x ≠ y) : plc (l ++ [x] ++ [y]) (l ++ [y] ++ [x]) = [l.length, l.length + 1] := by
  unfold plc
  have e0 : (l ++ [x] ++ [y]).length = l.length + 1 + 1 := by simp
  have a1 : l ++ [x] ++ [y] = l ++ [x, y] := by simp
  have a2 : l ++ [y] ++ [x] = l ++ [y, x] := by simp
  rw [e0, List.range_succ, List.range_succ, List.filter_append, List.filter_append, a1, a2, filt_nil, List.nil_append]
  have e1 : (l ++ [x, y]).getD l.length 0 = x := getD_mid
  have e2 : (l ++ [y, x]).getD l.length 0 = y := getD_mid
  have e3 : (l ++ [x, y]).getD (l.length + 1) 0 = y := by
    rw [← a1]
    have : l.length + 1 = (l ++ [x]).length := by simp
    rw [this]
    exact getD_mid
  have e4 : (l ++ [y, x]).getD (l.length + 1) 0 = x := by
    rw [← a2]
    have : l.length + 1 = (l ++ [y]).length := by simp
    rw [this]
    exact getD_mid
  rw [List.filter_cons_of_pos (by rw [e1, e2]; simp [h]), List.filter_cons_of_pos (by rw [e3, e4]; simp [Ne.symm h])]
  rfl
theorem zs_in {m : Int} (hm : 2 ≤ m) (a : Nat) : ∀ c ∈ zs a, c ∈ sg m := fun c hc => by
  have := List.eq_of_mem_replicate hc
  subst this
  exact sgn_in (by omega) (by unfold nN nS; split <;> omega)
theorem emod_add0 {A X m : Int} (h : X % m = 0) : (A + X) % m = A % m := by
  rw [Int.add_emod, h, Int.add_zero, Int.emod_emod_of_dvd _ (Int.dvd_refl m)]
theorem sgn_ne {d : Nat} (h0 : 0 < d) (h : d < 66) : sgn 0 ≠ sgn d := fun z => by
  have a := idx_sgn (j := 0) (by omega)
  have b := idx_sgn h
  rw [← z, a] at b
  omega
theorem su_one {m : Int} {ws : List Int} {d : Nat} (h : Code m ws) (hd : d < 66) {a : Nat} (hz : ((d : Int) * wAt ws a) % m = 0) : su m ws (zs a ++ [sgn 0]) = su m ws (zs a ++ [sgn d]) := by
  unfold su
  rw [sumF_app, sumF_app]
  have hl : (zs a).length = a := List.length_replicate
  have e1 : sumF ws (0 + (zs a).length) [sgn 0] = 0 := by
    show idx (sgn 0) * wAt ws _ + 0 = 0
    rw [idx_sgn (by omega)]; simp
  have e2 : sumF ws (0 + (zs a).length) [sgn d] = (d : Int) * wAt ws a := by
    show idx (sgn d) * wAt ws _ + 0 = _
    rw [idx_sgn hd, hl, Nat.zero_add, Int.add_zero]
  rw [e1, e2, Int.add_zero, emod_add0 hz]
theorem su_two {m : Int} {ws : List Int} {d : Nat} (h : Code m ws) (hd : d < 66) {a : Nat} (hz : ((d : Int) * gaps ws a) % m = 0) : su m ws (zs a ++ [sgn 0] ++ [sgn d]) = su m ws (zs a ++ [sgn d] ++ [sgn 0]) := by
  unfold su
  have hl : (zs a).length = a := List.length_replicate
  rw [sumF_app, sumF_app, sumF_app, sumF_app]
  have e0 : ∀ k, sumF ws k [sgn 0] = 0 := fun k => by
    show idx (sgn 0) * wAt ws _ + 0 = 0
    rw [idx_sgn (by omega)]; simp
  have e1 : ∀ k, sumF ws k [sgn d] = (d : Int) * wAt ws k := fun k => by
    show idx (sgn d) * wAt ws _ + 0 = _
    rw [idx_sgn hd, Int.add_zero]
  rw [e0, e0, e1, e1, List.length_append, List.length_singleton, hl, Nat.zero_add, Nat.zero_add]
  have e2 : sumF ws 0 (zs a) + (d : Int) * wAt ws a + 0 = (sumF ws 0 (zs a) + 0 + (d : Int) * wAt ws (a + 1)) + (d : Int) * gaps ws a := by
    unfold gaps
    rw [Int.mul_sub]; omega
  rw [e2, emod_add0 hz]
theorem d_zero {m gap : Int} (hm : 2 ≤ m) : (((m / dv m (gap % m)).toNat : Nat) : Int) * gap % m = 0 := (div_alike (by omega) _).mpr (Nat.dvd_refl _)
theorem accept_one {m : Int} {ws : List Int} (h : Code m ws) {a : Nat} (ha : a < ws.length) (hmiss : miss m (wAt ws a) = true) (hw : wAt ws a % m = wAt ws a) (S : List D) :
    g_accept_missed [.int m, .tup (ws.map D.int), .str (zs a ++ [sgn 0]), .str (zs a ++ [sgn (m / dv m (wAt ws a)).toNat])] S = .ok S false .non := by
  have hm := h.m1
  have hd := @dd_pos m (wAt ws a) (by omega)
  have c2 : m / dv m (wAt ws a) < nS m := of_decide_eq_true hmiss
  have hn := nN_int (m := m) (by omega)
  have hn66 := nN_le m
  have hz := d_zero (gap := wAt ws a) hm
  rw [hw] at hz
  have hl : (zs a).length = a := List.length_replicate
  have h2 := h.w2
  have in0 : sgn 0 ∈ sg m := sgn_in (by omega) (by omega)
  have ind : sgn (m / dv m (wAt ws a)).toNat ∈ sg m := sgn_in (by omega) (by omega)
  refine am_is h ⟨txt_app (zs_in hm a) (one_in in0), by simp [hl]; omega⟩ ⟨txt_app (zs_in hm a) (one_in ind), by simp [hl]; omega⟩ (by simp) (su_one h (by omega) hz) a (.inl ⟨?_, by simp [hl]⟩) S
  rw [plc_one (sgn_ne (by omega) (by omega)), hl]
theorem accept_two {m : Int} {ws : List Int} (h : Code m ws) {a : Nat} (ha : a < ws.length) (hmiss : miss m (gaps ws a % m) = true) (S : List D) :
    g_accept_missed [.int m, .tup (ws.map D.int), .str (zs a ++ [sgn 0] ++ [sgn (m / dv m (gaps ws a % m)).toNat]), .str (zs a ++ [sgn (m / dv m (gaps ws a % m)).toNat] ++ [sgn 0])] S = .ok S false .non := by
  have hm := h.m1
  have hd := @dd_pos m (gaps ws a % m) (by omega)
  have c2 : m / dv m (gaps ws a % m) < nS m := of_decide_eq_true hmiss
  have hn := nN_int (m := m) (by omega)
  have hn66 := nN_le m
  have hz := d_zero (gap := gaps ws a) hm
  have hl : (zs a).length = a := List.length_replicate
  have h2 := h.w2
  have in0 : sgn 0 ∈ sg m := sgn_in (by omega) (by omega)
  have ind : sgn (m / dv m (gaps ws a % m)).toNat ∈ sg m := sgn_in (by omega) (by omega)
  generalize hD : (m / dv m (gaps ws a % m)).toNat = d at *
  have g1 : ∀ x y, (zs a ++ [x] ++ [y]).getD a 0 = x := fun x y => by
    have : zs a ++ [x] ++ [y] = zs a ++ x :: [y] := by simp
    rw [this]
    conv => lhs; rw [← hl]
    rw [hl]
    have := @getD_mid (zs a) [y] x
    rwa [hl] at this
  have g2 : ∀ x y, (zs a ++ [x] ++ [y]).getD (a + 1) 0 = y := fun x y => by
    have := @getD_mid (zs a ++ [x]) [] y
    have hl2 : (zs a ++ [x]).length = a + 1 := by simp [hl]
    rwa [hl2] at this
  refine am_is h ⟨txt_app (txt_app (zs_in hm a) (one_in in0)) (one_in ind), by simp [hl]; omega⟩ ⟨txt_app (txt_app (zs_in hm a) (one_in ind)) (one_in in0), by simp [hl]; omega⟩ (by simp) (su_two h (by omega) hz) a (.inr ⟨?_, by simp [hl], by rw [g1, g2], by rw [g1, g2]⟩) S
  rw [plc_two (sgn_ne (by omega) (by omega)), hl]
end K56
namespace K56
open PySem PySem.Spec L2 PM
/-! ### the law's body, row by row -/
theorem lc_state {vs : List Nat} {tg : Tg} {elt : Sm} {ρ : List Sl} (Pv : D → Prop) (hs : ∀ (d : D) (S : List D), VS S → ∃ p1 p3 k y S', tg d ⟨ρ, S⟩ = some p1 ∧ elt p1 = .ok p3 (k, y) ∧ (p3.frzK k).wipe vs = ⟨ρ, S'⟩ ∧ VS S' ∧ Pv y) : ∀ (items acc : List D) (S : List D), VS S → acc.length + items.length ≤ 16777216 →
    ∃ ys S', lcLoop vs tg tYs elt items ⟨ρ, S⟩ acc = .ok ⟨ρ, S'⟩ (acc ++ ys) ∧ VS S' ∧ ys.length = items.length ∧ ∀ y ∈ ys, Pv y
  | [], acc, S, h, _ => ⟨[], S, by simp [lcLoop], h, rfl, fun _ z => by cases z⟩
  | d :: ds, acc, S, h, hz => by
    rw [List.length_cons] at hz
    obtain ⟨p1, p3, k, y, S1, e1, e2, e3, h1, hy⟩ := hs d S h
    obtain ⟨ys, S', e4, h2, h3, h4⟩ := lc_state Pv hs ds (acc ++ [y]) S1 h1 (by rw [List.length_append, List.length_singleton]; omega)
    refine ⟨y :: ys, S', ?_, h2, by rw [List.length_cons, List.length_cons, h3], fun z hz => ?_⟩
    · unfold lcLoop
      rw [e1]
      show (match elt p1 with
        | .ok p3 x => if szB (acc.length + 1) = true then lcLoop vs tg tYs elt ds ((p3.frzK x.1).wipe vs) (acc ++ [x.2]) else .no
        | _ => .no) = _
      rw [e2]
      simp only
      rw [if_pos (szB_of (by omega)), e3, e4, List.append_assoc]; rfl
    · rcases List.mem_cons.mp hz with rfl | hz
      · exact hy
      · exact h4 z hz
theorem eLc_state {it : SmI} {vs : List Nat} {tg : Tg} {elt : Sm} {p p1 : PSt} {items : List D} (Pv : D → Prop) (hit : it p = .ok p1 items) (hv : VS p1.S)
    (hs : ∀ (d : D) (S : List D), VS S → ∃ p2 p3 k y S', tg d ⟨(p1.wipe vs).ρ, S⟩ = some p2 ∧ elt p2 = .ok p3 (k, y) ∧ (p3.frzK k).wipe vs = ⟨(p1.wipe vs).ρ, S'⟩ ∧ VS S' ∧ Pv y) (hz : items.length ≤ 16777216) :
    ∃ ys S', eLc it vs tg tYs elt p = .ok ((⟨(p1.wipe vs).ρ, S'⟩ : PSt).back p1 vs) (.fr, .lst ys) ∧ VS S' ∧ ys.length = items.length ∧ ∀ y ∈ ys, Pv y := by
  obtain ⟨ys, S', e, h1, h2, h3⟩ := lc_state (vs := vs) Pv hs items [] p1.S hv (by simpa using hz)
  refine ⟨ys, S', ?_, h1, h2, h3⟩
  unfold eLc
  rw [hit]
  show (match lcLoop vs tg tYs elt items (p1.wipe vs) [] with
    | .ok p2 ds => Out.ok (p2.back p1 vs) (Kd.fr, D.lst ds)
    | _ => .no) = _
  have e' : lcLoop vs tg tYs elt items (p1.wipe vs) [] = .ok ⟨(p1.wipe vs).ρ, S'⟩ ys := by
    rw [← List.nil_append ys]
    exact e
  rw [e']
def mods : List Int := [2, 3, 5, 7, 10, 11, 13, 16, 20, 36, 66, 67, 97]
theorem mods_ok {m : Int} (h : m ∈ mods) : 2 ≤ m ∧ m ≤ 97 := by
  unfold mods at h
  simp only [List.mem_cons, List.not_mem_nil, or_false] at h
  omega
theorem row0 {d0 : D} {x2 x3 x4 x5 x6 x7 x8 x9 x10 x11 x12 x13 x14 x15 x16 x17 x18 x19 x20 x21 : Sl} {S : List D} (h : VS S) : ∃ m S', (sSet 3 (eOp2 ixD (eLst (aCons (eCst (.int 2)) (aCons (eCst (.int 3)) (aCons (eCst (.int 5)) (aCons (eCst (.int 7)) (aCons (eCst (.int 10)) (aCons (eCst (.int 11)) (aCons (eCst (.int 13)) (aCons (eCst (.int 16)) (aCons (eCst (.int 20)) (aCons (eCst (.int 36)) (aCons (eCst (.int 66)) (aCons (eCst (.int 67)) (aCons (eCst (.int 97)) aNil)))))))))))))) (eCall g__law_draw (aCons (eVar 1) (aCons (eCst (.int 13)) aNil))))) ⟨[.fz d0, .fz (.ob 0), x2, x3, x4, x5, x6, x7, x8, x9, x10, x11, x12, x13, x14, x15, x16, x17, x18, x19, x20, x21], S⟩ = .ok ⟨[.fz d0, .fz (.ob 0), x2, .fz (.int m), x4, x5, x6, x7, x8, x9, x10, x11, x12, x13, x14, x15, x16, x17, x18, x19, x20, x21], S'⟩ .nx ∧ m ∈ mods ∧ VS S' := by
  obtain ⟨v, S', e, h1, h2, h3⟩ := draw h (many := 13) (by omega) (by omega)
  have hl : v.toNat < mods.length := by show v.toNat < 13; omega
  have ha : atI (mods.map D.int) v = some (.int mods[v.toNat]) := by
    refine atK h2 ?_
    rw [List.getElem?_map, List.getElem?_eq_getElem hl]; rfl
  have ha' : atI [D.int 2, .int 3, .int 5, .int 7, .int 10, .int 11, .int 13, .int 16, .int 20, .int 36, .int 66, .int 67, .int 97] v = some (.int mods[v.toNat]) := ha
  refine ⟨mods[v.toNat], S', ?_, List.getElem_mem hl, h1⟩
  have hsz : szB 13 = true := rfl
  simp only [denFn, startP, outF, frOf, sSeq, sIf, sSet, sRet, sRetN, sExpr, sNil, sBrk, sCnt, sAug, sPar, sTgt, sApp, sExt, sStIx, sFor, eVar, eCst, eOp2, eOp1, eOpN, eChain, eAnd2, eOr2, eNot1, eIfE, tOfV, tTru, tAnd2, tOr2, tNot1, tYs, aNil, aCons, bNil, bCons, eTup, eLst, eDct0, eSl, eMthS, eCall, gN, gT, gSeq, iVal, iRange1, iRange2, iEnumr, itemsD, opOut, kdOf, deref, derefs, PSt.put, PSt.frzK, PSt.frz, Out.bind, Option.bind, Option.map, add_int, sub_int, addI, ix_tupE, ix_lstE, isTx, isntD2, isD2, isNone, guard', stIx, held, isKey, List.map_cons, List.map_nil, List.length_cons, List.length_nil, List.replicate_succ, List.replicate_zero, List.cons_append, List.nil_append, List.append_nil, List.getElem?_cons_zero, List.getElem?_cons_succ, List.set_cons_zero, List.set_cons_succ, Nat.reduceAdd, Nat.reduceSub, Nat.reduceEqDiff, if_true, if_false, ite_true, ite_false, reduceIte, at0, at1, at2, at3, eq_int, ne_int, ge_int, le_int, lt_int, gt_int, len_lst, len_tup, len_dct, intD, absD, List.length_map, Bool.not_true, Bool.not_false, Bool.false_eq_true, draw_is, e, ha', hsz]
theorem all_ints {P : Int → Prop} : ∀ (ys : List D), (∀ y ∈ ys, ∃ w, y = .int w ∧ P w) → ∃ ws : List Int, ys = ws.map D.int ∧ ∀ w ∈ ws, P w
  | [], _ => ⟨[], rfl, fun _ h => by cases h⟩
  | y :: ys, h => by
    obtain ⟨w, e, hw⟩ := h y List.mem_cons_self
    obtain ⟨ws, e2, h2⟩ := all_ints ys fun z hz => h z (List.mem_cons_of_mem _ hz)
    exact ⟨w :: ws, by rw [e, e2]; rfl, fun v hv => by
      rcases List.mem_cons.mp hv with rfl | hv
      · exact hw
      · exact h2 v hv⟩
theorem row1 {d0 : D} {x2 x4 x5 x6 x7 x8 x9 x10 x11 x12 x13 x14 x15 x16 x17 x18 x19 x20 x21 : Sl} {S : List D} {m : Int} (hm : 2 ≤ m) (hm2 : m ≤ 97) (h : VS S) : ∃ ws S', (sSet 4 (eOpN tupD (bCons (eLc (iRange1 (bCons (eOp2 addD (eCst (.int 1)) (eCall g__law_draw (aCons (eVar 1) (aCons (eCst (.int 5)) aNil)))) bNil)) [20] (gN 20) tYs (eCall g__law_draw (aCons (eVar 1) (aCons (eVar 3) aNil)))) bNil))) ⟨[.fz d0, .fz (.ob 0), x2, .fz (.int m), x4, x5, x6, x7, x8, x9, x10, x11, x12, x13, x14, x15, x16, x17, x18, x19, x20, x21], S⟩ = .ok ⟨[.fz d0, .fz (.ob 0), x2, .fz (.int m), .fz (.tup (ws.map D.int)), x5, x6, x7, x8, x9, x10, x11, x12, x13, x14, x15, x16, x17, x18, x19, x20, x21], S'⟩ .nx ∧ Code m ws ∧ ws.length ≤ 5 ∧ VS S' := by
  obtain ⟨v, S1, e, h1, h2, h3⟩ := draw h (many := 5) (by omega) (by omega)
  have hb : bnd (1 + v) = true := bnd_of (by omega) (by omega)
  have hit : iRange1 (bCons (eOp2 addD (eCst (.int 1)) (eCall g__law_draw (aCons (eVar 1) (aCons (eCst (.int 5)) aNil)))) bNil) ⟨[.fz d0, .fz (.ob 0), x2, .fz (.int m), x4, x5, x6, x7, x8, x9, x10, x11, x12, x13, x14, x15, x16, x17, x18, x19, x20, x21], S⟩ = .ok ⟨[.fz d0, .fz (.ob 0), x2, .fz (.int m), x4, x5, x6, x7, x8, x9, x10, x11, x12, x13, x14, x15, x16, x17, x18, x19, x20, x21], S1⟩ (rngD 0 (1 + v)) := by
    simp only [denFn, startP, outF, frOf, sSeq, sIf, sSet, sRet, sRetN, sExpr, sNil, sBrk, sCnt, sAug, sPar, sTgt, sApp, sExt, sStIx, sFor, eVar, eCst, eOp2, eOp1, eOpN, eChain, eAnd2, eOr2, eNot1, eIfE, tOfV, tTru, tAnd2, tOr2, tNot1, tYs, aNil, aCons, bNil, bCons, eTup, eLst, eDct0, eSl, eMthS, eCall, gN, gT, gSeq, iVal, iRange1, iRange2, iEnumr, itemsD, opOut, kdOf, deref, derefs, PSt.put, PSt.frzK, PSt.frz, Out.bind, Option.bind, Option.map, add_int, sub_int, addI, ix_tupE, ix_lstE, isTx, isntD2, isD2, isNone, guard', stIx, held, isKey, List.map_cons, List.map_nil, List.length_cons, List.length_nil, List.replicate_succ, List.replicate_zero, List.cons_append, List.nil_append, List.append_nil, List.getElem?_cons_zero, List.getElem?_cons_succ, List.set_cons_zero, List.set_cons_succ, Nat.reduceAdd, Nat.reduceSub, Nat.reduceEqDiff, if_true, if_false, ite_true, ite_false, reduceIte, at0, at1, at2, at3, eq_int, ne_int, ge_int, le_int, lt_int, gt_int, len_lst, len_tup, len_dct, intD, absD, List.length_map, Bool.not_true, Bool.not_false, Bool.false_eq_true, draw_is, e, hb]
  have hlen : (rngD 0 (1 + v)).length = (1 + v).toNat := by
    unfold rngD
    rw [List.length_map, List.length_range]; omega
  obtain ⟨ys, S', e2, g1, g2, g3⟩ := eLc_state (vs := [20]) (tg := gN 20) (elt := eCall g__law_draw (aCons (eVar 1) (aCons (eVar 3) aNil))) (fun y => ∃ w, y = .int w ∧ 0 ≤ w ∧ w < m) hit h1 (fun d S2 hS2 => by
    obtain ⟨u, S3, e3, q1, q2, q3⟩ := draw hS2 (many := m) (by omega) (by omega)
    refine ⟨⟨[.fz d0, .fz (.ob 0), x2, .fz (.int m), x4, x5, x6, x7, x8, x9, x10, x11, x12, x13, x14, x15, x16, x17, x18, x19, .fz d, x21], S2⟩, ⟨[.fz d0, .fz (.ob 0), x2, .fz (.int m), x4, x5, x6, x7, x8, x9, x10, x11, x12, x13, x14, x15, x16, x17, x18, x19, .fz d, x21], S3⟩, .fz, .int u, S3, rfl, ?_, rfl, q1, u, rfl, q2, q3⟩
    simp only [denFn, startP, outF, frOf, sSeq, sIf, sSet, sRet, sRetN, sExpr, sNil, sBrk, sCnt, sAug, sPar, sTgt, sApp, sExt, sStIx, sFor, eVar, eCst, eOp2, eOp1, eOpN, eChain, eAnd2, eOr2, eNot1, eIfE, tOfV, tTru, tAnd2, tOr2, tNot1, tYs, aNil, aCons, bNil, bCons, eTup, eLst, eDct0, eSl, eMthS, eCall, gN, gT, gSeq, iVal, iRange1, iRange2, iEnumr, itemsD, opOut, kdOf, deref, derefs, PSt.put, PSt.frzK, PSt.frz, Out.bind, Option.bind, Option.map, add_int, sub_int, addI, ix_tupE, ix_lstE, isTx, isntD2, isD2, isNone, guard', stIx, held, isKey, List.map_cons, List.map_nil, List.length_cons, List.length_nil, List.replicate_succ, List.replicate_zero, List.cons_append, List.nil_append, List.append_nil, List.getElem?_cons_zero, List.getElem?_cons_succ, List.set_cons_zero, List.set_cons_succ, Nat.reduceAdd, Nat.reduceSub, Nat.reduceEqDiff, if_true, if_false, ite_true, ite_false, reduceIte, at0, at1, at2, at3, eq_int, ne_int, ge_int, le_int, lt_int, gt_int, len_lst, len_tup, len_dct, intD, absD, List.length_map, Bool.not_true, Bool.not_false, Bool.false_eq_true, draw_is, e3]) (by rw [hlen]; omega)
  obtain ⟨ws, rfl, hw⟩ := all_ints ys g3
  have e2 : eLc (iRange1 (bCons (eOp2 addD (eCst (.int 1)) (eCall g__law_draw (aCons (eVar 1) (aCons (eCst (.int 5)) aNil)))) bNil)) [20] (gN 20) tYs (eCall g__law_draw (aCons (eVar 1) (aCons (eVar 3) aNil))) ⟨[.fz d0, .fz (.ob 0), x2, .fz (.int m), x4, x5, x6, x7, x8, x9, x10, x11, x12, x13, x14, x15, x16, x17, x18, x19, x20, x21], S⟩ = .ok ⟨[.fz d0, .fz (.ob 0), x2, .fz (.int m), x4, x5, x6, x7, x8, x9, x10, x11, x12, x13, x14, x15, x16, x17, x18, x19, x20, x21], S'⟩ (.fr, .lst (ws.map D.int)) := e2
  rw [List.length_map, hlen] at g2
  refine ⟨ws, S', ?_, ⟨hm, hm2, by omega, by omega, hw⟩, by omega, g1⟩
  simp only [denFn, startP, outF, frOf, sSeq, sIf, sSet, sRet, sRetN, sExpr, sNil, sBrk, sCnt, sAug, sPar, sTgt, sApp, sExt, sStIx, sFor, eVar, eCst, eOp2, eOp1, eOpN, eChain, eAnd2, eOr2, eNot1, eIfE, tOfV, tTru, tAnd2, tOr2, tNot1, tYs, aNil, aCons, bNil, bCons, eTup, eLst, eDct0, eSl, eMthS, eCall, gN, gT, gSeq, iVal, iRange1, iRange2, iEnumr, itemsD, opOut, kdOf, deref, derefs, PSt.put, PSt.frzK, PSt.frz, Out.bind, Option.bind, Option.map, add_int, sub_int, addI, ix_tupE, ix_lstE, isTx, isntD2, isD2, isNone, guard', stIx, held, isKey, List.map_cons, List.map_nil, List.length_cons, List.length_nil, List.replicate_succ, List.replicate_zero, List.cons_append, List.nil_append, List.append_nil, List.getElem?_cons_zero, List.getElem?_cons_succ, List.set_cons_zero, List.set_cons_succ, Nat.reduceAdd, Nat.reduceSub, Nat.reduceEqDiff, if_true, if_false, ite_true, ite_false, reduceIte, at0, at1, at2, at3, eq_int, ne_int, ge_int, le_int, lt_int, gt_int, len_lst, len_tup, len_dct, intD, absD, List.length_map, Bool.not_true, Bool.not_false, Bool.false_eq_true, e2, tupD_lst]
theorem row2 {d0 : D} {x2 x5 x6 x7 x8 x9 x10 x11 x12 x13 x14 x15 x16 x17 x18 x19 x20 x21 : Sl} {S : List D} {m : Int} {ws : List Int} (hm : 0 ≤ m) : (sSet 5 (eCall g__law_signs (aCons (eVar 3) aNil))) ⟨[.fz d0, .fz (.ob 0), x2, .fz (.int m), .fz (.tup (ws.map D.int)), x5, x6, x7, x8, x9, x10, x11, x12, x13, x14, x15, x16, x17, x18, x19, x20, x21], S⟩ = .ok ⟨[.fz d0, .fz (.ob 0), x2, .fz (.int m), .fz (.tup (ws.map D.int)), .fz (.str (sg m)), x6, x7, x8, x9, x10, x11, x12, x13, x14, x15, x16, x17, x18, x19, x20, x21], S⟩ .nx := by
  simp only [denFn, startP, outF, frOf, sSeq, sIf, sSet, sRet, sRetN, sExpr, sNil, sBrk, sCnt, sAug, sPar, sTgt, sApp, sExt, sStIx, sFor, eVar, eCst, eOp2, eOp1, eOpN, eChain, eAnd2, eOr2, eNot1, eIfE, tOfV, tTru, tAnd2, tOr2, tNot1, tYs, aNil, aCons, bNil, bCons, eTup, eLst, eDct0, eSl, eMthS, eCall, gN, gT, gSeq, iVal, iRange1, iRange2, iEnumr, itemsD, opOut, kdOf, deref, derefs, PSt.put, PSt.frzK, PSt.frz, Out.bind, Option.bind, Option.map, add_int, sub_int, addI, ix_tupE, ix_lstE, isTx, isntD2, isD2, isNone, guard', stIx, held, isKey, List.map_cons, List.map_nil, List.length_cons, List.length_nil, List.replicate_succ, List.replicate_zero, List.cons_append, List.nil_append, List.append_nil, List.getElem?_cons_zero, List.getElem?_cons_succ, List.set_cons_zero, List.set_cons_succ, Nat.reduceAdd, Nat.reduceSub, Nat.reduceEqDiff, if_true, if_false, ite_true, ite_false, reduceIte, at0, at1, at2, at3, eq_int, ne_int, ge_int, le_int, lt_int, gt_int, len_lst, len_tup, len_dct, intD, absD, List.length_map, Bool.not_true, Bool.not_false, Bool.false_eq_true, lsigns_is hm]
theorem join_one : ∀ cs : List Nat, TL.joinL [] (cs.map fun c => [c]) = cs
  | [] => rfl
  | [c] => rfl
  | c :: d :: r => by
    show [c] ++ ([] ++ TL.joinL [] ((d :: r).map fun c => [c])) = _
    rw [join_one (d :: r)]; rfl
theorem all_signs {P : Nat → Prop} : ∀ (ys : List D), (∀ y ∈ ys, ∃ w, y = .str [w] ∧ P w) → ∃ ws : List Nat, ys = ws.map (fun c => D.str [c]) ∧ ∀ w ∈ ws, P w
  | [], _ => ⟨[], rfl, fun _ h => by cases h⟩
  | y :: ys, h => by
    obtain ⟨w, e, hw⟩ := h y List.mem_cons_self
    obtain ⟨ws, e2, h2⟩ := all_signs ys fun z hz => h z (List.mem_cons_of_mem _ hz)
    exact ⟨w :: ws, by rw [e, e2]; rfl, fun v hv => by
      rcases List.mem_cons.mp hv with rfl | hv
      · exact hw
      · exact h2 v hv⟩
theorem len_ones : ∀ cs : List Nat, ((cs.map fun c => [c]).map (·.length)).sum = cs.length
  | [] => rfl
  | c :: r => by
    rw [List.map_cons, List.map_cons, List.sum_cons, len_ones r]
    show 1 + r.length = r.length + 1
    omega
theorem join_is {cs : List Nat} (h : cs.length ≤ 100) : joinD (.str []) [.lst (cs.map fun c => D.str [c])] = some (false, .str cs) := by
  have e : cs.map (fun c => D.str [c]) = (cs.map fun c => [c]).map D.str := by rw [List.map_map]; rfl
  show (seqD (.lst (cs.map fun c => D.str [c]))).bind (fun xs => (txtsD xs).bind fun ys => guard' (decide ((ys.map (·.length)).sum + ys.length * ([] : List Nat).length ≤ 16777216)) (some (false, .str (TL.joinL [] ys)))) = _
  show (txtsD (cs.map fun c => D.str [c])).bind (fun ys => guard' (decide ((ys.map (·.length)).sum + ys.length * ([] : List Nat).length ≤ 16777216)) (some (false, .str (TL.joinL [] ys)))) = _
  rw [e, txtsD_map]
  show guard' (decide (((cs.map fun c => [c]).map (·.length)).sum + (cs.map fun c => [c]).length * 0 ≤ 16777216)) (some (false, .str (TL.joinL [] (cs.map fun c => [c])))) = _
  rw [len_ones, join_one, decide_eq_true (by omega)]; rfl
theorem sg_len_is {m : Int} (hm : 0 ≤ m) : (sg m).length = nN m := by rw [sg_is hm, List.length_map, List.length_range]
theorem row3 {d0 : D} {x2 x6 x7 x8 x9 x10 x11 x12 x13 x14 x15 x16 x17 x18 x19 x20 x21 : Sl} {S : List D} {m : Int} {ws : List Int} (hm : 2 ≤ m) (h : VS S) : ∃ t S', (sSet 6 (eMthS joinD (eCst (.str [])) (bCons (eLc (iRange1 (bCons (eCall g__law_draw (aCons (eVar 1) (aCons (eCst (.int 9)) aNil))) bNil)) [20] (gN 20) tYs (eOp2 ixD (eVar 5) (eCall g__law_draw (aCons (eVar 1) (aCons (eOpN lenD (bCons (eVar 5) bNil)) aNil))))) bNil))) ⟨[.fz d0, .fz (.ob 0), x2, .fz (.int m), .fz (.tup (ws.map D.int)), .fz (.str (sg m)), x6, x7, x8, x9, x10, x11, x12, x13, x14, x15, x16, x17, x18, x19, x20, x21], S⟩ = .ok ⟨[.fz d0, .fz (.ob 0), x2, .fz (.int m), .fz (.tup (ws.map D.int)), .fz (.str (sg m)), .fz (.str t), x7, x8, x9, x10, x11, x12, x13, x14, x15, x16, x17, x18, x19, x20, x21], S'⟩ .nx ∧ Txt m t ∧ t.length ≤ 8 ∧ VS S' := by
  obtain ⟨v, S1, e, h1, h2, h3⟩ := draw h (many := 9) (by omega) (by omega)
  have hn66 := nN_le m
  have hn2 : 2 ≤ nN m := by unfold nN nS; split <;> omega
  have hb : bnd v = true := bnd_of (by omega) (by omega)
  have hit : iRange1 (bCons (eCall g__law_draw (aCons (eVar 1) (aCons (eCst (.int 9)) aNil))) bNil) ⟨[.fz d0, .fz (.ob 0), x2, .fz (.int m), .fz (.tup (ws.map D.int)), .fz (.str (sg m)), x6, x7, x8, x9, x10, x11, x12, x13, x14, x15, x16, x17, x18, x19, x20, x21], S⟩ = .ok ⟨[.fz d0, .fz (.ob 0), x2, .fz (.int m), .fz (.tup (ws.map D.int)), .fz (.str (sg m)), x6, x7, x8, x9, x10, x11, x12, x13, x14, x15, x16, x17, x18, x19, x20, x21], S1⟩ (rngD 0 v) := by
    simp only [denFn, startP, outF, frOf, sSeq, sIf, sSet, sRet, sRetN, sExpr, sNil, sBrk, sCnt, sAug, sPar, sTgt, sApp, sExt, sStIx, sFor, eVar, eCst, eOp2, eOp1, eOpN, eChain, eAnd2, eOr2, eNot1, eIfE, tOfV, tTru, tAnd2, tOr2, tNot1, tYs, aNil, aCons, bNil, bCons, eTup, eLst, eDct0, eSl, eMthS, eCall, gN, gT, gSeq, iVal, iRange1, iRange2, iEnumr, itemsD, opOut, kdOf, deref, derefs, PSt.put, PSt.frzK, PSt.frz, Out.bind, Option.bind, Option.map, add_int, sub_int, addI, ix_tupE, ix_lstE, isTx, isntD2, isD2, isNone, guard', stIx, held, isKey, List.map_cons, List.map_nil, List.length_cons, List.length_nil, List.replicate_succ, List.replicate_zero, List.cons_append, List.nil_append, List.append_nil, List.getElem?_cons_zero, List.getElem?_cons_succ, List.set_cons_zero, List.set_cons_succ, Nat.reduceAdd, Nat.reduceSub, Nat.reduceEqDiff, if_true, if_false, ite_true, ite_false, reduceIte, at0, at1, at2, at3, eq_int, ne_int, ge_int, le_int, lt_int, gt_int, len_lst, len_tup, len_dct, intD, absD, List.length_map, Bool.not_true, Bool.not_false, Bool.false_eq_true, draw_is, e, hb]
  have hlen : (rngD 0 v).length = v.toNat := by
    unfold rngD
    rw [List.length_map, List.length_range]; omega
  have e7 : lenD [.str (sg m)] = some (false, .int (nN m : Nat)) := by
    rw [len_str (by rw [sg_len_is (by omega)]; omega), sg_len_is (by omega)]
  obtain ⟨ys, S', e2, g1, g2, g3⟩ := eLc_state (vs := [20]) (tg := gN 20) (elt := eOp2 ixD (eVar 5) (eCall g__law_draw (aCons (eVar 1) (aCons (eOpN lenD (bCons (eVar 5) bNil)) aNil)))) (fun y => ∃ w, y = .str [w] ∧ w ∈ sg m) hit h1 (fun d S2 hS2 => by
    obtain ⟨u, S3, e3, q1, q2, q3⟩ := draw hS2 (many := (nN m : Nat)) (by omega) (by omega)
    have hu : u.toNat < (sg m).length := by rw [sg_len_is (by omega)]; omega
    have hx : ixD (.str (sg m)) (.int u) = some (false, .str [(sg m)[u.toNat]]) := ix_str (by rw [sg_len_is (by omega)]; omega) (atK q2 (List.getElem?_eq_getElem hu))
    refine ⟨⟨[.fz d0, .fz (.ob 0), x2, .fz (.int m), .fz (.tup (ws.map D.int)), .fz (.str (sg m)), x6, x7, x8, x9, x10, x11, x12, x13, x14, x15, x16, x17, x18, x19, .fz d, x21], S2⟩, ⟨[.fz d0, .fz (.ob 0), x2, .fz (.int m), .fz (.tup (ws.map D.int)), .fz (.str (sg m)), x6, x7, x8, x9, x10, x11, x12, x13, x14, x15, x16, x17, x18, x19, .fz d, x21], S3⟩, .fz, .str [(sg m)[u.toNat]], S3, rfl, ?_, rfl, q1, _, rfl, List.getElem_mem hu⟩
    simp only [denFn, startP, outF, frOf, sSeq, sIf, sSet, sRet, sRetN, sExpr, sNil, sBrk, sCnt, sAug, sPar, sTgt, sApp, sExt, sStIx, sFor, eVar, eCst, eOp2, eOp1, eOpN, eChain, eAnd2, eOr2, eNot1, eIfE, tOfV, tTru, tAnd2, tOr2, tNot1, tYs, aNil, aCons, bNil, bCons, eTup, eLst, eDct0, eSl, eMthS, eCall, gN, gT, gSeq, iVal, iRange1, iRange2, iEnumr, itemsD, opOut, kdOf, deref, derefs, PSt.put, PSt.frzK, PSt.frz, Out.bind, Option.bind, Option.map, add_int, sub_int, addI, ix_tupE, ix_lstE, isTx, isntD2, isD2, isNone, guard', stIx, held, isKey, List.map_cons, List.map_nil, List.length_cons, List.length_nil, List.replicate_succ, List.replicate_zero, List.cons_append, List.nil_append, List.append_nil, List.getElem?_cons_zero, List.getElem?_cons_succ, List.set_cons_zero, List.set_cons_succ, Nat.reduceAdd, Nat.reduceSub, Nat.reduceEqDiff, if_true, if_false, ite_true, ite_false, reduceIte, at0, at1, at2, at3, eq_int, ne_int, ge_int, le_int, lt_int, gt_int, len_lst, len_tup, len_dct, intD, absD, List.length_map, Bool.not_true, Bool.not_false, Bool.false_eq_true, draw_is, e7, e3, hx]) (by rw [hlen]; omega)
  obtain ⟨t, rfl, ht⟩ := all_signs ys g3
  have e2 : eLc (iRange1 (bCons (eCall g__law_draw (aCons (eVar 1) (aCons (eCst (.int 9)) aNil))) bNil)) [20] (gN 20) tYs (eOp2 ixD (eVar 5) (eCall g__law_draw (aCons (eVar 1) (aCons (eOpN lenD (bCons (eVar 5) bNil)) aNil)))) ⟨[.fz d0, .fz (.ob 0), x2, .fz (.int m), .fz (.tup (ws.map D.int)), .fz (.str (sg m)), x6, x7, x8, x9, x10, x11, x12, x13, x14, x15, x16, x17, x18, x19, x20, x21], S⟩ = .ok ⟨[.fz d0, .fz (.ob 0), x2, .fz (.int m), .fz (.tup (ws.map D.int)), .fz (.str (sg m)), x6, x7, x8, x9, x10, x11, x12, x13, x14, x15, x16, x17, x18, x19, x20, x21], S'⟩ (.fr, .lst (t.map fun c => D.str [c])) := e2
  rw [List.length_map, hlen] at g2
  refine ⟨t, S', ?_, ⟨ht, by omega⟩, by omega, g1⟩
  simp only [denFn, startP, outF, frOf, sSeq, sIf, sSet, sRet, sRetN, sExpr, sNil, sBrk, sCnt, sAug, sPar, sTgt, sApp, sExt, sStIx, sFor, eVar, eCst, eOp2, eOp1, eOpN, eChain, eAnd2, eOr2, eNot1, eIfE, tOfV, tTru, tAnd2, tOr2, tNot1, tYs, aNil, aCons, bNil, bCons, eTup, eLst, eDct0, eSl, eMthS, eCall, gN, gT, gSeq, iVal, iRange1, iRange2, iEnumr, itemsD, opOut, kdOf, deref, derefs, PSt.put, PSt.frzK, PSt.frz, Out.bind, Option.bind, Option.map, add_int, sub_int, addI, ix_tupE, ix_lstE, isTx, isntD2, isD2, isNone, guard', stIx, held, isKey, List.map_cons, List.map_nil, List.length_cons, List.length_nil, List.replicate_succ, List.replicate_zero, List.cons_append, List.nil_append, List.append_nil, List.getElem?_cons_zero, List.getElem?_cons_succ, List.set_cons_zero, List.set_cons_succ, Nat.reduceAdd, Nat.reduceSub, Nat.reduceEqDiff, if_true, if_false, ite_true, ite_false, reduceIte, at0, at1, at2, at3, eq_int, ne_int, ge_int, le_int, lt_int, gt_int, len_lst, len_tup, len_dct, intD, absD, List.length_map, Bool.not_true, Bool.not_false, Bool.false_eq_true, e2, join_is (show t.length ≤ 100 by omega)]
theorem row4 {d0 : D} {x2 x7 x8 x9 x10 x11 x12 x13 x14 x15 x16 x17 x18 x19 x20 x21 : Sl} {S : List D} {m : Int} {ws : List Int} {t : List Nat} (h : Code m ws) (ht : Txt m t) : (sSet 7 (eCall g__law_sum (aCons (eVar 3) (aCons (eVar 4) (aCons (eVar 6) aNil))))) ⟨[.fz d0, .fz (.ob 0), x2, .fz (.int m), .fz (.tup (ws.map D.int)), .fz (.str (sg m)), .fz (.str t), x7, x8, x9, x10, x11, x12, x13, x14, x15, x16, x17, x18, x19, x20, x21], S⟩ = .ok ⟨[.fz d0, .fz (.ob 0), x2, .fz (.int m), .fz (.tup (ws.map D.int)), .fz (.str (sg m)), .fz (.str t), .fz (.int (su m ws t)), x8, x9, x10, x11, x12, x13, x14, x15, x16, x17, x18, x19, x20, x21], S⟩ .nx := by
  simp only [denFn, startP, outF, frOf, sSeq, sIf, sSet, sRet, sRetN, sExpr, sNil, sBrk, sCnt, sAug, sPar, sTgt, sApp, sExt, sStIx, sFor, eVar, eCst, eOp2, eOp1, eOpN, eChain, eAnd2, eOr2, eNot1, eIfE, tOfV, tTru, tAnd2, tOr2, tNot1, tYs, aNil, aCons, bNil, bCons, eTup, eLst, eDct0, eSl, eMthS, eCall, gN, gT, gSeq, iVal, iRange1, iRange2, iEnumr, itemsD, opOut, kdOf, deref, derefs, PSt.put, PSt.frzK, PSt.frz, Out.bind, Option.bind, Option.map, add_int, sub_int, addI, ix_tupE, ix_lstE, isTx, isntD2, isD2, isNone, guard', stIx, held, isKey, List.map_cons, List.map_nil, List.length_cons, List.length_nil, List.replicate_succ, List.replicate_zero, List.cons_append, List.nil_append, List.append_nil, List.getElem?_cons_zero, List.getElem?_cons_succ, List.set_cons_zero, List.set_cons_succ, Nat.reduceAdd, Nat.reduceSub, Nat.reduceEqDiff, if_true, if_false, ite_true, ite_false, reduceIte, at0, at1, at2, at3, eq_int, ne_int, ge_int, le_int, lt_int, gt_int, len_lst, len_tup, len_dct, intD, absD, List.length_map, Bool.not_true, Bool.not_false, Bool.false_eq_true, lsum_is h ht]
theorem row5 {d0 : D} {x2 x8 x9 x10 x11 x12 x13 x14 x15 x16 x17 x18 x19 x20 x21 : Sl} {S : List D} {m : Int} {ws : List Int} {t : List Nat} (h : Code m ws) (ht : Txt m t) : (sIf (tOr2 (tOfV (eOp2 neD2 (eCall g_check_sum (aCons (eVar 3) (aCons (eVar 4) (aCons (eVar 6) aNil)))) (eVar 7))) (tOfV (eOp2 neD2 (eCall g_is_guarded (aCons (eVar 3) (aCons (eVar 4) (aCons (eVar 6) aNil)))) (eOp2 eqD2 (eVar 7) (eCst (.int 0)))))) (sRet (eCst (.bl false))) sNil) ⟨[.fz d0, .fz (.ob 0), x2, .fz (.int m), .fz (.tup (ws.map D.int)), .fz (.str (sg m)), .fz (.str t), .fz (.int (su m ws t)), x8, x9, x10, x11, x12, x13, x14, x15, x16, x17, x18, x19, x20, x21], S⟩ = .ok ⟨[.fz d0, .fz (.ob 0), x2, .fz (.int m), .fz (.tup (ws.map D.int)), .fz (.str (sg m)), .fz (.str t), .fz (.int (su m ws t)), x8, x9, x10, x11, x12, x13, x14, x15, x16, x17, x18, x19, x20, x21], S⟩ .nx := by
  have e1 : neD2 (.int (sumF ws 0 t % m)) (.int (sumF ws 0 t % m)) = some (false, .bl false) := ne_same rfl
  have e2 : ∀ b, neD2 (.bl b) (.bl b) = some (false, .bl false) := fun b => ne_same rfl
  simp only [denFn, startP, outF, frOf, sSeq, sIf, sSet, sRet, sRetN, sExpr, sNil, sBrk, sCnt, sAug, sPar, sTgt, sApp, sExt, sStIx, sFor, eVar, eCst, eOp2, eOp1, eOpN, eChain, eAnd2, eOr2, eNot1, eIfE, tOfV, tTru, tAnd2, tOr2, tNot1, tYs, aNil, aCons, bNil, bCons, eTup, eLst, eDct0, eSl, eMthS, eCall, gN, gT, gSeq, iVal, iRange1, iRange2, iEnumr, itemsD, opOut, kdOf, deref, derefs, PSt.put, PSt.frzK, PSt.frz, Out.bind, Option.bind, Option.map, add_int, sub_int, addI, ix_tupE, ix_lstE, isTx, isntD2, isD2, isNone, guard', stIx, held, isKey, List.map_cons, List.map_nil, List.length_cons, List.length_nil, List.replicate_succ, List.replicate_zero, List.cons_append, List.nil_append, List.append_nil, List.getElem?_cons_zero, List.getElem?_cons_succ, List.set_cons_zero, List.set_cons_succ, Nat.reduceAdd, Nat.reduceSub, Nat.reduceEqDiff, if_true, if_false, ite_true, ite_false, reduceIte, at0, at1, at2, at3, eq_int, ne_int, ge_int, le_int, lt_int, gt_int, len_lst, len_tup, len_dct, intD, absD, List.length_map, Bool.not_true, Bool.not_false, Bool.false_eq_true, check_sum_is h ht, is_guarded_is h ht, su, e1, e2, ne_bl]
  try simp
def grd (m : Int) (ws : List Int) (t : List Nat) : List Nat := (sg m).filter fun c => gd m ws (t ++ [c])
theorem okS_signs {m : Int} {l : List Nat} (h : ∀ c ∈ l, c ∈ sg m) : okD 64 (.tup (l.map fun c => D.str [c])) = true := by
  show okDs 63 (l.map fun c => D.str [c]) = true
  exact okDs_map fun c hc => okT_sg (one_in (h c hc))
theorem row6 {d0 : D} {x2 x8 x9 x10 x11 x12 x13 x14 x15 x16 x17 x18 x19 x20 x21 : Sl} {S : List D} {m : Int} {ws : List Int} {t : List Nat} (h : Code m ws) (ht : Txt m t) (hl : t.length ≤ 8) : (sSet 8 (eCall g_guards_of (aCons (eVar 3) (aCons (eVar 4) (aCons (eVar 6) aNil))))) ⟨[.fz d0, .fz (.ob 0), x2, .fz (.int m), .fz (.tup (ws.map D.int)), .fz (.str (sg m)), .fz (.str t), .fz (.int (su m ws t)), x8, x9, x10, x11, x12, x13, x14, x15, x16, x17, x18, x19, x20, x21], S⟩ = .ok ⟨[.fz d0, .fz (.ob 0), x2, .fz (.int m), .fz (.tup (ws.map D.int)), .fz (.str (sg m)), .fz (.str t), .fz (.int (su m ws t)), .fz (.tup ((grd m ws t).map fun c => D.str [c])), x9, x10, x11, x12, x13, x14, x15, x16, x17, x18, x19, x20, x21], S⟩ .nx := by
  simp only [denFn, startP, outF, frOf, sSeq, sIf, sSet, sRet, sRetN, sExpr, sNil, sBrk, sCnt, sAug, sPar, sTgt, sApp, sExt, sStIx, sFor, eVar, eCst, eOp2, eOp1, eOpN, eChain, eAnd2, eOr2, eNot1, eIfE, tOfV, tTru, tAnd2, tOr2, tNot1, tYs, aNil, aCons, bNil, bCons, eTup, eLst, eDct0, eSl, eMthS, eCall, gN, gT, gSeq, iVal, iRange1, iRange2, iEnumr, itemsD, opOut, kdOf, deref, derefs, PSt.put, PSt.frzK, PSt.frz, Out.bind, Option.bind, Option.map, add_int, sub_int, addI, ix_tupE, ix_lstE, isTx, isntD2, isD2, isNone, guard', stIx, held, isKey, List.map_cons, List.map_nil, List.length_cons, List.length_nil, List.replicate_succ, List.replicate_zero, List.cons_append, List.nil_append, List.append_nil, List.getElem?_cons_zero, List.getElem?_cons_succ, List.set_cons_zero, List.set_cons_succ, Nat.reduceAdd, Nat.reduceSub, Nat.reduceEqDiff, if_true, if_false, ite_true, ite_false, reduceIte, at0, at1, at2, at3, eq_int, ne_int, ge_int, le_int, lt_int, gt_int, len_lst, len_tup, len_dct, intD, absD, List.length_map, Bool.not_true, Bool.not_false, Bool.false_eq_true, guards_of_is h ht (show t.length < 4000 by omega), grd]
theorem row7 {d0 : D} {x2 x9 x10 x11 x12 x13 x14 x15 x16 x17 x18 x19 x20 x21 : Sl} {S : List D} {m : Int} {ws : List Int} {t : List Nat} (h : Code m ws) (ht : Txt m t) (hl : t.length ≤ 8) : (sIf (tOfV (eOp2 neD2 (eVar 8) (eOpN tupD (bCons (eLc (iVal (eVar 5)) [21] (gN 21) (tOfV (eOp2 eqD2 (eCall g__law_sum (aCons (eVar 3) (aCons (eVar 4) (aCons (eOp2 addD (eVar 6) (eVar 21)) aNil)))) (eCst (.int 0)))) (eVar 21)) bNil)))) (sRet (eCst (.bl false))) sNil) ⟨[.fz d0, .fz (.ob 0), x2, .fz (.int m), .fz (.tup (ws.map D.int)), .fz (.str (sg m)), .fz (.str t), .fz (.int (su m ws t)), .fz (.tup ((grd m ws t).map fun c => D.str [c])), x9, x10, x11, x12, x13, x14, x15, x16, x17, x18, x19, x20, x21], S⟩ = .ok ⟨[.fz d0, .fz (.ob 0), x2, .fz (.int m), .fz (.tup (ws.map D.int)), .fz (.str (sg m)), .fz (.str t), .fz (.int (su m ws t)), .fz (.tup ((grd m ws t).map fun c => D.str [c])), x9, x10, x11, x12, x13, x14, x15, x16, x17, x18, x19, x20, x21], S⟩ .nx := by
  have hsg := @sg_len m
  have hlc : (eLc (iVal (eVar 5)) [21] (gN 21) (tOfV (eOp2 eqD2 (eCall g__law_sum (aCons (eVar 3) (aCons (eVar 4) (aCons (eOp2 addD (eVar 6) (eVar 21)) aNil)))) (eCst (.int 0)))) (eVar 21)) ⟨[.fz d0, .fz (.ob 0), x2, .fz (.int m), .fz (.tup (ws.map D.int)), .fz (.str (sg m)), .fz (.str t), .fz (.int (su m ws t)), .fz (.tup ((grd m ws t).map fun c => D.str [c])), x9, x10, x11, x12, x13, x14, x15, x16, x17, x18, x19, x20, x21], S⟩ = .ok ⟨[.fz d0, .fz (.ob 0), x2, .fz (.int m), .fz (.tup (ws.map D.int)), .fz (.str (sg m)), .fz (.str t), .fz (.int (su m ws t)), .fz (.tup ((grd m ws t).map fun c => D.str [c])), x9, x10, x11, x12, x13, x14, x15, x16, x17, x18, x19, x20, x21], S⟩ (.fr, .lst ((grd m ws t).map fun c => D.str [c])) := by
    refine (eLc_filter (p1 := ⟨[.fz d0, .fz (.ob 0), x2, .fz (.int m), .fz (.tup (ws.map D.int)), .fz (.str (sg m)), .fz (.str t), .fz (.int (su m ws t)), .fz (.tup ((grd m ws t).map fun c => D.str [c])), x9, x10, x11, x12, x13, x14, x15, x16, x17, x18, x19, x20, x21], S⟩) (sg m) (fun c => .str [c]) (fun c => .str [c]) (fun c => gd m ws (t ++ [c])) rfl ?_ (by omega)).trans rfl
    intro c hc
    refine ⟨⟨[.fz d0, .fz (.ob 0), x2, .fz (.int m), .fz (.tup (ws.map D.int)), .fz (.str (sg m)), .fz (.str t), .fz (.int (su m ws t)), .fz (.tup ((grd m ws t).map fun c => D.str [c])), x9, x10, x11, x12, x13, x14, x15, x16, x17, x18, x19, x20, .fz (.str [c])], S⟩, ⟨[.fz d0, .fz (.ob 0), x2, .fz (.int m), .fz (.tup (ws.map D.int)), .fz (.str (sg m)), .fz (.str t), .fz (.int (su m ws t)), .fz (.tup ((grd m ws t).map fun c => D.str [c])), x9, x10, x11, x12, x13, x14, x15, x16, x17, x18, x19, x20, .fz (.str [c])], S⟩, rfl, ?_, fun _ => rfl, fun _ => ⟨_, .fz, rfl, rfl⟩⟩
    have e1 : addD (.str t) (.str [c]) = some (false, .str (t ++ [c])) := add_str (by simp; omega)
    have ht2 : Txt m (t ++ [c]) := ⟨txt_app ht.s (one_in hc), by simp; omega⟩
    simp only [denFn, startP, outF, frOf, sSeq, sIf, sSet, sRet, sRetN, sExpr, sNil, sBrk, sCnt, sAug, sPar, sTgt, sApp, sExt, sStIx, sFor, eVar, eCst, eOp2, eOp1, eOpN, eChain, eAnd2, eOr2, eNot1, eIfE, tOfV, tTru, tAnd2, tOr2, tNot1, tYs, aNil, aCons, bNil, bCons, eTup, eLst, eDct0, eSl, eMthS, eCall, gN, gT, gSeq, iVal, iRange1, iRange2, iEnumr, itemsD, opOut, kdOf, deref, derefs, PSt.put, PSt.frzK, PSt.frz, Out.bind, Option.bind, Option.map, add_int, sub_int, addI, ix_tupE, ix_lstE, isTx, isntD2, isD2, isNone, guard', stIx, held, isKey, List.map_cons, List.map_nil, List.length_cons, List.length_nil, List.replicate_succ, List.replicate_zero, List.cons_append, List.nil_append, List.append_nil, List.getElem?_cons_zero, List.getElem?_cons_succ, List.set_cons_zero, List.set_cons_succ, Nat.reduceAdd, Nat.reduceSub, Nat.reduceEqDiff, if_true, if_false, ite_true, ite_false, reduceIte, at0, at1, at2, at3, eq_int, ne_int, ge_int, le_int, lt_int, gt_int, len_lst, len_tup, len_dct, intD, absD, List.length_map, Bool.not_true, Bool.not_false, Bool.false_eq_true, e1, lsum_is h ht2, gd]
    try rfl
  have hne := ne_same (okS_signs (m := m) (l := grd m ws t) fun c hc => (List.mem_filter.mp hc).1)
  simp only [denFn, startP, outF, frOf, sSeq, sIf, sSet, sRet, sRetN, sExpr, sNil, sBrk, sCnt, sAug, sPar, sTgt, sApp, sExt, sStIx, sFor, eVar, eCst, eOp2, eOp1, eOpN, eChain, eAnd2, eOr2, eNot1, eIfE, tOfV, tTru, tAnd2, tOr2, tNot1, tYs, aNil, aCons, bNil, bCons, eTup, eLst, eDct0, eSl, eMthS, eCall, gN, gT, gSeq, iVal, iRange1, iRange2, iEnumr, itemsD, opOut, kdOf, deref, derefs, PSt.put, PSt.frzK, PSt.frz, Out.bind, Option.bind, Option.map, add_int, sub_int, addI, ix_tupE, ix_lstE, isTx, isntD2, isD2, isNone, guard', stIx, held, isKey, List.map_cons, List.map_nil, List.length_cons, List.length_nil, List.replicate_succ, List.replicate_zero, List.cons_append, List.nil_append, List.append_nil, List.getElem?_cons_zero, List.getElem?_cons_succ, List.set_cons_zero, List.set_cons_succ, Nat.reduceAdd, Nat.reduceSub, Nat.reduceEqDiff, if_true, if_false, ite_true, ite_false, reduceIte, at0, at1, at2, at3, eq_int, ne_int, ge_int, le_int, lt_int, gt_int, len_lst, len_tup, len_dct, intD, absD, List.length_map, Bool.not_true, Bool.not_false, Bool.false_eq_true, hlc, tupD_lst, hne]
end K56
namespace K56
open PySem PySem.Spec L2 PM
theorem row8 {d0 : D} {x2 x9 x10 x11 x12 x13 x14 x15 x16 x17 x18 x19 x20 x21 : Sl} {S : List D} {m : Int} {ws : List Int} {t : List Nat} {g : D} : (sSet 9 (eLst aNil)) ⟨[.fz d0, .fz (.ob 0), x2, .fz (.int m), .fz (.tup (ws.map D.int)), .fz (.str (sg m)), .fz (.str t), .fz (.int (su m ws t)), .fz g, x9, x10, x11, x12, x13, x14, x15, x16, x17, x18, x19, x20, x21], S⟩ = .ok ⟨[.fz d0, .fz (.ob 0), x2, .fz (.int m), .fz (.tup (ws.map D.int)), .fz (.str (sg m)), .fz (.str t), .fz (.int (su m ws t)), .fz g, .ow (.lst (([] : List (List Nat)).map D.str)), x10, x11, x12, x13, x14, x15, x16, x17, x18, x19, x20, x21], S⟩ .nx := rfl
/-- all texts that differ in one sign, at the places ks -/
def allC (m : Int) (t : List Nat) (ks : List Nat) : List (List Nat) := ks.flatMap (chg m t)
theorem chg_len {m : Int} (t : List Nat) (k : Nat) : (chg m t k).length ≤ 66 := by
  unfold chg
  rw [List.length_map]
  exact Nat.le_trans (List.length_filter_le _ _) sg_len
theorem ch_loop {d0 : D} {x2 x11 x12 x13 x14 x15 x16 x17 x18 x19 x20 x21 : Sl} {S : List D} {m : Int} {ws : List Int} {t u : List Nat} {g : D} (i : Nat) (hi : i = 6 ∨ i = 12) (hx : (i = 6 → u = t) ∧ (i = 12 → x12 = .fz (.str u))) (hm : 0 ≤ m) (hu : Txt m u) : ∀ (ks : List Nat) (acc : List (List Nat)) (z : Sl), (∀ k ∈ ks, k < u.length) → acc.length + 66 * ks.length ≤ 1000000 → ∃ z',
    forLoop (gN 10) (sExt 9 (eCall g__law_changed (aCons (eVar 3) (aCons (eVar i) (aCons (eVar 10) aNil))))) (ks.map fun k => .int (0 + (k : Nat))) ⟨[.fz d0, .fz (.ob 0), x2, .fz (.int m), .fz (.tup (ws.map D.int)), .fz (.str (sg m)), .fz (.str t), .fz (.int (su m ws t)), .fz g, .ow (.lst (acc.map D.str)), z, x11, x12, x13, x14, x15, x16, x17, x18, x19, x20, x21], S⟩ = .ok ⟨[.fz d0, .fz (.ob 0), x2, .fz (.int m), .fz (.tup (ws.map D.int)), .fz (.str (sg m)), .fz (.str t), .fz (.int (su m ws t)), .fz g, .ow (.lst ((acc ++ allC m u ks).map D.str)), z', x11, x12, x13, x14, x15, x16, x17, x18, x19, x20, x21], S⟩ .nx
  | [], acc, z, _, _ => ⟨z, by simp [forLoop, allC]⟩
  | k :: ks, acc, z, hk, hz => by
    rw [List.length_cons] at hz
    have hcl := chg_len (m := m) u k
    obtain ⟨z', e⟩ := ch_loop (t := t) (S := S) (ws := ws) (g := g) (d0 := d0) (x2 := x2) (x11 := x11) (x12 := x12) (x13 := x13) (x14 := x14) (x15 := x15) (x16 := x16) (x17 := x17) (x18 := x18) (x19 := x19) (x20 := x20) (x21 := x21) i hi hx hm hu ks (acc ++ chg m u k) (.fz (.int (k : Nat))) (fun j hj => hk j (List.mem_cons_of_mem _ hj)) (by rw [List.length_append]; omega)
    refine ⟨z', ?_⟩
    have e0 : acc ++ allC m u (k :: ks) = (acc ++ chg m u k) ++ allC m u ks := by
      unfold allC
      rw [List.flatMap_cons, List.append_assoc]
    rw [e0, ← e, List.map_cons, Int.zero_add]
    have hc := lchanged_is hm hu (hk k List.mem_cons_self) S
    have hsz : szB (acc.length + (chg m u k).length) = true := szB_of (by omega)
    refine forLoop_cons (p1 := ⟨[.fz d0, .fz (.ob 0), x2, .fz (.int m), .fz (.tup (ws.map D.int)), .fz (.str (sg m)), .fz (.str t), .fz (.int (su m ws t)), .fz g, .ow (.lst (acc.map D.str)), .fz (.int (k : Nat)), x11, x12, x13, x14, x15, x16, x17, x18, x19, x20, x21], S⟩) rfl ?_
    rcases hi with rfl | rfl
    · have := hx.1 rfl
      subst this
      simp only [denFn, startP, outF, frOf, sSeq, sIf, sSet, sRet, sRetN, sExpr, sNil, sBrk, sCnt, sAug, sPar, sTgt, sApp, sExt, sStIx, sFor, eVar, eCst, eOp2, eOp1, eOpN, eChain, eAnd2, eOr2, eNot1, eIfE, tOfV, tTru, tAnd2, tOr2, tNot1, tYs, aNil, aCons, bNil, bCons, eTup, eLst, eDct0, eSl, eMthS, eCall, gN, gT, gSeq, iVal, iRange1, iRange2, iEnumr, itemsD, opOut, kdOf, deref, derefs, PSt.put, PSt.frzK, PSt.frz, Out.bind, Option.bind, Option.map, add_int, sub_int, addI, ix_tupE, ix_lstE, isTx, isntD2, isD2, isNone, guard', stIx, held, isKey, List.map_cons, List.map_nil, List.length_cons, List.length_nil, List.replicate_succ, List.replicate_zero, List.cons_append, List.nil_append, List.append_nil, List.getElem?_cons_zero, List.getElem?_cons_succ, List.set_cons_zero, List.set_cons_succ, Nat.reduceAdd, Nat.reduceSub, Nat.reduceEqDiff, if_true, if_false, ite_true, ite_false, reduceIte, at0, at1, at2, at3, eq_int, ne_int, ge_int, le_int, lt_int, gt_int, len_lst, len_tup, len_dct, intD, absD, List.length_map, Bool.not_true, Bool.not_false, Bool.false_eq_true, hc, hsz, List.map_append]
    · have := hx.2 rfl
      subst this
      simp only [denFn, startP, outF, frOf, sSeq, sIf, sSet, sRet, sRetN, sExpr, sNil, sBrk, sCnt, sAug, sPar, sTgt, sApp, sExt, sStIx, sFor, eVar, eCst, eOp2, eOp1, eOpN, eChain, eAnd2, eOr2, eNot1, eIfE, tOfV, tTru, tAnd2, tOr2, tNot1, tYs, aNil, aCons, bNil, bCons, eTup, eLst, eDct0, eSl, eMthS, eCall, gN, gT, gSeq, iVal, iRange1, iRange2, iEnumr, itemsD, opOut, kdOf, deref, derefs, PSt.put, PSt.frzK, PSt.frz, Out.bind, Option.bind, Option.map, add_int, sub_int, addI, ix_tupE, ix_lstE, isTx, isntD2, isD2, isNone, guard', stIx, held, isKey, List.map_cons, List.map_nil, List.length_cons, List.length_nil, List.replicate_succ, List.replicate_zero, List.cons_append, List.nil_append, List.append_nil, List.getElem?_cons_zero, List.getElem?_cons_succ, List.set_cons_zero, List.set_cons_succ, Nat.reduceAdd, Nat.reduceSub, Nat.reduceEqDiff, if_true, if_false, ite_true, ite_false, reduceIte, at0, at1, at2, at3, eq_int, ne_int, ge_int, le_int, lt_int, gt_int, len_lst, len_tup, len_dct, intD, absD, List.length_map, Bool.not_true, Bool.not_false, Bool.false_eq_true, hc, hsz, List.map_append]
theorem row9 {d0 : D} {x2 x10 x11 x12 x13 x14 x15 x16 x17 x18 x19 x20 x21 : Sl} {S : List D} {m : Int} {ws : List Int} {t : List Nat} {g : D} (hm : 0 ≤ m) (ht : Txt m t) (hl : t.length ≤ 8) : ∃ z', (sFor (iRange1 (bCons (eOpN lenD (bCons (eVar 6) bNil)) bNil)) (gN 10) (sExt 9 (eCall g__law_changed (aCons (eVar 3) (aCons (eVar 6) (aCons (eVar 10) aNil)))))) ⟨[.fz d0, .fz (.ob 0), x2, .fz (.int m), .fz (.tup (ws.map D.int)), .fz (.str (sg m)), .fz (.str t), .fz (.int (su m ws t)), .fz g, .ow (.lst (([] : List (List Nat)).map D.str)), x10, x11, x12, x13, x14, x15, x16, x17, x18, x19, x20, x21], S⟩ = .ok ⟨[.fz d0, .fz (.ob 0), x2, .fz (.int m), .fz (.tup (ws.map D.int)), .fz (.str (sg m)), .fz (.str t), .fz (.int (su m ws t)), .fz g, .ow (.lst ((allC m t (List.range t.length)).map D.str)), z', x11, x12, x13, x14, x15, x16, x17, x18, x19, x20, x21], S⟩ .nx := by
  obtain ⟨z', e⟩ := ch_loop (S := S) (ws := ws) (t := t) (u := t) (g := g) (d0 := d0) (x2 := x2) (x11 := x11) (x12 := x12) (x13 := x13) (x14 := x14) (x15 := x15) (x16 := x16) (x17 := x17) (x18 := x18) (x19 := x19) (x20 := x20) (x21 := x21) 6 (.inl rfl) ⟨fun _ => rfl, fun z => by omega⟩ hm ht (List.range t.length) [] x10 (fun k hk => List.mem_range.mp hk) (by rw [List.length_range]; simp; omega)
  refine ⟨z', sFor_run (p1 := ⟨[.fz d0, .fz (.ob 0), x2, .fz (.int m), .fz (.tup (ws.map D.int)), .fz (.str (sg m)), .fz (.str t), .fz (.int (su m ws t)), .fz g, .ow (.lst (([] : List (List Nat)).map D.str)), x10, x11, x12, x13, x14, x15, x16, x17, x18, x19, x20, x21], S⟩) (items := (List.range t.length).map fun k => .int (0 + (k : Nat))) ?_ e⟩
  have e7 : lenD [.str t] = some (false, .int t.length) := len_str (by omega)
  have hb : bnd ((t.length : Nat) : Int) = true := bnd_of (by omega) (by omega)
  rw [← rng_nat]
  simp only [denFn, startP, outF, frOf, sSeq, sIf, sSet, sRet, sRetN, sExpr, sNil, sBrk, sCnt, sAug, sPar, sTgt, sApp, sExt, sStIx, sFor, eVar, eCst, eOp2, eOp1, eOpN, eChain, eAnd2, eOr2, eNot1, eIfE, tOfV, tTru, tAnd2, tOr2, tNot1, tYs, aNil, aCons, bNil, bCons, eTup, eLst, eDct0, eSl, eMthS, eCall, gN, gT, gSeq, iVal, iRange1, iRange2, iEnumr, itemsD, opOut, kdOf, deref, derefs, PSt.put, PSt.frzK, PSt.frz, Out.bind, Option.bind, Option.map, add_int, sub_int, addI, ix_tupE, ix_lstE, isTx, isntD2, isD2, isNone, guard', stIx, held, isKey, List.map_cons, List.map_nil, List.length_cons, List.length_nil, List.replicate_succ, List.replicate_zero, List.cons_append, List.nil_append, List.append_nil, List.getElem?_cons_zero, List.getElem?_cons_succ, List.set_cons_zero, List.set_cons_succ, Nat.reduceAdd, Nat.reduceSub, Nat.reduceEqDiff, if_true, if_false, ite_true, ite_false, reduceIte, at0, at1, at2, at3, eq_int, ne_int, ge_int, le_int, lt_int, gt_int, len_lst, len_tup, len_dct, intD, absD, List.length_map, Bool.not_true, Bool.not_false, Bool.false_eq_true, e7, hb]
/-! ### repairs are what is found by trying all -/
theorem gd_put {m : Int} {ws : List Int} {t : List Nat} {k c d : Nat} {r : List Nat} (hm : 0 < m) (hd : t.drop k = c :: r) : gd m ws (put1 t k d) = decide ((su m ws t + wAt ws k * (idx d - idx c)) % m = 0) := by
  unfold gd su
  rw [sum_put hd]
  have : (sumF ws 0 t + wAt ws k * (idx d - idx c)) % m = (sumF ws 0 t % m + wAt ws k * (idx d - idx c)) % m := (Int.emod_add_emod _ _ _).symm
  rw [this]
theorem drop_getD {t : List Nat} {k c : Nat} {r : List Nat} (hd : t.drop k = c :: r) : t.getD k 0 = c := by
  have h := (split_at hd).2.2.1
  rw [List.drop_eq_getElem_cons h] at hd
  injection hd with h1 _
  rw [List.getD_eq_getElem?_getD, List.getElem?_eq_getElem h, ← h1]; rfl
theorem chg_filter {m : Int} {ws : List Int} {t : List Nat} {k c : Nat} {r : List Nat} (hm : 0 < m) (hd : t.drop k = c :: r) : (chg m t k).filter (gd m ws) = ((List.range (nN m)).filter fun j => (!decide ([sgn j] = [c])) && decide ((su m ws t + wAt ws k * ((j : Nat) - idx c)) % m = 0)).map fun j => put1 t k (sgn j) := by
  unfold chg
  rw [sg_is (by omega), List.filter_map, List.filter_filter, List.filter_map, List.map_map]
  show List.map (fun j => put1 t k (sgn j)) _ = _
  congr 1
  refine List.filter_congr fun j hj => ?_
  have hj := List.mem_range.mp hj
  have := nN_le m
  have e1 := gd_put (ws := ws) (d := sgn j) hm hd
  rw [idx_sgn (by omega)] at e1
  show (gd m ws (put1 t k (sgn j)) && !decide ([sgn j] = [t.getD k 0])) = _
  rw [e1, drop_getD hd, Bool.and_comm]
theorem rep_all {m : Int} {ws : List Int} {t : List Nat} (hm : 0 < m) (ht : ∀ c ∈ t, c ∈ sg m) (h0 : su m ws t ≠ 0) : ∀ (r : List Nat) (k : Nat), t.drop k = r → repL m ws t (su m ws t) k r = (allC m t (List.range' k r.length)).filter (gd m ws)
  | [], k, _ => rfl
  | c :: r, k, hd => by
    obtain ⟨p1, p2, p3, p4⟩ := split_at hd
    have hc : c ∈ sg m := ht c (by rw [p1]; simp)
    rw [repL, List.length_cons, List.range'_succ]
    unfold allC
    rw [List.flatMap_cons, List.filter_append, chg_filter hm hd]
    have ih := rep_all (ws := ws) hm ht h0 r (k + 1) p2
    unfold allC at ih
    rw [ih]
    congr 2
    refine List.filter_congr fun j hj => ?_
    have hj := List.mem_range.mp hj
    have := nN_le m
    unfold okJ
    by_cases e : sgn j = c
    · have e2 : ((j : Nat) : Int) = idx c := by rw [← e, idx_sgn (by omega)]
      have e3 : (su m ws t + wAt ws k * ((j : Nat) - idx c)) % m = su m ws t := by
        rw [e2, Int.sub_self, Int.mul_zero, Int.add_zero]
        unfold su
        exact Int.emod_emod_of_dvd _ (Int.dvd_refl m)
      rw [e3, decide_eq_false h0, e]
      simp
    · simp [e]
theorem chg_txt {m : Int} {t : List Nat} (ht : Txt m t) {ks : List Nat} (hk : ∀ k ∈ ks, k < t.length) : ∀ u ∈ allC m t ks, Txt m u := fun u hu => by
  obtain ⟨k, hk1, hu⟩ := List.mem_flatMap.mp hu
  obtain ⟨c, hc, rfl⟩ := List.mem_map.mp hu
  have hc := (List.mem_filter.mp hc).1
  exact ⟨put1_in ht.s hc, by rw [put1_len (hk k hk1)]; exact ht.l⟩
theorem allC_len {m : Int} (t : List Nat) : ∀ ks : List Nat, (allC m t ks).length ≤ 66 * ks.length
  | [] => by simp [allC]
  | k :: r => by
    have h1 := allC_len (m := m) t r
    have h2 := chg_len (m := m) t k
    unfold allC at h1 ⊢
    rw [List.flatMap_cons, List.length_append, List.length_cons]
    omega
theorem okS_txts {m : Int} {l : List (List Nat)} (h : ∀ u ∈ l, Txt m u) : okD 64 (.tup (l.map D.str)) = true := by
  show okDs 63 (l.map D.str) = true
  exact okDs_map fun u hu => okT_sg (h u hu).s
theorem srt_in {m : Int} {l : List (List Nat)} (h : ∀ u ∈ l, Txt m u) : ∀ u ∈ srtT l, Txt m u := fun u hu => h u ((srtT_perm l).mem_iff.mp hu)
theorem row10 {d0 : D} {x2 x10 x11 x12 x13 x14 x15 x16 x17 x18 x19 x20 x21 : Sl} {S : List D} {m : Int} {ws : List Int} {t : List Nat} {g : D} (h : Code m ws) (ht : Txt m t) (hl : t.length ≤ 8) : ∃ z', (sIf (tOfV (eOp2 neD2 (eCall g_repairs (aCons (eVar 3) (aCons (eVar 4) (aCons (eVar 6) aNil)))) (eIfE (tOfV (eOp2 eqD2 (eVar 7) (eCst (.int 0)))) (eTup (aCons (eVar 6) aNil)) (eOpN tupD (bCons (eOpN srtD (bCons (eCall g__law_guarded (aCons (eVar 3) (aCons (eVar 4) (aCons (eVar 9) aNil)))) bNil)) bNil))))) (sRet (eCst (.bl false))) sNil) ⟨[.fz d0, .fz (.ob 0), x2, .fz (.int m), .fz (.tup (ws.map D.int)), .fz (.str (sg m)), .fz (.str t), .fz (.int (su m ws t)), .fz g, .ow (.lst ((allC m t (List.range t.length)).map D.str)), x10, x11, x12, x13, x14, x15, x16, x17, x18, x19, x20, x21], S⟩ = .ok ⟨[.fz d0, .fz (.ob 0), x2, .fz (.int m), .fz (.tup (ws.map D.int)), .fz (.str (sg m)), .fz (.str t), .fz (.int (su m ws t)), .fz g, z', x10, x11, x12, x13, x14, x15, x16, x17, x18, x19, x20, x21], S⟩ .nx := by
  have hm := h.m1
  have hr := repairs_is h ht S
  have htx := chg_txt ht (ks := List.range t.length) fun k hk => List.mem_range.mp hk
  have hcl := allC_len (m := m) t (List.range t.length)
  rw [List.length_range] at hcl
  have hg := lguarded_is h (allC m t (List.range t.length)) htx (by omega) S
  have hsz : szB 1 = true := rfl
  by_cases c : su m ws t = 0
  · refine ⟨.ow (.lst ((allC m t (List.range t.length)).map D.str)), ?_⟩
    rw [if_pos c] at hr
    have hne : neD2 (.tup [.str t]) (.tup [.str t]) = some (false, .bl false) := ne_same (okS_txts (l := [t]) fun u hu => by cases List.mem_singleton.mp hu; exact ht)
    simp only [denFn, startP, outF, frOf, sSeq, sIf, sSet, sRet, sRetN, sExpr, sNil, sBrk, sCnt, sAug, sPar, sTgt, sApp, sExt, sStIx, sFor, eVar, eCst, eOp2, eOp1, eOpN, eChain, eAnd2, eOr2, eNot1, eIfE, tOfV, tTru, tAnd2, tOr2, tNot1, tYs, aNil, aCons, bNil, bCons, eTup, eLst, eDct0, eSl, eMthS, eCall, gN, gT, gSeq, iVal, iRange1, iRange2, iEnumr, itemsD, opOut, kdOf, deref, derefs, PSt.put, PSt.frzK, PSt.frz, Out.bind, Option.bind, Option.map, add_int, sub_int, addI, ix_tupE, ix_lstE, isTx, isntD2, isD2, isNone, guard', stIx, held, isKey, List.map_cons, List.map_nil, List.length_cons, List.length_nil, List.replicate_succ, List.replicate_zero, List.cons_append, List.nil_append, List.append_nil, List.getElem?_cons_zero, List.getElem?_cons_succ, List.set_cons_zero, List.set_cons_succ, Nat.reduceAdd, Nat.reduceSub, Nat.reduceEqDiff, if_true, if_false, ite_true, ite_false, reduceIte, at0, at1, at2, at3, eq_int, ne_int, ge_int, le_int, lt_int, gt_int, len_lst, len_tup, len_dct, intD, absD, List.length_map, Bool.not_true, Bool.not_false, Bool.false_eq_true, hr, c, decide_true, hne, hsz]
  · refine ⟨.fz (.lst ((allC m t (List.range t.length)).map D.str)), ?_⟩
    rw [if_neg c, rep_all (by omega) ht.s c t 0 rfl, ← List.range_eq_range'] at hr
    have hne := ne_same (okS_txts (srt_in (l := (allC m t (List.range t.length)).filter (gd m ws)) fun u hu => htx u (List.mem_filter.mp hu).1))
    simp only [denFn, startP, outF, frOf, sSeq, sIf, sSet, sRet, sRetN, sExpr, sNil, sBrk, sCnt, sAug, sPar, sTgt, sApp, sExt, sStIx, sFor, eVar, eCst, eOp2, eOp1, eOpN, eChain, eAnd2, eOr2, eNot1, eIfE, tOfV, tTru, tAnd2, tOr2, tNot1, tYs, aNil, aCons, bNil, bCons, eTup, eLst, eDct0, eSl, eMthS, eCall, gN, gT, gSeq, iVal, iRange1, iRange2, iEnumr, itemsD, opOut, kdOf, deref, derefs, PSt.put, PSt.frzK, PSt.frz, Out.bind, Option.bind, Option.map, add_int, sub_int, addI, ix_tupE, ix_lstE, isTx, isntD2, isD2, isNone, guard', stIx, held, isKey, List.map_cons, List.map_nil, List.length_cons, List.length_nil, List.replicate_succ, List.replicate_zero, List.cons_append, List.nil_append, List.append_nil, List.getElem?_cons_zero, List.getElem?_cons_succ, List.set_cons_zero, List.set_cons_succ, Nat.reduceAdd, Nat.reduceSub, Nat.reduceEqDiff, if_true, if_false, ite_true, ite_false, reduceIte, at0, at1, at2, at3, eq_int, ne_int, ge_int, le_int, lt_int, gt_int, len_lst, len_tup, len_dct, intD, absD, List.length_map, Bool.not_true, Bool.not_false, Bool.false_eq_true, hr, c, decide_false, hg, srtD_str, tupD_lst, hne]
end K56
namespace K56
open PySem PySem.Spec L2 PM
def trnL (t : List Nat) : List (List Nat) := ((List.range (t.length - 1)).filter fun k => !decide ([t.getD k 0] = [t.getD (k + 1) 0])).map (swp t)
theorem prs_keys : ∀ ks : List (List Nat), prsD (ks.map fun u => D.tup [.str u, .bl true]) = some (ks.map keyP)
  | [] => rfl
  | k :: r => by
    show (prD (.tup [.str k, .bl true])).bind (fun p => (prsD (r.map fun u => D.tup [.str u, .bl true])).map (p :: ·)) = _
    rw [prs_keys r]; rfl
theorem mrg_keys : ∀ (l ks : List (List Nat)), mrgD (ks.map keyP) (l.map keyP) = (l.foldl insK ks).map keyP
  | [], ks => rfl
  | a :: r, ks => by
    have ih := mrg_keys r (insK ks a)
    rw [← put_ins] at ih
    exact ih
theorem dct_keys (l : List (List Nat)) : dctD [.lst (l.map fun u => D.tup [.str u, .bl true])] = some (true, .dct ((l.foldl insK []).map keyP)) := by
  show (prsD (l.map fun u => D.tup [.str u, .bl true])).map (fun ps => (true, D.dct (mrgD [] ps))) = _
  rw [prs_keys]
  show some (true, D.dct (mrgD ([].map keyP) (l.map keyP))) = _
  rw [mrg_keys]
theorem row11 {d0 : D} {x2 x9 x10 x11 x12 x13 x14 x15 x16 x17 x18 x19 x20 x21 : Sl} {S : List D} {m : Int} {ws : List Int} {t : List Nat} {g : D} (h : Code m ws) (ht : Txt m t) (hl : t.length ≤ 8) : (sSet 11 (eOpN dctD (bCons (eLc (iRange1 (bCons (eOp2 subD (eOpN lenD (bCons (eVar 6) bNil)) (eCst (.int 1))) bNil)) [10] (gN 10) (tOfV (eOp2 neD2 (eOp2 ixD (eVar 6) (eVar 10)) (eOp2 ixD (eVar 6) (eOp2 addD (eVar 10) (eCst (.int 1)))))) (eTup (aCons (eOp2 addD (eOp2 addD (eOp2 addD (eSl (eVar 6) none (some (eVar 10))) (eOp2 ixD (eVar 6) (eOp2 addD (eVar 10) (eCst (.int 1))))) (eOp2 ixD (eVar 6) (eVar 10))) (eSl (eVar 6) (some (eOp2 addD (eVar 10) (eCst (.int 2)))) none)) (aCons (eCst (.bl true)) aNil)))) bNil))) ⟨[.fz d0, .fz (.ob 0), x2, .fz (.int m), .fz (.tup (ws.map D.int)), .fz (.str (sg m)), .fz (.str t), .fz (.int (su m ws t)), .fz g, x9, x10, x11, x12, x13, x14, x15, x16, x17, x18, x19, x20, x21], S⟩ = .ok ⟨[.fz d0, .fz (.ob 0), x2, .fz (.int m), .fz (.tup (ws.map D.int)), .fz (.str (sg m)), .fz (.str t), .fz (.int (su m ws t)), .fz g, x9, x10, .ow (.dct (((trnL t).foldl insK []).map keyP)), x12, x13, x14, x15, x16, x17, x18, x19, x20, x21], S⟩ .nx := by
  have e7 : lenD [.str t] = some (false, .int t.length) := len_str (by omega)
  have hb : bnd ((t.length : Nat) - 1 : Int) = true := bnd_m1 (by omega) (by omega)
  have hlc : (eLc (iRange1 (bCons (eOp2 subD (eOpN lenD (bCons (eVar 6) bNil)) (eCst (.int 1))) bNil)) [10] (gN 10) (tOfV (eOp2 neD2 (eOp2 ixD (eVar 6) (eVar 10)) (eOp2 ixD (eVar 6) (eOp2 addD (eVar 10) (eCst (.int 1)))))) (eTup (aCons (eOp2 addD (eOp2 addD (eOp2 addD (eSl (eVar 6) none (some (eVar 10))) (eOp2 ixD (eVar 6) (eOp2 addD (eVar 10) (eCst (.int 1))))) (eOp2 ixD (eVar 6) (eVar 10))) (eSl (eVar 6) (some (eOp2 addD (eVar 10) (eCst (.int 2)))) none)) (aCons (eCst (.bl true)) aNil)))) ⟨[.fz d0, .fz (.ob 0), x2, .fz (.int m), .fz (.tup (ws.map D.int)), .fz (.str (sg m)), .fz (.str t), .fz (.int (su m ws t)), .fz g, x9, x10, x11, x12, x13, x14, x15, x16, x17, x18, x19, x20, x21], S⟩ = .ok ⟨[.fz d0, .fz (.ob 0), x2, .fz (.int m), .fz (.tup (ws.map D.int)), .fz (.str (sg m)), .fz (.str t), .fz (.int (su m ws t)), .fz g, x9, x10, x11, x12, x13, x14, x15, x16, x17, x18, x19, x20, x21], S⟩ (.fr, .lst ((trnL t).map fun u => D.tup [.str u, .bl true])) := by
    refine (eLc_filter (p1 := ⟨[.fz d0, .fz (.ob 0), x2, .fz (.int m), .fz (.tup (ws.map D.int)), .fz (.str (sg m)), .fz (.str t), .fz (.int (su m ws t)), .fz g, x9, x10, x11, x12, x13, x14, x15, x16, x17, x18, x19, x20, x21], S⟩) (List.range (t.length - 1)) (fun j => .int (0 + (j : Nat))) (fun k => D.tup [.str (swp t k), .bl true]) (fun k => !decide ([t.getD k 0] = [t.getD (k + 1) 0])) ?_ ?_ ?_).trans ?_
    · rw [← rng_m1]
      simp only [denFn, startP, outF, frOf, sSeq, sIf, sSet, sRet, sRetN, sExpr, sNil, sBrk, sCnt, sAug, sPar, sTgt, sApp, sExt, sStIx, sFor, eVar, eCst, eOp2, eOp1, eOpN, eChain, eAnd2, eOr2, eNot1, eIfE, tOfV, tTru, tAnd2, tOr2, tNot1, tYs, aNil, aCons, bNil, bCons, eTup, eLst, eDct0, eSl, eMthS, eCall, gN, gT, gSeq, iVal, iRange1, iRange2, iEnumr, itemsD, opOut, kdOf, deref, derefs, PSt.put, PSt.frzK, PSt.frz, Out.bind, Option.bind, Option.map, add_int, sub_int, addI, ix_tupE, ix_lstE, isTx, isntD2, isD2, isNone, guard', stIx, held, isKey, List.map_cons, List.map_nil, List.length_cons, List.length_nil, List.replicate_succ, List.replicate_zero, List.cons_append, List.nil_append, List.append_nil, List.getElem?_cons_zero, List.getElem?_cons_succ, List.set_cons_zero, List.set_cons_succ, Nat.reduceAdd, Nat.reduceSub, Nat.reduceEqDiff, if_true, if_false, ite_true, ite_false, reduceIte, at0, at1, at2, at3, eq_int, ne_int, ge_int, le_int, lt_int, gt_int, len_lst, len_tup, len_dct, intD, absD, List.length_map, Bool.not_true, Bool.not_false, Bool.false_eq_true, e7, hb]
    · intro j hj
      have hk : j + 1 < t.length := by have := List.mem_range.mp hj; omega
      have s1 : slD (.str t) none (some (j : Int)) = some (false, .str (t.take j)) := sl_strTo (by omega)
      have k2 : ((j : Nat) : Int) + 2 = ((j + 2 : Nat) : Int) := by omega
      have k1 : ((j : Nat) : Int) + 1 = ((j + 1 : Nat) : Int) := by omega
      have s2 : slD (.str t) (some ((j + 2 : Nat) : Int)) none = some (false, .str (t.drop (j + 2))) := sl_strFrom (by omega)
      have i1 := ix_t ht.l hk
      have i0 := ix_t ht.l (show j < t.length by omega)
      have a1 : addD (.str (t.take j)) (.str [t.getD (j + 1) 0]) = some (false, .str (t.take j ++ [t.getD (j + 1) 0])) := add_str (by simp only [List.length_take, List.length_singleton]; omega)
      have a2 : addD (.str (t.take j ++ [t.getD (j + 1) 0])) (.str [t.getD j 0]) = some (false, .str (t.take j ++ [t.getD (j + 1) 0] ++ [t.getD j 0])) := add_str (by simp only [List.length_append, List.length_take, List.length_singleton]; omega)
      have a3 : addD (.str (t.take j ++ [t.getD (j + 1) 0] ++ [t.getD j 0])) (.str (t.drop (j + 2))) = some (false, .str (swp t j)) := add_str (by simp only [List.length_append, List.length_take, List.length_drop, List.length_singleton]; omega)
      have hne : neD2 (.str [t.getD j 0]) (.str [t.getD (j + 1) 0]) = some (false, .bl (!decide ([t.getD j 0] = [t.getD (j + 1) 0]))) := ne_str (okT_sg (one_in (ht.s _ (getD_in (by omega))))) (okT_sg (one_in (ht.s _ (getD_in hk))))
      have hsz : szB 2 = true := rfl
      refine ⟨⟨[.fz d0, .fz (.ob 0), x2, .fz (.int m), .fz (.tup (ws.map D.int)), .fz (.str (sg m)), .fz (.str t), .fz (.int (su m ws t)), .fz g, x9, .fz (.int (j : Nat)), x11, x12, x13, x14, x15, x16, x17, x18, x19, x20, x21], S⟩, ⟨[.fz d0, .fz (.ob 0), x2, .fz (.int m), .fz (.tup (ws.map D.int)), .fz (.str (sg m)), .fz (.str t), .fz (.int (su m ws t)), .fz g, x9, .fz (.int (j : Nat)), x11, x12, x13, x14, x15, x16, x17, x18, x19, x20, x21], S⟩, by rw [Int.zero_add]; rfl, ?_, fun _ => rfl, fun _ => ⟨⟨[.fz d0, .fz (.ob 0), x2, .fz (.int m), .fz (.tup (ws.map D.int)), .fz (.str (sg m)), .fz (.str t), .fz (.int (su m ws t)), .fz g, x9, .fz (.int (j : Nat)), x11, x12, x13, x14, x15, x16, x17, x18, x19, x20, x21], S⟩, .fz, ?_, rfl⟩⟩
      · simp only [denFn, startP, outF, frOf, sSeq, sIf, sSet, sRet, sRetN, sExpr, sNil, sBrk, sCnt, sAug, sPar, sTgt, sApp, sExt, sStIx, sFor, eVar, eCst, eOp2, eOp1, eOpN, eChain, eAnd2, eOr2, eNot1, eIfE, tOfV, tTru, tAnd2, tOr2, tNot1, tYs, aNil, aCons, bNil, bCons, eTup, eLst, eDct0, eSl, eMthS, eCall, gN, gT, gSeq, iVal, iRange1, iRange2, iEnumr, itemsD, opOut, kdOf, deref, derefs, PSt.put, PSt.frzK, PSt.frz, Out.bind, Option.bind, Option.map, add_int, sub_int, addI, ix_tupE, ix_lstE, isTx, isntD2, isD2, isNone, guard', stIx, held, isKey, List.map_cons, List.map_nil, List.length_cons, List.length_nil, List.replicate_succ, List.replicate_zero, List.cons_append, List.nil_append, List.append_nil, List.getElem?_cons_zero, List.getElem?_cons_succ, List.set_cons_zero, List.set_cons_succ, Nat.reduceAdd, Nat.reduceSub, Nat.reduceEqDiff, if_true, if_false, ite_true, ite_false, reduceIte, at0, at1, at2, at3, eq_int, ne_int, ge_int, le_int, lt_int, gt_int, len_lst, len_tup, len_dct, intD, absD, List.length_map, Bool.not_true, Bool.not_false, Bool.false_eq_true, i0, k1, i1, hne]
      · simp only [denFn, startP, outF, frOf, sSeq, sIf, sSet, sRet, sRetN, sExpr, sNil, sBrk, sCnt, sAug, sPar, sTgt, sApp, sExt, sStIx, sFor, eVar, eCst, eOp2, eOp1, eOpN, eChain, eAnd2, eOr2, eNot1, eIfE, tOfV, tTru, tAnd2, tOr2, tNot1, tYs, aNil, aCons, bNil, bCons, eTup, eLst, eDct0, eSl, eMthS, eCall, gN, gT, gSeq, iVal, iRange1, iRange2, iEnumr, itemsD, opOut, kdOf, deref, derefs, PSt.put, PSt.frzK, PSt.frz, Out.bind, Option.bind, Option.map, add_int, sub_int, addI, ix_tupE, ix_lstE, isTx, isntD2, isD2, isNone, guard', stIx, held, isKey, List.map_cons, List.map_nil, List.length_cons, List.length_nil, List.replicate_succ, List.replicate_zero, List.cons_append, List.nil_append, List.append_nil, List.getElem?_cons_zero, List.getElem?_cons_succ, List.set_cons_zero, List.set_cons_succ, Nat.reduceAdd, Nat.reduceSub, Nat.reduceEqDiff, if_true, if_false, ite_true, ite_false, reduceIte, at0, at1, at2, at3, eq_int, ne_int, ge_int, le_int, lt_int, gt_int, len_lst, len_tup, len_dct, intD, absD, List.length_map, Bool.not_true, Bool.not_false, Bool.false_eq_true, s1, k1, k2, s2, i1, i0, a1, a2, a3, hsz]
    · rw [List.length_range]; omega
    · unfold trnL
      rw [List.map_map]; rfl
  simp only [denFn, startP, outF, frOf, sSeq, sIf, sSet, sRet, sRetN, sExpr, sNil, sBrk, sCnt, sAug, sPar, sTgt, sApp, sExt, sStIx, sFor, eVar, eCst, eOp2, eOp1, eOpN, eChain, eAnd2, eOr2, eNot1, eIfE, tOfV, tTru, tAnd2, tOr2, tNot1, tYs, aNil, aCons, bNil, bCons, eTup, eLst, eDct0, eSl, eMthS, eCall, gN, gT, gSeq, iVal, iRange1, iRange2, iEnumr, itemsD, opOut, kdOf, deref, derefs, PSt.put, PSt.frzK, PSt.frz, Out.bind, Option.bind, Option.map, add_int, sub_int, addI, ix_tupE, ix_lstE, isTx, isntD2, isD2, isNone, guard', stIx, held, isKey, List.map_cons, List.map_nil, List.length_cons, List.length_nil, List.replicate_succ, List.replicate_zero, List.cons_append, List.nil_append, List.append_nil, List.getElem?_cons_zero, List.getElem?_cons_succ, List.set_cons_zero, List.set_cons_succ, Nat.reduceAdd, Nat.reduceSub, Nat.reduceEqDiff, if_true, if_false, ite_true, ite_false, reduceIte, at0, at1, at2, at3, eq_int, ne_int, ge_int, le_int, lt_int, gt_int, len_lst, len_tup, len_dct, intD, absD, List.length_map, Bool.not_true, Bool.not_false, Bool.false_eq_true, hlc, dct_keys]
theorem insK_filter (p : List Nat → Bool) (ks : List (List Nat)) (a : List Nat) : (insK ks a).filter p = if p a = true then insK (ks.filter p) a else ks.filter p := by
  unfold insK
  by_cases c : a ∈ ks
  · rw [if_pos c]
    by_cases q : p a = true
    · rw [if_pos q, if_pos (List.mem_filter.mpr ⟨c, q⟩)]
    · rw [if_neg q]
  · rw [if_neg c, List.filter_append]
    by_cases q : p a = true
    · rw [if_pos q, if_neg fun z => c (List.mem_filter.mp z).1]
      simp [q]
    · rw [if_neg q]
      simp [q]
theorem fold_filter (p : List Nat → Bool) : ∀ (l ks : List (List Nat)), (l.foldl insK ks).filter p = (l.filter p).foldl insK (ks.filter p)
  | [], ks => rfl
  | a :: r, ks => by
    rw [List.foldl_cons, fold_filter p r, insK_filter]
    by_cases q : p a = true
    · rw [if_pos q, List.filter_cons_of_pos q, List.foldl_cons]
    · rw [if_neg q, List.filter_cons_of_neg q]
theorem trn_eq {m : Int} {ws : List Int} {t : List Nat} : ((trnL t).foldl insK []).filter (gd m ws) = trK m ws t := by
  rw [fold_filter]
  unfold trnL trK
  congr 1
  rw [List.filter_map, List.filter_filter]
  congr 1
  refine List.filter_congr fun k hk => ?_
  have hk := List.mem_range.mp hk
  have q := swp_ne (t := t) (k := k) (by omega)
  show (gd m ws (swp t k) && !decide ([t.getD k 0] = [t.getD (k + 1) 0])) = ((!decide (swp t k = t)) && gd m ws (swp t k))
  have e : decide (swp t k = t) = decide ([t.getD k 0] = [t.getD (k + 1) 0]) := decide_eq_decide.mpr (q.trans ⟨fun z => by rw [z], fun z => by injection z⟩)
  rw [e, Bool.and_comm]
theorem mem_fold : ∀ (l ks : List (List Nat)) (u : List Nat), u ∈ l.foldl insK ks → u ∈ ks ∨ u ∈ l
  | [], ks, u, h => .inl h
  | a :: r, ks, u, h => by
    rcases mem_fold r (insK ks a) u h with q | q
    · unfold insK at q
      split at q
      · exact .inl q
      · rcases List.mem_append.mp q with q | q
        · exact .inl q
        · exact .inr (by rw [List.mem_singleton.mp q]; exact List.mem_cons_self)
    · exact .inr (List.mem_cons_of_mem _ q)
theorem lst_keys (ks : List (List Nat)) : lstD [.dct (ks.map keyP)] = some (true, .lst (ks.map D.str)) := by
  show some (true, D.lst ((ks.map keyP).map (·.1))) = _
  rw [List.map_map]; rfl
theorem row12 {d0 : D} {x2 x9 x10 x12 x13 x14 x15 x16 x17 x18 x19 x20 x21 : Sl} {S : List D} {m : Int} {ws : List Int} {t : List Nat} {g : D} (h : Code m ws) (ht : Txt m t) (hl : t.length ≤ 8) : (sIf (tOfV (eOp2 neD2 (eCall g_turn_repairs (aCons (eVar 3) (aCons (eVar 4) (aCons (eVar 6) aNil)))) (eOpN tupD (bCons (eOpN srtD (bCons (eCall g__law_guarded (aCons (eVar 3) (aCons (eVar 4) (aCons (eOpN lstD (bCons (eVar 11) bNil)) aNil)))) bNil)) bNil)))) (sRet (eCst (.bl false))) sNil) ⟨[.fz d0, .fz (.ob 0), x2, .fz (.int m), .fz (.tup (ws.map D.int)), .fz (.str (sg m)), .fz (.str t), .fz (.int (su m ws t)), .fz g, x9, x10, .ow (.dct (((trnL t).foldl insK []).map keyP)), x12, x13, x14, x15, x16, x17, x18, x19, x20, x21], S⟩ = .ok ⟨[.fz d0, .fz (.ob 0), x2, .fz (.int m), .fz (.tup (ws.map D.int)), .fz (.str (sg m)), .fz (.str t), .fz (.int (su m ws t)), .fz g, x9, x10, .ow (.dct (((trnL t).foldl insK []).map keyP)), x12, x13, x14, x15, x16, x17, x18, x19, x20, x21], S⟩ .nx := by
  have hr := turn_repairs_is h ht (by omega) S
  have htx : ∀ u ∈ (trnL t).foldl insK [], Txt m u := fun u hu => by
    rcases mem_fold _ _ _ hu with q | q
    · cases q
    · obtain ⟨k, hk, rfl⟩ := List.mem_map.mp q
      have hk := List.mem_range.mp (List.mem_filter.mp hk).1
      refine ⟨swp_in ht.s (by omega), ?_⟩
      unfold swp
      simp only [List.length_append, List.length_take, List.length_drop, List.length_singleton]
      omega
  have hln : ((trnL t).foldl insK []).length ≤ 1000000 := by
    have h1 := insL_len (trnL t) []
    have h2 : (trnL t).length ≤ t.length - 1 := by
      unfold trnL
      rw [List.length_map]
      have := List.length_filter_le (fun k => !decide ([t.getD k 0] = [t.getD (k + 1) 0])) (List.range (t.length - 1))
      rwa [List.length_range] at this
    simp only [List.length_nil] at h1
    omega
  have hg := lguarded_is h _ htx hln S
  rw [trn_eq] at hg
  have hne := ne_same (okS_txts (srt_in (l := trK m ws t) fun u hu => by
    rw [← trn_eq] at hu
    exact htx u (List.mem_filter.mp hu).1))
  simp only [denFn, startP, outF, frOf, sSeq, sIf, sSet, sRet, sRetN, sExpr, sNil, sBrk, sCnt, sAug, sPar, sTgt, sApp, sExt, sStIx, sFor, eVar, eCst, eOp2, eOp1, eOpN, eChain, eAnd2, eOr2, eNot1, eIfE, tOfV, tTru, tAnd2, tOr2, tNot1, tYs, aNil, aCons, bNil, bCons, eTup, eLst, eDct0, eSl, eMthS, eCall, gN, gT, gSeq, iVal, iRange1, iRange2, iEnumr, itemsD, opOut, kdOf, deref, derefs, PSt.put, PSt.frzK, PSt.frz, Out.bind, Option.bind, Option.map, add_int, sub_int, addI, ix_tupE, ix_lstE, isTx, isntD2, isD2, isNone, guard', stIx, held, isKey, List.map_cons, List.map_nil, List.length_cons, List.length_nil, List.replicate_succ, List.replicate_zero, List.cons_append, List.nil_append, List.append_nil, List.getElem?_cons_zero, List.getElem?_cons_succ, List.set_cons_zero, List.set_cons_succ, Nat.reduceAdd, Nat.reduceSub, Nat.reduceEqDiff, if_true, if_false, ite_true, ite_false, reduceIte, at0, at1, at2, at3, eq_int, ne_int, ge_int, le_int, lt_int, gt_int, len_lst, len_tup, len_dct, intD, absD, List.length_map, Bool.not_true, Bool.not_false, Bool.false_eq_true, hr, lst_keys, hg, srtD_str, tupD_lst, hne]
theorem row13 {d0 : D} {x2 x9 x11 x12 x13 x14 x15 x16 x17 x18 x19 x20 x21 : Sl} {S : List D} {m : Int} {ws : List Int} {t : List Nat} {g : D} (h : Code m ws) (ht : Txt m t) (hl : t.length ≤ 8) (hv : VS S) : ∃ z' S', (sIf (tTru (eVar 6)) (sSeq (sSet 10 (eCall g__law_draw (aCons (eVar 1) (aCons (eOpN lenD (bCons (eVar 6) bNil)) aNil)))) (sIf (tOfV (eOp2 neD2 (eCall g_filled (aCons (eVar 3) (aCons (eVar 4) (aCons (eVar 6) (aCons (eVar 10) aNil))))) (eOpN tupD (bCons (eLc (iVal (eVar 5)) [21] (gN 21) (tOfV (eOp2 eqD2 (eCall g__law_sum (aCons (eVar 3) (aCons (eVar 4) (aCons (eOp2 addD (eOp2 addD (eSl (eVar 6) none (some (eVar 10))) (eVar 21)) (eSl (eVar 6) (some (eOp2 addD (eVar 10) (eCst (.int 1)))) none)) aNil)))) (eCst (.int 0)))) (eOp2 addD (eOp2 addD (eSl (eVar 6) none (some (eVar 10))) (eVar 21)) (eSl (eVar 6) (some (eOp2 addD (eVar 10) (eCst (.int 1)))) none))) bNil)))) (sRet (eCst (.bl false))) sNil)) sNil) ⟨[.fz d0, .fz (.ob 0), x2, .fz (.int m), .fz (.tup (ws.map D.int)), .fz (.str (sg m)), .fz (.str t), .fz (.int (su m ws t)), .fz g, x9, x10, x11, x12, x13, x14, x15, x16, x17, x18, x19, x20, x21], S⟩ = .ok ⟨[.fz d0, .fz (.ob 0), x2, .fz (.int m), .fz (.tup (ws.map D.int)), .fz (.str (sg m)), .fz (.str t), .fz (.int (su m ws t)), .fz g, x9, z', x11, x12, x13, x14, x15, x16, x17, x18, x19, x20, x21], S'⟩ .nx ∧ VS S' := by
  have hm := h.m1
  have hsg := @sg_len m
  by_cases c : t = []
  · subst c
    exact ⟨x10, S, rfl, hv⟩
  · have hpos : 0 < t.length := List.length_pos_iff.mpr c
    obtain ⟨v, S', e, h1, h2, h3⟩ := draw hv (many := (t.length : Nat)) (by omega) (by omega)
    obtain ⟨k, rfl⟩ := Int.eq_ofNat_of_zero_le h2
    have hk : k < t.length := by omega
    have e7 : lenD [.str t] = some (false, .int t.length) := len_str (by omega)
    have k1 : ((k : Nat) : Int) + 1 = ((k + 1 : Nat) : Int) := by omega
    have s1 : slD (.str t) none (some (k : Int)) = some (false, .str (t.take k)) := sl_strTo (by omega)
    have s2 : slD (.str t) (some ((k + 1 : Nat) : Int)) none = some (false, .str (t.drop (k + 1))) := sl_strFrom (by omega)
    have htr : truD (.str t) = some true := by
      cases t with
      | nil => exact absurd rfl c
      | cons a r =>
        show (if szB (a :: r).length = true then some (!(a :: r).isEmpty) else none) = some true
        rw [if_pos (szB_of (by omega))]; rfl
    refine ⟨.fz (.int (k : Nat)), S', ?_, h1⟩
    have hf := filled_is h ht hk S'
    have hlc : (eLc (iVal (eVar 5)) [21] (gN 21) (tOfV (eOp2 eqD2 (eCall g__law_sum (aCons (eVar 3) (aCons (eVar 4) (aCons (eOp2 addD (eOp2 addD (eSl (eVar 6) none (some (eVar 10))) (eVar 21)) (eSl (eVar 6) (some (eOp2 addD (eVar 10) (eCst (.int 1)))) none)) aNil)))) (eCst (.int 0)))) (eOp2 addD (eOp2 addD (eSl (eVar 6) none (some (eVar 10))) (eVar 21)) (eSl (eVar 6) (some (eOp2 addD (eVar 10) (eCst (.int 1)))) none))) ⟨[.fz d0, .fz (.ob 0), x2, .fz (.int m), .fz (.tup (ws.map D.int)), .fz (.str (sg m)), .fz (.str t), .fz (.int (su m ws t)), .fz g, x9, .fz (.int (k : Nat)), x11, x12, x13, x14, x15, x16, x17, x18, x19, x20, x21], S'⟩ = .ok ⟨[.fz d0, .fz (.ob 0), x2, .fz (.int m), .fz (.tup (ws.map D.int)), .fz (.str (sg m)), .fz (.str t), .fz (.int (su m ws t)), .fz g, x9, .fz (.int (k : Nat)), x11, x12, x13, x14, x15, x16, x17, x18, x19, x20, x21], S'⟩ (.fr, .lst (((sg m).filter fun c => gd m ws (put1 t k c)).map fun c => .str (put1 t k c))) := by
      refine (eLc_filter (p1 := ⟨[.fz d0, .fz (.ob 0), x2, .fz (.int m), .fz (.tup (ws.map D.int)), .fz (.str (sg m)), .fz (.str t), .fz (.int (su m ws t)), .fz g, x9, .fz (.int (k : Nat)), x11, x12, x13, x14, x15, x16, x17, x18, x19, x20, x21], S'⟩) (sg m) (fun c => .str [c]) (fun c => .str (put1 t k c)) (fun c => gd m ws (put1 t k c)) rfl ?_ (by omega)).trans rfl
      intro c hc
      obtain ⟨a1, a2⟩ := put1_add (c := c) ht.l hk
      have htp : Txt m (put1 t k c) := ⟨put1_in ht.s hc, by rw [put1_len hk]; exact ht.l⟩
      refine ⟨⟨[.fz d0, .fz (.ob 0), x2, .fz (.int m), .fz (.tup (ws.map D.int)), .fz (.str (sg m)), .fz (.str t), .fz (.int (su m ws t)), .fz g, x9, .fz (.int (k : Nat)), x11, x12, x13, x14, x15, x16, x17, x18, x19, x20, .fz (.str [c])], S'⟩, ⟨[.fz d0, .fz (.ob 0), x2, .fz (.int m), .fz (.tup (ws.map D.int)), .fz (.str (sg m)), .fz (.str t), .fz (.int (su m ws t)), .fz g, x9, .fz (.int (k : Nat)), x11, x12, x13, x14, x15, x16, x17, x18, x19, x20, .fz (.str [c])], S'⟩, rfl, ?_, fun _ => rfl, fun _ => ⟨⟨[.fz d0, .fz (.ob 0), x2, .fz (.int m), .fz (.tup (ws.map D.int)), .fz (.str (sg m)), .fz (.str t), .fz (.int (su m ws t)), .fz g, x9, .fz (.int (k : Nat)), x11, x12, x13, x14, x15, x16, x17, x18, x19, x20, .fz (.str [c])], S'⟩, .fz, ?_, rfl⟩⟩
      · simp only [denFn, startP, outF, frOf, sSeq, sIf, sSet, sRet, sRetN, sExpr, sNil, sBrk, sCnt, sAug, sPar, sTgt, sApp, sExt, sStIx, sFor, eVar, eCst, eOp2, eOp1, eOpN, eChain, eAnd2, eOr2, eNot1, eIfE, tOfV, tTru, tAnd2, tOr2, tNot1, tYs, aNil, aCons, bNil, bCons, eTup, eLst, eDct0, eSl, eMthS, eCall, gN, gT, gSeq, iVal, iRange1, iRange2, iEnumr, itemsD, opOut, kdOf, deref, derefs, PSt.put, PSt.frzK, PSt.frz, Out.bind, Option.bind, Option.map, add_int, sub_int, addI, ix_tupE, ix_lstE, isTx, isntD2, isD2, isNone, guard', stIx, held, isKey, List.map_cons, List.map_nil, List.length_cons, List.length_nil, List.replicate_succ, List.replicate_zero, List.cons_append, List.nil_append, List.append_nil, List.getElem?_cons_zero, List.getElem?_cons_succ, List.set_cons_zero, List.set_cons_succ, Nat.reduceAdd, Nat.reduceSub, Nat.reduceEqDiff, if_true, if_false, ite_true, ite_false, reduceIte, at0, at1, at2, at3, eq_int, ne_int, ge_int, le_int, lt_int, gt_int, len_lst, len_tup, len_dct, intD, absD, List.length_map, Bool.not_true, Bool.not_false, Bool.false_eq_true, s1, s2, k1, a1, a2, lsum_is h htp, gd]
        try rfl
      · simp only [denFn, startP, outF, frOf, sSeq, sIf, sSet, sRet, sRetN, sExpr, sNil, sBrk, sCnt, sAug, sPar, sTgt, sApp, sExt, sStIx, sFor, eVar, eCst, eOp2, eOp1, eOpN, eChain, eAnd2, eOr2, eNot1, eIfE, tOfV, tTru, tAnd2, tOr2, tNot1, tYs, aNil, aCons, bNil, bCons, eTup, eLst, eDct0, eSl, eMthS, eCall, gN, gT, gSeq, iVal, iRange1, iRange2, iEnumr, itemsD, opOut, kdOf, deref, derefs, PSt.put, PSt.frzK, PSt.frz, Out.bind, Option.bind, Option.map, add_int, sub_int, addI, ix_tupE, ix_lstE, isTx, isntD2, isD2, isNone, guard', stIx, held, isKey, List.map_cons, List.map_nil, List.length_cons, List.length_nil, List.replicate_succ, List.replicate_zero, List.cons_append, List.nil_append, List.append_nil, List.getElem?_cons_zero, List.getElem?_cons_succ, List.set_cons_zero, List.set_cons_succ, Nat.reduceAdd, Nat.reduceSub, Nat.reduceEqDiff, if_true, if_false, ite_true, ite_false, reduceIte, at0, at1, at2, at3, eq_int, ne_int, ge_int, le_int, lt_int, gt_int, len_lst, len_tup, len_dct, intD, absD, List.length_map, Bool.not_true, Bool.not_false, Bool.false_eq_true, s1, s2, k1, a1, a2]
    have hok : okD 64 (.tup (((sg m).filter fun c => gd m ws (put1 t k c)).map fun c => D.str (put1 t k c))) = true := by
      show okDs 63 (((sg m).filter fun c => gd m ws (put1 t k c)).map fun c => D.str (put1 t k c)) = true
      exact okDs_map fun c hc => okT_sg (put1_in ht.s (List.mem_filter.mp hc).1)
    have hne := ne_same hok
    unfold sIf
    simp only [denFn, startP, outF, frOf, sSeq, sIf, sSet, sRet, sRetN, sExpr, sNil, sBrk, sCnt, sAug, sPar, sTgt, sApp, sExt, sStIx, sFor, eVar, eCst, eOp2, eOp1, eOpN, eChain, eAnd2, eOr2, eNot1, eIfE, tOfV, tTru, tAnd2, tOr2, tNot1, tYs, aNil, aCons, bNil, bCons, eTup, eLst, eDct0, eSl, eMthS, eCall, gN, gT, gSeq, iVal, iRange1, iRange2, iEnumr, itemsD, opOut, kdOf, deref, derefs, PSt.put, PSt.frzK, PSt.frz, Out.bind, Option.bind, Option.map, add_int, sub_int, addI, ix_tupE, ix_lstE, isTx, isntD2, isD2, isNone, guard', stIx, held, isKey, List.map_cons, List.map_nil, List.length_cons, List.length_nil, List.replicate_succ, List.replicate_zero, List.cons_append, List.nil_append, List.append_nil, List.getElem?_cons_zero, List.getElem?_cons_succ, List.set_cons_zero, List.set_cons_succ, Nat.reduceAdd, Nat.reduceSub, Nat.reduceEqDiff, if_true, if_false, ite_true, ite_false, reduceIte, at0, at1, at2, at3, eq_int, ne_int, ge_int, le_int, lt_int, gt_int, len_lst, len_tup, len_dct, intD, absD, List.length_map, Bool.not_true, Bool.not_false, Bool.false_eq_true, htr, e7, draw_is, e, hf, hlc, tupD_lst, hne]
end K56
namespace K56
open PySem PySem.Spec L2 PM
theorem mul_l1 (xs : List D) (h : xs.length ≤ 1000) : mulD (.lst xs) (.int 1) = some (true, .lst xs) := by
  have e : mulD (.lst xs) (.int 1) = guard' (decide (-(2 ^ 63) ≤ (1 : Int) ∧ (1 : Int) < 2 ^ 63) && szB (xs.length * (1 : Int).toNat)) (some (true, .lst (List.replicate (1 : Int).toNat xs).flatten)) := rfl
  have h1 : decide (-(2 ^ 63) ≤ (1 : Int) ∧ (1 : Int) < 2 ^ 63) = true := by decide
  have h2 : szB (xs.length * (1 : Int).toNat) = true := szB_of (by show xs.length * 1 ≤ _; omega)
  have h3 : (List.replicate (1 : Int).toNat xs).flatten = xs := by
    show (List.replicate 1 xs).flatten = xs
    simp
  rw [e, h1, h2, h3]; rfl
theorem mul_l0 (xs : List D) : mulD (.lst xs) (.int 0) = some (true, .lst []) := by
  have e : mulD (.lst xs) (.int 0) = guard' (decide (-(2 ^ 63) ≤ (0 : Int) ∧ (0 : Int) < 2 ^ 63) && szB (xs.length * (0 : Int).toNat)) (some (true, .lst (List.replicate (0 : Int).toNat xs).flatten)) := rfl
  have h1 : decide (-(2 ^ 63) ≤ (0 : Int) ∧ (0 : Int) < 2 ^ 63) = true := by decide
  have h2 : szB (xs.length * (0 : Int).toNat) = true := szB_of (by show xs.length * 0 ≤ _; omega)
  rw [e, h1, h2]; rfl
theorem mul_str (s : List Nat) (k : Nat) (h : s.length * k ≤ 1000) (hk : k ≤ 1000) : mulD (.str s) (.int (k : Nat)) = some (false, .str (List.replicate k s).flatten) := by
  have e : mulD (.str s) (.int (k : Nat)) = guard' (decide (-(2 ^ 63) ≤ ((k : Nat) : Int) ∧ ((k : Nat) : Int) < 2 ^ 63) && szB (s.length * ((k : Nat) : Int).toNat)) (some (false, .str (List.replicate ((k : Nat) : Int).toNat s).flatten)) := rfl
  have e2 : (2 : Int) ^ 63 = 9223372036854775808 := by decide
  have h1 : decide (-(2 ^ 63) ≤ ((k : Nat) : Int) ∧ ((k : Nat) : Int) < 2 ^ 63) = true := by
    rw [decide_eq_true_eq, e2]; omega
  have h2 : szB (s.length * ((k : Nat) : Int).toNat) = true := szB_of (by rw [Int.toNat_natCast]; omega)
  rw [e, h1, h2, Int.toNat_natCast]; rfl
theorem add_lst (xs ys : List D) (h : xs.length + ys.length ≤ 1000) : addD (.lst xs) (.lst ys) = some (true, .lst (xs ++ ys)) := by
  have e : addD (.lst xs) (.lst ys) = guard' (szB (xs.length + ys.length)) (some (true, .lst (xs ++ ys))) := rfl
  rw [e, szB_of (by omega)]; rfl
theorem sl_tup1 (xs : List D) : slD (.tup xs) none (some 1) = some (false, .tup (xs.take 1)) := by
  show some (false, D.tup (cutL xs none (some 1))) = _
  have := cut_to xs 1
  rw [show ((1 : Nat) : Int) = 1 from rfl] at this
  rw [this]
/-! ### all shares -/
theorem mis_all {m : Int} {ws : List Int} {t : List Nat} (hm : 0 < m) (h0 : su m ws t = 0) : ∀ (r : List Nat) (k : Nat), t.drop k = r → misL m ws k r = ((allC m t (List.range' k r.length)).filter (gd m ws)).length
  | [], k, _ => rfl
  | c :: r, k, hd => by
    obtain ⟨p1, p2, p3, p4⟩ := split_at hd
    rw [misL, List.length_cons, List.range'_succ]
    unfold allC
    rw [List.flatMap_cons, List.filter_append, List.length_append, chg_filter hm hd, List.length_map]
    have ih := mis_all hm h0 r (k + 1) p2
    unfold allC at ih
    rw [ih, h0]
    congr 2
    refine List.filter_congr fun j _ => ?_
    unfold misJ
    rw [Int.zero_add]
theorem chg_len_is {m : Int} {t : List Nat} {k : Nat} (hm : 0 ≤ m) (hk : t.getD k 0 ∈ sg m) : (chg m t k).length = nN m - 1 := by
  have h66 := nN_le m
  unfold chg
  rw [List.length_map]
  rw [sg_is hm] at hk ⊢
  obtain ⟨i, hi, e⟩ := List.mem_map.mp hk
  have hi' := List.mem_range.mp hi
  rw [List.filter_map, List.length_map]
  have e2 : (List.range (nN m)).filter ((fun c => !decide ([c] = [t.getD k 0])) ∘ sgn) = (List.range (nN m)).filter (fun j => j != i) := by
    refine List.filter_congr fun j hj => ?_
    have hj := List.mem_range.mp hj
    show (!decide ([sgn j] = [t.getD k 0])) = (j != i)
    rw [← e]
    by_cases q : j = i
    · subst q; simp
    · have : ¬ sgn j = sgn i := fun z => q (by
        have a := idx_sgn (j := j) (by omega)
        have b := idx_sgn (j := i) (by omega)
        rw [z, b] at a
        omega)
      simp [q, this]
  rw [e2, ← List.Nodup.erase_eq_filter List.nodup_range, List.length_erase_of_mem hi, List.length_range]
theorem allC_len_is {m : Int} {t : List Nat} (hm : 0 ≤ m) (ht : ∀ c ∈ t, c ∈ sg m) : ∀ ks : List Nat, (∀ k ∈ ks, k < t.length) → (allC m t ks).length = ks.length * (nN m - 1)
  | [], _ => by simp [allC]
  | k :: r, h => by
    have ih := allC_len_is hm ht r fun j hj => h j (List.mem_cons_of_mem _ hj)
    unfold allC at ih ⊢
    rw [List.flatMap_cons, List.length_append, ih, chg_len_is hm (ht _ (getD_in (h k List.mem_cons_self))), List.length_cons, Nat.add_mul, Nat.one_mul, Nat.add_comm]
def whl (m : Int) (ws : List Int) (t : List Nat) : List (List Nat) := (if su m ws t = 0 then [t] else []) ++ ((grd m ws t).take 1).map fun c => t ++ [c]
theorem whl_ok {m : Int} {ws : List Int} {t : List Nat} (ht : Txt m t) (hl : t.length ≤ 8) : ∀ u ∈ whl m ws t, Txt m u ∧ u.length ≤ 9 ∧ su m ws u = 0 := fun u hu => by
  rcases List.mem_append.mp hu with hu | hu
  · split at hu
    · rename_i c
      cases List.mem_singleton.mp hu
      exact ⟨ht, by omega, c⟩
    · cases hu
  · obtain ⟨c, hc, rfl⟩ := List.mem_map.mp hu
    have hc := List.mem_filter.mp (List.mem_of_mem_take hc)
    exact ⟨⟨txt_app ht.s (one_in hc.1), by simp; omega⟩, by simp; omega, of_decide_eq_true hc.2⟩
theorem wh_loop {d0 : D} {x2 x11 x13 x14 x15 x16 x17 x18 x19 x20 x21 : Sl} {S : List D} {m : Int} {ws : List Int} {t : List Nat} {g : D} (h : Code m ws) : ∀ (us : List (List Nat)) (x9 x10 x12 : Sl), (∀ u ∈ us, Txt m u ∧ u.length ≤ 9 ∧ su m ws u = 0) → ∃ y9 y10 y12,
    forLoop (gN 12) (sSeq (sSet 9 (eLst aNil)) (sSeq (sFor (iRange1 (bCons (eOpN lenD (bCons (eVar 12) bNil)) bNil)) (gN 10) (sExt 9 (eCall g__law_changed (aCons (eVar 3) (aCons (eVar 12) (aCons (eVar 10) aNil)))))) (sIf (tOfV (eOp2 neD2 (eCall g_missed_share (aCons (eVar 3) (aCons (eVar 4) (aCons (eVar 12) aNil)))) (eTup (aCons (eOpN lenD (bCons (eCall g__law_guarded (aCons (eVar 3) (aCons (eVar 4) (aCons (eVar 9) aNil)))) bNil)) (aCons (eOpN lenD (bCons (eVar 9) bNil)) aNil))))) (sRet (eCst (.bl false))) sNil)))
      (us.map D.str) ⟨[.fz d0, .fz (.ob 0), x2, .fz (.int m), .fz (.tup (ws.map D.int)), .fz (.str (sg m)), .fz (.str t), .fz (.int (su m ws t)), .fz g, x9, x10, x11, x12, x13, x14, x15, x16, x17, x18, x19, x20, x21], S⟩ = .ok ⟨[.fz d0, .fz (.ob 0), x2, .fz (.int m), .fz (.tup (ws.map D.int)), .fz (.str (sg m)), .fz (.str t), .fz (.int (su m ws t)), .fz g, y9, y10, x11, y12, x13, x14, x15, x16, x17, x18, x19, x20, x21], S⟩ .nx
  | [], x9, x10, x12, _ => ⟨x9, x10, x12, rfl⟩
  | u :: us, x9, x10, x12, hu => by
    obtain ⟨hu1, hu2, hu3⟩ := hu u List.mem_cons_self
    have hm := h.m1
    obtain ⟨z', e⟩ := ch_loop (S := S) (ws := ws) (t := t) (u := u) (g := g) (d0 := d0) (x2 := x2) (x11 := x11) (x12 := .fz (.str u)) (x13 := x13) (x14 := x14) (x15 := x15) (x16 := x16) (x17 := x17) (x18 := x18) (x19 := x19) (x20 := x20) (x21 := x21) 12 (.inr rfl) ⟨fun z => by omega, fun _ => rfl⟩ (show 0 ≤ m by omega) hu1 (List.range u.length) [] x10 (fun k hk => List.mem_range.mp hk) (by rw [List.length_range]; simp; omega)
    obtain ⟨y9, y10, y12, e2⟩ := wh_loop (d0 := d0) (x2 := x2) (x11 := x11) (x13 := x13) (x14 := x14) (x15 := x15) (x16 := x16) (x17 := x17) (x18 := x18) (x19 := x19) (x20 := x20) (x21 := x21) (S := S) (t := t) (g := g) h us (.fz (.lst ((allC m u (List.range u.length)).map D.str))) z' (.fz (.str u)) (fun v hv => hu v (List.mem_cons_of_mem _ hv))
    refine ⟨y9, y10, y12, ?_⟩
    rw [List.map_cons, ← e2]
    refine forLoop_cons (p1 := ⟨[.fz d0, .fz (.ob 0), x2, .fz (.int m), .fz (.tup (ws.map D.int)), .fz (.str (sg m)), .fz (.str t), .fz (.int (su m ws t)), .fz g, x9, x10, x11, .fz (.str u), x13, x14, x15, x16, x17, x18, x19, x20, x21], S⟩) rfl ?_
    rw [sSeq_nx (p1 := ⟨[.fz d0, .fz (.ob 0), x2, .fz (.int m), .fz (.tup (ws.map D.int)), .fz (.str (sg m)), .fz (.str t), .fz (.int (su m ws t)), .fz g, .ow (.lst (([] : List (List Nat)).map D.str)), x10, x11, .fz (.str u), x13, x14, x15, x16, x17, x18, x19, x20, x21], S⟩) rfl]
    have e7 : lenD [.str u] = some (false, .int u.length) := len_str (by omega)
    have hb : bnd ((u.length : Nat) : Int) = true := bnd_of (by omega) (by omega)
    have hit : iRange1 (bCons (eOpN lenD (bCons (eVar 12) bNil)) bNil) ⟨[.fz d0, .fz (.ob 0), x2, .fz (.int m), .fz (.tup (ws.map D.int)), .fz (.str (sg m)), .fz (.str t), .fz (.int (su m ws t)), .fz g, .ow (.lst (([] : List (List Nat)).map D.str)), x10, x11, .fz (.str u), x13, x14, x15, x16, x17, x18, x19, x20, x21], S⟩ = .ok ⟨[.fz d0, .fz (.ob 0), x2, .fz (.int m), .fz (.tup (ws.map D.int)), .fz (.str (sg m)), .fz (.str t), .fz (.int (su m ws t)), .fz g, .ow (.lst (([] : List (List Nat)).map D.str)), x10, x11, .fz (.str u), x13, x14, x15, x16, x17, x18, x19, x20, x21], S⟩ ((List.range u.length).map fun k => .int (0 + (k : Nat))) := by
      rw [← rng_nat]
      simp only [denFn, startP, outF, frOf, sSeq, sIf, sSet, sRet, sRetN, sExpr, sNil, sBrk, sCnt, sAug, sPar, sTgt, sApp, sExt, sStIx, sFor, eVar, eCst, eOp2, eOp1, eOpN, eChain, eAnd2, eOr2, eNot1, eIfE, tOfV, tTru, tAnd2, tOr2, tNot1, tYs, aNil, aCons, bNil, bCons, eTup, eLst, eDct0, eSl, eMthS, eCall, gN, gT, gSeq, iVal, iRange1, iRange2, iEnumr, itemsD, opOut, kdOf, deref, derefs, PSt.put, PSt.frzK, PSt.frz, Out.bind, Option.bind, Option.map, add_int, sub_int, addI, ix_tupE, ix_lstE, isTx, isntD2, isD2, isNone, guard', stIx, held, isKey, List.map_cons, List.map_nil, List.length_cons, List.length_nil, List.replicate_succ, List.replicate_zero, List.cons_append, List.nil_append, List.append_nil, List.getElem?_cons_zero, List.getElem?_cons_succ, List.set_cons_zero, List.set_cons_succ, Nat.reduceAdd, Nat.reduceSub, Nat.reduceEqDiff, if_true, if_false, ite_true, ite_false, reduceIte, at0, at1, at2, at3, eq_int, ne_int, ge_int, le_int, lt_int, gt_int, len_lst, len_tup, len_dct, intD, absD, List.length_map, Bool.not_true, Bool.not_false, Bool.false_eq_true, e7, hb]
    rw [sSeq_for hit e, List.nil_append]
    have hms := missed_share_is h hu1 hu3 S
    have htx := chg_txt hu1 (ks := List.range u.length) fun k hk => List.mem_range.mp hk
    have hcl := allC_len (m := m) u (List.range u.length)
    rw [List.length_range] at hcl
    have hg := lguarded_is h (allC m u (List.range u.length)) htx (by omega) S
    have hml := mis_all (ws := ws) (show 0 < m by omega) hu3 u 0 rfl
    rw [← List.range_eq_range'] at hml
    have hal := allC_len_is (show 0 ≤ m by omega) hu1.s (List.range u.length) fun k hk => List.mem_range.mp hk
    rw [List.length_range] at hal
    have hn := nN_int (m := m) (by omega)
    have hn2 : 2 ≤ nN m := by unfold nN nS; split <;> omega
    have hal2 : (((allC m u (List.range u.length)).length : Nat) : Int) = (u.length : Nat) * (nS m - 1) := by
      rw [hal, Int.natCast_mul, ← hn]
      congr 1
      omega
    rw [hml] at hms
    have hne : ∀ a b : Int, neD2 (.tup [.int a, .int b]) (.tup [.int a, .int b]) = some (false, .bl false) := fun a b => ne_same rfl
    have hsz : szB 2 = true := rfl
    simp only [denFn, startP, outF, frOf, sSeq, sIf, sSet, sRet, sRetN, sExpr, sNil, sBrk, sCnt, sAug, sPar, sTgt, sApp, sExt, sStIx, sFor, eVar, eCst, eOp2, eOp1, eOpN, eChain, eAnd2, eOr2, eNot1, eIfE, tOfV, tTru, tAnd2, tOr2, tNot1, tYs, aNil, aCons, bNil, bCons, eTup, eLst, eDct0, eSl, eMthS, eCall, gN, gT, gSeq, iVal, iRange1, iRange2, iEnumr, itemsD, opOut, kdOf, deref, derefs, PSt.put, PSt.frzK, PSt.frz, Out.bind, Option.bind, Option.map, add_int, sub_int, addI, ix_tupE, ix_lstE, isTx, isntD2, isD2, isNone, guard', stIx, held, isKey, List.map_cons, List.map_nil, List.length_cons, List.length_nil, List.replicate_succ, List.replicate_zero, List.cons_append, List.nil_append, List.append_nil, List.getElem?_cons_zero, List.getElem?_cons_succ, List.set_cons_zero, List.set_cons_succ, Nat.reduceAdd, Nat.reduceSub, Nat.reduceEqDiff, if_true, if_false, ite_true, ite_false, reduceIte, at0, at1, at2, at3, eq_int, ne_int, ge_int, le_int, lt_int, gt_int, len_lst, len_tup, len_dct, intD, absD, List.length_map, Bool.not_true, Bool.not_false, Bool.false_eq_true, hms, hg, hal2, hne, hsz]
theorem row14 {d0 : D} {x2 x11 x13 x14 x15 x16 x17 x18 x19 x20 x21 : Sl} {S : List D} {m : Int} {ws : List Int} {t : List Nat} (h : Code m ws) (ht : Txt m t) (hl : t.length ≤ 8) : ∃ y9 y10 y12, (sFor (iVal (eOp2 addD (eOp2 mulD (eLst (aCons (eVar 6) aNil)) (eIfE (tOfV (eOp2 eqD2 (eVar 7) (eCst (.int 0)))) (eCst (.int 1)) (eCst (.int 0)))) (eLc (iVal (eSl (eVar 8) none (some (eCst (.int 1))))) [21] (gN 21) tYs (eOp2 addD (eVar 6) (eVar 21))))) (gN 12) (sSeq (sSet 9 (eLst aNil)) (sSeq (sFor (iRange1 (bCons (eOpN lenD (bCons (eVar 12) bNil)) bNil)) (gN 10) (sExt 9 (eCall g__law_changed (aCons (eVar 3) (aCons (eVar 12) (aCons (eVar 10) aNil)))))) (sIf (tOfV (eOp2 neD2 (eCall g_missed_share (aCons (eVar 3) (aCons (eVar 4) (aCons (eVar 12) aNil)))) (eTup (aCons (eOpN lenD (bCons (eCall g__law_guarded (aCons (eVar 3) (aCons (eVar 4) (aCons (eVar 9) aNil)))) bNil)) (aCons (eOpN lenD (bCons (eVar 9) bNil)) aNil))))) (sRet (eCst (.bl false))) sNil)))) ⟨[.fz d0, .fz (.ob 0), x2, .fz (.int m), .fz (.tup (ws.map D.int)), .fz (.str (sg m)), .fz (.str t), .fz (.int (su m ws t)), .fz (.tup ((grd m ws t).map fun c => D.str [c])), x9, x10, x11, x12, x13, x14, x15, x16, x17, x18, x19, x20, x21], S⟩ = .ok ⟨[.fz d0, .fz (.ob 0), x2, .fz (.int m), .fz (.tup (ws.map D.int)), .fz (.str (sg m)), .fz (.str t), .fz (.int (su m ws t)), .fz (.tup ((grd m ws t).map fun c => D.str [c])), y9, y10, x11, y12, x13, x14, x15, x16, x17, x18, x19, x20, x21], S⟩ .nx := by
  obtain ⟨y9, y10, y12, e⟩ := wh_loop (d0 := d0) (x2 := x2) (x11 := x11) (x13 := x13) (x14 := x14) (x15 := x15) (x16 := x16) (x17 := x17) (x18 := x18) (x19 := x19) (x20 := x20) (x21 := x21) (S := S) (t := t) (g := .tup ((grd m ws t).map fun c => D.str [c])) h (whl m ws t) x9 x10 x12 (whl_ok ht hl)
  refine ⟨y9, y10, y12, sFor_run (p1 := ⟨[.fz d0, .fz (.ob 0), x2, .fz (.int m), .fz (.tup (ws.map D.int)), .fz (.str (sg m)), .fz (.str t), .fz (.int (su m ws t)), .fz (.tup ((grd m ws t).map fun c => D.str [c])), x9, x10, x11, x12, x13, x14, x15, x16, x17, x18, x19, x20, x21], S⟩) (items := (whl m ws t).map D.str) ?_ e⟩
  have hlc : (eLc (iVal (eSl (eVar 8) none (some (eCst (.int 1))))) [21] (gN 21) tYs (eOp2 addD (eVar 6) (eVar 21))) ⟨[.fz d0, .fz (.ob 0), x2, .fz (.int m), .fz (.tup (ws.map D.int)), .fz (.str (sg m)), .fz (.str t), .fz (.int (su m ws t)), .fz (.tup ((grd m ws t).map fun c => D.str [c])), x9, x10, x11, x12, x13, x14, x15, x16, x17, x18, x19, x20, x21], S⟩ = .ok ⟨[.fz d0, .fz (.ob 0), x2, .fz (.int m), .fz (.tup (ws.map D.int)), .fz (.str (sg m)), .fz (.str t), .fz (.int (su m ws t)), .fz (.tup ((grd m ws t).map fun c => D.str [c])), x9, x10, x11, x12, x13, x14, x15, x16, x17, x18, x19, x20, x21], S⟩ (.fr, .lst ((((grd m ws t).take 1).map fun c => t ++ [c]).map D.str)) := by
    refine (eLc_map (p1 := ⟨[.fz d0, .fz (.ob 0), x2, .fz (.int m), .fz (.tup (ws.map D.int)), .fz (.str (sg m)), .fz (.str t), .fz (.int (su m ws t)), .fz (.tup ((grd m ws t).map fun c => D.str [c])), x9, x10, x11, x12, x13, x14, x15, x16, x17, x18, x19, x20, x21], S⟩) ((grd m ws t).take 1) (fun c => .str [c]) (fun c => .str (t ++ [c])) ?_ ?_ ?_).trans ?_
    · simp only [denFn, startP, outF, frOf, sSeq, sIf, sSet, sRet, sRetN, sExpr, sNil, sBrk, sCnt, sAug, sPar, sTgt, sApp, sExt, sStIx, sFor, eVar, eCst, eOp2, eOp1, eOpN, eChain, eAnd2, eOr2, eNot1, eIfE, tOfV, tTru, tAnd2, tOr2, tNot1, tYs, aNil, aCons, bNil, bCons, eTup, eLst, eDct0, eSl, eMthS, eCall, gN, gT, gSeq, iVal, iRange1, iRange2, iEnumr, itemsD, opOut, kdOf, deref, derefs, PSt.put, PSt.frzK, PSt.frz, Out.bind, Option.bind, Option.map, add_int, sub_int, addI, ix_tupE, ix_lstE, isTx, isntD2, isD2, isNone, guard', stIx, held, isKey, List.map_cons, List.map_nil, List.length_cons, List.length_nil, List.replicate_succ, List.replicate_zero, List.cons_append, List.nil_append, List.append_nil, List.getElem?_cons_zero, List.getElem?_cons_succ, List.set_cons_zero, List.set_cons_succ, Nat.reduceAdd, Nat.reduceSub, Nat.reduceEqDiff, if_true, if_false, ite_true, ite_false, reduceIte, at0, at1, at2, at3, eq_int, ne_int, ge_int, le_int, lt_int, gt_int, len_lst, len_tup, len_dct, intD, absD, List.length_map, Bool.not_true, Bool.not_false, Bool.false_eq_true, sl_tup1, ← List.map_take]
    · intro c hc
      have e1 : addD (.str t) (.str [c]) = some (false, .str (t ++ [c])) := add_str (by simp; omega)
      refine ⟨⟨[.fz d0, .fz (.ob 0), x2, .fz (.int m), .fz (.tup (ws.map D.int)), .fz (.str (sg m)), .fz (.str t), .fz (.int (su m ws t)), .fz (.tup ((grd m ws t).map fun c => D.str [c])), x9, x10, x11, x12, x13, x14, x15, x16, x17, x18, x19, x20, .fz (.str [c])], S⟩, ⟨[.fz d0, .fz (.ob 0), x2, .fz (.int m), .fz (.tup (ws.map D.int)), .fz (.str (sg m)), .fz (.str t), .fz (.int (su m ws t)), .fz (.tup ((grd m ws t).map fun c => D.str [c])), x9, x10, x11, x12, x13, x14, x15, x16, x17, x18, x19, x20, .fz (.str [c])], S⟩, .fz, rfl, ?_, rfl⟩
      simp only [denFn, startP, outF, frOf, sSeq, sIf, sSet, sRet, sRetN, sExpr, sNil, sBrk, sCnt, sAug, sPar, sTgt, sApp, sExt, sStIx, sFor, eVar, eCst, eOp2, eOp1, eOpN, eChain, eAnd2, eOr2, eNot1, eIfE, tOfV, tTru, tAnd2, tOr2, tNot1, tYs, aNil, aCons, bNil, bCons, eTup, eLst, eDct0, eSl, eMthS, eCall, gN, gT, gSeq, iVal, iRange1, iRange2, iEnumr, itemsD, opOut, kdOf, deref, derefs, PSt.put, PSt.frzK, PSt.frz, Out.bind, Option.bind, Option.map, add_int, sub_int, addI, ix_tupE, ix_lstE, isTx, isntD2, isD2, isNone, guard', stIx, held, isKey, List.map_cons, List.map_nil, List.length_cons, List.length_nil, List.replicate_succ, List.replicate_zero, List.cons_append, List.nil_append, List.append_nil, List.getElem?_cons_zero, List.getElem?_cons_succ, List.set_cons_zero, List.set_cons_succ, Nat.reduceAdd, Nat.reduceSub, Nat.reduceEqDiff, if_true, if_false, ite_true, ite_false, reduceIte, at0, at1, at2, at3, eq_int, ne_int, ge_int, le_int, lt_int, gt_int, len_lst, len_tup, len_dct, intD, absD, List.length_map, Bool.not_true, Bool.not_false, Bool.false_eq_true, e1]
    · rw [List.length_take]; omega
    · rw [List.map_map]; rfl
  have ht1 : (((grd m ws t).take 1).map fun c => t ++ [c]).length ≤ 1 := by rw [List.length_map, List.length_take]; omega
  have hsz : szB 1 = true := rfl
  unfold whl
  by_cases c : su m ws t = 0
  · rw [if_pos c]
    have ha := add_lst [.str t] ((((grd m ws t).take 1).map fun c => t ++ [c]).map D.str) (by rw [List.length_map]; simp only [List.length_singleton]; omega)
    have h1 := mul_l1 [.str t] (by simp)
    rw [c] at hlc
    simp only [denFn, startP, outF, frOf, sSeq, sIf, sSet, sRet, sRetN, sExpr, sNil, sBrk, sCnt, sAug, sPar, sTgt, sApp, sExt, sStIx, sFor, eVar, eCst, eOp2, eOp1, eOpN, eChain, eAnd2, eOr2, eNot1, eIfE, tOfV, tTru, tAnd2, tOr2, tNot1, tYs, aNil, aCons, bNil, bCons, eTup, eLst, eDct0, eSl, eMthS, eCall, gN, gT, gSeq, iVal, iRange1, iRange2, iEnumr, itemsD, opOut, kdOf, deref, derefs, PSt.put, PSt.frzK, PSt.frz, Out.bind, Option.bind, Option.map, add_int, sub_int, addI, ix_tupE, ix_lstE, isTx, isntD2, isD2, isNone, guard', stIx, held, isKey, List.map_cons, List.map_nil, List.length_cons, List.length_nil, List.replicate_succ, List.replicate_zero, List.cons_append, List.nil_append, List.append_nil, List.getElem?_cons_zero, List.getElem?_cons_succ, List.set_cons_zero, List.set_cons_succ, Nat.reduceAdd, Nat.reduceSub, Nat.reduceEqDiff, if_true, if_false, ite_true, ite_false, reduceIte, at0, at1, at2, at3, eq_int, ne_int, ge_int, le_int, lt_int, gt_int, len_lst, len_tup, len_dct, intD, absD, List.length_map, Bool.not_true, Bool.not_false, Bool.false_eq_true, c, decide_true, hlc, h1, ha, hsz, List.map_append]
  · rw [if_neg c]
    have ha := add_lst [] ((((grd m ws t).take 1).map fun c => t ++ [c]).map D.str) (by rw [List.length_map]; simp only [List.length_nil]; omega)
    have h1 := mul_l0 [.str t]
    simp only [denFn, startP, outF, frOf, sSeq, sIf, sSet, sRet, sRetN, sExpr, sNil, sBrk, sCnt, sAug, sPar, sTgt, sApp, sExt, sStIx, sFor, eVar, eCst, eOp2, eOp1, eOpN, eChain, eAnd2, eOr2, eNot1, eIfE, tOfV, tTru, tAnd2, tOr2, tNot1, tYs, aNil, aCons, bNil, bCons, eTup, eLst, eDct0, eSl, eMthS, eCall, gN, gT, gSeq, iVal, iRange1, iRange2, iEnumr, itemsD, opOut, kdOf, deref, derefs, PSt.put, PSt.frzK, PSt.frz, Out.bind, Option.bind, Option.map, add_int, sub_int, addI, ix_tupE, ix_lstE, isTx, isntD2, isD2, isNone, guard', stIx, held, isKey, List.map_cons, List.map_nil, List.length_cons, List.length_nil, List.replicate_succ, List.replicate_zero, List.cons_append, List.nil_append, List.append_nil, List.getElem?_cons_zero, List.getElem?_cons_succ, List.set_cons_zero, List.set_cons_succ, Nat.reduceAdd, Nat.reduceSub, Nat.reduceEqDiff, if_true, if_false, ite_true, ite_false, reduceIte, at0, at1, at2, at3, eq_int, ne_int, ge_int, le_int, lt_int, gt_int, len_lst, len_tup, len_dct, intD, absD, List.length_map, Bool.not_true, Bool.not_false, Bool.false_eq_true, c, decide_false, hlc, h1, ha, hsz, List.map_append]
end K56
namespace K56
open PySem PySem.Spec L2 PM
theorem jK_some {m : Int} {gs : List Int} : ∀ (ks : List Nat) (d : D), jK m gs ks = some d → ∃ k ∈ ks, miss m (gs.getD k 0 % m) = true ∧ d = tMiss m k (gs.getD k 0 % m)
  | [], d, h => by cases h
  | k :: r, d, h => by
    have h : (if miss m (gs.getD k 0 % m) = true then some (tMiss m k (gs.getD k 0 % m)) else jK m gs r) = some d := h
    split at h
    · rename_i c
      cases h; exact ⟨k, List.mem_cons_self, c, rfl⟩
    · obtain ⟨k', h1, h2⟩ := jK_some r d h
      exact ⟨k', List.mem_cons_of_mem _ h1, h2⟩
theorem tR_some {m : Int} {ws : List Int} : ∀ (ks : List Nat) (d : D), tR m ws ks = some d → ∃ k ∈ ks, miss m (gaps ws k % m) = true ∧ d = tMiss m k (gaps ws k % m)
  | [], d, h => by cases h
  | k :: r, d, h => by
    have h : (if miss m (gaps ws k % m) = true then some (tMiss m k (gaps ws k % m)) else tR m ws r) = some d := h
    split at h
    · rename_i c
      cases h; exact ⟨k, List.mem_cons_self, c, rfl⟩
    · obtain ⟨k', h1, h2⟩ := tR_some r d h
      exact ⟨k', List.mem_cons_of_mem _ h1, h2⟩
abbrev cF : List D := [.str [102, 105, 110, 100, 115]]
abbrev cM (k : Nat) (d : Int) : List D := [.str [109, 105, 115, 115, 101, 115], .int k, .int 0, .int d]
theorem changes_c {m : Int} {ws : List Int} (h : Code m ws) : ∃ c : List D, retJ (jR m 0 ws) = .tup c ∧ retJ (jK m ws (List.range ws.length)) = .tup c ∧ okD 64 (.tup c) = true ∧ (c = cF ∨ ∃ k, k < ws.length ∧ miss m (wAt ws k) = true ∧ wAt ws k % m = wAt ws k ∧ c = cM k (m / dv m (wAt ws k))) := by
  have e := jR_jK h.w ws 0 rfl
  rw [← List.range_eq_range'] at e
  rw [e]
  cases c : jK m ws (List.range ws.length) with
  | none => exact ⟨cF, rfl, rfl, rfl, .inl rfl⟩
  | some d =>
    obtain ⟨k, hk, h1, h2⟩ := jK_some _ d c
    have hk := List.mem_range.mp hk
    have e1 : wAt ws k = ws.getD k 0 := by unfold wAt; rw [Nat.mod_eq_of_lt hk]
    have hmem : ws.getD k 0 ∈ ws := by
      rw [List.getD_eq_getElem?_getD, List.getElem?_eq_getElem hk]
      exact List.getElem_mem hk
    obtain ⟨q1, q2⟩ := h.w _ hmem
    have e2 : ws.getD k 0 % m = ws.getD k 0 := Int.emod_eq_of_lt q1 q2
    subst h2
    rw [e2] at h1 ⊢
    refine ⟨cM k (m / dv m (ws.getD k 0)), rfl, rfl, rfl, .inr ⟨k, hk, ?_, ?_, ?_⟩⟩
    · rw [e1]; exact h1
    · rw [e1]; exact e2
    · rw [e1]
theorem turns_c {m : Int} {ws : List Int} : ∃ c : List D, retJ (tR m ws (List.range ws.length)) = .tup c ∧ okD 64 (.tup c) = true ∧ (c = cF ∨ ∃ k, k < ws.length ∧ miss m (gaps ws k % m) = true ∧ c = cM k (m / dv m (gaps ws k % m))) := by
  cases c : tR m ws (List.range ws.length) with
  | none => exact ⟨cF, rfl, rfl, .inl rfl⟩
  | some d =>
    obtain ⟨k, hk, h1, h2⟩ := tR_some _ d c
    subst h2
    exact ⟨cM k (m / dv m (gaps ws k % m)), rfl, rfl, .inr ⟨k, List.mem_range.mp hk, h1, rfl⟩⟩
theorem row15 {d0 : D} {x2 x5 x6 x7 x8 x9 x10 x11 x12 x15 x16 x17 x18 x19 x20 x21 : Sl} {S : List D} {m : Int} {ws : List Int} {c13 c14 : List D} (h : Code m ws) (h1 : retJ (jR m 0 ws) = .tup c13) (h2 : retJ (tR m ws (List.range ws.length)) = .tup c14) : (sPar 13 14 (aCons (eCall g_judge_changes (aCons (eVar 3) (aCons (eVar 4) aNil))) (aCons (eCall g_judge_turns (aCons (eVar 3) (aCons (eVar 4) aNil))) aNil))) ⟨[.fz d0, .fz (.ob 0), x2, .fz (.int m), .fz (.tup (ws.map D.int)), x5, x6, x7, x8, x9, x10, x11, x12, x13, x14, x15, x16, x17, x18, x19, x20, x21], S⟩ = .ok ⟨[.fz d0, .fz (.ob 0), x2, .fz (.int m), .fz (.tup (ws.map D.int)), x5, x6, x7, x8, x9, x10, x11, x12, .fz (.tup c13), .fz (.tup c14), x15, x16, x17, x18, x19, x20, x21], S⟩ .nx := by
  have a := judge_changes_is h S
  have b := judge_turns_is h S
  rw [h1] at a
  rw [h2] at b
  simp only [denFn, startP, outF, frOf, sSeq, sIf, sSet, sRet, sRetN, sExpr, sNil, sBrk, sCnt, sAug, sPar, sTgt, sApp, sExt, sStIx, sFor, eVar, eCst, eOp2, eOp1, eOpN, eChain, eAnd2, eOr2, eNot1, eIfE, tOfV, tTru, tAnd2, tOr2, tNot1, tYs, aNil, aCons, bNil, bCons, eTup, eLst, eDct0, eSl, eMthS, eCall, gN, gT, gSeq, iVal, iRange1, iRange2, iEnumr, itemsD, opOut, kdOf, deref, derefs, PSt.put, PSt.frzK, PSt.frz, Out.bind, Option.bind, Option.map, add_int, sub_int, addI, ix_tupE, ix_lstE, isTx, isntD2, isD2, isNone, guard', stIx, held, isKey, List.map_cons, List.map_nil, List.length_cons, List.length_nil, List.replicate_succ, List.replicate_zero, List.cons_append, List.nil_append, List.append_nil, List.getElem?_cons_zero, List.getElem?_cons_succ, List.set_cons_zero, List.set_cons_succ, Nat.reduceAdd, Nat.reduceSub, Nat.reduceEqDiff, if_true, if_false, ite_true, ite_false, reduceIte, at0, at1, at2, at3, eq_int, ne_int, ge_int, le_int, lt_int, gt_int, len_lst, len_tup, len_dct, intD, absD, List.length_map, Bool.not_true, Bool.not_false, Bool.false_eq_true, a, b]
theorem row16 {d0 : D} {x2 x5 x6 x7 x8 x9 x10 x11 x12 x15 x16 x17 x18 x19 x20 x21 : Sl} {S : List D} {m : Int} {ws : List Int} {c13 c14 : List D} (h : Code m ws) (h1 : retJ (jK m ws (List.range ws.length)) = .tup c13) (h2 : retJ (tR m ws (List.range ws.length)) = .tup c14) (o1 : okD 64 (.tup c13) = true) (o2 : okD 64 (.tup c14) = true) : (sIf (tOr2 (tOfV (eOp2 neD2 (eVar 13) (eCall g__law_judged (aCons (eVar 3) (aCons (eOpN lstD (bCons (eVar 4) bNil)) aNil))))) (tOfV (eOp2 neD2 (eVar 14) (eCall g__law_judged (aCons (eVar 3) (aCons (eCall g__law_gaps (aCons (eVar 4) aNil)) aNil)))))) (sRet (eCst (.bl false))) sNil) ⟨[.fz d0, .fz (.ob 0), x2, .fz (.int m), .fz (.tup (ws.map D.int)), x5, x6, x7, x8, x9, x10, x11, x12, .fz (.tup c13), .fz (.tup c14), x15, x16, x17, x18, x19, x20, x21], S⟩ = .ok ⟨[.fz d0, .fz (.ob 0), x2, .fz (.int m), .fz (.tup (ws.map D.int)), x5, x6, x7, x8, x9, x10, x11, x12, .fz (.tup c13), .fz (.tup c14), x15, x16, x17, x18, x19, x20, x21], S⟩ .nx := by
  have hm2 := h.m2
  have a := ljudged_is h.m1 (gs := ws) (fun g hg => by have := h.w g hg; omega) (by have := h.w2; omega) S
  have b := judged_row h S
  have c := lgaps_is h.w1 (by have := h.w2; omega) S
  rw [h1] at a
  rw [h2] at b
  have hl : lstD [.tup (ws.map D.int)] = some (true, .lst (ws.map D.int)) := rfl
  have n1 := ne_same o1
  have n2 := ne_same o2
  simp only [denFn, startP, outF, frOf, sSeq, sIf, sSet, sRet, sRetN, sExpr, sNil, sBrk, sCnt, sAug, sPar, sTgt, sApp, sExt, sStIx, sFor, eVar, eCst, eOp2, eOp1, eOpN, eChain, eAnd2, eOr2, eNot1, eIfE, tOfV, tTru, tAnd2, tOr2, tNot1, tYs, aNil, aCons, bNil, bCons, eTup, eLst, eDct0, eSl, eMthS, eCall, gN, gT, gSeq, iVal, iRange1, iRange2, iEnumr, itemsD, opOut, kdOf, deref, derefs, PSt.put, PSt.frzK, PSt.frz, Out.bind, Option.bind, Option.map, add_int, sub_int, addI, ix_tupE, ix_lstE, isTx, isntD2, isD2, isNone, guard', stIx, held, isKey, List.map_cons, List.map_nil, List.length_cons, List.length_nil, List.replicate_succ, List.replicate_zero, List.cons_append, List.nil_append, List.append_nil, List.getElem?_cons_zero, List.getElem?_cons_succ, List.set_cons_zero, List.set_cons_succ, Nat.reduceAdd, Nat.reduceSub, Nat.reduceEqDiff, if_true, if_false, ite_true, ite_false, reduceIte, at0, at1, at2, at3, eq_int, ne_int, ge_int, le_int, lt_int, gt_int, len_lst, len_tup, len_dct, intD, absD, List.length_map, Bool.not_true, Bool.not_false, Bool.false_eq_true, hl, a, b, c, n1, n2]
theorem ix_sg {m : Int} (hm : 0 ≤ m) {j : Nat} (hj : j < nN m) : ixD (.str (sg m)) (.int (j : Nat)) = some (false, .str [sgn j]) := by
  have hn := nN_le m
  have hl : j < (sg m).length := by rw [sg_len_is hm]; exact hj
  refine ix_str (by rw [sg_len_is hm]; omega) ?_
  rw [atN hl]
  congr 1
  have e : (sg m)[j]? = some (sgn j) := by
    rw [sg_is hm, List.getElem?_map, List.getElem?_range hj]; rfl
  rw [List.getElem?_eq_getElem hl] at e
  exact Option.some.inj e
theorem eOp2_run {f : Op2} {a b : Sm} {p p1 p2 : PSt} {x y : Kd × D} {d e : D} {fr : Bool} {z : D} (ha : a p = .ok p1 x) (hb : b p1 = .ok p2 y) (hx : deref p2 x.2 = some d) (hy : deref p2 y.2 = some e) (hf : f d e = some (fr, z)) : eOp2 f a b p = .ok p2 (kdOf fr, z) := by
  unfold eOp2
  rw [ha]
  show (b p1).bind (fun p2 y => opOut p2 ((deref p2 x.2).bind fun d => (deref p2 y.2).bind fun e => f d e)) = _
  rw [hb]
  show opOut p2 ((deref p2 x.2).bind fun d => (deref p2 y.2).bind fun e => f d e) = _
  rw [hx, hy]
  show opOut p2 (f d e) = _
  rw [hf]; rfl
theorem sSet_run {i : Nat} {f : Sm} {p p1 : PSt} {x : Kd × D} (h : f p = .ok p1 x) : sSet i f p = .ok (p1.put i x.1 x.2) .nx := by
  unfold sSet
  rw [h]; rfl
theorem row17 {d0 : D} {x2 x6 x7 x8 x9 x10 x11 x12 x13 x14 x16 x17 x18 x19 x20 x21 : Sl} {S : List D} {m : Int} {ws : List Int} (h : Code m ws) : (sSet 15 (eOp2 mulD (eOp2 ixD (eVar 5) (eCst (.int 0))) (eOpN lenD (bCons (eVar 4) bNil)))) ⟨[.fz d0, .fz (.ob 0), x2, .fz (.int m), .fz (.tup (ws.map D.int)), .fz (.str (sg m)), x6, x7, x8, x9, x10, x11, x12, x13, x14, x15, x16, x17, x18, x19, x20, x21], S⟩ = .ok ⟨[.fz d0, .fz (.ob 0), x2, .fz (.int m), .fz (.tup (ws.map D.int)), .fz (.str (sg m)), x6, x7, x8, x9, x10, x11, x12, x13, x14, .fz (.str (zs ws.length)), x16, x17, x18, x19, x20, x21], S⟩ .nx := by
  have hm := h.m1
  have hn2 : 2 ≤ nN m := by unfold nN nS; split <;> omega
  have hx := ix_sg (m := m) (by omega) (j := 0) (by omega)
  have hx : ixD (.str (sg m)) (.int 0) = some (false, .str [sgn 0]) := hx
  have hw := h.w2
  have hmul := mul_str [sgn 0] ws.length (by simp; omega) (by omega)
  have e : (List.replicate ws.length [sgn 0]).flatten = zs ws.length := by
    unfold zs
    simp
  rw [e] at hmul
  have r1 : (eOp2 ixD (eVar 5) (eCst (.int 0))) ⟨[.fz d0, .fz (.ob 0), x2, .fz (.int m), .fz (.tup (ws.map D.int)), .fz (.str (sg m)), x6, x7, x8, x9, x10, x11, x12, x13, x14, x15, x16, x17, x18, x19, x20, x21], S⟩ = .ok ⟨[.fz d0, .fz (.ob 0), x2, .fz (.int m), .fz (.tup (ws.map D.int)), .fz (.str (sg m)), x6, x7, x8, x9, x10, x11, x12, x13, x14, x15, x16, x17, x18, x19, x20, x21], S⟩ (.fz, .str [sgn 0]) := by simp only [denFn, startP, outF, frOf, sSeq, sIf, sSet, sRet, sRetN, sExpr, sNil, sBrk, sCnt, sAug, sPar, sTgt, sApp, sExt, sStIx, sFor, eVar, eCst, eOp2, eOp1, eOpN, eChain, eAnd2, eOr2, eNot1, eIfE, tOfV, tTru, tAnd2, tOr2, tNot1, tYs, aNil, aCons, bNil, bCons, eTup, eLst, eDct0, eSl, eMthS, eCall, gN, gT, gSeq, iVal, iRange1, iRange2, iEnumr, itemsD, opOut, kdOf, deref, derefs, PSt.put, PSt.frzK, PSt.frz, Out.bind, Option.bind, Option.map, add_int, sub_int, addI, ix_tupE, ix_lstE, isTx, isntD2, isD2, isNone, guard', stIx, held, isKey, List.map_cons, List.map_nil, List.length_cons, List.length_nil, List.replicate_succ, List.replicate_zero, List.cons_append, List.nil_append, List.append_nil, List.getElem?_cons_zero, List.getElem?_cons_succ, List.set_cons_zero, List.set_cons_succ, Nat.reduceAdd, Nat.reduceSub, Nat.reduceEqDiff, if_true, if_false, ite_true, ite_false, reduceIte, at0, at1, at2, at3, eq_int, ne_int, ge_int, le_int, lt_int, gt_int, len_lst, len_tup, len_dct, intD, absD, List.length_map, Bool.not_true, Bool.not_false, Bool.false_eq_true, hx]
  have r2 : (eOpN lenD (bCons (eVar 4) bNil)) ⟨[.fz d0, .fz (.ob 0), x2, .fz (.int m), .fz (.tup (ws.map D.int)), .fz (.str (sg m)), x6, x7, x8, x9, x10, x11, x12, x13, x14, x15, x16, x17, x18, x19, x20, x21], S⟩ = .ok ⟨[.fz d0, .fz (.ob 0), x2, .fz (.int m), .fz (.tup (ws.map D.int)), .fz (.str (sg m)), x6, x7, x8, x9, x10, x11, x12, x13, x14, x15, x16, x17, x18, x19, x20, x21], S⟩ (.fz, .int (ws.length : Nat)) := by simp only [denFn, startP, outF, frOf, sSeq, sIf, sSet, sRet, sRetN, sExpr, sNil, sBrk, sCnt, sAug, sPar, sTgt, sApp, sExt, sStIx, sFor, eVar, eCst, eOp2, eOp1, eOpN, eChain, eAnd2, eOr2, eNot1, eIfE, tOfV, tTru, tAnd2, tOr2, tNot1, tYs, aNil, aCons, bNil, bCons, eTup, eLst, eDct0, eSl, eMthS, eCall, gN, gT, gSeq, iVal, iRange1, iRange2, iEnumr, itemsD, opOut, kdOf, deref, derefs, PSt.put, PSt.frzK, PSt.frz, Out.bind, Option.bind, Option.map, add_int, sub_int, addI, ix_tupE, ix_lstE, isTx, isntD2, isD2, isNone, guard', stIx, held, isKey, List.map_cons, List.map_nil, List.length_cons, List.length_nil, List.replicate_succ, List.replicate_zero, List.cons_append, List.nil_append, List.append_nil, List.getElem?_cons_zero, List.getElem?_cons_succ, List.set_cons_zero, List.set_cons_succ, Nat.reduceAdd, Nat.reduceSub, Nat.reduceEqDiff, if_true, if_false, ite_true, ite_false, reduceIte, at0, at1, at2, at3, eq_int, ne_int, ge_int, le_int, lt_int, gt_int, len_lst, len_tup, len_dct, intD, absD, List.length_map, Bool.not_true, Bool.not_false, Bool.false_eq_true]
  have r3 := eOp2_run r1 r2 rfl rfl hmul
  exact sSet_run r3
theorem zs_take {a n : Nat} (h : a ≤ n) : (zs n).take a = zs a := by
  unfold zs
  rw [List.take_replicate, Nat.min_eq_left h]
theorem row18 {d0 : D} {x2 x6 x7 x8 x9 x10 x11 x12 x14 x18 x19 x20 x21 : Sl} {S : List D} {m : Int} {ws : List Int} {c13 : List D} (h : Code m ws) (hc : c13 = cF ∨ ∃ k, k < ws.length ∧ miss m (wAt ws k) = true ∧ wAt ws k % m = wAt ws k ∧ c13 = cM k (m / dv m (wAt ws k))) : ∃ y16 y17, (sIf (tOfV (eOp2 gtD2 (eOpN lenD (bCons (eVar 13) bNil)) (eCst (.int 1)))) (sSeq (sPar 16 17 (aCons (eOp2 addD (eSl (eVar 15) none (some (eOp2 ixD (eVar 13) (eCst (.int 1))))) (eOp2 ixD (eVar 5) (eOp2 ixD (eVar 13) (eCst (.int 2))))) (aCons (eOp2 addD (eSl (eVar 15) none (some (eOp2 ixD (eVar 13) (eCst (.int 1))))) (eOp2 ixD (eVar 5) (eOp2 ixD (eVar 13) (eCst (.int 3))))) aNil))) (sIf (tOfV (eOp2 isntD2 (eCall g_accept_missed (aCons (eVar 3) (aCons (eVar 4) (aCons (eVar 16) (aCons (eVar 17) aNil))))) (eCst .non))) (sRet (eCst (.bl false))) sNil)) sNil) ⟨[.fz d0, .fz (.ob 0), x2, .fz (.int m), .fz (.tup (ws.map D.int)), .fz (.str (sg m)), x6, x7, x8, x9, x10, x11, x12, .fz (.tup c13), x14, .fz (.str (zs ws.length)), x16, x17, x18, x19, x20, x21], S⟩ = .ok ⟨[.fz d0, .fz (.ob 0), x2, .fz (.int m), .fz (.tup (ws.map D.int)), .fz (.str (sg m)), x6, x7, x8, x9, x10, x11, x12, .fz (.tup c13), x14, .fz (.str (zs ws.length)), y16, y17, x18, x19, x20, x21], S⟩ .nx := by
  rcases hc with rfl | ⟨k, hk, h1, h2, rfl⟩
  · exact ⟨x16, x17, rfl⟩
  · have hm := h.m1
    have hd := @dd_pos m (wAt ws k) (by omega)
    have c2 : m / dv m (wAt ws k) < nS m := of_decide_eq_true h1
    have hn := nN_int (m := m) (by omega)
    have hn2 : 2 ≤ nN m := by unfold nN nS; split <;> omega
    have ha := accept_one h hk h1 h2 S
    have hw := h.w2
    have hz : ∀ a, (zs a).length = a := fun a => List.length_replicate
    have e0 : ixD (.str (sg m)) (.int 0) = some (false, .str [sgn 0]) := ix_sg (m := m) (by omega) (j := 0) (by omega)
    have e1 := ix_sg (m := m) (by omega) (j := (m / dv m (wAt ws k)).toNat) (by omega)
    rw [Int.toNat_of_nonneg (by omega)] at e1
    have s1 : slD (.str (zs ws.length)) none (some (k : Nat)) = some (false, .str (zs k)) := by
      rw [sl_strTo (by rw [hz]; omega), zs_take (by omega)]
    have a1 : ∀ c, addD (.str (zs k)) (.str [c]) = some (false, .str (zs k ++ [c])) := fun c => add_str (by rw [hz]; simp; omega)
    have d1 : (1 : Int) < ((1 + 1 + 1 + 1 : Nat) : Int) := by decide
    refine ⟨.fz (.str (zs k ++ [sgn 0])), .fz (.str (zs k ++ [sgn (m / dv m (wAt ws k)).toNat])), ?_⟩
    simp only [denFn, startP, outF, frOf, sSeq, sIf, sSet, sRet, sRetN, sExpr, sNil, sBrk, sCnt, sAug, sPar, sTgt, sApp, sExt, sStIx, sFor, eVar, eCst, eOp2, eOp1, eOpN, eChain, eAnd2, eOr2, eNot1, eIfE, tOfV, tTru, tAnd2, tOr2, tNot1, tYs, aNil, aCons, bNil, bCons, eTup, eLst, eDct0, eSl, eMthS, eCall, gN, gT, gSeq, iVal, iRange1, iRange2, iEnumr, itemsD, opOut, kdOf, deref, derefs, PSt.put, PSt.frzK, PSt.frz, Out.bind, Option.bind, Option.map, add_int, sub_int, addI, ix_tupE, ix_lstE, isTx, isntD2, isD2, isNone, guard', stIx, held, isKey, List.map_cons, List.map_nil, List.length_cons, List.length_nil, List.replicate_succ, List.replicate_zero, List.cons_append, List.nil_append, List.append_nil, List.getElem?_cons_zero, List.getElem?_cons_succ, List.set_cons_zero, List.set_cons_succ, Nat.reduceAdd, Nat.reduceSub, Nat.reduceEqDiff, if_true, if_false, ite_true, ite_false, reduceIte, at0, at1, at2, at3, eq_int, ne_int, ge_int, le_int, lt_int, gt_int, len_lst, len_tup, len_dct, intD, absD, List.length_map, Bool.not_true, Bool.not_false, Bool.false_eq_true, d1, decide_true, s1, e0, e1, a1, ha]
    try rfl
theorem row19 {d0 : D} {x2 x6 x7 x8 x9 x10 x11 x12 x13 x18 x19 x20 x21 : Sl} {S : List D} {m : Int} {ws : List Int} {c14 : List D} (h : Code m ws) (hc : c14 = cF ∨ ∃ k, k < ws.length ∧ miss m (gaps ws k % m) = true ∧ c14 = cM k (m / dv m (gaps ws k % m))) : ∃ y16 y17, (sIf (tOfV (eOp2 gtD2 (eOpN lenD (bCons (eVar 14) bNil)) (eCst (.int 1)))) (sSeq (sPar 16 17 (aCons (eOp2 addD (eOp2 addD (eSl (eVar 15) none (some (eOp2 ixD (eVar 14) (eCst (.int 1))))) (eOp2 ixD (eVar 5) (eOp2 ixD (eVar 14) (eCst (.int 2))))) (eOp2 ixD (eVar 5) (eOp2 ixD (eVar 14) (eCst (.int 3))))) (aCons (eOp2 addD (eOp2 addD (eSl (eVar 15) none (some (eOp2 ixD (eVar 14) (eCst (.int 1))))) (eOp2 ixD (eVar 5) (eOp2 ixD (eVar 14) (eCst (.int 3))))) (eOp2 ixD (eVar 5) (eOp2 ixD (eVar 14) (eCst (.int 2))))) aNil))) (sIf (tOfV (eOp2 isntD2 (eCall g_accept_missed (aCons (eVar 3) (aCons (eVar 4) (aCons (eVar 16) (aCons (eVar 17) aNil))))) (eCst .non))) (sRet (eCst (.bl false))) sNil)) sNil) ⟨[.fz d0, .fz (.ob 0), x2, .fz (.int m), .fz (.tup (ws.map D.int)), .fz (.str (sg m)), x6, x7, x8, x9, x10, x11, x12, x13, .fz (.tup c14), .fz (.str (zs ws.length)), x16, x17, x18, x19, x20, x21], S⟩ = .ok ⟨[.fz d0, .fz (.ob 0), x2, .fz (.int m), .fz (.tup (ws.map D.int)), .fz (.str (sg m)), x6, x7, x8, x9, x10, x11, x12, x13, .fz (.tup c14), .fz (.str (zs ws.length)), y16, y17, x18, x19, x20, x21], S⟩ .nx := by
  rcases hc with rfl | ⟨k, hk, h1, rfl⟩
  · exact ⟨x16, x17, rfl⟩
  · have hm := h.m1
    have hd := @dd_pos m (gaps ws k % m) (by omega)
    have c2 : m / dv m (gaps ws k % m) < nS m := of_decide_eq_true h1
    have hn := nN_int (m := m) (by omega)
    have hn2 : 2 ≤ nN m := by unfold nN nS; split <;> omega
    have ha := accept_two h hk h1 S
    have hw := h.w2
    have hz : ∀ a, (zs a).length = a := fun a => List.length_replicate
    have e0 : ixD (.str (sg m)) (.int 0) = some (false, .str [sgn 0]) := ix_sg (m := m) (by omega) (j := 0) (by omega)
    have e1 := ix_sg (m := m) (by omega) (j := (m / dv m (gaps ws k % m)).toNat) (by omega)
    rw [Int.toNat_of_nonneg (by omega)] at e1
    have s1 : slD (.str (zs ws.length)) none (some (k : Nat)) = some (false, .str (zs k)) := by
      rw [sl_strTo (by rw [hz]; omega), zs_take (by omega)]
    have a1 : ∀ c, addD (.str (zs k)) (.str [c]) = some (false, .str (zs k ++ [c])) := fun c => add_str (by rw [hz]; simp; omega)
    have a2 : ∀ c d, addD (.str (zs k ++ [c])) (.str [d]) = some (false, .str (zs k ++ [c] ++ [d])) := fun c d => add_str (by rw [List.length_append, hz]; simp; omega)
    have d1 : (1 : Int) < ((1 + 1 + 1 + 1 : Nat) : Int) := by decide
    refine ⟨.fz (.str (zs k ++ [sgn 0] ++ [sgn (m / dv m (gaps ws k % m)).toNat])), .fz (.str (zs k ++ [sgn (m / dv m (gaps ws k % m)).toNat] ++ [sgn 0])), ?_⟩
    simp only [denFn, startP, outF, frOf, sSeq, sIf, sSet, sRet, sRetN, sExpr, sNil, sBrk, sCnt, sAug, sPar, sTgt, sApp, sExt, sStIx, sFor, eVar, eCst, eOp2, eOp1, eOpN, eChain, eAnd2, eOr2, eNot1, eIfE, tOfV, tTru, tAnd2, tOr2, tNot1, tYs, aNil, aCons, bNil, bCons, eTup, eLst, eDct0, eSl, eMthS, eCall, gN, gT, gSeq, iVal, iRange1, iRange2, iEnumr, itemsD, opOut, kdOf, deref, derefs, PSt.put, PSt.frzK, PSt.frz, Out.bind, Option.bind, Option.map, add_int, sub_int, addI, ix_tupE, ix_lstE, isTx, isntD2, isD2, isNone, guard', stIx, held, isKey, List.map_cons, List.map_nil, List.length_cons, List.length_nil, List.replicate_succ, List.replicate_zero, List.cons_append, List.nil_append, List.append_nil, List.getElem?_cons_zero, List.getElem?_cons_succ, List.set_cons_zero, List.set_cons_succ, Nat.reduceAdd, Nat.reduceSub, Nat.reduceEqDiff, if_true, if_false, ite_true, ite_false, reduceIte, at0, at1, at2, at3, eq_int, ne_int, ge_int, le_int, lt_int, gt_int, len_lst, len_tup, len_dct, intD, absD, List.length_map, Bool.not_true, Bool.not_false, Bool.false_eq_true, d1, decide_true, s1, e0, e1, a1, a2, ha]
    try rfl
theorem row20 {d0 : D} {x2 x3 x4 x5 x6 x7 x8 x9 x10 x11 x12 x13 x14 x15 x16 x17 x20 x21 : Sl} {S : List D} (hv : VS S) : ∃ (sm : Int) (mn : Nat) (S' : List D), (sPar 18 19 (aCons (eOp2 ixD (eLst (aCons (eCst (.int 2)) (aCons (eCst (.int 3)) (aCons (eCst (.int 4)) (aCons (eCst (.int 5)) (aCons (eCst (.int 7)) (aCons (eCst (.int 9)) (aCons (eCst (.int 11)) aNil)))))))) (eCall g__law_draw (aCons (eVar 1) (aCons (eCst (.int 7)) aNil)))) (aCons (eOp2 addD (eCst (.int 1)) (eCall g__law_draw (aCons (eVar 1) (aCons (eCst (.int 3)) aNil)))) aNil))) ⟨[.fz d0, .fz (.ob 0), x2, x3, x4, x5, x6, x7, x8, x9, x10, x11, x12, x13, x14, x15, x16, x17, x18, x19, x20, x21], S⟩ = .ok ⟨[.fz d0, .fz (.ob 0), x2, x3, x4, x5, x6, x7, x8, x9, x10, x11, x12, x13, x14, x15, x16, x17, .fz (.int sm), .fz (.int (mn : Nat)), x20, x21], S'⟩ .nx ∧ sm ∈ [2, 3, 4, 5, 7, 9, (11 : Int)] ∧ 1 ≤ mn ∧ mn ≤ 3 ∧ VS S' := by
  obtain ⟨v, S1, e, h1, h2, h3⟩ := draw hv (many := 7) (by omega) (by omega)
  obtain ⟨u, S2, e', g1, g2, g3⟩ := draw h1 (many := 3) (by omega) (by omega)
  have hl : v.toNat < [2, 3, 4, 5, 7, 9, (11 : Int)].length := by show v.toNat < 7; omega
  have ha : atI ([2, 3, 4, 5, 7, 9, (11 : Int)].map D.int) v = some (.int [2, 3, 4, 5, 7, 9, (11 : Int)][v.toNat]) := by
    refine atK h2 ?_
    rw [List.getElem?_map, List.getElem?_eq_getElem hl]; rfl
  have ha' : atI [D.int 2, .int 3, .int 4, .int 5, .int 7, .int 9, .int 11] v = some (.int [2, 3, 4, 5, 7, 9, (11 : Int)][v.toNat]) := ha
  refine ⟨[2, 3, 4, 5, 7, 9, (11 : Int)][v.toNat], (1 + u).toNat, S2, ?_, List.getElem_mem hl, by omega, by omega, g1⟩
  have hsz : szB 7 = true := rfl
  have hu : (((1 + u).toNat : Nat) : Int) = 1 + u := by omega
  rw [hu]
  simp only [denFn, startP, outF, frOf, sSeq, sIf, sSet, sRet, sRetN, sExpr, sNil, sBrk, sCnt, sAug, sPar, sTgt, sApp, sExt, sStIx, sFor, eVar, eCst, eOp2, eOp1, eOpN, eChain, eAnd2, eOr2, eNot1, eIfE, tOfV, tTru, tAnd2, tOr2, tNot1, tYs, aNil, aCons, bNil, bCons, eTup, eLst, eDct0, eSl, eMthS, eCall, gN, gT, gSeq, iVal, iRange1, iRange2, iEnumr, itemsD, opOut, kdOf, deref, derefs, PSt.put, PSt.frzK, PSt.frz, Out.bind, Option.bind, Option.map, add_int, sub_int, addI, ix_tupE, ix_lstE, isTx, isntD2, isD2, isNone, guard', stIx, held, isKey, List.map_cons, List.map_nil, List.length_cons, List.length_nil, List.replicate_succ, List.replicate_zero, List.cons_append, List.nil_append, List.append_nil, List.getElem?_cons_zero, List.getElem?_cons_succ, List.set_cons_zero, List.set_cons_succ, Nat.reduceAdd, Nat.reduceSub, Nat.reduceEqDiff, if_true, if_false, ite_true, ite_false, reduceIte, at0, at1, at2, at3, eq_int, ne_int, ge_int, le_int, lt_int, gt_int, len_lst, len_tup, len_dct, intD, absD, List.length_map, Bool.not_true, Bool.not_false, Bool.false_eq_true, draw_is, e, ha', e', hsz]
theorem row21 {d0 : D} {x2 x3 x4 x5 x6 x7 x8 x9 x10 x11 x12 x13 x14 x15 x16 x17 x20 x21 : Sl} {S : List D} {sm : Int} {mn : Nat} (h : sm ∈ [2, 3, 4, 5, 7, 9, (11 : Int)]) (h1 : 1 ≤ mn) (h3 : mn ≤ 3) : (sIf (tOfV (eOp2 neD2 (eCall g_good_weights (aCons (eVar 18) (aCons (eVar 19) aNil))) (eCall g__law_good (aCons (eVar 18) (aCons (eVar 19) aNil))))) (sRet (eCst (.bl false))) sNil) ⟨[.fz d0, .fz (.ob 0), x2, x3, x4, x5, x6, x7, x8, x9, x10, x11, x12, x13, x14, x15, x16, x17, .fz (.int sm), .fz (.int (mn : Nat)), x20, x21], S⟩ = .ok ⟨[.fz d0, .fz (.ob 0), x2, x3, x4, x5, x6, x7, x8, x9, x10, x11, x12, x13, x14, x15, x16, x17, .fz (.int sm), .fz (.int (mn : Nat)), x20, x21], S⟩ .nx := by
  have hs : 2 ≤ sm ∧ sm ≤ 11 := by
    simp only [List.mem_cons, List.not_mem_nil, or_false] at h
    omega
  have a := good_weights_is (m := sm) (many := mn) hs.1 (by omega) h1 (by omega) S
  have b := lgood_is (m := sm) (many := mn) hs.1 hs.2 h1 h3 S
  rw [good_eq h h1 h3] at a
  cases c : (rowsN sm mn [[]]).find? (tOk sm) with
  | none =>
    rw [c] at a b
    have n := ne_same (d := .non) rfl
    simp only [optD] at a b
    simp only [denFn, startP, outF, frOf, sSeq, sIf, sSet, sRet, sRetN, sExpr, sNil, sBrk, sCnt, sAug, sPar, sTgt, sApp, sExt, sStIx, sFor, eVar, eCst, eOp2, eOp1, eOpN, eChain, eAnd2, eOr2, eNot1, eIfE, tOfV, tTru, tAnd2, tOr2, tNot1, tYs, aNil, aCons, bNil, bCons, eTup, eLst, eDct0, eSl, eMthS, eCall, gN, gT, gSeq, iVal, iRange1, iRange2, iEnumr, itemsD, opOut, kdOf, deref, derefs, PSt.put, PSt.frzK, PSt.frz, Out.bind, Option.bind, Option.map, add_int, sub_int, addI, ix_tupE, ix_lstE, isTx, isntD2, isD2, isNone, guard', stIx, held, isKey, List.map_cons, List.map_nil, List.length_cons, List.length_nil, List.replicate_succ, List.replicate_zero, List.cons_append, List.nil_append, List.append_nil, List.getElem?_cons_zero, List.getElem?_cons_succ, List.set_cons_zero, List.set_cons_succ, Nat.reduceAdd, Nat.reduceSub, Nat.reduceEqDiff, if_true, if_false, ite_true, ite_false, reduceIte, at0, at1, at2, at3, eq_int, ne_int, ge_int, le_int, lt_int, gt_int, len_lst, len_tup, len_dct, intD, absD, List.length_map, Bool.not_true, Bool.not_false, Bool.false_eq_true, a, b, n]
  | some r =>
    rw [c] at a b
    have n : neD2 (.tup (r.map D.int)) (.tup (r.map D.int)) = some (false, .bl false) := ne_same (by
      show okDs 63 (r.map D.int) = true
      exact okDs_map fun _ _ => rfl)
    simp only [optD] at a b
    simp only [denFn, startP, outF, frOf, sSeq, sIf, sSet, sRet, sRetN, sExpr, sNil, sBrk, sCnt, sAug, sPar, sTgt, sApp, sExt, sStIx, sFor, eVar, eCst, eOp2, eOp1, eOpN, eChain, eAnd2, eOr2, eNot1, eIfE, tOfV, tTru, tAnd2, tOr2, tNot1, tYs, aNil, aCons, bNil, bCons, eTup, eLst, eDct0, eSl, eMthS, eCall, gN, gT, gSeq, iVal, iRange1, iRange2, iEnumr, itemsD, opOut, kdOf, deref, derefs, PSt.put, PSt.frzK, PSt.frz, Out.bind, Option.bind, Option.map, add_int, sub_int, addI, ix_tupE, ix_lstE, isTx, isntD2, isD2, isNone, guard', stIx, held, isKey, List.map_cons, List.map_nil, List.length_cons, List.length_nil, List.replicate_succ, List.replicate_zero, List.cons_append, List.nil_append, List.append_nil, List.getElem?_cons_zero, List.getElem?_cons_succ, List.set_cons_zero, List.set_cons_succ, Nat.reduceAdd, Nat.reduceSub, Nat.reduceEqDiff, if_true, if_false, ite_true, ite_false, reduceIte, at0, at1, at2, at3, eq_int, ne_int, ge_int, le_int, lt_int, gt_int, len_lst, len_tup, len_dct, intD, absD, List.length_map, Bool.not_true, Bool.not_false, Bool.false_eq_true, a, b, n]
end K56
namespace K56
open PySem PySem.Spec L2 PM
noncomputable def bodyL : SmS := (sSeq (sSet 3 (eOp2 ixD (eLst (aCons (eCst (.int 2)) (aCons (eCst (.int 3)) (aCons (eCst (.int 5)) (aCons (eCst (.int 7)) (aCons (eCst (.int 10)) (aCons (eCst (.int 11)) (aCons (eCst (.int 13)) (aCons (eCst (.int 16)) (aCons (eCst (.int 20)) (aCons (eCst (.int 36)) (aCons (eCst (.int 66)) (aCons (eCst (.int 67)) (aCons (eCst (.int 97)) aNil)))))))))))))) (eCall g__law_draw (aCons (eVar 1) (aCons (eCst (.int 13)) aNil))))) (sSeq (sSet 4 (eOpN tupD (bCons (eLc (iRange1 (bCons (eOp2 addD (eCst (.int 1)) (eCall g__law_draw (aCons (eVar 1) (aCons (eCst (.int 5)) aNil)))) bNil)) [20] (gN 20) tYs (eCall g__law_draw (aCons (eVar 1) (aCons (eVar 3) aNil)))) bNil))) (sSeq (sSet 5 (eCall g__law_signs (aCons (eVar 3) aNil))) (sSeq (sSet 6 (eMthS joinD (eCst (.str [])) (bCons (eLc (iRange1 (bCons (eCall g__law_draw (aCons (eVar 1) (aCons (eCst (.int 9)) aNil))) bNil)) [20] (gN 20) tYs (eOp2 ixD (eVar 5) (eCall g__law_draw (aCons (eVar 1) (aCons (eOpN lenD (bCons (eVar 5) bNil)) aNil))))) bNil))) (sSeq (sSet 7 (eCall g__law_sum (aCons (eVar 3) (aCons (eVar 4) (aCons (eVar 6) aNil))))) (sSeq (sIf (tOr2 (tOfV (eOp2 neD2 (eCall g_check_sum (aCons (eVar 3) (aCons (eVar 4) (aCons (eVar 6) aNil)))) (eVar 7))) (tOfV (eOp2 neD2 (eCall g_is_guarded (aCons (eVar 3) (aCons (eVar 4) (aCons (eVar 6) aNil)))) (eOp2 eqD2 (eVar 7) (eCst (.int 0)))))) (sRet (eCst (.bl false))) sNil) (sSeq (sSet 8 (eCall g_guards_of (aCons (eVar 3) (aCons (eVar 4) (aCons (eVar 6) aNil))))) (sSeq (sIf (tOfV (eOp2 neD2 (eVar 8) (eOpN tupD (bCons (eLc (iVal (eVar 5)) [21] (gN 21) (tOfV (eOp2 eqD2 (eCall g__law_sum (aCons (eVar 3) (aCons (eVar 4) (aCons (eOp2 addD (eVar 6) (eVar 21)) aNil)))) (eCst (.int 0)))) (eVar 21)) bNil)))) (sRet (eCst (.bl false))) sNil) (sSeq (sSet 9 (eLst aNil)) (sSeq (sFor (iRange1 (bCons (eOpN lenD (bCons (eVar 6) bNil)) bNil)) (gN 10) (sExt 9 (eCall g__law_changed (aCons (eVar 3) (aCons (eVar 6) (aCons (eVar 10) aNil)))))) (sSeq (sIf (tOfV (eOp2 neD2 (eCall g_repairs (aCons (eVar 3) (aCons (eVar 4) (aCons (eVar 6) aNil)))) (eIfE (tOfV (eOp2 eqD2 (eVar 7) (eCst (.int 0)))) (eTup (aCons (eVar 6) aNil)) (eOpN tupD (bCons (eOpN srtD (bCons (eCall g__law_guarded (aCons (eVar 3) (aCons (eVar 4) (aCons (eVar 9) aNil)))) bNil)) bNil))))) (sRet (eCst (.bl false))) sNil) (sSeq (sSet 11 (eOpN dctD (bCons (eLc (iRange1 (bCons (eOp2 subD (eOpN lenD (bCons (eVar 6) bNil)) (eCst (.int 1))) bNil)) [10] (gN 10) (tOfV (eOp2 neD2 (eOp2 ixD (eVar 6) (eVar 10)) (eOp2 ixD (eVar 6) (eOp2 addD (eVar 10) (eCst (.int 1)))))) (eTup (aCons (eOp2 addD (eOp2 addD (eOp2 addD (eSl (eVar 6) none (some (eVar 10))) (eOp2 ixD (eVar 6) (eOp2 addD (eVar 10) (eCst (.int 1))))) (eOp2 ixD (eVar 6) (eVar 10))) (eSl (eVar 6) (some (eOp2 addD (eVar 10) (eCst (.int 2)))) none)) (aCons (eCst (.bl true)) aNil)))) bNil))) (sSeq (sIf (tOfV (eOp2 neD2 (eCall g_turn_repairs (aCons (eVar 3) (aCons (eVar 4) (aCons (eVar 6) aNil)))) (eOpN tupD (bCons (eOpN srtD (bCons (eCall g__law_guarded (aCons (eVar 3) (aCons (eVar 4) (aCons (eOpN lstD (bCons (eVar 11) bNil)) aNil)))) bNil)) bNil)))) (sRet (eCst (.bl false))) sNil) (sSeq (sIf (tTru (eVar 6)) (sSeq (sSet 10 (eCall g__law_draw (aCons (eVar 1) (aCons (eOpN lenD (bCons (eVar 6) bNil)) aNil)))) (sIf (tOfV (eOp2 neD2 (eCall g_filled (aCons (eVar 3) (aCons (eVar 4) (aCons (eVar 6) (aCons (eVar 10) aNil))))) (eOpN tupD (bCons (eLc (iVal (eVar 5)) [21] (gN 21) (tOfV (eOp2 eqD2 (eCall g__law_sum (aCons (eVar 3) (aCons (eVar 4) (aCons (eOp2 addD (eOp2 addD (eSl (eVar 6) none (some (eVar 10))) (eVar 21)) (eSl (eVar 6) (some (eOp2 addD (eVar 10) (eCst (.int 1)))) none)) aNil)))) (eCst (.int 0)))) (eOp2 addD (eOp2 addD (eSl (eVar 6) none (some (eVar 10))) (eVar 21)) (eSl (eVar 6) (some (eOp2 addD (eVar 10) (eCst (.int 1)))) none))) bNil)))) (sRet (eCst (.bl false))) sNil)) sNil) (sSeq (sFor (iVal (eOp2 addD (eOp2 mulD (eLst (aCons (eVar 6) aNil)) (eIfE (tOfV (eOp2 eqD2 (eVar 7) (eCst (.int 0)))) (eCst (.int 1)) (eCst (.int 0)))) (eLc (iVal (eSl (eVar 8) none (some (eCst (.int 1))))) [21] (gN 21) tYs (eOp2 addD (eVar 6) (eVar 21))))) (gN 12) (sSeq (sSet 9 (eLst aNil)) (sSeq (sFor (iRange1 (bCons (eOpN lenD (bCons (eVar 12) bNil)) bNil)) (gN 10) (sExt 9 (eCall g__law_changed (aCons (eVar 3) (aCons (eVar 12) (aCons (eVar 10) aNil)))))) (sIf (tOfV (eOp2 neD2 (eCall g_missed_share (aCons (eVar 3) (aCons (eVar 4) (aCons (eVar 12) aNil)))) (eTup (aCons (eOpN lenD (bCons (eCall g__law_guarded (aCons (eVar 3) (aCons (eVar 4) (aCons (eVar 9) aNil)))) bNil)) (aCons (eOpN lenD (bCons (eVar 9) bNil)) aNil))))) (sRet (eCst (.bl false))) sNil)))) (sSeq (sPar 13 14 (aCons (eCall g_judge_changes (aCons (eVar 3) (aCons (eVar 4) aNil))) (aCons (eCall g_judge_turns (aCons (eVar 3) (aCons (eVar 4) aNil))) aNil))) (sSeq (sIf (tOr2 (tOfV (eOp2 neD2 (eVar 13) (eCall g__law_judged (aCons (eVar 3) (aCons (eOpN lstD (bCons (eVar 4) bNil)) aNil))))) (tOfV (eOp2 neD2 (eVar 14) (eCall g__law_judged (aCons (eVar 3) (aCons (eCall g__law_gaps (aCons (eVar 4) aNil)) aNil)))))) (sRet (eCst (.bl false))) sNil) (sSeq (sSet 15 (eOp2 mulD (eOp2 ixD (eVar 5) (eCst (.int 0))) (eOpN lenD (bCons (eVar 4) bNil)))) (sSeq (sIf (tOfV (eOp2 gtD2 (eOpN lenD (bCons (eVar 13) bNil)) (eCst (.int 1)))) (sSeq (sPar 16 17 (aCons (eOp2 addD (eSl (eVar 15) none (some (eOp2 ixD (eVar 13) (eCst (.int 1))))) (eOp2 ixD (eVar 5) (eOp2 ixD (eVar 13) (eCst (.int 2))))) (aCons (eOp2 addD (eSl (eVar 15) none (some (eOp2 ixD (eVar 13) (eCst (.int 1))))) (eOp2 ixD (eVar 5) (eOp2 ixD (eVar 13) (eCst (.int 3))))) aNil))) (sIf (tOfV (eOp2 isntD2 (eCall g_accept_missed (aCons (eVar 3) (aCons (eVar 4) (aCons (eVar 16) (aCons (eVar 17) aNil))))) (eCst .non))) (sRet (eCst (.bl false))) sNil)) sNil) (sSeq (sIf (tOfV (eOp2 gtD2 (eOpN lenD (bCons (eVar 14) bNil)) (eCst (.int 1)))) (sSeq (sPar 16 17 (aCons (eOp2 addD (eOp2 addD (eSl (eVar 15) none (some (eOp2 ixD (eVar 14) (eCst (.int 1))))) (eOp2 ixD (eVar 5) (eOp2 ixD (eVar 14) (eCst (.int 2))))) (eOp2 ixD (eVar 5) (eOp2 ixD (eVar 14) (eCst (.int 3))))) (aCons (eOp2 addD (eOp2 addD (eSl (eVar 15) none (some (eOp2 ixD (eVar 14) (eCst (.int 1))))) (eOp2 ixD (eVar 5) (eOp2 ixD (eVar 14) (eCst (.int 3))))) (eOp2 ixD (eVar 5) (eOp2 ixD (eVar 14) (eCst (.int 2))))) aNil))) (sIf (tOfV (eOp2 isntD2 (eCall g_accept_missed (aCons (eVar 3) (aCons (eVar 4) (aCons (eVar 16) (aCons (eVar 17) aNil))))) (eCst .non))) (sRet (eCst (.bl false))) sNil)) sNil) (sSeq (sPar 18 19 (aCons (eOp2 ixD (eLst (aCons (eCst (.int 2)) (aCons (eCst (.int 3)) (aCons (eCst (.int 4)) (aCons (eCst (.int 5)) (aCons (eCst (.int 7)) (aCons (eCst (.int 9)) (aCons (eCst (.int 11)) aNil)))))))) (eCall g__law_draw (aCons (eVar 1) (aCons (eCst (.int 7)) aNil)))) (aCons (eOp2 addD (eCst (.int 1)) (eCall g__law_draw (aCons (eVar 1) (aCons (eCst (.int 3)) aNil)))) aNil))) (sIf (tOfV (eOp2 neD2 (eCall g_good_weights (aCons (eVar 18) (aCons (eVar 19) aNil))) (eCall g__law_good (aCons (eVar 18) (aCons (eVar 19) aNil))))) (sRet (eCst (.bl false))) sNil))))))))))))))))))))))
theorem turnL {d0 : D} {x2 x3 x4 x5 x6 x7 x8 x9 x10 x11 x12 x13 x14 x15 x16 x17 x18 x19 x20 x21 : Sl} {S : List D} (hv : VS S) : ∃ y2 y3 y4 y5 y6 y7 y8 y9 y10 y11 y12 y13 y14 y15 y16 y17 y18 y19 y20 y21 S', bodyL ⟨[.fz d0, .fz (.ob 0), x2, x3, x4, x5, x6, x7, x8, x9, x10, x11, x12, x13, x14, x15, x16, x17, x18, x19, x20, x21], S⟩ = .ok ⟨[.fz d0, .fz (.ob 0), y2, y3, y4, y5, y6, y7, y8, y9, y10, y11, y12, y13, y14, y15, y16, y17, y18, y19, y20, y21], S'⟩ .nx ∧ VS S' := by
  obtain ⟨m, S1, e0, hmm, v1⟩ := row0 (d0 := d0) (x2 := x2) (x3 := x3) (x4 := x4) (x5 := x5) (x6 := x6) (x7 := x7) (x8 := x8) (x9 := x9) (x10 := x10) (x11 := x11) (x12 := x12) (x13 := x13) (x14 := x14) (x15 := x15) (x16 := x16) (x17 := x17) (x18 := x18) (x19 := x19) (x20 := x20) (x21 := x21) hv
  obtain ⟨hm, hm2⟩ := mods_ok hmm
  obtain ⟨ws, S2, e1, hc, hw5, v2⟩ := row1 (d0 := d0) (x2 := x2) (x4 := x4) (x5 := x5) (x6 := x6) (x7 := x7) (x8 := x8) (x9 := x9) (x10 := x10) (x11 := x11) (x12 := x12) (x13 := x13) (x14 := x14) (x15 := x15) (x16 := x16) (x17 := x17) (x18 := x18) (x19 := x19) (x20 := x20) (x21 := x21) hm hm2 v1
  have e2 := row2 (d0 := d0) (x2 := x2) (x5 := x5) (x6 := x6) (x7 := x7) (x8 := x8) (x9 := x9) (x10 := x10) (x11 := x11) (x12 := x12) (x13 := x13) (x14 := x14) (x15 := x15) (x16 := x16) (x17 := x17) (x18 := x18) (x19 := x19) (x20 := x20) (x21 := x21) (S := S2) (ws := ws) (show 0 ≤ m by omega)
  obtain ⟨t, S3, e3, ht, hl, v3⟩ := row3 (d0 := d0) (x2 := x2) (x6 := x6) (x7 := x7) (x8 := x8) (x9 := x9) (x10 := x10) (x11 := x11) (x12 := x12) (x13 := x13) (x14 := x14) (x15 := x15) (x16 := x16) (x17 := x17) (x18 := x18) (x19 := x19) (x20 := x20) (x21 := x21) (ws := ws) hm v2
  have e4 := row4 (d0 := d0) (x2 := x2) (x7 := x7) (x8 := x8) (x9 := x9) (x10 := x10) (x11 := x11) (x12 := x12) (x13 := x13) (x14 := x14) (x15 := x15) (x16 := x16) (x17 := x17) (x18 := x18) (x19 := x19) (x20 := x20) (x21 := x21) (S := S3) hc ht
  have e5 := row5 (d0 := d0) (x2 := x2) (x8 := x8) (x9 := x9) (x10 := x10) (x11 := x11) (x12 := x12) (x13 := x13) (x14 := x14) (x15 := x15) (x16 := x16) (x17 := x17) (x18 := x18) (x19 := x19) (x20 := x20) (x21 := x21) (S := S3) hc ht
  have e6 := row6 (d0 := d0) (x2 := x2) (x8 := x8) (x9 := x9) (x10 := x10) (x11 := x11) (x12 := x12) (x13 := x13) (x14 := x14) (x15 := x15) (x16 := x16) (x17 := x17) (x18 := x18) (x19 := x19) (x20 := x20) (x21 := x21) (S := S3) hc ht hl
  have e7 := row7 (d0 := d0) (x2 := x2) (x9 := x9) (x10 := x10) (x11 := x11) (x12 := x12) (x13 := x13) (x14 := x14) (x15 := x15) (x16 := x16) (x17 := x17) (x18 := x18) (x19 := x19) (x20 := x20) (x21 := x21) (S := S3) hc ht hl
  have e8 := row8 (d0 := d0) (x2 := x2) (x9 := x9) (x10 := x10) (x11 := x11) (x12 := x12) (x13 := x13) (x14 := x14) (x15 := x15) (x16 := x16) (x17 := x17) (x18 := x18) (x19 := x19) (x20 := x20) (x21 := x21) (S := S3) (m := m) (ws := ws) (t := t) (g := .tup ((grd m ws t).map fun c => D.str [c]))
  obtain ⟨z10, e9⟩ := row9 (d0 := d0) (x2 := x2) (x10 := x10) (x11 := x11) (x12 := x12) (x13 := x13) (x14 := x14) (x15 := x15) (x16 := x16) (x17 := x17) (x18 := x18) (x19 := x19) (x20 := x20) (x21 := x21) (S := S3) (ws := ws) (g := .tup ((grd m ws t).map fun c => D.str [c])) (show 0 ≤ m by omega) ht hl
  obtain ⟨z9, e10⟩ := row10 (d0 := d0) (x2 := x2) (x10 := z10) (x11 := x11) (x12 := x12) (x13 := x13) (x14 := x14) (x15 := x15) (x16 := x16) (x17 := x17) (x18 := x18) (x19 := x19) (x20 := x20) (x21 := x21) (S := S3) (g := .tup ((grd m ws t).map fun c => D.str [c])) hc ht hl
  have e11 := row11 (d0 := d0) (x2 := x2) (x9 := z9) (x10 := z10) (x11 := x11) (x12 := x12) (x13 := x13) (x14 := x14) (x15 := x15) (x16 := x16) (x17 := x17) (x18 := x18) (x19 := x19) (x20 := x20) (x21 := x21) (S := S3) (g := .tup ((grd m ws t).map fun c => D.str [c])) hc ht hl
  have e12 := row12 (d0 := d0) (x2 := x2) (x9 := z9) (x10 := z10) (x12 := x12) (x13 := x13) (x14 := x14) (x15 := x15) (x16 := x16) (x17 := x17) (x18 := x18) (x19 := x19) (x20 := x20) (x21 := x21) (S := S3) (g := .tup ((grd m ws t).map fun c => D.str [c])) hc ht hl
  obtain ⟨w10, S4, e13, v4⟩ := row13 (d0 := d0) (x2 := x2) (x9 := z9) (x11 := .ow (.dct (((trnL t).foldl insK []).map keyP))) (x12 := x12) (x13 := x13) (x14 := x14) (x15 := x15) (x16 := x16) (x17 := x17) (x18 := x18) (x19 := x19) (x20 := x20) (x21 := x21) (x10 := z10) (g := .tup ((grd m ws t).map fun c => D.str [c])) hc ht hl v3
  obtain ⟨w9, u10, u12, e14⟩ := row14 (d0 := d0) (x2 := x2) (x11 := .ow (.dct (((trnL t).foldl insK []).map keyP))) (x13 := x13) (x14 := x14) (x15 := x15) (x16 := x16) (x17 := x17) (x18 := x18) (x19 := x19) (x20 := x20) (x21 := x21) (x9 := z9) (x10 := w10) (x12 := x12) (S := S4) hc ht hl
  obtain ⟨c13, k1, k2, k3, k4⟩ := changes_c hc
  obtain ⟨c14, l1, l3, l4⟩ := turns_c (m := m) (ws := ws)
  have e15 := row15 (d0 := d0) (x2 := x2) (x5 := .fz (.str (sg m))) (x6 := .fz (.str t)) (x7 := .fz (.int (su m ws t))) (x8 := .fz (.tup ((grd m ws t).map fun c => D.str [c]))) (x9 := w9) (x10 := u10) (x11 := .ow (.dct (((trnL t).foldl insK []).map keyP))) (x12 := u12) (x15 := x15) (x16 := x16) (x17 := x17) (x18 := x18) (x19 := x19) (x20 := x20) (x21 := x21) (x13 := x13) (x14 := x14) (S := S4) hc k1 l1
  have e16 := row16 (d0 := d0) (x2 := x2) (x5 := .fz (.str (sg m))) (x6 := .fz (.str t)) (x7 := .fz (.int (su m ws t))) (x8 := .fz (.tup ((grd m ws t).map fun c => D.str [c]))) (x9 := w9) (x10 := u10) (x11 := .ow (.dct (((trnL t).foldl insK []).map keyP))) (x12 := u12) (x15 := x15) (x16 := x16) (x17 := x17) (x18 := x18) (x19 := x19) (x20 := x20) (x21 := x21) (S := S4) hc k2 l1 k3 l3
  have e17 := row17 (d0 := d0) (x2 := x2) (x6 := .fz (.str t)) (x7 := .fz (.int (su m ws t))) (x8 := .fz (.tup ((grd m ws t).map fun c => D.str [c]))) (x9 := w9) (x10 := u10) (x11 := .ow (.dct (((trnL t).foldl insK []).map keyP))) (x12 := u12) (x13 := .fz (.tup c13)) (x14 := .fz (.tup c14)) (x16 := x16) (x17 := x17) (x18 := x18) (x19 := x19) (x20 := x20) (x21 := x21) (x15 := x15) (S := S4) hc
  obtain ⟨w16, w17, e18⟩ := row18 (d0 := d0) (x2 := x2) (x6 := .fz (.str t)) (x7 := .fz (.int (su m ws t))) (x8 := .fz (.tup ((grd m ws t).map fun c => D.str [c]))) (x9 := w9) (x10 := u10) (x11 := .ow (.dct (((trnL t).foldl insK []).map keyP))) (x12 := u12) (x14 := .fz (.tup c14)) (x18 := x18) (x19 := x19) (x20 := x20) (x21 := x21) (x16 := x16) (x17 := x17) (S := S4) hc k4
  obtain ⟨u16, u17, e19⟩ := row19 (d0 := d0) (x2 := x2) (x6 := .fz (.str t)) (x7 := .fz (.int (su m ws t))) (x8 := .fz (.tup ((grd m ws t).map fun c => D.str [c]))) (x9 := w9) (x10 := u10) (x11 := .ow (.dct (((trnL t).foldl insK []).map keyP))) (x12 := u12) (x13 := .fz (.tup c13)) (x18 := x18) (x19 := x19) (x20 := x20) (x21 := x21) (x16 := w16) (x17 := w17) (S := S4) hc l4
  obtain ⟨sm, mn, S5, e20, q1, q2, q3, v5⟩ := row20 (d0 := d0) (x2 := x2) (x3 := .fz (.int m)) (x4 := .fz (.tup (ws.map D.int))) (x5 := .fz (.str (sg m))) (x6 := .fz (.str t)) (x7 := .fz (.int (su m ws t))) (x8 := .fz (.tup ((grd m ws t).map fun c => D.str [c]))) (x9 := w9) (x10 := u10) (x11 := .ow (.dct (((trnL t).foldl insK []).map keyP))) (x12 := u12) (x13 := .fz (.tup c13)) (x14 := .fz (.tup c14)) (x15 := .fz (.str (zs ws.length))) (x16 := u16) (x17 := u17) (x20 := x20) (x21 := x21) (x18 := x18) (x19 := x19) v4
  have e21 := row21 (d0 := d0) (x2 := x2) (x3 := .fz (.int m)) (x4 := .fz (.tup (ws.map D.int))) (x5 := .fz (.str (sg m))) (x6 := .fz (.str t)) (x7 := .fz (.int (su m ws t))) (x8 := .fz (.tup ((grd m ws t).map fun c => D.str [c]))) (x9 := w9) (x10 := u10) (x11 := .ow (.dct (((trnL t).foldl insK []).map keyP))) (x12 := u12) (x13 := .fz (.tup c13)) (x14 := .fz (.tup c14)) (x15 := .fz (.str (zs ws.length))) (x16 := u16) (x17 := u17) (x20 := x20) (x21 := x21) (S := S5) q1 q2 q3
  refine ⟨x2, .fz (.int m), .fz (.tup (ws.map D.int)), .fz (.str (sg m)), .fz (.str t), .fz (.int (su m ws t)), .fz (.tup ((grd m ws t).map fun c => D.str [c])), w9, u10, .ow (.dct (((trnL t).foldl insK []).map keyP)), u12, .fz (.tup c13), .fz (.tup c14), .fz (.str (zs ws.length)), u16, u17, .fz (.int sm), .fz (.int (mn : Nat)), x20, x21, S5, ?_, v5⟩
  unfold bodyL
  refine (sSeq_nx e0).trans ?_
  refine (sSeq_nx e1).trans ?_
  refine (sSeq_nx e2).trans ?_
  refine (sSeq_nx e3).trans ?_
  refine (sSeq_nx e4).trans ?_
  refine (sSeq_nx e5).trans ?_
  refine (sSeq_nx e6).trans ?_
  refine (sSeq_nx e7).trans ?_
  refine (sSeq_nx e8).trans ?_
  refine (sSeq_nx e9).trans ?_
  refine (sSeq_nx e10).trans ?_
  refine (sSeq_nx e11).trans ?_
  refine (sSeq_nx e12).trans ?_
  refine (sSeq_nx e13).trans ?_
  refine (sSeq_nx e14).trans ?_
  refine (sSeq_nx e15).trans ?_
  refine (sSeq_nx e16).trans ?_
  refine (sSeq_nx e17).trans ?_
  refine (sSeq_nx e18).trans ?_
  refine (sSeq_nx e19).trans ?_
  refine (sSeq_nx e20).trans ?_
  exact e21
theorem lawM : LawM 20 63 b1_law b_law := by
  intro ns _ _
  have hs := start ns
  have hvs := start_vs ns
  refine ⟨[.lst (ns.map D.int), .int 0, .int 0, .int (seedL ns 7)], ?_⟩
  have hI := forLoop_nx (tg := gN 2) (body := bodyL) (fun _ p => ∃ x2 x3 x4 x5 x6 x7 x8 x9 x10 x11 x12 x13 x14 x15 x16 x17 x18 x19 x20 x21 S, p = (⟨[.fz (.flst (ns.map D.int)), .fz (.ob 0), x2, x3, x4, x5, x6, x7, x8, x9, x10, x11, x12, x13, x14, x15, x16, x17, x18, x19, x20, x21], S⟩ : PSt) ∧ VS S) (fun d ds p h => by
    obtain ⟨x2, x3, x4, x5, x6, x7, x8, x9, x10, x11, x12, x13, x14, x15, x16, x17, x18, x19, x20, x21, S, rfl, hv⟩ := h
    obtain ⟨y2, y3, y4, y5, y6, y7, y8, y9, y10, y11, y12, y13, y14, y15, y16, y17, y18, y19, y20, y21, S', e, hv'⟩ := turnL (d0 := .flst (ns.map D.int)) (x2 := .fz d) (x3 := x3) (x4 := x4) (x5 := x5) (x6 := x6) (x7 := x7) (x8 := x8) (x9 := x9) (x10 := x10) (x11 := x11) (x12 := x12) (x13 := x13) (x14 := x14) (x15 := x15) (x16 := x16) (x17 := x17) (x18 := x18) (x19 := x19) (x20 := x20) (x21 := x21) hv
    exact ⟨_, _, rfl, .inl e, _, _, _, _, _, _, _, _, _, _, _, _, _, _, _, _, _, _, _, _, _, rfl, hv'⟩) (rngD 0 3) (lawP2 20 ns [.lst (ns.map D.int), .int 0, .int 0, .int (seedL ns 7)]) ⟨.un, .un, .un, .un, .un, .un, .un, .un, .un, .un, .un, .un, .un, .un, .un, .un, .un, .un, .un, .un, _, rfl, hvs⟩
  obtain ⟨p', e, x2, x3, x4, x5, x6, x7, x8, x9, x10, x11, x12, x13, x14, x15, x16, x17, x18, x19, x20, x21, S, rfl, _⟩ := hI
  have hb : bnd 3 = true := bnd_of (by decide) (by decide)
  refine ⟨⟨[.fz (.flst (ns.map D.int)), .fz (.ob 0), x2, x3, x4, x5, x6, x7, x8, x9, x10, x11, x12, x13, x14, x15, x16, x17, x18, x19, x20, x21], S⟩, ?_, ?_⟩
  · unfold b1_law
    have r1 : (eCall g__law_start (aCons (eVar 0) aNil)) (lawP 20 ns) = .ok (lawP 20 ns) (.fr, .lst [.lst (ns.map D.int), .int 0, .int 0, .int (seedL ns 7)]) := by
      simp only [denFn, startP, outF, frOf, sSeq, sIf, sSet, sRet, sRetN, sExpr, sNil, sBrk, sCnt, sAug, sPar, sTgt, sApp, sExt, sStIx, sFor, eVar, eCst, eOp2, eOp1, eOpN, eChain, eAnd2, eOr2, eNot1, eIfE, tOfV, tTru, tAnd2, tOr2, tNot1, tYs, aNil, aCons, bNil, bCons, eTup, eLst, eDct0, eSl, eMthS, eCall, gN, gT, gSeq, iVal, iRange1, iRange2, iEnumr, itemsD, opOut, kdOf, deref, derefs, PSt.put, PSt.frzK, PSt.frz, Out.bind, Option.bind, Option.map, add_int, sub_int, addI, ix_tupE, ix_lstE, isTx, isntD2, isD2, isNone, guard', stIx, held, isKey, List.map_cons, List.map_nil, List.length_cons, List.length_nil, List.replicate_succ, List.replicate_zero, List.cons_append, List.nil_append, List.append_nil, List.getElem?_cons_zero, List.getElem?_cons_succ, List.set_cons_zero, List.set_cons_succ, Nat.reduceAdd, Nat.reduceSub, Nat.reduceEqDiff, if_true, if_false, ite_true, ite_false, reduceIte, at0, at1, at2, at3, eq_int, ne_int, ge_int, le_int, lt_int, gt_int, len_lst, len_tup, len_dct, intD, absD, List.length_map, Bool.not_true, Bool.not_false, Bool.false_eq_true, start_is, hs, cellD]
      try rfl
    exact sSet_run r1
  · have hit : iRange1 (bCons (eCst (.int 3)) bNil) (lawP2 20 ns [.lst (ns.map D.int), .int 0, .int 0, .int (seedL ns 7)]) = .ok (lawP2 20 ns [.lst (ns.map D.int), .int 0, .int 0, .int (seedL ns 7)]) (rngD 0 3) := by
      simp only [denFn, startP, outF, frOf, sSeq, sIf, sSet, sRet, sRetN, sExpr, sNil, sBrk, sCnt, sAug, sPar, sTgt, sApp, sExt, sStIx, sFor, eVar, eCst, eOp2, eOp1, eOpN, eChain, eAnd2, eOr2, eNot1, eIfE, tOfV, tTru, tAnd2, tOr2, tNot1, tYs, aNil, aCons, bNil, bCons, eTup, eLst, eDct0, eSl, eMthS, eCall, gN, gT, gSeq, iVal, iRange1, iRange2, iEnumr, itemsD, opOut, kdOf, deref, derefs, PSt.put, PSt.frzK, PSt.frz, Out.bind, Option.bind, Option.map, add_int, sub_int, addI, ix_tupE, ix_lstE, isTx, isntD2, isD2, isNone, guard', stIx, held, isKey, List.map_cons, List.map_nil, List.length_cons, List.length_nil, List.replicate_succ, List.replicate_zero, List.cons_append, List.nil_append, List.append_nil, List.getElem?_cons_zero, List.getElem?_cons_succ, List.set_cons_zero, List.set_cons_succ, Nat.reduceAdd, Nat.reduceSub, Nat.reduceEqDiff, if_true, if_false, ite_true, ite_false, reduceIte, at0, at1, at2, at3, eq_int, ne_int, ge_int, le_int, lt_int, gt_int, len_lst, len_tup, len_dct, intD, absD, List.length_map, Bool.not_true, Bool.not_false, Bool.false_eq_true, hb]
      try rfl
    have e2 : b_law = sSeq (sFor (iRange1 (bCons (eCst (.int 3)) bNil)) (gN 2) bodyL) (sRet (eCst (.bl true))) := rfl
    rw [e2]
    refine (sSeq_for hit e).trans rfl
end K56
open PySem PySem.W PyProof.Rows
set_option maxHeartbeats 0 in
theorem PySem.Challenge.cw_sameunits_k56_whole_signs_that_guard_holds : PySem.Challenge.rw_sameunits_k56_whole_signs_that_guard.Holds := by
  w_on; o_law; k_head; (case hw => w_witness2)
  k_fill
  refine L2.walk_ofB (l := PySem.Challenge.rw_sameunits_k56_whole_signs_that_guard) (n := 63) (k := 11) (x := "script") (CX := fun w => L2.CX PySem.Challenge.rw_sameunits_k56_whole_signs_that_guard.prog w) (sp := fun w => PM.spL _ 63) rfl (by decide) rfl ⟨rfl, by decide, by decide⟩ (fun w h Y => PySem.W.kIn_of Y) ?F (fun _ H a ns hl hb hO hS => ⟨a, ns, rfl, hl, hb, hO, hS, fun _ => rfl⟩) (fun _ _ _ _ _ h => PM.cx_none h)
  case F =>
    intro w mg fa h KX G hmg
    have n_abs := PySem.W.mg_none_of (n := "abs") KX G (by k_is)
    have n_all := PySem.W.mg_none_of (n := "all") KX G (by k_is)
    have n_bool := PySem.W.mg_none_of (n := "bool") KX G (by k_is)
    have n_dict := PySem.W.mg_none_of (n := "dict") KX G (by k_is)
    have n_enumerate := PySem.W.mg_none_of (n := "enumerate") KX G (by k_is)
    have n_int := PySem.W.mg_none_of (n := "int") KX G (by k_is)
    have n_isinstance := PySem.W.mg_none_of (n := "isinstance") KX G (by k_is)
    have n_len := PySem.W.mg_none_of (n := "len") KX G (by k_is)
    have n_list := PySem.W.mg_none_of (n := "list") KX G (by k_is)
    have n_min := PySem.W.mg_none_of (n := "min") KX G (by k_is)
    have n_range := PySem.W.mg_none_of (n := "range") KX G (by k_is)
    have n_sorted := PySem.W.mg_none_of (n := "sorted") KX G (by k_is)
    have n_str := PySem.W.mg_none_of (n := "str") KX G (by k_is)
    have n_sum := PySem.W.mg_none_of (n := "sum") KX G (by k_is)
    have n_tuple := PySem.W.mg_none_of (n := "tuple") KX G (by k_is)
    have c_MAX_COLUMNS : PM.CstG mg "MAX_COLUMNS" (.int 12) := by
      refine' PM.mkInt KX G ?a; (case a => k_is)
    have c_MAX_TEXT : PM.CstG mg "MAX_TEXT" (.int 4000) := by
      refine' PM.mkInt KX G ?a; (case a => k_is)
    have c_MOST : PM.CstG mg "MOST" (.int 97) := by
      refine' PM.mkInt KX G ?a; (case a => k_is)
    have c_SIGNS : PM.CstG mg "SIGNS" (.str K56.c_SIGNS) := by
      refine' PM.mkStr KX G ?a ?e; (case a => k_is); (case e => decide +kernel)
    have d_is_integer : PM.DefX KX mg "is_integer" K56.st_is_integer K56.P_is_integer := by
      refine' PM.mkDef KX G ?a ?l ?c ?k (fun _ _ _ _ _ _ us hl => match us, hl with | [_], _ => rfl); (case a => k_is); (case l => k_is); (case c => k_is); (case k => k_is)
    have d_check_code : PM.DefX KX mg "check_code" K56.st_check_code K56.P_check_code := by
      refine' PM.mkDef KX G ?a ?l ?c ?k (fun _ _ _ _ _ _ us hl => match us, hl with | [_, _], _ => rfl); (case a => k_is); (case l => k_is); (case c => k_is); (case k => k_is)
    have d_is_text : PM.DefX KX mg "is_text" K56.st_is_text K56.P_is_text := by
      refine' PM.mkDef KX G ?a ?l ?c ?k (fun _ _ _ _ _ _ us hl => match us, hl with | [_, _], _ => rfl); (case a => k_is); (case l => k_is); (case c => k_is); (case k => k_is)
    have d_check_text : PM.DefX KX mg "check_text" K56.st_check_text K56.P_check_text := by
      refine' PM.mkDef KX G ?a ?l ?c ?k (fun _ _ _ _ _ _ us hl => match us, hl with | [_, _], _ => rfl); (case a => k_is); (case l => k_is); (case c => k_is); (case k => k_is)
    have d_sum_of : PM.DefX KX mg "sum_of" K56.st_sum_of K56.P_sum_of := by
      refine' PM.mkDef KX G ?a ?l ?c ?k (fun _ _ _ _ _ _ us hl => match us, hl with | [_, _, _], _ => rfl); (case a => k_is); (case l => k_is); (case c => k_is); (case k => k_is)
    have d_check_sum : PM.DefX KX mg "check_sum" K56.st_check_sum K56.P_check_sum := by
      refine' PM.mkDef KX G ?a ?l ?c ?k (fun _ _ _ _ _ _ us hl => match us, hl with | [_, _, _], _ => rfl); (case a => k_is); (case l => k_is); (case c => k_is); (case k => k_is)
    have d_is_guarded : PM.DefX KX mg "is_guarded" K56.st_is_guarded K56.P_is_guarded := by
      refine' PM.mkDef KX G ?a ?l ?c ?k (fun _ _ _ _ _ _ us hl => match us, hl with | [_, _, _], _ => rfl); (case a => k_is); (case l => k_is); (case c => k_is); (case k => k_is)
    have d_guards_of : PM.DefX KX mg "guards_of" K56.st_guards_of K56.P_guards_of := by
      refine' PM.mkDef KX G ?a ?l ?c ?k (fun _ _ _ _ _ _ us hl => match us, hl with | [_, _, _], _ => rfl); (case a => k_is); (case l => k_is); (case c => k_is); (case k => k_is)
    have d_divisor : PM.DefX KX mg "divisor" K56.st_divisor K56.P_divisor := by
      refine' PM.mkDef KX G ?a ?l ?c ?k (fun _ _ _ _ _ _ us hl => match us, hl with | [_, _], _ => rfl); (case a => k_is); (case l => k_is); (case c => k_is); (case k => k_is)
    have d_signs_of : PM.DefX KX mg "signs_of" K56.st_signs_of K56.P_signs_of := by
      refine' PM.mkDef KX G ?a ?l ?c ?k (fun _ _ _ _ _ _ us hl => match us, hl with | [_], _ => rfl); (case a => k_is); (case l => k_is); (case c => k_is); (case k => k_is)
    have d_judge_changes : PM.DefX KX mg "judge_changes" K56.st_judge_changes K56.P_judge_changes := by
      refine' PM.mkDef KX G ?a ?l ?c ?k (fun _ _ _ _ _ _ us hl => match us, hl with | [_, _], _ => rfl); (case a => k_is); (case l => k_is); (case c => k_is); (case k => k_is)
    have d_judge_turns : PM.DefX KX mg "judge_turns" K56.st_judge_turns K56.P_judge_turns := by
      refine' PM.mkDef KX G ?a ?l ?c ?k (fun _ _ _ _ _ _ us hl => match us, hl with | [_, _], _ => rfl); (case a => k_is); (case l => k_is); (case c => k_is); (case k => k_is)
    have d_accept_missed : PM.DefX KX mg "accept_missed" K56.st_accept_missed K56.P_accept_missed := by
      refine' PM.mkDef KX G ?a ?l ?c ?k (fun _ _ _ _ _ _ us hl => match us, hl with | [_, _, _, _], _ => rfl); (case a => k_is); (case l => k_is); (case c => k_is); (case k => k_is)
    have d_repairs : PM.DefX KX mg "repairs" K56.st_repairs K56.P_repairs := by
      refine' PM.mkDef KX G ?a ?l ?c ?k (fun _ _ _ _ _ _ us hl => match us, hl with | [_, _, _], _ => rfl); (case a => k_is); (case l => k_is); (case c => k_is); (case k => k_is)
    have d_turn_repairs : PM.DefX KX mg "turn_repairs" K56.st_turn_repairs K56.P_turn_repairs := by
      refine' PM.mkDef KX G ?a ?l ?c ?k (fun _ _ _ _ _ _ us hl => match us, hl with | [_, _, _], _ => rfl); (case a => k_is); (case l => k_is); (case c => k_is); (case k => k_is)
    have d_filled : PM.DefX KX mg "filled" K56.st_filled K56.P_filled := by
      refine' PM.mkDef KX G ?a ?l ?c ?k (fun _ _ _ _ _ _ us hl => match us, hl with | [_, _, _, _], _ => rfl); (case a => k_is); (case l => k_is); (case c => k_is); (case k => k_is)
    have d_turns_found : PM.DefX KX mg "turns_found" K56.st_turns_found K56.P_turns_found := by
      refine' PM.mkDef KX G ?a ?l ?c ?k (fun _ _ _ _ _ _ us hl => match us, hl with | [_, _, _], _ => rfl); (case a => k_is); (case l => k_is); (case c => k_is); (case k => k_is)
    have d_extended : PM.DefX KX mg "extended" K56.st_extended K56.P_extended := by
      refine' PM.mkDef KX G ?a ?l ?c ?k (fun _ _ _ _ _ _ us hl => match us, hl with | [_, _, _, _], _ => rfl); (case a => k_is); (case l => k_is); (case c => k_is); (case k => k_is)
    have d_good_weights : PM.DefX KX mg "good_weights" K56.st_good_weights K56.P_good_weights := by
      refine' PM.mkDef KX G ?a ?l ?c ?k (fun _ _ _ _ _ _ us hl => match us, hl with | [_, _], _ => rfl); (case a => k_is); (case l => k_is); (case c => k_is); (case k => k_is)
    have d_missed_share : PM.DefX KX mg "missed_share" K56.st_missed_share K56.P_missed_share := by
      refine' PM.mkDef KX G ?a ?l ?c ?k (fun _ _ _ _ _ _ us hl => match us, hl with | [_, _, _], _ => rfl); (case a => k_is); (case l => k_is); (case c => k_is); (case k => k_is)
    have d__law_start : PM.DefX KX mg "_law_start" K56.st__law_start K56.P__law_start := by
      refine' PM.mkDef KX G ?a ?l ?c ?k (fun _ _ _ _ _ _ us hl => match us, hl with | [_], _ => rfl); (case a => k_is); (case l => k_is); (case c => k_is); (case k => k_is)
    have d__law_draw : PM.DefX KX mg "_law_draw" K56.st__law_draw K56.P__law_draw := by
      refine' PM.mkDef KX G ?a ?l ?c ?k (fun _ _ _ _ _ _ us hl => match us, hl with | [_, _], _ => rfl); (case a => k_is); (case l => k_is); (case c => k_is); (case k => k_is)
    have d__law_signs : PM.DefX KX mg "_law_signs" K56.st__law_signs K56.P__law_signs := by
      refine' PM.mkDef KX G ?a ?l ?c ?k (fun _ _ _ _ _ _ us hl => match us, hl with | [_], _ => rfl); (case a => k_is); (case l => k_is); (case c => k_is); (case k => k_is)
    have d__law_sum : PM.DefX KX mg "_law_sum" K56.st__law_sum K56.P__law_sum := by
      refine' PM.mkDef KX G ?a ?l ?c ?k (fun _ _ _ _ _ _ us hl => match us, hl with | [_, _, _], _ => rfl); (case a => k_is); (case l => k_is); (case c => k_is); (case k => k_is)
    have d__law_guarded : PM.DefX KX mg "_law_guarded" K56.st__law_guarded K56.P__law_guarded := by
      refine' PM.mkDef KX G ?a ?l ?c ?k (fun _ _ _ _ _ _ us hl => match us, hl with | [_, _, _], _ => rfl); (case a => k_is); (case l => k_is); (case c => k_is); (case k => k_is)
    have d__law_changed : PM.DefX KX mg "_law_changed" K56.st__law_changed K56.P__law_changed := by
      refine' PM.mkDef KX G ?a ?l ?c ?k (fun _ _ _ _ _ _ us hl => match us, hl with | [_, _, _], _ => rfl); (case a => k_is); (case l => k_is); (case c => k_is); (case k => k_is)
    have d__law_alike : PM.DefX KX mg "_law_alike" K56.st__law_alike K56.P__law_alike := by
      refine' PM.mkDef KX G ?a ?l ?c ?k (fun _ _ _ _ _ _ us hl => match us, hl with | [_, _], _ => rfl); (case a => k_is); (case l => k_is); (case c => k_is); (case k => k_is)
    have d__law_judged : PM.DefX KX mg "_law_judged" K56.st__law_judged K56.P__law_judged := by
      refine' PM.mkDef KX G ?a ?l ?c ?k (fun _ _ _ _ _ _ us hl => match us, hl with | [_, _], _ => rfl); (case a => k_is); (case l => k_is); (case c => k_is); (case k => k_is)
    have d__law_gaps : PM.DefX KX mg "_law_gaps" K56.st__law_gaps K56.P__law_gaps := by
      refine' PM.mkDef KX G ?a ?l ?c ?k (fun _ _ _ _ _ _ us hl => match us, hl with | [_], _ => rfl); (case a => k_is); (case l => k_is); (case c => k_is); (case k => k_is)
    have d__law_good : PM.DefX KX mg "_law_good" K56.st__law_good K56.P__law_good := by
      refine' PM.mkDef KX G ?a ?l ?c ?k (fun _ _ _ _ _ _ us hl => match us, hl with | [_, _], _ => rfl); (case a => k_is); (case l => k_is); (case c => k_is); (case k => k_is)
    have L : PM.LawX KX mg "law" "script" K56.st_law := by
      refine' PM.mkLaw KX G ?a ?l ?c ?k (fun _ _ _ _ _ _ v => rfl); (case a => k_is); (case l => k_is); (case c => k_is); (case k => k_is)
    exact PM.law_end L hmg fun base f fd D => K56.all_law ⟨n_abs, n_all, n_bool, n_dict, n_enumerate, n_int, n_isinstance, n_len, n_list, n_min, n_range, n_sorted, n_str, n_sum, n_tuple, c_MAX_COLUMNS, c_MAX_TEXT, c_MOST, c_SIGNS, d_is_integer, d_check_code, d_is_text, d_check_text, d_sum_of, d_check_sum, d_is_guarded, d_guards_of, d_divisor, d_signs_of, d_judge_changes, d_judge_turns, d_accept_missed, d_repairs, d_turn_repairs, d_filled, d_turns_found, d_extended, d_good_weights, d_missed_share, d__law_start, d__law_draw, d__law_signs, d__law_sum, d__law_guarded, d__law_changed, d__law_alike, d__law_judged, d__law_gaps, d__law_good⟩ K56.lawM base f fd D
