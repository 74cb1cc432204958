import PyProof.Rows.All
import Wide.All
import OpenK.AllK
import Wide.FinOn
import HandS.ForMost
import HandS.Exc
import HandS.TryOnly
import HandS.ExcOwn
import HandS.ExcIs
import HandS.IsInst
import HandS.Flow
import HandS.Deep
import HandS.Zip
import HandS.Wide
import HandS.Defaults
import HandS.TupAny
import HandS.TupLe
import HandS.TupMul
import HandS.Conv
import HandS.WordsExc
import HandS.More
import HandS.Small
import HandS.Text
import HandS.Replace
import HandS.ReplaceLit
import HandS.Style
import KE.KStateDown
import Lean
import HandS.Head0
import HandS.Head1
import HandS.Head2
import HandS.HeadEnd
import HandS.HeadHook1
import HandS.HeadHook2
import PySem.Challenge.RW_shorestree_k60_whole_texts_that_are_no_p
set_option Elab.async false
set_option linter.all false
set_option maxRecDepth 100000
set_option maxHeartbeats 0
/-! The data layer, part 1: data as trees, slots that hold data or lists of their own, what an expression's reading means over them. -/
namespace DL
open PySem PySem.Spec PyProof.Rows L2

abbrev D := PyData
def kD : Key → D
  | .inl i => .int i
  | .inr s => .str s
def tD (ks : List Key) : D := .tuple (ks.map kD)
def sOk (s : Str) : Prop := PyData.strOk s = true ∧ s.length ≤ sizeLine

mutual
/-- the value v stands for the datum d in the heap S -/
def Den (K : PySem.W.Frag) (S : Hp) : D → V → Prop
  | .none, v => v = .non
  | .bool b, v => v = .bl b
  | .int i, v => v = .int i
  | .str s, v => v = .str s ∧ sOk s
  | .list ds, v => ∃ a vs, v = .ref a ∧ S a = some (.lst vs) ∧ ds.length ≤ sizeLine ∧ Dens K S ds vs
  | .tuple ds, v => ∃ a vs, v = .ref a ∧ S a = some (.tup vs) ∧ ds.length ≤ sizeLine ∧ Dens K S ds vs
  | .dict kvs, v => ∃ a, v = .ref a ∧ kvs.length ≤ sizeLine ∧ ((∃ ks, S a = some (.dK ks) ∧ DenK K S kvs ks) ∨ ∃ ks, S a = some (.dT ks) ∧ DenT K S kvs ks)
def Dens (K : PySem.W.Frag) (S : Hp) : List D → List V → Prop
  | [], vs => vs = []
  | d :: ds, vs => ∃ v r, vs = v :: r ∧ Den K S d v ∧ Dens K S ds r
def DenK (K : PySem.W.Frag) (S : Hp) : List (D × D) → List (Key × V) → Prop
  | [], ks => ks = []
  | (k, d) :: ds, ks => ∃ k' v r, ks = (k', v) :: r ∧ k = kD k' ∧ Den K S d v ∧ DenK K S ds r
def DenT (K : PySem.W.Frag) (S : Hp) : List (D × D) → List (List Key × V) → Prop
  | [], ks => ks = []
  | (k, d) :: ds, ks => ∃ k' v r, ks = (k', v) :: r ∧ k = tD k' ∧ Den K S d v ∧ DenT K S ds r
end

section
variable {K : PySem.W.Frag} {S S' H : Hp}
theorem same_rd {a : Addr} {u : HO} (h : Same S S') (r : Rd S a u) : Rd S' a u := r.elim (fun x => .inl (h _ _ x)) fun ⟨o, x⟩ => .inr ⟨o, h _ _ x⟩
theorem same_l {a : Addr} {vs : List V} (h : Same S S') (r : SqL K S a vs) : SqL K S' a vs := r.elim (fun x => .inl (same_rd h x)) .inr
theorem same_t {a : Addr} {vs : List V} (h : Same S S') (r : SqT K S a vs) : SqT K S' a vs := r.elim (fun x => .inl (same_rd h x)) .inr
mutual
theorem Den.mono (h : Same S S') : ∀ (d : D) (v : V), Den K S d v → Den K S' d v
  | .none, _, x => x
  | .bool _, _, x => x
  | .int _, _, x => x
  | .str _, _, x => x
  | .list ds, _, ⟨a, vs, e, q, z, r⟩ => ⟨a, vs, e, h _ _ q, z, Dens.mono h ds vs r⟩
  | .tuple ds, _, ⟨a, vs, e, q, z, r⟩ => ⟨a, vs, e, h _ _ q, z, Dens.mono h ds vs r⟩
  | .dict kvs, _, ⟨a, e, z, .inl ⟨ks, q, r⟩⟩ => ⟨a, e, z, .inl ⟨ks, h _ _ q, DenK.mono h kvs ks r⟩⟩
  | .dict kvs, _, ⟨a, e, z, .inr ⟨ks, q, r⟩⟩ => ⟨a, e, z, .inr ⟨ks, h _ _ q, DenT.mono h kvs ks r⟩⟩
theorem Dens.mono (h : Same S S') : ∀ (ds : List D) (vs : List V), Dens K S ds vs → Dens K S' ds vs
  | [], _, x => x
  | d :: ds, _, ⟨v, r, e, x, y⟩ => ⟨v, r, e, Den.mono h d v x, Dens.mono h ds r y⟩
theorem DenK.mono (h : Same S S') : ∀ (ds : List (D × D)) (vs : List (Key × V)), DenK K S ds vs → DenK K S' ds vs
  | [], _, x => x
  | (_, d) :: ds, _, ⟨k, v, r, e, q, x, y⟩ => ⟨k, v, r, e, q, Den.mono h d v x, DenK.mono h ds r y⟩
theorem DenT.mono (h : Same S S') : ∀ (ds : List (D × D)) (vs : List (List Key × V)), DenT K S ds vs → DenT K S' ds vs
  | [], _, x => x
  | (_, d) :: ds, _, ⟨k, v, r, e, q, x, y⟩ => ⟨k, v, r, e, q, Den.mono h d v x, DenT.mono h ds r y⟩
end
theorem Dens.len : ∀ {ds : List D} {vs : List V}, Dens K S ds vs → ds.length = vs.length
  | [], _, x => by cases x; rfl
  | _ :: _, _, ⟨_, _, e, _, y⟩ => by subst e; rw [List.length_cons, List.length_cons, Dens.len y]
theorem Dens.get : ∀ {ds : List D} {vs : List V} {i : Nat} {d : D}, Dens K S ds vs → ds[i]? = some d → ∃ v, vs[i]? = some v ∧ Den K S d v
  | [], _, _, _, _, h => by simp at h
  | d :: ds, _, 0, d', ⟨v, r, e, x, y⟩, h => by
    subst e
    have : d = d' := by simpa using h
    subst this
    exact ⟨v, rfl, x⟩
  | d :: ds, _, i + 1, d', ⟨v, r, e, x, y⟩, h => by
    subst e
    obtain ⟨w, h1, h2⟩ := Dens.get (i := i) y (by simpa using h)
    exact ⟨w, by simpa using h1, h2⟩
theorem Dens.get' : ∀ {ds : List D} {vs : List V} {i : Nat} {v : V}, Dens K S ds vs → vs[i]? = some v → ∃ d, ds[i]? = some d ∧ Den K S d v := fun {ds vs i v} h e => by
  have hl := h.len
  have hi : i < vs.length := (List.getElem?_eq_some_iff.mp e).1
  have hi' : i < ds.length := by omega
  obtain ⟨w, h1, h2⟩ := h.get (List.getElem?_eq_getElem hi')
  rw [e] at h1
  cases h1
  exact ⟨_, List.getElem?_eq_getElem hi', h2⟩
theorem Dens.append : ∀ {ds : List D} {vs : List V} {es : List D} {us : List V}, Dens K S ds vs → Dens K S es us → Dens K S (ds ++ es) (vs ++ us)
  | [], _, _, _, x, y => by cases x; exact y
  | _ :: _, _, _, _, ⟨v, r, e, a, b⟩, y => by subst e; exact ⟨v, _, rfl, a, Dens.append b y⟩
theorem Dens.one {d : D} {v : V} (h : Den K S d v) : Dens K S [d] [v] := ⟨v, [], rfl, h, rfl⟩
theorem Dens.cons {d : D} {v : V} {ds : List D} {vs : List V} (h : Den K S d v) (r : Dens K S ds vs) : Dens K S (d :: ds) (v :: vs) := ⟨v, vs, rfl, h, r⟩
theorem Dens.take : ∀ {ds : List D} {vs : List V} (n : Nat), Dens K S ds vs → Dens K S (ds.take n) (vs.take n)
  | _, _, 0, _ => rfl
  | [], _, n + 1, x => by cases x; rfl
  | _ :: _, _, n + 1, ⟨v, r, e, a, b⟩ => by subst e; exact ⟨v, _, rfl, a, Dens.take n b⟩
theorem Dens.drop : ∀ {ds : List D} {vs : List V} (n : Nat), Dens K S ds vs → Dens K S (ds.drop n) (vs.drop n)
  | _, _, 0, x => x
  | [], _, n + 1, x => by cases x; rfl
  | _ :: _, _, n + 1, ⟨v, r, e, a, b⟩ => by subst e; exact Dens.drop n b
theorem Dens.set : ∀ {ds : List D} {vs : List V} (n : Nat) {d : D} {v : V}, Dens K S ds vs → Den K S d v → Dens K S (ds.set n d) (vs.set n v)
  | [], _, _, _, _, x, _ => by cases x; rfl
  | _ :: _, _, 0, _, _, ⟨v, r, e, a, b⟩, y => by subst e; exact ⟨_, _, rfl, y, b⟩
  | _ :: _, _, n + 1, _, _, ⟨v, r, e, a, b⟩, y => by subst e; exact ⟨_, _, rfl, a, Dens.set n b y⟩
theorem Dens.reverse : ∀ {ds : List D} {vs : List V}, Dens K S ds vs → Dens K S ds.reverse vs.reverse
  | [], _, x => by cases x; rfl
  | _ :: _, _, ⟨v, r, e, a, b⟩ => by subst e; rw [List.reverse_cons, List.reverse_cons]; exact Dens.append (Dens.reverse b) (Dens.one a)
theorem Dens.ints : ∀ (ns : List Int), Dens K S (ns.map PyData.int) (ns.map V.int)
  | [] => rfl
  | n :: ns => ⟨_, _, rfl, rfl, Dens.ints ns⟩
end

/-! ### what a slot holds -/
inductive SV where
  /-- a datum -/
  | d (x : D)
  /-- a list of the def's own (or of a caller's, at a borrowed slot), that it may change -/
  | l (xs : List D)
  /-- a list of lists of the def's own -/
  | ll (xss : List (List D))
  /-- a dict of the def's own -/
  | k (kvs : List (Key × D)) | t (kvs : List (List Key × D))
  /-- an error that an except suite holds -/
  | e (x : String) (a : Addr)
  /-- the script -/
  | s (ns : List Int)
abbrev Rho := List (Option SV)

def DKs (K : PySem.W.Frag) (S : Hp) {κ : Type} : List (κ × D) → List (κ × V) → Prop
  | [], ks => ks = []
  | (k, d) :: ds, ks => ∃ v r, ks = (k, v) :: r ∧ Den K S d v ∧ DKs K S ds r
def DLs (K : PySem.W.Frag) (S H : Hp) : List (List D) → List Addr → Prop
  | [], qs => qs = []
  | xs :: xss, qs => ∃ q r vs, qs = q :: r ∧ H q = some (.lst vs) ∧ xs.length ≤ sizeLine ∧ Dens K S xs vs ∧ DLs K S H xss r
/-- the value v is what the slot holds; os: the addresses that are the slot's own; S: what does not change; H: the heap -/
def SvOk (K : PySem.W.Frag) (S H : Hp) (os : List Addr) : SV → V → Prop
  | .d x, v => os = [] ∧ Den K S x v
  | .l xs, v => ∃ p vs, os = [p] ∧ v = .ref p ∧ H p = some (.lst vs) ∧ xs.length ≤ sizeLine ∧ Dens K S xs vs
  | .ll xss, v => ∃ p qs, os = p :: qs ∧ v = .ref p ∧ H p = some (.lst (qs.map .ref)) ∧ xss.length ≤ sizeLine ∧ (p :: qs).Nodup ∧ DLs K S H xss qs
  | .k kvs, v => ∃ p vs, os = [p] ∧ v = .ref p ∧ H p = some (.dK vs) ∧ kvs.length ≤ sizeLine ∧ DKs K S kvs vs
  | .t kvs, v => ∃ p vs, os = [p] ∧ v = .ref p ∧ H p = some (.dT vs) ∧ kvs.length ≤ sizeLine ∧ DKs K S kvs vs
  | .e _ a, v => os = [] ∧ v = .ref a
  | .s ns, v => os = [] ∧ ∃ a, v = .ref a ∧ ns.length ≤ sizeLine ∧ SqL K S a (ns.map V.int)

section
variable {K : PySem.W.Frag} {S S' H H' : Hp} {os : List Addr}
theorem DKs.mono {κ : Type} (h : Same S S') : ∀ {ds : List (κ × D)} {vs : List (κ × V)}, DKs K S ds vs → DKs K S' ds vs
  | [], _, x => x
  | (_, d) :: ds, _, ⟨v, r, e, x, y⟩ => ⟨v, r, e, Den.mono h d v x, DKs.mono h y⟩
theorem DKs.len {κ : Type} : ∀ {ds : List (κ × D)} {vs : List (κ × V)}, DKs K S ds vs → ds.length = vs.length
  | [], _, x => by cases x; rfl
  | (_, d) :: ds, _, ⟨v, r, e, x, y⟩ => by subst e; rw [List.length_cons, List.length_cons, DKs.len y]
theorem DLs.mono (h : Same S S') : ∀ {xss : List (List D)} {qs : List Addr}, (∀ p ∈ qs, ∀ o, H p = some o → H' p = some o) → DLs K S H xss qs → DLs K S' H' xss qs
  | [], _, _, x => x
  | xs :: xss, _, k, ⟨q, r, vs, e, x, z, y, w⟩ => by subst e; exact ⟨q, r, vs, rfl, k q List.mem_cons_self _ x, z, Dens.mono h xs vs y, DLs.mono h (fun p hp => k p (List.mem_cons_of_mem _ hp)) w⟩
theorem SvOk.mono (h : Same S S') (k : ∀ p ∈ os, ∀ o, H p = some o → H' p = some o) : ∀ {x : SV} {v : V}, SvOk K S H os x v → SvOk K S' H' os x v
  | .d x, v, ⟨e, q⟩ => ⟨e, Den.mono h x v q⟩
  | .l xs, v, ⟨p, vs, e, ev, q, z, r⟩ => ⟨p, vs, e, ev, k p (by rw [e]; exact List.mem_cons_self) _ q, z, Dens.mono h xs vs r⟩
  | .ll xss, v, ⟨p, qs, e, ev, q, z, nd, r⟩ => ⟨p, qs, e, ev, k p (by rw [e]; exact List.mem_cons_self) _ q, z, nd, DLs.mono h (fun c hc => k c (by rw [e]; exact List.mem_cons_of_mem _ hc)) r⟩
  | .k kvs, v, ⟨p, vs, e, ev, q, z, r⟩ => ⟨p, vs, e, ev, k p (by rw [e]; exact List.mem_cons_self) _ q, z, DKs.mono h r⟩
  | .t kvs, v, ⟨p, vs, e, ev, q, z, r⟩ => ⟨p, vs, e, ev, k p (by rw [e]; exact List.mem_cons_self) _ q, z, DKs.mono h r⟩
  | .e x a, v, q => q
  | .s ns, v, ⟨e, a, q, z, r⟩ => ⟨e, a, q, z, same_l h r⟩
theorem DLs.al : ∀ {xss : List (List D)} {qs : List Addr}, DLs K S H xss qs → ∀ q ∈ qs, H q ≠ none
  | [], _, x => by cases x; intro q hq; cases hq
  | xs :: xss, _, ⟨q, r, vs, e, x, z, y, w⟩ => by
    subst e
    intro c hc
    rcases List.mem_cons.mp hc with e | hc
    · rw [e, x]; exact fun z => nomatch z
    · exact DLs.al w c hc
theorem SvOk.al : ∀ {x : SV} {v : V}, SvOk K S H os x v → ∀ p ∈ os, H p ≠ none
  | .d x, v, ⟨e, q⟩ => by subst e; intro p hp; cases hp
  | .l xs, v, ⟨p, vs, e, ev, q, z, r⟩ => by subst e; intro c hc; rw [List.mem_singleton.mp hc, q]; exact fun z => nomatch z
  | .ll xss, v, ⟨p, qs, e, ev, q, z, nd, r⟩ => by
    subst e
    intro c hc
    rcases List.mem_cons.mp hc with e | hc
    · rw [e, q]; exact fun z => nomatch z
    · exact r.al c hc
  | .k kvs, v, ⟨p, vs, e, ev, q, z, r⟩ => by subst e; intro c hc; rw [List.mem_singleton.mp hc, q]; exact fun z => nomatch z
  | .t kvs, v, ⟨p, vs, e, ev, q, z, r⟩ => by subst e; intro c hc; rw [List.mem_singleton.mp hc, q]; exact fun z => nomatch z
  | .e x a, v, ⟨e, q⟩ => by subst e; intro p hp; cases hp
  | .s ns, v, ⟨e, q⟩ => by subst e; intro p hp; cases hp
end

/-- the slots σ in the heap H stand for ρ; S: the part that does not change; ow: each slot's own addresses -/
structure Rep (K : PySem.W.Frag) (S : Hp) (ow : Nat → List Addr) (σ : L2.St) (H : Hp) (ρ : Rho) : Prop where
  sub : Same S H
  dis : ∀ i p, p ∈ ow i → S p = none
  inj : ∀ i j p, p ∈ ow i → p ∈ ow j → i = j
  al : ∀ i p, p ∈ ow i → H p ≠ none
  len : ρ.length = σ.length
  sl : ∀ i x, ρ[i]? = some (some x) → ∃ v, σ[i]? = some (some v) ∧ SvOk K S H (ow i) x v
  no : ∀ i, (∀ x, ρ[i]? ≠ some (some x)) → ow i = []

/-- all but the owned stands -/
def Fr (ow : Nat → List Addr) (H H' : Hp) : Prop := ∀ b o, H b = some o → (∀ i, b ∉ ow i) → H' b = some o
/-- objects have come, none has changed; those of S' are old ones of S, or new -/
structure Grow (S H S' H' : Hp) : Prop where
  ss : Same S S'
  hh : Same H H'
  sub : Same S' H'
  new : ∀ p, S' p ≠ none → S p = none → H p = none
theorem Grow.refl {S H : Hp} (h : Same S H) : Grow S H S H := ⟨Same.refl S, Same.refl H, h, fun _ a b => absurd b a⟩
theorem Grow.trans {S H S1 H1 S2 H2 : Hp} (a : Grow S H S1 H1) (b : Grow S1 H1 S2 H2) : Grow S H S2 H2 :=
  ⟨a.ss.trans b.ss, a.hh.trans b.hh, b.sub, fun p h1 h2 => by
    cases e : S1 p with
    | some o => exact a.new p (by rw [e]; exact fun z => nomatch z) h2
    | none => exact a.hh.free (b.new p h1 e)⟩
/-- a new object that is data from now on -/
theorem Grow.add {S H : Hp} {p : Addr} {o : HO} (h : Same S H) (n : H p = none) : Grow S H (upd S p o) (upd H p o) := by
  have ns : S p = none := h.free n
  refine ⟨fun b u e => by rw [upd_ne (ne_of_none e ns)]; exact e, fun b u e => by rw [upd_ne (ne_of_none e n)]; exact e, fun b u e => ?_, fun b h1 h2 => ?_⟩
  · by_cases hb : b = p
    · subst hb; rw [upd_same] at e ⊢; exact e
    · rw [upd_ne hb] at e ⊢; exact h b u e
  · by_cases hb : b = p
    · subst hb; exact n
    · rw [upd_ne hb] at h1; exact absurd h2 h1
/-- a new object that stays outside -/
theorem Grow.aside {S H : Hp} {p : Addr} {o : HO} (h : Same S H) (n : H p = none) : Grow S H S (upd H p o) :=
  ⟨Same.refl S, fun b u e => by rw [upd_ne (ne_of_none e n)]; exact e, fun b u e => by rw [upd_ne (ne_of_none (h b u e) n)]; exact h b u e, fun _ a b => absurd b a⟩

section
variable {K : PySem.W.Frag} {S S' H H' : Hp} {ow : Nat → List Addr} {σ : L2.St} {ρ : Rho}
theorem Rep.grow (r : Rep K S ow σ H ρ) (g : Grow S H S' H') : Rep K S' ow σ H' ρ where
  sub := g.sub
  dis := fun i p hp => by
    cases e : S' p with
    | none => rfl
    | some o => exact absurd (g.new p (by rw [e]; exact fun z => nomatch z) (r.dis i p hp)) (r.al i p hp)
  inj := r.inj
  al := fun i p hp => by
    cases e : H p with
    | none => exact absurd e (r.al i p hp)
    | some o => rw [g.hh p o e]; exact fun z => nomatch z
  len := r.len
  sl := fun i x e => by
    obtain ⟨v, h1, h2⟩ := r.sl i x e
    exact ⟨v, h1, h2.mono g.ss fun p _ o q => g.hh p o q⟩
  no := r.no
theorem Fr.of_same (h : Same H H') : Fr ow H H' := fun b o e _ => h b o e
theorem Fr.trans {H1 H2 : Hp} (a : Fr ow H H1) (b : Fr ow H1 H2) : Fr ow H H2 := fun c o e n => b c o (a c o e n) n
end

/-- a step of an expression -/
structure Stp (ow : Nat → List Addr) (S H S' H' : Hp) : Prop where
  ss : Same S S'
  fr : Fr ow H H'
  dom : ∀ p, H p ≠ none → H' p ≠ none
  new : ∀ p, S' p ≠ none → S p = none → H p = none
theorem Stp.trans {ow : Nat → List Addr} {S H S1 H1 S2 H2 : Hp} (a : Stp ow S H S1 H1) (b : Stp ow S1 H1 S2 H2) : Stp ow S H S2 H2 where
  ss := a.ss.trans b.ss
  fr := a.fr.trans b.fr
  dom := fun p h => b.dom p (a.dom p h)
  new := fun p h1 h2 => by
    cases e : S1 p with
    | some o => exact a.new p (by rw [e]; exact fun z => nomatch z) h2
    | none =>
      have h3 := b.new p h1 e
      cases e2 : H p with
      | none => rfl
      | some o => exact absurd h3 (a.dom p (by rw [e2]; exact fun z => nomatch z))
theorem Grow.stp {ow : Nat → List Addr} {S H S' H' : Hp} (g : Grow S H S' H') : Stp ow S H S' H' :=
  ⟨g.ss, .of_same g.hh, (fun p h => by
    cases e : H p with
    | none => exact absurd e h
    | some o => rw [g.hh p o e]; exact fun z => nomatch z), g.new⟩

/-! ### outcomes -/
inductive Res (α : Type) where
  | ok (a : α) (ρ : Rho)
  | err (x : String) (ρ : Rho)
  | stuck
abbrev M (α : Type) := Rho → Res α
def Res.bind {α β : Type} (r : Res α) (f : α → M β) : Res β := match r with
  | .ok a ρ => f a ρ
  | .err x ρ => .err x ρ
  | .stuck => .stuck
@[simp] theorem Res.bind_ok {α β : Type} (a : α) (ρ : Rho) (f : α → M β) : (Res.ok a ρ).bind f = f a ρ := rfl
@[simp] theorem Res.bind_err {α β : Type} (x : String) (ρ : Rho) (f : α → M β) : (Res.err x ρ : Res α).bind f = .err x ρ := rfl
@[simp] theorem Res.bind_stuck {α β : Type} (f : α → M β) : (Res.stuck : Res α).bind f = .stuck := rfl

/-- what is known of the context -/
structure Ctx where
  P : Program
  w : World
  K : PySem.W.Frag
  mg : Str → Option Value
  base : Heap
  N : List Str
  sc : Scope
  fn : Str → Bool
  calm : Bool
  k : Nat
  /-- slots that hold a caller's things -/
  bor : List Nat
  W : WX
structure Ctx.At (Γ : Ctx) (X : Cx) : Prop where
  P : X.prog = Γ.P
  w : X.w = Γ.w
  K : X.K = Γ.K
  mg : X.mg = Γ.mg
  base : X.base = Γ.base
  N : X.N = Γ.N
  sc : X.env.scope = Γ.sc
  fn : X.fn = Γ.fn
  calm : X.calm = Γ.calm
  room : Γ.calm = true → Room Γ.k X.A
  un : X.A.units + 65 < cLine
  tk : Takes X Γ.W

/-- a name of the module or of the built-ins -/
def Ctx.G (Γ : Ctx) (x : Str) : Prop := Γ.sc.names.lookup x = some .globalImplicit
/-- an error's class -/
def Ctx.C (Γ : Ctx) (x : String) (C : Addr) : Prop := Γ.mg (Str.ofString x) = some (.ref C)

/-- what must hold behind, for a reading that starts at (S, H, ρ) with the outcome r -/
def Post (Γ : Ctx) (ow : Nat → List Addr) (σ : L2.St) (S H : Hp) {α : Type} (r : Res α) (Q : α → Hp → Hp → Rho → Prop) : Prop :=
  match r with
  | .ok d ρ' => ∀ S' H', Stp ow S H S' H' → Rep Γ.K S' ow σ H' ρ' → Q d S' H' ρ'
  | .err x ρ' => ∀ S' H' C, Stp ow S H S' H' → Rep Γ.K S' ow σ H' ρ' → Γ.C x C → Γ.W (.ref C) none σ H'
  | .stuck => False

def Sim (Γ : Ctx) (te : TE) (f : M D) : Prop := ∀ S ow σ H ρ (Q : VK), Rep Γ.K S ow σ H ρ →
  Post Γ ow σ S H (f ρ) (fun d S' H' _ => ∀ v, Den Γ.K S' d v → Q v H') → te σ H Q
def SimT (Γ : Ctx) (tt : TT) (f : M Bool) : Prop := ∀ S ow σ H ρ (Q : Bool → Hp → Prop), Rep Γ.K S ow σ H ρ →
  Post Γ ow σ S H (f ρ) (fun b _ H' _ => Q b H') → tt σ H Q
def SimA (Γ : Ctx) (ta : TA) (f : M (List D)) : Prop := ∀ S ow σ H ρ (Q : List V → Hp → Prop), Rep Γ.K S ow σ H ρ →
  Post Γ ow σ S H (f ρ) (fun ds S' H' _ => ∀ vs, Dens Γ.K S' ds vs → Q vs H') → ta σ H Q
/-- a new object of the def's own -/
def New (S H0 H' : Hp) (os : List Addr) : Prop := ∀ p ∈ os, S p = none ∧ H0 p = none
def SimO (Γ : Ctx) (te : TE) (f : M SV) : Prop := ∀ S ow σ H ρ (Q : VK), Rep Γ.K S ow σ H ρ →
  Post Γ ow σ S H (f ρ) (fun x S' H' _ => ∀ v os, SvOk Γ.K S' H' os x v → (∀ p ∈ os, S' p = none ∧ H p = none ∧ ∀ i, p ∉ ow i) → Q v H') → te σ H Q

structure JE (Γ : Ctx) (e : Expr) (f : M D) : Prop where
  ex : ∃ te, (∀ X, Γ.At X → PE X e te) ∧ Sim Γ te f
structure JT (Γ : Ctx) (e : Expr) (f : M Bool) : Prop where
  ex : ∃ te, (∀ X, Γ.At X → PT X e te) ∧ SimT Γ te f
structure JA (Γ : Ctx) (es : List Expr) (f : M (List D)) : Prop where
  ex : ∃ te, (∀ X, Γ.At X → PA X es te) ∧ SimA Γ te f
  len : ∀ ρ ds ρ', f ρ = .ok ds ρ' → ds.length = es.length
structure JO (Γ : Ctx) (e : Expr) (f : M SV) : Prop where
  ex : ∃ te, (∀ X, Γ.At X → PE X e te) ∧ SimO Γ te f

section
variable {Γ : Ctx} {ow : Nat → List Addr} {σ : L2.St} {S S' H H' : Hp} {ρ ρ' : Rho} {α β : Type}
/-- the outcome of two steps -/
theorem Post.bind {r : Res α} {f : α → M β} {Q : β → Hp → Hp → Rho → Prop} (h : Post Γ ow σ S H (r.bind f) Q) :
    Post Γ ow σ S H r (fun a S1 H1 ρ1 => Post Γ ow σ S1 H1 (f a ρ1) Q) := by
  cases r with
  | stuck => exact h
  | err x ρ => exact h
  | ok a ρ =>
    intro S1 H1 st rep
    have h' : Post Γ ow σ S H (f a ρ) Q := h
    show Post Γ ow σ S1 H1 (f a ρ) Q
    cases e : f a ρ with
    | stuck => rw [e] at h'; exact h'
    | err x ρ2 =>
      rw [e] at h'
      exact fun S2 H2 C s2 r2 c => h' S2 H2 C (st.trans s2) r2 c
    | ok b ρ2 =>
      rw [e] at h'
      exact fun S2 H2 s2 r2 => h' S2 H2 (st.trans s2) r2
theorem Post.imp' {r : Res α} {Q Q' : α → Hp → Hp → Rho → Prop} (h : Post Γ ow σ S H r Q) (k : ∀ a S' H' ρ', Stp ow S H S' H' → Rep Γ.K S' ow σ H' ρ' → Q a S' H' ρ' → Q' a S' H' ρ') : Post Γ ow σ S H r Q' := by
  cases r with
  | stuck => exact h
  | err x ρ => exact h
  | ok a ρ => exact fun S1 H1 st rep => k _ _ _ _ st rep (h S1 H1 st rep)
theorem Post.imp {r : Res α} {Q Q' : α → Hp → Hp → Rho → Prop} (h : Post Γ ow σ S H r Q) (k : ∀ a S' H' ρ', Same S S' → Fr ow H H' → Rep Γ.K S' ow σ H' ρ' → Q a S' H' ρ' → Q' a S' H' ρ') : Post Γ ow σ S H r Q' := h.imp' fun a S' H' ρ' st r q => k a S' H' ρ' st.ss st.fr r q
/-- an outcome that is reached by growth alone -/
theorem Post.here {a : α} {Q : α → Hp → Hp → Rho → Prop} (h : Post Γ ow σ S H (.ok a ρ) Q) (r : Rep Γ.K S ow σ H ρ) (g : Grow S H S' H') : Q a S' H' ρ :=
  h S' H' g.stp (r.grow g)
end

/-! ### names and constants -/
def eVar (i : Nat) : M D := fun ρ => match ρ[i]? with
  | some (some (.d x)) => .ok x ρ
  | _ => .stuck
def eC (d : D) : M D := fun ρ => .ok d ρ
section
variable {Γ : Ctx} {pos : Pos}
theorem sim_var {i : Nat} : Sim Γ (tVar i) (eVar i) := by
  intro S ow σ H ρ Q r h
  unfold eVar at h
  split at h
  · rename_i x e
    obtain ⟨v, h1, h2⟩ := r.sl i _ e
    exact ⟨v, h1, h.here r (.refl r.sub) v h2.2⟩
  · exact h.elim
theorem je_var {x : Str} (i : Nat) (hN : Γ.N[i]? = some x := by rfl) (hv : Vis Γ.sc x := by first | exact Or.inl rfl | exact Or.inr (Or.inl rfl) | exact Or.inr (Or.inr rfl)) (hd : (x == ("__debug__" : Str)) = false := by decide)
    (hcd : (x == ("__classdict__" : Str)) = false := by decide) : JE Γ (.Name x pos) (eVar i) :=
  ⟨_, fun X hX => pe_var (by rw [hX.N]; exact hN) (by rw [hX.sc]; exact hv) hd hcd, sim_var⟩
theorem sim_c {d : D} {v : V} (h : ∀ S, Den Γ.K S d v) : Sim Γ (tC v) (eC d) := fun S ow σ H ρ Q r q => q.here r (.refl r.sub) v (h S)
theorem je_int {i : Int} {j pos} : JE Γ (.Constant (.int i) j pos) (eC (.int i)) := ⟨_, fun _ _ => pe_int, sim_c fun _ => rfl⟩
theorem je_bl {b : Bool} {j pos} : JE Γ (.Constant (.bool b) j pos) (eC (.bool b)) := ⟨_, fun _ _ => pe_bl, sim_c fun _ => rfl⟩
theorem je_non {j pos} : JE Γ (.Constant .none j pos) (eC .none) := ⟨_, fun _ _ => pe_non, sim_c fun _ => rfl⟩
theorem je_str {s : Str} {j pos} (h : PyData.strOk s = true := by decide +kernel) (z : s.length ≤ sizeLine := by decide +kernel) : JE Γ (.Constant (.str s) j pos) (eC (.str s)) := ⟨_, fun _ _ => pe_str, sim_c fun _ => ⟨rfl, h, z⟩⟩
end
end DL

/-! The data layer, part 2: operators, comparisons, tests. -/
namespace DL
open PySem PySem.Spec PyProof.Rows L2

def ofOpt {α : Type} (o : Option α) : M α := fun ρ => match o with
  | some a => .ok a ρ
  | none => .stuck
@[simp] theorem ofOpt_some {α : Type} (a : α) (ρ : Rho) : ofOpt (some a) ρ = .ok a ρ := rfl
@[simp] theorem ofOpt_none {α : Type} (ρ : Rho) : (ofOpt none : M α) ρ = .stuck := rfl

/-- a value that is made without a write -/
def PostV (Γ : Ctx) (S H : Hp) (o : Option D) (Q : VK) : Prop := match o with
  | some d => ∀ S' H' v, Grow S H S' H' → Den Γ.K S' d v → Q v H'
  | none => False
theorem PostV.of {Γ : Ctx} {ow σ S H ρ} {o : Option D} {Q : VK} (h : Post Γ ow σ S H (ofOpt o ρ) (fun d S' H' _ => ∀ v, Den Γ.K S' d v → Q v H')) (r : Rep Γ.K S ow σ H ρ) : PostV Γ S H o Q := by
  cases o with
  | none => exact h
  | some d => exact fun S' H' v g dn => h.here r g v dn
theorem PostV.now {Γ : Ctx} {S H : Hp} {d : D} {Q : VK} (h : PostV Γ S H (some d) Q) (s : Same S H) {v : V} (dn : Den Γ.K S d v) : Q v H := h S H v (.refl s) dn
/-- a new tuple, list -/
theorem PostV.tup {Γ : Ctx} {S H : Hp} {ds : List D} {Q : VK} (h : PostV Γ S H (some (.tuple ds)) Q) (s : Same S H) {vs : List V} (dn : Dens Γ.K S ds vs) (z : ds.length ≤ sizeLine) {p : Addr} (n : H p = none) : Q (.ref p) (upd H p (.tup vs)) := by
  have g := Grow.add (o := .tup vs) s n
  exact h _ _ _ g ⟨p, vs, rfl, upd_same, z, Dens.mono g.ss _ _ dn⟩
theorem PostV.lst {Γ : Ctx} {S H : Hp} {ds : List D} {Q : VK} (h : PostV Γ S H (some (.list ds)) Q) (s : Same S H) {vs : List V} (dn : Dens Γ.K S ds vs) (z : ds.length ≤ sizeLine) {p : Addr} (n : H p = none) : Q (.ref p) (upd H p (.lst vs)) := by
  have g := Grow.add (o := .lst vs) s n
  exact h _ _ _ g ⟨p, vs, rfl, upd_same, z, Dens.mono g.ss _ _ dn⟩

def R2Ok (Γ : Ctx) (r : R2) (g : D → D → Option D) : Prop := ∀ (S H : Hp) (a b : D) (x y : V) (Q : VK), Same S H → Den Γ.K S a x → Den Γ.K S b y → PostV Γ S H (g a b) Q → r x y H Q
def eOp (g : D → D → Option D) (fa fb : M D) : M D := fun ρ => (fa ρ).bind fun a ρ1 => (fb ρ1).bind fun b ρ2 => ofOpt (g a b) ρ2
section
variable {Γ : Ctx}
theorem sim_op {r : R2} {g : D → D → Option D} {ta tb : TE} {fa fb : M D} (hr : R2Ok Γ r g) (ha : Sim Γ ta fa) (hb : Sim Γ tb fb) : Sim Γ (tOp r ta tb) (eOp g fa fb) := fun S ow σ H ρ Q rep h =>
  ha S ow σ H ρ _ rep (h.bind.imp fun a S1 H1 ρ1 s1 f1 r1 h1 v dv => hb S1 ow σ H1 ρ1 _ r1 (h1.bind.imp fun b S2 H2 ρ2 s2 f2 r2 h2 u du => hr S2 H2 a b v u Q r2.sub (Den.mono s2 _ _ dv) du (.of h2 r2)))
theorem je_bin {op : Operator} {pos : Pos} {r : R2} {g : D → D → Option D} {a b : Expr} {fa fb : M D} (ho : ∀ X, Γ.At X → OpR X (binaryOp op) r) (hr : R2Ok Γ r g) (ha : JE Γ a fa) (hb : JE Γ b fb) : JE Γ (.BinOp a op b pos) (eOp g fa fb) := by
  obtain ⟨ta, pa, sa⟩ := ha
  obtain ⟨tb, pb, sb⟩ := hb
  exact ⟨_, fun X hX => pe_op (ho X hX) (pa X hX) (pb X hX), sim_op hr sa sb⟩
end
def tOfE (f : M D) : M Bool := fun ρ => (f ρ).bind fun d ρ1 => ofOpt (match d with | .bool b => some b | _ => none) ρ1
section
variable {Γ : Ctx} {a b : Expr} {fa fb : M D}
theorem sim_tofe {te : TE} (sa : Sim Γ te fa) : SimT Γ (tB te) (tOfE fa) := fun S ow σ H ρ Q rep h =>
  sa S ow σ H ρ _ rep (h.bind.imp fun a S1 H1 ρ1 s1 f1 r1 h1 v dv => by
    cases a with
    | bool k => cases dv; exact ⟨k, rfl, h1.here r1 (.refl r1.sub)⟩
    | _ => exact (show False from h1).elim)
/-- a comparison, as a value and as a test -/
structure JC (Γ : Ctx) (e : Expr) (f : M D) : Prop where
  ex : ∃ te, (∀ X, Γ.At X → PE X e te) ∧ (∀ X, Γ.At X → PT X e (tTest te)) ∧ Sim Γ te f
theorem JC.e {e : Expr} {f : M D} (h : JC Γ e f) : JE Γ e f := by
  obtain ⟨te, p, _, s⟩ := h
  exact ⟨te, p, s⟩
theorem JC.t {e : Expr} {f : M D} (h : JC Γ e f) : JT Γ e (tOfE f) := by
  obtain ⟨te, _, p, s⟩ := h
  exact ⟨_, p, sim_tofe s⟩
theorem jc_of {op : CmpOp} {pos : Pos} {r : R2} {ta tb : TE} {f : M D} (ho : ∀ X, Γ.At X → OpR X (compareOp op) r) (pa : ∀ X, Γ.At X → PE X a ta) (pb : ∀ X, Γ.At X → PE X b tb) (hm : behindInMarks op b = false) (hs : Sim Γ (tOp r ta tb) f) : JC Γ (.Compare a [op] [b] pos) f :=
  ⟨_, fun X hX => pe_cmpR (ho X hX) (pa X hX) (pb X hX) hm, fun X hX => pt_cmpR (ho X hX) (pa X hX) (pb X hX) hm, hs⟩
theorem jc_cmp {op : CmpOp} {pos : Pos} {r : R2} {g : D → D → Option D} (ho : ∀ X, Γ.At X → OpR X (compareOp op) r) (hr : R2Ok Γ r g) (ha : JE Γ a fa) (hb : JE Γ b fb) (hm : behindInMarks op b = false) : JC Γ (.Compare a [op] [b] pos) (eOp g fa fb) := by
  obtain ⟨ta, pa, sa⟩ := ha
  obtain ⟨tb, pb, sb⟩ := hb
  exact jc_of ho pa pb hm (sim_op hr sa sb)
end

/-! ### + - * // % ** -/
def intsOf : List D → Option (List Int)
  | [] => some []
  | .int i :: r => (intsOf r).map (i :: ·)
  | _ => none
theorem intsOf_map : ∀ ns : List Int, intsOf (ns.map PyData.int) = some ns
  | [] => rfl
  | n :: ns => by simp [intsOf, intsOf_map ns]
theorem intsOf_vs {K : PySem.W.Frag} {S : Hp} : ∀ {ds : List D} {ns : List Int} {vs : List V}, intsOf ds = some ns → Dens K S ds vs → vs = ns.map V.int ∧ ds = ns.map PyData.int
  | [], ns, vs, h, r => by
    cases r
    have : ns = [] := by simpa [intsOf] using h.symm
    subst this
    exact ⟨rfl, rfl⟩
  | d :: ds, ns, vs, h, r => by
    cases d with
    | int i =>
      unfold intsOf at h
      cases e : intsOf ds with
      | none => rw [e] at h; cases h
      | some ms =>
        rw [e] at h
        have : i :: ms = ns := by simpa using h
        subst this
        obtain ⟨v, t, e1, dv, dr⟩ := r
        cases dv
        obtain ⟨h1, h2⟩ := intsOf_vs e dr
        subst e1
        exact ⟨by rw [h1]; rfl, by rw [h2]; rfl⟩
    | _ => simp [intsOf] at h
def gAdd : D → D → Option D
  | .int i, .int j => some (.int (i + j))
  | .str s, .str t => if s.length + t.length ≤ sizeLine then some (.str (s ++ t)) else none
  | .tuple xs, .tuple ys => if xs.length + ys.length ≤ sizeLine then some (.tuple (xs ++ ys)) else none
  | .list xs, .list ys => if xs.length + ys.length ≤ sizeLine then some (.list (xs ++ ys)) else none
  | _, _ => none
def gSub : D → D → Option D
  | .int i, .int j => some (.int (i - j))
  | _, _ => none
def mulOk (i j : Int) : Prop := CMul i j ∨ CMulW i j
instance (i j : Int) : Decidable (mulOk i j) := by unfold mulOk CMul CMulW; exact inferInstance
def gMul : D → D → Option D
  | .int i, .int j => if mulOk i j then some (.int (i * j)) else none
  | .list xs, .int k => if -(2 ^ 63) ≤ k ∧ k < 2 ^ 63 ∧ xs.length * k.toNat ≤ sizeLine then some (.list (List.replicate k.toNat xs).flatten) else none
  | .tuple xs, .int k => if xs ≠ [] ∧ 2 ≤ k ∧ k ≤ 1000 ∧ xs.length ≤ 1000 then some (.tuple (List.replicate k.toNat xs).flatten) else none
  | _, _ => none
def divOk (j : Int) : Prop := CDivN 0 j ∨ CDivW 0 j
instance (j : Int) : Decidable (divOk j) := by unfold divOk CDivN CDivW; exact inferInstance
def gDiv : D → D → Option D
  | .int i, .int j => if divOk j then some (.int (i.fdiv j)) else none
  | _, _ => none
def gMod : D → D → Option D
  | .int i, .int j => if j ≠ 0 then some (.int (i.fmod j)) else none
  | _, _ => none
instance (i j : Int) : Decidable (CPow i j) := by unfold CPow; exact inferInstance
def gPow : D → D → Option D
  | .int i, .int j => if CPow i j then some (.int (i ^ j.toNat)) else none
  | _, _ => none
section
variable {K : PySem.W.Frag}
theorem str_app_ok {s t : Str} (hs : sOk s) (ht : sOk t) (z : s.length + t.length ≤ sizeLine) : sOk (s ++ t) := by
  obtain ⟨⟨a⟩⟩ := s
  obtain ⟨⟨b⟩⟩ := t
  have e : (({ cps := ⟨a⟩ } : Str) ++ { cps := ⟨b⟩ }) = { cps := ⟨a ++ b⟩ } := by
    show Str.mk _ = _
    simp
  have h1 : (a.toArray.all fun x => decide (x < 0x110000)) = true := hs.1
  have h2 : (b.toArray.all fun x => decide (x < 0x110000)) = true := ht.1
  refine ⟨?_, ?_⟩
  · rw [e]
    show ((a ++ b).toArray.all fun x => decide (x < 0x110000)) = true
    simp only [List.all_toArray] at h1 h2 ⊢
    rw [List.all_append, h1, h2]
    rfl
  · rw [e]
    have z' : a.length + b.length ≤ sizeLine := z
    show (a ++ b).length ≤ sizeLine
    rw [List.length_append]
    exact z'
end
abbrev rAdd (K : PySem.W.Frag) : R2 := fun x y H Q => rI0 (fun i j => .int (i + j)) x y H Q ∨ (∃ i j, x = .str i ∧ y = .str j ∧ i.length + j.length ≤ sizeLine ∧ Q (.str (i ++ j)) H) ∨ rCatA K x y H Q ∨ rCat x y H Q
theorem rAdd_ok {Γ : Ctx} : R2Ok Γ (rAdd Γ.K) gAdd := by
  intro S H a b x y Q s da db h
  cases a with
  | int i => cases b with
    | int j => cases da; cases db; exact .inl ⟨i, j, rfl, rfl, h.now s rfl⟩
    | _ => exact h.elim
  | str i => cases b with
    | str j =>
      obtain ⟨rfl, hi⟩ := da
      obtain ⟨rfl, hj⟩ := db
      dsimp only [gAdd] at h
      by_cases z : i.length + j.length ≤ sizeLine
      · simp only [z, if_true] at h
        exact .inr (.inl ⟨i, j, rfl, rfl, z, h.now s ⟨rfl, str_app_ok hi hj z⟩⟩)
      · simp only [z, if_false] at h
        exact h.elim
    | _ => exact h.elim
  | tuple xs => cases b with
    | tuple ys =>
      obtain ⟨p, vs, rfl, hp, zp, dp⟩ := da
      obtain ⟨q, us, rfl, hq, zq, dq⟩ := db
      dsimp only [gAdd] at h
      by_cases z : xs.length + ys.length ≤ sizeLine
      · simp only [z, if_true] at h
        have l1 := dp.len
        have l2 := dq.len
        refine .inr (.inr (.inl ⟨p, q, vs, us, rfl, rfl, .of (s _ _ hp), .of (s _ _ hq), by omega, fun e => ?_, fun _ e => ?_, fun _ _ c n => ?_⟩))
        · have : xs = [] := by rw [e] at l1; exact List.length_eq_zero_iff.mp l1
          subst this
          exact h.now s ⟨q, us, rfl, hq, zq, dq⟩
        · have : ys = [] := by rw [e] at l2; exact List.length_eq_zero_iff.mp l2
          subst this
          rw [List.append_nil] at h
          exact h.now s ⟨p, vs, rfl, hp, zp, dp⟩
        · exact h.tup s (dp.append dq) (by rw [List.length_append]; exact z) n
      · simp only [z, if_false] at h
        exact h.elim
    | _ => exact h.elim
  | list xs => cases b with
    | list ys =>
      obtain ⟨p, vs, rfl, hp, zp, dp⟩ := da
      obtain ⟨q, us, rfl, hq, zq, dq⟩ := db
      dsimp only [gAdd] at h
      by_cases z : xs.length + ys.length ≤ sizeLine
      · simp only [z, if_true] at h
        have l1 := dp.len
        have l2 := dq.len
        exact .inr (.inr (.inr ⟨p, q, vs, us, rfl, rfl, s _ _ hp, s _ _ hq, by omega, fun c n => h.lst s (dp.append dq) (by rw [List.length_append]; exact z) n⟩))
      · simp only [z, if_false] at h
        exact h.elim
    | _ => exact h.elim
  | _ => cases b <;> exact h.elim
theorem rSub_ok {Γ : Ctx} : R2Ok Γ (rI0 fun i j => .int (i - j)) gSub := by
  intro S H a b x y Q s da db h
  cases a with
  | int i => cases b with
    | int j => cases da; cases db; exact ⟨i, j, rfl, rfl, h.now s rfl⟩
    | _ => exact h.elim
  | _ => cases b <;> exact h.elim
abbrev rMul (K : PySem.W.Frag) : R2 := fun x y H Q => rI CMul (fun i j => .int (i * j)) x y H Q ∨ rI CMulW (fun i j => .int (i * j)) x y H Q ∨ rRep x y H Q ∨ rRepT K x y H Q
theorem dens_rep {K : PySem.W.Frag} {S : Hp} {ds : List D} {vs : List V} (h : Dens K S ds vs) : ∀ n : Nat, Dens K S (List.replicate n ds).flatten (List.replicate n vs).flatten
  | 0 => rfl
  | n + 1 => by
    rw [List.replicate_succ, List.replicate_succ, List.flatten_cons, List.flatten_cons]
    exact h.append (dens_rep h n)
theorem len_rep {α : Type} (xs : List α) : ∀ n : Nat, (List.replicate n xs).flatten.length = xs.length * n
  | 0 => by simp
  | n + 1 => by rw [List.replicate_succ, List.flatten_cons, List.length_append, len_rep xs n, Nat.mul_succ]; omega
theorem rMul_ok {Γ : Ctx} : R2Ok Γ (rMul Γ.K) gMul := by
  intro S H a b x y Q s da db h
  cases a with
  | int i => cases b with
    | int j =>
      cases da; cases db
      dsimp only [gMul] at h
      by_cases c : mulOk i j
      · simp only [c, if_true] at h
        have q := h.now s (v := .int (i * j)) rfl
        rcases c with c | c
        · exact .inl ⟨i, j, rfl, rfl, c, q⟩
        · exact .inr (.inl ⟨i, j, rfl, rfl, c, q⟩)
      · simp only [c, if_false] at h
        exact h.elim
    | _ => exact h.elim
  | list xs => cases b with
    | int k =>
      obtain ⟨p, vs, rfl, hp, zp, dp⟩ := da
      cases db
      dsimp only [gMul] at h
      by_cases c : -(2 ^ 63) ≤ k ∧ k < 2 ^ 63 ∧ xs.length * k.toNat ≤ sizeLine
      · rw [if_pos c] at h
        have l1 := dp.len
        exact .inr (.inr (.inl ⟨p, k, vs, rfl, rfl, s _ _ hp, c.1, c.2.1, by rw [← l1]; exact c.2.2, fun q n => h.lst s (dens_rep dp _) (by rw [len_rep]; exact c.2.2) n⟩))
      · rw [if_neg c] at h
        exact h.elim
    | _ => exact h.elim
  | tuple xs => cases b with
    | int k =>
      obtain ⟨p, vs, rfl, hp, zp, dp⟩ := da
      cases db
      dsimp only [gMul] at h
      by_cases c : xs ≠ [] ∧ 2 ≤ k ∧ k ≤ 1000 ∧ xs.length ≤ 1000
      · rw [if_pos c] at h
        have l1 := dp.len
        obtain ⟨c1, c2, c3, c4⟩ := c
        refine .inr (.inr (.inr ⟨p, k, vs, rfl, rfl, .of (s _ _ hp), fun e => c1 (by rw [e] at l1; exact List.length_eq_zero_iff.mp l1), c2, c3, by omega, fun q n => h.tup s (dens_rep dp _) ?_ n⟩))
        rw [len_rep]
        have : xs.length * k.toNat ≤ 1000 * 1000 := Nat.mul_le_mul c4 (by omega)
        exact Nat.le_trans this (by decide)
      · rw [if_neg c] at h
        exact h.elim
    | _ => exact h.elim
  | _ => cases b <;> exact h.elim
abbrev rDiv : R2 := fun x y H Q => rI CDivN (fun i j => .int (i.fdiv j)) x y H Q ∨ rI CDivW (fun i j => .int (i / j)) x y H Q
theorem rDiv_ok {Γ : Ctx} : R2Ok Γ rDiv gDiv := by
  intro S H a b x y Q s da db h
  cases a with
  | int i => cases b with
    | int j =>
      cases da; cases db
      dsimp only [gDiv] at h
      by_cases c : divOk j
      · simp only [c, if_true] at h
        rcases c with c | c
        · exact .inl ⟨i, j, rfl, rfl, c, h.now s rfl⟩
        · have hj : 0 < j := c.1
          exact .inr ⟨i, j, rfl, rfl, c, by show Q (V.int (i / j)) H; rw [← Int.fdiv_eq_ediv_of_nonneg i (by omega)]; exact h.now s rfl⟩
      · simp only [c, if_false] at h
        exact h.elim
    | _ => exact h.elim
  | _ => cases b <;> exact h.elim
theorem rMod_ok {Γ : Ctx} : R2Ok Γ (rI (fun _ j => j ≠ 0) fun i j => .int (i.fmod j)) gMod := by
  intro S H a b x y Q s da db h
  cases a with
  | int i => cases b with
    | int j =>
      cases da; cases db
      dsimp only [gMod] at h
      by_cases c : j ≠ 0
      · rw [if_pos c] at h
        exact ⟨i, j, rfl, rfl, c, h.now s rfl⟩
      · rw [if_neg c] at h
        exact h.elim
    | _ => exact h.elim
  | _ => cases b <;> exact h.elim
theorem rPow_ok {Γ : Ctx} : R2Ok Γ (rI CPow fun i j => .int (i ^ j.toNat)) gPow := by
  intro S H a b x y Q s da db h
  cases a with
  | int i => cases b with
    | int j =>
      cases da; cases db
      dsimp only [gPow] at h
      by_cases c : CPow i j
      · rw [if_pos c] at h
        exact ⟨i, j, rfl, rfl, c, h.now s rfl⟩
      · rw [if_neg c] at h
        exact h.elim
    | _ => exact h.elim
  | _ => cases b <;> exact h.elim
section
variable {Γ : Ctx} {a b : Expr} {fa fb : M D} {pos : Pos}
theorem je_add (ha : JE Γ a fa) (hb : JE Γ b fb) : JE Γ (.BinOp a .Add b pos) (eOp gAdd fa fb) := je_bin (fun X hX => by rw [← hX.K]; exact op_add.or (op_add_str.or (op_catA.or op_cat))) rAdd_ok ha hb
theorem je_sub (ha : JE Γ a fa) (hb : JE Γ b fb) : JE Γ (.BinOp a .Sub b pos) (eOp gSub fa fb) := je_bin (fun X hX => op_sub) rSub_ok ha hb
theorem je_mul (ha : JE Γ a fa) (hb : JE Γ b fb) : JE Γ (.BinOp a .Mult b pos) (eOp gMul fa fb) := je_bin (fun X hX => by rw [← hX.K]; exact op_mul.or (op_mulW.or (op_rep.or op_repT))) rMul_ok ha hb
theorem je_div (ha : JE Γ a fa) (hb : JE Γ b fb) : JE Γ (.BinOp a .FloorDiv b pos) (eOp gDiv fa fb) := je_bin (fun X hX => op_fdivN.or op_fdivW) rDiv_ok ha hb
theorem je_mod (ha : JE Γ a fa) (hb : JE Γ b fb) : JE Γ (.BinOp a .Mod b pos) (eOp gMod fa fb) := je_bin (fun X hX => op_modN) rMod_ok ha hb
theorem je_pow (ha : JE Γ a fa) (hb : JE Γ b fb) : JE Γ (.BinOp a .Pow b pos) (eOp gPow fa fb) := je_bin (fun X hX => op_pow) rPow_ok ha hb
/-- -a -/
def eNeg (fa : M D) : M D := fun ρ => (fa ρ).bind fun a ρ1 => ofOpt (match a with | .int i => some (.int (-i)) | _ => none) ρ1
theorem je_neg (ha : JE Γ a fa) : JE Γ (.UnaryOp .USub a pos) (eNeg fa) := by
  obtain ⟨ta, pa, sa⟩ := ha
  refine ⟨_, fun X hX => pe_un un_neg (pa X hX), fun S ow σ H ρ Q rep h => sa S ow σ H ρ _ rep (h.bind.imp fun a S1 H1 ρ1 s1 f1 r1 h1 v dv => ?_)⟩
  have h2 := PostV.of h1 r1
  cases a with
  | int i => cases dv; exact ⟨i, rfl, h2.now r1.sub rfl⟩
  | _ => exact h2.elim
end

/-! ### comparisons -/
mutual
theorem den_dp {K : PySem.W.Frag} {S H : Hp} (s : Same S H) : ∀ (d : D) (v : V), Den K S d v → d.canLay0 = true → Dp K H v d
  | .none, _, x, _ => by cases x; exact .non
  | .bool b, _, x, _ => by cases x; exact .bl b
  | .int i, _, x, _ => by cases x; exact .int i
  | .str z, _, ⟨x, _⟩, _ => by cases x; exact .str z
  | .list ds, _, ⟨a, vs, e, q, _, r⟩, c => by
    subst e
    exact .lst (.of (s _ _ q)) (den_dps s ds vs r (by simpa only [PyData.canLay0] using c))
  | .tuple ds, _, ⟨a, vs, e, q, _, r⟩, c => by
    subst e
    exact .tup (.of (s _ _ q)) (den_dps s ds vs r (by simpa only [PyData.canLay0] using c))
  | .dict kvs, _, _, c => by simp [PyData.canLay0] at c
theorem den_dps {K : PySem.W.Frag} {S H : Hp} (s : Same S H) : ∀ (ds : List D) (vs : List V), Dens K S ds vs → PyData.canLayAll0 ds = true → DpAll K H vs ds
  | [], _, x, _ => by cases x; exact .nil
  | d :: ds, _, ⟨v, r, e, x, y⟩, c => by
    subst e
    have c' : d.canLay0 = true ∧ PyData.canLayAll0 ds = true := by simpa [PyData.canLayAll0] using c
    exact .cons (den_dp s d v x c'.1) (den_dps s ds r y c'.2)
end
/-- no dict within, nested to n at most -/
def shp : Nat → D → Bool
  | n, .list ds => (match n with | 0 => false | n + 1 => ds.all (shp n))
  | n, .tuple ds => (match n with | 0 => false | n + 1 => ds.all (shp n))
  | _, .dict _ => false
  | _, _ => true
@[simp] theorem shp_none {n : Nat} : shp n .none = true := by cases n <;> rfl
@[simp] theorem shp_bool {n : Nat} {b : Bool} : shp n (.bool b) = true := by cases n <;> rfl
@[simp] theorem shp_int {n : Nat} {i : Int} : shp n (.int i) = true := by cases n <;> rfl
@[simp] theorem shp_str {n : Nat} {s : Str} : shp n (.str s) = true := by cases n <;> rfl
@[simp] theorem shp_list {n : Nat} {ds : List D} : shp (n + 1) (.list ds) = ds.all (shp n) := rfl
@[simp] theorem shp_tuple {n : Nat} {ds : List D} : shp (n + 1) (.tuple ds) = ds.all (shp n) := rfl
@[simp] theorem shp_dict {n : Nat} {ds : List (D × D)} : shp n (.dict ds) = false := by cases n <;> rfl
mutual
theorem den_lay {K : PySem.W.Frag} {S : Hp} : ∀ (n : Nat) (d : D) (v : V), Den K S d v → shp n d = true → d.canLay0 = true ∧ d.depth ≤ n
  | _, .none, _, _, _ => ⟨rfl, Nat.zero_le _⟩
  | _, .bool _, _, _, _ => ⟨rfl, Nat.zero_le _⟩
  | _, .int _, _, _, _ => ⟨rfl, Nat.zero_le _⟩
  | _, .str z, _, ⟨_, h⟩, _ => ⟨h.1, Nat.zero_le _⟩
  | 0, .list ds, _, _, h => by cases h
  | 0, .tuple ds, _, _, h => by cases h
  | n + 1, .list ds, _, ⟨_, vs, _, _, _, dv⟩, h => by
    obtain ⟨a, b⟩ := dens_lay n ds vs dv h
    exact ⟨by simpa only [PyData.canLay0] using a, by simp only [PyData.depth]; omega⟩
  | n + 1, .tuple ds, _, ⟨_, vs, _, _, _, dv⟩, h => by
    obtain ⟨a, b⟩ := dens_lay n ds vs dv h
    exact ⟨by simpa only [PyData.canLay0] using a, by simp only [PyData.depth]; omega⟩
  | n, .dict _, _, _, h => by rw [shp_dict] at h; cases h
theorem dens_lay {K : PySem.W.Frag} {S : Hp} : ∀ (n : Nat) (ds : List D) (vs : List V), Dens K S ds vs → ds.all (shp n) = true → PyData.canLayAll0 ds = true ∧ PyData.depthAll ds ≤ n
  | _, [], _, _, _ => ⟨rfl, Nat.zero_le _⟩
  | n, d :: ds, _, ⟨v, r, _, hd, hr⟩, h => by
    rw [List.all_cons, Bool.and_eq_true] at h
    obtain ⟨a, b⟩ := den_lay n d v hd h.1
    obtain ⟨a2, b2⟩ := dens_lay n ds r hr h.2
    exact ⟨by simp only [PyData.canLayAll0, a, a2, Bool.and_self], by simp only [PyData.depthAll]; omega⟩
end
theorem den_shaped {K : PySem.W.Frag} {S : Hp} {d : D} {v : V} (h : Den K S d v) (c : shp 64 d = true) : SeqAt.shaped d = true := by
  obtain ⟨a, b⟩ := den_lay 64 d v h c
  unfold SeqAt.shaped
  rw [a, decide_eq_true b]; rfl
def gEq (a b : D) : Option D := if shp 64 a = true ∧ shp 64 b = true then some (.bool (PyData.eqv a b)) else none
def gNe (a b : D) : Option D := if shp 64 a = true ∧ shp 64 b = true then some (.bool (!PyData.eqv a b)) else none
theorem rEqD_ok {Γ : Ctx} : R2Ok Γ (rEqD Γ.K) gEq := by
  intro S H a b x y Q s da db h
  unfold gEq at h
  by_cases c : shp 64 a = true ∧ shp 64 b = true
  · rw [if_pos c] at h
    replace c := And.intro (den_shaped da c.1) (den_shaped db c.2)
    exact ⟨a, b, den_dp s a x da (SeqAt.canLay_of_shaped c.1), den_dp s b y db (SeqAt.canLay_of_shaped c.2), c.1, c.2, h.now s rfl⟩
  · rw [if_neg c] at h
    exact h.elim
theorem rNeD_ok {Γ : Ctx} : R2Ok Γ (rNeD Γ.K) gNe := by
  intro S H a b x y Q s da db h
  unfold gNe at h
  by_cases c : shp 64 a = true ∧ shp 64 b = true
  · rw [if_pos c] at h
    replace c := And.intro (den_shaped da c.1) (den_shaped db c.2)
    exact ⟨a, b, den_dp s a x da (SeqAt.canLay_of_shaped c.1), den_dp s b y db (SeqAt.canLay_of_shaped c.2), c.1, c.2, h.now s rfl⟩
  · rw [if_neg c] at h
    exact h.elim
def gLt : D → D → Option D
  | .int i, .int j => some (.bool (decide (i < j)))
  | .tuple xs, .tuple ys => match intsOf xs, intsOf ys with
    | some ns, some ms => some (.bool (HT.lexLt ns ms))
    | _, _ => none
  | _, _ => none
def gIC (p : Int → Int → Bool) : D → D → Option D
  | .int i, .int j => some (.bool (p i j))
  | _, _ => none
abbrev gLe := gIC fun i j => decide (i ≤ j)
abbrev gGt := gIC fun i j => decide (j < i)
abbrev gGe := gIC fun i j => decide (j ≤ i)
theorem rIC_ok {Γ : Ctx} {p : Int → Int → Bool} : R2Ok Γ (rI0 fun i j => .bl (p i j)) (gIC p) := by
  intro S H a b x y Q s da db h
  cases a with
  | int i => cases b with
    | int j => cases da; cases db; exact ⟨i, j, rfl, rfl, h.now s rfl⟩
    | _ => exact h.elim
  | _ => cases b <;> exact h.elim
abbrev rLt (K : PySem.W.Frag) : R2 := fun x y H Q => rI0 (fun i j => .bl (decide (i < j))) x y H Q ∨ rLtT K x y H Q
theorem rLt_ok {Γ : Ctx} : R2Ok Γ (rLt Γ.K) gLt := by
  intro S H a b x y Q s da db h
  cases a with
  | int i => cases b with
    | int j => cases da; cases db; exact .inl ⟨i, j, rfl, rfl, h.now s rfl⟩
    | _ => exact h.elim
  | tuple xs => cases b with
    | tuple ys =>
      obtain ⟨p, vs, rfl, hp, zp, dp⟩ := da
      obtain ⟨q, us, rfl, hq, zq, dq⟩ := db
      dsimp only [gLt] at h
      cases e1 : intsOf xs with
      | none => rw [e1] at h; exact h.elim
      | some ns =>
        cases e2 : intsOf ys with
        | none => rw [e1, e2] at h; exact h.elim
        | some ms =>
          rw [e1, e2] at h
          obtain ⟨h1, _⟩ := intsOf_vs e1 dp
          obtain ⟨h2, _⟩ := intsOf_vs e2 dq
          subst h1 h2
          exact .inr ⟨p, q, ns, ms, rfl, rfl, .of (s _ _ hp), .of (s _ _ hq), h.now s rfl⟩
    | _ => exact h.elim
  | _ => cases b <;> exact h.elim
/-- is None; is True, is False of a truth -/
def gIs : D → D → Option D
  | a, .none => some (.bool (match a with | .none => true | _ => false))
  | .bool a, .bool b => some (.bool (decide (a = b)))
  | _, _ => none
def gIsNot : D → D → Option D
  | a, .none => some (.bool (match a with | .none => false | _ => true))
  | .bool a, .bool b => some (.bool (!decide (a = b)))
  | _, _ => none
theorem den_non {K : PySem.W.Frag} {S : Hp} {a : D} {x : V} (h : Den K S a x) : decide (x = V.non) = (match a with | .none => true | _ => false) := by
  cases a with
  | none => cases h; rfl
  | bool b => cases h; rfl
  | int i => cases h; rfl
  | str z => obtain ⟨rfl, _⟩ := h; rfl
  | list ds => obtain ⟨a, vs, rfl, _⟩ := h; rfl
  | tuple ds => obtain ⟨a, vs, rfl, _⟩ := h; rfl
  | dict ds => obtain ⟨a, rfl, _⟩ := h; rfl
abbrev rIs : R2 := fun x y H Q => (y = .non ∧ Q (.bl (decide (x = .non))) H) ∨ ∃ a b, x = .bl a ∧ y = .bl b ∧ Q (.bl (decide (a = b))) H
abbrev rIsNot : R2 := fun x y H Q => (y = .non ∧ Q (.bl (!decide (x = .non))) H) ∨ ∃ a b, x = .bl a ∧ y = .bl b ∧ Q (.bl (!decide (a = b))) H
theorem rIs_ok {Γ : Ctx} : R2Ok Γ rIs gIs := by
  intro S H a b x y Q s da db h
  cases b with
  | none =>
    cases db
    refine .inl ⟨rfl, ?_⟩
    rw [den_non da]
    unfold gIs at h
    cases a <;> exact h.now s rfl
  | bool j => cases a with
    | bool i => cases da; cases db; exact .inr ⟨i, j, rfl, rfl, h.now s rfl⟩
    | _ => exact h.elim
  | _ => cases a <;> exact h.elim
theorem rIsNot_ok {Γ : Ctx} : R2Ok Γ rIsNot gIsNot := by
  intro S H a b x y Q s da db h
  cases b with
  | none =>
    cases db
    refine .inl ⟨rfl, ?_⟩
    rw [den_non da]
    unfold gIsNot at h
    cases a <;> exact h.now s rfl
  | bool j => cases a with
    | bool i => cases da; cases db; exact .inr ⟨i, j, rfl, rfl, h.now s rfl⟩
    | _ => exact h.elim
  | _ => cases a <;> exact h.elim
/-! in, not in -/
def strIn (x z : Str) : Bool := !(Builtin.Str.occurrences z x 0 z.length 1).isEmpty
def keyOf : D → Option Key
  | .int i => some (.inl i)
  | .str s => some (.inr s)
  | _ => none
def keysOf : List D → Option (List Key)
  | [] => some []
  | d :: r => match keyOf d, keysOf r with
    | some k, some ks => some (k :: ks)
    | _, _ => none
def gIn : D → D → Option D
  | .str x, .str z => some (.bool (strIn x z))
  | d, .list ds => if shp 64 d = true ∧ shp 64 (.list ds) = true then some (.bool (ds.any fun z => PyData.eqv z d)) else none
  | d, .tuple ds => if shp 64 d = true ∧ shp 64 (.tuple ds) = true then some (.bool (ds.any fun z => PyData.eqv z d)) else none
  | _, _ => none
def bNot : D → Option D
  | .bool b => some (.bool !b)
  | _ => none
def gNotIn (a b : D) : Option D := (gIn a b).bind bNot
def rInT (K : PySem.W.Frag) : R2 := fun x y H Q => ∃ d ds, Dp K H x d ∧ Dp K H y (.tuple ds) ∧ SeqAt.shaped d = true ∧ SeqAt.shaped (.tuple ds) = true ∧ Q (.bl (ds.any fun z => PyData.eqv z d)) H
def rNotInT (K : PySem.W.Frag) : R2 := fun x y H Q => ∃ d ds, Dp K H x d ∧ Dp K H y (.tuple ds) ∧ SeqAt.shaped d = true ∧ SeqAt.shaped (.tuple ds) = true ∧ Q (.bl (!ds.any fun z => PyData.eqv z d)) H
section
variable {X : Cx}
theorem op_inT (hu : X.A.units + 65 < cLine) : OpR X (compareOp .In) (rInT X.K) := by
  intro pins s σ H x y v u Q I rx ry h
  obtain ⟨d, ds, hd, he, sd, se, q⟩ := h
  obtain ⟨as, r1⟩ := Dp.reads I d x v hd rx
  obtain ⟨bs, r2⟩ := Dp.reads I (.tuple ds) y u he ry
  exact SeqAt.in_tuple_reads r2 r1 (SeqAt.canLay_of_shaped se) (SeqAt.canLay_of_shaped sd) (room_in_shaped sd hu) ⟨.bl _, H, I, rfl, q⟩
theorem op_notInT (hu : X.A.units + 65 < cLine) : OpR X (compareOp .NotIn) (rNotInT X.K) := by
  intro pins s σ H x y v u Q I rx ry h
  obtain ⟨d, ds, hd, he, sd, se, q⟩ := h
  obtain ⟨as, r1⟩ := Dp.reads I d x v hd rx
  obtain ⟨bs, r2⟩ := Dp.reads I (.tuple ds) y u he ry
  exact SeqAt.notIn_tuple_reads r2 r1 (SeqAt.canLay_of_shaped se) (SeqAt.canLay_of_shaped sd) (room_in_shaped sd hu) ⟨.bl _, H, I, rfl, q⟩
end
abbrev rInA (K : PySem.W.Frag) : R2 := fun x y H Q => (∃ i j, x = .str i ∧ y = .str j ∧ Q (.bl (!(Builtin.Str.occurrences j i 0 j.length 1).isEmpty)) H) ∨ rInD K x y H Q ∨ rInT K x y H Q
abbrev rNotInA (K : PySem.W.Frag) : R2 := fun x y H Q => (∃ i j, x = .str i ∧ y = .str j ∧ Q (.bl (!(!(Builtin.Str.occurrences j i 0 j.length 1).isEmpty))) H) ∨ rNotInD K x y H Q ∨ rNotInT K x y H Q
theorem rInA_ok {Γ : Ctx} : R2Ok Γ (rInA Γ.K) gIn := by
  intro S H a b x y Q s da db h
  cases b with
  | str j =>
    cases a with
    | str i =>
      obtain ⟨rfl, hi⟩ := da
      obtain ⟨rfl, hj⟩ := db
      exact .inl ⟨i, j, rfl, rfl, h.now s rfl⟩
    | _ => exact h.elim
  | list ds =>
    have h' : PostV Γ S H (if shp 64 a = true ∧ shp 64 (.list ds) = true then some (.bool (ds.any fun z => PyData.eqv z a)) else none) Q := by cases a <;> exact h
    by_cases c : shp 64 a = true ∧ shp 64 (.list ds) = true
    · rw [if_pos c] at h'
      replace c := And.intro (den_shaped da c.1) (den_shaped db c.2)
      exact .inr (.inl ⟨a, ds, den_dp s a x da (SeqAt.canLay_of_shaped c.1), den_dp s _ y db (SeqAt.canLay_of_shaped c.2), c.1, c.2, h'.now s rfl⟩)
    · rw [if_neg c] at h'
      exact h'.elim
  | tuple ds =>
    have h' : PostV Γ S H (if shp 64 a = true ∧ shp 64 (.tuple ds) = true then some (.bool (ds.any fun z => PyData.eqv z a)) else none) Q := by cases a <;> exact h
    by_cases c : shp 64 a = true ∧ shp 64 (.tuple ds) = true
    · rw [if_pos c] at h'
      replace c := And.intro (den_shaped da c.1) (den_shaped db c.2)
      exact .inr (.inr ⟨a, ds, den_dp s a x da (SeqAt.canLay_of_shaped c.1), den_dp s _ y db (SeqAt.canLay_of_shaped c.2), c.1, c.2, h'.now s rfl⟩)
    · rw [if_neg c] at h'
      exact h'.elim
  | _ => cases a <;> exact h.elim
theorem rNotInA_ok {Γ : Ctx} : R2Ok Γ (rNotInA Γ.K) gNotIn := by
  intro S H a b x y Q s da db h
  unfold gNotIn at h
  cases b with
  | str j =>
    cases a with
    | str i =>
      obtain ⟨rfl, hi⟩ := da
      obtain ⟨rfl, hj⟩ := db
      exact .inl ⟨i, j, rfl, rfl, h.now s rfl⟩
    | _ => exact h.elim
  | list ds =>
    have h' : PostV Γ S H ((if shp 64 a = true ∧ shp 64 (.list ds) = true then some (.bool (ds.any fun z => PyData.eqv z a)) else none).bind bNot) Q := by cases a <;> exact h
    by_cases c : shp 64 a = true ∧ shp 64 (.list ds) = true
    · rw [if_pos c] at h'
      replace c := And.intro (den_shaped da c.1) (den_shaped db c.2)
      exact .inr (.inl ⟨a, ds, den_dp s a x da (SeqAt.canLay_of_shaped c.1), den_dp s _ y db (SeqAt.canLay_of_shaped c.2), c.1, c.2, h'.now s rfl⟩)
    · rw [if_neg c] at h'
      exact h'.elim
  | tuple ds =>
    have h' : PostV Γ S H ((if shp 64 a = true ∧ shp 64 (.tuple ds) = true then some (.bool (ds.any fun z => PyData.eqv z a)) else none).bind bNot) Q := by cases a <;> exact h
    by_cases c : shp 64 a = true ∧ shp 64 (.tuple ds) = true
    · rw [if_pos c] at h'
      replace c := And.intro (den_shaped da c.1) (den_shaped db c.2)
      exact .inr (.inr ⟨a, ds, den_dp s a x da (SeqAt.canLay_of_shaped c.1), den_dp s _ y db (SeqAt.canLay_of_shaped c.2), c.1, c.2, h'.now s rfl⟩)
    · rw [if_neg c] at h'
      exact h'.elim
  | _ => cases a <;> exact h.elim
section
variable {Γ : Ctx} {a b : Expr} {fa fb : M D} {pos : Pos}
theorem Ctx.At.u64 {X : Cx} (h : Γ.At X) : X.A.units + 64 < cLine := Nat.lt_of_succ_lt h.un
theorem Ctx.At.u0 {X : Cx} (h : Γ.At X) : X.A.units < cLine := Nat.lt_of_le_of_lt (Nat.le_add_right _ 65) h.un
theorem Ctx.At.u1 {X : Cx} (h : Γ.At X) : X.A.units + 1 < cLine := Nat.lt_of_le_of_lt (Nat.add_le_add_left (by decide : 1 ≤ 65) _) h.un
theorem jc_eq (ha : JE Γ a fa) (hb : JE Γ b fb) : JC Γ (.Compare a [.Eq] [b] pos) (eOp gEq fa fb) := jc_cmp (fun X hX => by rw [← hX.K]; exact op_eqD hX.u64) rEqD_ok ha hb (nomark _)
theorem jc_ne (ha : JE Γ a fa) (hb : JE Γ b fb) : JC Γ (.Compare a [.NotEq] [b] pos) (eOp gNe fa fb) := jc_cmp (fun X hX => by rw [← hX.K]; exact op_neD hX.u64) rNeD_ok ha hb (nomark _)
theorem lt_or {X : Cx} (hX : Γ.At X) : OpR X (compareOp .Lt) (rLt Γ.K) := by rw [← hX.K]; exact op_lt.or (op_ltT hX.u0)
theorem jc_lt (ha : JE Γ a fa) (hb : JE Γ b fb) : JC Γ (.Compare a [.Lt] [b] pos) (eOp gLt fa fb) := jc_cmp (fun X hX => lt_or hX) rLt_ok ha hb (nomark _)
theorem jc_le (ha : JE Γ a fa) (hb : JE Γ b fb) : JC Γ (.Compare a [.LtE] [b] pos) (eOp gLe fa fb) := jc_cmp (fun X hX => op_le) rIC_ok ha hb (nomark _)
theorem jc_gt (ha : JE Γ a fa) (hb : JE Γ b fb) : JC Γ (.Compare a [.Gt] [b] pos) (eOp gGt fa fb) := jc_cmp (fun X hX => op_gt) rIC_ok ha hb (nomark _)
theorem jc_ge (ha : JE Γ a fa) (hb : JE Γ b fb) : JC Γ (.Compare a [.GtE] [b] pos) (eOp gGe fa fb) := jc_cmp (fun X hX => op_ge) rIC_ok ha hb (nomark _)
theorem jc_is (ha : JE Γ a fa) (hb : JE Γ b fb) : JC Γ (.Compare a [.Is] [b] pos) (eOp gIs fa fb) := jc_cmp (fun X hX => op_isN.or op_is_bl) rIs_ok ha hb (nomark _)
theorem jc_isnot (ha : JE Γ a fa) (hb : JE Γ b fb) : JC Γ (.Compare a [.IsNot] [b] pos) (eOp gIsNot fa fb) := jc_cmp (fun X hX => op_notN.or op_isnot_bl) rIsNot_ok ha hb (nomark _)
theorem jc_in (ha : JE Γ a fa) (hb : JE Γ b fb) (hm : behindInMarks .In b = false := by rfl) : JC Γ (.Compare a [.In] [b] pos) (eOp gIn fa fb) := jc_cmp (fun X hX => by rw [← hX.K]; exact op_in_str.or ((op_inD hX.un).or (op_inT hX.un))) rInA_ok ha hb hm
theorem jc_notin (ha : JE Γ a fa) (hb : JE Γ b fb) (hm : behindInMarks .NotIn b = false := by rfl) : JC Γ (.Compare a [.NotIn] [b] pos) (eOp gNotIn fa fb) := jc_cmp (fun X hX => by rw [← hX.K]; exact L2.op_notin_str.or ((op_notInD hX.un).or (op_notInT hX.un))) rNotInA_ok ha hb hm
/-- a op b op' c -/
def eChain (g g' : D → D → Option D) (fa fb fc : M D) : M D := fun ρ => (fa ρ).bind fun a ρ1 => (fb ρ1).bind fun b ρ2 => (ofOpt (g a b) ρ2).bind fun z ρ3 => match z with
  | .bool true => (fc ρ3).bind fun c ρ4 => ofOpt (g' b c) ρ4
  | .bool false => .ok (.bool false) ρ3
  | _ => .stuck
theorem jc_chain {op op' : CmpOp} {r r' : R2} {g g' : D → D → Option D} {c : Expr} {fc : M D} (ho : ∀ X, Γ.At X → OpR X (compareOp op) r) (hr : R2Ok Γ r g) (ho' : ∀ X, Γ.At X → OpR X (compareOp op') r') (hr' : R2Ok Γ r' g')
    (ha : JE Γ a fa) (hb : JE Γ b fb) (hc : JE Γ c fc) (hm : lastMarks [op, op'] [b, c] = false := by with_unfolding_all rfl) : JC Γ (.Compare a [op, op'] [b, c] pos) (eChain g g' fa fb fc) := by
  obtain ⟨ta, pa, sa⟩ := ha
  obtain ⟨tb, pb, sb⟩ := hb
  obtain ⟨tc, pc, sc⟩ := hc
  refine ⟨_, fun X hX => pe_chain (ho X hX) (ho' X hX) (pa X hX) (pb X hX) (pc X hX) hm, fun X hX => pt_chain (ho X hX) (ho' X hX) (pa X hX) (pb X hX) (pc X hX) hm, fun S ow σ H ρ Q rep h => ?_⟩
  refine sa S ow σ H ρ _ rep (h.bind.imp fun a S1 H1 ρ1 s1 f1 r1 h1 v dv => sb S1 ow σ H1 ρ1 _ r1 (h1.bind.imp fun b S2 H2 ρ2 s2 f2 r2 h2 u du => ?_))
  have h3 := h2.bind
  refine hr S2 H2 a b v u _ r2.sub (Den.mono s2 _ _ dv) du ?_
  cases e : g a b with
  | none => rw [e] at h3; exact h3
  | some z =>
    rw [e] at h3
    intro S3 H3 w gr dw
    have h4 := h3.here r2 gr
    have r3 := r2.grow gr
    cases z with
    | bool k =>
      cases dw
      refine ⟨k, rfl, ?_⟩
      cases k with
      | true =>
        rw [if_pos rfl]
        exact sc S3 ow σ H3 ρ2 _ r3 (h4.bind.imp fun c S4 H4 ρ4 s4 f4 r4 h5 y dy => hr' S4 H4 b c u y Q r4.sub (Den.mono (gr.ss.trans s4) _ _ du) dy (.of h5 r4))
      | false =>
        rw [if_neg Bool.false_ne_true]
        exact h4.here r3 (.refl r3.sub) _ rfl
    | _ => exact h4.elim
theorem jc_lele {c : Expr} {fc : M D} (ha : JE Γ a fa) (hb : JE Γ b fb) (hc : JE Γ c fc) (hm : lastMarks [.LtE, .LtE] [b, c] = false := by with_unfolding_all rfl) : JC Γ (.Compare a [.LtE, .LtE] [b, c] pos) (eChain gLe gLe fa fb fc) := jc_chain (fun _ _ => op_le) rIC_ok (fun _ _ => op_le) rIC_ok ha hb hc hm
theorem jc_lelt {c : Expr} {fc : M D} (ha : JE Γ a fa) (hb : JE Γ b fb) (hc : JE Γ c fc) (hm : lastMarks [.LtE, .Lt] [b, c] = false := by with_unfolding_all rfl) : JC Γ (.Compare a [.LtE, .Lt] [b, c] pos) (eChain gLe gLt fa fb fc) := jc_chain (fun _ _ => op_le) rIC_ok (fun X hX => lt_or hX) rLt_ok ha hb hc hm
theorem jc_ltlt {c : Expr} {fc : M D} (ha : JE Γ a fa) (hb : JE Γ b fb) (hc : JE Γ c fc) (hm : lastMarks [.Lt, .Lt] [b, c] = false := by with_unfolding_all rfl) : JC Γ (.Compare a [.Lt, .Lt] [b, c] pos) (eChain gLt gLt fa fb fc) := jc_chain (fun X hX => lt_or hX) rLt_ok (fun X hX => lt_or hX) rLt_ok ha hb hc hm
end

/-! ### tests: a value of any kind by its truth -/
def truD : D → Bool
  | .none => false
  | .bool b => b
  | .int i => i != 0
  | .str s => s.length != 0
  | .list ds => !ds.isEmpty
  | .tuple ds => !ds.isEmpty
  | .dict ds => !ds.isEmpty
def tAndM (f g : M Bool) : M Bool := fun ρ => (f ρ).bind fun b ρ1 => if b = true then g ρ1 else .ok false ρ1
def tOrM (f g : M Bool) : M Bool := fun ρ => (f ρ).bind fun b ρ1 => if b = true then .ok true ρ1 else g ρ1
def tNotM (f : M Bool) : M Bool := fun ρ => (f ρ).bind fun b ρ1 => .ok (!b) ρ1
def eAndM (f g : M D) : M D := fun ρ => (f ρ).bind fun b ρ1 => match b with
  | .bool true => g ρ1
  | .bool false => .ok (.bool false) ρ1
  | _ => .stuck
def eOrM (f g : M D) : M D := fun ρ => (f ρ).bind fun b ρ1 => match b with
  | .bool true => .ok (.bool true) ρ1
  | .bool false => g ρ1
  | _ => .stuck
def eNotM (f : M D) : M D := fun ρ => (f ρ).bind fun b ρ1 => match b with
  | .bool k => .ok (.bool !k) ρ1
  | _ => .stuck
def eIfM (t : M Bool) (f g : M D) : M D := fun ρ => (t ρ).bind fun b ρ1 => if b = true then f ρ1 else g ρ1
section
variable {Γ : Ctx} {a b : Expr} {fa fb : M D} {ga gb : M Bool} {pos : Pos} {rest : List Expr}
theorem jt_val (ha : JE Γ a fa) (he : ∀ (env : Env) (whole : Sem Value), isTrue a env whole = (do let v ← whole; standAt a.pos; holding [v] (truthy v)) := by intro _ _; rfl) : JT Γ a (tOfE fa) := by
  obtain ⟨ta, pa, sa⟩ := ha
  exact ⟨_, fun X hX => pt_val (pa X hX) (he _), sim_tofe sa⟩
/-- chains of tests: and, or -/
structure JW (Γ : Ctx) (e : Expr) (f : M Bool) : Prop where
  ex : ∃ te, (∀ X, Γ.At X → PW X e te) ∧ SimT Γ te f
theorem sim_and {ta tb : TT} (sa : SimT Γ ta ga) (sb : SimT Γ tb gb) : SimT Γ (tAnd ta tb) (tAndM ga gb) := fun S ow σ H ρ Q rep h =>
  sa S ow σ H ρ _ rep (h.bind.imp fun b S1 H1 ρ1 s1 f1 r1 h1 => by
    cases b with
    | true => exact sb S1 ow σ H1 ρ1 Q r1 h1
    | false => exact h1.here r1 (.refl r1.sub))
theorem sim_or {ta tb : TT} (sa : SimT Γ ta ga) (sb : SimT Γ tb gb) : SimT Γ (tOr ta tb) (tOrM ga gb) := fun S ow σ H ρ Q rep h =>
  sa S ow σ H ρ _ rep (h.bind.imp fun b S1 H1 ρ1 s1 f1 r1 h1 => by
    cases b with
    | true => exact h1.here r1 (.refl r1.sub)
    | false => exact sb S1 ow σ H1 ρ1 Q r1 h1)
theorem jw_and1 (ha : JT Γ a ga) : JW Γ (.BoolOp .And [a] pos) ga := by
  obtain ⟨ta, pa, sa⟩ := ha
  exact ⟨_, fun X hX => pw_and1 (pa X hX), sa⟩
theorem jw_or1 (ha : JT Γ a ga) : JW Γ (.BoolOp .Or [a] pos) ga := by
  obtain ⟨ta, pa, sa⟩ := ha
  exact ⟨_, fun X hX => pw_or1 (pa X hX), sa⟩
theorem jw_and (ha : JT Γ a ga) (hb : JW Γ (.BoolOp .And (b :: rest) pos) gb) : JW Γ (.BoolOp .And (a :: b :: rest) pos) (tAndM ga gb) := by
  obtain ⟨ta, pa, sa⟩ := ha
  obtain ⟨tb, pb, sb⟩ := hb
  exact ⟨_, fun X hX => pw_and (pa X hX) (pb X hX), sim_and sa sb⟩
theorem jw_or (ha : JT Γ a ga) (hb : JW Γ (.BoolOp .Or (b :: rest) pos) gb) : JW Γ (.BoolOp .Or (a :: b :: rest) pos) (tOrM ga gb) := by
  obtain ⟨ta, pa, sa⟩ := ha
  obtain ⟨tb, pb, sb⟩ := hb
  exact ⟨_, fun X hX => pw_or (pa X hX) (pb X hX), sim_or sa sb⟩
theorem jt_w (ha : JW Γ a ga) : JT Γ a ga := by
  obtain ⟨ta, pa, sa⟩ := ha
  exact ⟨_, fun X hX => (pa X hX).pt, sa⟩
theorem jt_not (ha : JT Γ a ga) : JT Γ (.UnaryOp .Not a pos) (tNotM ga) := by
  obtain ⟨ta, pa, sa⟩ := ha
  exact ⟨_, fun X hX => pt_not (pa X hX), fun S ow σ H ρ Q rep h => sa S ow σ H ρ _ rep (h.bind.imp fun b S1 H1 ρ1 s1 f1 r1 h1 => h1.here r1 (.refl r1.sub))⟩
/-- .. as values -/
theorem je_one {op} (ha : JE Γ a fa) : JE Γ (.BoolOp op [a] pos) fa := by
  obtain ⟨ta, pa, sa⟩ := ha
  exact ⟨_, fun X hX => pe_one (pa X hX), sa⟩
theorem je_and (ha : JE Γ a fa) (hb : JE Γ (.BoolOp .And (b :: rest) pos) fb) : JE Γ (.BoolOp .And (a :: b :: rest) pos) (eAndM fa fb) := by
  obtain ⟨ta, pa, sa⟩ := ha
  obtain ⟨tb, pb, sb⟩ := hb
  refine ⟨_, fun X hX => pe_and (pa X hX) (pb X hX), fun S ow σ H ρ Q rep h => sa S ow σ H ρ _ rep (h.bind.imp fun b S1 H1 ρ1 s1 f1 r1 h1 v dv => ?_)⟩
  cases b with
  | bool k =>
    cases dv
    cases k with
    | true => exact ⟨true, rfl, sb S1 ow σ H1 ρ1 Q r1 h1⟩
    | false => exact ⟨false, rfl, h1.here r1 (.refl r1.sub) _ rfl⟩
  | _ => exact h1.elim
theorem je_or (ha : JE Γ a fa) (hb : JE Γ (.BoolOp .Or (b :: rest) pos) fb) : JE Γ (.BoolOp .Or (a :: b :: rest) pos) (eOrM fa fb) := by
  obtain ⟨ta, pa, sa⟩ := ha
  obtain ⟨tb, pb, sb⟩ := hb
  refine ⟨_, fun X hX => pe_or (pa X hX) (pb X hX), fun S ow σ H ρ Q rep h => sa S ow σ H ρ _ rep (h.bind.imp fun b S1 H1 ρ1 s1 f1 r1 h1 v dv => ?_)⟩
  cases b with
  | bool k =>
    cases dv
    cases k with
    | true => exact ⟨true, rfl, h1.here r1 (.refl r1.sub) _ rfl⟩
    | false => exact ⟨false, rfl, sb S1 ow σ H1 ρ1 Q r1 h1⟩
  | _ => exact h1.elim
theorem je_not (ha : JE Γ a fa) : JE Γ (.UnaryOp .Not a pos) (eNotM fa) := by
  obtain ⟨ta, pa, sa⟩ := ha
  refine ⟨_, fun X hX => pe_not (pa X hX), fun S ow σ H ρ Q rep h => sa S ow σ H ρ _ rep (h.bind.imp fun b S1 H1 ρ1 s1 f1 r1 h1 v dv => ?_)⟩
  cases b with
  | bool k => cases dv; exact ⟨k, rfl, h1.here r1 (.refl r1.sub) _ rfl⟩
  | _ => exact h1.elim
theorem je_if {c : Expr} {gc : M Bool} (hc : JT Γ c gc) (ha : JE Γ a fa) (hb : JE Γ b fb) : JE Γ (.IfExp c a b pos) (eIfM gc fa fb) := by
  obtain ⟨tc, pc, sc⟩ := hc
  obtain ⟨ta, pa, sa⟩ := ha
  obtain ⟨tb, pb, sb⟩ := hb
  refine ⟨_, fun X hX => pe_ifExp (pc X hX) (pa X hX) (pb X hX), fun S ow σ H ρ Q rep h => sc S ow σ H ρ _ rep (h.bind.imp fun b S1 H1 ρ1 s1 f1 r1 h1 => ?_)⟩
  cases b with
  | true => exact sa S1 ow σ H1 ρ1 Q r1 h1
  | false => exact sb S1 ow σ H1 ρ1 Q r1 h1
end
end DL

/-! The data layer, part 3: what is read where it stands (views), subscripts, slices, displays, built-in functions. -/
namespace DL
open PySem PySem.Spec PyProof.Rows L2

/-- the value v is a thing that reads as d in H; what is in it is data of S -/
def DenV (K : PySem.W.Frag) (S H : Hp) : D → V → Prop
  | .list ds, v => ∃ a vs, v = .ref a ∧ SqL K H a vs ∧ ds.length ≤ sizeLine ∧ Dens K S ds vs
  | .tuple ds, v => ∃ a vs, v = .ref a ∧ SqT K H a vs ∧ ds.length ≤ sizeLine ∧ Dens K S ds vs
  | .dict kvs, v => ∃ a, v = .ref a ∧ kvs.length ≤ sizeLine ∧ ((∃ ks, H a = some (.dK ks) ∧ DenK K S kvs ks) ∨ ∃ ks, H a = some (.dT ks) ∧ DenT K S kvs ks)
  | d, v => Den K S d v
section
variable {K : PySem.W.Frag} {S S' H H' : Hp}
theorem Den.v (s : Same S H) : ∀ {d : D} {v : V}, Den K S d v → DenV K S H d v
  | .none, _, h => h
  | .bool _, _, h => h
  | .int _, _, h => h
  | .str _, _, h => h
  | .list ds, _, ⟨a, vs, e, q, z, r⟩ => ⟨a, vs, e, .of (s _ _ q), z, r⟩
  | .tuple ds, _, ⟨a, vs, e, q, z, r⟩ => ⟨a, vs, e, .of (s _ _ q), z, r⟩
  | .dict ds, _, ⟨a, e, z, .inl ⟨ks, q, r⟩⟩ => ⟨a, e, z, .inl ⟨ks, s _ _ q, r⟩⟩
  | .dict ds, _, ⟨a, e, z, .inr ⟨ks, q, r⟩⟩ => ⟨a, e, z, .inr ⟨ks, s _ _ q, r⟩⟩
theorem denv_lay : ∀ (n : Nat) (d : D) (v : V), DenV K S H d v → shp n d = true → d.canLay0 = true ∧ d.depth ≤ n
  | _, .none, _, _, _ => ⟨rfl, Nat.zero_le _⟩
  | _, .bool _, _, _, _ => ⟨rfl, Nat.zero_le _⟩
  | _, .int _, _, _, _ => ⟨rfl, Nat.zero_le _⟩
  | _, .str z, _, ⟨_, h⟩, _ => ⟨h.1, Nat.zero_le _⟩
  | 0, .list ds, _, _, h => by cases h
  | 0, .tuple ds, _, _, h => by cases h
  | n + 1, .list ds, _, ⟨_, vs, _, _, _, dv⟩, h => by
    obtain ⟨a, b⟩ := dens_lay n ds vs dv h
    exact ⟨by simpa only [PyData.canLay0] using a, by simp only [PyData.depth]; omega⟩
  | n + 1, .tuple ds, _, ⟨_, vs, _, _, _, dv⟩, h => by
    obtain ⟨a, b⟩ := dens_lay n ds vs dv h
    exact ⟨by simpa only [PyData.canLay0] using a, by simp only [PyData.depth]; omega⟩
  | n, .dict _, _, _, h => by rw [shp_dict] at h; cases h
theorem denv_shaped {d : D} {v : V} (h : DenV K S H d v) (c : shp 64 d = true) : SeqAt.shaped d = true := by
  obtain ⟨a, b⟩ := denv_lay 64 d v h c
  unfold SeqAt.shaped
  rw [a, decide_eq_true b]; rfl
theorem denv_dp (s : Same S H) : ∀ (d : D) (v : V), DenV K S H d v → d.canLay0 = true → Dp K H v d
  | .none, _, h, c => den_dp s _ _ h c
  | .bool _, _, h, c => den_dp s _ _ h c
  | .int _, _, h, c => den_dp s _ _ h c
  | .str _, _, h, c => den_dp s _ _ h c
  | .list ds, _, ⟨a, vs, e, q, z, r⟩, c => by
    subst e
    exact .lst q (den_dps s ds vs r (by simpa only [PyData.canLay0] using c))
  | .tuple ds, _, ⟨a, vs, e, q, z, r⟩, c => by
    subst e
    exact .tup q (den_dps s ds vs r (by simpa only [PyData.canLay0] using c))
  | .dict _, _, _, c => by simp [PyData.canLay0] at c
theorem dk_map {kvs : List (Key × D)} : ∀ {vs : List (Key × V)}, DKs K S kvs vs → DenK K S (kvs.map fun p => (kD p.1, p.2)) vs := by
  induction kvs with
  | nil => intro vs h; cases h; rfl
  | cons p r ih => intro vs ⟨v, t, e, x, y⟩; exact ⟨p.1, v, t, e, rfl, x, ih y⟩
theorem dt_map {kvs : List (List Key × D)} : ∀ {vs : List (List Key × V)}, DKs K S kvs vs → DenT K S (kvs.map fun p => (tD p.1, p.2)) vs := by
  induction kvs with
  | nil => intro vs h; cases h; rfl
  | cons p r ih => intro vs ⟨v, t, e, x, y⟩; exact ⟨p.1, v, t, e, rfl, x, ih y⟩
/-- what a slot's thing reads as -/
def SV.view : SV → Option D
  | .d x => some x
  | .l xs => some (.list xs)
  | .k kvs => some (.dict (kvs.map fun p => (kD p.1, p.2)))
  | .t kvs => some (.dict (kvs.map fun p => (tD p.1, p.2)))
  | .s ns => some (.list (ns.map PyData.int))
  | _ => none
theorem SvOk.view (s : Same S H) {os : List Addr} : ∀ {x : SV} {v : V} {d : D}, SvOk K S H os x v → x.view = some d → DenV K S H d v
  | .d x, v, d, ⟨_, q⟩, e => by cases e; exact Den.v s q
  | .l xs, v, d, ⟨p, vs, _, ev, q, z, r⟩, e => by cases e; exact ⟨p, vs, ev, .of q, z, r⟩
  | .k kvs, v, d, ⟨p, vs, _, ev, q, z, r⟩, e => by cases e; exact ⟨p, ev, by simpa using z, .inl ⟨vs, q, dk_map r⟩⟩
  | .t kvs, v, d, ⟨p, vs, _, ev, q, z, r⟩, e => by cases e; exact ⟨p, ev, by simpa using z, .inr ⟨vs, q, dt_map r⟩⟩
  | .s ns, v, d, ⟨_, a, ev, z, q⟩, e => by cases e; exact ⟨a, _, ev, same_l s q, by simpa using z, Dens.ints ns⟩
  | .ll _, _, _, _, e => nomatch e
  | .e _ _, _, _, _, e => nomatch e
end

def SimV (Γ : Ctx) (te : TE) (f : M D) : Prop := ∀ S ow σ H ρ (Q : VK), Rep Γ.K S ow σ H ρ →
  Post Γ ow σ S H (f ρ) (fun d S' H' _ => ∀ v, DenV Γ.K S' H' d v → Q v H') → te σ H Q
structure JV (Γ : Ctx) (e : Expr) (f : M D) : Prop where
  ex : ∃ te, (∀ X, Γ.At X → PE X e te) ∧ SimV Γ te f
/-- the thing of slot i as it stands -/
def eSlot (i : Nat) : M D := fun ρ => match ρ[i]? with
  | some (some x) => ofOpt x.view ρ
  | _ => .stuck
section
variable {Γ : Ctx} {e a b : Expr} {f fa fb : M D} {pos : Pos}
theorem jv_of (h : JE Γ e f) : JV Γ e f := by
  obtain ⟨te, p, s⟩ := h
  exact ⟨te, p, fun S ow σ H ρ Q rep h => s S ow σ H ρ Q rep (h.imp fun d S1 H1 ρ1 s1 f1 r1 q v dv => q v (Den.v r1.sub dv))⟩
theorem slot_get {S H : Hp} {ow : Nat → List Addr} {σ : L2.St} {ρ : Rho} (r : Rep Γ.K S ow σ H ρ) {i : Nat} {x : SV} {d : D} (e : ρ[i]? = some (some x)) (ev : x.view = some d) : ∃ v, σ[i]? = some (some v) ∧ DenV Γ.K S H d v := by
  obtain ⟨v, h1, h2⟩ := r.sl i x e
  exact ⟨v, h1, h2.view r.sub ev⟩
theorem eSlot_some {i : Nat} {ρ : Rho} {Q : Res D → Prop} (h : Q (eSlot i ρ)) (hs : ¬ Q .stuck) : ∃ x d, ρ[i]? = some (some x) ∧ x.view = some d ∧ Q (.ok d ρ) := by
  unfold eSlot at h
  cases e : ρ[i]? with
  | none => rw [e] at h; exact absurd h hs
  | some o =>
    rw [e] at h
    cases o with
    | none => exact absurd h hs
    | some x =>
      cases ev : x.view with
      | none => exact absurd (by simpa [ev] using h) hs
      | some d => exact ⟨x, d, rfl, ev, by simpa [ev] using h⟩
theorem jv_slot {x : Str} (i : Nat) (hN : Γ.N[i]? = some x := by rfl) (hv : Vis Γ.sc x := by first | exact Or.inl rfl | exact Or.inr (Or.inl rfl) | exact Or.inr (Or.inr rfl)) (hd : (x == ("__debug__" : Str)) = false := by decide)
    (hcd : (x == ("__classdict__" : Str)) = false := by decide) : JV Γ (.Name x pos) (eSlot i) := by
  refine ⟨_, fun X hX => pe_var (by rw [hX.N]; exact hN) (by rw [hX.sc]; exact hv) hd hcd, fun S ow σ H ρ Q rep h => ?_⟩
  obtain ⟨y, d, e1, e2, h⟩ := eSlot_some (Q := fun r => Post Γ ow σ S H r (fun d S' H' _ => ∀ v, DenV Γ.K S' H' d v → Q v H')) h (fun z => z)
  obtain ⟨v, h1, h2⟩ := slot_get rep e1 e2
  exact ⟨v, h1, h.here rep (.refl rep.sub) v h2⟩

/-! ### two-place operations on views -/
def R2V (Γ : Ctx) (r : R2) (g : D → D → Option D) : Prop := ∀ (S H : Hp) (a b : D) (x y : V) (Q : VK), Same S H → DenV Γ.K S H a x → DenV Γ.K S H b y → PostV Γ S H (g a b) Q → r x y H Q
theorem Den.vv {S S' H : Hp} {d : D} {v : V} (h : Den Γ.K S d v) (s : Same S S') (q : Same S' H) : DenV Γ.K S' H d v := Den.v q (Den.mono s _ _ h)
/-- data first, a view last -/
theorem sim_opV {r : R2} {g : D → D → Option D} {ta tb : TE} (hr : R2V Γ r g) (ha : Sim Γ ta fa) (hb : SimV Γ tb fb) : Sim Γ (tOp r ta tb) (eOp g fa fb) := fun S ow σ H ρ Q rep h =>
  ha S ow σ H ρ _ rep (h.bind.imp fun a S1 H1 ρ1 s1 f1 r1 h1 v dv => hb S1 ow σ H1 ρ1 _ r1 (h1.bind.imp fun b S2 H2 ρ2 s2 f2 r2 h2 u du => hr S2 H2 a b v u Q r2.sub (dv.vv s2 r2.sub) du (.of h2 r2)))
/-- a slot's thing first: it is looked at when the second one is there -/
def eOpS (g : D → D → Option D) (i : Nat) (fb : M D) : M D := fun ρ => match ρ[i]? with
  | some (some _) => (fb ρ).bind fun b ρ1 => (eSlot i ρ1).bind fun a ρ2 => ofOpt (g a b) ρ2
  | _ => .stuck
theorem sim_opS {r : R2} {g : D → D → Option D} {tb : TE} {i : Nat} (hr : R2V Γ r g) (hb : SimV Γ tb fb) : Sim Γ (tOp r (tVar i) tb) (eOpS g i fb) := fun S ow σ H ρ Q rep h => by
  unfold eOpS at h
  split at h
  · rename_i x ex
    obtain ⟨v, hs, _⟩ := rep.sl i _ ex
    exact ⟨v, hs, hb S ow σ H ρ _ rep (h.bind.imp fun b S2 H2 ρ2 s2 f2 r2 h2 u du => by
      obtain ⟨y, d, e1, e2, h3⟩ := eSlot_some (Q := fun r => Post Γ ow σ S2 H2 r (fun a S3 H3 ρ3 => Post Γ ow σ S3 H3 (ofOpt (g a b) ρ3) (fun d S' H' _ => ∀ v, Den Γ.K S' d v → Q v H'))) h2.bind (fun z => z)
      obtain ⟨v', h4, h5⟩ := slot_get r2 e1 e2
      rw [hs] at h4
      cases h4
      exact hr S2 H2 d b v u Q r2.sub h5 du (.of (h3.here r2 (.refl r2.sub)) r2))⟩
  · exact h.elim
theorem rEqD_v : R2V Γ (rEqD Γ.K) gEq := by
  intro S H a b x y Q s da db h
  unfold gEq at h
  by_cases c : shp 64 a = true ∧ shp 64 b = true
  · rw [if_pos c] at h
    replace c := And.intro (denv_shaped da c.1) (denv_shaped db c.2)
    exact ⟨a, b, denv_dp s a x da (SeqAt.canLay_of_shaped c.1), denv_dp s b y db (SeqAt.canLay_of_shaped c.2), c.1, c.2, h.now s rfl⟩
  · rw [if_neg c] at h
    exact h.elim
theorem rNeD_v : R2V Γ (rNeD Γ.K) gNe := by
  intro S H a b x y Q s da db h
  unfold gNe at h
  by_cases c : shp 64 a = true ∧ shp 64 b = true
  · rw [if_pos c] at h
    replace c := And.intro (denv_shaped da c.1) (denv_shaped db c.2)
    exact ⟨a, b, denv_dp s a x da (SeqAt.canLay_of_shaped c.1), denv_dp s b y db (SeqAt.canLay_of_shaped c.2), c.1, c.2, h.now s rfl⟩
  · rw [if_neg c] at h
    exact h.elim
theorem rInA_v : R2V Γ (rInA Γ.K) gIn := by
  intro S H a b x y Q s da db h
  cases b with
  | str j =>
    cases a with
    | str i =>
      obtain ⟨rfl, hi⟩ := da
      obtain ⟨rfl, hj⟩ := db
      exact .inl ⟨i, j, rfl, rfl, h.now s rfl⟩
    | _ => exact h.elim
  | list ds =>
    have h' : PostV Γ S H (if shp 64 a = true ∧ shp 64 (.list ds) = true then some (.bool (ds.any fun z => PyData.eqv z a)) else none) Q := by cases a <;> exact h
    by_cases c : shp 64 a = true ∧ shp 64 (.list ds) = true
    · rw [if_pos c] at h'
      replace c := And.intro (denv_shaped da c.1) (denv_shaped db c.2)
      exact .inr (.inl ⟨a, ds, denv_dp s a x da (SeqAt.canLay_of_shaped c.1), denv_dp s _ y db (SeqAt.canLay_of_shaped c.2), c.1, c.2, h'.now s rfl⟩)
    · rw [if_neg c] at h'
      exact h'.elim
  | tuple ds =>
    have h' : PostV Γ S H (if shp 64 a = true ∧ shp 64 (.tuple ds) = true then some (.bool (ds.any fun z => PyData.eqv z a)) else none) Q := by cases a <;> exact h
    by_cases c : shp 64 a = true ∧ shp 64 (.tuple ds) = true
    · rw [if_pos c] at h'
      replace c := And.intro (denv_shaped da c.1) (denv_shaped db c.2)
      exact .inr (.inr ⟨a, ds, denv_dp s a x da (SeqAt.canLay_of_shaped c.1), denv_dp s _ y db (SeqAt.canLay_of_shaped c.2), c.1, c.2, h'.now s rfl⟩)
    · rw [if_neg c] at h'
      exact h'.elim
  | _ => cases a <;> exact h.elim
theorem rNotInA_v : R2V Γ (rNotInA Γ.K) gNotIn := by
  intro S H a b x y Q s da db h
  unfold gNotIn at h
  cases b with
  | str j =>
    cases a with
    | str i =>
      obtain ⟨rfl, hi⟩ := da
      obtain ⟨rfl, hj⟩ := db
      exact .inl ⟨i, j, rfl, rfl, h.now s rfl⟩
    | _ => exact h.elim
  | list ds =>
    have h' : PostV Γ S H ((if shp 64 a = true ∧ shp 64 (.list ds) = true then some (.bool (ds.any fun z => PyData.eqv z a)) else none).bind bNot) Q := by cases a <;> exact h
    by_cases c : shp 64 a = true ∧ shp 64 (.list ds) = true
    · rw [if_pos c] at h'
      replace c := And.intro (denv_shaped da c.1) (denv_shaped db c.2)
      exact .inr (.inl ⟨a, ds, denv_dp s a x da (SeqAt.canLay_of_shaped c.1), denv_dp s _ y db (SeqAt.canLay_of_shaped c.2), c.1, c.2, h'.now s rfl⟩)
    · rw [if_neg c] at h'
      exact h'.elim
  | tuple ds =>
    have h' : PostV Γ S H ((if shp 64 a = true ∧ shp 64 (.tuple ds) = true then some (.bool (ds.any fun z => PyData.eqv z a)) else none).bind bNot) Q := by cases a <;> exact h
    by_cases c : shp 64 a = true ∧ shp 64 (.tuple ds) = true
    · rw [if_pos c] at h'
      replace c := And.intro (denv_shaped da c.1) (denv_shaped db c.2)
      exact .inr (.inr ⟨a, ds, denv_dp s a x da (SeqAt.canLay_of_shaped c.1), denv_dp s _ y db (SeqAt.canLay_of_shaped c.2), c.1, c.2, h'.now s rfl⟩)
    · rw [if_neg c] at h'
      exact h'.elim
  | _ => cases a <;> exact h.elim
theorem jc_inV (ha : JE Γ a fa) (hb : JV Γ b fb) (hm : behindInMarks .In b = false := by rfl) : JC Γ (.Compare a [.In] [b] pos) (eOp gIn fa fb) := by
  obtain ⟨ta, pa, sa⟩ := ha
  obtain ⟨tb, pb, sb⟩ := hb
  exact jc_of (fun X hX => by rw [← hX.K]; exact op_in_str.or ((op_inD hX.un).or (op_inT hX.un))) pa pb hm (sim_opV rInA_v sa sb)
theorem jc_notinV (ha : JE Γ a fa) (hb : JV Γ b fb) (hm : behindInMarks .NotIn b = false := by rfl) : JC Γ (.Compare a [.NotIn] [b] pos) (eOp gNotIn fa fb) := by
  obtain ⟨ta, pa, sa⟩ := ha
  obtain ⟨tb, pb, sb⟩ := hb
  exact jc_of (fun X hX => by rw [← hX.K]; exact L2.op_notin_str.or ((op_notInD hX.un).or (op_notInT hX.un))) pa pb hm (sim_opV rNotInA_v sa sb)

/-! ### subscripts -/
def atD (ds : List D) (i : Int) : Option D := atI ds i
def gIx : D → D → Option D
  | .list ds, .int i => atI ds i
  | .tuple ds, .int i => atI ds i
  | .str z, .int i => (atI z.cps.toList i).map fun c => .str ⟨#[c]⟩
  | _, _ => none
theorem dens_at {K : PySem.W.Frag} {S : Hp} {ds : List D} {vs : List V} {i : Int} {d : D} (h : Dens K S ds vs) (e : atI ds i = some d) : ∃ v, atI vs i = some v ∧ Den K S d v := by
  unfold atI at e ⊢
  rw [← h.len]
  cases q : ixN ds.length i with
  | none => rw [q] at e; cases e
  | some j =>
    rw [q] at e
    exact h.get (by simpa using e)
theorem one_ok {z : Str} {c : Nat} {j : Nat} (h : sOk z) (e : z.cps.toList[j]? = some c) : sOk ⟨#[c]⟩ := by
  have h1 : (z.cps.all fun x => decide (x < 0x110000)) = true := h.1
  have hm : c ∈ z.cps.toList := List.mem_of_getElem? e
  rw [Array.all_eq_true_iff_forall_mem] at h1
  have := h1 c (by simpa using hm)
  refine ⟨?_, by show 1 ≤ sizeLine; decide⟩
  show ((#[c] : Array Nat).all fun x => decide (x < 0x110000)) = true
  simpa using this
theorem rIx_v : R2V Γ (rIx Γ.K) gIx := by
  intro S H a b x y Q s da db h
  cases b with
  | int i =>
    cases db
    cases a with
    | list ds =>
      obtain ⟨p, vs, rfl, hp, zp, dp⟩ := da
      dsimp only [gIx] at h
      cases e : atI ds i with
      | none => rw [e] at h; exact h.elim
      | some d =>
        rw [e] at h
        obtain ⟨v, h1, h2⟩ := dens_at dp e
        exact .inl ⟨p, vs, i, v, rfl, rfl, hp, h1, h.now s h2⟩
    | tuple ds =>
      obtain ⟨p, vs, rfl, hp, zp, dp⟩ := da
      dsimp only [gIx] at h
      cases e : atI ds i with
      | none => rw [e] at h; exact h.elim
      | some d =>
        rw [e] at h
        obtain ⟨v, h1, h2⟩ := dens_at dp e
        exact .inr (.inl ⟨p, vs, i, v, rfl, rfl, hp, h1, h.now s h2⟩)
    | str z =>
      obtain ⟨rfl, hz⟩ := da
      dsimp only [gIx] at h
      cases e : atI z.cps.toList i with
      | none => rw [e] at h; exact h.elim
      | some c =>
        rw [e] at h
        have ok : sOk ⟨#[c]⟩ := by
          unfold atI at e
          cases q : ixN z.cps.toList.length i with
          | none => rw [q] at e; cases e
          | some j => rw [q] at e; exact one_ok hz (by simpa using e)
        exact .inr (.inr ⟨z, i, c, rfl, rfl, hz.2, e, h.now s ⟨rfl, ok⟩⟩)
    | _ => exact h.elim
  | _ => cases a <;> exact h.elim
theorem ix_or {X : Cx} (hX : Γ.At X) : IxR X (rIx Γ.K) := by rw [← hX.K]; exact ix_seq
theorem je_ix (ha : JE Γ a fa) (hb : JE Γ b fb) (hs : PlainIx b := by exact fun _ _ => rfl) : JE Γ (.Subscript a b pos) (eOp gIx fa fb) := by
  obtain ⟨ta, pa, sa⟩ := ha
  obtain ⟨tb, pb, sb⟩ := jv_of hb
  exact ⟨_, fun X hX => pe_ix (ix_or hX) (pa X hX) (pb X hX) hs, sim_opV rIx_v sa sb⟩
/-- a slot's name first: x[i], x == y, x != y of a list that is the def's own -/
theorem pe_slot {x : Str} (i : Nat) {X : Cx} (hX : Γ.At X) (hN : Γ.N[i]? = some x) (hv : Vis Γ.sc x) (hd : (x == ("__debug__" : Str)) = false) (hcd : (x == ("__classdict__" : Str)) = false) : PE X (.Name x pos) (tVar i) :=
  pe_var (by rw [hX.N]; exact hN) (by rw [hX.sc]; exact hv) hd hcd
theorem je_ixS {x : Str} {ps : Pos} (i : Nat) (hb : JE Γ b fb) (hs : PlainIx b := by exact fun _ _ => rfl) (hN : Γ.N[i]? = some x := by rfl) (hv : Vis Γ.sc x := by first | exact Or.inl rfl | exact Or.inr (Or.inl rfl) | exact Or.inr (Or.inr rfl)) (hd : (x == ("__debug__" : Str)) = false := by decide)
    (hcd : (x == ("__classdict__" : Str)) = false := by decide) : JE Γ (.Subscript (.Name x ps) b pos) (eOpS gIx i fb) := by
  obtain ⟨tb, pb, sb⟩ := jv_of hb
  exact ⟨_, fun X hX => pe_ix (ix_or hX) (pe_slot i hX hN hv hd hcd) (pb X hX) hs, sim_opS rIx_v sb⟩
theorem jc_eqS {x : Str} {ps : Pos} (i : Nat) (hb : JE Γ b fb) (hN : Γ.N[i]? = some x := by rfl) (hv : Vis Γ.sc x := by first | exact Or.inl rfl | exact Or.inr (Or.inl rfl) | exact Or.inr (Or.inr rfl)) (hd : (x == ("__debug__" : Str)) = false := by decide)
    (hcd : (x == ("__classdict__" : Str)) = false := by decide) : JC Γ (.Compare (.Name x ps) [.Eq] [b] pos) (eOpS gEq i fb) := by
  obtain ⟨tb, pb, sb⟩ := jv_of hb
  exact jc_of (fun X hX => by rw [← hX.K]; exact op_eqD hX.u64) (fun X hX => pe_slot i hX hN hv hd hcd) pb (nomark _) (sim_opS rEqD_v sb)
theorem jc_neS {x : Str} {ps : Pos} (i : Nat) (hb : JE Γ b fb) (hN : Γ.N[i]? = some x := by rfl) (hv : Vis Γ.sc x := by first | exact Or.inl rfl | exact Or.inr (Or.inl rfl) | exact Or.inr (Or.inr rfl)) (hd : (x == ("__debug__" : Str)) = false := by decide)
    (hcd : (x == ("__classdict__" : Str)) = false := by decide) : JC Γ (.Compare (.Name x ps) [.NotEq] [b] pos) (eOpS gNe i fb) := by
  obtain ⟨tb, pb, sb⟩ := jv_of hb
  exact jc_of (fun X hX => by rw [← hX.K]; exact op_neD hX.u64) (fun X hX => pe_slot i hX hN hv hd hcd) pb (nomark _) (sim_opS rNeD_v sb)
end
end DL

/-! The data layer, part 4: arguments, displays, what is new, built-in functions, slices. -/
namespace DL
open PySem PySem.Spec PyProof.Rows L2

section
variable {Γ : Ctx} {e a b : Expr} {es : List Expr} {f fa fb : M D} {pos : Pos}
def aNil : M (List D) := fun ρ => .ok [] ρ
def aCons (f : M D) (g : M (List D)) : M (List D) := fun ρ => (f ρ).bind fun d ρ1 => (g ρ1).bind fun ds ρ2 => .ok (d :: ds) ρ2
theorem ja_nil : JA Γ [] aNil := ⟨⟨_, fun _ _ => pa_nil, fun S ow σ H ρ Q rep h => h.here rep (.refl rep.sub) [] rfl⟩, fun ρ ds ρ' h => by cases h; rfl⟩
theorem acons_len {f : M D} {g : M (List D)} {n : Nat} (h : ∀ ρ ds ρ', g ρ = .ok ds ρ' → ds.length = n) : ∀ ρ ds ρ', aCons f g ρ = .ok ds ρ' → ds.length = n + 1 := fun ρ ds ρ' e => by
  unfold aCons at e
  cases ef : f ρ with
  | stuck => rw [ef] at e; cases e
  | err x ρ1 => rw [ef] at e; cases e
  | ok d ρ1 =>
    rw [ef] at e
    simp only [Res.bind_ok] at e
    cases eg : g ρ1 with
    | stuck => rw [eg] at e; cases e
    | err x ρ2 => rw [eg] at e; cases e
    | ok es ρ2 => rw [eg] at e; cases e; rw [List.length_cons, h _ _ _ eg]
theorem sim_cons {te : TE} {ta : TA} {g : M (List D)} (sa : Sim Γ te f) (sb : SimA Γ ta g) : SimA Γ (tCons te ta) (aCons f g) := fun S ow σ H ρ Q rep h =>
  sa S ow σ H ρ _ rep (h.bind.imp fun a S1 H1 ρ1 s1 f1 r1 h1 v dv => sb S1 ow σ H1 ρ1 _ r1 (h1.bind.imp fun ds S2 H2 ρ2 s2 f2 r2 h2 vs dvs => h2.here r2 (.refl r2.sub) _ (Dens.cons (Den.mono s2 _ _ dv) dvs)))
theorem ja_cons {g : M (List D)} (ha : JE Γ e f) (hb : JA Γ es g) (hs : ∀ env, starEach (e :: es) env = (false, eval e env) :: starEach es env := by intro _; rfl) : JA Γ (e :: es) (aCons f g) := by
  obtain ⟨ta, pa, sa⟩ := ha
  obtain ⟨⟨tb, pb, sb⟩, lb⟩ := hb
  exact ⟨⟨_, fun X hX => pa_cons (pa X hX) (pb X hX) (hs _), sim_cons sa sb⟩, acons_len lb⟩

/-! ### what is new -/
def SV.frz : SV → Option D
  | .d x => some x
  | .l xs => some (.list xs)
  | .k kvs => some (.dict (kvs.map fun p => (kD p.1, p.2)))
  | .t kvs => some (.dict (kvs.map fun p => (tD p.1, p.2)))
  | .ll xss => some (.list (xss.map PyData.list))
  | _ => none
def addS (S H : Hp) (os : List Addr) : Hp := fun b => if b ∈ os then H b else S b
theorem addS_in {S H : Hp} {os : List Addr} {b : Addr} (h : b ∈ os) : addS S H os b = H b := by unfold addS; rw [if_pos h]
theorem addS_out {S H : Hp} {os : List Addr} {b : Addr} (h : b ∉ os) : addS S H os b = S b := by unfold addS; rw [if_neg h]
theorem addS_same {S H : Hp} {os : List Addr} (n : ∀ p ∈ os, S p = none) : Same S (addS S H os) := fun b o e => by
  by_cases h : b ∈ os
  · rw [n b h] at e; cases e
  · rw [addS_out h]; exact e
theorem addS_sub {S H : Hp} {os : List Addr} (s : Same S H) : Same (addS S H os) H := fun b o e => by
  by_cases h : b ∈ os
  · rw [addS_in h] at e; exact e
  · rw [addS_out h] at e; exact s b o e
theorem dls_frz {K : PySem.W.Frag} {S S' H : Hp} (s : Same S S') : ∀ {xss : List (List D)} {qs : List Addr}, (∀ q ∈ qs, S' q = H q) → DLs K S H xss qs → Dens K S' (xss.map PyData.list) (qs.map V.ref)
  | [], _, _, x => by cases x; rfl
  | xs :: xss, _, k, ⟨q, r, vs, e, x, z, y, w⟩ => by
    subst e
    exact ⟨_, _, rfl, ⟨q, vs, rfl, by rw [k q List.mem_cons_self]; exact x, z, Dens.mono s _ _ y⟩, dls_frz s (fun p hp => k p (List.mem_cons_of_mem _ hp)) w⟩
theorem svok_frz {K : PySem.W.Frag} {S H : Hp} {os : List Addr} (n : ∀ p ∈ os, S p = none) : ∀ {x : SV} {v : V} {d : D}, SvOk K S H os x v → x.frz = some d → Den K (addS S H os) d v
  | .d x, v, d, ⟨e, q⟩, ed => by cases ed; exact Den.mono (addS_same n) _ _ q
  | .l xs, v, d, ⟨p, vs, e, ev, q, z, r⟩, ed => by cases ed; exact ⟨p, vs, ev, by rw [addS_in (by rw [e]; exact List.mem_cons_self)]; exact q, z, Dens.mono (addS_same n) _ _ r⟩
  | .k kvs, v, d, ⟨p, vs, e, ev, q, z, r⟩, ed => by cases ed; exact ⟨p, ev, by simpa using z, .inl ⟨vs, by rw [addS_in (by rw [e]; exact List.mem_cons_self)]; exact q, dk_map (DKs.mono (addS_same n) r)⟩⟩
  | .t kvs, v, d, ⟨p, vs, e, ev, q, z, r⟩, ed => by cases ed; exact ⟨p, ev, by simpa using z, .inr ⟨vs, by rw [addS_in (by rw [e]; exact List.mem_cons_self)]; exact q, dt_map (DKs.mono (addS_same n) r)⟩⟩
  | .ll xss, v, d, ⟨p, qs, e, ev, q, z, nd, r⟩, ed => by
    cases ed
    exact ⟨p, _, ev, by rw [addS_in (by rw [e]; exact List.mem_cons_self)]; exact q, by simpa using z, dls_frz (addS_same n) (fun c hc => addS_in (by rw [e]; exact List.mem_cons_of_mem _ hc)) r⟩
  | .e _ _, _, _, _, ed => nomatch ed
  | .s _, _, _, _, ed => nomatch ed
theorem Rep.add {K : PySem.W.Frag} {S H : Hp} {ow : Nat → List Addr} {σ : L2.St} {ρ : Rho} {os : List Addr} (r : Rep K S ow σ H ρ) (n : ∀ p ∈ os, S p = none ∧ ∀ i, p ∉ ow i) : Rep K (addS S H os) ow σ H ρ where
  sub := addS_sub r.sub
  dis := fun i p hp => by
    by_cases h : p ∈ os
    · exact absurd hp ((n p h).2 i)
    · rw [addS_out h]; exact r.dis i p hp
  inj := r.inj
  al := r.al
  len := r.len
  sl := fun i x e => by
    obtain ⟨v, h1, h2⟩ := r.sl i x e
    exact ⟨v, h1, h2.mono (addS_same fun p hp => (n p hp).1) fun p _ o q => q⟩
  no := r.no
/-- what is new, as data -/
def eFrz (f : M SV) : M D := fun ρ => (f ρ).bind fun x ρ1 => ofOpt x.frz ρ1
theorem sim_frz {te : TE} {f : M SV} (s : SimO Γ te f) : Sim Γ te (eFrz f) := fun S ow σ H ρ Q rep h =>
  s S ow σ H ρ Q rep (by
    unfold eFrz at h
    cases ef : f ρ with
    | stuck => rw [ef] at h; exact h
    | err x ρ1 => rw [ef] at h; exact h
    | ok x ρ1 =>
      rw [ef] at h
      intro S1 H1 st r1 v os ok n
      have h1 : Post Γ ow σ S H (ofOpt x.frz ρ1) _ := h
      cases e : x.frz with
      | none => rw [e] at h1; exact h1.elim
      | some d =>
        rw [e] at h1
        refine h1 (addS S1 H1 os) H1 ⟨st.ss.trans (addS_same fun p hp => (n p hp).1), st.fr, st.dom, fun p h3 h4 => ?_⟩ (r1.add fun p hp => ⟨(n p hp).1, (n p hp).2.2⟩) v (svok_frz (fun p hp => (n p hp).1) ok e)
        by_cases hp : p ∈ os
        · exact (n p hp).2.1
        · rw [addS_out hp] at h3
          exact st.new p h3 h4)
theorem je_new {f : M SV} (h : JO Γ e f) : JE Γ e (eFrz f) := by
  obtain ⟨te, p, s⟩ := h
  exact ⟨te, p, sim_frz s⟩
/-- a new list of these -/
def NewL (Γ : Ctx) (S H : Hp) (xs : List D) (Q : VK) : Prop := xs.length ≤ sizeLine → ∀ p vs, H p = none → Dens Γ.K S xs vs → Q (.ref p) (upd H p (.lst vs))
theorem NewL.of {ow σ S H ρ} {xs : List D} {Q : VK} {H0 : Hp} (h : Post Γ ow σ S H (.ok (.l xs) ρ) (fun x S' H' _ => ∀ v os, SvOk Γ.K S' H' os x v → (∀ p ∈ os, S' p = none ∧ H0 p = none ∧ ∀ i, p ∉ ow i) → Q v H')) (r : Rep Γ.K S ow σ H ρ) (k : Fr ow H0 H) (al : ∀ i p, p ∈ ow i → H0 p ≠ none) : NewL Γ S H xs Q := fun z p vs n d => by
  have g := Grow.aside (o := .lst vs) r.sub n
  refine h.here r g _ [p] ⟨p, vs, rfl, rfl, upd_same, z, d⟩ fun q hq => ?_
  have : q = p := List.mem_singleton.mp hq
  subst this
  have no : ∀ i, q ∉ ow i := fun i hi => r.al i q hi n
  refine ⟨r.sub.free n, ?_, no⟩
  cases e : H0 q with
  | none => rfl
  | some o => rw [k q o e no] at n; cases n

/-! ### displays -/
def eTup (g : M (List D)) : M D := fun ρ => (g ρ).bind fun ds ρ1 => if ds.length ≤ sizeLine then .ok (.tuple ds) ρ1 else .stuck
def oLst (g : M (List D)) : M SV := fun ρ => (g ρ).bind fun ds ρ1 => if ds.length ≤ sizeLine then .ok (.l ds) ρ1 else .stuck
theorem je_tup {k : Nat} {g : M (List D)} (ha : JA Γ es g) : JE Γ (.Tuple es k pos) (eTup g) := by
  obtain ⟨⟨ta, pa, sa⟩, _⟩ := ha
  refine ⟨_, fun X hX => pe_tup (pa X hX), fun S ow σ H ρ Q rep h => sa S ow σ H ρ _ rep (h.bind.imp fun ds S1 H1 ρ1 s1 f1 r1 h1 vs dv => ?_)⟩
  by_cases z : ds.length ≤ sizeLine
  · rw [if_pos z] at h1
    refine ⟨by rw [← dv.len]; exact z, fun p n => ?_⟩
    have g := Grow.add (o := .tup vs) r1.sub n
    exact h1.here r1 g _ ⟨p, vs, rfl, upd_same, z, Dens.mono g.ss _ _ dv⟩
  · rw [if_neg z] at h1
    exact h1.elim
theorem jo_lst {g : M (List D)} (ha : JA Γ es g) : JO Γ (.List es pos) (oLst g) := by
  obtain ⟨⟨ta, pa, sa⟩, _⟩ := ha
  refine ⟨_, fun X hX => pe_lst (pa X hX), fun S ow σ H ρ Q rep h => sa S ow σ H ρ _ rep (h.bind.imp fun ds S1 H1 ρ1 s1 f1 r1 h1 vs dv => ?_)⟩
  by_cases z : ds.length ≤ sizeLine
  · rw [if_pos z] at h1
    exact ⟨by rw [← dv.len]; exact z, fun p n => NewL.of h1 r1 f1 rep.al z p vs n dv⟩
  · rw [if_neg z] at h1
    exact h1.elim

/-! ### built-in functions of one thing -/
def Call1 (Γ : Ctx) (r : List V → Hp → VK → Prop) (g : D → Option D) : Prop := ∀ (S H : Hp) (a : D) (x : V) (Q : VK), Same S H → DenV Γ.K S H a x → PostV Γ S H (g a) Q → r [x] H Q
def eCall1 (g : D → Option D) (f : M D) : M D := fun ρ => (f ρ).bind fun a ρ1 => ofOpt (g a) ρ1
theorem sim_call1 {r : List V → Hp → VK → Prop} {g : D → Option D} {te : TE} (hr : Call1 Γ r g) (s : SimV Γ te f) : Sim Γ (tCB r (tCons te tNil)) (eCall1 g f) := fun S ow σ H ρ Q rep h =>
  s S ow σ H ρ _ rep (h.bind.imp fun a S1 H1 ρ1 s1 f1 r1 h1 v dv => hr S1 H1 a v Q r1.sub dv (.of h1 r1))
theorem pa_one {X : Cx} {te : TE} (h : PE X e te) (hs : starEach [e] X.env = [(false, eval e X.env)] := by rfl) : PA X [e] (tCons te tNil) := pa_cons h pa_nil (by rw [hs]; rfl)
theorem je_call1 {x : Str} {p : Pos} {id : String} {r : List V → Hp → VK → Prop} {g : D → Option D} (hc : ∀ X, Γ.At X → CallR X (.builtin id) r) (hr : Call1 Γ r g) (hm : Γ.mg x = none) (hv : bootBuiltins x = some (.builtin id)) (ha : JV Γ e f)
    (hg : Γ.G x := by rfl) (hn : x ≠ "__name__" := by decide) (hdb : (x == ("__debug__" : Str)) = false := by decide)
    (he : ∀ env, starEach [e] env = [(false, eval e env)] := by intro _; rfl) : JE Γ (.Call (.Name x p) [e] [] pos) (eCall1 g f) := by
  obtain ⟨te, pe, s⟩ := ha
  refine ⟨_, fun X hX => pe_callB (hc X hX) (by show X.env.scope.names.lookup x = _; rw [hX.sc]; exact hg) (by rw [hX.mg]; exact hm) hv (pa_one (pe X hX) (he _)) hn hdb (by rw [he]; rfl) (by rfl), sim_call1 hr s⟩
theorem je_callTy1 {x : Str} {p : Pos} {T : String} {r : List V → Hp → VK → Prop} {g : D → Option D} (hc : ∀ X, Γ.At X → CallR X (.type T) r) (hr : Call1 Γ r g) (hm : Γ.mg x = none) (hv : bootBuiltins x = some (.type T)) (ha : JV Γ e f)
    (hg : Γ.G x := by rfl) (hn : x ≠ "__name__" := by decide) (hdb : (x == ("__debug__" : Str)) = false := by decide)
    (he : ∀ env, starEach [e] env = [(false, eval e env)] := by intro _; rfl) : JE Γ (.Call (.Name x p) [e] [] pos) (eCall1 g f) := by
  obtain ⟨te, pe, s⟩ := ha
  refine ⟨_, fun X hX => pe_callTy (hc X hX) (by show X.env.scope.names.lookup x = _; rw [hX.sc]; exact hg) (by rw [hX.mg]; exact hm) hv (pa_one (pe X hX) (he _)) hn hdb (by rw [he]; rfl) (by rfl), sim_call1 hr s⟩
/-- the names of built-ins that the module leaves alone -/
structure Bl (mg : Str → Option Value) : Prop where
  len : mg "len" = none
  int : mg "int" = none
  str : mg "str" = none
  bool : mg "bool" = none
  isinstance : mg "isinstance" = none
  all : mg "all" = none
  any : mg "any" = none
  sum : mg "sum" = none
  max : mg "max" = none
  min : mg "min" = none
  abs : mg "abs" = none
  sorted : mg "sorted" = none
  list : mg "list" = none
  tuple : mg "tuple" = none
  dict : mg "dict" = none
  set : mg "set" = none
  range : mg "range" = none
  zip : mg "zip" = none
  enumerate : mg "enumerate" = none
  repr : mg "repr" = none
def lenD : D → Option D
  | .str s => some (.int s.length)
  | .list ds => some (.int ds.length)
  | .tuple ds => some (.int ds.length)
  | .dict ds => some (.int ds.length)
  | _ => none
abbrev rLenA (K : PySem.W.Frag) : List V → Hp → VK → Prop := fun xs H Q => (∃ x n, xs = [x] ∧ LenV K x H n ∧ Q (.int n) H) ∨ ∃ a kvs, xs = [V.ref a] ∧ H a = some (.dK kvs) ∧ Q (.int kvs.length) H
theorem denk_len {K : PySem.W.Frag} {S : Hp} : ∀ {ds : List (D × D)} {ks : List (Key × V)}, DenK K S ds ks → ds.length = ks.length
  | [], _, x => by cases x; rfl
  | (k, d) :: ds, _, ⟨k', v, r, e, _, _, y⟩ => by subst e; rw [List.length_cons, List.length_cons, denk_len y]
theorem call1_len : Call1 Γ (rLenA Γ.K) (fun d => match d with | .dict _ => none | d => lenD d) := by
  intro S H a x Q s da h
  cases a with
  | str z => obtain ⟨rfl, hz⟩ := da; exact .inl ⟨_, _, rfl, ⟨hz.2, rfl⟩, h.now s rfl⟩
  | list ds =>
    obtain ⟨p, vs, rfl, hp, z, dv⟩ := da
    exact .inl ⟨_, _, rfl, .inl ⟨vs, hp, rfl⟩, by rw [← dv.len]; exact h.now s rfl⟩
  | tuple ds =>
    obtain ⟨p, vs, rfl, hp, z, dv⟩ := da
    exact .inl ⟨_, _, rfl, .inr ⟨vs, hp, rfl⟩, by rw [← dv.len]; exact h.now s rfl⟩
  | _ => exact h.elim
/-- len of a list, a tuple, a text -/
def lenS : D → Option D
  | .dict _ => none
  | d => lenD d
theorem je_len {p : Pos} (hB : Bl Γ.mg) (ha : JV Γ e f) (hg : Γ.G "len" := by rfl) (he : ∀ env, starEach [e] env = [(false, eval e env)] := by intro _; rfl) : JE Γ (.Call (.Name "len" p) [e] [] pos) (eCall1 lenS f) :=
  je_call1 (r := fun xs H Q => ∃ x n, xs = [x] ∧ LenV Γ.K x H n ∧ Q (.int n) H) (fun X hX => by rw [← hX.K]; exact call_len) (fun S H a x Q s da h => by
    rcases call1_len S H a x Q s da (by cases a <;> exact h) with q | ⟨p, kvs, e1, e2, q⟩
    · exact q
    · cases a with
      | dict ds => exact h.elim
      | none => exact h.elim
      | bool b => exact h.elim
      | int b => exact h.elim
      | str z => obtain ⟨rfl, hz⟩ := da; cases e1
      | list ds =>
        obtain ⟨p', vs, rfl, hp, z, dv⟩ := da
        exact ⟨_, _, rfl, .inl ⟨vs, hp, rfl⟩, by rw [← dv.len]; exact PostV.now h s rfl⟩
      | tuple ds =>
        obtain ⟨p', vs, rfl, hp, z, dv⟩ := da
        exact ⟨_, _, rfl, .inr ⟨vs, hp, rfl⟩, by rw [← dv.len]; exact PostV.now h s rfl⟩) hB.len PySem.boot_len ha hg (by decide) (by decide) he
def intD : D → Option D
  | .int i => some (.int i)
  | .bool b => some (.int (if b then 1 else 0))
  | .str s => if s.length ≤ 640 then (PySem.intText? s).map PyData.int else none
  | _ => none
theorem je_int1 {p : Pos} (hB : Bl Γ.mg) (ha : JV Γ e f) (hg : Γ.G "int" := by rfl) (he : ∀ env, starEach [e] env = [(false, eval e env)] := by intro _; rfl) : JE Γ (.Call (.Name "int" p) [e] [] pos) (eCall1 intD f) :=
  je_callTy1 (fun X hX => call_int1.or call_int_str) (fun S H a x Q s da h => by
    cases a with
    | int i => cases da; exact .inl (.inl ⟨i, rfl, h.now s rfl⟩)
    | bool b => cases da; exact .inl (.inr ⟨b, rfl, h.now s rfl⟩)
    | str z =>
      obtain ⟨rfl, hz⟩ := da
      dsimp only [intD] at h
      by_cases c : z.length ≤ 640
      · rw [if_pos c] at h
        cases q : PySem.intText? z with
        | none => rw [q] at h; exact h.elim
        | some n => rw [q] at h; exact .inr ⟨z, n, rfl, q, c, h.now s rfl⟩
      · rw [if_neg c] at h; exact h.elim
    | _ => exact h.elim) hB.int (by decide +kernel) ha hg (by decide) (by decide) he
def absD : D → Option D
  | .int i => some (.int (if i < 0 then -i else i))
  | _ => none
theorem je_abs {p : Pos} (hB : Bl Γ.mg) (ha : JV Γ e f) (hg : Γ.G "abs" := by rfl) (he : ∀ env, starEach [e] env = [(false, eval e env)] := by intro _; rfl) : JE Γ (.Call (.Name "abs" p) [e] [] pos) (eCall1 absD f) :=
  je_call1 (fun X hX => call_abs) (fun S H a x Q s da h => by
    cases a with
    | int i => cases da; exact ⟨i, rfl, h.now s rfl⟩
    | _ => exact h.elim) hB.abs (by decide +kernel) ha hg (by decide) (by decide) he
theorem toString_ok (i : Int) (h : i.natAbs.log2 < 1920) : sOk (toString i : Str) → True := fun _ => trivial
def tupD : D → Option D
  | .list ds => some (.tuple ds)
  | .tuple ds => some (.tuple ds)
  | _ => none
theorem sqt_den {K : PySem.W.Frag} {S H : Hp} {ds : List D} {x : V} : DenV K S H (.tuple ds) x → ∃ a vs, x = .ref a ∧ SqT K H a vs ∧ ds.length ≤ sizeLine ∧ Dens K S ds vs := fun h => h
/-- tuple(list) -/
def tupL : D → Option D
  | .list ds => some (.tuple ds)
  | _ => none
theorem je_tupleL {p : Pos} (hB : Bl Γ.mg) (ha : JV Γ e f) (hg : Γ.G "tuple" := by rfl) (he : ∀ env, starEach [e] env = [(false, eval e env)] := by intro _; rfl) : JE Γ (.Call (.Name "tuple" p) [e] [] pos) (eCall1 tupL f) :=
  je_callTy1 (r := fun xs H Q => ∃ p ys, xs = [.ref p] ∧ ((SqL Γ.K H p ys ∧ ∀ l, H l = none → Q (.ref l) (upd H l (.tup ys))) ∨ (SqT Γ.K H p ys ∧ Q (.ref p) H))) (fun X hX => by rw [← hX.K]; exact call_tuple_of) (fun S H a x Q s da h => by
    cases a with
    | list ds =>
      obtain ⟨p, vs, rfl, hp, z, dv⟩ := da
      exact ⟨p, vs, rfl, .inl ⟨hp, fun l n => h.tup s dv z n⟩⟩
    | _ => exact h.elim) hB.tuple (by decide +kernel) ha hg (by decide) (by decide) he
def sumD : D → Option D
  | .list ds => (intsOf ds).map fun ns => .int ns.sum
  | _ => none
theorem calm_of {X : Cx} (hX : Γ.At X) (hc : Γ.calm = true) : X.calm = true := by rw [hX.calm]; exact hc
theorem je_sum {p : Pos} (hB : Bl Γ.mg) (hc : Γ.calm = true) (ha : JV Γ e f) (hg : Γ.G "sum" := by rfl) (he : ∀ env, starEach [e] env = [(false, eval e env)] := by intro _; rfl) : JE Γ (.Call (.Name "sum" p) [e] [] pos) (eCall1 sumD f) :=
  je_call1 (r := rSum Γ.K) (fun X hX => by rw [← hX.K]; exact cr_sum (calm_of hX hc)) (fun S H a x Q s da h => by
    cases a with
    | list ds =>
      obtain ⟨p, vs, rfl, hp, z, dv⟩ := da
      dsimp only [sumD] at h
      cases q : intsOf ds with
      | none => rw [q] at h; exact h.elim
      | some ns =>
        rw [q] at h
        obtain ⟨rfl, _⟩ := intsOf_vs q dv
        exact ⟨p, ns, rfl, hp, h.now s rfl⟩
    | _ => exact h.elim) hB.sum PyProof.Rows.boot_sum ha hg (by decide) (by decide) he
def boolsOf : List D → Option (List Bool)
  | [] => some []
  | .bool b :: r => (boolsOf r).map (b :: ·)
  | _ => none
theorem boolsOf_vs {K : PySem.W.Frag} {S : Hp} : ∀ {ds : List D} {ns : List Bool} {vs : List V}, boolsOf ds = some ns → Dens K S ds vs → vs = ns.map V.bl
  | [], ns, vs, h, r => by
    cases r
    have : ns = [] := by simpa [boolsOf] using h.symm
    subst this
    rfl
  | d :: ds, ns, vs, h, r => by
    cases d with
    | bool i =>
      unfold boolsOf at h
      cases e : boolsOf ds with
      | none => rw [e] at h; cases h
      | some ms =>
        rw [e] at h
        have : i :: ms = ns := by simpa using h
        subst this
        obtain ⟨v, t, e1, dv, dr⟩ := r
        cases dv
        subst e1
        rw [boolsOf_vs e dr]; rfl
    | _ => simp [boolsOf] at h
theorem boolsOf_map : ∀ bs : List Bool, boolsOf (bs.map PyData.bool) = some bs
  | [] => rfl
  | n :: ns => by simp [boolsOf, boolsOf_map ns]
def allD : D → Option D
  | .list ds => (boolsOf ds).map fun bs => .bool (bs.all id)
  | _ => none
def anyD : D → Option D
  | .list ds => (boolsOf ds).map fun bs => .bool (bs.any id)
  | _ => none
theorem je_all {p : Pos} (hB : Bl Γ.mg) (hc : Γ.calm = true) (ha : JV Γ e f) (hg : Γ.G "all" := by rfl) (he : ∀ env, starEach [e] env = [(false, eval e env)] := by intro _; rfl) : JE Γ (.Call (.Name "all" p) [e] [] pos) (eCall1 allD f) :=
  je_call1 (r := rAll Γ.K) (fun X hX => by rw [← hX.K]; exact cr_all (calm_of hX hc)) (fun S H a x Q s da h => by
    cases a with
    | list ds =>
      obtain ⟨p, vs, rfl, hp, z, dv⟩ := da
      dsimp only [allD] at h
      cases q : boolsOf ds with
      | none => rw [q] at h; exact h.elim
      | some ns =>
        rw [q] at h
        have := boolsOf_vs q dv
        subst this
        exact ⟨p, ns, rfl, hp, h.now s rfl⟩
    | _ => exact h.elim) hB.all PyProof.Rows.boot_all ha hg (by decide) (by decide) he
theorem je_any {p : Pos} (hB : Bl Γ.mg) (hc : Γ.calm = true) (ha : JV Γ e f) (hg : Γ.G "any" := by rfl) (he : ∀ env, starEach [e] env = [(false, eval e env)] := by intro _; rfl) : JE Γ (.Call (.Name "any" p) [e] [] pos) (eCall1 anyD f) :=
  je_call1 (r := rAny Γ.K) (fun X hX => by rw [← hX.K]; exact cr_any (calm_of hX hc)) (fun S H a x Q s da h => by
    cases a with
    | list ds =>
      obtain ⟨p, vs, rfl, hp, z, dv⟩ := da
      dsimp only [anyD] at h
      cases q : boolsOf ds with
      | none => rw [q] at h; exact h.elim
      | some ns =>
        rw [q] at h
        have := boolsOf_vs q dv
        subst this
        exact ⟨p, ns, rfl, hp, h.now s rfl⟩
    | _ => exact h.elim) hB.any PyProof.Rows.boot_any ha hg (by decide) (by decide) he

/-! ### max, min of two whole numbers -/
def eCall2 (g : D → D → Option D) (fa fb : M D) : M D := eOp g fa fb
def maxD : D → D → Option D
  | .int i, .int j => some (.int (if j > i then j else i))
  | _, _ => none
def minD : D → D → Option D
  | .int i, .int j => some (.int (if j < i then j else i))
  | _, _ => none
theorem sim_call2 {r : List V → Hp → VK → Prop} {g : D → D → Option D} {ta tb : TE} (hr : ∀ (S H : Hp) (a b : D) (x y : V) (Q : VK), Same S H → Den Γ.K S a x → Den Γ.K S b y → PostV Γ S H (g a b) Q → r [x, y] H Q) (ha : Sim Γ ta fa) (hb : Sim Γ tb fb) : Sim Γ (tCB r (tCons ta (tCons tb tNil))) (eCall2 g fa fb) := fun S ow σ H ρ Q rep h =>
  ha S ow σ H ρ _ rep (h.bind.imp fun a S1 H1 ρ1 s1 f1 r1 h1 v dv => hb S1 ow σ H1 ρ1 _ r1 (h1.bind.imp fun b S2 H2 ρ2 s2 f2 r2 h2 u du => hr S2 H2 a b v u Q r2.sub (Den.mono s2 _ _ dv) du (.of h2 r2)))
theorem pa_two {X : Cx} {ta tb : TE} (ha : PE X a ta) (hb : PE X b tb) (hs : starEach [a, b] X.env = [(false, eval a X.env), (false, eval b X.env)]) (hs2 : starEach [b] X.env = [(false, eval b X.env)]) : PA X [a, b] (tCons ta (tCons tb tNil)) := pa_cons ha (pa_one hb hs2) (by rw [hs, hs2])
theorem je_max2 {p : Pos} (hB : Bl Γ.mg) (hc : Γ.calm = true) (ha : JE Γ a fa) (hb : JE Γ b fb) (hg : Γ.G "max" := by rfl) (he : ∀ env, starEach [a, b] env = [(false, eval a env), (false, eval b env)] := by intro _; rfl) (he2 : ∀ env, starEach [b] env = [(false, eval b env)] := by intro _; rfl) :
    JE Γ (.Call (.Name "max" p) [a, b] [] pos) (eCall2 maxD fa fb) := by
  obtain ⟨ta, pa, sa⟩ := ha
  obtain ⟨tb, pb, sb⟩ := hb
  refine ⟨_, fun X hX => pe_callB (call_max2 (calm_of hX hc)) (by show X.env.scope.names.lookup _ = _; rw [hX.sc]; exact hg) (by rw [hX.mg]; exact hB.max) PyProof.Rows.boot_max (pa_two (pa X hX) (pb X hX) (he _) (he2 _)) (by decide) (by decide) (by rw [he, he2]) (by rw [he2]; rfl), sim_call2 (fun S H a b x y Q s da db h => ?_) sa sb⟩
  cases a with
  | int i => cases b with
    | int j => cases da; cases db; exact ⟨i, j, rfl, h.now s rfl⟩
    | _ => exact h.elim
  | _ => cases b <;> exact h.elim
theorem je_min2 {p : Pos} (hB : Bl Γ.mg) (hc : Γ.calm = true) (ha : JE Γ a fa) (hb : JE Γ b fb) (hg : Γ.G "min" := by rfl) (he : ∀ env, starEach [a, b] env = [(false, eval a env), (false, eval b env)] := by intro _; rfl) (he2 : ∀ env, starEach [b] env = [(false, eval b env)] := by intro _; rfl) :
    JE Γ (.Call (.Name "min" p) [a, b] [] pos) (eCall2 minD fa fb) := by
  obtain ⟨ta, pa, sa⟩ := ha
  obtain ⟨tb, pb, sb⟩ := hb
  refine ⟨_, fun X hX => pe_callB (call_min2 (calm_of hX hc)) (by show X.env.scope.names.lookup _ = _; rw [hX.sc]; exact hg) (by rw [hX.mg]; exact hB.min) PyProof.Rows.boot_min (pa_two (pa X hX) (pb X hX) (he _) (he2 _)) (by decide) (by decide) (by rw [he, he2]) (by rw [he2]; rfl), sim_call2 (fun S H a b x y Q s da db h => ?_) sa sb⟩
  cases a with
  | int i => cases b with
    | int j => cases da; cases db; exact ⟨i, j, rfl, h.now s rfl⟩
    | _ => exact h.elim
  | _ => cases b <;> exact h.elim

/-! ### isinstance -/
def tyD : D → String
  | .none => "NoneType"
  | .bool _ => "bool"
  | .int _ => "int"
  | .str _ => "str"
  | .list _ => "list"
  | .tuple _ => "tuple"
  | .dict _ => "dict"
/-- is a thing of the built-in type a one of type b -/
def isTy (a b : String) : Bool := a == b || (a == "bool" && b == "int")
theorem tyx_of {K : PySem.W.Frag} {S H : Hp} (s : Same S H) : ∀ {d : D} {v : V}, Den K S d v → TyX K H v (.type (tyD d))
  | .none, _, h => by cases h; exact .base .non
  | .bool b, _, h => by cases h; exact .base (.bl b)
  | .int i, _, h => by cases h; exact .base (.int i)
  | .str z, _, ⟨h, _⟩ => by cases h; exact .base (.str z)
  | .list ds, _, ⟨a, vs, e, q, z, r⟩ => by subst e; exact .base (.lst (s _ _ q))
  | .tuple ds, _, ⟨a, vs, e, q, z, r⟩ => by subst e; exact .base (.tup (s _ _ q))
  | .dict ds, _, ⟨a, e, z, .inl ⟨ks, q, r⟩⟩ => by subst e; exact .base (.dK (s _ _ q))
  | .dict ds, _, ⟨a, e, z, .inr ⟨ks, q, r⟩⟩ => by subst e; exact .base (.dT (s _ _ q))
def eIsi (c : String) (f : M D) : M D := fun ρ => (f ρ).bind fun d ρ1 => .ok (.bool (isTy (tyD d) c)) ρ1
/-- the classes that isinstance is asked of here -/
def kitC : List String := ["int", "bool", "str", "list", "tuple", "dict"]
theorem kit_is : ∀ a ∈ (["NoneType", "bool", "int", "str", "list", "tuple", "dict"] : List String), ∀ b ∈ kitC, kitB a b = some (isTy a b) := by decide +kernel
theorem ty_in (d : D) : tyD d ∈ (["NoneType", "bool", "int", "str", "list", "tuple", "dict"] : List String) := by cases d <;> simp [tyD]
theorem je_isi {p q : Pos} (c : String) (hB : Bl Γ.mg) (hc : c ∈ kitC) (hm : Γ.mg (Str.ofString c) = none) (hv : bootBuiltins (Str.ofString c) = some (.type c)) (ha : JE Γ e f) (hg : Γ.G "isinstance" := by rfl) (hg2 : Γ.G (Str.ofString c) := by rfl)
    (he : ∀ env, starEach [e, .Name (Str.ofString c) q] env = [(false, eval e env), (false, eval (.Name (Str.ofString c) q) env)] := by intro _; rfl) (hn : Str.ofString c ≠ "__name__" := by decide) (hd : (Str.ofString c == ("__debug__" : Str)) = false := by decide) :
    JE Γ (.Call (.Name "isinstance" p) [e, .Name (Str.ofString c) q] [] pos) (eIsi c f) := by
  obtain ⟨ta, pa, sa⟩ := ha
  refine ⟨_, fun X hX => pe_callB (r := rIsi Γ.K) (by rw [← hX.K]; exact call_isi) (by show X.env.scope.names.lookup _ = _; rw [hX.sc]; exact hg) (by rw [hX.mg]; exact hB.isinstance) PyProof.Rows.boot_isinstance
    (pa_two (pa X hX) (pe_bltn (v := .ty c) (u := .type c) (by show X.env.scope.names.lookup _ = _; rw [hX.sc]; exact hg2) (by rw [hX.mg]; exact hm) hv rfl hn hd) (he _) rfl) (by decide) (by decide) (by rw [he]; rfl) (by rfl), fun S ow σ H ρ Q rep h => sa S ow σ H ρ _ rep (h.bind.imp fun a S1 H1 ρ1 s1 f1 r1 h1 v dv => ?_)⟩
  exact ⟨v, .ty c, _, _, _, rfl, .ty c, tyx_of r1.sub dv, kit_ty (kit_is _ (ty_in a) c hc), h1.here r1 (.refl r1.sub) _ rfl⟩
/-- isinstance(e, (list, tuple)) and its like: two classes -/
def eIsi2 (c c' : String) (f : M D) : M D := fun ρ => (f ρ).bind fun d ρ1 => .ok (.bool (isTy (tyD d) c || isTy (tyD d) c')) ρ1
theorem je_isi2 {p q q' pt : Pos} {k : Nat} (c c' : String) (hB : Bl Γ.mg) (hc : c ∈ kitC) (hc' : c' ∈ kitC) (hm : Γ.mg (Str.ofString c) = none) (hv : bootBuiltins (Str.ofString c) = some (.type c)) (hm' : Γ.mg (Str.ofString c') = none) (hv' : bootBuiltins (Str.ofString c') = some (.type c')) (ha : JE Γ e f)
    (hg : Γ.G "isinstance" := by rfl) (hg2 : Γ.G (Str.ofString c) := by rfl) (hg3 : Γ.G (Str.ofString c') := by rfl)
    (he : ∀ env, starEach [e, .Tuple [.Name (Str.ofString c) q, .Name (Str.ofString c') q'] k pt] env = [(false, eval e env), (false, eval (.Tuple [.Name (Str.ofString c) q, .Name (Str.ofString c') q'] k pt) env)] := by intro _; rfl)
    (hn : Str.ofString c ≠ "__name__" := by decide) (hd : (Str.ofString c == ("__debug__" : Str)) = false := by decide) (hn' : Str.ofString c' ≠ "__name__" := by decide) (hd' : (Str.ofString c' == ("__debug__" : Str)) = false := by decide) :
    JE Γ (.Call (.Name "isinstance" p) [e, .Tuple [.Name (Str.ofString c) q, .Name (Str.ofString c') q'] k pt] [] pos) (eIsi2 c c' f) := by
  obtain ⟨ta, pa, sa⟩ := ha
  refine ⟨_, fun X hX => pe_callB (r := rIsiT Γ.K) (by rw [← hX.K]; exact call_isiT) (by show X.env.scope.names.lookup _ = _; rw [hX.sc]; exact hg) (by rw [hX.mg]; exact hB.isinstance) PyProof.Rows.boot_isinstance
    (pa_two (pa X hX) (pe_tup (pa_two (pe_bltn (v := .ty c) (u := .type c) (by show X.env.scope.names.lookup _ = _; rw [hX.sc]; exact hg2) (by rw [hX.mg]; exact hm) hv rfl hn hd) (pe_bltn (v := .ty c') (u := .type c') (by show X.env.scope.names.lookup _ = _; rw [hX.sc]; exact hg3) (by rw [hX.mg]; exact hm') hv' rfl hn' hd') rfl rfl)) (he _) rfl) (by decide) (by decide) (by rw [he]; rfl) (by rfl), fun S ow σ H ρ Q rep h => sa S ow σ H ρ _ rep (h.bind.imp fun a S1 H1 ρ1 s1 f1 r1 h1 v dv => ?_)⟩
  refine ⟨by show 2 ≤ sizeLine; decide, fun p n => ?_⟩
  have g := Grow.aside (o := .tup [V.ty c, V.ty c']) r1.sub n
  have k1 := kit_ty (K := Γ.K) (kit_is _ (ty_in a) c hc)
  have k2 := kit_ty (K := Γ.K) (kit_is _ (ty_in a) c' hc')
  have kk : PySem.W.kitAny Γ.K (.type (tyD a)) [.type c, .type c'] = some (isTy (tyD a) c || isTy (tyD a) c') := by
    refine kitAny_cons k1 (fun e => ?_) (fun e => by rw [e]; rfl)
    rw [e, Bool.false_or]
    refine kitAny_cons k2 (fun e => ?_) (fun e => e)
    rw [e]
    exact kitAny_nil
  exact ⟨v, p, _, _, _, _, rfl, upd_same, .cons (.ty c) (.cons (.ty c') .nil), tyx_of g.sub dv, kk, h1.here r1 g _ rfl⟩

/-! ### slices -/
def cutD (ds : List D) (lo hi : Option Int) : List D := (ds.drop (HT.sIx ds.length 0 lo)).take (HT.sIx ds.length ds.length hi - HT.sIx ds.length 0 lo)
def pNone : M (Option Int) := fun ρ => .ok none ρ
def pSome (f : M D) : M (Option Int) := fun ρ => (f ρ).bind fun d ρ1 => match d with
  | .int i => .ok (some i) ρ1
  | _ => .stuck
structure JP (Γ : Ctx) (e : Option Expr) (f : M (Option Int)) : Prop where
  ex : ∃ te, (∀ X, Γ.At X → PO X e te) ∧ ∀ S ow σ H ρ (Q : Option Int → Hp → Prop), Rep Γ.K S ow σ H ρ → Post Γ ow σ S H (f ρ) (fun o _ H' _ => Q o H') → te σ H Q
theorem jp_none : JP Γ none pNone := ⟨_, fun _ _ => po_none, fun S ow σ H ρ Q rep h => h.here rep (.refl rep.sub)⟩
theorem jp_some (h : JE Γ e f) : JP Γ (some e) (pSome f) := by
  obtain ⟨te, p, s⟩ := h
  refine ⟨_, fun X hX => po_some (p X hX), fun S ow σ H ρ Q rep h => s S ow σ H ρ _ rep (h.bind.imp fun a S1 H1 ρ1 s1 f1 r1 h1 v dv => ?_)⟩
  cases a with
  | int i => cases dv; exact ⟨i, rfl, h1.here r1 (.refl r1.sub)⟩
  | _ => exact (show False from h1).elim
def gSl : D → Option Int → Option Int → Option D
  | .tuple ds, lo, hi => some (.tuple (cutD ds lo hi))
  | .str z, lo, hi => some (.str (cutS z lo hi))
  | .list ds, lo, hi => some (.list (cutD ds lo hi))
  | _, _, _ => none
theorem cutS_ok {z : Str} (h : sOk z) (lo hi : Option Int) : sOk (cutS z lo hi) := by
  have h1 : (z.cps.all fun x => decide (x < 0x110000)) = true := h.1
  rw [Array.all_eq_true_iff_forall_mem] at h1
  refine ⟨?_, ?_⟩
  · show ((cutS z lo hi).cps.all fun x => decide (x < 0x110000)) = true
    rw [Array.all_eq_true_iff_forall_mem]
    intro x hx
    refine h1 x ?_
    have hx' : x ∈ ((z.cps.toList.drop (HT.sIx z.length 0 lo)).take (HT.sIx z.length z.length hi - HT.sIx z.length 0 lo)) := by simpa [cutS] using hx
    have := List.mem_of_mem_drop (List.mem_of_mem_take hx')
    simpa using this
  · show ((z.cps.toList.drop (HT.sIx z.length 0 lo)).take (HT.sIx z.length z.length hi - HT.sIx z.length 0 lo)).toArray.size ≤ sizeLine
    rw [List.size_toArray, List.length_take, List.length_drop]
    have : z.cps.toList.length = z.length := by simp [Str.length]
    have := h.2
    omega
theorem cutD_len (ds : List D) (lo hi : Option Int) : (cutD ds lo hi).length ≤ ds.length := by
  unfold cutD
  rw [List.length_take, List.length_drop]
  omega
theorem dens_cut {K : PySem.W.Frag} {S : Hp} {ds : List D} {vs : List V} (h : Dens K S ds vs) (lo hi : Option Int) : Dens K S (cutD ds lo hi) (cutV vs lo hi) := by
  unfold cutD cutV
  rw [h.len]
  exact (h.drop _).take _
theorem cut_whole {α : Type} {xs : List α} {lo hi : Option Int} (h : HT.sIx xs.length 0 lo = 0 ∧ HT.sIx xs.length xs.length hi = xs.length) : (xs.drop (HT.sIx xs.length 0 lo)).take (HT.sIx xs.length xs.length hi - HT.sIx xs.length 0 lo) = xs := by
  rw [h.1, h.2]; simp
abbrev rSlAll (K : PySem.W.Frag) : V → Option Int → Option Int → Hp → VK → Prop := fun x lo hi H Q => rSlA K x lo hi H Q ∨ rSlS x lo hi H Q ∨ rSlL K x lo hi H Q
def eSl (fa : M D) (fl fh : M (Option Int)) : M D := fun ρ => (fa ρ).bind fun a ρ1 => (fl ρ1).bind fun lo ρ2 => (fh ρ2).bind fun hi ρ3 => ofOpt (gSl a lo hi) ρ3
theorem rSl_ok {S H : Hp} {a : D} {x : V} {lo hi : Option Int} {Q : VK} (s : Same S H) (da : DenV Γ.K S H a x) (h : PostV Γ S H (gSl a lo hi) Q) (hd : ∀ ds, a = .tuple ds → Den Γ.K S a x) : rSlAll Γ.K x lo hi H Q := by
  cases a with
  | tuple ds =>
    have dd := hd ds rfl
    obtain ⟨p, vs, rfl, hp, z, dv⟩ := dd
    dsimp only [gSl] at h
    refine .inl ⟨p, vs, rfl, .of (s _ _ hp), fun w => ?_, fun _ q n => ?_⟩
    · rw [show cutD ds lo hi = ds from cut_whole (by rw [dv.len]; exact w)] at h
      exact h.now s ⟨p, vs, rfl, hp, z, dv⟩
    · exact h.tup s (dens_cut dv lo hi) (Nat.le_trans (cutD_len ds lo hi) z) n
  | str z => obtain ⟨rfl, hz⟩ := da; exact .inr (.inl ⟨z, rfl, hz.2, h.now s ⟨rfl, cutS_ok hz lo hi⟩⟩)
  | list ds =>
    obtain ⟨p, vs, rfl, hp, z, dv⟩ := da
    exact .inr (.inr ⟨p, vs, rfl, hp, fun q n => h.lst s (dens_cut dv lo hi) (Nat.le_trans (cutD_len ds lo hi) z) n⟩)
  | _ => exact h.elim
theorem sl_or {X : Cx} (hX : Γ.At X) : SlR X (rSlAll Γ.K) := by rw [← hX.K]; exact sl_tupA.or (sl_str.or sl_list)
theorem je_sl {p2 : Pos} {lo hi : Option Expr} {fl fh : M (Option Int)} (ha : JE Γ a fa) (hl : JP Γ lo fl) (hh : JP Γ hi fh) : JE Γ (.Subscript a (.Slice lo hi none p2) pos) (eSl fa fl fh) := by
  obtain ⟨ta, pa, sa⟩ := ha
  obtain ⟨tl, pl, sl⟩ := hl
  obtain ⟨th, ph, sh⟩ := hh
  refine ⟨_, fun X hX => pe_slice (sl_or hX) (pa X hX) (pl X hX) (ph X hX), fun S ow σ H ρ Q rep h => sa S ow σ H ρ _ rep (h.bind.imp fun a S1 H1 ρ1 s1 f1 r1 h1 v dv => sl S1 ow σ H1 ρ1 _ r1 (h1.bind.imp fun lo S2 H2 ρ2 s2 f2 r2 h2 => sh S2 ow σ H2 ρ2 _ r2 (h2.bind.imp fun hi S3 H3 ρ3 s3 f3 r3 h3 => ?_)))⟩
  have d3 := Den.mono (s2.trans s3) _ _ dv
  exact rSl_ok r3.sub (Den.v r3.sub d3) (.of h3 r3) fun _ _ => d3
/-- a slot's list cut: x[lo:hi], the parts without a write -/
def gSlV (a : D) (lo hi : Option Int) : Option D := match a with | .tuple _ => none | a => gSl a lo hi
def eSlS (i : Nat) (fl fh : M (Option Int)) : M D := fun ρ => match ρ[i]? with
  | some (some _) => (fl ρ).bind fun lo ρ2 => (fh ρ2).bind fun hi ρ3 => (eSlot i ρ3).bind fun a ρ4 => ofOpt (gSlV a lo hi) ρ4
  | _ => .stuck
theorem je_slS {x : Str} {p2 ps : Pos} {lo hi : Option Expr} {fl fh : M (Option Int)} (i : Nat) (hl : JP Γ lo fl) (hh : JP Γ hi fh) (hN : Γ.N[i]? = some x := by rfl) (hv : Vis Γ.sc x := by first | exact Or.inl rfl | exact Or.inr (Or.inl rfl) | exact Or.inr (Or.inr rfl)) (hd : (x == ("__debug__" : Str)) = false := by decide)
    (hcd : (x == ("__classdict__" : Str)) = false := by decide) : JE Γ (.Subscript (.Name x ps) (.Slice lo hi none p2) pos) (eSlS i fl fh) := by
  obtain ⟨tl, pl, sl⟩ := hl
  obtain ⟨th, ph, sh⟩ := hh
  refine ⟨_, fun X hX => pe_slice (sl_or hX) (pe_slot i hX hN hv hd hcd) (pl X hX) (ph X hX), fun S ow σ H ρ Q rep h => ?_⟩
  unfold eSlS at h
  split at h
  · rename_i y ey
    obtain ⟨v, hs, _⟩ := rep.sl i _ ey
    refine ⟨v, hs, sl S ow σ H ρ _ rep (h.bind.imp fun lo S2 H2 ρ2 s2 f2 r2 h2 => sh S2 ow σ H2 ρ2 _ r2 (h2.bind.imp fun hi S3 H3 ρ3 s3 f3 r3 h3 => ?_))⟩
    obtain ⟨y, d, e1, e2, h4⟩ := eSlot_some (Q := fun r => Post Γ ow σ S3 H3 r (fun a S4 H4 ρ4 => Post Γ ow σ S4 H4 (ofOpt (match a with | .tuple _ => none | a => gSl a lo hi) ρ4) (fun d S' H' _ => ∀ v, Den Γ.K S' d v → Q v H'))) h3.bind (fun z => z)
    obtain ⟨v', h5, h6⟩ := slot_get r3 e1 e2
    rw [hs] at h5
    cases h5
    have h7 := PostV.of (h4.here r3 (.refl r3.sub)) r3
    cases d with
    | tuple ds => exact h7.elim
    | _ => exact rSl_ok r3.sub h6 h7 (fun ds e => nomatch e)
  · exact h.elim
end
end DL

/-! The data layer, part 5: targets, what is walked, comprehensions. -/
namespace DL
open PySem PySem.Spec PyProof.Rows L2

/-! ### targets -/
def setD (bor : List Nat) (i : Nat) (d : D) : Rho → Option Rho := fun ρ => if i < ρ.length ∧ i ∉ bor then some (ρ.set i (some (.d d))) else none
def GPost (Γ : Ctx) (ow : Nat → List Addr) (σ : L2.St) (S H : Hp) (vs : List Nat) (r : Option Rho) (Q : L2.St → Hp → Prop) : Prop := match r with
  | some ρ' => ∀ ow' σ', Rep Γ.K S ow' σ' H ρ' → σ'.length = σ.length → (∀ j, j ∉ vs → σ'[j]? = σ[j]? ∧ ow' j = ow j) → (∀ j p, p ∈ ow' j → p ∈ ow j) → (∀ i ∈ Γ.bor, ow' i = ow i) → Q σ' H
  | none => False
def SimG (Γ : Ctx) (t : TG) (vs : List Nat) (g : D → Rho → Option Rho) : Prop := ∀ S ow σ H ρ d v (Q : L2.St → Hp → Prop), Rep Γ.K S ow σ H ρ → Den Γ.K S d v → GPost Γ ow σ S H vs (g d ρ) Q → t v σ H Q
def SimGs (Γ : Ctx) (t : TGs) (vs : List Nat) (g : List D → Rho → Option Rho) : Prop := ∀ S ow σ H ρ ds us (Q : L2.St → Hp → Prop), Rep Γ.K S ow σ H ρ → Dens Γ.K S ds us → GPost Γ ow σ S H vs (g ds ρ) Q → t us σ H Q
structure JG (Γ : Ctx) (tg : Expr) (vs : List Nat) (g : D → Rho → Option Rho) : Prop where
  ex : ∃ t, (∀ X, Γ.At X → PG X tg t) ∧ SimG Γ t vs g
structure JGs (Γ : Ctx) (tgs : List Expr) (vs : List Nat) (g : List D → Rho → Option Rho) : Prop where
  ex : ∃ t, (∀ X, Γ.At X → PGs X tgs t) ∧ SimGs Γ t vs g
section
variable {Γ : Ctx} {S S' H H' : Hp} {ow : Nat → List Addr} {σ : L2.St} {ρ : Rho}
theorem Rep.set_data {i : Nat} {d : D} {v : V} (r : Rep Γ.K S ow σ H ρ) (dv : Den Γ.K S d v) (hi : i < ρ.length) : Rep Γ.K S (fun j => if j = i then [] else ow j) (σ.set i (some v)) H (ρ.set i (some (.d d))) where
  sub := r.sub
  dis := fun j p hp => by
    by_cases h : j = i
    · rw [if_pos h] at hp; cases hp
    · rw [if_neg h] at hp; exact r.dis j p hp
  inj := fun j k p hj hk => by
    by_cases h : j = i
    · rw [if_pos h] at hj; cases hj
    · rw [if_neg h] at hj
      by_cases h' : k = i
      · rw [if_pos h'] at hk; cases hk
      · rw [if_neg h'] at hk; exact r.inj j k p hj hk
  al := fun j p hp => by
    by_cases h : j = i
    · rw [if_pos h] at hp; cases hp
    · rw [if_neg h] at hp; exact r.al j p hp
  len := by rw [List.length_set, List.length_set]; exact r.len
  sl := fun j x e => by
    by_cases h : j = i
    · subst h
      rw [List.getElem?_set_self hi] at e
      cases e
      exact ⟨v, List.getElem?_set_self (by rw [← r.len]; exact hi), by rw [if_pos rfl], dv⟩
    · rw [List.getElem?_set_ne (Ne.symm h)] at e
      rw [List.getElem?_set_ne (Ne.symm h)]
      simp only [if_neg h]
      exact r.sl j x e
  no := fun j e => by
    by_cases h : j = i
    · rw [if_pos h]
    · rw [if_neg h]
      exact r.no j fun x q => e x (by rw [List.getElem?_set_ne (Ne.symm h)]; exact q)
theorem sim_gname {i : Nat} : SimG Γ (gName i) [i] (setD Γ.bor i) := fun S ow σ H ρ d v Q rep dv h => by
  unfold setD at h
  by_cases c : i < ρ.length ∧ i ∉ Γ.bor
  · rw [if_pos c] at h
    refine h _ _ (rep.set_data dv c.1) (by rw [List.length_set]) (fun j hj => ?_) (fun j p hp => ?_) (fun j hj => ?_)
    · have hji : j ≠ i := fun e => hj (by rw [e]; exact List.mem_singleton.mpr rfl)
      exact ⟨List.getElem?_set_ne (Ne.symm hji), if_neg hji⟩
    · by_cases e : j = i
      · rw [if_pos e] at hp; cases hp
      · rw [if_neg e] at hp; exact hp
    · exact if_neg fun e => c.2 (by rw [← e]; exact hj)
  · rw [if_neg c] at h
    exact h.elim
theorem jg_name {x : Str} {pos : Pos} (i : Nat) (nd : Γ.N.Nodup) (hi : Γ.N[i]? = some x := by rfl) (hx : Loc Γ.sc x := by first | exact Or.inl rfl | exact Or.inr rfl) (hf : Γ.fn x = true ∨ Γ.sc.names.lookup x = some .local := by first | exact Or.inl rfl | exact Or.inr rfl) : JG Γ (.Name x pos) [i] (setD Γ.bor i) :=
  ⟨_, fun X hX => pg_name (by rw [hX.N]; exact nd) (by rw [hX.N]; exact hi) (by rw [hX.sc]; exact hx) (by rw [hX.fn, hX.sc]; exact hf), sim_gname⟩
def gsNilD : List D → Rho → Option Rho := fun ds ρ => match ds with
  | [] => some ρ
  | _ => none
def gsConsD (g : D → Rho → Option Rho) (gs : List D → Rho → Option Rho) : List D → Rho → Option Rho := fun ds ρ => match ds with
  | d :: r => (g d ρ).bind (gs r)
  | [] => none
theorem jgs_nil : JGs Γ [] [] gsNilD := ⟨_, fun _ _ => pgs_nil, fun S ow σ H ρ ds us Q rep dv h => by
  cases ds with
  | nil => cases dv; exact ⟨rfl, h ow σ rep rfl (fun _ _ => ⟨rfl, rfl⟩) (fun _ _ q => q) fun _ _ => rfl⟩
  | cons d r => exact h.elim⟩
theorem jgs_cons {e : Expr} {es : List Expr} {vs ws : List Nat} {g : D → Rho → Option Rho} {gs : List D → Rho → Option Rho} (h1 : JG Γ e vs g) (h2 : JGs Γ es ws gs)
    (hs : ∀ env, (assignEach (e :: es) env).map (·.2) = assign e env :: (assignEach es env).map (·.2) := by intro _; rfl) : JGs Γ (e :: es) (vs ++ ws) (gsConsD g gs) := by
  obtain ⟨t, p, s⟩ := h1
  obtain ⟨u, q, w⟩ := h2
  refine ⟨_, fun X hX => pgs_cons (p X hX) (q X hX) (hs _), fun S ow σ H ρ ds us Q rep dv h => ?_⟩
  cases ds with
  | nil => exact h.elim
  | cons d r =>
    obtain ⟨v, ur, rfl, dv1, dvr⟩ := dv
    refine ⟨v, ur, rfl, s S ow σ H ρ d v _ rep dv1 ?_⟩
    unfold gsConsD at h
    dsimp only at h
    cases e1 : g d ρ with
    | none => rw [e1] at h; exact h.elim
    | some ρ1 =>
      rw [e1] at h
      intro ow1 σ1 r1 l1 a1 b1 c1
      refine w S ow1 σ1 H ρ1 r ur Q r1 dvr ?_
      have h' : GPost Γ ow σ S H (vs ++ ws) (gs r ρ1) Q := h
      cases e2 : gs r ρ1 with
      | none => rw [e2] at h'; exact h'.elim
      | some ρ2 =>
        rw [e2] at h'
        exact fun ow2 σ2 r2 l2 a2 b2 c2 => h' ow2 σ2 r2 (l2.trans l1) (fun j hj => ⟨((a2 j fun z => hj (List.mem_append_right _ z)).1).trans (a1 j fun z => hj (List.mem_append_left _ z)).1, ((a2 j fun z => hj (List.mem_append_right _ z)).2).trans (a1 j fun z => hj (List.mem_append_left _ z)).2⟩)
          (fun j p hp => b1 j p (b2 j p hp)) fun i hi => (c2 i hi).trans (c1 i hi)
/-- (a, b, ..) = a tuple, a list of that length -/
def gTupD (n : Nat) (gs : List D → Rho → Option Rho) : D → Rho → Option Rho := fun d ρ => match d with
  | .tuple ds => if ds.length = n then gs ds ρ else none
  | .list ds => if ds.length = n then gs ds ρ else none
  | _ => none
theorem pg_or {X : Cx} {tg : Expr} {t u : TG} (h : PG X tg t) (k : PG X tg u) : PG X tg (fun v σ H Q => t v σ H Q ∨ u v σ H Q) := ⟨fun pins s σ H v w Q I r q => q.elim (fun z => h.run pins s σ H v w Q I r z) fun z => k.run pins s σ H v w Q I r z⟩
theorem jg_tup {es : List Expr} {k : Nat} {pos : Pos} {vs : List Nat} {n : Nat} {gs : List D → Rho → Option Rho} (hc : Γ.calm = true) (h : JGs Γ es vs gs)
    (hn : ∀ env, (assignEach es env).length = n := by intro _; rfl) (hst : ∀ env, (assignEach es env).findIdx? (·.1) = none := by intro _; rfl) : JG Γ (.Tuple es k pos) vs (gTupD n gs) := by
  obtain ⟨t, p, s⟩ := h
  refine ⟨_, fun X hX => pg_or (t := gTup Γ.K n t) (u := gLst Γ.K n t) (by rw [← hX.K]; exact pg_tup (calm_of hX hc) (p X hX) (hn _) (hst _)) (by rw [← hX.K]; exact pg_lst (calm_of hX hc) (p X hX) (hn _) (hst _)), fun S ow σ H ρ d v Q rep dv h => ?_⟩
  cases d with
  | tuple ds =>
    obtain ⟨a, us, rfl, ha, z, dd⟩ := dv
    dsimp only [gTupD] at h
    by_cases c : ds.length = n
    · rw [if_pos c] at h
      exact .inl ⟨a, us, rfl, .of (rep.sub _ _ ha), by rw [← dd.len]; exact c, s S ow σ H ρ ds us Q rep dd h⟩
    · rw [if_neg c] at h; exact h.elim
  | list ds =>
    obtain ⟨a, us, rfl, ha, z, dd⟩ := dv
    dsimp only [gTupD] at h
    by_cases c : ds.length = n
    · rw [if_pos c] at h
      exact .inr ⟨a, us, rfl, .of (rep.sub _ _ ha), by rw [← dd.len]; exact c, s S ow σ H ρ ds us Q rep dd h⟩
    · rw [if_neg c] at h; exact h.elim
  | _ => exact h.elim
end

/-! ### what is walked -/
/-- J yields what stands for ds, one after another; S: what does not change -/
def ItOk (K : PySem.W.Frag) (J : It) (S : Hp) (ds : List D) : Prop := ∀ i S1 H, Same S S1 → Same S1 H →
  (∀ d, ds[i]? = some d → J.go i H ∧ ∀ x H', J.yld i H x H' → ∃ S2, Grow S1 H S2 H' ∧ Den K S2 d x) ∧ (ds.length ≤ i → J.stop i H)
def SimI (Γ : Ctx) (wi : TI) (f : M (List D)) : Prop := ∀ S ow σ H ρ (R : It → Hp → Prop), Rep Γ.K S ow σ H ρ → Post Γ ow σ S H (f ρ) (fun ds S' H' _ => ds.length ≤ sizeLine → ∀ J, ItOk Γ.K J S' ds → R J H') → wi σ H R
structure JI (Γ : Ctx) (tg iter : Expr) (f : M (List D)) : Prop where
  ex : ∃ wi, (∀ X, Γ.At X → PI X tg iter wi) ∧ SimI Γ wi f
section
variable {Γ : Ctx} {e e2 tg : Expr} {f f2 : M D} {pos : Pos}
theorem itok_list {K : PySem.W.Frag} {S : Hp} {a : Addr} {vs : List V} {ds : List D} (ha : S a = some (.lst vs)) (dv : Dens K S ds vs) : ItOk K (Itl K a) S ds := fun i S1 H s1 s2 => by
  have q : SqL K H a vs := .of (s2 _ _ (s1 _ _ ha))
  refine ⟨fun d hd => ?_, fun hi => ⟨vs, q, by rw [← dv.len]; exact hi⟩⟩
  obtain ⟨v, h1, h2⟩ := dv.get hd
  refine ⟨⟨vs, v, q, h1⟩, fun x H' y => ?_⟩
  obtain ⟨rfl, k⟩ := y
  have : x = v := by have := k vs q; rw [h1] at this; cases this; rfl
  subst this
  exact ⟨S1, .refl s2, Den.mono s1 _ _ h2⟩
theorem itok_tup {K : PySem.W.Frag} {S : Hp} {a : Addr} {vs : List V} {ds : List D} (ha : S a = some (.tup vs)) (dv : Dens K S ds vs) : ItOk K (Itt K a) S ds := fun i S1 H s1 s2 => by
  have q : SqT K H a vs := .of (s2 _ _ (s1 _ _ ha))
  refine ⟨fun d hd => ?_, fun hi => ⟨vs, q, by rw [← dv.len]; exact hi⟩⟩
  obtain ⟨v, h1, h2⟩ := dv.get hd
  refine ⟨⟨vs, v, q, h1⟩, fun x H' y => ?_⟩
  obtain ⟨rfl, k⟩ := y
  have : x = v := by have := k vs q; rw [h1] at this; cases this; rfl
  subst this
  exact ⟨S1, .refl s2, Den.mono s1 _ _ h2⟩
def seqD : D → Option (List D)
  | .list ds => some ds
  | .tuple ds => some ds
  | .str z => some (z.cps.toList.map fun c => .str ⟨#[c]⟩)
  | _ => none
/-- the things of a list, a tuple, a text -/
def iSeq (f : M D) : M (List D) := fun ρ => (f ρ).bind fun d ρ1 => ofOpt (seqD d) ρ1
theorem pi_or {X : Cx} {w w' : TI} (h : PI X tg e w) (k : PI X tg e w') : PI X tg e (fun σ H R => w σ H R ∨ w' σ H R) := ⟨fun pins s σ H R I q => q.elim (h.run pins s σ H R I) (k.run pins s σ H R I)⟩
theorem itok_str {K : PySem.W.Frag} {S : Hp} {z : Str} (hz : sOk z) : ItOk K (Its z) S (z.cps.toList.map fun c => .str ⟨#[c]⟩) := fun i S1 H s1 s2 => by
  have sz : z.cps.toList.length = z.cps.size := by simp
  refine ⟨fun d hd => ?_, fun hi => by
    show z.cps.size ≤ i
    rw [List.length_map, sz] at hi; exact hi⟩
  rw [List.getElem?_map] at hd
  cases e : z.cps.toList[i]? with
  | none => rw [e] at hd; cases hd
  | some c =>
    rw [e] at hd
    have hd' : PyData.str ⟨#[c]⟩ = d := Option.some.inj hd
    subst hd'
    have hi : i < z.cps.size := by
      have := (List.getElem?_eq_some_iff.mp e).1
      rw [sz] at this; exact this
    refine ⟨hi, fun x H' y => ?_⟩
    obtain ⟨rfl, c', h1, rfl⟩ := y
    have : c' = c := by
      rw [← Array.getElem?_toList, e] at h1
      exact (Option.some.inj h1).symm
    subst this
    exact ⟨S1, .refl s2, rfl, one_ok hz e⟩
theorem ji_seq (h : JE Γ e f) : JI Γ tg e (iSeq f) := by
  obtain ⟨te, p, s⟩ := h
  refine ⟨_, fun X hX => pi_or (w := iList Γ.K te) (by rw [← hX.K]; exact pi_list (p X hX)) (pi_or (w := iTup Γ.K te) (by rw [← hX.K]; exact pi_tup (p X hX)) (pi_str (p X hX))), fun S ow σ H ρ R rep h => ?_⟩
  cases ef : f ρ with
  | stuck => unfold iSeq at h; rw [ef] at h; exact h.elim
  | err x ρ1 => exact .inl (s S ow σ H ρ _ rep (by unfold iSeq at h; rw [ef] at h ⊢; exact h))
  | ok d ρ1 =>
    have hb := Post.bind (f := fun d ρ1 => ofOpt (seqD d) ρ1) h
    rw [ef] at hb
    cases d with
    | list ds =>
      refine .inl (s S ow σ H ρ _ rep (by
        rw [ef]
        intro S1 H1 st r1 v dv
        obtain ⟨a, vs, rfl, ha, z, dd⟩ := dv
        exact ⟨a, rfl, ⟨vs, .of (r1.sub _ _ ha)⟩, (hb S1 H1 st r1).here r1 (.refl r1.sub) z _ (itok_list ha dd)⟩))
    | tuple ds =>
      refine .inr (.inl (s S ow σ H ρ _ rep (by
        rw [ef]
        intro S1 H1 st r1 v dv
        obtain ⟨a, vs, rfl, ha, z, dd⟩ := dv
        exact ⟨a, rfl, ⟨vs, .of (r1.sub _ _ ha)⟩, (hb S1 H1 st r1).here r1 (.refl r1.sub) z _ (itok_tup ha dd)⟩)))
    | str z =>
      refine .inr (.inr (s S ow σ H ρ _ rep (by
        rw [ef]
        intro S1 H1 st r1 v dv
        obtain ⟨rfl, hz⟩ := dv
        refine ⟨z, rfl, (hb S1 H1 st r1).here r1 (.refl r1.sub) ?_ _ (itok_str hz)⟩
        have := hz.2
        rw [List.length_map]
        simpa [Str.length] using this)))
    | none => exact .inl (s S ow σ H ρ _ rep (by rw [ef]; exact fun S1 H1 st r1 => (hb S1 H1 st r1).elim))
    | bool b => exact .inl (s S ow σ H ρ _ rep (by rw [ef]; exact fun S1 H1 st r1 => (hb S1 H1 st r1).elim))
    | int b => exact .inl (s S ow σ H ρ _ rep (by rw [ef]; exact fun S1 H1 st r1 => (hb S1 H1 st r1).elim))
    | dict b => exact .inl (s S ow σ H ρ _ rep (by rw [ef]; exact fun S1 H1 st r1 => (hb S1 H1 st r1).elim))
def rangeD (lo : Int) (n : Nat) : List D := (List.range n).map fun (i : Nat) => PyData.int (lo + i)
theorem itok_range {K : PySem.W.Frag} {S : Hp} (lo : Int) (n : Nat) : ItOk K (Itr lo n) S (rangeD lo n) := fun i S1 H s1 s2 => by
  refine ⟨fun d hd => ?_, fun hi => by
    show n ≤ i
    simpa [rangeD] using hi⟩
  unfold rangeD at hd
  rw [List.getElem?_map] at hd
  by_cases hi : i < n
  · rw [List.getElem?_range hi] at hd
    have hd' : PyData.int (lo + i) = d := Option.some.inj hd
    subst hd'
    refine ⟨hi, fun x H' y => ?_⟩
    obtain ⟨rfl, rfl⟩ := y
    exact ⟨S1, .refl s2, rfl⟩
  · rw [List.getElem?_eq_none (by simpa using hi)] at hd
    cases hd
def rng1 : D → Option (List D)
  | .int n => if n.toNat ≤ sizeLine ∧ -(2 ^ 62) ≤ n then some (rangeD 0 n.toNat) else none
  | _ => none
def iRange1 (f : M D) : M (List D) := fun ρ => (f ρ).bind fun d ρ1 => ofOpt (rng1 d) ρ1
theorem rangeD_len (lo : Int) (n : Nat) : (rangeD lo n).length = n := by simp [rangeD]
theorem big62 {n : Int} (h : n.toNat ≤ sizeLine) : n < 2 ^ 62 := by
  have : sizeLine = 16777216 := sizeLine_eq
  omega
theorem ji_range1 {p : Pos} (hB : Bl Γ.mg) (h : JE Γ e f) (hg : Γ.G "range" := by rfl) (he : ∀ env, starEach [e] env = [(false, eval e env)] := by intro _; rfl) : JI Γ tg (.Call (.Name "range" p) [e] [] pos) (iRange1 f) := by
  obtain ⟨te, pe, s⟩ := h
  refine ⟨_, fun X hX => pi_range1 (by show X.env.scope.names.lookup _ = _; rw [hX.sc]; exact hg) (by rw [hX.mg]; exact hB.range) (pa_one (pe X hX) (he _)) (he _), fun S ow σ H ρ R rep h => s S ow σ H ρ _ rep (h.bind.imp fun d S1 H1 ρ1 s1 f1 r1 h1 v dv => ?_)⟩
  cases d with
  | int n =>
    cases dv
    dsimp only [rng1] at h1
    by_cases c : n.toNat ≤ sizeLine ∧ -(2 ^ 62) ≤ n
    · rw [if_pos c] at h1
      exact ⟨n, rfl, c.2, big62 c.1, h1.here r1 (.refl r1.sub) (by rw [rangeD_len]; exact c.1) _ (itok_range 0 _)⟩
    · rw [if_neg c] at h1; exact h1.elim
  | _ => exact (show False from h1).elim
def rng2 : D → D → Option (List D)
  | .int lo, .int hi => if (hi - lo).toNat ≤ sizeLine ∧ -(2 ^ 62) ≤ lo ∧ lo < 2 ^ 62 ∧ -(2 ^ 62) ≤ hi ∧ hi < 2 ^ 62 then some (rangeD lo (hi - lo).toNat) else none
  | _, _ => none
def iRange2 (f f2 : M D) : M (List D) := fun ρ => (f ρ).bind fun d ρ1 => (f2 ρ1).bind fun d2 ρ2 => ofOpt (rng2 d d2) ρ2
theorem ji_range2 {p : Pos} (hB : Bl Γ.mg) (h : JE Γ e f) (h2 : JE Γ e2 f2) (hg : Γ.G "range" := by rfl) (he : ∀ env, starEach [e, e2] env = [(false, eval e env), (false, eval e2 env)] := by intro _; rfl) (he2 : ∀ env, starEach [e2] env = [(false, eval e2 env)] := by intro _; rfl) :
    JI Γ tg (.Call (.Name "range" p) [e, e2] [] pos) (iRange2 f f2) := by
  obtain ⟨te, pe, s⟩ := h
  obtain ⟨te2, pe2, s2⟩ := h2
  refine ⟨_, fun X hX => pi_range2 (by show X.env.scope.names.lookup _ = _; rw [hX.sc]; exact hg) (by rw [hX.mg]; exact hB.range) (pa_two (pe X hX) (pe2 X hX) (he _) (he2 _)) (he _) (he2 _), fun S ow σ H ρ R rep h => s S ow σ H ρ _ rep (h.bind.imp fun d S1 H1 ρ1 _ f1 r1 h1 v dv => s2 S1 ow σ H1 ρ1 _ r1 (h1.bind.imp fun d2 S2 H2 ρ2 s12 f2 r2 h2 u du => ?_))⟩
  cases d with
  | int lo => cases d2 with
    | int hi =>
      cases dv; cases du
      dsimp only [rng2] at h2
      by_cases c : (hi - lo).toNat ≤ sizeLine ∧ -(2 ^ 62) ≤ lo ∧ lo < 2 ^ 62 ∧ -(2 ^ 62) ≤ hi ∧ hi < 2 ^ 62
      · rw [if_pos c] at h2
        exact ⟨lo, hi, rfl, c.2, h2.here r2 (.refl r2.sub) (by rw [rangeD_len]; exact c.1) _ (itok_range lo _)⟩
      · rw [if_neg c] at h2; exact h2.elim
    | _ => exact (show False from h2).elim
  | _ => cases d2 <;> exact (show False from h2).elim
/-- zip of two lists, of two tuples -/
def zipD (ds es : List D) : List D := (ds.zip es).map fun p => .tuple [p.1, p.2]
def gZip : D → D → Option (List D)
  | .list ds, .list es => some (zipD ds es)
  | .tuple ds, .tuple es => some (zipD ds es)
  | _, _ => none
def iZipM (f f2 : M D) : M (List D) := fun ρ => (f ρ).bind fun d ρ1 => (f2 ρ1).bind fun d2 ρ2 => ofOpt (gZip d d2) ρ2
theorem zipD_get {ds es : List D} {i : Nat} {d : D} (h : (zipD ds es)[i]? = some d) : ∃ a b, ds[i]? = some a ∧ es[i]? = some b ∧ d = .tuple [a, b] := by
  unfold zipD at h
  rw [List.getElem?_map] at h
  cases q : (ds.zip es)[i]? with
  | none => rw [q] at h; cases h
  | some p =>
    rw [q] at h
    have hp : PyData.tuple [p.1, p.2] = d := Option.some.inj h
    obtain ⟨h1, h2⟩ := List.getElem?_zip_eq_some.mp q
    exact ⟨p.1, p.2, h1, h2, hp.symm⟩
theorem zipD_len (ds es : List D) : (zipD ds es).length = min ds.length es.length := by simp [zipD]
theorem pair_new {K : PySem.W.Frag} {S1 H : Hp} {a b : D} {x y : V} {T : Addr} (s : Same S1 H) (ha : Den K S1 a x) (hb : Den K S1 b y) (n : H T = none) : ∃ S2, Grow S1 H S2 (upd H T (.tup [x, y])) ∧ Den K S2 (.tuple [a, b]) (.ref T) := by
  have g := Grow.add (o := .tup [x, y]) s n
  exact ⟨_, g, T, [x, y], rfl, upd_same, by show 2 ≤ sizeLine; decide, _, _, rfl, Den.mono g.ss _ _ ha, _, _, rfl, Den.mono g.ss _ _ hb, rfl⟩
theorem itok_zipL {K : PySem.W.Frag} {S : Hp} {a b : Addr} {vs us : List V} {ds es : List D} (ha : S a = some (.lst vs)) (dv : Dens K S ds vs) (hb : S b = some (.lst us)) (du : Dens K S es us) : ItOk K (Itz K a b) S (zipD ds es) := fun i S1 H s1 s2 => by
  have qa : SqL K H a vs := .of (s2 _ _ (s1 _ _ ha))
  have qb : SqL K H b us := .of (s2 _ _ (s1 _ _ hb))
  refine ⟨fun d hd => ?_, fun hi => ⟨vs, us, qa, qb, by rw [zipD_len] at hi; rw [← dv.len, ← du.len]; omega⟩⟩
  obtain ⟨c, d', h1, h2, rfl⟩ := zipD_get hd
  obtain ⟨v, e1, w1⟩ := dv.get h1
  obtain ⟨u, e2, w2⟩ := du.get h2
  refine ⟨⟨vs, us, v, u, qa, qb, e1, e2⟩, fun x H' y => ?_⟩
  obtain ⟨T, x', y', rfl, n, rfl, k1, k2⟩ := y
  have : x' = v := by have := k1 vs qa; rw [e1] at this; cases this; rfl
  subst this
  have : y' = u := by have := k2 us qb; rw [e2] at this; cases this; rfl
  subst this
  exact pair_new s2 (Den.mono s1 _ _ w1) (Den.mono s1 _ _ w2) n
theorem itok_zipT {K : PySem.W.Frag} {S : Hp} {a b : Addr} {vs us : List V} {ds es : List D} (ha : S a = some (.tup vs)) (dv : Dens K S ds vs) (hb : S b = some (.tup us)) (du : Dens K S es us) : ItOk K (RZ.ItzT K a b) S (zipD ds es) := fun i S1 H s1 s2 => by
  have qa : SqT K H a vs := .of (s2 _ _ (s1 _ _ ha))
  have qb : SqT K H b us := .of (s2 _ _ (s1 _ _ hb))
  refine ⟨fun d hd => ?_, fun hi => ⟨vs, us, qa, qb, by rw [zipD_len] at hi; rw [← dv.len, ← du.len]; omega⟩⟩
  obtain ⟨c, d', h1, h2, rfl⟩ := zipD_get hd
  obtain ⟨v, e1, w1⟩ := dv.get h1
  obtain ⟨u, e2, w2⟩ := du.get h2
  refine ⟨⟨vs, us, v, u, qa, qb, e1, e2⟩, fun x H' y => ?_⟩
  obtain ⟨T, x', y', rfl, n, rfl, k1, k2⟩ := y
  have : x' = v := by have := k1 vs qa; rw [e1] at this; cases this; rfl
  subst this
  have : y' = u := by have := k2 us qb; rw [e2] at this; cases this; rfl
  subst this
  exact pair_new s2 (Den.mono s1 _ _ w1) (Den.mono s1 _ _ w2) n
theorem ji_zip {p tpos : Pos} {elts : List Expr} {kk : Nat} (hB : Bl Γ.mg) (h : JE Γ e f) (h2 : JE Γ e2 f2) (hg : Γ.G "zip" := by rfl) (he : ∀ env, starEach [e, e2] env = [(false, eval e env), (false, eval e2 env)] := by intro _; rfl) (he2 : ∀ env, starEach [e2] env = [(false, eval e2 env)] := by intro _; rfl) :
    JI Γ (.Tuple elts kk tpos) (.Call (.Name "zip" p) [e, e2] [] pos) (iZipM f f2) := by
  obtain ⟨te, pe, s⟩ := h
  obtain ⟨te2, pe2, s2⟩ := h2
  refine ⟨_, fun X hX => by
    have q := RZ.pi_zipA (X := X) (p := p) (pos := pos) (tpos := tpos) (elts := elts) (kk := kk) (by show X.env.scope.names.lookup _ = _; rw [hX.sc]; exact hg) (by rw [hX.mg]; exact hB.zip) (pa_two (pe X hX) (pe2 X hX) (he _) (he2 _)) (by rw [he, he2]) (by rw [he2]; rfl)
    rw [hX.K] at q
    exact q, fun S ow σ H ρ R rep h => s S ow σ H ρ _ rep (h.bind.imp fun d S1 H1 ρ1 _ f1 r1 h1 v dv => s2 S1 ow σ H1 ρ1 _ r1 (h1.bind.imp fun d2 S2 H2 ρ2 s12 f2 r2 h2 u du => ?_))⟩
  cases d with
  | list ds => cases d2 with
    | list es =>
      obtain ⟨a, vs, rfl, ha, z, dd⟩ := dv
      obtain ⟨b, us, rfl, hb, z2, dd2⟩ := du
      have ha2 := s12 _ _ ha
      exact ⟨a, b, vs, us, rfl, .inl ⟨.of (r2.sub _ _ ha2), .of (r2.sub _ _ hb), h2.here r2 (.refl r2.sub) (by rw [zipD_len]; omega) _ (itok_zipL ha2 (Dens.mono s12 _ _ dd) hb dd2)⟩⟩
    | _ => exact (show False from h2).elim
  | tuple ds => cases d2 with
    | tuple es =>
      obtain ⟨a, vs, rfl, ha, z, dd⟩ := dv
      obtain ⟨b, us, rfl, hb, z2, dd2⟩ := du
      have ha2 := s12 _ _ ha
      exact ⟨a, b, vs, us, rfl, .inr ⟨.of (r2.sub _ _ ha2), .of (r2.sub _ _ hb), h2.here r2 (.refl r2.sub) (by rw [zipD_len]; omega) _ (itok_zipT ha2 (Dens.mono s12 _ _ dd) hb dd2)⟩⟩
    | _ => exact (show False from h2).elim
  | _ => cases d2 <;> exact (show False from h2).elim
/-- enumerate of a list -/
def enumD (ds : List D) : List D := ds.zipIdx.map fun p => .tuple [.int (p.2 : Nat), p.1]
def gEnumL : D → Option (List D)
  | .list ds => some (enumD ds)
  | _ => none
def iEnumL (f : M D) : M (List D) := fun ρ => (f ρ).bind fun d ρ1 => ofOpt (gEnumL d) ρ1
theorem enumD_get {ds : List D} {i : Nat} {d : D} (h : (enumD ds)[i]? = some d) : ∃ a, ds[i]? = some a ∧ d = .tuple [.int (i : Nat), a] := by
  unfold enumD at h
  rw [List.getElem?_map, List.getElem?_zipIdx] at h
  cases q : ds[i]? with
  | none => rw [q] at h; cases h
  | some p =>
    rw [q] at h
    have hp : PyData.tuple [.int ((0 + i : Nat) : Int), p] = d := Option.some.inj h
    rw [Nat.zero_add] at hp
    exact ⟨p, rfl, hp.symm⟩
theorem enumD_len (ds : List D) : (enumD ds).length = ds.length := by simp [enumD]
theorem itok_enumL {K : PySem.W.Frag} {S : Hp} {a : Addr} {vs : List V} {ds : List D} (ha : S a = some (.lst vs)) (dv : Dens K S ds vs) : ItOk K (Ite K a) S (enumD ds) := fun i S1 H s1 s2 => by
  have qa : SqL K H a vs := .of (s2 _ _ (s1 _ _ ha))
  refine ⟨fun d hd => ?_, fun hi => ⟨vs, qa, by rw [enumD_len] at hi; rw [← dv.len]; exact hi⟩⟩
  obtain ⟨c, h1, rfl⟩ := enumD_get hd
  obtain ⟨v, e1, w1⟩ := dv.get h1
  refine ⟨⟨vs, v, qa, e1⟩, fun x H' y => ?_⟩
  obtain ⟨T, x', rfl, n, rfl, k1⟩ := y
  have : x' = v := by have := k1 vs qa; rw [e1] at this; cases this; rfl
  subst this
  exact pair_new s2 rfl (Den.mono s1 _ _ w1) n
theorem ji_enumL {p tpos : Pos} {elts : List Expr} {kk : Nat} (hB : Bl Γ.mg) (h : JE Γ e f) (hg : Γ.G "enumerate" := by rfl) (he : ∀ env, starEach [e] env = [(false, eval e env)] := by intro _; rfl) :
    JI Γ (.Tuple elts kk tpos) (.Call (.Name "enumerate" p) [e] [] pos) (iEnumL f) := by
  obtain ⟨te, pe, s⟩ := h
  refine ⟨_, fun X hX => by
    have q := pi_enum (X := X) (p := p) (pos := pos) (tpos := tpos) (elts := elts) (kk := kk) (by show X.env.scope.names.lookup _ = _; rw [hX.sc]; exact hg) (by rw [hX.mg]; exact hB.enumerate) (pa_one (pe X hX) (he _)) (he _)
    rw [hX.K] at q
    exact q, fun S ow σ H ρ R rep h => s S ow σ H ρ _ rep (h.bind.imp fun d S1 H1 ρ1 _ f1 r1 h1 v dv => ?_)⟩
  cases d with
  | list ds =>
    obtain ⟨a, vs, rfl, ha, z, dd⟩ := dv
    exact ⟨a, vs, rfl, .of (r1.sub _ _ ha), h1.here r1 (.refl r1.sub) (by rw [enumD_len]; exact z) _ (itok_enumL ha dd)⟩
  | _ => exact (show False from h1).elim
end
end DL

/-! The data layer, part 6: comprehensions. -/
namespace DL
open PySem PySem.Spec PyProof.Rows L2

/-- the context of a comprehension's block -/
def Ctx.blk (Γ : Ctx) (scope : Scope) : Ctx := { Γ with sc := relS scope Γ.sc, fn := fun x => scope.names.lookup x == some .cell, W := fun _ _ _ _ => False }
theorem Ctx.At.blk {Γ : Ctx} {X : Cx} (h : Γ.At X) (scope : Scope) (s : Shared) (H : Hp) (C : Addr) (cl : List (Str × Addr)) (fp : List Addr) : (Γ.blk scope).At (X.blk s H scope (compEnvC scope cl C X.env) fp) where
  P := h.P
  w := h.w
  K := h.K
  mg := h.mg
  base := h.base
  N := h.N
  sc := by show relS scope X.env.scope = relS scope Γ.sc; rw [h.sc]
  fn := rfl
  calm := h.calm
  room := h.room
  un := h.un
  tk := fun u s' ⟨a, B, sI, pins, σ, H, cls, d, e, I, nb, up, sky, na, os, ag, w⟩ => w.elim

def wipeR : Rho → List Nat → Rho
  | ρ, [] => ρ
  | ρ, v :: vs => (wipeR ρ vs).set v none
theorem wipeR_len (ρ : Rho) : ∀ vs, (wipeR ρ vs).length = ρ.length
  | [] => rfl
  | v :: vs => by unfold wipeR; rw [List.length_set, wipeR_len ρ vs]
theorem wipeR_out {ρ : Rho} {i : Nat} : ∀ {vs : List Nat}, i ∉ vs → (wipeR ρ vs)[i]? = ρ[i]?
  | [], _ => rfl
  | v :: vs, h => by
    have h1 : v ≠ i := fun e => h (by rw [e]; exact List.mem_cons_self)
    unfold wipeR
    rw [List.getElem?_set_ne h1]
    exact wipeR_out fun m => h (List.mem_cons_of_mem _ m)
theorem wipeR_in {ρ : Rho} {i : Nat} {x : SV} : ∀ {vs : List Nat}, i ∈ vs → (wipeR ρ vs)[i]? ≠ some (some x)
  | v :: vs, h => by
    unfold wipeR
    by_cases e : v = i
    · subst e
      rw [List.getElem?_set]
      simp only [if_true]
      split <;> exact fun z => nomatch z
    · rw [List.getElem?_set_ne e]
      exact wipeR_in (by rcases List.mem_cons.mp h with q | q; exact absurd q.symm e; exact q)
/-- slots vs as they were in ρ -/
def restR (ρ : Rho) : Rho → List Nat → Rho
  | ρ', [] => ρ'
  | ρ', v :: vs => (restR ρ ρ' vs).set v ((ρ[v]?).getD none)
theorem restR_len (ρ ρ' : Rho) : ∀ vs, (restR ρ ρ' vs).length = ρ'.length
  | [] => rfl
  | v :: vs => by unfold restR; rw [List.length_set, restR_len ρ ρ' vs]
theorem restR_out {ρ ρ' : Rho} {i : Nat} : ∀ {vs : List Nat}, i ∉ vs → (restR ρ ρ' vs)[i]? = ρ'[i]?
  | [], _ => rfl
  | v :: vs, h => by
    have h1 : v ≠ i := fun e => h (by rw [e]; exact List.mem_cons_self)
    unfold restR
    rw [List.getElem?_set_ne h1]
    exact restR_out fun m => h (List.mem_cons_of_mem _ m)
theorem restR_in {ρ ρ' : Rho} {i : Nat} {x : SV} : ∀ {vs : List Nat}, i ∈ vs → (restR ρ ρ' vs)[i]? = some (some x) → ρ[i]? = some (some x)
  | v :: vs, h, e => by
    unfold restR at e
    by_cases q : v = i
    · subst q
      rw [List.getElem?_set] at e
      simp only [if_true] at e
      split at e
      · cases z : ρ[v]? with
        | none => rw [z] at e; cases e
        | some o => rw [z] at e; exact e
      · cases e
    · rw [List.getElem?_set_ne q] at e
      exact restR_in (by rcases List.mem_cons.mp h with z | z; exact absurd z.symm q; exact z) e
theorem restR_in' {ρ ρ' : Rho} {i : Nat} : ∀ {vs : List Nat}, i ∈ vs → i < ρ'.length → (restR ρ ρ' vs)[i]? = some ((ρ[i]?).getD none)
  | v :: vs, h, hl => by
    unfold restR
    by_cases q : v = i
    · subst q
      rw [List.getElem?_set_self (by rw [restR_len]; exact hl)]
    · rw [List.getElem?_set_ne q]
      exact restR_in' (by rcases List.mem_cons.mp h with z | z; exact absurd z.symm q; exact z) hl
theorem wipe_in {σ : L2.St} {i : Nat} {x : V} {vs : List Nat} (h : i ∈ vs) : (wipe σ vs)[i]? ≠ some (some x) := fun e => (wipe_some e).2 h
/-- the block's names hold nothing of the def's own -/
def vsOk (ρ : Rho) (vs : List Nat) : Bool := vs.all fun v => match ρ[v]? with
  | some (some (.l _)) => false
  | some (some (.ll _)) => false
  | some (some (.k _)) => false
  | some (some (.t _)) => false
  | _ => true
section
variable {K : PySem.W.Frag} {S H : Hp} {ow : Nat → List Addr} {σ : L2.St} {ρ : Rho} {vs : List Nat}
theorem vsOk_ow (r : Rep K S ow σ H ρ) (h : vsOk ρ vs = true) {i : Nat} (hi : i ∈ vs) : ow i = [] := by
  have h1 := List.all_eq_true.mp h i hi
  cases e : ρ[i]? with
  | none => exact r.no i fun x z => by rw [e] at z; cases z
  | some o =>
    cases o with
    | none => exact r.no i fun x z => by rw [e] at z; cases z
    | some x =>
      cases x with
      | d x => obtain ⟨v, _, q⟩ := r.sl i _ e; exact q.1
      | e x a => obtain ⟨v, _, q⟩ := r.sl i _ e; exact q.1
      | s x => obtain ⟨v, _, q⟩ := r.sl i _ e; exact q.1
      | _ => rw [e] at h1; cases h1
theorem Rep.wipe (r : Rep K S ow σ H ρ) (h : vsOk ρ vs = true) : Rep K S ow (wipe σ vs) H (wipeR ρ vs) where
  sub := r.sub
  dis := r.dis
  inj := r.inj
  al := r.al
  len := by rw [wipeR_len, wipe_length]; exact r.len
  sl := fun i x e => by
    by_cases hi : i ∈ vs
    · exact absurd e (wipeR_in hi)
    · rw [wipeR_out hi] at e
      rw [wipe_out hi]
      exact r.sl i x e
  no := fun i e => by
    by_cases hi : i ∈ vs
    · exact vsOk_ow r h hi
    · exact r.no i fun x q => e x (by rw [wipeR_out hi]; exact q)
/-- back from the block -/
theorem Rep.rest {S0 H0 : Hp} {ρ0 : Rho} (r0 : Rep K S0 ow σ H0 ρ0) (hv : vsOk ρ0 vs = true) (s : Same S0 S) (r : Rep K S ow (L2.wipe σ vs) H ρ) : Rep K S ow σ H (restR ρ0 ρ vs) where
  sub := r.sub
  dis := r.dis
  inj := r.inj
  al := r.al
  len := by rw [restR_len, r.len, wipe_length]
  sl := fun i x e => by
    by_cases hi : i ∈ vs
    · have e0 := restR_in hi e
      obtain ⟨v, h1, h2⟩ := r0.sl i x e0
      have h3 := vsOk_ow r0 hv hi
      refine ⟨v, h1, h2.mono s fun p hp => ?_⟩
      rw [h3] at hp; cases hp
    · rw [restR_out hi] at e
      obtain ⟨v, h1, h2⟩ := r.sl i x e
      rw [wipe_out hi] at h1
      exact ⟨v, h1, h2⟩
  no := fun i e => by
    by_cases hi : i ∈ vs
    · exact vsOk_ow r0 hv hi
    · exact r.no i fun x q => e x (by rw [restR_out hi]; exact q)
theorem Rep.out {p : Addr} {o : HO} (r : Rep K S ow σ H ρ) (hS : S p = none) (hO : ∀ i, p ∉ ow i) : Rep K S ow σ (upd H p o) ρ where
  sub := fun b u e => by
    have : b ≠ p := fun z => by rw [z, hS] at e; cases e
    rw [upd_ne this]; exact r.sub b u e
  dis := r.dis
  inj := r.inj
  al := fun i q hq => by
    have : q ≠ p := fun z => hO i (by rw [← z]; exact hq)
    rw [upd_ne this]; exact r.al i q hq
  len := r.len
  sl := fun i x e => by
    obtain ⟨v, h1, h2⟩ := r.sl i x e
    refine ⟨v, h1, h2.mono (Same.refl S) fun q hq o ho => ?_⟩
    have : q ≠ p := fun z => hO i (by rw [← z]; exact hq)
    rw [upd_ne this]; exact ho
  no := r.no
theorem Stp.out {S' H' : Hp} {p : Addr} {o : HO} (h : Stp ow S H S' H') (hp : H p = none) : Stp ow S H S' (upd H' p o) where
  ss := h.ss
  fr := fun b u e n => by
    have : b ≠ p := fun z => by rw [z, hp] at e; cases e
    rw [upd_ne this]; exact h.fr b u e n
  dom := fun q hq => by
    by_cases z : q = p
    · rw [z, upd_same]; exact fun z => nomatch z
    · rw [upd_ne z]; exact h.dom q hq
  new := h.new
/-- the same slots behind a target of the block -/
theorem wipe_same {σ' : L2.St} (hl : σ'.length = σ.length) (h : ∀ j, j ∉ vs → σ'[j]? = σ[j]?) : L2.wipe σ' vs = L2.wipe σ vs := by
  refine List.ext_getElem? fun i => ?_
  by_cases hi : i ∈ vs
  · have a : ∀ τ : L2.St, τ.length = σ.length → (L2.wipe τ vs)[i]? = if i < σ.length then some none else none := fun τ ht => by
      by_cases z : i < σ.length
      · rw [if_pos z]
        have : i < (L2.wipe τ vs).length := by rw [wipe_length, ht]; exact z
        rw [List.getElem?_eq_getElem this]
        cases q : (L2.wipe τ vs)[i] with
        | none => rfl
        | some x => exact absurd (by rw [List.getElem?_eq_getElem this, q]) (wipe_in (σ := τ) (x := x) hi)
      · rw [if_neg z]
        exact List.getElem?_eq_none (by rw [wipe_length, ht]; omega)
    rw [a σ' hl, a σ rfl]
  · rw [wipe_out hi, wipe_out hi, h i hi]
end

/-- the turns of a comprehension -/
def fComp (vs : List Nat) (g : D → Rho → Option Rho) (t : M Bool) (f : M D) : List D → Rho → Res (List D)
  | [], ρ => .ok [] ρ
  | d :: ds, ρ => match g d ρ with
    | none => .stuck
    | some ρ1 => match t ρ1 with
      | .ok true ρ2 => (match f ρ2 with
        | .ok y ρ3 => (fComp vs g t f ds (wipeR ρ3 vs)).bind fun ys ρ4 => .ok (y :: ys) ρ4
        | _ => .stuck)
      | .ok false ρ2 => fComp vs g t f ds (wipeR ρ2 vs)
      | _ => .stuck
def oComp (vs : List Nat) (fi : M (List D)) (g : D → Rho → Option Rho) (t : M Bool) (f : M D) : M SV := fun ρ => (fi ρ).bind fun ds ρ1 =>
  if vsOk ρ1 vs = true then (match fComp vs g t f ds (wipeR ρ1 vs) with
    | .ok ys ρ2 => .ok (.l ys) (restR ρ1 ρ2 vs)
    | _ => .stuck)
  else .stuck
/-- tests of a comprehension -/
structure JTs (Γ : Ctx) (ifs : List Expr) (f : M Bool) : Prop where
  ex : ∃ te, (∀ X, Γ.At X → PTs X ifs te) ∧ SimT Γ te f
def tYesM : M Bool := fun ρ => .ok true ρ
section
variable {Γ : Ctx} {e tg iter : Expr} {pos : Pos}
theorem jts_nil : JTs Γ [] tYesM := ⟨_, fun _ _ => pts_nil, fun S ow σ H ρ Q rep h => h.here rep (.refl rep.sub)⟩
theorem jts_one {f : M Bool} (h : JT Γ e f) : JTs Γ [e] f := by
  obtain ⟨te, p, s⟩ := h
  exact ⟨te, fun X hX => pts_one (p X hX), s⟩
theorem Res.noerr {α : Type} {Γ : Ctx} {ow σ S H} {r : Res α} {Q Q' : α → Hp → Hp → Rho → Prop} (h : ∀ a ρ, r = .ok a ρ → ∀ S' H', Stp ow S H S' H' → Rep Γ.K S' ow σ H' ρ → Q a S' H' ρ) (hs : (∃ a ρ, r = .ok a ρ)) : Post Γ ow σ S H r Q := by
  obtain ⟨a, ρ, rfl⟩ := hs
  exact fun S' H' st rp => h a ρ rfl S' H' st rp
/-- one turn behind the target: tests, then the element -/
theorem comp_turn {scope : Scope} {vs : List Nat} {tt : TT} {te : TE} {t : M Bool} {f : M D} {S0 H0 S H : Hp} {ow : Nat → List Addr} {σ : L2.St} {ρ : Rho} {L : Addr} {acc : List D} {va : List V} {Nx : Hp → Prop} {g : Rho → Res (List D)} {total : Res (List D)}
    (st : SimT (Γ.blk scope) tt t) (se : Sim (Γ.blk scope) te f) (q0 : Stp ow S0 H0 S H) (hL0 : H0 L = none) (rep : Rep Γ.K S ow σ H ρ) (hL : H L = some (.lst va)) (nS : S L = none) (nO : ∀ i, L ∉ ow i) (da : Dens Γ.K S acc va) (hl : acc.length < sizeLine)
    (htot : total = (match t ρ with
      | .ok true ρ2 => (match f ρ2 with
        | .ok y ρ3 => (g (wipeR ρ3 vs)).bind fun ys ρ4 => .ok (acc ++ y :: ys) ρ4
        | _ => .stuck)
      | .ok false ρ2 => (g (wipeR ρ2 vs)).bind fun ys ρ4 => .ok (acc ++ ys) ρ4
      | _ => .stuck)) (hne : ∃ ys ρ4, total = .ok ys ρ4)
    (hN : ∀ S' H' ρ' acc' va', Stp ow S0 H0 S' H' → Rep Γ.K S' ow σ H' ρ' → H' L = some (.lst va') → S' L = none → Dens Γ.K S' acc' va' → acc'.length ≤ acc.length + 1 → total = ((g (wipeR ρ' vs)).bind fun ys ρ4 => .ok (acc' ++ ys) ρ4) → Nx H') :
    tt σ H fun b H3 => if b = true then te σ H3 fun y H4 => ∃ ac, H4 L = some (.lst ac) ∧ ac.length < sizeLine ∧ Nx (upd H4 L (.lst (ac ++ [y]))) else Nx H3 := by
  refine st S ow σ H ρ _ rep ?_
  have keep : ∀ {S' H' : Hp}, Stp ow S H S' H' → H' L = some (.lst va) ∧ S' L = none := fun {S' H'} q => by
    refine ⟨q.fr L _ hL nO, ?_⟩
    cases z : S' L with
    | none => rfl
    | some o =>
      have := q.new L (by rw [z]; exact fun z => nomatch z) nS
      rw [hL] at this; cases this
  cases et : t ρ with
  | stuck => rw [et] at htot; obtain ⟨ys, ρ4, h⟩ := hne; rw [htot] at h; cases h
  | err x ρ2 => rw [et] at htot; obtain ⟨ys, ρ4, h⟩ := hne; rw [htot] at h; cases h
  | ok b ρ2 =>
    rw [et] at htot
    intro S3 H3 q3 r3
    obtain ⟨k1, k2⟩ := keep q3
    cases b with
    | false =>
      rw [if_neg Bool.false_ne_true]
      exact hN S3 H3 ρ2 acc va (q0.trans q3) r3 k1 k2 (Dens.mono q3.ss _ _ da) (Nat.le_succ _) htot
    | true =>
      rw [if_pos rfl]
      refine se S3 ow σ H3 ρ2 _ r3 ?_
      cases ef : f ρ2 with
      | stuck => simp only [ef] at htot; obtain ⟨ys, ρ4, h⟩ := hne; rw [htot] at h; cases h
      | err x ρ3 => simp only [ef] at htot; obtain ⟨ys, ρ4, h⟩ := hne; rw [htot] at h; cases h
      | ok y ρ3 =>
        simp only [ef] at htot
        intro S4 H4 q4 r4 v dv
        have q5 := q3.trans q4
        obtain ⟨k3, k4⟩ := keep q5
        have d4 := Dens.mono q5.ss _ _ da
        refine ⟨va, k3, by rw [← da.len]; exact hl, ?_⟩
        refine hN S4 _ ρ3 (acc ++ [y]) (va ++ [v]) ((q0.trans q5).out hL0) (r4.out k4 nO) upd_same k4 (d4.append (.one dv)) (by rw [List.length_append]; exact Nat.le_refl _) ?_
        rw [htot]
        congr 1
        funext ys ρ4
        rw [List.append_assoc]; rfl
theorem bind_app {r : Res (List D)} (acc : List D) (y : D) : (r.bind fun ys ρ4 => Res.ok (y :: ys) ρ4).bind (fun ys ρ4 => .ok (acc ++ ys) ρ4) = r.bind fun ys ρ4 => .ok (acc ++ y :: ys) ρ4 := by
  cases r <;> rfl
/-- [e for tg in iter if ..] -/
theorem jo_comp {elt : Expr} {ifs : List Expr} {scope : Scope} {own : List (Str × Nat)} {vs ws : List Nat} {fi : M (List D)} {g : D → Rho → Option Rho} {t : M Bool} {f : M D} (hc : Γ.calm = true) (hN : Γ.N.Nodup) (hi : JI Γ tg iter fi) (ok : BlkOk Γ.N Γ.sc scope own) (hv : own.map (·.2) = vs)
    (hg : JG (Γ.blk scope) tg ws g) (hw : ∀ j ∈ ws, j ∈ vs) (ht : JTs (Γ.blk scope) ifs t) (he : JE (Γ.blk scope) elt f) (hs : ∀ env x, foldedSetIterable iter env x = pure x := by intro _ _; rfl) :
    JO Γ (.ListComp elt [⟨tg, iter, ifs, 0⟩] scope pos) (oComp vs fi g t f) := by
  obtain ⟨wi, pi, si⟩ := hi
  obtain ⟨tg', pg, sg⟩ := hg
  obtain ⟨tt, pt, st⟩ := ht
  obtain ⟨te, pe, se⟩ := he
  refine ⟨tLc wi tg' tt te (own.map (·.2)), fun X hX => pe_lc (calm_of hX hc) (by rw [hX.N]; exact hN) (pi X hX) (by rw [hX.N, hX.sc]; exact ok) (fun s H C cl fp => pg _ (hX.blk scope s H C cl fp)) (fun s H C cl fp => pt _ (hX.blk scope s H C cl fp)) (fun s H C cl fp => pe _ (hX.blk scope s H C cl fp)) (hs _), fun S ow σ H ρ Q rep h => ?_⟩
  rw [hv]
  unfold oComp at h
  refine si S ow σ H ρ _ rep (h.bind.imp' fun ds S0 H0 ρ0 st0 r0 h0 hz J hJ L nL => ?_)
  by_cases cv : vsOk ρ0 vs = true
  · rw [if_pos cv] at h0
    cases etot : fComp vs g t f ds (wipeR ρ0 vs) with
    | stuck => rw [etot] at h0; exact h0.elim
    | err x ρe => rw [etot] at h0; exact h0.elim
    | ok ys ρe =>
      rw [etot] at h0
      have nO : ∀ i, L ∉ ow i := fun i hi => r0.al i L hi nL
      have rw0 := r0.wipe cv
      refine ⟨fun i m H' => m = ds.length - i ∧ i ≤ ds.length ∧ ∃ S1 ρ1 acc va, Stp ow S0 H0 S1 H' ∧ Rep Γ.K S1 ow (L2.wipe σ vs) H' ρ1 ∧ H' L = some (.lst va) ∧ S1 L = none ∧ Dens Γ.K S1 acc va ∧ acc.length ≤ i ∧
        (Res.ok ys ρe : Res (List D)) = (fComp vs g t f (ds.drop i) ρ1).bind fun zs ρ4 => .ok (acc ++ zs) ρ4, ⟨ds.length, by simp, Nat.zero_le _, S0, wipeR ρ0 vs, [], [], (Grow.refl r0.sub).stp.out nL, rw0.out (r0.sub.free nL) nO, upd_same, r0.sub.free nL, rfl, Nat.le_refl _, ?_⟩, ?_⟩
      · rw [List.drop_zero, etot]; rfl
      · rintro i m H1 ⟨rfl, hi, S1, ρ1, acc, va, q1, r1, hL, nS, da, hl, htot⟩
        obtain ⟨go, stop⟩ := hJ i S1 H1 q1.ss r1.sub
        by_cases hlt : i < ds.length
        · have hd : ds[i]? = some ds[i] := List.getElem?_eq_getElem hlt
          obtain ⟨go1, go2⟩ := go _ hd
          refine .inr ⟨go1, fun H' => ∃ S2 ρ2 acc' va', Stp ow S0 H0 S2 H' ∧ Rep Γ.K S2 ow (L2.wipe σ vs) H' ρ2 ∧ H' L = some (.lst va') ∧ S2 L = none ∧ Dens Γ.K S2 acc' va' ∧ acc'.length ≤ i + 1 ∧
            (Res.ok ys ρe : Res (List D)) = (fComp vs g t f (ds.drop (i + 1)) ρ2).bind fun zs ρ4 => .ok (acc' ++ zs) ρ4, fun H' hN => ⟨ds.length - (i + 1), by omega, rfl, hlt, hN⟩, fun x H' hy => ?_⟩
          obtain ⟨S2, g2, dx⟩ := go2 x H' hy
          have r2 := r1.grow g2
          have q2 := q1.trans g2.stp
          have hL2 : H' L = some (.lst va) := g2.hh _ _ hL
          have nS2 : S2 L = none := by
            cases z : S2 L with
            | none => rfl
            | some o =>
              have := g2.new L (by rw [z]; exact fun z => nomatch z) nS
              rw [hL] at this; cases this
          rw [List.drop_eq_getElem_cons hlt] at htot
          unfold fComp at htot
          refine sg S2 ow _ H' ρ1 _ x _ r2 dx ?_
          cases eg : g ds[i] ρ1 with
          | none => simp only [eg] at htot; cases htot
          | some ρ2 =>
            simp only [eg] at htot
            intro ow' σ' r3 l3 a3 b3 c3
            have oeq : ow' = ow := by
              funext j
              by_cases hj : j ∈ ws
              · have h1 : ow j = [] := vsOk_ow r0 cv (hw j hj)
                have h2 : ow' j = [] := List.eq_nil_iff_forall_not_mem.mpr fun p hp => by
                  have := b3 j p hp
                  rw [h1] at this; cases this
                rw [h1, h2]
              · exact (a3 j hj).2
            subst oeq
            have hwp : L2.wipe σ' vs = L2.wipe (L2.wipe σ vs) vs := wipe_same l3 fun j hj => (a3 j fun z => hj (hw j z)).1
            have hww : L2.wipe (L2.wipe σ vs) vs = L2.wipe σ vs := wipe_same (by rw [wipe_length]) fun j hj => wipe_out hj
            rw [hww] at hwp
            refine ⟨hwp, ?_⟩
            refine comp_turn (vs := vs) (g := fComp vs g t f (ds.drop (i + 1))) (total := .ok ys ρe) st se q2 nL r3 hL2 nS2 nO (Dens.mono g2.ss _ _ da) (by omega) ?_ ⟨ys, ρe, rfl⟩ ?_
            · rw [htot]
              cases t ρ2 with
              | stuck => rfl
              | err x ρ3 => rfl
              | ok b ρ3 =>
                cases b with
                | false => rfl
                | true =>
                  dsimp only
                  cases f ρ3 with
                  | stuck => rfl
                  | err x ρ4 => rfl
                  | ok y ρ4 => exact bind_app acc y
            · intro S' H'' ρ' acc' va' q' r' hL' nS' da' hl' ht'
              refine ⟨S', wipeR ρ' vs, acc', va', q', ?_, hL', nS', da', by omega, ht'⟩
              have hok : vsOk ρ' vs = true := by
                refine List.all_eq_true.mpr fun j hj => ?_
                have hoj : ow' j = [] := vsOk_ow r0 cv hj
                cases ej : ρ'[j]? with
                | none => rfl
                | some o =>
                  cases o with
                  | none => rfl
                  | some y =>
                    obtain ⟨v, _, q⟩ := r'.sl j y ej
                    rw [hoj] at q
                    cases y with
                    | d x => rfl
                    | e x a => rfl
                    | s x => rfl
                    | l x => obtain ⟨p, vs, e, _⟩ := q; cases e
                    | ll x => obtain ⟨p, vs, e, _⟩ := q; cases e
                    | k x => obtain ⟨p, vs, e, _⟩ := q; cases e
                    | t x => obtain ⟨p, vs, e, _⟩ := q; cases e
              have := r'.wipe hok
              rw [hwp] at this
              exact this
        · have e : i = ds.length := by omega
          subst e
          refine .inl ⟨stop (Nat.le_refl _), ?_⟩
          rw [List.drop_length] at htot
          have hz2 : Res.ok ys ρe = (Res.ok (acc ++ []) ρ1 : Res (List D)) := htot
          rw [List.append_nil] at hz2
          cases hz2
          refine h0 S1 H1 q1 (r0.rest cv q1.ss r1) (.ref L) [L] ⟨L, va, rfl, rfl, hL, by omega, da⟩ fun p hp => ?_
          have : p = L := List.mem_singleton.mp hp
          subst this
          refine ⟨nS, ?_, nO⟩
          cases z : H p with
          | none => rfl
          | some o => exact absurd nL (st0.dom p (by rw [z]; exact fun z => nomatch z))
  · rw [if_neg cv] at h0
    exact h0.elim
end
end DL

/-! The data layer, part 7: statements, loops. -/
namespace DL
open PySem PySem.Spec PyProof.Rows L2

inductive Fl where
  | next (ρ : Rho)
  | ret (x : SV) (ρ : Rho)
  | brk (ρ : Rho)
  | cnt (ρ : Rho)
  | err (x : String) (ρ : Rho)
  | stuck
abbrev G := Rho → Fl
/-- a step of a statement -/
structure Sto (Γ : Ctx) (ow : Nat → List Addr) (S H : Hp) (ow' : Nat → List Addr) (S' H' : Hp) : Prop where
  ss : Same S S'
  fr : Fr ow H H'
  dom : ∀ p, H p ≠ none → H' p ≠ none
  own : ∀ i p, p ∈ ow' i → p ∈ ow i ∨ H p = none
  bor : ∀ i ∈ Γ.bor, ow' i = ow i
  new : ∀ p, S' p ≠ none → S p = none → H p = none ∨ ∃ i, i ∉ Γ.bor ∧ p ∈ ow i
section
variable {Γ : Ctx} {ow ow1 ow2 : Nat → List Addr} {S H S1 H1 S2 H2 : Hp} {σ : L2.St} {ρ : Rho}
theorem Stp.sto (h : Stp ow S H S1 H1) : Sto Γ ow S H ow S1 H1 := ⟨h.ss, h.fr, h.dom, fun _ _ q => .inl q, fun _ _ => rfl, fun p a b => .inl (h.new p a b)⟩
theorem Sto.trans (a : Sto Γ ow S H ow1 S1 H1) (b : Sto Γ ow1 S1 H1 ow2 S2 H2) : Sto Γ ow S H ow2 S2 H2 where
  ss := a.ss.trans b.ss
  fr := fun c o e n => b.fr c o (a.fr c o e n) fun i hi => by
    rcases a.own i c hi with q | q
    · exact n i q
    · rw [e] at q; cases q
  dom := fun p h => b.dom p (a.dom p h)
  own := fun i p hp => by
    rcases b.own i p hp with q | q
    · exact a.own i p q
    · right
      cases e : H p with
      | none => rfl
      | some o => exact absurd q (a.dom p (by rw [e]; exact fun z => nomatch z))
  bor := fun i hi => (b.bor i hi).trans (a.bor i hi)
  new := fun p h1 h2 => by
    cases e : S1 p with
    | some o => exact a.new p (by rw [e]; exact fun z => nomatch z) h2
    | none =>
      rcases b.new p h1 e with q | ⟨i, hi, hp⟩
      · left
        cases e2 : H p with
        | none => rfl
        | some o => exact absurd q (a.dom p (by rw [e2]; exact fun z => nomatch z))
      · rcases a.own i p hp with q | q
        · exact .inr ⟨i, hi, q⟩
        · exact .inl q
/-- what is handed back is new, or the def's own -/
def Own (Γ : Ctx) (ow : Nat → List Addr) (H S' : Hp) (os : List Addr) : Prop := ∀ p ∈ os, S' p = none ∧ (H p = none ∨ ∃ i, i ∉ Γ.bor ∧ p ∈ ow i)
/-- what must hold behind a statement -/
def PostS (Γ : Ctx) (ow : Nat → List Addr) (S H : Hp) (r : Fl) (D : Ends) : Prop := match r with
  | .next ρ' => ∀ S' H' ow' σ', Sto Γ ow S H ow' S' H' → Rep Γ.K S' ow' σ' H' ρ' → D.nx σ' H'
  | .brk ρ' => ∀ S' H' ow' σ', Sto Γ ow S H ow' S' H' → Rep Γ.K S' ow' σ' H' ρ' → D.bk σ' H'
  | .cnt ρ' => ∀ S' H' ow' σ', Sto Γ ow S H ow' S' H' → Rep Γ.K S' ow' σ' H' ρ' → D.ct σ' H'
  | .ret x ρ' => ∀ S' H' ow' σ' v os, Sto Γ ow S H ow' S' H' → Rep Γ.K S' ow' σ' H' ρ' → (∀ i ∈ Γ.bor, ∀ p ∈ ow' i, p ∉ os) → SvOk Γ.K S' H' os x v → Own Γ ow H S' os → D.rt v H'
  | .err x ρ' => ∀ S' H' ow' σ' C, Sto Γ ow S H ow' S' H' → Rep Γ.K S' ow' σ' H' ρ' → Γ.C x C → Γ.W (.ref C) none σ' H'
  | .stuck => False
theorem Own.back (a : Sto Γ ow S H ow1 S1 H1) {S' : Hp} {os : List Addr} (h : Own Γ ow1 H1 S' os) : Own Γ ow H S' os := fun p hp => by
  obtain ⟨h1, h2⟩ := h p hp
  refine ⟨h1, ?_⟩
  rcases h2 with q | ⟨i, hi, q⟩
  · left
    cases e : H p with
    | none => rfl
    | some o => exact absurd q (a.dom p (by rw [e]; exact fun z => nomatch z))
  · rcases a.own i p q with z | z
    · exact .inr ⟨i, hi, z⟩
    · exact .inl z
/-- behind a step -/
theorem PostS.after {r : Fl} {D : Ends} (h : PostS Γ ow S H r D) (st : Sto Γ ow S H ow1 S1 H1) : PostS Γ ow1 S1 H1 r D := by
  cases r with
  | next ρ => exact fun S' H' ow' σ' s r => h S' H' ow' σ' (st.trans s) r
  | brk ρ => exact fun S' H' ow' σ' s r => h S' H' ow' σ' (st.trans s) r
  | cnt ρ => exact fun S' H' ow' σ' s r => h S' H' ow' σ' (st.trans s) r
  | ret x ρ => exact fun S' H' ow' σ' v os s r b q o => h S' H' ow' σ' v os (st.trans s) r b q (o.back st)
  | err x ρ => exact fun S' H' ow' σ' C s r c => h S' H' ow' σ' C (st.trans s) r c
  | stuck => exact h
end
def SimS (Γ : Ctx) (ts : TS) (g : G) : Prop := ∀ S ow σ H ρ (D : Ends), Rep Γ.K S ow σ H ρ → PostS Γ ow S H (g ρ) D → ts D σ H
/-- the frame of a def, for statements -/
structure Ctx.AtS (Γ : Ctx) (X : Cx) : Prop extends Γ.At X where
  stk : X.stack = X.env :: X.outer
  frm : X.env.frame = some X.env.locals
  pas : PassesOwn (model X.prog X.w) X.A X.env X.xe
structure JS (Γ : Ctx) (st : Stmt) (g : G) : Prop where
  ex : ∃ ts, (∀ X, Γ.AtS X → PS X st ts) ∧ SimS Γ ts g
structure JSs (Γ : Ctx) (sts : List Stmt) (g : G) : Prop where
  ex : ∃ ts, (∀ X, Γ.AtS X → PSs X sts ts) ∧ SimS Γ ts g
/-- an expression's outcome, then a statement's -/
def Res.go {α : Type} (r : Res α) (k : α → G) : Fl := match r with
  | .ok a ρ => k a ρ
  | .err x ρ => .err x ρ
  | .stuck => .stuck
@[simp] theorem Res.go_ok {α : Type} (a : α) (ρ : Rho) (k : α → G) : (Res.ok a ρ).go k = k a ρ := rfl
@[simp] theorem Res.go_err {α : Type} (x : String) (ρ : Rho) (k : α → G) : (Res.err x ρ : Res α).go k = .err x ρ := rfl
@[simp] theorem Res.go_stuck {α : Type} (k : α → G) : (Res.stuck : Res α).go k = .stuck := rfl
section
variable {Γ : Ctx} {ow : Nat → List Addr} {S H : Hp} {σ : L2.St} {α : Type}
theorem PostS.go {r : Res α} {k : α → G} {D : Ends} {Q : α → Hp → Hp → Rho → Prop} (h : PostS Γ ow S H (r.go k) D) (hW : ∀ σ' : L2.St, True := fun _ => trivial)
    (hq : ∀ a S1 H1 ρ1, Stp ow S H S1 H1 → Rep Γ.K S1 ow σ H1 ρ1 → PostS Γ ow S1 H1 (k a ρ1) D → Q a S1 H1 ρ1) : Post Γ ow σ S H r Q := by
  cases r with
  | stuck => exact h
  | err x ρ => exact fun S1 H1 C st r c => h S1 H1 ow σ C st.sto r c
  | ok a ρ => exact fun S1 H1 st r => hq a S1 H1 ρ st r (PostS.after h st.sto)
end
/-! ### blocks -/
def gNext : G := fun ρ => .next ρ
def gSeq (g k : G) : G := fun ρ => match g ρ with
  | .next ρ' => k ρ'
  | r => r
def gRet (f : M D) : G := fun ρ => (f ρ).go fun d ρ1 => .ret (.d d) ρ1
def gRetO (f : M SV) : G := fun ρ => (f ρ).go fun x ρ1 => .ret x ρ1
def gIf (t : M Bool) (a b : G) : G := fun ρ => (t ρ).go fun k ρ1 => if k = true then a ρ1 else b ρ1
def gDrop (f : M D) : G := fun ρ => (f ρ).go fun _ ρ1 => .next ρ1
def gBrk : G := fun ρ => .brk ρ
def gCnt : G := fun ρ => .cnt ρ
def gSet (g : D → Rho → Option Rho) (f : M D) : G := fun ρ => (f ρ).go fun d ρ1 => match g d ρ1 with
  | some ρ2 => .next ρ2
  | none => .stuck
section
variable {Γ : Ctx} {st : Stmt} {sts : List Stmt} {g k : G} {e : Expr} {f : M D} {pos : Pos}
theorem Rep.sto_refl {ow S σ H ρ} (r : Rep Γ.K S ow σ H ρ) : Sto Γ ow S H ow S H := (Grow.refl r.sub).stp.sto
theorem jss_nil : JSs Γ [] gNext := ⟨_, fun _ _ => pss_nil, fun S ow σ H ρ D r h => h S H ow σ r.sto_refl r⟩
theorem sim_seq {t u : TS} (s1 : SimS Γ t g) (s2 : SimS Γ u k) : SimS Γ (tSeq t u) (gSeq g k) := fun S ow σ H ρ D r h => s1 S ow σ H ρ _ r (by
    unfold gSeq at h
    cases eg : g ρ with
    | next ρ' =>
      rw [eg] at h
      intro S' H' ow' σ' st r'
      exact s2 S' ow' σ' H' ρ' D r' (PostS.after h st)
    | _ => rw [eg] at h; exact h)
theorem jss_cons (h1 : JS Γ st g) (h2 : JSs Γ sts k) : JSs Γ (st :: sts) (gSeq g k) := by
  obtain ⟨t, p, s1⟩ := h1
  obtain ⟨u, q, s2⟩ := h2
  exact ⟨_, fun X hX => pss_cons (p X hX) (q X hX), sim_seq s1 s2⟩
theorem jss_one (h1 : JS Γ st g) : JSs Γ [st] g := by
  obtain ⟨t, p, s1⟩ := h1
  exact ⟨_, fun X hX => pss_one (p X hX), s1⟩
theorem js_pass : JS Γ (.Pass pos) gNext := ⟨_, fun _ _ => ps_pass, fun S ow σ H ρ D r h => h S H ow σ r.sto_refl r⟩
theorem js_brk : JS Γ (.Break pos) gBrk := ⟨_, fun _ _ => ps_break, fun S ow σ H ρ D r h => h S H ow σ r.sto_refl r⟩
theorem js_cnt : JS Γ (.Continue pos) gCnt := ⟨_, fun _ _ => ps_continue, fun S ow σ H ρ D r h => h S H ow σ r.sto_refl r⟩
theorem js_ret (h : JE Γ e f) : JS Γ (.Return (some e) pos) (gRet f) := by
  obtain ⟨te, p, s⟩ := h
  exact ⟨_, fun X hX => ps_ret (p X hX.toAt), fun S ow σ H ρ D r h => s S ow σ H ρ _ r (PostS.go h (fun _ => trivial) fun d S1 H1 ρ1 st r1 h1 v dv => h1 S1 H1 ow σ v [] r1.sto_refl r1 (fun i hi p hp => by simp) ⟨rfl, dv⟩ (fun p hp => by cases hp))⟩
/-- .. and what is wanted of it, from where it began -/
theorem PostS.go0 {ow S H σ} {α : Type} {r : Res α} {k : α → G} {D : Ends} {Q : α → Hp → Hp → Rho → Prop} (h : PostS Γ ow S H (r.go k) D)
    (hq : ∀ a S1 H1 ρ1, Stp ow S H S1 H1 → Rep Γ.K S1 ow σ H1 ρ1 → PostS Γ ow S H (k a ρ1) D → Q a S1 H1 ρ1) : Post Γ ow σ S H r Q := by
  cases r with
  | stuck => exact h
  | err x ρ => exact fun S1 H1 C st r c => h S1 H1 ow σ C st.sto r c
  | ok a ρ => exact fun S1 H1 st r => hq a S1 H1 ρ st r h
theorem js_retO {f : M SV} (h : JO Γ e f) : JS Γ (.Return (some e) pos) (gRetO f) := by
  obtain ⟨te, p, s⟩ := h
  exact ⟨_, fun X hX => ps_ret (p X hX.toAt), fun S ow σ H ρ D r h => s S ow σ H ρ _ r (h.go0 fun x S1 H1 ρ1 st r1 h1 v os q n => h1 S1 H1 ow σ v os st.sto r1 (fun i hi p hp ho => (n p ho).2.2 i hp) q fun p hp => ⟨(n p hp).1, .inl (n p hp).2.1⟩)⟩
theorem js_if {c : Expr} {a b : List Stmt} {t : M Bool} (hc : JT Γ c t) (ha : JSs Γ a g) (hb : JSs Γ b k) : JS Γ (.If c a b pos) (gIf t g k) := by
  obtain ⟨tc, pc, sc⟩ := hc
  obtain ⟨ta, pa, sa⟩ := ha
  obtain ⟨tb, pb, sb⟩ := hb
  refine ⟨_, fun X hX => ps_if (pc X hX.toAt) (pa X hX) (pb X hX), fun S ow σ H ρ D r h => sc S ow σ H ρ _ r (PostS.go h (fun _ => trivial) fun c S1 H1 ρ1 st r1 h1 => ?_)⟩
  cases c with
  | true => exact sa S1 ow σ H1 ρ1 D r1 h1
  | false => exact sb S1 ow σ H1 ρ1 D r1 h1
theorem js_expr (h : JE Γ e f) (hs : ∀ env, swapsWith e none pos.line env = pure false := by intro _; rfl) : JS Γ (.Expr e pos) (gDrop f) := by
  obtain ⟨te, p, s⟩ := h
  exact ⟨_, fun X hX => ps_expr (p X hX.toAt) (hs _), fun S ow σ H ρ D r h => s S ow σ H ρ _ r (PostS.go h (fun _ => trivial) fun d S1 H1 ρ1 st r1 h1 v dv => h1 S1 H1 ow σ r1.sto_refl r1)⟩

/-! ### a slot's own thing: handed back, kept as data from now on -/
def gRetS (i : Nat) (bor : List Nat) : G := fun ρ => match ρ[i]? with
  | some (some x) => if i ∈ bor then .stuck else .ret x ρ
  | _ => .stuck
theorem js_retS {x : Str} {ps : Pos} (i : Nat) (hN : Γ.N[i]? = some x := by rfl) (hv : Vis Γ.sc x := by first | exact Or.inl rfl | exact Or.inr (Or.inl rfl) | exact Or.inr (Or.inr rfl)) (hd : (x == ("__debug__" : Str)) = false := by decide)
    (hcd : (x == ("__classdict__" : Str)) = false := by decide) : JS Γ (.Return (some (.Name x ps)) pos) (gRetS i Γ.bor) := by
  refine ⟨_, fun X hX => ps_ret (pe_slot i hX.toAt hN hv hd hcd), fun S ow σ H ρ D r h => ?_⟩
  unfold gRetS at h
  split at h
  · rename_i y ey
    by_cases hb : i ∈ Γ.bor
    · rw [if_pos hb] at h; exact h.elim
    · rw [if_neg hb] at h
      obtain ⟨v, h1, h2⟩ := r.sl i _ ey
      refine ⟨v, h1, h S H ow σ v (ow i) r.sto_refl r (fun j hj p hp ho => ?_) h2 fun p hp => ⟨r.dis i p hp, .inr ⟨i, hb, hp⟩⟩⟩
      have := r.inj j i p hp ho
      subst this
      exact hb hj
  · exact h.elim
def frzR (i : Nat) (bor : List Nat) (ρ : Rho) : Option Rho := match ρ[i]? with
  | some (some x) => if i ∈ bor then none else x.frz.map fun d => ρ.set i (some (.d d))
  | _ => none
/-- slot i's thing is data from here on -/
def gFrz (i : Nat) (bor : List Nat) (g : G) : G := fun ρ => match frzR i bor ρ with
  | some ρ' => g ρ'
  | none => .stuck
theorem Rep.frz {S H : Hp} {ow : Nat → List Addr} {σ : L2.St} {ρ ρ' : Rho} {i : Nat} (r : Rep Γ.K S ow σ H ρ) (h : frzR i Γ.bor ρ = some ρ') : Sto Γ ow S H (fun j => if j = i then [] else ow j) (addS S H (ow i)) H ∧ Rep Γ.K (addS S H (ow i)) (fun j => if j = i then [] else ow j) σ H ρ' := by
  unfold frzR at h
  split at h
  · rename_i x ex
    by_cases hb : i ∈ Γ.bor
    · rw [if_pos hb] at h; cases h
    · rw [if_neg hb] at h
      cases ef : x.frz with
      | none => rw [ef] at h; cases h
      | some d =>
        rw [ef] at h
        have e : ρ.set i (some (.d d)) = ρ' := Option.some.inj h
        subst e
        obtain ⟨v, h1, h2⟩ := r.sl i _ ex
        have hi : i < ρ.length := (List.getElem?_eq_some_iff.mp ex).1
        have n : ∀ p ∈ ow i, S p = none := fun p hp => r.dis i p hp
        refine ⟨⟨addS_same n, .of_same (Same.refl H), fun _ q => q, fun j p hp => ?_, fun j hj => if_neg fun e => hb (by rw [← e]; exact hj), fun p h3 h4 => ?_⟩, ⟨addS_sub r.sub, fun j p hp => ?_, fun j k p hj hk => ?_, fun j p hp => ?_, by rw [List.length_set]; exact r.len, fun j y e => ?_, fun j e => ?_⟩⟩
        · by_cases z : j = i
          · rw [if_pos z] at hp; cases hp
          · rw [if_neg z] at hp; exact .inl hp
        · by_cases hp : p ∈ ow i
          · exact .inr ⟨i, hb, hp⟩
          · rw [addS_out hp] at h3; exact absurd h4 h3
        · by_cases z : j = i
          · rw [if_pos z] at hp; cases hp
          · rw [if_neg z] at hp
            have : p ∉ ow i := fun q => z (r.inj j i p hp q)
            rw [addS_out this]; exact r.dis j p hp
        · by_cases z : j = i
          · rw [if_pos z] at hj; cases hj
          · by_cases z2 : k = i
            · rw [if_pos z2] at hk; cases hk
            · rw [if_neg z] at hj; rw [if_neg z2] at hk; exact r.inj j k p hj hk
        · by_cases z : j = i
          · rw [if_pos z] at hp; cases hp
          · rw [if_neg z] at hp; exact r.al j p hp
        · by_cases z : j = i
          · subst z
            rw [List.getElem?_set_self hi] at e
            cases e
            exact ⟨v, h1, by rw [if_pos rfl], svok_frz n h2 ef⟩
          · rw [List.getElem?_set_ne (Ne.symm z)] at e
            obtain ⟨u, h5, h6⟩ := r.sl j y e
            simp only [if_neg z]
            exact ⟨u, h5, h6.mono (addS_same n) fun _ _ _ q => q⟩
        · by_cases z : j = i
          · rw [if_pos z]
          · rw [if_neg z]
            exact r.no j fun x q => e x (by rw [List.getElem?_set_ne (Ne.symm z)]; exact q)
  · cases h
theorem sim_gfrz {ts : TS} {g : G} {i : Nat} (s : SimS Γ ts g) : SimS Γ ts (gFrz i Γ.bor g) := fun S ow σ H ρ D r h => by
  unfold gFrz at h
  cases e : frzR i Γ.bor ρ with
  | none => rw [e] at h; exact h.elim
  | some ρ' =>
    rw [e] at h
    obtain ⟨a, b⟩ := r.frz e
    exact s _ _ _ _ _ _ b (PostS.after h a)
theorem js_frz (i : Nat) (h : JS Γ st g) : JS Γ st (gFrz i Γ.bor g) := by
  obtain ⟨ts, p, s⟩ := h
  exact ⟨ts, p, sim_gfrz s⟩
theorem jss_frz (i : Nat) (h : JSs Γ sts g) : JSs Γ sts (gFrz i Γ.bor g) := by
  obtain ⟨ts, p, s⟩ := h
  exact ⟨ts, p, sim_gfrz s⟩

/-! ### stores -/
theorem GPost.next {ow S H σ ρ vs} {r : Option Rho} {D : Ends} (rep : Rep Γ.K S ow σ H ρ) (h : PostS Γ ow S H (match r with | some ρ2 => Fl.next ρ2 | none => .stuck) D) : GPost Γ ow σ S H vs r D.nx := by
  cases r with
  | none => exact h
  | some ρ' => exact fun ow' σ' r' _ _ b c => h S H ow' σ' ⟨Same.refl S, .of_same (Same.refl H), fun _ q => q, fun i p hp => .inl (b i p hp), c, fun p a b => absurd b a⟩ r'
/-- target = e, data -/
theorem js_asg {tg : Expr} {vs : List Nat} {g : D → Rho → Option Rho} (h : JE Γ e f) (hg : JG Γ tg vs g) (hs : ∀ env, swapsWithSole [tg] e pos.line env = pure false := by intro _; rfl) (hw : ∀ env, swappedStores [tg] e env = pure none := by intro _; rfl)
    (h1 : ∀ env, (assignEach [tg] env).map (·.2) = [assign tg env] := by intro _; rfl) : JS Γ (.Assign [tg] e pos) (gSet g f) := by
  obtain ⟨te, p, s⟩ := h
  obtain ⟨t, q, w⟩ := hg
  exact ⟨_, fun X hX => ps_asg (p X hX.toAt) (q X hX.toAt) (hs _) (hw _) (h1 _), fun S ow σ H ρ D r h => s S ow σ H ρ _ r (PostS.go h (fun _ => trivial) fun d S1 H1 ρ1 st r1 h1 v dv => w S1 ow σ H1 ρ1 d v _ r1 dv (GPost.next r1 h1))⟩
/-- name = e, data -/
theorem js_set {x : Str} {pos' : Pos} (i : Nat) (nd : Γ.N.Nodup) (h : JE Γ e f) (hi : Γ.N[i]? = some x := by rfl) (hx : Loc Γ.sc x := by first | exact Or.inl rfl | exact Or.inr rfl) (hs : ∀ env, swapsWith e (some (.Name x pos')) pos.line env = pure false := by intro _; rfl)
    (hf : Γ.fn x = true ∨ Γ.sc.names.lookup x = some .local := by first | exact Or.inl rfl | exact Or.inr rfl) : JS Γ (.Assign [.Name x pos'] e pos) (gSet (setD Γ.bor i) f) := by
  obtain ⟨te, p, s⟩ := h
  exact ⟨_, fun X hX => ps_set (by rw [hX.N]; exact nd) (by rw [hX.N]; exact hi) (by rw [hX.sc]; exact hx) (p X hX.toAt) (hs _) (by rw [hX.fn, hX.sc]; exact hf), fun S ow σ H ρ D r h => s S ow σ H ρ _ r (PostS.go h (fun _ => trivial) fun d S1 H1 ρ1 st r1 h1 v dv => sim_gname S1 ow σ H1 ρ1 d v _ r1 dv (GPost.next r1 h1))⟩
def setO (bor : List Nat) (i : Nat) (x : SV) : Rho → Option Rho := fun ρ => if i < ρ.length ∧ i ∉ bor then some (ρ.set i (some x)) else none
def gSetO (bor : List Nat) (i : Nat) (f : M SV) : G := fun ρ => (f ρ).go fun x ρ1 => match setO bor i x ρ1 with
  | some ρ2 => .next ρ2
  | none => .stuck
theorem Rep.set_own {S H : Hp} {ow : Nat → List Addr} {σ : L2.St} {ρ : Rho} {i : Nat} {x : SV} {v : V} {os : List Addr} (r : Rep Γ.K S ow σ H ρ) (ok : SvOk Γ.K S H os x v) (n : ∀ p ∈ os, S p = none ∧ ∀ j, p ∉ ow j) (hi : i < ρ.length) :
    Rep Γ.K S (fun j => if j = i then os else ow j) (σ.set i (some v)) H (ρ.set i (some x)) where
  sub := r.sub
  dis := fun j p hp => by
    by_cases h : j = i
    · rw [if_pos h] at hp; exact (n p hp).1
    · rw [if_neg h] at hp; exact r.dis j p hp
  inj := fun j k p hj hk => by
    by_cases h : j = i
    · rw [if_pos h] at hj
      by_cases h' : k = i
      · rw [h, h']
      · rw [if_neg h'] at hk; exact absurd hk ((n p hj).2 k)
    · rw [if_neg h] at hj
      by_cases h' : k = i
      · rw [if_pos h'] at hk; exact absurd hj ((n p hk).2 j)
      · rw [if_neg h'] at hk; exact r.inj j k p hj hk
  al := fun j p hp => by
    by_cases h : j = i
    · rw [if_pos h] at hp; exact ok.al p hp
    · rw [if_neg h] at hp; exact r.al j p hp
  len := by rw [List.length_set, List.length_set]; exact r.len
  sl := fun j y e => by
    by_cases h : j = i
    · subst h
      rw [List.getElem?_set_self hi] at e
      cases e
      exact ⟨v, List.getElem?_set_self (by rw [← r.len]; exact hi), by rw [if_pos rfl]; exact ok⟩
    · rw [List.getElem?_set_ne (Ne.symm h)] at e
      rw [List.getElem?_set_ne (Ne.symm h)]
      simp only [if_neg h]
      exact r.sl j y e
  no := fun j e => by
    by_cases h : j = i
    · subst h
      exact absurd (List.getElem?_set_self hi) (e x)
    · rw [if_neg h]
      exact r.no j fun x q => e x (by rw [List.getElem?_set_ne (Ne.symm h)]; exact q)
theorem setO_post {S0 H0 S H : Hp} {ow : Nat → List Addr} {σ : L2.St} {ρ : Rho} {i : Nat} {x : SV} {v : V} {os : List Addr} {D : Ends} (st : Sto Γ ow S0 H0 ow S H) (r : Rep Γ.K S ow σ H ρ) (ok : SvOk Γ.K S H os x v) (n : ∀ p ∈ os, S p = none ∧ H0 p = none ∧ ∀ j, p ∉ ow j)
    (h : PostS Γ ow S0 H0 (match setO Γ.bor i x ρ with | some ρ2 => Fl.next ρ2 | none => .stuck) D) : D.nx (σ.set i (some v)) H := by
  unfold setO at h
  by_cases c : i < ρ.length ∧ i ∉ Γ.bor
  · rw [if_pos c] at h
    refine h S H (fun j => if j = i then os else ow j) _ ⟨st.ss, st.fr, st.dom, fun j p hp => ?_, fun j hj => if_neg fun e => c.2 (by rw [← e]; exact hj), st.new⟩ (r.set_own ok (fun p hp => ⟨(n p hp).1, (n p hp).2.2⟩) c.1)
    by_cases z : j = i
    · rw [if_pos z] at hp; exact .inr (n p hp).2.1
    · rw [if_neg z] at hp; exact .inl hp
  · rw [if_neg c] at h; exact h.elim
/-- name = e, a new thing of the def's own -/
theorem js_setO {x : Str} {pos' : Pos} {f : M SV} (i : Nat) (nd : Γ.N.Nodup) (h : JO Γ e f) (hi : Γ.N[i]? = some x := by rfl) (hx : Loc Γ.sc x := by first | exact Or.inl rfl | exact Or.inr rfl) (hs : ∀ env, swapsWith e (some (.Name x pos')) pos.line env = pure false := by intro _; rfl)
    (hf : Γ.fn x = true ∨ Γ.sc.names.lookup x = some .local := by first | exact Or.inl rfl | exact Or.inr rfl) : JS Γ (.Assign [.Name x pos'] e pos) (gSetO Γ.bor i f) := by
  obtain ⟨te, p, s⟩ := h
  exact ⟨_, fun X hX => ps_set (by rw [hX.N]; exact nd) (by rw [hX.N]; exact hi) (by rw [hX.sc]; exact hx) (p X hX.toAt) (hs _) (by rw [hX.fn, hX.sc]; exact hf), fun S ow σ H ρ D r h => s S ow σ H ρ _ r (h.go0 fun x S1 H1 ρ1 st r1 h1 v os q n => setO_post st.sto r1 q n h1)⟩
/-- data is a thing that owns nothing -/
def oD (f : M D) : M SV := fun ρ => (f ρ).bind fun d ρ1 => .ok (.d d) ρ1
theorem jo_of (h : JE Γ e f) : JO Γ e (oD f) := by
  obtain ⟨te, p, s⟩ := h
  exact ⟨te, p, fun S ow σ H ρ Q rep h => s S ow σ H ρ Q rep (h.bind.imp fun d S1 H1 ρ1 s1 f1 r1 h1 v dv => h1.here r1 (.refl r1.sub) v [] ⟨rfl, dv⟩ (fun p hp => by cases hp))⟩
/-- a, b = e1, e2 -/
def gPar (bor : List Nat) (i j : Nat) (f f2 : M SV) : G := fun ρ => (f ρ).go fun x ρ1 => (f2 ρ1).go fun y ρ2 => match (setO bor i x ρ2).bind (setO bor j y) with
  | some ρ3 => .next ρ3
  | none => .stuck
theorem js_par {x y : Str} {px py pt : Pos} {kt k2 pt2} {e2 : Expr} {f f2 : M SV} (i j : Nat) (hc : Γ.calm = true) (nd : Γ.N.Nodup) (h : JO Γ e f) (h2 : JO Γ e2 f2) (hij : i ≠ j) (hi : Γ.N[i]? = some x := by rfl) (hj : Γ.N[j]? = some y := by rfl)
    (hx : Γ.sc.names.lookup x = some .local := by rfl) (hy : Γ.sc.names.lookup y = some .local := by rfl)
    (hw : ∀ env : Env, env.scope.names.lookup x = some .local → env.scope.names.lookup y = some .local → env.scope.kind = .function → swappedStores [.Tuple [.Name x px, .Name y py] kt pt] (.Tuple [e, e2] k2 pt2) env = pure (some [x, y]))
    (hk : Γ.sc.kind = .function := by rfl)
    (hs : ∀ env, swapsWithSole [.Tuple [.Name x px, .Name y py] kt pt] (.Tuple [e, e2] k2 pt2) pos.line env = pure false := by intro _; rfl)
    (he : ∀ env, starEach [e, e2] env = [(false, eval e env), (false, eval e2 env)] := by intro _; rfl) (he2 : ∀ env, starEach [e2] env = [(false, eval e2 env)] := by intro _; rfl) :
    JS Γ (.Assign [.Tuple [.Name x px, .Name y py] kt pt] (.Tuple [e, e2] k2 pt2) pos) (gPar Γ.bor i j f f2) := by
  obtain ⟨ta, pa, sa⟩ := h
  obtain ⟨tb, pb, sb⟩ := h2
  refine ⟨_, fun X hX => ps_par (calm_of hX.toAt hc) (by rw [hX.N]; exact nd) (by rw [hX.N]; exact hi) (by rw [hX.N]; exact hj) hij (by rw [hX.sc]; exact hx) (by rw [hX.sc]; exact hy) (pa_two (pa X hX.toAt) (pb X hX.toAt) (he _) (he2 _)) (hw _ (by rw [hX.sc]; exact hx) (by rw [hX.sc]; exact hy) (by rw [hX.sc]; exact hk)) (hs _), fun S ow σ H ρ D r h => ?_⟩
  refine sa S ow σ H ρ _ r (h.go0 fun x S1 H1 ρ1 st r1 h1 v os q n => ?_)
  -- the first one stands aside while the second one is made
  refine sb S1 ow σ H1 ρ1 _ r1 ?_
  have h1' : PostS Γ ow S H ((f2 ρ1).go fun y ρ2 => match (setO Γ.bor i x ρ2).bind (setO Γ.bor j y) with | some ρ3 => Fl.next ρ3 | none => .stuck) D := h1
  cases ef : f2 ρ1 with
  | stuck => rw [ef] at h1'; exact h1'.elim
  | err z ρ2 => rw [ef] at h1'; exact fun S2 H2 C st2 r2 c => h1' S2 H2 ow σ C (st.trans st2).sto r2 c
  | ok y ρ2 =>
    rw [ef] at h1'
    intro S2 H2 st2 r2 u os2 q2 n2
    refine ⟨v, u, rfl, ?_⟩
    dsimp only [Res.go] at h1'
    have k1 : ∀ p ∈ os, ∀ o, H1 p = some o → H2 p = some o := fun p hp o e => st2.fr p o e (n p hp).2.2
    have q' : SvOk Γ.K S2 H2 os x v := q.mono st2.ss k1
    have nS : ∀ p ∈ os, S2 p = none := fun p hp => by
      cases z : S2 p with
      | none => rfl
      | some o =>
        have := st2.new p (by rw [z]; exact fun z => nomatch z) (n p hp).1
        exact absurd this (q.al p hp)
    unfold setO at h1'
    by_cases c : i < ρ2.length ∧ i ∉ Γ.bor
    · rw [if_pos c] at h1'
      have r3 := r2.set_own q' (fun p hp => ⟨nS p hp, (n p hp).2.2⟩) c.1
      dsimp only [Option.bind] at h1'
      by_cases c2 : j < (ρ2.set i (some x)).length ∧ j ∉ Γ.bor
      · rw [if_pos c2] at h1'
        have st3 := st.trans st2
        have r4 := r3.set_own (i := j) q2 (fun p hp => ⟨(n2 p hp).1, fun k hk => by
          by_cases z : k = i
          · rw [if_pos z] at hk
            exact absurd (n2 p hp).2.1 (q.al p hk)
          · rw [if_neg z] at hk; exact (n2 p hp).2.2 k hk⟩) c2.1
        refine h1' S2 H2 _ _ ⟨st3.ss, st3.fr, st3.dom, fun k p hp => ?_, fun k hk => ?_, fun p a b => .inl (st3.new p a b)⟩ r4
        · by_cases z : k = j
          · rw [if_pos z] at hp
            right
            cases e : H p with
            | none => rfl
            | some o => exact absurd (n2 p hp).2.1 (st.dom p (by rw [e]; exact fun z => nomatch z))
          · rw [if_neg z] at hp
            by_cases z2 : k = i
            · rw [if_pos z2] at hp; exact .inr (n p hp).2.1
            · rw [if_neg z2] at hp; exact .inl hp
        · have z : k ≠ j := fun e => c2.2 (by rw [← e]; exact hk)
          have z2 : k ≠ i := fun e => c.2 (by rw [← e]; exact hk)
          rw [if_neg z, if_neg z2]
      · rw [if_neg c2] at h1'; exact h1'.elim
    · rw [if_neg c] at h1'; exact h1'.elim

/-! ### loops -/
def gFor (tg : D → Rho → Option Rho) (b : G) : List D → G
  | [], ρ => .next ρ
  | d :: ds, ρ => match tg d ρ with
    | none => .stuck
    | some ρ1 => match b ρ1 with
      | .next ρ2 => gFor tg b ds ρ2
      | .cnt ρ2 => gFor tg b ds ρ2
      | .brk ρ2 => .next ρ2
      | r => r
def gForM (fi : M (List D)) (tg : D → Rho → Option Rho) (b : G) : G := fun ρ => (fi ρ).go fun ds ρ1 => gFor tg b ds ρ1
theorem js_for {tg iter : Expr} {body : List Stmt} {fi : M (List D)} {vs : List Nat} {t : D → Rho → Option Rho} {b : G} (hc : Γ.calm = true) (hi : JI Γ tg iter fi) (hg : JG Γ tg vs t) (hb : JSs Γ body b) (hs : ∀ env x, foldedSetIterable iter env x = pure x := by intro _ _; rfl) :
    JS Γ (.For tg iter body [] pos) (gForM fi t b) := by
  obtain ⟨wi, pi, si⟩ := hi
  obtain ⟨tg', pg, sg⟩ := hg
  obtain ⟨tb, pb, sb⟩ := hb
  refine ⟨_, fun X hX => ps_for hX.pas (calm_of hX.toAt hc) (pi X hX.toAt) (pg X hX.toAt) (pb X hX) (hs _), fun S ow σ H ρ D r h => si S ow σ H ρ _ r (PostS.go h (fun _ => trivial) fun ds S0 H0 ρ0 st0 r0 h0 hz J hJ => ?_)⟩
  refine ⟨fun i m σ H => m = ds.length - i ∧ i ≤ ds.length ∧ ∃ S1 ow1 ρ1, Same S0 S1 ∧ Rep Γ.K S1 ow1 σ H ρ1 ∧ PostS Γ ow1 S1 H (gFor t b (ds.drop i) ρ1) D, ⟨ds.length, by simp, Nat.zero_le _, S0, ow, ρ0, Same.refl S0, r0, h0⟩, ?_⟩
  rintro i m σ1 H1 ⟨rfl, hi, S1, ow1, ρ1, s1, r1, h1⟩
  obtain ⟨go, stop⟩ := hJ i S1 H1 s1 r1.sub
  by_cases hlt : i < ds.length
  · have hd : ds[i]? = some ds[i] := List.getElem?_eq_getElem hlt
    obtain ⟨go1, go2⟩ := go _ hd
    refine .inr ⟨go1, fun σ' H' => ∃ S2 ow2 ρ2, Same S0 S2 ∧ Rep Γ.K S2 ow2 σ' H' ρ2 ∧ PostS Γ ow2 S2 H' (gFor t b (ds.drop (i + 1)) ρ2) D, fun σ' H' hN => ⟨ds.length - (i + 1), by omega, rfl, hlt, hN⟩, fun x H' hy => ?_⟩
    obtain ⟨S2, g2, dx⟩ := go2 x H' hy
    have r2 := r1.grow g2
    have h2 := PostS.after h1 (g2.stp.sto (Γ := Γ))
    rw [List.drop_eq_getElem_cons hlt] at h2
    unfold gFor at h2
    refine sg S2 ow1 σ1 H' ρ1 _ x _ r2 dx ?_
    cases eg : t ds[i] ρ1 with
    | none => simp only [eg] at h2; exact h2.elim
    | some ρ2 =>
      simp only [eg] at h2
      intro ow' σ' r3 l3 a3 b3 c3
      have st3 : Sto Γ ow1 S2 H' ow' S2 H' := ⟨Same.refl S2, .of_same (Same.refl H'), fun _ q => q, fun i p hp => .inl (b3 i p hp), c3, fun p a b => absurd b a⟩
      have h3 := PostS.after h2 st3
      refine sb S2 ow' σ' H' ρ2 _ r3 ?_
      have ss2 := s1.trans g2.ss
      cases eb : b ρ2 with
      | next ρ3 =>
        rw [eb] at h3
        exact fun S' H'' ow'' σ'' st r => ⟨S', ow'', ρ3, ss2.trans st.ss, r, PostS.after h3 st⟩
      | cnt ρ3 =>
        rw [eb] at h3
        exact fun S' H'' ow'' σ'' st r => ⟨S', ow'', ρ3, ss2.trans st.ss, r, PostS.after h3 st⟩
      | brk ρ3 =>
        rw [eb] at h3
        exact fun S' H'' ow'' σ'' st r => h3 S' H'' ow'' σ'' st r
      | ret y ρ3 => rw [eb] at h3; exact h3
      | err y ρ3 => rw [eb] at h3; exact h3
      | stuck => rw [eb] at h3; exact h3.elim
  · have e : i = ds.length := by omega
    subst e
    rw [List.drop_length] at h1
    exact .inl ⟨stop (Nat.le_refl _), h1 S1 H1 ow1 σ1 r1.sto_refl r1⟩
def gWhile (t : M Bool) (b : G) : Nat → G
  | 0 => fun _ => .stuck
  | n + 1 => fun ρ => (t ρ).go fun c ρ1 => if c = true then (match b ρ1 with
      | .next ρ2 => gWhile t b n ρ2
      | .cnt ρ2 => gWhile t b n ρ2
      | .brk ρ2 => .next ρ2
      | r => r) else .next ρ1
theorem js_while {c : Expr} {body : List Stmt} {t : M Bool} {b : G} (n : Nat) (hc : JT Γ c t) (hb : JSs Γ body b) : JS Γ (.While c body [] pos) (gWhile t b n) := by
  obtain ⟨tc, pc, sc⟩ := hc
  obtain ⟨tb, pb, sb⟩ := hb
  refine ⟨_, fun X hX => ps_while hX.pas (pc X hX.toAt) (pb X hX), fun S ow σ H ρ D r h => ?_⟩
  refine ⟨fun m σ H => ∃ S1 ow1 ρ1, Rep Γ.K S1 ow1 σ H ρ1 ∧ PostS Γ ow1 S1 H (gWhile t b m ρ1) D, ⟨n, S, ow, ρ, r, h⟩, ?_⟩
  rintro m σ1 H1 ⟨S1, ow1, ρ1, r1, h1⟩
  cases m with
  | zero => exact h1.elim
  | succ m =>
    unfold gWhile at h1
    refine sc S1 ow1 σ1 H1 ρ1 _ r1 (PostS.go h1 (fun _ => trivial) fun k S2 H2 ρ2 st2 r2 h2 => ?_)
    cases k with
    | false => exact h2 S2 H2 ow1 σ1 r2.sto_refl r2
    | true =>
      rw [if_pos rfl] at h2 ⊢
      refine ⟨fun σ' H' => ∃ S1 ow1 ρ1, Rep Γ.K S1 ow1 σ' H' ρ1 ∧ PostS Γ ow1 S1 H' (gWhile t b m ρ1) D, fun σ' H' hN => ⟨m, Nat.lt_succ_self m, hN⟩, sb S2 ow1 σ1 H2 ρ2 _ r2 ?_⟩
      cases eb : b ρ2 with
      | next ρ3 => rw [eb] at h2; exact fun S' H'' ow'' σ'' st r => ⟨S', ow'', ρ3, r, PostS.after h2 st⟩
      | cnt ρ3 => rw [eb] at h2; exact fun S' H'' ow'' σ'' st r => ⟨S', ow'', ρ3, r, PostS.after h2 st⟩
      | brk ρ3 => rw [eb] at h2; exact fun S' H'' ow'' σ'' st r => h2 S' H'' ow'' σ'' st r
      | ret y ρ3 => rw [eb] at h2; exact h2
      | err y ρ3 => rw [eb] at h2; exact h2
      | stuck => rw [eb] at h2; exact h2.elim
end
end DL

/-! The data layer, part 8: errors raised, defs and their calls. -/
namespace DL
open PySem PySem.Spec PyProof.Rows L2

/-! ### raise -/
structure ErrOk (K : PySem.W.Frag) (mg : Str → Option Value) (x : String) (C : Addr) : Prop where
  g : mg (Str.ofString x) = some (.ref C)
  q : PySem.W.excIn K C [.type "ValueError", .type "Exception", .type "BaseException", .type "object"] "ValueError.__new__" = true
  k : PySem.W.keepIn K (.ref C) = true
  b : PySem.W.subIn K (.ref C) (.type "BaseException") = some true
  t : PySem.W.typeIn K (.ref C) = some (.type "type")
def gErr (x : String) : G := fun ρ => .err x ρ
section
variable {Γ : Ctx} {pos : Pos}
theorem js_raise {m : Str} {j : Nat} {p p2 pos2 : Pos} (x : String) {C : Addr} (h : ErrOk Γ.K Γ.mg x C) (hc : Γ.calm = true) (hg : Γ.G (Str.ofString x) := by rfl) (hdb : (Str.ofString x == ("__debug__" : Str)) = false := by decide) :
    JS Γ (.Raise (some (.Call (.Name (Str.ofString x) p) [.Constant (.str m) j p2] [] pos)) none pos2) (gErr x) := by
  refine ⟨fun _ σ H => Γ.W (.ref C) none σ H, fun X hX => ?_, fun S ow σ H ρ D r h1 => h1 S H ow σ C r.sto_refl r h.g⟩
  have q := ps_raise (X := X) (W := Γ.W) (pos := pos2) (calm_of hX.toAt hc) hX.tk (pmk_own (X := X) (x := Str.ofString x) (m := m) (j := j) (p := p) (p2 := p2) (pos := pos) PySem.F.excBase_ValueError (by rw [hX.K]; exact h.q) (by rw [hX.mg]; exact h.g) (by rw [hX.K]; exact h.k) (raises_own (by rw [hX.K]; exact h.b) (by rw [hX.K]; exact h.t)) (by show X.env.scope.names.lookup _ = _; rw [hX.sc]; exact hg) hdb)
  exact q
end

/-! ### defs of data -/
inductive FR where
  | ok (r : SV)
  | err (x : String)
  | stuck
abbrev F0 := List D → FR
def sp0 (K : PySem.W.Frag) (mg : Str → Option Value) (n : Nat) (F : F0) : Sp := fun vs H Q E => vs.length = n ∧ ∃ S ds, Same S H ∧ Dens K S ds vs ∧ (match F ds with
  | .ok r => ∀ S' H' v os, Grow S H S' H' → SvOk K S' H' os r v → (∀ p ∈ os, S' p = none ∧ H p = none) → Q v H'
  | .err x => ∀ S' H' C, Grow S H S' H' → mg (Str.ofString x) = some (.ref C) → E (.ref C) none H'
  | .stuck => False)
/-- a def of the module that does what F says, by at most level k -/
structure Fn0 (P : Program) (w : World) (K : PySem.W.Frag) (mg : Str → Option Value) (base : Heap) (k : Nat) (x : Str) (ps : List Str) (F : F0) : Prop where
  ex : ∃ f fd, FnOk P w K mg base (L2.CX P w) k f fd ps (sp0 K mg ps.length F) ∧ mg x = some (.ref f) ∧ PySem.W.keepIn K (.ref f) = true ∧ Binds K fd ps []
theorem Fn0.mono {P w K mg base k x ps F} (h : Fn0 P w K mg base k x ps F) {k' : Nat} (hk : k ≤ k') : Fn0 P w K mg base k' x ps F := by
  obtain ⟨f, fd, a, b⟩ := h
  exact ⟨f, fd, a.mono hk, b⟩
def oCall (F : F0) (fa : M (List D)) : M SV := fun ρ => (fa ρ).bind fun ds ρ1 => match F ds with
  | .ok r => .ok r ρ1
  | .err x => .err x ρ1
  | .stuck => .stuck
section
variable {Γ : Ctx} {e : Expr} {es : List Expr} {fa : M (List D)} {pos p : Pos} {x : Str} {ps : List Str} {F : F0}
theorem sim_ocall {S H S1 H1 : Hp} {ow : Nat → List Addr} {σ : L2.St} {ρ1 : Rho} {ds : List D} {vs : List V} {Q : VK} {n : Nat} (st : Stp ow S H S1 H1) (r1 : Rep Γ.K S1 ow σ H1 ρ1) (dv : Dens Γ.K S1 ds vs) (hn : vs.length = n)
    (h : Post Γ ow σ S H (match F ds with | .ok r => Res.ok r ρ1 | .err x => .err x ρ1 | .stuck => .stuck) (fun x S' H' _ => ∀ v os, SvOk Γ.K S' H' os x v → (∀ p ∈ os, S' p = none ∧ H p = none ∧ ∀ i, p ∉ ow i) → Q v H')) :
    sp0 Γ.K Γ.mg n F vs H1 Q (WE Γ.W σ) := by
  refine ⟨hn, S1, ds, r1.sub, dv, ?_⟩
  cases e : F ds with
  | stuck => rw [e] at h; exact h
  | err x => rw [e] at h; exact fun S' H' C g c => h S' H' C (st.trans g.stp) (r1.grow g) c
  | ok r =>
    rw [e] at h
    intro S' H' v os g ok n
    refine h S' H' (st.trans g.stp) (r1.grow g) v os ok fun p hp => ⟨(n p hp).1, ?_, fun i hi => r1.al i p hi (n p hp).2⟩
    cases z : H p with
    | none => rfl
    | some o => exact absurd (n p hp).2 (st.dom p (by rw [z]; exact fun z => nomatch z))
theorem jo_call {j : Nat} (h : Fn0 Γ.P Γ.w Γ.K Γ.mg Γ.base j x ps F) (hj : j ≤ Γ.k) (hc : Γ.calm = true) (hl : (e :: es).length = ps.length) (ha : JA Γ (e :: es) fa) (hg : Γ.G x := by rfl) (hdb : (x == ("__debug__" : Str)) = false := by decide)
    (he : ∀ env, starEach (e :: es) env = (false, eval e env) :: starEach es env := by intro _; rfl) (hpl : ∀ env, (backTo pos (starEach es env)).any (·.1) = false := by intro _; rfl) :
    JO Γ (.Call (.Name x p) (e :: es) [] pos) (oCall F fa) := by
  obtain ⟨f, fd, G, gm, gk, gb⟩ := h.mono hj
  obtain ⟨⟨ta, pa, sa⟩, la⟩ := ha
  refine ⟨tCallS (sp0 Γ.K Γ.mg ps.length F) (WE Γ.W) ta, fun X hX => ?_, fun S ow σ H ρ Q rep h => sa S ow σ H ρ _ rep ?_⟩
  · have hr := hX.room hc
    have q := pe_callS (X := X) (CX := L2.CX Γ.P Γ.w) (E := WE Γ.W) (x := x) (p := p) (pos := pos) (sp := sp0 Γ.K Γ.mg ps.length F) (by rw [hX.P, hX.w, hX.K, hX.mg, hX.base]; exact G) hr (by show X.env.scope.names.lookup x = _; rw [hX.sc]; exact hg) (by rw [hX.mg]; exact gm) (by rw [hX.K]; exact gk) (by rw [hX.K]; exact gb) (fun σ => by rw [← hX.P, ← hX.w]; exact passAt hX.tk σ) (pa X hX) hdb (he _) (hpl _)
    exact q
  · unfold oCall at h
    cases ef : fa ρ with
    | stuck => rw [ef] at h; exact h
    | err x ρ1 => rw [ef] at h; exact h
    | ok ds ρ1 =>
      rw [ef] at h
      exact fun S1 H1 st r1 vs dv => sim_ocall st r1 dv (by rw [← dv.len, ← hl]; exact la ρ ds ρ1 ef) h
/-- f() -/
theorem pe_callS0 {X : Cx} {CX : CXT} {k : Nat} {f : Addr} {fd : FuncData} {sp : Sp} {E : L2.St → XK} (F : FnOk X.prog X.w X.K X.mg X.base CX k f fd [] sp) (hr : Room k X.A) (hg : L2.Gl X x) (hm : X.mg x = some (.ref f)) (hk : PySem.W.keepIn X.K (.ref f) = true) (hb : Binds X.K fd [] []) (hx : ∀ σ, PassesAt CX X σ (E σ))
    (hdb : (x == ("__debug__" : Str)) = false := by decide) : PE X (.Call (.Name x p) [] [] pos) (fun σ H Q => sp [] H Q (E σ)) := by
  refine ⟨fun pins s σ H Q I h => ?_⟩
  refine wpAny_Call_Name_kw (ld_glob I hg hm ?_ hdb)
  exact PySem.W.callWith_K0 I.kIn hk (run_fnS (us := []) F hr hb (hx σ) I .nil h)
theorem jo_call0 {j : Nat} (h : Fn0 Γ.P Γ.w Γ.K Γ.mg Γ.base j x [] F) (hj : j ≤ Γ.k) (hc : Γ.calm = true) (hg : Γ.G x := by rfl) (hdb : (x == ("__debug__" : Str)) = false := by decide) :
    JO Γ (.Call (.Name x p) [] [] pos) (oCall F aNil) := by
  obtain ⟨f, fd, G, gm, gk, gb⟩ := h.mono hj
  refine ⟨fun σ H Q => sp0 Γ.K Γ.mg 0 F [] H Q (WE Γ.W σ), fun X hX => ?_, fun S ow σ H ρ Q rep h => ?_⟩
  · have hr := hX.room hc
    exact pe_callS0 (X := X) (CX := L2.CX Γ.P Γ.w) (E := WE Γ.W) (x := x) (p := p) (pos := pos) (sp := sp0 Γ.K Γ.mg 0 F) (by rw [hX.P, hX.w, hX.K, hX.mg, hX.base]; exact G) hr (by show X.env.scope.names.lookup x = _; rw [hX.sc]; exact hg) (by rw [hX.mg]; exact gm) (by rw [hX.K]; exact gk) (by rw [hX.K]; exact gb) (fun σ => by rw [← hX.P, ← hX.w]; exact passAt hX.tk σ) hdb
  · exact sim_ocall (n := 0) (ds := []) (vs := []) (Grow.refl rep.sub).stp rep rfl rfl h
end

/-! ### the body of a def of data -/
/-- the context of a def's body -/
def gam (P : Program) (w : World) (K : PySem.W.Frag) (mg : Str → Option Value) (base : Heap) (N : List Str) (sc : Scope) (k : Nat) (bor : List Nat) (E : XK) : Ctx := ⟨P, w, K, mg, base, N, sc, fun _ => true, true, k, bor, fun cls d _ H => E cls d H⟩
theorem gam_at {P : Program} {w : World} {K : PySem.W.Frag} {mg : Str → Option Value} {base : Heap} {N : List Str} {sc : Scope} {k : Nat} {bor : List Nat} {E : XK} {qual : Str} {f : Addr} {cd : Value} {A : Around} {outer : List Env} {s : Shared} {H : Hp} (hr : Room k (A.deeper (envOfC qual sc s.heap.objs.size f cd))) :
    (gam P w K mg base N sc k bor E).AtS (cxOf (L2.CX P w) P w K mg base N qual sc f cd A outer s H E) where
  P := rfl
  w := rfl
  K := rfl
  mg := rfl
  base := rfl
  N := rfl
  sc := rfl
  fn := rfl
  calm := rfl
  room := fun _ => hr
  un := by have := hr.un; show (A.deeper _).units + 65 < cLine; omega
  tk := takes_of rfl rfl rfl rfl
  stk := rfl
  frm := rfl
  pas := passes_of rfl
def rho0 (N : Nat) (xs : List SV) : Rho := xs.map some ++ List.replicate (N - xs.length) none
def fn0 (N : Nat) (g : G) : F0 := fun ds => match g (rho0 N (ds.map .d)) with
  | .next _ => .ok (.d .none)
  | .ret x _ => .ok x
  | .err x _ => .err x
  | _ => .stuck
theorem rho0_get {N i : Nat} {xs : List SV} {x : SV} (h : (rho0 N xs)[i]? = some (some x)) : xs[i]? = some x := by
  unfold rho0 at h
  by_cases hi : i < xs.length
  · rw [List.getElem?_append_left (by simpa using hi), List.getElem?_map] at h
    cases e : xs[i]? with
    | none => rw [e] at h; cases h
    | some y => rw [e] at h; cases h; rfl
  · rw [List.getElem?_append_right (by simpa using hi), List.getElem?_replicate] at h
    split at h <;> cases h
theorem start_get {N : List Str} {vs : List V} {i : Nat} {v : V} (h : vs[i]? = some v) : (L2.start N vs)[i]? = some (some v) := by
  unfold L2.start
  have hi : i < vs.length := (List.getElem?_eq_some_iff.mp h).1
  rw [List.getElem?_append_left (by simpa using hi), List.getElem?_map, h]
  rfl
theorem rep0 {K : PySem.W.Frag} {S H : Hp} {N : List Str} {ds : List D} {vs : List V} (s : Same S H) (dv : Dens K S ds vs) : Rep K S (fun _ => []) (L2.start N vs) H (rho0 N.length (ds.map .d)) where
  sub := s
  dis := fun i p hp => by cases hp
  inj := fun i j p hp => by cases hp
  al := fun i p hp => by cases hp
  len := by unfold rho0 L2.start; simp [dv.len]
  sl := fun i x e => by
    have e1 := rho0_get e
    rw [List.getElem?_map] at e1
    cases e2 : ds[i]? with
    | none => rw [e2] at e1; cases e1
    | some d =>
      rw [e2] at e1
      cases e1
      obtain ⟨v, h1, h2⟩ := dv.get e2
      exact ⟨v, start_get h1, rfl, h2⟩
  no := fun _ _ => rfl
theorem sto_grow {Γ : Ctx} {ow' : Nat → List Addr} {S H S' H' : Hp} (st : Sto Γ (fun _ => []) S H ow' S' H') (s : Same S' H') : Grow S H S' H' where
  ss := st.ss
  hh := fun b o e => st.fr b o e fun i hi => by cases hi
  sub := s
  new := fun p a b => by
    rcases st.new p a b with h | ⟨i, _, hi⟩
    · exact h
    · cases hi
section
variable {P : Program} {w : World} {K : PySem.W.Frag} {mg : Str → Option Value} {base : Heap} {k : Nat} {x : Str} {ps N : List Str} {g : G} {qual : Str} {params : Arguments} {body : List Stmt} {scope : Scope} {f : Addr} {fd : FuncData}
theorem fn0_ok (F : FunD K x qual params body scope [] [] f fd) (gm : mg x = some (.ref f)) (hb : Binds K fd ps []) (S : FnScope N ps scope) (hj : ∀ E : XK, JSs (gam P w K mg base N scope k [] E) body g) : Fn0 P w K mg base (k + 1) x ps (fn0 N.length g) := by
  refine ⟨f, fd, F.ok S (fun vs H Q E h => h.1) (fun cdv A outer s H vs Q E hr h => ?_), gm, F.kp, hb⟩
  obtain ⟨hn, S0, ds, hs, dv, hq⟩ := h
  obtain ⟨ts, pj, sj⟩ := hj E
  refine ⟨ts, pj _ (gam_at hr), sj S0 (fun _ => []) _ H _ _ (rep0 hs dv) ?_⟩
  unfold fn0 at hq
  cases e : g (rho0 N.length (ds.map .d)) with
  | next ρ => rw [e] at hq; exact fun S' H' ow' σ' st r => hq S' H' .non [] (sto_grow st r.sub) ⟨rfl, rfl⟩ (fun p hp => by cases hp)
  | ret y ρ =>
    rw [e] at hq
    intro S' H' ow' σ' v os st r _ ok own
    refine hq S' H' v os (sto_grow st r.sub) ok fun p hp => ⟨(own p hp).1, ?_⟩
    rcases (own p hp).2 with q | ⟨i, _, q⟩
    · exact q
    · cases q
  | err y ρ => rw [e] at hq; exact fun S' H' ow' σ' C st r c => hq S' H' C (sto_grow st r.sub) c
  | brk ρ => rw [e] at hq; exact hq.elim
  | cnt ρ => rw [e] at hq; exact hq.elim
  | stuck => rw [e] at hq; exact hq.elim
end

/-! ### defs whose first parameter is a caller's list, which they may change -/
inductive FR1 where
  | ok (r : SV) (xs : List D)
  | err (x : String) (xs : List D)
  | stuck
abbrev F1 := List D → List D → FR1
def ow1 (p : Addr) : Nat → List Addr := fun i => if i = 0 then [p] else []
def LstAt (K : PySem.W.Frag) (S H : Hp) (p : Addr) (xs : List D) : Prop := ∃ us, H p = some (.lst us) ∧ xs.length ≤ sizeLine ∧ Dens K S xs us
def sp1 (K : PySem.W.Frag) (mg : Str → Option Value) (n : Nat) (F : F1) : Sp := fun vs H Q E => vs.length = n ∧ ∃ S p xs ds vr, vs = .ref p :: vr ∧ Same S H ∧ S p = none ∧ LstAt K S H p xs ∧ Dens K S ds vr ∧ (match F xs ds with
  | .ok r xs' => ∀ S' H' v os, Stp (ow1 p) S H S' H' → Same S' H' → S' p = none → LstAt K S' H' p xs' → SvOk K S' H' os r v → (∀ q ∈ os, S' q = none ∧ H q = none) → Q v H'
  | .err x xs' => ∀ S' H' C, Stp (ow1 p) S H S' H' → Same S' H' → S' p = none → LstAt K S' H' p xs' → mg (Str.ofString x) = some (.ref C) → E (.ref C) none H'
  | .stuck => False)
structure Fn1 (P : Program) (w : World) (K : PySem.W.Frag) (mg : Str → Option Value) (base : Heap) (k : Nat) (x : Str) (ps : List Str) (F : F1) : Prop where
  ex : ∃ f fd, FnOk P w K mg base (L2.CX P w) k f fd ps (sp1 K mg ps.length F) ∧ mg x = some (.ref f) ∧ PySem.W.keepIn K (.ref f) = true ∧ Binds K fd ps []
theorem Fn1.mono {P w K mg base k x ps F} (h : Fn1 P w K mg base k x ps F) {k' : Nat} (hk : k ≤ k') : Fn1 P w K mg base k' x ps F := by
  obtain ⟨f, fd, a, b⟩ := h
  exact ⟨f, fd, a.mono hk, b⟩
def oCall1 (F : F1) (i : Nat) (fa : M (List D)) : M SV := fun ρ => match ρ[i]? with
  | some (some (.l _)) => (fa ρ).bind fun ds ρ1 => (match ρ1[i]? with
    | some (some (.l xs)) => (match F xs ds with
      | .ok r xs' => .ok r (ρ1.set i (some (.l xs')))
      | .err x xs' => .err x (ρ1.set i (some (.l xs')))
      | .stuck => .stuck)
    | _ => .stuck)
  | _ => .stuck
section
variable {Γ : Ctx} {e : Expr} {es : List Expr} {fa : M (List D)} {pos p pn : Pos} {x nm : Str} {ps : List Str} {F : F1}
/-- slot i's list has changed -/
theorem Rep.chgL {K : PySem.W.Frag} {S H S' H' : Hp} {ow : Nat → List Addr} {σ : L2.St} {ρ : Rho} {i : Nat} {xs xs' : List D} {p : Addr} (r : Rep K S ow σ H ρ) (e : ρ[i]? = some (some (.l xs))) (hp : p ∈ ow i) (st : Stp (ow1 p) S H S' H') (s : Same S' H') (n : S' p = none) (l : LstAt K S' H' p xs') :
    Rep K S' ow σ H' (ρ.set i (some (.l xs'))) where
  sub := s
  dis := fun j q hq => by
    by_cases z : q = p
    · rw [z]; exact n
    · cases e2 : S' q with
      | none => rfl
      | some o => exact absurd (st.new q (by rw [e2]; exact fun z => nomatch z) (r.dis j q hq)) (r.al j q hq)
  inj := r.inj
  al := fun j q hq => st.dom q (r.al j q hq)
  len := by rw [List.length_set]; exact r.len
  sl := fun j y ey => by
    have hi : i < ρ.length := (List.getElem?_eq_some_iff.mp e).1
    by_cases z : j = i
    · subst z
      rw [List.getElem?_set_self hi] at ey
      cases ey
      obtain ⟨v, h1, q, vs, h2, h3, _⟩ := r.sl _ _ e
      rw [h2] at hp
      have : p = q := List.mem_singleton.mp hp
      subst this
      obtain ⟨us, l1, l2, l3⟩ := l
      exact ⟨v, h1, p, us, h2, h3, l1, l2, l3⟩
    · rw [List.getElem?_set_ne (Ne.symm z)] at ey
      obtain ⟨v, h1, h2⟩ := r.sl j y ey
      refine ⟨v, h1, h2.mono st.ss fun q hq o ho => st.fr q o ho fun k hk => ?_⟩
      unfold ow1 at hk
      by_cases z2 : k = 0
      · rw [if_pos z2] at hk
        have : q = p := List.mem_singleton.mp hk
        subst this
        exact z (r.inj j i _ hq hp)
      · rw [if_neg z2] at hk; cases hk
  no := fun j h => by
    by_cases z : j = i
    · subst z
      have hi : j < ρ.length := (List.getElem?_eq_some_iff.mp e).1
      exact absurd (List.getElem?_set_self hi) (h _)
    · exact r.no j fun y ey => h y (by rw [List.getElem?_set_ne (Ne.symm z)]; exact ey)
theorem stp_ow {S H S' H' : Hp} {ow : Nat → List Addr} {i : Nat} {p : Addr} (hp : p ∈ ow i) (st : Stp (ow1 p) S H S' H') : Stp ow S H S' H' where
  ss := st.ss
  fr := fun b o e n => st.fr b o e fun k hk => by
    unfold ow1 at hk
    by_cases z : k = 0
    · rw [if_pos z] at hk
      have : b = p := List.mem_singleton.mp hk
      subst this
      exact n i hp
    · rw [if_neg z] at hk
      cases hk
  dom := st.dom
  new := st.new
theorem jo_call1 {j : Nat} (i : Nat) (h : Fn1 Γ.P Γ.w Γ.K Γ.mg Γ.base j x ps F) (hj : j ≤ Γ.k) (hc : Γ.calm = true) (hl : es.length + 1 = ps.length) (ha : JA Γ es fa) (hN : Γ.N[i]? = some nm := by rfl) (hv : Vis Γ.sc nm := by first | exact Or.inl rfl | exact Or.inr (Or.inl rfl) | exact Or.inr (Or.inr rfl)) (hd : (nm == ("__debug__" : Str)) = false := by decide)
    (hcd : (nm == ("__classdict__" : Str)) = false := by decide) (hg : Γ.G x := by rfl) (hdb : (x == ("__debug__" : Str)) = false := by decide)
    (he : ∀ env, starEach (.Name nm pn :: es) env = (false, eval (.Name nm pn) env) :: starEach es env := by intro _; rfl) (hpl : ∀ env, (backTo pos (starEach es env)).any (·.1) = false := by intro _; rfl) :
    JO Γ (.Call (.Name x p) (.Name nm pn :: es) [] pos) (oCall1 F i fa) := by
  obtain ⟨f, fd, G, gm, gk, gb⟩ := h.mono hj
  obtain ⟨⟨ta, pa, sa⟩, la⟩ := ha
  refine ⟨tCallS (sp1 Γ.K Γ.mg ps.length F) (WE Γ.W) (tCons (tVar i) ta), fun X hX => ?_, fun S ow σ H ρ Q rep h => ?_⟩
  · have hr := hX.room hc
    exact pe_callS (X := X) (CX := L2.CX Γ.P Γ.w) (E := WE Γ.W) (x := x) (p := p) (pos := pos) (sp := sp1 Γ.K Γ.mg ps.length F) (by rw [hX.P, hX.w, hX.K, hX.mg, hX.base]; exact G) hr (by show X.env.scope.names.lookup x = _; rw [hX.sc]; exact hg) (by rw [hX.mg]; exact gm) (by rw [hX.K]; exact gk) (by rw [hX.K]; exact gb) (fun σ => by rw [← hX.P, ← hX.w]; exact passAt hX.tk σ)
      (pa_cons (pe_slot i hX hN hv hd hcd) (pa X hX) (he _)) hdb (he _) (hpl _)
  · unfold oCall1 at h
    split at h
    · rename_i xs0 e0
      obtain ⟨v, hs, p, us0, ho, hv, _⟩ := rep.sl i _ e0
      subst hv
      refine ⟨_, hs, sa S ow σ H ρ _ rep ?_⟩
      cases ef : fa ρ with
      | stuck => rw [ef] at h; exact h
      | err x ρ1 => rw [ef] at h; exact h
      | ok ds ρ1 =>
        rw [ef] at h
        intro S1 H1 st r1 vs dv
        simp only [Res.bind_ok] at h
        cases e1 : ρ1[i]? with
        | none => rw [e1] at h; exact h.elim
        | some o =>
          rw [e1] at h
          cases o with
          | none => exact h.elim
          | some y =>
            cases y with
            | l xs =>
              obtain ⟨v2, hs2, p2, us, ho2, hv2, hH, hz, hden⟩ := r1.sl i _ e1
              rw [hs] at hs2
              cases hs2
              have hpp : p = p2 := by cases hv2; rfl
              subst hpp
              have hp : p ∈ ow i := by rw [ho]; exact List.mem_singleton_self _
              dsimp only at h
              refine ⟨by show vs.length + 1 = ps.length; rw [← dv.len, la ρ ds ρ1 ef]; exact hl, S1, p, xs, ds, vs, rfl, r1.sub, r1.dis i p hp, ⟨us, hH, hz, hden⟩, dv, ?_⟩
              cases eF : F xs ds with
              | stuck => rw [eF] at h; exact h
              | err z xs' => rw [eF] at h; exact fun S' H' C s2 sm n l c => h S' H' C (st.trans (stp_ow hp s2)) (r1.chgL e1 hp s2 sm n l) c
              | ok r xs' =>
                rw [eF] at h
                intro S' H' v os s2 sm n l ok nw
                refine h S' H' (st.trans (stp_ow hp s2)) (r1.chgL e1 hp s2 sm n l) v os ok fun q hq => ⟨(nw q hq).1, ?_, fun k hk => r1.al k q hk (nw q hq).2⟩
                cases z : H q with
                | none => rfl
                | some o => exact absurd (nw q hq).2 (st.dom q (by rw [z]; exact fun z => nomatch z))
            | _ => exact h.elim
    · exact h.elim
end
def slotL (ρ : Rho) (i : Nat) : Option (List D) := match ρ[i]? with
  | some (some (SV.l ys)) => some ys
  | _ => none
theorem slotL_some {ρ : Rho} {i : Nat} {ys : List D} (h : slotL ρ i = some ys) : ρ[i]? = some (some (.l ys)) := by
  unfold slotL at h
  split at h
  · cases h; assumption
  · cases h
def fn1 (N : Nat) (g : G) : F1 := fun xs ds => match g (rho0 N (.l xs :: ds.map .d)) with
  | .next ρ => (match slotL ρ 0 with | some ys => .ok (.d .none) ys | none => .stuck)
  | .ret x ρ => (match slotL ρ 0 with | some ys => .ok x ys | none => .stuck)
  | .err x ρ => (match slotL ρ 0 with | some ys => .err x ys | none => .stuck)
  | _ => .stuck
theorem rep1 {K : PySem.W.Frag} {S H : Hp} {N : List Str} {xs ds : List D} {p : Addr} {vs : List V} (s : Same S H) (n : S p = none) (l : LstAt K S H p xs) (dv : Dens K S ds vs) : Rep K S (ow1 p) (L2.start N (.ref p :: vs)) H (rho0 N.length (.l xs :: ds.map .d)) where
  sub := s
  dis := fun i q hq => by
    unfold ow1 at hq
    split at hq
    · rw [List.mem_singleton.mp hq]; exact n
    · cases hq
  inj := fun i j q hi hj => by
    unfold ow1 at hi hj
    split at hi
    · split at hj
      · rename_i a b; rw [a, b]
      · cases hj
    · cases hi
  al := fun i q hq => by
    unfold ow1 at hq
    split at hq
    · obtain ⟨us, h, _⟩ := l
      rw [List.mem_singleton.mp hq, h]; exact fun z => nomatch z
    · cases hq
  len := by unfold rho0 L2.start; simp [dv.len]
  sl := fun i x e => by
    have e1 := rho0_get e
    cases i with
    | zero =>
      cases e1
      obtain ⟨us, h1, h2, h3⟩ := l
      exact ⟨_, start_get (vs := .ref p :: vs) (i := 0) rfl, p, us, rfl, rfl, h1, h2, h3⟩
    | succ i =>
      have e1' : (ds.map SV.d)[i]? = some x := by simpa using e1
      rw [List.getElem?_map] at e1'
      cases e2 : ds[i]? with
      | none => rw [e2] at e1'; cases e1'
      | some d =>
        rw [e2] at e1'
        cases e1'
        obtain ⟨v, h1, h2⟩ := dv.get e2
        exact ⟨v, start_get (vs := .ref p :: vs) (i := i + 1) (by simpa using h1), rfl, h2⟩
  no := fun i h => by
    cases i with
    | zero => exact absurd rfl (h (.l xs))
    | succ i => rfl
section
variable {P : Program} {w : World} {K : PySem.W.Frag} {mg : Str → Option Value} {base : Heap} {k : Nat} {x : Str} {ps N : List Str} {g : G} {qual : Str} {params : Arguments} {body : List Stmt} {scope : Scope} {f : Addr} {fd : FuncData}
theorem sto_stp1 {Γ : Ctx} {ow' : Nat → List Addr} {S H S' H' : Hp} {p : Addr} (hb : Γ.bor = [0]) (st : Sto Γ (ow1 p) S H ow' S' H') : Stp (ow1 p) S H S' H' where
  ss := st.ss
  fr := st.fr
  dom := st.dom
  new := fun q a b => by
    rcases st.new q a b with h | ⟨i, hi, hq⟩
    · exact h
    · rw [hb] at hi
      have : i ≠ 0 := fun z => hi (by rw [z]; exact List.mem_singleton_self _)
      unfold ow1 at hq
      rw [if_neg this] at hq
      cases hq
theorem slot0 {Γ : Ctx} {ow' : Nat → List Addr} {S H S' H' : Hp} {p : Addr} {σ' : L2.St} {ρ : Rho} {ys : List D} (hb : Γ.bor = [0]) (st : Sto Γ (ow1 p) S H ow' S' H') (r : Rep Γ.K S' ow' σ' H' ρ) (e : ρ[0]? = some (some (.l ys))) : S' p = none ∧ LstAt Γ.K S' H' p ys := by
  have h0 : ow' 0 = ow1 p 0 := st.bor 0 (by rw [hb]; exact List.mem_singleton_self _)
  have hp : p ∈ ow' 0 := by rw [h0]; exact List.mem_singleton_self _
  obtain ⟨v, _, q, vs, h1, h2, h3, h4, h5⟩ := r.sl 0 _ e
  have : p = q := by rw [h1] at hp; exact List.mem_singleton.mp hp
  subst this
  exact ⟨r.dis 0 p hp, vs, h3, h4, h5⟩
theorem fn1_ok (F : FunD K x qual params body scope [] [] f fd) (gm : mg x = some (.ref f)) (hb : Binds K fd ps []) (S : FnScope N ps scope) (hj : ∀ E : XK, JSs (gam P w K mg base N scope k [0] E) body g) : Fn1 P w K mg base (k + 1) x ps (fn1 N.length g) := by
  refine ⟨f, fd, F.ok S (fun vs H Q E h => h.1) (fun cdv A outer s H vs Q E hr h => ?_), gm, F.kp, hb⟩
  obtain ⟨hn, S0, p, xs, ds, vr, rfl, hs, np, lp, dv, hq⟩ := h
  obtain ⟨ts, pj, sj⟩ := hj E
  refine ⟨ts, pj _ (gam_at hr), sj S0 (ow1 p) _ H _ _ (rep1 hs np lp dv) ?_⟩
  unfold fn1 at hq
  cases e : g (rho0 N.length (.l xs :: ds.map .d)) with
  | next ρ =>
    rw [e] at hq
    intro S' H' ow' σ' st r
    dsimp only at hq
    cases e1 : slotL ρ 0 with
    | none => rw [e1] at hq; exact hq.elim
    | some ys =>
      rw [e1] at hq
      obtain ⟨a, b⟩ := slot0 rfl st r (slotL_some e1)
      exact hq S' H' .non [] (sto_stp1 rfl st) r.sub a b ⟨rfl, rfl⟩ (fun p hp => by cases hp)
  | ret y ρ =>
    rw [e] at hq
    intro S' H' ow' σ' v os st r _ ok own
    dsimp only at hq
    cases e1 : slotL ρ 0 with
    | none => rw [e1] at hq; exact hq.elim
    | some ys =>
      rw [e1] at hq
      obtain ⟨a, b⟩ := slot0 rfl st r (slotL_some e1)
      refine hq S' H' v os (sto_stp1 rfl st) r.sub a b ok fun p hp => ⟨(own p hp).1, ?_⟩
      rcases (own p hp).2 with q | ⟨i, hi, q⟩
      · exact q
      · have : i ≠ 0 := fun z => hi (by rw [z]; exact List.mem_singleton_self _)
        unfold ow1 at q
        rw [if_neg this] at q
        cases q
  | err y ρ =>
    rw [e] at hq
    intro S' H' ow' σ' C st r c
    dsimp only at hq
    cases e1 : slotL ρ 0 with
    | none => rw [e1] at hq; exact hq.elim
    | some ys =>
      rw [e1] at hq
      obtain ⟨a, b⟩ := slot0 rfl st r (slotL_some e1)
      exact hq S' H' C (sto_stp1 rfl st) r.sub a b c
  | brk ρ => rw [e] at hq; exact hq.elim
  | cnt ρ => rw [e] at hq; exact hq.elim
  | stuck => rw [e] at hq; exact hq.elim
end
end DL

/-! The data layer, part 9: what changes a list of the def's own. -/
namespace DL
open PySem PySem.Spec PyProof.Rows L2

abbrev LOp := List D → List D → Option (D × List D)
def eMutL (op : LOp) (i : Nat) (fa : M (List D)) : M D := fun ρ => match ρ[i]? with
  | some (some (.l _)) => (fa ρ).bind fun ds ρ1 => (match slotL ρ1 i with
    | some xs => (match op xs ds with
      | some (d, xs') => .ok d (ρ1.set i (some (.l xs')))
      | none => .stuck)
    | none => .stuck)
  | _ => .stuck
def LOpOk (Γ : Ctx) (r : V → List V → Hp → VK → Prop) (op : LOp) : Prop := ∀ (S H : Hp) (p : Addr) (xs : List D) (us : List V) (ds : List D) (vs : List V) (d : D) (xs' : List D) (Q : VK), Same S H → S p = none → H p = some (.lst us) → xs.length ≤ sizeLine → Dens Γ.K S xs us → Dens Γ.K S ds vs → op xs ds = some (d, xs') →
  (∀ v us', xs'.length ≤ sizeLine → Dens Γ.K S xs' us' → Den Γ.K S d v → Q v (upd H p (.lst us'))) → r (.ref p) vs H Q
theorem stp_upd {S H : Hp} {p : Addr} {o : HO} (hp : H p ≠ none) : Stp (ow1 p) S H S (upd H p o) where
  ss := Same.refl S
  fr := fun b u e n => by
    have : b ≠ p := fun z => n 0 (by rw [z]; exact List.mem_singleton_self _)
    rw [upd_ne this]; exact e
  dom := fun q hq => by
    by_cases z : q = p
    · rw [z, upd_same]; exact fun z => nomatch z
    · rw [upd_ne z]; exact hq
  new := fun q a b => absurd b a
theorem sub_upd {S H : Hp} {p : Addr} {o : HO} (s : Same S H) (n : S p = none) : Same S (upd H p o) := fun b u e => by
  have : b ≠ p := fun z => by rw [z, n] at e; cases e
  rw [upd_ne this]; exact s b u e
section
variable {Γ : Ctx} {e : Expr} {es : List Expr} {fa : M (List D)} {apos cpos pn : Pos} {nm name : Str} {id : String} {r : V → List V → Hp → VK → Prop} {op : LOp}
theorem slot_l {i : Nat} {S H : Hp} {ow : Nat → List Addr} {σ : L2.St} {ρ : Rho} {xs : List D} (r : Rep Γ.K S ow σ H ρ) (e : ρ[i]? = some (some (.l xs))) : ∃ p us, ow i = [p] ∧ σ[i]? = some (some (.ref p)) ∧ S p = none ∧ H p = some (.lst us) ∧ xs.length ≤ sizeLine ∧ Dens Γ.K S xs us := by
  obtain ⟨v, hs, p, us, ho, hv, hH, hz, hd⟩ := r.sl i _ e
  subst hv
  exact ⟨p, us, ho, hs, r.dis i p (by rw [ho]; exact List.mem_singleton_self _), hH, hz, hd⟩
theorem sim_mutL {i : Nat} {ta : TA} (hr : LOpOk Γ r op) (sa : SimA Γ ta fa) : Sim Γ (tBM Γ.K "list" r (tVar i) ta) (eMutL op i fa) := fun S ow σ H ρ Q rep h => by
  unfold eMutL at h
  split at h
  · rename_i xs0 e0
    obtain ⟨p, us0, ho, hs, n0, h0, _, _⟩ := slot_l rep e0
    refine ⟨_, hs, .inl ⟨rfl, _, SqL.of h0⟩, sa S ow σ H ρ _ rep (h.bind.imp fun ds S1 H1 ρ1 s1 f1 r1 h1 vs dv => ?_)⟩
    cases e1 : slotL ρ1 i with
    | none => rw [e1] at h1; exact h1.elim
    | some xs =>
      rw [e1] at h1
      obtain ⟨q, us, ho2, hs2, n1, hH, hz, hd⟩ := slot_l r1 (slotL_some e1)
      have : p = q := by rw [ho] at ho2; exact List.singleton_inj.mp ho2
      subst this
      dsimp only at h1
      cases eo : op xs ds with
      | none => rw [eo] at h1; exact h1.elim
      | some y =>
        obtain ⟨d, xs'⟩ := y
        rw [eo] at h1
        refine hr S1 H1 p xs us ds vs d xs' Q r1.sub n1 hH hz hd dv eo fun v us' z1 d1 d2 => ?_
        have hp : p ∈ ow i := by rw [ho]; exact List.mem_singleton_self _
        have st := stp_upd (S := S1) (H := H1) (p := p) (o := .lst us') (by rw [hH]; exact fun z => nomatch z)
        have sm := sub_upd (o := .lst us') r1.sub n1
        exact h1 S1 _ (stp_ow hp st) (r1.chgL (slotL_some e1) hp st sm n1 ⟨us', upd_same, z1, d1⟩) v d2
  · exact h.elim
theorem je_mutL (i : Nat) (pa : PlainAttrs "list") (slot : Slot "list" name id) (hty : typeOf (.builtin id) = pure (.type "method_descriptor")) (hm : ∀ X, Γ.At X → MtR X id r) (hr : LOpOk Γ r op) (ha : JA Γ (e :: es) fa)
    (hN : Γ.N[i]? = some nm := by rfl) (hv : Vis Γ.sc nm := by first | exact Or.inl rfl | exact Or.inr (Or.inl rfl) | exact Or.inr (Or.inr rfl)) (hd : (nm == ("__debug__" : Str)) = false := by decide)
    (hcd : (nm == ("__classdict__" : Str)) = false := by decide) (hbase : ∀ env, attributeBase (.Name nm pn) name env (eval (.Name nm pn) env) = eval (.Name nm pn) env := by intro _; rfl)
    (hfew : ∀ env, ((backTo cpos (starEach (e :: es) env)).all (fun x => !x.1) && (backToKw cpos (keywordEach [] env)).all (fun x => x.1.isSome)
      && decide ((e :: es).length + ([] : List Keyword).length + (if ([] : List Keyword).isEmpty then 0 else 1) < 30)) = true := by intro _; rfl)
    (hline : (apos.endLine == cpos.line) = true := by rfl) (hs : ∀ env, starEach (e :: es) env = (false, eval e env) :: starEach es env := by intro _; rfl) (hplain : ∀ env, (backTo cpos (starEach es env)).any (·.1) = false := by intro _; rfl) :
    JE Γ (.Call (.Attribute (.Name nm pn) name apos) (e :: es) [] cpos) (eMutL op i fa) := by
  obtain ⟨⟨ta, pta, sa⟩, _⟩ := ha
  exact ⟨_, fun X hX => by rw [← hX.K]; exact pe_bm pa slot hty (hm X hX) (pe_slot i hX hN hv hd hcd) (pta X hX) (hbase _) (hfew _) hline (hs _) (hplain _), sim_mutL hr sa⟩
theorem je_mutL0 (i : Nat) (pa : PlainAttrs "list") (slot : Slot "list" name id) (hty : typeOf (.builtin id) = pure (.type "method_descriptor")) (hm : ∀ X, Γ.At X → MtR X id r) (hr : LOpOk Γ r op)
    (hN : Γ.N[i]? = some nm := by rfl) (hv : Vis Γ.sc nm := by first | exact Or.inl rfl | exact Or.inr (Or.inl rfl) | exact Or.inr (Or.inr rfl)) (hd : (nm == ("__debug__" : Str)) = false := by decide)
    (hcd : (nm == ("__classdict__" : Str)) = false := by decide) (hbase : ∀ env, attributeBase (.Name nm pn) name env (eval (.Name nm pn) env) = eval (.Name nm pn) env := by intro _; rfl)
    (hline : (apos.endLine == cpos.line) = true := by rfl) :
    JE Γ (.Call (.Attribute (.Name nm pn) name apos) [] [] cpos) (eMutL op i aNil) := by
  refine ⟨tBM0 Γ.K "list" r (tVar i), fun X hX => by rw [← hX.K]; exact pe_bm0 pa slot hty (hm X hX) (pe_slot i hX hN hv hd hcd) (hbase _) hline, fun S ow σ H ρ Q rep h => ?_⟩
  have q := sim_mutL (i := i) (ta := tNil) hr (fun S ow σ H ρ Q rep h => h.here rep (.refl rep.sub) [] rfl : SimA Γ tNil aNil) S ow σ H ρ Q rep h
  exact q
/-! ### append, extend, pop, insert, clear, reverse -/
def opAppend : LOp := fun xs ds => match ds with
  | [d] => if xs.length < sizeLine then some (.none, xs ++ [d]) else none
  | _ => none
theorem append_ok : LOpOk Γ rAppend opAppend := by
  intro S H p xs us ds vs d xs' Q s n hH hz hd dv eo h
  match ds, dv, eo with
  | [y], ⟨v, t, e1, dy, dt⟩, eo =>
    cases dt
    subst e1
    unfold opAppend at eo
    dsimp only at eo
    by_cases c : xs.length < sizeLine
    · rw [if_pos c] at eo
      cases eo
      exact ⟨p, us, v, rfl, rfl, hH, by rw [← hd.len]; exact c, h .non _ (by rw [List.length_append]; exact c) (hd.append (.one dy)) rfl⟩
    · rw [if_neg c] at eo; cases eo
def opExtend : LOp := fun xs ds => match ds with
  | [.list ys] => if xs.length + ys.length ≤ sizeLine then some (.none, xs ++ ys) else none
  | _ => none
theorem extend_ok : LOpOk Γ rExtend opExtend := by
  intro S H p xs us ds vs d xs' Q s n hH hz hd dv eo h
  match ds, dv, eo with
  | [.list ys], ⟨v, t, e1, dy, dt⟩, eo =>
    cases dt
    subst e1
    obtain ⟨b, ws, rfl, hb, zb, db⟩ := dy
    unfold opExtend at eo
    dsimp only at eo
    by_cases c : xs.length + ys.length ≤ sizeLine
    · rw [if_pos c] at eo
      cases eo
      exact ⟨p, b, us, ws, rfl, rfl, hH, s _ _ hb, by rw [← hd.len, ← db.len]; exact c, h .non _ (by rw [List.length_append]; exact c) (hd.append db) rfl⟩
    · rw [if_neg c] at eo; cases eo
def opPop : LOp := fun xs ds => match ds with
  | [] => (xs[xs.length - 1]?).map fun d => (d, xs.dropLast)
  | _ => none
theorem Dens.dropLast {K : PySem.W.Frag} {S : Hp} {ds : List D} {vs : List V} (h : Dens K S ds vs) : Dens K S ds.dropLast vs.dropLast := by
  rw [List.dropLast_eq_take, List.dropLast_eq_take, ← h.len]
  exact h.take _
theorem Dens.eraseIdx {K : PySem.W.Frag} {S : Hp} {ds : List D} {vs : List V} (k : Nat) (h : Dens K S ds vs) : Dens K S (ds.eraseIdx k) (vs.eraseIdx k) := by
  rw [List.eraseIdx_eq_take_drop_succ, List.eraseIdx_eq_take_drop_succ]
  exact (h.take _).append (h.drop _)
theorem pop_ok : LOpOk Γ rPop opPop := by
  intro S H p xs us ds vs d xs' Q s n hH hz hd dv eo h
  match ds, dv, eo with
  | [], dv, eo =>
    cases dv
    unfold opPop at eo
    dsimp only at eo
    cases e : xs[xs.length - 1]? with
    | none => rw [e] at eo; cases eo
    | some y =>
      rw [e] at eo
      cases eo
      obtain ⟨v, h1, h2⟩ := hd.get e
      exact ⟨p, us, v, rfl, rfl, hH, by rw [← hd.len]; exact h1, h v _ (by rw [List.length_dropLast]; omega) hd.dropLast h2⟩
def opPopAt : LOp := fun xs ds => match ds with
  | [.int i] => if -(2 ^ 63) ≤ i ∧ i < 2 ^ 63 then (match seqIndex? i xs.length with
    | some k => (xs[k]?).map fun d => (d, xs.eraseIdx k)
    | none => none) else none
  | _ => none
theorem popAt_ok : LOpOk Γ rPopAt opPopAt := by
  intro S H p xs us ds vs d xs' Q s n hH hz hd dv eo h
  match ds, dv, eo with
  | [.int i], ⟨v, t, e1, dy, dt⟩, eo =>
    cases dt
    subst e1
    cases dy
    unfold opPopAt at eo
    dsimp only at eo
    by_cases c : -(2 ^ 63) ≤ i ∧ i < 2 ^ 63
    · rw [if_pos c] at eo
      cases e2 : seqIndex? i xs.length with
      | none => rw [e2] at eo; cases eo
      | some k =>
        rw [e2] at eo
        dsimp only at eo
        cases e : xs[k]? with
        | none => rw [e] at eo; cases eo
        | some y =>
          rw [e] at eo
          cases eo
          obtain ⟨v, h1, h2⟩ := hd.get e
          exact ⟨p, us, i, k, v, rfl, rfl, hH, c.1, c.2, by rw [← hd.len]; exact e2, h1, h v _ (Nat.le_trans (len_erase xs k) hz) (hd.eraseIdx k) h2⟩
    · rw [if_neg c] at eo; cases eo
def opInsert : LOp := fun xs ds => match ds with
  | [.int i, d] => if xs.length < sizeLine ∧ 0 ≤ i ∧ i < 2 ^ 63 then some (.none, xs.take i.toNat ++ [d] ++ xs.drop i.toNat) else none
  | _ => none
theorem insert_ok : LOpOk Γ (fun x vs H Q => ∃ (l : Addr) (xs : List V) (i : Int) (y : V), x = .ref l ∧ vs = [.int i, y] ∧ H l = some (.lst xs) ∧ xs.length < sizeLine ∧ 0 ≤ i ∧ i < 2 ^ 63 ∧
    Q .non (upd H l (.lst (xs.take i.toNat ++ [y] ++ xs.drop i.toNat)))) opInsert := by
  intro S H p xs us ds vs d xs' Q s n hH hz hd dv eo h
  match ds, dv, eo with
  | [.int i, y], ⟨v, t, e1, dy, v2, t2, e2, dy2, dt⟩, eo =>
    cases dt
    subst e2
    subst e1
    cases dy
    unfold opInsert at eo
    dsimp only at eo
    by_cases c : xs.length < sizeLine ∧ 0 ≤ i ∧ i < 2 ^ 63
    · rw [if_pos c] at eo
      cases eo
      refine ⟨p, us, i, v2, rfl, rfl, hH, by rw [← hd.len]; exact c.1, c.2.1, c.2.2, h .non _ ?_ (((hd.take _).append (.one dy2)).append (hd.drop _)) rfl⟩
      have := c.1
      rw [List.length_append, List.length_append, List.length_take, List.length_drop, List.length_singleton]
      omega
    · rw [if_neg c] at eo; cases eo
def opClear : LOp := fun _ ds => match ds with
  | [] => some (.none, [])
  | _ => none
theorem clear_ok : LOpOk Γ rClear opClear := by
  intro S H p xs us ds vs d xs' Q s n hH hz hd dv eo h
  match ds, dv, eo with
  | [], dv, eo =>
    cases dv
    cases eo
    exact ⟨p, us, rfl, rfl, hH, h .non [] (Nat.zero_le _) rfl rfl⟩
def opReverse : LOp := fun xs ds => match ds with
  | [] => some (.none, xs.reverse)
  | _ => none
theorem reverse_ok : LOpOk Γ rReverse opReverse := by
  intro S H p xs us ds vs d xs' Q s n hH hz hd dv eo h
  match ds, dv, eo with
  | [], dv, eo =>
    cases dv
    cases eo
    exact ⟨p, us, rfl, rfl, hH, h .non _ (by rw [List.length_reverse]; exact hz) hd.reverse rfl⟩
end
section
variable {Γ : Ctx} {e : Expr} {f : M D} {apos cpos pn : Pos} {nm : Str}
theorem je_append (i : Nat) (ha : JE Γ e f) (hN : Γ.N[i]? = some nm := by rfl) (hv : Vis Γ.sc nm := by first | exact Or.inl rfl | exact Or.inr (Or.inl rfl) | exact Or.inr (Or.inr rfl)) (hd : (nm == ("__debug__" : Str)) = false := by decide)
    (hcd : (nm == ("__classdict__" : Str)) = false := by decide) (hfew : ∀ env, ((backTo cpos (starEach [e] env)).all (fun x => !x.1) && (backToKw cpos (keywordEach [] env)).all (fun x => x.1.isSome)
      && decide ([e].length + ([] : List Keyword).length + (if ([] : List Keyword).isEmpty then 0 else 1) < 30)) = true := by intro _; rfl)
    (hline : (apos.endLine == cpos.line) = true := by rfl) (hs : ∀ env, starEach [e] env = (false, eval e env) :: starEach [] env := by intro _; rfl) :
    JE Γ (.Call (.Attribute (.Name nm pn) "append" apos) [e] [] cpos) (eMutL opAppend i (aCons f aNil)) :=
  je_mutL i PySem.F.plainAttrs_list PySem.F.slot_list_append PySem.F.type_list_append (fun X hX => mt_append) append_ok (ja_cons ha ja_nil hs) hN hv hd hcd (fun _ => rfl) hfew hline hs (fun _ => rfl)
theorem je_extend (i : Nat) (ha : JE Γ e f) (hN : Γ.N[i]? = some nm := by rfl) (hv : Vis Γ.sc nm := by first | exact Or.inl rfl | exact Or.inr (Or.inl rfl) | exact Or.inr (Or.inr rfl)) (hd : (nm == ("__debug__" : Str)) = false := by decide)
    (hcd : (nm == ("__classdict__" : Str)) = false := by decide) (hfew : ∀ env, ((backTo cpos (starEach [e] env)).all (fun x => !x.1) && (backToKw cpos (keywordEach [] env)).all (fun x => x.1.isSome)
      && decide ([e].length + ([] : List Keyword).length + (if ([] : List Keyword).isEmpty then 0 else 1) < 30)) = true := by intro _; rfl)
    (hline : (apos.endLine == cpos.line) = true := by rfl) (hs : ∀ env, starEach [e] env = (false, eval e env) :: starEach [] env := by intro _; rfl) :
    JE Γ (.Call (.Attribute (.Name nm pn) "extend" apos) [e] [] cpos) (eMutL opExtend i (aCons f aNil)) :=
  je_mutL i PySem.F.plainAttrs_list PySem.F.slot_list_extend PySem.F.type_list_extend (fun X hX => mt_extend) extend_ok (ja_cons ha ja_nil hs) hN hv hd hcd (fun _ => rfl) hfew hline hs (fun _ => rfl)
theorem je_popAt (i : Nat) (ha : JE Γ e f) (hN : Γ.N[i]? = some nm := by rfl) (hv : Vis Γ.sc nm := by first | exact Or.inl rfl | exact Or.inr (Or.inl rfl) | exact Or.inr (Or.inr rfl)) (hd : (nm == ("__debug__" : Str)) = false := by decide)
    (hcd : (nm == ("__classdict__" : Str)) = false := by decide) (hfew : ∀ env, ((backTo cpos (starEach [e] env)).all (fun x => !x.1) && (backToKw cpos (keywordEach [] env)).all (fun x => x.1.isSome)
      && decide ([e].length + ([] : List Keyword).length + (if ([] : List Keyword).isEmpty then 0 else 1) < 30)) = true := by intro _; rfl)
    (hline : (apos.endLine == cpos.line) = true := by rfl) (hs : ∀ env, starEach [e] env = (false, eval e env) :: starEach [] env := by intro _; rfl) :
    JE Γ (.Call (.Attribute (.Name nm pn) "pop" apos) [e] [] cpos) (eMutL opPopAt i (aCons f aNil)) :=
  je_mutL i PySem.F.plainAttrs_list PySem.F.slot_list_pop PySem.F.type_list_pop (fun X hX => mt_popAt) popAt_ok (ja_cons ha ja_nil hs) hN hv hd hcd (fun _ => rfl) hfew hline hs (fun _ => rfl)
theorem je_insert {e2 : Expr} {f2 : M D} (i : Nat) (ha : JE Γ e f) (hb : JE Γ e2 f2) (hN : Γ.N[i]? = some nm := by rfl) (hv : Vis Γ.sc nm := by first | exact Or.inl rfl | exact Or.inr (Or.inl rfl) | exact Or.inr (Or.inr rfl)) (hd : (nm == ("__debug__" : Str)) = false := by decide)
    (hcd : (nm == ("__classdict__" : Str)) = false := by decide) (hfew : ∀ env, ((backTo cpos (starEach [e, e2] env)).all (fun x => !x.1) && (backToKw cpos (keywordEach [] env)).all (fun x => x.1.isSome)
      && decide ([e, e2].length + ([] : List Keyword).length + (if ([] : List Keyword).isEmpty then 0 else 1) < 30)) = true := by intro _; rfl)
    (hline : (apos.endLine == cpos.line) = true := by rfl) (hs : ∀ env, starEach [e, e2] env = (false, eval e env) :: starEach [e2] env := by intro _; rfl) (hs2 : ∀ env, starEach [e2] env = (false, eval e2 env) :: starEach [] env := by intro _; rfl) (hplain : ∀ env, (backTo cpos (starEach [e2] env)).any (·.1) = false := by intro _; rfl) :
    JE Γ (.Call (.Attribute (.Name nm pn) "insert" apos) [e, e2] [] cpos) (eMutL opInsert i (aCons f (aCons f2 aNil))) :=
  je_mutL i PySem.F.plainAttrs_list PySem.F.slot_list_insert PySem.F.type_list_insert (fun X hX => mt_insert) insert_ok (ja_cons ha (ja_cons hb ja_nil hs2) hs) hN hv hd hcd (fun _ => rfl) hfew hline hs hplain
theorem je_pop (i : Nat) (hN : Γ.N[i]? = some nm := by rfl) (hv : Vis Γ.sc nm := by first | exact Or.inl rfl | exact Or.inr (Or.inl rfl) | exact Or.inr (Or.inr rfl)) (hd : (nm == ("__debug__" : Str)) = false := by decide)
    (hcd : (nm == ("__classdict__" : Str)) = false := by decide) (hline : (apos.endLine == cpos.line) = true := by rfl) :
    JE Γ (.Call (.Attribute (.Name nm pn) "pop" apos) [] [] cpos) (eMutL opPop i aNil) :=
  je_mutL0 i PySem.F.plainAttrs_list PySem.F.slot_list_pop PySem.F.type_list_pop (fun X hX => mt_pop) pop_ok hN hv hd hcd (fun _ => rfl) hline
theorem je_clear (i : Nat) (hN : Γ.N[i]? = some nm := by rfl) (hv : Vis Γ.sc nm := by first | exact Or.inl rfl | exact Or.inr (Or.inl rfl) | exact Or.inr (Or.inr rfl)) (hd : (nm == ("__debug__" : Str)) = false := by decide)
    (hcd : (nm == ("__classdict__" : Str)) = false := by decide) (hline : (apos.endLine == cpos.line) = true := by rfl) :
    JE Γ (.Call (.Attribute (.Name nm pn) "clear" apos) [] [] cpos) (eMutL opClear i aNil) :=
  je_mutL0 i PySem.F.plainAttrs_list PySem.F.slot_list_clear PySem.F.type_list_clear (fun X hX => mt_clear) clear_ok hN hv hd hcd (fun _ => rfl) hline
theorem je_reverse (i : Nat) (hN : Γ.N[i]? = some nm := by rfl) (hv : Vis Γ.sc nm := by first | exact Or.inl rfl | exact Or.inr (Or.inl rfl) | exact Or.inr (Or.inr rfl)) (hd : (nm == ("__debug__" : Str)) = false := by decide)
    (hcd : (nm == ("__classdict__" : Str)) = false := by decide) (hline : (apos.endLine == cpos.line) = true := by rfl) :
    JE Γ (.Call (.Attribute (.Name nm pn) "reverse" apos) [] [] cpos) (eMutL opReverse i aNil) :=
  je_mutL0 i PySem.F.plainAttrs_list PySem.F.slot_list_reverse PySem.F.type_list_reverse (fun X hX => mt_reverse) reverse_ok hN hv hd hcd (fun _ => rfl) hline
/-- xs.extend(ys), ys a slot's own list -/
def eExtS (i j : Nat) : M D := fun ρ => match slotL ρ i, slotL ρ j with
  | some xs, some ys => if xs.length + ys.length ≤ sizeLine then .ok .none (ρ.set i (some (.l (xs ++ ys)))) else .stuck
  | _, _ => .stuck
theorem je_extendS {nm2 : Str} {pn2 : Pos} (i j : Nat) (hN : Γ.N[i]? = some nm := by rfl) (hv : Vis Γ.sc nm := by first | exact Or.inl rfl | exact Or.inr (Or.inl rfl) | exact Or.inr (Or.inr rfl)) (hd : (nm == ("__debug__" : Str)) = false := by decide)
    (hcd : (nm == ("__classdict__" : Str)) = false := by decide) (hN2 : Γ.N[j]? = some nm2 := by rfl) (hv2 : Vis Γ.sc nm2 := by first | exact Or.inl rfl | exact Or.inr (Or.inl rfl) | exact Or.inr (Or.inr rfl)) (hd2 : (nm2 == ("__debug__" : Str)) = false := by decide)
    (hcd2 : (nm2 == ("__classdict__" : Str)) = false := by decide) (hline : (apos.endLine == cpos.line) = true := by rfl) :
    JE Γ (.Call (.Attribute (.Name nm pn) "extend" apos) [.Name nm2 pn2] [] cpos) (eExtS i j) := by
  refine ⟨tBM Γ.K "list" rExtend (tVar i) (tCons (tVar j) tNil), fun X hX => by rw [← hX.K]; exact pe_bm PySem.F.plainAttrs_list PySem.F.slot_list_extend PySem.F.type_list_extend mt_extend (pe_slot i hX hN hv hd hcd) (pa_cons (pe_slot j hX hN2 hv2 hd2 hcd2) pa_nil) rfl rfl hline, fun S ow σ H ρ Q rep h => ?_⟩
  unfold eExtS at h
  cases e1 : slotL ρ i with
  | none => rw [e1] at h; exact h.elim
  | some xs =>
    cases e2 : slotL ρ j with
    | none => rw [e1, e2] at h; exact h.elim
    | some ys =>
      rw [e1, e2] at h
      dsimp only at h
      by_cases c : xs.length + ys.length ≤ sizeLine
      · rw [if_pos c] at h
        obtain ⟨p, us, ho, hs, n, hH, hz, hdn⟩ := slot_l rep (slotL_some e1)
        obtain ⟨q, ws, ho2, hs2, n2, hH2, hz2, hdn2⟩ := slot_l rep (slotL_some e2)
        refine ⟨_, hs, .inl ⟨rfl, _, SqL.of hH⟩, _, hs2, p, q, us, ws, rfl, rfl, hH, hH2, by rw [← hdn.len, ← hdn2.len]; exact c, ?_⟩
        have hp : p ∈ ow i := by rw [ho]; exact List.mem_singleton_self _
        have st := stp_upd (S := S) (H := H) (p := p) (o := .lst (us ++ ws)) (by rw [hH]; exact fun z => nomatch z)
        exact h S _ (stp_ow hp st) (rep.chgL (slotL_some e1) hp st (sub_upd rep.sub n) n ⟨_, upd_same, by rw [List.length_append]; exact c, hdn.append hdn2⟩) _ rfl
      · rw [if_neg c] at h; exact h.elim
end

/-! ### xs[i] = e, d[k] = e -/
def keyD : D → Option Key
  | .int i => some (.inl i)
  | .str s => some (.inr s)
  | _ => none
def keysD : List D → Option (List Key)
  | [] => some []
  | d :: ds => (keyD d).bind fun k => (keysD ds).map (k :: ·)
def tkeyD : D → Option (List Key)
  | .tuple ds => keysD ds
  | _ => none
def valG {κ β : Type} [DecidableEq κ] (kvs : List (κ × β)) (k : κ) : Option β := (kvs.find? fun kv => decide (kv.1 = k)).map (·.2)
def putG {κ β : Type} [DecidableEq κ] (kvs : List (κ × β)) (k : κ) (v : β) : List (κ × β) :=
  if (kvs.any fun kv => decide (kv.1 = k)) = true then kvs.map fun kv => if kv.1 = k then (kv.1, v) else kv else kvs ++ [(k, v)]
theorem keyD_den {K : PySem.W.Frag} {S : Hp} {d : D} {k : Key} {v : V} (h : keyD d = some k) (dv : Den K S d v) : v = kV k := by
  cases d with
  | int i => cases h; exact dv
  | str s => cases h; exact dv.1
  | _ => cases h
theorem keysD_dens {K : PySem.W.Frag} {S : Hp} : ∀ {ds : List D} {ks : List Key} {vs : List V}, keysD ds = some ks → Dens K S ds vs → vs = ks.map kV
  | [], ks, vs, h, dv => by cases h; exact dv
  | d :: ds, ks, vs, h, ⟨v, r, e, dd, dr⟩ => by
    unfold keysD at h
    cases ek : keyD d with
    | none => rw [ek] at h; cases h
    | some k =>
      rw [ek] at h
      cases er : keysD ds with
      | none => rw [er] at h; cases h
      | some ks' =>
        rw [er] at h
        cases h
        subst e
        rw [keyD_den ek dd, keysD_dens er dr]
        rfl
theorem tkeyD_den {K : PySem.W.Frag} {S : Hp} {d : D} {k : List Key} {v : V} (h : tkeyD d = some k) (dv : Den K S d v) : ∃ b, v = .ref b ∧ S b = some (.tup (k.map kV)) := by
  cases d with
  | tuple ds =>
    obtain ⟨b, vs, e, hb, _, dvs⟩ := dv
    exact ⟨b, e, by rw [hb, keysD_dens h dvs]⟩
  | _ => cases h
theorem DKs.find {K : PySem.W.Frag} {S : Hp} {κ : Type} [DecidableEq κ] : ∀ {ds : List (κ × D)} {vs : List (κ × V)} (k : κ), DKs K S ds vs → (∀ d, valG ds k = some d → ∃ v, valV vs k = some v ∧ Den K S d v) ∧ (valG ds k = none → valV vs k = none)
  | [], _, k, h => by cases h; exact ⟨(fun d e => by cases e), fun _ => rfl⟩
  | (k0, d0) :: ds, _, k, ⟨v, r, e, hd, hr⟩ => by
    subst e
    obtain ⟨a, b⟩ := DKs.find k hr
    by_cases c : k0 = k
    · have e1 : valG ((k0, d0) :: ds) k = some d0 := by simp [valG, c]
      have e2 : valV ((k0, v) :: r) k = some v := by simp [valV, c]
      rw [e1, e2]
      exact ⟨fun d e => by cases e; exact ⟨v, rfl, hd⟩, fun e => by cases e⟩
    · have e1 : valG ((k0, d0) :: ds) k = valG ds k := by simp [valG, c]
      have e2 : valV ((k0, v) :: r) k = valV r k := by simp [valV, c]
      rw [e1, e2]
      exact ⟨a, b⟩
theorem DKs.any {K : PySem.W.Frag} {S : Hp} {κ : Type} [DecidableEq κ] (k : κ) : ∀ {ds : List (κ × D)} {vs : List (κ × V)}, DKs K S ds vs → (ds.any fun kv => decide (kv.1 = k)) = (vs.any fun kv => decide (kv.1 = k))
  | [], _, h => by cases h; rfl
  | (k0, d0) :: ds, _, ⟨v, r, e, hd, hr⟩ => by subst e; simp only [List.any_cons]; rw [DKs.any k hr]
theorem DKs.repl {K : PySem.W.Frag} {S : Hp} {κ : Type} [DecidableEq κ] (k : κ) {d : D} {v : V} (hv : Den K S d v) : ∀ {ds : List (κ × D)} {vs : List (κ × V)}, DKs K S ds vs → DKs K S (ds.map fun kv => if kv.1 = k then (kv.1, d) else kv) (vs.map fun kv => if kv.1 = k then (kv.1, v) else kv)
  | [], _, h => by cases h; rfl
  | (k0, d0) :: ds, _, ⟨v0, r, e, hd, hr⟩ => by
    subst e
    have ih := DKs.repl k hv hr
    simp only [List.map_cons]
    by_cases c : k0 = k
    · simp only [c, if_true]; exact ⟨v, _, rfl, hv, by simpa [c] using ih⟩
    · simp only [c, if_false]; exact ⟨v0, _, rfl, hd, ih⟩
theorem DKs.snoc {K : PySem.W.Frag} {S : Hp} {κ : Type} (k : κ) {d : D} {v : V} (hv : Den K S d v) : ∀ {ds : List (κ × D)} {vs : List (κ × V)}, DKs K S ds vs → DKs K S (ds ++ [(k, d)]) (vs ++ [(k, v)])
  | [], _, h => by cases h; exact ⟨v, [], rfl, hv, rfl⟩
  | (k0, d0) :: ds, _, ⟨v0, r, e, hd, hr⟩ => by subst e; exact ⟨v0, _, rfl, hd, DKs.snoc k hv hr⟩
theorem DKs.put {K : PySem.W.Frag} {S : Hp} {κ : Type} [DecidableEq κ] (k : κ) {d : D} {v : V} (hv : Den K S d v) {ds : List (κ × D)} {vs : List (κ × V)} (h : DKs K S ds vs) : DKs K S (putG ds k d) (putK vs k v) := by
  unfold putG putK
  rw [h.any k]
  split
  · exact h.repl k hv
  · exact h.snoc k hv
theorem putG_len {κ : Type} [DecidableEq κ] (ds : List (κ × D)) (k : κ) (d : D) : (putG ds k d).length ≤ ds.length + 1 := by
  unfold putG
  split
  · rw [List.length_map]; omega
  · rw [List.length_append]; exact Nat.le_refl _
section
variable {Γ : Ctx}
/-- slot i's own dict has changed -/
theorem Rep.chg {K : PySem.W.Frag} {S H S' H' : Hp} {ow : Nat → List Addr} {σ : L2.St} {ρ : Rho} {i : Nat} {x x' : SV} {p : Addr} (r : Rep K S ow σ H ρ) (e : ρ[i]? = some (some x)) (ho : ow i = [p]) (st : Stp (ow1 p) S H S' H') (s : Same S' H') (n : S' p = none) (hs : σ[i]? = some (some (.ref p)))
    (l : SvOk K S' H' [p] x' (.ref p)) : Rep K S' ow σ H' (ρ.set i (some x')) where
  sub := s
  dis := fun j q hq => by
    by_cases z : q = p
    · rw [z]; exact n
    · cases e2 : S' q with
      | none => rfl
      | some o => exact absurd (st.new q (by rw [e2]; exact fun z => nomatch z) (r.dis j q hq)) (r.al j q hq)
  inj := r.inj
  al := fun j q hq => st.dom q (r.al j q hq)
  len := by rw [List.length_set]; exact r.len
  sl := fun j y ey => by
    have hi : i < ρ.length := (List.getElem?_eq_some_iff.mp e).1
    have hp : p ∈ ow i := by rw [ho]; exact List.mem_singleton_self _
    by_cases z : j = i
    · subst z
      rw [List.getElem?_set_self hi] at ey
      cases ey
      exact ⟨_, hs, by rw [ho]; exact l⟩
    · rw [List.getElem?_set_ne (Ne.symm z)] at ey
      obtain ⟨v, h1, h2⟩ := r.sl j y ey
      refine ⟨v, h1, h2.mono st.ss fun q hq o ho => st.fr q o ho fun k hk => ?_⟩
      unfold ow1 at hk
      by_cases z2 : k = 0
      · rw [if_pos z2] at hk
        have : q = p := List.mem_singleton.mp hk
        subst this
        exact z (r.inj j i _ hq hp)
      · rw [if_neg z2] at hk; cases hk
  no := fun j h => by
    by_cases z : j = i
    · subst z
      have hi : j < ρ.length := (List.getElem?_eq_some_iff.mp e).1
      exact absurd (List.getElem?_set_self hi) (h _)
    · exact r.no j fun y ey => h y (by rw [List.getElem?_set_ne (Ne.symm z)]; exact ey)
/-- what x[k] = d makes of an own thing x -/
def SV.put : SV → D → D → Option SV
  | .l xs, y, z => (match y with | .int i => (ixN xs.length i).map fun j => SV.l (xs.set j z) | _ => none)
  | .k kvs, y, z => if kvs.length < sizeLine then (keyD y).map fun q => SV.k (putG kvs q z) else none
  | .t kvs, y, z => if kvs.length < sizeLine then (tkeyD y).map fun q => SV.t (putG kvs q z) else none
  | _, _, _ => none
def rSetA : TSet := fun o i v H Q => rSetL o i v H Q ∨ rSetD o i v H Q
theorem set_any {X : Cx} (hu : X.A.units + 1 < cLine) : PSet X rSetA := fun pins s σ H o i v ov iv u Q I ro ri rv h => h.elim (set_list pins s σ H o i v ov iv u Q I ro ri rv) (set_dict hu pins s σ H o i v ov iv u Q I ro ri rv)
theorem put_ok {S H : Hp} {p : Addr} {x x' : SV} {y d : D} {vy vd : V} {Q : Hp → Prop} (s : Same S H) (hx : SvOk Γ.K S H [p] x (.ref p)) (dy : Den Γ.K S y vy) (dd : Den Γ.K S d vd) (e : x.put y d = some x')
    (h : ∀ o, H p ≠ none → SvOk Γ.K S (upd H p o) [p] x' (.ref p) → Q (upd H p o)) : rSetA (.ref p) vy vd H Q := by
  cases x with
  | l xs =>
    obtain ⟨q, us, e1, e2, hH, hz, hd⟩ := hx
    cases e2
    cases y with
    | int i =>
      cases dy
      replace e : (ixN xs.length i).map (fun j => SV.l (xs.set j d)) = some x' := e
      cases ej : ixN xs.length i with
      | none => rw [ej] at e; cases e
      | some j =>
        rw [ej] at e
        cases e
        exact .inl ⟨p, us, i, j, rfl, rfl, hH, by rw [← hd.len]; exact ej, h _ (by rw [hH]; exact fun z => nomatch z) ⟨p, _, rfl, rfl, upd_same, by rw [List.length_set]; exact hz, hd.set j dd⟩⟩
    | _ => cases e
  | k kvs =>
    obtain ⟨q, us, e1, e2, hH, hz, hd⟩ := hx
    cases e2
    have e' : (if kvs.length < sizeLine then (keyD y).map fun k => SV.k (putG kvs k d) else none) = some x' := e
    by_cases c : kvs.length < sizeLine
    · rw [if_pos c] at e'
      cases ek : keyD y with
      | none => rw [ek] at e'; cases e'
      | some k =>
        rw [ek] at e'
        cases e'
        have := keyD_den ek dy
        subst this
        exact .inr ⟨p, _, rfl, DPut.k hH (by rw [← hd.len]; exact c), h _ (by rw [hH]; exact fun z => nomatch z) ⟨p, _, rfl, rfl, upd_same, Nat.le_trans (putG_len _ _ _) c, hd.put k dd⟩⟩
    · rw [if_neg c] at e'; cases e'
  | t kvs =>
    obtain ⟨q, us, e1, e2, hH, hz, hd⟩ := hx
    cases e2
    have e' : (if kvs.length < sizeLine then (tkeyD y).map fun k => SV.t (putG kvs k d) else none) = some x' := e
    by_cases c : kvs.length < sizeLine
    · rw [if_pos c] at e'
      cases ek : tkeyD y with
      | none => rw [ek] at e'; cases e'
      | some k =>
        rw [ek] at e'
        cases e'
        obtain ⟨b, rfl, hb⟩ := tkeyD_den ek dy
        exact .inr ⟨p, _, rfl, DPut.t hH (s _ _ hb) (by rw [← hd.len]; exact c), h _ (by rw [hH]; exact fun z => nomatch z) ⟨p, _, rfl, rfl, upd_same, Nat.le_trans (putG_len _ _ _) c, hd.put k dd⟩⟩
    · rw [if_neg c] at e'; cases e'
  | _ => cases e
def gPut (i : Nat) (fk fe : M D) : G := fun ρ => (fe ρ).go fun d ρ1 => match ρ1[i]? with
  | some (some _) => (fk ρ1).go fun y ρ2 => (match ρ2[i]? with
    | some (some x) => (match x.put y d with
      | some x' => .next (ρ2.set i (some x'))
      | none => .stuck)
    | _ => .stuck)
  | _ => .stuck
theorem put_own {S H : Hp} {os : List Addr} {x x' : SV} {v : V} {y d : D} (h : SvOk Γ.K S H os x v) (e : x.put y d = some x') : ∃ p, os = [p] ∧ v = .ref p := by
  cases x with
  | l xs => obtain ⟨p, us, e1, e2, _⟩ := h; exact ⟨p, e1, e2⟩
  | k xs => obtain ⟨p, us, e1, e2, _⟩ := h; exact ⟨p, e1, e2⟩
  | t xs => obtain ⟨p, us, e1, e2, _⟩ := h; exact ⟨p, e1, e2⟩
  | _ => cases e
theorem js_put {nm : Str} {pn pos ps : Pos} {k e : Expr} {fk fe : M D} (i : Nat) (he : JE Γ e fe) (hk : JE Γ k fk) (hN : Γ.N[i]? = some nm := by rfl) (hv : Vis Γ.sc nm := by first | exact Or.inl rfl | exact Or.inr (Or.inl rfl) | exact Or.inr (Or.inr rfl)) (hd : (nm == ("__debug__" : Str)) = false := by decide)
    (hcd : (nm == ("__classdict__" : Str)) = false := by decide) (ha : ∀ env v, assign (.Subscript (.Name nm pn) k ps) env v = (do
      let ov ← holding [v] (eval (.Name nm pn) env)
      let iv ← holding [v, ov] (eval k env)
      standAt ps
      holding [v, ov, iv] (setItem ov iv v)
      release [v, ov, iv] []) := by intro _ _; rfl) (hs : ∀ env, swapsWithSole [.Subscript (.Name nm pn) k ps] e pos.line env = pure false := by intro _; rfl) (hw : ∀ env, swappedStores [.Subscript (.Name nm pn) k ps] e env = pure none := by intro _; rfl)
    (h1 : ∀ env, (assignEach [.Subscript (.Name nm pn) k ps] env).map (·.2) = [assign (.Subscript (.Name nm pn) k ps) env] := by intro _; rfl) : JS Γ (.Assign [.Subscript (.Name nm pn) k ps] e pos) (gPut i fk fe) := by
  obtain ⟨te, pe, se⟩ := he
  obtain ⟨tk, pk, sk⟩ := hk
  refine ⟨_, fun X hX => ps_asg (pe X hX.toAt) (pg_sub (pe_slot i hX.toAt hN hv hd hcd) (pk X hX.toAt) (set_any hX.toAt.u1) (ha _)) (hs _) (hw _) (h1 _), fun S ow σ H ρ D r h => ?_⟩
  refine se S ow σ H ρ _ r (PostS.go h (fun _ => trivial) fun d S1 H1 ρ1 st1 r1 h1 v dv => ?_)
  cases e1 : ρ1[i]? with
  | none => rw [e1] at h1; exact h1.elim
  | some o =>
    cases o with
    | none => rw [e1] at h1; exact h1.elim
    | some x0 =>
      rw [e1] at h1
      dsimp only at h1
      obtain ⟨w, hs0, hx0⟩ := r1.sl i _ e1
      refine ⟨w, hs0, sk S1 ow σ H1 ρ1 _ r1 (PostS.go h1 (fun _ => trivial) fun y S2 H2 ρ2 st2 r2 h2 u du => ?_)⟩
      cases e2 : ρ2[i]? with
      | none => rw [e2] at h2; exact h2.elim
      | some o =>
        cases o with
        | none => rw [e2] at h2; exact h2.elim
        | some x =>
          rw [e2] at h2
          dsimp only at h2
          cases ex : x.put y d with
          | none => rw [ex] at h2; exact h2.elim
          | some x' =>
            rw [ex] at h2
            obtain ⟨w2, hs2, hx⟩ := r2.sl i _ e2
            rw [hs0] at hs2
            cases hs2
            obtain ⟨p, ho, rfl⟩ := put_own hx ex
            rw [ho] at hx
            refine put_ok r2.sub hx du (Den.mono st2.ss _ _ dv) ex fun o hp ok => ?_
            have n : S2 p = none := r2.dis i p (by rw [ho]; exact List.mem_singleton_self _)
            have st3 := stp_upd (S := S2) (H := H2) (p := p) (o := o) hp
            have hpi : p ∈ ow i := by rw [ho]; exact List.mem_singleton_self _
            exact h2 S2 _ ow σ (stp_ow hpi st3).sto (r2.chg e2 ho st3 (sub_upd r2.sub n) n hs0 ok)
/-- x += e, x -= e of integers -/
def gAugI (op : Int → Int → Int) (bor : List Nat) (i : Nat) (fe : M D) : G := fun ρ => match ρ[i]? with
  | some (some (.d (.int a))) => (fe ρ).go fun d ρ1 => (match d with
    | .int b => (match setD bor i (.int (op a b)) ρ1 with
      | some ρ2 => .next ρ2
      | none => .stuck)
    | _ => .stuck)
  | _ => .stuck
theorem sim_aug {i : Nat} {te : TE} {fe : M D} {op : Int → Int → Int} (nd : Γ.N.Nodup) (sa : Sim Γ te fe) : SimS Γ (tAug i te (ipI op)) (gAugI op Γ.bor i fe) := fun S ow σ H ρ D r h => by
  unfold gAugI at h
  split at h
  · rename_i a e
    obtain ⟨v, hs, _, hv⟩ := r.sl i _ e
    cases hv
    refine ⟨_, hs, sa S ow σ H ρ _ r (PostS.go h (fun _ => trivial) fun d S1 H1 ρ1 st1 r1 h1 v dv => ?_)⟩
    cases d with
    | int b =>
      cases dv
      dsimp only at h1
      refine ⟨a, b, rfl, rfl, ?_⟩
      exact sim_gname S1 ow σ H1 ρ1 (.int (op a b)) (.int (op a b)) D.nx r1 rfl (GPost.next r1 h1)
    | _ => exact h1.elim
  · exact h.elim
theorem js_augAdd {x : Str} {pos pos' : Pos} {e : Expr} {fe : M D} (i : Nat) (nd : Γ.N.Nodup) (he : JE Γ e fe) (hi : Γ.N[i]? = some x := by rfl) (hx : Loc Γ.sc x := by first | exact Or.inl rfl | exact Or.inr rfl) (hf : Γ.fn x = true ∨ Γ.sc.names.lookup x = some .local := by first | exact Or.inl rfl | exact Or.inr rfl) :
    JS Γ (.AugAssign (.Name x pos') .Add e pos) (gAugI (fun a b => a + b) Γ.bor i fe) := by
  obtain ⟨te, pe, se⟩ := he
  exact ⟨_, fun X hX => ps_aug (by rw [hX.N]; exact nd) (by rw [hX.N]; exact hi) (by rw [hX.sc]; exact hx) (pe X hX.toAt) ip_add (by rw [hX.fn, hX.sc]; exact hf), sim_aug nd se⟩
end
end DL

/-! The data layer, part 10: comprehensions of two clauses. -/
namespace DL
open PySem PySem.Spec PyProof.Rows L2

/-- what a turn does behind its target: the elements of T are put behind the list at L -/
def SimB (Γ : Ctx) (L : Addr) (B : L2.St → Hp → (Hp → Prop) → Prop) (T : M (List D)) : Prop :=
  ∀ S0 H0 S ow σ H ρ acc va zs ρ' (Nx : Hp → Prop), Stp ow S0 H0 S H → H0 L = none → Rep Γ.K S ow σ H ρ → H L = some (.lst va) → S L = none → (∀ i, L ∉ ow i) → Dens Γ.K S acc va → T ρ = .ok zs ρ' → acc.length + zs.length ≤ sizeLine →
  (∀ S' H' va', Same S S' → Stp ow S0 H0 S' H' → Rep Γ.K S' ow σ H' ρ' → H' L = some (.lst va') → S' L = none → Dens Γ.K S' (acc ++ zs) va' → Nx H') → B σ H Nx
def tOne (t : M Bool) (f : M D) : M (List D) := fun ρ => match t ρ with
  | .ok true ρ2 => (match f ρ2 with
    | .ok y ρ3 => .ok [y] ρ3
    | _ => .stuck)
  | .ok false ρ2 => .ok [] ρ2
  | _ => .stuck
def bOne (L : Addr) (tt : TT) (te : TE) : L2.St → Hp → (Hp → Prop) → Prop := fun σ H Nx => tt σ H fun b H3 => if b = true then te σ H3 fun y H4 => ∃ ac, H4 L = some (.lst ac) ∧ ac.length < sizeLine ∧ Nx (upd H4 L (.lst (ac ++ [y]))) else Nx H3
def fLoop (vs : List Nat) (g : D → Rho → Option Rho) (T : M (List D)) : List D → Rho → Res (List D)
  | [], ρ => .ok [] ρ
  | d :: ds, ρ => match g d ρ with
    | none => .stuck
    | some ρ1 => match T ρ1 with
      | .ok zs ρ2 => (fLoop vs g T ds (wipeR ρ2 vs)).bind fun ys ρ4 => .ok (zs ++ ys) ρ4
      | _ => .stuck
section
variable {Γ : Ctx} {L : Addr} {tt : TT} {te : TE} {t : M Bool} {f : M D}
theorem one_turn (st : SimT Γ tt t) (se : Sim Γ te f) : SimB Γ L (bOne L tt te) (tOne t f) := by
  intro S0 H0 S ow σ H ρ acc va zs ρ' Nx q0 hL0 rep hL nS nO da eT hl hN
  have keep : ∀ {S' H' : Hp}, Stp ow S H S' H' → H' L = some (.lst va) ∧ S' L = none := fun {S' H'} q => by
    refine ⟨q.fr L _ hL nO, ?_⟩
    cases z : S' L with
    | none => rfl
    | some o =>
      have := q.new L (by rw [z]; exact fun z => nomatch z) nS
      rw [hL] at this; cases this
  unfold tOne at eT
  refine st S ow σ H ρ _ rep ?_
  cases et : t ρ with
  | stuck => rw [et] at eT; cases eT
  | err x ρ2 => rw [et] at eT; cases eT
  | ok b ρ2 =>
    rw [et] at eT
    intro S3 H3 q3 r3
    obtain ⟨k1, k2⟩ := keep q3
    cases b with
    | false =>
      rw [if_neg Bool.false_ne_true]
      cases eT
      exact hN S3 H3 va q3.ss (q0.trans q3) r3 k1 k2 (by rw [List.append_nil]; exact Dens.mono q3.ss _ _ da)
    | true =>
      rw [if_pos rfl]
      refine se S3 ow σ H3 ρ2 _ r3 ?_
      dsimp only at eT
      cases ef : f ρ2 with
      | stuck => rw [ef] at eT; cases eT
      | err x ρ3 => rw [ef] at eT; cases eT
      | ok y ρ3 =>
        rw [ef] at eT
        cases eT
        intro S4 H4 q4 r4 v dv
        have q5 := q3.trans q4
        obtain ⟨k3, k4⟩ := keep q5
        have d4 := Dens.mono q5.ss _ _ da
        refine ⟨va, k3, ?_, ?_⟩
        · have := da.len
          have h1 : acc.length + 1 ≤ sizeLine := hl
          omega
        · exact hN S4 _ (va ++ [v]) q5.ss ((q0.trans q5).out hL0) (r4.out k4 nO) upd_same k4 (d4.append (.one dv))
theorem vsOk_back {K : PySem.W.Frag} {S S' H H' : Hp} {ow : Nat → List Addr} {σ σ' : L2.St} {ρ ρ' : Rho} {vs : List Nat} (r : Rep K S ow σ H ρ) (h : vsOk ρ vs = true) (r' : Rep K S' ow σ' H' ρ') : vsOk ρ' vs = true := by
  refine List.all_eq_true.mpr fun j hj => ?_
  have hoj : ow j = [] := vsOk_ow r h hj
  cases ej : ρ'[j]? with
  | none => rfl
  | some o =>
    cases o with
    | none => rfl
    | some y =>
      obtain ⟨v, _, q⟩ := r'.sl j y ej
      rw [hoj] at q
      cases y with
      | d x => rfl
      | e x a => rfl
      | s x => rfl
      | l x => obtain ⟨p, vs, e, _⟩ := q; cases e
      | ll x => obtain ⟨p, vs, e, _⟩ := q; cases e
      | k x => obtain ⟨p, vs, e, _⟩ := q; cases e
      | t x => obtain ⟨p, vs, e, _⟩ := q; cases e
/-- the turns of a clause -/
theorem loop_ok {B : L2.St → Hp → (Hp → Prop) → Prop} {T : M (List D)} {tg : TG} {g : D → Rho → Option Rho} {ws vs : List Nat} {J : It} {Fin : Hp → Prop} {ds : List D} {S0 H0 S H : Hp} {ow : Nat → List Addr} {σ : L2.St} {ρ : Rho} {acc ys : List D} {va : List V} {ρe : Rho}
    (sB : SimB Γ L B T) (sg : SimG Γ tg ws g) (hw : ∀ j ∈ ws, j ∈ vs) (hJ : ItOk Γ.K J S ds) (q0 : Stp ow S0 H0 S H) (hL0 : H0 L = none) (rep : Rep Γ.K S ow σ H ρ) (cv : vsOk ρ vs = true) (hL : H L = some (.lst va)) (nS : S L = none) (nO : ∀ i, L ∉ ow i) (da : Dens Γ.K S acc va)
    (et : fLoop vs g T ds (wipeR ρ vs) = .ok ys ρe) (hl : acc.length + ys.length ≤ sizeLine)
    (hF : ∀ S' H' va', Stp ow S0 H0 S' H' → Rep Γ.K S' ow (L2.wipe σ vs) H' ρe → Same S S' → H' L = some (.lst va') → S' L = none → Dens Γ.K S' (acc ++ ys) va' → Fin H') :
    ∃ W : Nat → Nat → Hp → Prop, (∃ m, W 0 m H) ∧ ∀ i m H, W i m H →
      (J.stop i H ∧ Fin H) ∨ (J.go i H ∧ ∃ Nx : Hp → Prop, (∀ H', Nx H' → ∃ m', m' < m ∧ W (i + 1) m' H') ∧ ∀ x H', J.yld i H x H' → tg x (L2.wipe σ vs) H' fun σ2 H2 => L2.wipe σ2 vs = L2.wipe σ vs ∧ B σ2 H2 Nx) := by
  refine ⟨fun i m H' => m = ds.length - i ∧ i ≤ ds.length ∧ ∃ S1 ρ1 acc1 va1 ys1, Stp ow S0 H0 S1 H' ∧ Same S S1 ∧ Rep Γ.K S1 ow (L2.wipe σ vs) H' ρ1 ∧ H' L = some (.lst va1) ∧ S1 L = none ∧ Dens Γ.K S1 acc1 va1 ∧ fLoop vs g T (ds.drop i) ρ1 = .ok ys1 ρe ∧ acc1 ++ ys1 = acc ++ ys,
    ⟨ds.length, by simp, Nat.zero_le _, S, wipeR ρ vs, acc, va, ys, q0, Same.refl S, rep.wipe cv, hL, nS, da, by rw [List.drop_zero]; exact et, rfl⟩, ?_⟩
  rintro i m H1 ⟨rfl, hi, S1, ρ1, acc1, va1, ys1, q1, ss1, r1, hL1, nS1, da1, htot, hsum⟩
  obtain ⟨go, stop⟩ := hJ i S1 H1 ss1 r1.sub
  by_cases hlt : i < ds.length
  · have hd : ds[i]? = some ds[i] := List.getElem?_eq_getElem hlt
    obtain ⟨go1, go2⟩ := go _ hd
    refine .inr ⟨go1, fun H' => ∃ S2 ρ2 acc' va' ys', Stp ow S0 H0 S2 H' ∧ Same S S2 ∧ Rep Γ.K S2 ow (L2.wipe σ vs) H' ρ2 ∧ H' L = some (.lst va') ∧ S2 L = none ∧ Dens Γ.K S2 acc' va' ∧ fLoop vs g T (ds.drop (i + 1)) ρ2 = .ok ys' ρe ∧ acc' ++ ys' = acc ++ ys, fun H' hN => ⟨ds.length - (i + 1), by omega, rfl, hlt, hN⟩, fun x H' hy => ?_⟩
    obtain ⟨S2, g2, dx⟩ := go2 x H' hy
    have r2 := r1.grow g2
    have q2 := q1.trans g2.stp
    have hL2 : H' L = some (.lst va1) := g2.hh _ _ hL1
    have nS2 : S2 L = none := by
      cases z : S2 L with
      | none => rfl
      | some o =>
        have := g2.new L (by rw [z]; exact fun z => nomatch z) nS1
        rw [hL1] at this; cases this
    rw [List.drop_eq_getElem_cons hlt] at htot
    unfold fLoop at htot
    refine sg S2 ow _ H' ρ1 _ x _ r2 dx ?_
    cases eg : g ds[i] ρ1 with
    | none => simp only [eg] at htot; cases htot
    | some ρ2 =>
      simp only [eg] at htot
      intro ow' σ' r3 l3 a3 b3 c3
      have oeq : ow' = ow := by
        funext j
        by_cases hj : j ∈ ws
        · have h1 : ow j = [] := vsOk_ow rep cv (hw j hj)
          have h2 : ow' j = [] := List.eq_nil_iff_forall_not_mem.mpr fun p hp => by
            have := b3 j p hp
            rw [h1] at this; cases this
          rw [h1, h2]
        · exact (a3 j hj).2
      subst oeq
      have hwp : L2.wipe σ' vs = L2.wipe (L2.wipe σ vs) vs := wipe_same l3 fun j hj => (a3 j fun z => hj (hw j z)).1
      have hww : L2.wipe (L2.wipe σ vs) vs = L2.wipe σ vs := wipe_same (by rw [wipe_length]) fun j hj => wipe_out hj
      rw [hww] at hwp
      refine ⟨hwp, ?_⟩
      cases eT : T ρ2 with
      | stuck => rw [eT] at htot; cases htot
      | err x ρ3 => rw [eT] at htot; cases htot
      | ok zs ρ3 =>
        rw [eT] at htot
        dsimp only at htot
        cases eL : fLoop vs g T (ds.drop (i + 1)) (wipeR ρ3 vs) with
        | stuck => rw [eL] at htot; cases htot
        | err x ρ4 => rw [eL] at htot; cases htot
        | ok ys2 ρ4 =>
          rw [eL] at htot
          cases htot
          have hlen : acc1.length + zs.length ≤ sizeLine := by
            have := congrArg List.length hsum
            simp only [List.length_append] at this
            omega
          refine sB S0 H0 S2 ow' σ' H' ρ2 acc1 va1 zs ρ3 _ q2 hL0 r3 hL2 nS2 nO (Dens.mono g2.ss _ _ da1) eT hlen fun S' H'' va' s' q' r' hL' nS' da' => ?_
          refine ⟨S', wipeR ρ3 vs, acc1 ++ zs, va', ys2, q', (ss1.trans g2.ss).trans s', ?_, hL', nS', da', eL, by rw [List.append_assoc]; exact hsum⟩
          · have := r'.wipe (vsOk_back rep cv r')
            rw [hwp] at this
            exact this
  · have e : i = ds.length := by omega
    subst e
    refine .inl ⟨stop (Nat.le_refl _), ?_⟩
    rw [List.drop_length] at htot
    cases htot
    rw [List.append_nil] at hsum
    subst hsum
    exact hF S1 H1 va1 q1 r1 ss1 hL1 nS1 da1
/-- the second clause -/
def tTwo (t : M Bool) (fi1 : M (List D)) (vs1 : List Nat) (g1 : D → Rho → Option Rho) (T1 : M (List D)) : M (List D) := fun ρ => match t ρ with
  | .ok true ρ2 => (match fi1 ρ2 with
    | .ok ds ρ3 => if vsOk ρ3 vs1 = true then (match fLoop vs1 g1 T1 ds (wipeR ρ3 vs1) with
      | .ok ys ρ4 => .ok ys (restR ρ3 ρ4 vs1)
      | _ => .stuck) else .stuck
    | _ => .stuck)
  | .ok false ρ2 => .ok [] ρ2
  | _ => .stuck
def bTwo (tt : TT) (wi1 : TI) (g1 : TG) (vs1 : List Nat) (B1 : L2.St → Hp → (Hp → Prop) → Prop) : L2.St → Hp → (Hp → Prop) → Prop := fun σ2 H2 Nx => tt σ2 H2 fun b H3 =>
    if b = true then wi1 σ2 H3 fun J1 H4 => ∃ W1 : Nat → Nat → Hp → Prop, (∃ m, W1 0 m H4) ∧ ∀ j k H, W1 j k H →
      (J1.stop j H ∧ Nx H) ∨ (J1.go j H ∧ ∃ Nx1 : Hp → Prop, (∀ H', Nx1 H' → ∃ k', k' < k ∧ W1 (j + 1) k' H') ∧ ∀ x H', J1.yld j H x H' → g1 x (L2.wipe σ2 vs1) H' fun σ3 H5 => L2.wipe σ3 vs1 = L2.wipe σ2 vs1 ∧ B1 σ3 H5 Nx1)
    else Nx H3
theorem two_turn {wi1 : TI} {fi1 : M (List D)} {g1 : TG} {gd1 : D → Rho → Option Rho} {ws1 vs1 : List Nat} {B1 : L2.St → Hp → (Hp → Prop) → Prop} {T1 : M (List D)} (st : SimT Γ tt t) (si : SimI Γ wi1 fi1) (sg : SimG Γ g1 ws1 gd1) (hw : ∀ j ∈ ws1, j ∈ vs1) (sB : SimB Γ L B1 T1) :
    SimB Γ L (bTwo tt wi1 g1 vs1 B1) (tTwo t fi1 vs1 gd1 T1) := by
  intro S0 H0 S ow σ H ρ acc va zs ρ' Nx q0 hL0 rep hL nS nO da eT hl hN
  have keep : ∀ {S' H' : Hp}, Stp ow S H S' H' → H' L = some (.lst va) ∧ S' L = none := fun {S' H'} q => by
    refine ⟨q.fr L _ hL nO, ?_⟩
    cases z : S' L with
    | none => rfl
    | some o =>
      have := q.new L (by rw [z]; exact fun z => nomatch z) nS
      rw [hL] at this; cases this
  unfold tTwo at eT
  refine st S ow σ H ρ _ rep ?_
  cases et : t ρ with
  | stuck => rw [et] at eT; cases eT
  | err x ρ2 => rw [et] at eT; cases eT
  | ok b ρ2 =>
    rw [et] at eT
    intro S3 H3 q3 r3
    obtain ⟨k1, k2⟩ := keep q3
    cases b with
    | false =>
      rw [if_neg Bool.false_ne_true]
      cases eT
      exact hN S3 H3 va q3.ss (q0.trans q3) r3 k1 k2 (by rw [List.append_nil]; exact Dens.mono q3.ss _ _ da)
    | true =>
      rw [if_pos rfl]
      dsimp only at eT
      refine si S3 ow σ H3 ρ2 _ r3 ?_
      cases ei : fi1 ρ2 with
      | stuck => rw [ei] at eT; cases eT
      | err x ρ3 => rw [ei] at eT; cases eT
      | ok ds ρ3 =>
        rw [ei] at eT
        dsimp only at eT
        intro S4 H4 q4 r4 hz J1 hJ
        have q5 := q3.trans q4
        obtain ⟨k3, k4⟩ := keep q5
        by_cases cv : vsOk ρ3 vs1 = true
        · rw [if_pos cv] at eT
          cases eL : fLoop vs1 gd1 T1 ds (wipeR ρ3 vs1) with
          | stuck => rw [eL] at eT; cases eT
          | err x ρ4 => rw [eL] at eT; cases eT
          | ok ys ρ4 =>
            rw [eL] at eT
            cases eT
            refine loop_ok (L := L) (S0 := S0) (H0 := H0) (acc := acc) (ys := zs) (va := va) sB sg hw hJ (q0.trans q5) hL0 r4 cv k3 k4 nO (Dens.mono q5.ss _ _ da) eL hl fun S' H' va' q' r' s' hL' nS' da' => ?_
            exact hN S' H' va' (q5.ss.trans s') q' (r4.rest cv s' r') hL' nS' da'
        · rw [if_neg cv] at eT; cases eT
def oComp2 (vs : List Nat) (fi : M (List D)) (g : D → Rho → Option Rho) (T : M (List D)) : M SV := fun ρ => (fi ρ).bind fun ds ρ1 =>
  if vsOk ρ1 vs = true then (match fLoop vs g T ds (wipeR ρ1 vs) with
    | .ok ys ρ2 => if ys.length ≤ sizeLine then .ok (.l ys) (restR ρ1 ρ2 vs) else .stuck
    | _ => .stuck)
  else .stuck
/-- [e for tg in iter if .. for tg1 in iter1 if ..] -/
theorem jo_comp2 {tg iter tg1 iter1 elt : Expr} {pos : Pos} {ifs ifs1 : List Expr} {scope : Scope} {own : List (Str × Nat)} {vs vs1 ws ws1 : List Nat} {fi fi1 : M (List D)} {g g1 : D → Rho → Option Rho} {t t1 : M Bool} {f : M D} (hc : Γ.calm = true) (hN : Γ.N.Nodup) (hi : JI Γ tg iter fi) (ok : BlkOk Γ.N Γ.sc scope own) (hv : own.map (·.2) = vs)
    (hg : JG (Γ.blk scope) tg ws g) (hw : ∀ j ∈ ws, j ∈ vs) (ht : JTs (Γ.blk scope) ifs t) (hi1 : JI (Γ.blk scope) tg1 iter1 fi1) (hg1 : JG (Γ.blk scope) tg1 ws1 g1) (hw1 : ∀ j ∈ ws1, j ∈ vs1) (hv1 : ∀ j ∈ vs1, j ∈ vs) (ht1 : JTs (Γ.blk scope) ifs1 t1) (he : JE (Γ.blk scope) elt f)
    (hs : ∀ env x, foldedSetIterable iter env x = pure x := by intro _ _; rfl) (hs1 : ∀ env x, foldedSetIterable iter1 env x = pure x := by intro _ _; rfl) :
    JO Γ (.ListComp elt [⟨tg, iter, ifs, 0⟩, ⟨tg1, iter1, ifs1, 0⟩] scope pos) (oComp2 vs fi g (tTwo t fi1 vs1 g1 (tOne t1 f))) := by
  obtain ⟨wi, pi, si⟩ := hi
  obtain ⟨tg', pg, sg⟩ := hg
  obtain ⟨tt, pt, st⟩ := ht
  obtain ⟨wi1, pi1, si1⟩ := hi1
  obtain ⟨tg1', pg1, sg1⟩ := hg1
  obtain ⟨tt1, pt1, st1⟩ := ht1
  obtain ⟨te, pe, se⟩ := he
  refine ⟨tLc2 wi tg' tt wi1 tg1' tt1 te (own.map (·.2)) vs1, fun X hX => pe_lc2 (calm_of hX hc) (by rw [hX.N]; exact hN) (pi X hX) (by rw [hX.N, hX.sc]; exact ok) (fun i hi => by rw [hv]; exact hv1 i hi) (fun s H C cl fp => pg _ (hX.blk scope s H C cl fp)) (fun s H C cl fp => pt _ (hX.blk scope s H C cl fp)) (fun s H C cl fp => pi1 _ (hX.blk scope s H C cl fp)) (fun s H C cl fp => pg1 _ (hX.blk scope s H C cl fp)) (fun s H C cl fp => pt1 _ (hX.blk scope s H C cl fp)) (fun s H C cl fp => pe _ (hX.blk scope s H C cl fp)) (hs _) hs1, fun S ow σ H ρ Q rep h => ?_⟩
  rw [hv]
  unfold oComp2 at h
  refine si S ow σ H ρ _ rep (h.bind.imp' fun ds S0 H0 ρ0 st0 r0 h0 hz J hJ L nL => ?_)
  by_cases cv : vsOk ρ0 vs = true
  · rw [if_pos cv] at h0
    cases etot : fLoop vs g (tTwo t fi1 vs1 g1 (tOne t1 f)) ds (wipeR ρ0 vs) with
    | stuck => rw [etot] at h0; exact h0.elim
    | err x ρe => rw [etot] at h0; exact h0.elim
    | ok ys ρe =>
      rw [etot] at h0
      dsimp only at h0
      by_cases hy : ys.length ≤ sizeLine
      · rw [if_pos hy] at h0
        have nO : ∀ i, L ∉ ow i := fun i hi => r0.al i L hi nL
        have nS0 := r0.sub.free nL
        refine loop_ok (Γ := Γ.blk scope) (L := L) (B := bTwo tt wi1 tg1' vs1 (bOne L tt1 te)) (S0 := S0) (H0 := H0) (acc := []) (ys := ys) (va := []) (two_turn st si1 sg1 hw1 (one_turn st1 se)) sg hw hJ ((Grow.refl r0.sub).stp.out nL) nL (r0.out nS0 nO) cv upd_same nS0 nO rfl etot (by simpa using hy) fun S' H' va' q' r' s' hL' nS' da' => ?_
        refine h0 S' H' q' (r0.rest cv s' r') (.ref L) [L] ⟨L, va', rfl, rfl, hL', hy, da'⟩ fun p hp => ?_
        have : p = L := List.mem_singleton.mp hp
        subst this
        refine ⟨nS', ?_, nO⟩
        cases z : H p with
        | none => rfl
        | some o => exact absurd nL (st0.dom p (by rw [z]; exact fun z => nomatch z))
      · rw [if_neg hy] at h0; exact h0.elim
  · rw [if_neg cv] at h0; exact h0.elim
end
end DL

/-! The data layer, part 11: the module's constants, texts. -/
namespace DL
open PySem PySem.Spec PyProof.Rows L2

section
variable {Γ : Ctx} {x : Str} {pos : Pos}
theorem je_globI {n : Int} (hm : ∃ t, Γ.mg x = some (.int n t)) (hg : Γ.G x := by rfl) (hd : (x == ("__debug__" : Str)) = false := by decide) : JE Γ (.Name x pos) (eC (.int n)) := by
  obtain ⟨t, hm⟩ := hm
  exact ⟨_, fun X hX => pe_glob (v := .int n) (by show X.env.scope.names.lookup x = _; rw [hX.sc]; exact hg) (by rw [hX.mg]; exact hm) ⟨t, rfl⟩ hd, sim_c fun _ => rfl⟩
theorem je_globS {z : Str} (hm : ∃ t, Γ.mg x = some (.str z t)) (h : PyData.strOk z = true := by decide +kernel) (hz : z.length ≤ sizeLine := by decide +kernel) (hg : Γ.G x := by rfl) (hd : (x == ("__debug__" : Str)) = false := by decide) : JE Γ (.Name x pos) (eC (.str z)) := by
  obtain ⟨t, hm⟩ := hm
  exact ⟨_, fun X hX => pe_glob (v := .str z) (by show X.env.scope.names.lookup x = _; rw [hX.sc]; exact hg) (by rw [hX.mg]; exact hm) ⟨t, rfl⟩ hd, sim_c fun _ => ⟨rfl, h, hz⟩⟩
end

/-! ### texts -/
def cpOk (s : Str) : Prop := ∀ c ∈ s.cps.toList, c < 0x110000
theorem cpOk_iff {s : Str} : PyData.strOk s = true ↔ cpOk s := by
  have e : PyData.strOk s = s.cps.all fun x => decide (x < 0x110000) := rfl
  rw [e, Array.all_eq_true_iff_forall_mem]
  unfold cpOk
  constructor
  · intro h c hc
    simpa using h c (by simpa using hc)
  · intro h c hc
    simpa using h c (by simpa using hc)
theorem cpOk_app {a b : Str} (ha : cpOk a) (hb : cpOk b) : cpOk (a ++ b) := by
  intro c hc
  have e : (a ++ b).cps.toList = a.cps.toList ++ b.cps.toList := by
    show (a.cps ++ b.cps).toList = _
    simp
  rw [e] at hc
  rcases List.mem_append.mp hc with h | h
  · exact ha c h
  · exact hb c h
theorem cpOk_sub {a : Str} (ha : cpOk a) (i j : Nat) : cpOk (Builtin.Str.strSub a i j) := by
  intro c hc
  have e : (Builtin.Str.strSub a i j).cps.toList = (a.cps.toList.drop i).take (j - i) := by
    show (a.cps.extract i j).toList = _
    simp [List.extract_eq_take_drop, List.take_drop]
  rw [e] at hc
  exact ha c (List.mem_of_mem_drop (List.mem_of_mem_take hc))
theorem cpOk_join {a : Str} (ha : cpOk a) : ∀ {xs : List Str}, (∀ x ∈ xs, cpOk x) → cpOk (Str.join a xs)
  | [], _ => by intro c hc; cases hc
  | [x], h => h x List.mem_cons_self
  | x :: y :: r, h => by
    show cpOk (x ++ a ++ Str.join a (y :: r))
    exact cpOk_app (cpOk_app (h x List.mem_cons_self) ha) (cpOk_join ha fun z hz => h z (List.mem_cons_of_mem _ hz))
theorem cpOk_glued {a : Str} {xs : List Str} (ha : cpOk a) (h : ∀ x ∈ xs, cpOk x) : cpOk (Builtin.Str.glued a xs) := by
  rw [StrLaws.glued_eq_join]
  exact cpOk_join ha h
theorem cpOk_parts {a : Str} (ha : cpOk a) (cuts : List Nat) (w : Nat) : ∀ x ∈ Builtin.Str.partsBetween a cuts w, cpOk x := by
  intro x hx
  unfold Builtin.Str.partsBetween at hx
  obtain ⟨p, _, rfl⟩ := List.mem_map.mp hx
  exact cpOk_sub ha _ _
theorem cpOk_split {a b : Str} (ha : cpOk a) : ∀ x ∈ Txt.split a b, cpOk x := by
  intro x hx
  unfold Txt.split at hx
  split at hx
  · rw [List.mem_singleton.mp hx]; exact ha
  · split at hx
    · rw [List.mem_singleton.mp hx]; exact ha
    · exact cpOk_parts ha _ _ x hx
theorem strs_den {K : PySem.W.Frag} {S : Hp} : ∀ {xs : List Str}, (∀ x ∈ xs, sOk x) → Dens K S (xs.map PyData.str) (xs.map V.str)
  | [], _ => rfl
  | x :: xs, h => ⟨_, _, rfl, ⟨rfl, h x List.mem_cons_self⟩, strs_den fun y hy => h y (List.mem_cons_of_mem _ hy)⟩
def strsOf : List D → Option (List Str)
  | [] => some []
  | .str s :: r => (strsOf r).map (s :: ·)
  | _ => none
theorem strsOf_map : ∀ ns : List Str, strsOf (ns.map PyData.str) = some ns
  | [] => rfl
  | n :: ns => by simp [strsOf, strsOf_map ns]
theorem strsOf_vs {K : PySem.W.Frag} {S : Hp} : ∀ {ds : List D} {ns : List Str} {vs : List V}, strsOf ds = some ns → Dens K S ds vs → vs = ns.map V.str ∧ ∀ x ∈ ns, sOk x
  | [], ns, vs, h, r => by
    cases r
    have : ns = [] := by simpa [strsOf] using h.symm
    subst this
    exact ⟨rfl, fun x hx => by cases hx⟩
  | d :: ds, ns, vs, h, r => by
    cases d with
    | str i =>
      unfold strsOf at h
      cases e : strsOf ds with
      | none => rw [e] at h; cases h
      | some ms =>
        rw [e] at h
        have : i :: ms = ns := by simpa using h
        subst this
        obtain ⟨v, t, e1, dv, dr⟩ := r
        obtain ⟨rfl, hi⟩ := dv
        obtain ⟨h1, h2⟩ := strsOf_vs e dr
        subst e1
        refine ⟨by rw [h1]; rfl, fun x hx => ?_⟩
        rcases List.mem_cons.mp hx with h | h
        · rw [h]; exact hi
        · exact h2 x h
    | _ => simp [strsOf] at h
/-- a text's method: the text, then the arguments -/
def TOpOk (Γ : Ctx) (r : V → List V → Hp → VK → Prop) (g : Str → List D → Option D) : Prop := ∀ (S H : Hp) (a : Str) (ds : List D) (vs : List V) (Q : VK), Same S H → sOk a → Dens Γ.K S ds vs → PostV Γ S H (g a ds) Q → r (.str a) vs H Q
def eMethT (g : Str → List D → Option D) (fo : M D) (fa : M (List D)) : M D := fun ρ => (fo ρ).bind fun o ρ1 => match o with
  | .str a => (fa ρ1).bind fun ds ρ2 => ofOpt (g a ds) ρ2
  | _ => .stuck
section
variable {Γ : Ctx} {o e : Expr} {es : List Expr} {fo f : M D} {fa : M (List D)} {apos cpos : Pos} {name : Str} {id : String} {r : V → List V → Hp → VK → Prop} {g : Str → List D → Option D}
theorem sim_methT {to : TE} {ta : TA} (hr : TOpOk Γ r g) (so : Sim Γ to fo) (sa : SimA Γ ta fa) : Sim Γ (tBM Γ.K "str" r to ta) (eMethT g fo fa) := fun S ow σ H ρ Q rep h => by
  refine so S ow σ H ρ _ rep (h.bind.imp fun d S1 H1 ρ1 s1 f1 r1 h1 v dv => ?_)
  cases d with
  | str a =>
    obtain ⟨rfl, ha⟩ := dv
    exact ⟨rfl, sa S1 ow σ H1 ρ1 _ r1 (h1.bind.imp fun ds S2 H2 ρ2 s2 f2 r2 h2 vs dvs => hr S2 H2 a ds vs Q r2.sub ha dvs (.of h2 r2))⟩
  | _ => exact h1.elim
theorem je_methT (pa : PlainAttrs "str") (slot : Slot "str" name id) (hty : typeOf (.builtin id) = pure (.type "method_descriptor")) (hm : ∀ X, Γ.At X → MtR X id r) (hr : TOpOk Γ r g) (ho : JE Γ o fo) (ha : JA Γ (e :: es) fa)
    (hbase : ∀ env, attributeBase o name env (eval o env) = eval o env := by intro _; rfl)
    (hfew : ∀ env, ((backTo cpos (starEach (e :: es) env)).all (fun x => !x.1) && (backToKw cpos (keywordEach [] env)).all (fun x => x.1.isSome)
      && decide ((e :: es).length + ([] : List Keyword).length + (if ([] : List Keyword).isEmpty then 0 else 1) < 30)) = true := by intro _; rfl)
    (hline : (apos.endLine == cpos.line) = true := by rfl) (hs : ∀ env, starEach (e :: es) env = (false, eval e env) :: starEach es env := by intro _; rfl) (hplain : ∀ env, (backTo cpos (starEach es env)).any (·.1) = false := by intro _; rfl) :
    JE Γ (.Call (.Attribute o name apos) (e :: es) [] cpos) (eMethT g fo fa) := by
  obtain ⟨to, po, so⟩ := ho
  obtain ⟨⟨ta, pta, sa⟩, _⟩ := ha
  exact ⟨_, fun X hX => by rw [← hX.K]; exact pe_bm pa slot hty (hm X hX) (po X hX) (pta X hX) (hbase _) (hfew _) hline (hs _) (hplain _), sim_methT hr so sa⟩
def gSplit : Str → List D → Option D := fun a ds => match ds with
  | [.str b] => if (b.length == 0) = false ∧ a.length + 2 ≤ sizeLine then some (.list ((Txt.split a b).map PyData.str)) else none
  | _ => none
theorem parts_len (a : Str) (cuts : List Nat) (w : Nat) : ∀ x ∈ Builtin.Str.partsBetween a cuts w, x.length ≤ a.length := by
  intro x hx
  unfold Builtin.Str.partsBetween at hx
  obtain ⟨p, _, rfl⟩ := List.mem_map.mp hx
  show (a.cps.extract _ _).size ≤ a.cps.size
  rw [Array.size_extract]
  omega
theorem split_len {a b : Str} : ∀ x ∈ Txt.split a b, x.length ≤ a.length := by
  intro x hx
  unfold Txt.split at hx
  split at hx
  · rw [List.mem_singleton.mp hx]; exact Nat.le_refl _
  · split at hx
    · rw [List.mem_singleton.mp hx]; exact Nat.le_refl _
    · exact parts_len a _ _ x hx
theorem split_ok : TOpOk Γ (fun x xs H Q => ∃ a b, x = .str a ∧ xs = [.str b] ∧ (b.length == 0) = false ∧ a.length + 2 ≤ sizeLine ∧ rNewStrs (Txt.split a b) H Q) gSplit := by
  intro S H a ds vs Q s ha dv h
  match ds, dv, h with
  | [.str b], ⟨v, t, e1, dy, dt⟩, h =>
    cases dt
    subst e1
    obtain ⟨rfl, hb⟩ := dy
    unfold gSplit at h
    dsimp only at h
    by_cases c : (b.length == 0) = false ∧ a.length + 2 ≤ sizeLine
    · rw [if_pos c] at h
      refine ⟨a, b, rfl, rfl, c.1, c.2, fun p n => h.lst s (strs_den fun x hx => ⟨cpOk_iff.mpr (cpOk_split (cpOk_iff.mp ha.1) x hx), Nat.le_trans (split_len x hx) ha.2⟩) ?_ n⟩
      rw [List.length_map]
      exact Nat.le_trans (PyProof.Rows.split_le a b) c.2
    · rw [if_neg c] at h; exact h.elim
theorem je_split (ho : JE Γ o fo) (ha : JE Γ e f) (hbase : ∀ env, attributeBase o "split" env (eval o env) = eval o env := by intro _; rfl)
    (hfew : ∀ env, ((backTo cpos (starEach [e] env)).all (fun x => !x.1) && (backToKw cpos (keywordEach [] env)).all (fun x => x.1.isSome)
      && decide ([e].length + ([] : List Keyword).length + (if ([] : List Keyword).isEmpty then 0 else 1) < 30)) = true := by intro _; rfl)
    (hline : (apos.endLine == cpos.line) = true := by rfl) (hs : ∀ env, starEach [e] env = (false, eval e env) :: starEach [] env := by intro _; rfl) :
    JE Γ (.Call (.Attribute o "split" apos) [e] [] cpos) (eMethT gSplit fo (aCons f aNil)) :=
  je_methT PySem.F.plainAttrs_str PySem.F.slot_str_split PySem.F.type_str_split (fun X hX => mt_split) split_ok ho (ja_cons ha ja_nil hs) hbase hfew hline hs (fun _ => rfl)
def gSIndex : Str → List D → Option D := fun a ds => match ds with
  | [.str b] => (match Builtin.Str.occurrences a b 0 a.length 1 with
    | i :: _ => some (.int (i : Nat))
    | [] => none)
  | _ => none
theorem sindex_ok : TOpOk Γ (fun x xs H Q => ∃ a b i rest, x = .str a ∧ xs = [.str b] ∧ Builtin.Str.occurrences a b 0 a.length 1 = i :: rest ∧ Q (.int (i : Nat)) H) gSIndex := by
  intro S H a ds vs Q s ha dv h
  match ds, dv, h with
  | [.str b], ⟨v, t, e1, dy, dt⟩, h =>
    cases dt
    subst e1
    obtain ⟨rfl, hb⟩ := dy
    unfold gSIndex at h
    dsimp only at h
    cases e : Builtin.Str.occurrences a b 0 a.length 1 with
    | nil => rw [e] at h; exact h.elim
    | cons i r => rw [e] at h; exact ⟨a, b, i, r, rfl, rfl, e, h.now s rfl⟩
theorem je_sindex (ho : JE Γ o fo) (ha : JE Γ e f) (hbase : ∀ env, attributeBase o "index" env (eval o env) = eval o env := by intro _; rfl)
    (hfew : ∀ env, ((backTo cpos (starEach [e] env)).all (fun x => !x.1) && (backToKw cpos (keywordEach [] env)).all (fun x => x.1.isSome)
      && decide ([e].length + ([] : List Keyword).length + (if ([] : List Keyword).isEmpty then 0 else 1) < 30)) = true := by intro _; rfl)
    (hline : (apos.endLine == cpos.line) = true := by rfl) (hs : ∀ env, starEach [e] env = (false, eval e env) :: starEach [] env := by intro _; rfl) :
    JE Γ (.Call (.Attribute o "index" apos) [e] [] cpos) (eMethT gSIndex fo (aCons f aNil)) :=
  je_methT PySem.F.plainAttrs_str PySem.F.slot_str_index PySem.F.type_str_index (fun X hX => mt_sindex) sindex_ok ho (ja_cons ha ja_nil hs) hbase hfew hline hs (fun _ => rfl)
/-- a.join(e), e a list or a tuple of texts, as it stands -/
def joinD (a : Str) : D → Option D := fun d => match d with
  | .list ds => (match strsOf ds with
    | some ys => if (ys.map (·.length)).sum + ys.length * a.length ≤ 16777216 then some (.str (Txt.join a ys)) else none
    | none => none)
  | .tuple ds => (match strsOf ds with
    | some ys => if (ys.map (·.length)).sum + ys.length * a.length ≤ 16777216 then some (.str (Txt.join a ys)) else none
    | none => none)
  | _ => none
def eJoin (fo f : M D) : M D := fun ρ => (fo ρ).bind fun o ρ1 => match o with
  | .str a => (f ρ1).bind fun d ρ2 => ofOpt (joinD a d) ρ2
  | _ => .stuck
theorem join_fits {a : Str} {ys : List Str} (ha : sOk a) (hy : ∀ x ∈ ys, sOk x) (z : (ys.map (·.length)).sum + ys.length * a.length ≤ 16777216) : sOk (Txt.join a ys) := by
  have e : Txt.join a ys = Str.join a ys := StrLaws.glued_eq_join ..
  refine ⟨?_, ?_⟩
  · rw [e]
    exact cpOk_iff.mpr (cpOk_join (cpOk_iff.mp ha.1) fun x hx => cpOk_iff.mp (hy x hx).1)
  · rw [e]
    refine Nat.le_trans (StrLaws.join_length_le a ys) (Nat.le_trans z ?_)
    rw [sizeLine_eq]
    decide
theorem je_join (ho : JE Γ o fo) (ha : JV Γ e f) (hbase : ∀ env, attributeBase o "join" env (eval o env) = eval o env := by intro _; rfl)
    (hfew : ∀ env, ((backTo cpos (starEach [e] env)).all (fun x => !x.1) && (backToKw cpos (keywordEach [] env)).all (fun x => x.1.isSome)
      && decide ([e].length + ([] : List Keyword).length + (if ([] : List Keyword).isEmpty then 0 else 1) < 30)) = true := by intro _; rfl)
    (hline : (apos.endLine == cpos.line) = true := by rfl) (hs : ∀ env, starEach [e] env = (false, eval e env) :: starEach [] env := by intro _; rfl) :
    JE Γ (.Call (.Attribute o "join" apos) [e] [] cpos) (eJoin fo f) := by
  obtain ⟨to, po, so⟩ := ho
  obtain ⟨ta, pta, sa⟩ := ha
  refine ⟨_, fun X hX => pe_bm PySem.F.plainAttrs_str PySem.F.slot_str_join PySem.F.type_str_join mt_join (po X hX) (pa_cons (pta X hX) pa_nil (hs _)) (hbase _) (hfew _) hline (hs _) rfl |> fun q => by rw [hX.K] at q; exact q, fun S ow σ H ρ Q rep h => ?_⟩
  refine so S ow σ H ρ _ rep (h.bind.imp fun d S1 H1 ρ1 s1 f1 r1 h1 v dv => ?_)
  cases d with
  | str a =>
    obtain ⟨rfl, ha⟩ := dv
    refine ⟨rfl, sa S1 ow σ H1 ρ1 _ r1 (h1.bind.imp fun y S2 H2 ρ2 s2 f2 r2 h2 u du => ?_)⟩
    have h3 := PostV.of h2 r2
    cases y with
    | list ds =>
      obtain ⟨p, vs, rfl, hp, z, dvs⟩ := du
      unfold joinD at h3
      dsimp only at h3
      cases es : strsOf ds with
      | none => rw [es] at h3; exact h3.elim
      | some ys =>
        rw [es] at h3
        dsimp only at h3
        obtain ⟨hv, hok⟩ := strsOf_vs es dvs
        subst hv
        by_cases c : (ys.map (·.length)).sum + ys.length * a.length ≤ 16777216
        · rw [if_pos c] at h3
          exact ⟨a, p, ys, rfl, rfl, .inl hp, c, h3.now r2.sub ⟨rfl, join_fits ha hok c⟩⟩
        · rw [if_neg c] at h3; exact h3.elim
    | tuple ds =>
      obtain ⟨p, vs, rfl, hp, z, dvs⟩ := du
      unfold joinD at h3
      dsimp only at h3
      cases es : strsOf ds with
      | none => rw [es] at h3; exact h3.elim
      | some ys =>
        rw [es] at h3
        dsimp only at h3
        obtain ⟨hv, hok⟩ := strsOf_vs es dvs
        subst hv
        by_cases c : (ys.map (·.length)).sum + ys.length * a.length ≤ 16777216
        · rw [if_pos c] at h3
          exact ⟨a, p, ys, rfl, rfl, .inr hp, c, h3.now r2.sub ⟨rfl, join_fits ha hok c⟩⟩
        · rw [if_neg c] at h3; exact h3.elim
    | _ => exact h3.elim
  | _ => exact h1.elim
end
end DL

/-! The data layer, part 12: calls by keywords, try, isinstance of an error, replace. -/
namespace DL
open PySem PySem.Spec PyProof.Rows L2

/-! ### f(x = e, ..), all by name, in the parameters' order -/
structure KwB (K : PySem.W.Frag) (fd : FuncData) (ps : List Str) : Prop where
  to : ∀ (s : Shared) (ws : List Value), ws.length = ps.length → BindsTo s fd ⟨[], ps.zip ws⟩ (ps.zip ws)
theorem FunD.kwb {K : PySem.W.Frag} {x qual : Str} {params : Arguments} {body : List Stmt} {scope : Scope} {f : Addr} {fd : FuncData} {ps : List Str} (F : FunD K x qual params body scope [] [] f fd)
    (h : ∀ (kV doc pm : Value) (an : Option Addr) (cdv ct : Value) (us : List Value), us.length = ps.length → bindArgs (PySem.W.fnOf x qual params body scope .none kV doc pm an cdv ct) ⟨[], ps.zip us⟩ = pure (ps.zip us)) : KwB K fd ps := by
  obtain ⟨oc, od, dV, kV, doc, pm, an, cdv, ct, osl, rfl, lk, hcd, hD, hK⟩ := F.ex
  rcases hD with ⟨_, rfl⟩ | ⟨e, _⟩
  · exact ⟨fun s ws hl => .of_eq (h kV doc pm an cdv ct ws hl)⟩
  · exact absurd rfl e
structure FnK (P : Program) (w : World) (K : PySem.W.Frag) (mg : Str → Option Value) (base : Heap) (k : Nat) (x : Str) (ps : List Str) (F : F0) : Prop where
  ex : ∃ f fd, FnOk P w K mg base (L2.CX P w) k f fd ps (sp0 K mg ps.length F) ∧ mg x = some (.ref f) ∧ PySem.W.keepIn K (.ref f) = true ∧ KwB K fd ps
theorem FnK.mono {P w K mg base k x ps F} (h : FnK P w K mg base k x ps F) {k' : Nat} (hk : k ≤ k') : FnK P w K mg base k' x ps F := by
  obtain ⟨f, fd, a, b⟩ := h
  exact ⟨f, fd, a.mono hk, b⟩
section
variable {P : Program} {w : World} {K : PySem.W.Frag} {mg : Str → Option Value} {base : Heap} {k : Nat} {x : Str} {ps N : List Str} {g : G} {qual : Str} {params : Arguments} {body : List Stmt} {scope : Scope} {f : Addr} {fd : FuncData}
theorem fnk_ok (F : FunD K x qual params body scope [] [] f fd) (gm : mg x = some (.ref f)) (hb : KwB K fd ps) (S : FnScope N ps scope) (hj : ∀ E : XK, JSs (gam P w K mg base N scope k [] E) body g) : FnK P w K mg base (k + 1) x ps (fn0 N.length g) := by
  refine ⟨f, fd, F.ok S (fun vs H Q E h => h.1) (fun cdv A outer s H vs Q E hr h => ?_), gm, F.kp, hb⟩
  obtain ⟨hn, S0, ds, hs, dv, hq⟩ := h
  obtain ⟨ts, pj, sj⟩ := hj E
  refine ⟨ts, pj _ (gam_at hr), sj S0 (fun _ => []) _ H _ _ (rep0 hs dv) ?_⟩
  unfold fn0 at hq
  cases e : g (rho0 N.length (ds.map .d)) with
  | next ρ => rw [e] at hq; exact fun S' H' ow' σ' st r => hq S' H' .non [] (sto_grow st r.sub) ⟨rfl, rfl⟩ (fun p hp => by cases hp)
  | ret y ρ =>
    rw [e] at hq
    intro S' H' ow' σ' v os st r _ ok own
    refine hq S' H' v os (sto_grow st r.sub) ok fun p hp => ⟨(own p hp).1, ?_⟩
    rcases (own p hp).2 with q | ⟨i, _, q⟩
    · exact q
    · cases q
  | err y ρ => rw [e] at hq; exact fun S' H' ow' σ' C st r c => hq S' H' C (sto_grow st r.sub) c
  | brk ρ => rw [e] at hq; exact hq.elim
  | cnt ρ => rw [e] at hq; exact hq.elim
  | stuck => rw [e] at hq; exact hq.elim
end
structure JK (Γ : Ctx) (kws : List Keyword) (f : M (List D)) : Prop where
  ex : ∃ te, (∀ X, Γ.At X → PK X kws te) ∧ SimA Γ te f
  len : ∀ ρ ds ρ', f ρ = .ok ds ρ' → ds.length = kws.length
section
variable {Γ : Ctx} {e : Expr} {kws : List Keyword} {f : M D} {g fa : M (List D)} {pos p kpos : Pos} {x : Str} {ps : List Str} {F : F0} {nm : Option Str}
theorem jk_nil : JK Γ [] aNil := ⟨⟨_, fun _ _ => pk_nil, fun S ow σ H ρ Q rep h => h.here rep (.refl rep.sub) [] rfl⟩, fun ρ ds ρ' h => by cases h; rfl⟩
theorem jk_cons (ha : JE Γ e f) (hb : JK Γ kws g) : JK Γ (⟨nm, e, kpos⟩ :: kws) (aCons f g) := by
  obtain ⟨ta, pa, sa⟩ := ha
  obtain ⟨⟨tb, pb, sb⟩, lb⟩ := hb
  exact ⟨⟨_, fun X hX => pk_cons (pa X hX) (pb X hX), sim_cons sa sb⟩, acons_len lb⟩
theorem pe_kw0 {X : Cx} {CX : CXT} {k : Nat} {f : Addr} {fd : FuncData} {sp : Sp} {E : L2.St → XK} {tk : TA} (F : FnOk X.prog X.w X.K X.mg X.base CX k f fd ps sp) (hr : Room k X.A) (hg : L2.Gl X x) (hm : X.mg x = some (.ref f)) (hk : PySem.W.keepIn X.K (.ref f) = true) (hb : KwB X.K fd ps) (hx : ∀ σ, PassesAt CX X σ (E σ))
    (hkw : PK X kws tk) (hall : (backToKw pos (keywordEach kws X.env)).all (·.1.isSome) = true) (hks : (backToKw pos (keywordEach kws X.env)).filterMap (·.1) = ps)
    (hpl : ((backTo pos (starEach [] X.env)).any (·.1) || (backToKw pos (keywordEach kws X.env)).any (·.1.isNone)) = false) (hdb : (x == ("__debug__" : Str)) = false := by decide) : PE X (.Call (.Name x p) [] kws pos) (fun σ H Q => tk σ H fun zs H2 => sp zs H2 Q (E σ)) := by
  refine ⟨fun pins s σ H Q I h => ?_⟩
  refine wpAny_Call_Name_kw (ld_glob I hg hm ?_ hdb)
  refine PySem.W.callWith_KW0 (h₀ := X.base) I.ok.mod.kin hk hall (thn (hkw.run pos pins s σ H _ I h) fun ws s2 ⟨zs, H2, I2, rz, q2⟩ => ⟨I2.kIn, ?_⟩) hpl
  rw [hks]
  have hl : ws.length = ps.length := by rw [← rz.length]; exact F.len _ _ _ _ q2
  refine wpAny_call (codeAny_mono (F.run X.A X.stack s2 H2 ⟨[], ps.zip ws⟩ ws zs Q (E σ) hr I2.env0 (hb.to s2 ws hl) rz q2) fun r s' hq => ?_)
  cases r with
  | error e => exact hx σ pins H2 s2 e s' I2 hq
  | ok fl =>
    cases fl with
    | ret u => exact I2.after hq
    | next => exact False.elim hq
    | brk => exact False.elim hq
    | cont => exact False.elim hq
theorem jo_callK {j : Nat} (h : FnK Γ.P Γ.w Γ.K Γ.mg Γ.base j x ps F) (hj : j ≤ Γ.k) (hc : Γ.calm = true) (hl : kws.length = ps.length) (ha : JK Γ kws fa) (hg : Γ.G x := by rfl) (hdb : (x == ("__debug__" : Str)) = false := by decide)
    (hall : ∀ env, (backToKw pos (keywordEach kws env)).all (·.1.isSome) = true := by intro _; rfl) (hks : ∀ env, (backToKw pos (keywordEach kws env)).filterMap (·.1) = ps := by intro _; rfl)
    (hpl : ∀ env, ((backTo pos (starEach [] env)).any (·.1) || (backToKw pos (keywordEach kws env)).any (·.1.isNone)) = false := by intro _; rfl) :
    JO Γ (.Call (.Name x p) [] kws pos) (oCall F fa) := by
  obtain ⟨f, fd, G, gm, gk, gb⟩ := h.mono hj
  obtain ⟨⟨ta, pa, sa⟩, la⟩ := ha
  refine ⟨fun σ H Q => ta σ H fun zs H2 => sp0 Γ.K Γ.mg ps.length F zs H2 Q (WE Γ.W σ), fun X hX => ?_, fun S ow σ H ρ Q rep h => sa S ow σ H ρ _ rep ?_⟩
  · have hr := hX.room hc
    exact pe_kw0 (X := X) (CX := L2.CX Γ.P Γ.w) (E := WE Γ.W) (x := x) (p := p) (pos := pos) (sp := sp0 Γ.K Γ.mg ps.length F) (by rw [hX.P, hX.w, hX.K, hX.mg, hX.base]; exact G) hr (by show X.env.scope.names.lookup x = _; rw [hX.sc]; exact hg) (by rw [hX.mg]; exact gm) (by rw [hX.K]; exact gk) (by rw [hX.K]; exact gb) (fun σ => by rw [← hX.P, ← hX.w]; exact passAt hX.tk σ) (pa X hX) (hall _) (hks _) (hpl _) hdb
  · unfold oCall at h
    cases ef : fa ρ with
    | stuck => rw [ef] at h; exact h
    | err x ρ1 => rw [ef] at h; exact h
    | ok ds ρ1 =>
      rw [ef] at h
      exact fun S1 H1 st r1 vs dv => sim_ocall st r1 dv (by rw [← dv.len, ← hl]; exact la ρ ds ρ1 ef) h
end

/-! ### try -/
/-- of the module's error x, asked whether it is one of class y: T x y -/
structure ExT (K : PySem.W.Frag) (mg : Str → Option Value) (T : String → String → Bool) (xs ys : List String) : Prop where
  at' : ∀ x ∈ xs, ∀ C, mg (Str.ofString x) = some (.ref C) → ExcC K C ∧ ∀ y ∈ ys, ∃ D, mg (Str.ofString y) = some (.ref D) ∧ PySem.W.exmOne K (.ref C) (.ref D) = some (T x y) ∧ PySem.W.kitOne K (.ref C) (.ref D) = some (T x y)
/-- an expression of an except suite, that asks for the error's class alone -/
structure JX (Γ : Ctx) (T : String → String → Bool) (xs ys : List String) (i : Nat) (e : Expr) (f : String → Option D) : Prop where
  ex : ∃ te : Addr → Addr → TE, (∀ X, Γ.At X → ∀ (a C : Addr) (oe : Obj) (pn : List (Addr × Obj)), Zc (.ref C) none oe → (∃ vs, oe.data = .fields vs) → (∃ x ∈ xs, Γ.mg (Str.ofString x) = some (.ref C)) → PE (X.suite a ((a, oe) :: pn)) e (te a C)) ∧
    ∀ x ∈ xs, ∀ C a σ H Q d, Γ.mg (Str.ofString x) = some (.ref C) → σ[i]? = some (some (.ref a)) → f x = some d → (∀ v, (∀ S, Den Γ.K S d v) → Q v H) → te a C σ H Q
section
variable {Γ : Ctx} {T : String → String → Bool} {xs ys : List String} {i : Nat} {e a b c : Expr} {f fa fb fc : String → Option D} {pos : Pos}
theorem jx_c {k : Const} {j : Nat} {d : D} {v : V} (h : ∀ X : Cx, PE X (.Constant k j pos) (tC v)) (hd : ∀ S, Den Γ.K S d v) : JX Γ T xs ys i (.Constant k j pos) (fun _ => some d) :=
  ⟨fun _ _ => tC v, fun X hX a C oe pn hz hf _ => h _, fun x hx C a σ H Q d' hC hs e q => by cases e; exact q v hd⟩
theorem jx_non {j : Nat} : JX Γ T xs ys i (.Constant .none j pos) (fun _ => some .none) := jx_c (v := .non) (fun _ => pe_non) fun _ => rfl
theorem jx_bl {k : Bool} {j : Nat} : JX Γ T xs ys i (.Constant (.bool k) j pos) (fun _ => some (.bool k)) := jx_c (v := .bl k) (fun _ => pe_bl) fun _ => rfl
theorem jx_int {k : Int} {j : Nat} : JX Γ T xs ys i (.Constant (.int k) j pos) (fun _ => some (.int k)) := jx_c (v := .int k) (fun _ => pe_int) fun _ => rfl
theorem jx_str {z : Str} {j : Nat} (h : PyData.strOk z = true := by decide +kernel) (hz : z.length ≤ sizeLine := by decide +kernel) : JX Γ T xs ys i (.Constant (.str z) j pos) (fun _ => some (.str z)) := jx_c (v := .str z) (fun _ => pe_str) fun _ => ⟨rfl, h, hz⟩
theorem jx_if (hc : JX Γ T xs ys i c fc) (ha : JX Γ T xs ys i a fa) (hb : JX Γ T xs ys i b fb) (he : ∀ (env : Env) (whole : Sem Value), isTrue c env whole = (do let v ← whole; standAt c.pos; holding [v] (truthy v)) := by intro _ _; rfl) :
    JX Γ T xs ys i (.IfExp c a b pos) (fun x => (fc x).bind fun d => match d with | .bool k => if k = true then fa x else fb x | _ => none) := by
  obtain ⟨tc, pc, sc⟩ := hc
  obtain ⟨ta, pa, sa⟩ := ha
  obtain ⟨tb, pb, sb⟩ := hb
  refine ⟨fun p C => tIf (tB (tc p C)) (ta p C) (tb p C), fun X hX p C oe pn hz hf hx => pe_ifExp (pt_val (pc X hX p C oe pn hz hf hx) (he _)) (pa X hX p C oe pn hz hf hx) (pb X hX p C oe pn hz hf hx), fun x hx C p σ H Q d hC hs e q => ?_⟩
  cases ec : fc x with
  | none => rw [ec] at e; cases e
  | some y =>
    rw [ec] at e
    refine sc x hx C p σ H _ y hC hs ec fun v dv => ?_
    cases y with
    | bool k =>
      cases dv (fun _ => none)
      refine ⟨k, rfl, ?_⟩
      cases k with
      | true => exact sa x hx C p σ H Q d hC hs e q
      | false => exact sb x hx C p σ H Q d hC hs e q
    | _ => cases e
/-- isinstance(error, y) -/
theorem jx_is {p p1 p2 : Pos} {nm : Str} (y : String) (hB : Bl Γ.mg) (hT : ExT Γ.K Γ.mg T xs ys) (hy : y ∈ ys := by simp) (hN : Γ.N[i]? = some nm := by rfl) (hv : Vis Γ.sc nm := by first | exact Or.inl rfl | exact Or.inr (Or.inl rfl) | exact Or.inr (Or.inr rfl)) (hd : (nm == ("__debug__" : Str)) = false := by decide)
    (hcd : (nm == ("__classdict__" : Str)) = false := by decide) (hg : Γ.G "isinstance" := by rfl) (hg2 : Γ.G (Str.ofString y) := by rfl) (hd2 : (Str.ofString y == ("__debug__" : Str)) = false := by decide)
    (he : ∀ env, starEach [.Name nm p1, .Name (Str.ofString y) p2] env = [(false, eval (.Name nm p1) env), (false, eval (.Name (Str.ofString y) p2) env)] := by intro _; rfl) :
    JX Γ T xs ys i (.Call (.Name "isinstance" p) [.Name nm p1, .Name (Str.ofString y) p2] [] pos) (fun x => some (.bool (T x y))) := by
  by_cases hne : ∃ x ∈ xs, ∃ C, Γ.mg (Str.ofString x) = some (.ref C)
  · obtain ⟨x0, hx0, C0, hC0⟩ := hne
    obtain ⟨D, hD, _⟩ := (hT.at' x0 hx0 C0 hC0).2 y hy
    refine ⟨fun a C => tCB (rIsE Γ.K C a) (tCons (tVar i) (tCons (tC (.ref D)) tNil)), fun X hX a C oe pn hz hf hx => ?_, fun x hx C a σ H Q d hC hs e q => ?_⟩
    · obtain ⟨x, hx, hC⟩ := hx
      have E := (hT.at' x hx C hC).1
      rw [← hX.K] at E ⊢
      exact pe_callB (X := X.suite a ((a, oe) :: pn)) (call_isE E hz hf) (by show X.env.scope.names.lookup _ = _; rw [hX.sc]; exact hg) (by show X.mg _ = _; rw [hX.mg]; exact hB.isinstance) PyProof.Rows.boot_isinstance
        (pa_two (pe_var (by show X.N[i]? = _; rw [hX.N]; exact hN) (by show Vis X.env.scope _; rw [hX.sc]; exact hv) hd hcd) (pe_glob (v := .ref D) (u := .ref D) (by show X.env.scope.names.lookup _ = _; rw [hX.sc]; exact hg2) (by show X.mg _ = _; rw [hX.mg]; exact hD) rfl hd2) (he _) rfl) (by decide) (by decide) (by rw [he]; rfl) (by rfl)
    · cases e
      obtain ⟨D', hD', _, h2⟩ := (hT.at' x hx C hC).2 y hy
      rw [hD] at hD'
      cases hD'
      exact ⟨_, hs, .ref D, .ref D, T x y, rfl, fun u r => r, h2, q _ fun _ => rfl⟩
  · refine ⟨fun _ _ => tC .non, fun X hX a C oe pn hz hf hx => ?_, fun x hx C a σ H Q d hC hs e q => absurd ⟨x, hx, C, hC⟩ hne⟩
    obtain ⟨x, hx, hC⟩ := hx
    exact absurd ⟨x, hx, C, hC⟩ hne
end
/-- a body whose errors are caught: x's class is asked for y -/
def gTryAs (i j : Nat) (bor : List Nat) (T : String → String → Bool) (xs : List String) (y : String) (F : String → Option D) (body : G) : G := fun ρ => match body ρ with
  | .err x ρ' => if x ∈ xs ∧ vsOk ρ' [i] = true ∧ i ∉ bor ∧ i < ρ'.length then (if T x y = true then (match F x with
      | some d => (match setD bor j d (ρ'.set i none) with
        | some ρ2 => .next ρ2
        | none => .stuck)
      | none => .stuck) else .err x ρ') else .stuck
  | r => r
def Ctx.wish (Γ : Ctx) (W : WX) : Ctx := { Γ with W := W }
theorem sto_wish {Γ : Ctx} {W : WX} {ow ow' : Nat → List Addr} {S H S' H' : Hp} (st : Sto (Γ.wish W) ow S H ow' S' H') : Sto Γ ow S H ow' S' H' := ⟨st.ss, st.fr, st.dom, st.own, st.bor, st.new⟩
theorem Rep.unset {K : PySem.W.Frag} {S H : Hp} {ow : Nat → List Addr} {σ : L2.St} {ρ : Rho} {i : Nat} (r : Rep K S ow σ H ρ) (h : vsOk ρ [i] = true) : Rep K S ow (σ.set i none) H (ρ.set i none) := r.wipe h
theorem Rep.forget {K : PySem.W.Frag} {S H : Hp} {ow : Nat → List Addr} {σ : L2.St} {ρ : Rho} {i : Nat} {v : V} (r : Rep K S ow σ H ρ) (h : vsOk ρ [i] = true) : Rep K S ow (σ.set i (some v)) H (ρ.set i none) where
  sub := r.sub
  dis := r.dis
  inj := r.inj
  al := r.al
  len := by rw [List.length_set, List.length_set]; exact r.len
  sl := fun j x e => by
    by_cases z : j = i
    · subst z
      rw [List.getElem?_set] at e
      simp only [if_true] at e
      split at e <;> cases e
    · rw [List.getElem?_set_ne (Ne.symm z)] at e ⊢
      exact r.sl j x e
  no := fun j e => by
    by_cases z : j = i
    · subst z; exact vsOk_ow r h (List.mem_singleton_self _)
    · exact r.no j fun x q => e x (by rw [List.getElem?_set_ne (Ne.symm z)]; exact q)
section
variable {Γ : Ctx} {T : String → String → Bool} {xs ys : List String} {i j : Nat} {e : Expr} {f : String → Option D} {body : List Stmt} {g : G} {nm nm2 : Str} {np pos pos' p2 ps : Pos}
theorem js_tryAs (y : String) {D : Addr} (hc : Γ.calm = true) (hT : ExT Γ.K Γ.mg T xs ys) (hy : y ∈ ys) (hD : Γ.mg (Str.ofString y) = some (.ref D)) (nd : Γ.N.Nodup) (hb : ∀ W, JSs (Γ.wish W) body g) (hx : JX Γ T xs ys i e f) (hij : i ≠ j)
    (hN : Γ.N[i]? = some nm := by rfl) (hln : Γ.sc.names.lookup nm = some .local := by rfl) (hg : Γ.G (Str.ofString y) := by rfl) (hdb : (Str.ofString y == ("__debug__" : Str)) = false := by decide)
    (hj : Γ.N[j]? = some nm2 := by rfl) (hxl : Loc Γ.sc nm2 := by first | exact Or.inl rfl | exact Or.inr rfl) (hfl : Γ.fn nm2 = true ∨ Γ.sc.names.lookup nm2 = some .local := by first | exact Or.inl rfl | exact Or.inr rfl)
    (hs : ∀ env, swapsWithSole [.Name nm2 p2] e ps.line env = pure false := by intro _; rfl) (hw : ∀ env, swappedStores [.Name nm2 p2] e env = pure none := by intro _; rfl) (h1 : ∀ env, (assignEach [.Name nm2 p2] env).map (·.2) = [assign (.Name nm2 p2) env] := by intro _; rfl) :
    JS Γ (.Try body [.ExceptHandler (some (.Name (Str.ofString y) np)) (some nm) [.Assign [.Name nm2 p2] e ps] pos'] [] [] pos) (gTryAs i j Γ.bor T xs y f g) := by
  obtain ⟨te, pe, se⟩ := hx
  let tb : WX → TS := fun W => Classical.choose (hb W).ex
  have htb : ∀ W, (∀ X, (Γ.wish W).AtS X → PSs X body (tb W)) ∧ SimS (Γ.wish W) (tb W) g := fun W => Classical.choose_spec (hb W).ex
  let ok : Addr → Value → Option Addr → Prop := fun a cls d => ∃ C, cls = .ref C ∧ d = none ∧ ∃ x ∈ xs, Γ.mg (Str.ofString x) = some (.ref C)
  let ts : Addr → Value → Option Addr → TS := fun a cls d D σ H => ok a cls d ∧ match cls with
    | .ref C => tAsg (te a C) (gName j) D σ H
    | _ => False
  refine ⟨fun D' σ H => tb (wAs Γ.K (.ref D) i ts Γ.W D') D' σ H, fun X hX => ?_, fun S ow σ H ρ D' r h => ?_⟩
  · rw [← hX.K]
    refine ps_try_as hX.stk hX.frm (by rw [hX.N]; exact nd) (by rw [hX.N]; exact hN) (by show X.env.scope.names.lookup nm = _; rw [hX.sc]; exact hln) ⟨by show X.env.scope.names.lookup _ = _; rw [hX.sc]; exact hg, hdb, .inl (by rw [hX.mg]; exact hD)⟩ hX.tk (fun W pn xe tk pa => ?_) (fun a oe cls d pn hz hf => ?_)
    · exact (htb W).1 (X.tr pn xe) ⟨⟨hX.P, hX.w, hX.K, hX.mg, hX.base, hX.N, hX.sc, hX.fn, hX.calm, hX.room, hX.un, tk⟩, hX.stk, hX.frm, pa⟩
    · refine pss_one ⟨fun pins s σ H D' I h => ?_⟩
      obtain ⟨⟨C, rfl, rfl, hxC⟩, h⟩ := h
      exact (ps_asg (X := X.suite a ((a, oe) :: pn)) (pe X hX.toAt a C oe pn hz hf hxC) (pg_name (by show X.N.Nodup; rw [hX.N]; exact nd) (by show X.N[j]? = _; rw [hX.N]; exact hj) (by show Loc X.env.scope _; rw [hX.sc]; exact hxl) (by show X.fn _ = true ∨ _; rw [hX.fn]; show _ ∨ X.env.scope.names.lookup _ = _; rw [hX.sc]; exact hfl)) (hs _) (hw _) (h1 _)).run pins s σ H D' I h
  · refine (htb _).2 S ow σ H ρ D' r ?_
    unfold gTryAs at h
    cases eb : g ρ with
    | err x ρ' =>
      rw [eb] at h
      dsimp only at h
      intro S' H' ow' σ' C st r' hC
      by_cases c : x ∈ xs ∧ vsOk ρ' [i] = true ∧ i ∉ Γ.bor ∧ i < ρ'.length
      · rw [if_pos c] at h
        obtain ⟨cx, cv, cb, cl⟩ := c
        have st' : Sto Γ ow S H ow' S' H' := ⟨st.ss, st.fr, st.dom, st.own, st.bor, st.new⟩
        obtain ⟨E, ask⟩ := hT.at' x cx C hC
        obtain ⟨D2, hD2, h3, h4⟩ := ask y hy
        rw [hD] at hD2
        cases hD2
        refine ⟨T x y, h3, fun hyes a ha => ?_, fun hno => ?_⟩
        · rw [if_pos hyes] at h
          refine ⟨⟨C, rfl, rfl, x, cx, hC⟩, ?_⟩
          cases ef : f x with
          | none => rw [ef] at h; exact h.elim
          | some d =>
            rw [ef] at h
            dsimp only at h
            refine se x cx C a _ H' _ d hC (List.getElem?_set_self (by rw [← r'.len]; exact cl)) ef fun v dv => ?_
            have r1 := r'.forget (v := .ref a) cv
            have q := sim_gname (Γ := Γ) (i := j) S' ow' _ H' _ d v (fun σ2 H2 => D'.nx (σ2.set i none) H2) r1 (dv _)
            refine q ?_
            cases es : setD Γ.bor j d (ρ'.set i none) with
            | none => rw [es] at h; exact h.elim
            | some ρ2 =>
              rw [es] at h
              intro ow2 σ2 r2 l2 a2 b2 c2
              have cv2 : vsOk ρ2 [i] = true := by
                refine List.all_eq_true.mpr fun k hk => ?_
                rw [List.mem_singleton.mp hk]
                unfold setD at es
                split at es
                · cases es
                  rw [List.getElem?_set_ne (Ne.symm hij), List.getElem?_set_self cl]
                · cases es
              have r3 := r2.unset cv2
              have e3 : ρ2.set i none = ρ2 := by
                unfold setD at es
                split at es
                · cases es
                  rw [List.set_comm _ _ (Ne.symm hij), List.set_set]
                · cases es
              rw [e3] at r3
              exact h S' H' ow2 _ (st'.trans ⟨Same.refl _, .of_same (Same.refl _), fun _ q => q, fun k p hp => .inl (b2 k p hp), c2, fun p a b => absurd b a⟩) r3
        · rw [if_neg (by rw [hno]; exact Bool.false_ne_true)] at h
          exact h S' H' ow' σ' C st' r' hC
      · rw [if_neg c] at h; exact h.elim
    | next ρ' => rw [eb] at h; exact fun S' H' ow' σ' st r => h S' H' ow' σ' (sto_wish st) r
    | ret x ρ' => rw [eb] at h; exact fun S' H' ow' σ' v os st r => h S' H' ow' σ' v os (sto_wish st) r
    | brk ρ' => rw [eb] at h; exact fun S' H' ow' σ' st r => h S' H' ow' σ' (sto_wish st) r
    | cnt ρ' => rw [eb] at h; exact fun S' H' ow' σ' st r => h S' H' ow' σ' (sto_wish st) r
    | stuck => rw [eb] at h; exact h
end
end DL

/-! The data layer, part 13: replace (behind a written text), list(..). -/
namespace DL
open PySem PySem.Spec PyProof.Rows L2

instance (s : Str) : Decidable (sOk s) := by unfold sOk; exact inferInstance
structure JAT (Γ : Ctx) (es : List Expr) (f : M (List D)) : Prop where
  ex : ∃ te, (∀ X, Γ.At X → PAT X es te) ∧ SimA Γ te f
  len : ∀ ρ ds ρ', f ρ = .ok ds ρ' → ds.length = es.length
structure JET (Γ : Ctx) (e : Expr) (f : M D) : Prop where
  ex : ∃ te, (∀ X, Γ.At X → PET X e te) ∧ Sim Γ te f
def eReplC (y z : Str) (fo : M D) : M D := fun ρ => (fo ρ).bind fun o ρ1 => match o with
  | .str x => if x.length + (x.length + 1) * z.length ≤ 16777216 ∧ (Txt.replace x y z).length ≤ sizeLine then .ok (.str (Txt.replace x y z)) ρ1 else .stuck
  | _ => .stuck
theorem cpOk_repl {x y z : Str} (hx : cpOk x) (hz : cpOk z) : cpOk (Txt.replace x y z) := by
  unfold Txt.replace
  split
  · exact hx
  · exact cpOk_glued hz (cpOk_parts hx _ _)
section
variable {Γ : Ctx} {o e : Expr} {es : List Expr} {fo f : M D} {g : M (List D)} {y z : Str} {j k : Nat} {c0 c1 apos pos : Pos}
theorem jat_nil : JAT Γ [] aNil := ⟨⟨_, fun _ _ => pat_nil, fun S ow σ H ρ Q rep h => h.here rep (.refl rep.sub) [] rfl⟩, fun ρ ds ρ' h => by cases h; rfl⟩
theorem jat_cons (ha : JE Γ e f) (hb : JAT Γ es g) (hs : ∀ env, starEach (e :: es) env = (false, eval e env) :: starEach es env := by intro _; rfl) : JAT Γ (e :: es) (aCons f g) := by
  obtain ⟨ta, pa, sa⟩ := ha
  obtain ⟨⟨tb, pb, sb⟩, lb⟩ := hb
  exact ⟨⟨_, fun X hX => pat_cons (fun pins s σ H Q _ I q => (pa X hX).run pins s σ H Q I q) (pb X hX) (hs _), sim_cons sa sb⟩, acons_len lb⟩
theorem jat_consT (ha : JET Γ e f) (hb : JAT Γ es g) (hs : ∀ env, starEach (e :: es) env = (false, eval e env) :: starEach es env := by intro _; rfl) : JAT Γ (e :: es) (aCons f g) := by
  obtain ⟨ta, pa, sa⟩ := ha
  obtain ⟨⟨tb, pb, sb⟩, lb⟩ := hb
  exact ⟨⟨_, fun X hX => pat_cons (pa X hX) (pb X hX) (hs _), sim_cons sa sb⟩, acons_len lb⟩
/-- behind a written text there is a token -/
theorem ja_strT (hb : JAT Γ es g) (h : PyData.strOk z = true := by decide +kernel) (hz : z.length ≤ sizeLine := by decide +kernel) (hs : ∀ env, starEach (.Constant (.str z) j pos :: es) env = (false, eval (.Constant (.str z) j pos) env) :: starEach es env := by intro _; rfl) : JA Γ (.Constant (.str z) j pos :: es) (aCons (eC (.str z)) g) := by
  obtain ⟨⟨tb, pb, sb⟩, lb⟩ := hb
  refine ⟨⟨tCons (tC (.str z)) tb, fun X hX => ⟨fun p pins s σ H Q I h => ?_⟩, sim_cons (sim_c fun _ => ⟨rfl, h, hz⟩) sb⟩, acons_len lb⟩
  rw [hs]
  show wpAny _ _ (spliced ((false, eval (.Constant (.str z) j pos) X.env) :: backTo p (starEach es X.env))) _ _ s
  refine Calls.spliced_cons (Calls.Constant_str ?_)
  exact thn (pb X hX p pins _ σ H _ (Nat.succ_pos _) (I.tok _) h) fun us s2 ⟨xs, H2, I2, r2, q2⟩ => ⟨.str z :: xs, H2, I2, .cons ⟨_, rfl⟩ r2, q2⟩
theorem jet_repl (ho : JE Γ o fo) (hz : PyData.strOk z = true := by decide +kernel) (hyz : (y == z) = false := by decide)
    (hst : ∀ env, starEach [.Constant (.str y) j c0, .Constant (.str z) k c1] env = [(false, eval (.Constant (.str y) j c0) env), (false, eval (.Constant (.str z) k c1) env)] := by intro _; rfl)
    (hbase : ∀ env, attributeBase o "replace" env (eval o env) = eval o env := by intro _; rfl) (hline : (apos.endLine == pos.line) = true := by rfl) :
    JET Γ (.Call (.Attribute o "replace" apos) [.Constant (.str y) j c0, .Constant (.str z) k c1] [] pos) (eReplC y z fo) := by
  obtain ⟨to, po, so⟩ := ho
  refine ⟨_, fun X hX => CwR.pet_replC (po X hX) hyz (hst _) (hbase _) hline, fun S ow σ H ρ Q rep h => so S ow σ H ρ _ rep (h.bind.imp fun d S1 H1 ρ1 s1 f1 r1 h1 v dv => ?_)⟩
  cases d with
  | str x =>
    obtain ⟨rfl, hx⟩ := dv
    dsimp only at h1
    by_cases c : x.length + (x.length + 1) * z.length ≤ 16777216 ∧ (Txt.replace x y z).length ≤ sizeLine
    · rw [if_pos c] at h1
      exact ⟨x, rfl, c.1, h1.here r1 (.refl r1.sub) _ ⟨rfl, cpOk_iff.mpr (cpOk_repl (cpOk_iff.mp hx.1) (cpOk_iff.mp hz)), c.2⟩⟩
    · rw [if_neg c] at h1; exact h1.elim
  | _ => exact h1.elim
end
/-- list(e) of a list or a tuple -/
def listD : D → Option (List D)
  | .list ds => some ds
  | .tuple ds => some ds
  | _ => none
def oListOf (f : M D) : M SV := fun ρ => (f ρ).bind fun d ρ1 => match listD d with
  | some ds => .ok (.l ds) ρ1
  | none => .stuck
section
variable {Γ : Ctx} {e : Expr} {f : M D} {p pos : Pos}
theorem jo_listOf (hB : Bl Γ.mg) (ha : JV Γ e f) (hg : Γ.G "list" := by rfl) (he : ∀ env, starEach [e] env = [(false, eval e env)] := by intro _; rfl) : JO Γ (.Call (.Name "list" p) [e] [] pos) (oListOf f) := by
  obtain ⟨ta, pa, sa⟩ := ha
  refine ⟨_, fun X hX => pe_callTy (by exact call_list_of (X := X)) (by show X.env.scope.names.lookup _ = _; rw [hX.sc]; exact hg) (by rw [hX.mg]; exact hB.list) PyProof.Rows.boot_list (pa_one (pa X hX) (he _)) (by decide) (by decide) (by rw [he]; rfl) (by rfl) |> fun q => by rw [hX.K] at q; exact q, fun S ow σ H ρ Q rep h => sa S ow σ H ρ _ rep (h.bind.imp fun d S1 H1 ρ1 s1 f1 r1 h1 v dv => ?_)⟩
  cases d with
  | list ds =>
    obtain ⟨p, vs, rfl, hp, z, dvs⟩ := dv
    exact ⟨p, vs, rfl, .inl hp, fun l n => NewL.of h1 r1 f1 rep.al z l vs n dvs⟩
  | tuple ds =>
    obtain ⟨p, vs, rfl, hp, z, dvs⟩ := dv
    exact ⟨p, vs, rfl, .inr hp, fun l n => NewL.of h1 r1 f1 rep.al z l vs n dvs⟩
  | _ => exact h1.elim
end
end DL

/-! The data layer, part 14: defs whose first argument is the script; the law itself. -/
namespace DL
open PySem PySem.Spec PyProof.Rows L2

abbrev Fs := List Int → List D → FR
def sps (K : PySem.W.Frag) (mg : Str → Option Value) (n : Nat) (F : Fs) : Sp := fun vs H Q E => vs.length = n ∧ ∃ S a ns ds vr, vs = .ref a :: vr ∧ Same S H ∧ SqL K S a (ns.map V.int) ∧ ns.length ≤ sizeLine ∧ Dens K S ds vr ∧ (match F ns ds with
  | .ok r => ∀ S' H' v os, Grow S H S' H' → SvOk K S' H' os r v → (∀ p ∈ os, S' p = none ∧ H p = none) → Q v H'
  | .err x => ∀ S' H' C, Grow S H S' H' → mg (Str.ofString x) = some (.ref C) → E (.ref C) none H'
  | .stuck => False)
structure FnS (P : Program) (w : World) (K : PySem.W.Frag) (mg : Str → Option Value) (base : Heap) (k : Nat) (x : Str) (ps : List Str) (F : Fs) : Prop where
  ex : ∃ f fd, FnOk P w K mg base (L2.CX P w) k f fd ps (sps K mg ps.length F) ∧ mg x = some (.ref f) ∧ PySem.W.keepIn K (.ref f) = true ∧ Binds K fd ps []
theorem FnS.mono {P w K mg base k x ps F} (h : FnS P w K mg base k x ps F) {k' : Nat} (hk : k ≤ k') : FnS P w K mg base k' x ps F := by
  obtain ⟨f, fd, a, b⟩ := h
  exact ⟨f, fd, a.mono hk, b⟩
def oCallS (F : Fs) (i : Nat) (fa : M (List D)) : M SV := fun ρ => match ρ[i]? with
  | some (some (.s ns)) => (fa ρ).bind fun ds ρ1 => (match F ns ds with
    | .ok r => .ok r ρ1
    | .err x => .err x ρ1
    | .stuck => .stuck)
  | _ => .stuck
section
variable {Γ : Ctx} {e : Expr} {es : List Expr} {fa : M (List D)} {pos p pn : Pos} {x nm : Str} {ps : List Str} {F : Fs}
theorem jo_callS {j : Nat} (i : Nat) (h : FnS Γ.P Γ.w Γ.K Γ.mg Γ.base j x ps F) (hj : j ≤ Γ.k) (hc : Γ.calm = true) (hl : es.length + 1 = ps.length) (ha : JA Γ es fa) (hN : Γ.N[i]? = some nm := by rfl) (hv : Vis Γ.sc nm := by first | exact Or.inl rfl | exact Or.inr (Or.inl rfl) | exact Or.inr (Or.inr rfl)) (hd : (nm == ("__debug__" : Str)) = false := by decide)
    (hcd : (nm == ("__classdict__" : Str)) = false := by decide) (hg : Γ.G x := by rfl) (hdb : (x == ("__debug__" : Str)) = false := by decide)
    (he : ∀ env, starEach (.Name nm pn :: es) env = (false, eval (.Name nm pn) env) :: starEach es env := by intro _; rfl) (hpl : ∀ env, (backTo pos (starEach es env)).any (·.1) = false := by intro _; rfl) :
    JO Γ (.Call (.Name x p) (.Name nm pn :: es) [] pos) (oCallS F i fa) := by
  obtain ⟨f, fd, G, gm, gk, gb⟩ := h.mono hj
  obtain ⟨⟨ta, pa, sa⟩, la⟩ := ha
  refine ⟨tCallS (sps Γ.K Γ.mg ps.length F) (WE Γ.W) (tCons (tVar i) ta), fun X hX => ?_, fun S ow σ H ρ Q rep h => ?_⟩
  · have hr := hX.room hc
    exact pe_callS (X := X) (CX := L2.CX Γ.P Γ.w) (E := WE Γ.W) (x := x) (p := p) (pos := pos) (sp := sps Γ.K Γ.mg ps.length F) (by rw [hX.P, hX.w, hX.K, hX.mg, hX.base]; exact G) hr (by show X.env.scope.names.lookup x = _; rw [hX.sc]; exact hg) (by rw [hX.mg]; exact gm) (by rw [hX.K]; exact gk) (by rw [hX.K]; exact gb) (fun σ => by rw [← hX.P, ← hX.w]; exact passAt hX.tk σ)
      (pa_cons (pe_slot i hX hN hv hd hcd) (pa X hX) (he _)) hdb (he _) (hpl _)
  · unfold oCallS at h
    split at h
    · rename_i ns e0
      obtain ⟨v, hs, _, a, rfl, hz, hq⟩ := rep.sl i _ e0
      refine ⟨_, hs, sa S ow σ H ρ _ rep ?_⟩
      cases ef : fa ρ with
      | stuck => rw [ef] at h; exact h
      | err x ρ1 => rw [ef] at h; exact h
      | ok ds ρ1 =>
        rw [ef] at h
        intro S1 H1 st r1 vs dv
        simp only [Res.bind_ok] at h
        refine ⟨by show vs.length + 1 = ps.length; rw [← dv.len, la ρ ds ρ1 ef]; exact hl, S1, a, ns, ds, vs, rfl, r1.sub, same_l st.ss hq, hz, dv, ?_⟩
        cases eF : F ns ds with
        | stuck => rw [eF] at h; exact h
        | err z => rw [eF] at h; exact fun S' H' C g c => h S' H' C (st.trans g.stp) (r1.grow g) c
        | ok r =>
          rw [eF] at h
          intro S' H' v os g ok nw
          refine h S' H' (st.trans g.stp) (r1.grow g) v os ok fun q hq => ⟨(nw q hq).1, ?_, fun k hk => r1.al k q hk (nw q hq).2⟩
          cases z : H q with
          | none => rfl
          | some o => exact absurd (nw q hq).2 (st.dom q (by rw [z]; exact fun z => nomatch z))
    · exact h.elim
end
def fns (N : Nat) (g : G) : Fs := fun ns ds => match g (rho0 N (.s ns :: ds.map .d)) with
  | .next _ => .ok (.d .none)
  | .ret x _ => .ok x
  | .err x _ => .err x
  | _ => .stuck
theorem reps {K : PySem.W.Frag} {S H : Hp} {N : List Str} {ns : List Int} {ds : List D} {a : Addr} {vs : List V} (s : Same S H) (hq : SqL K S a (ns.map V.int)) (hz : ns.length ≤ sizeLine) (dv : Dens K S ds vs) : Rep K S (fun _ => []) (L2.start N (.ref a :: vs)) H (rho0 N.length (.s ns :: ds.map .d)) where
  sub := s
  dis := fun i p hp => by cases hp
  inj := fun i j p hp => by cases hp
  al := fun i p hp => by cases hp
  len := by unfold rho0 L2.start; simp [dv.len]
  sl := fun i x e => by
    have e1 := rho0_get e
    cases i with
    | zero =>
      cases e1
      exact ⟨_, start_get (vs := .ref a :: vs) (i := 0) rfl, rfl, a, rfl, hz, hq⟩
    | succ i =>
      have e1' : (ds.map SV.d)[i]? = some x := by simpa using e1
      rw [List.getElem?_map] at e1'
      cases e2 : ds[i]? with
      | none => rw [e2] at e1'; cases e1'
      | some d =>
        rw [e2] at e1'
        cases e1'
        obtain ⟨v, h1, h2⟩ := dv.get e2
        exact ⟨v, start_get (vs := .ref a :: vs) (i := i + 1) (by simpa using h1), rfl, h2⟩
  no := fun _ _ => rfl
section
variable {P : Program} {w : World} {K : PySem.W.Frag} {mg : Str → Option Value} {base : Heap} {k : Nat} {x : Str} {ps N : List Str} {g : G} {qual : Str} {params : Arguments} {body : List Stmt} {scope : Scope} {f : Addr} {fd : FuncData}
theorem fns_ok (F : FunD K x qual params body scope [] [] f fd) (gm : mg x = some (.ref f)) (hb : Binds K fd ps []) (S : FnScope N ps scope) (hj : ∀ E : XK, JSs (gam P w K mg base N scope k [] E) body g) : FnS P w K mg base (k + 1) x ps (fns N.length g) := by
  refine ⟨f, fd, F.ok S (fun vs H Q E h => h.1) (fun cdv A outer s H vs Q E hr h => ?_), gm, F.kp, hb⟩
  obtain ⟨hn, S0, a, ns, ds, vr, rfl, hs, hqs, hz, dv, hq⟩ := h
  obtain ⟨ts, pj, sj⟩ := hj E
  refine ⟨ts, pj _ (gam_at hr), sj S0 (fun _ => []) _ H _ _ (reps hs hqs hz dv) ?_⟩
  unfold fns at hq
  cases e : g (rho0 N.length (.s ns :: ds.map .d)) with
  | next ρ => rw [e] at hq; exact fun S' H' ow' σ' st r => hq S' H' .non [] (sto_grow st r.sub) ⟨rfl, rfl⟩ (fun p hp => by cases hp)
  | ret y ρ =>
    rw [e] at hq
    intro S' H' ow' σ' v os st r _ ok own
    refine hq S' H' v os (sto_grow st r.sub) ok fun p hp => ⟨(own p hp).1, ?_⟩
    rcases (own p hp).2 with q | ⟨i, _, q⟩
    · exact q
    · cases q
  | err y ρ => rw [e] at hq; exact fun S' H' ow' σ' C st r c => hq S' H' C (sto_grow st r.sub) c
  | brk ρ => rw [e] at hq; exact hq.elim
  | cnt ρ => rw [e] at hq; exact hq.elim
  | stuck => rw [e] at hq; exact hq.elim
/-- the law's own promise -/
def spLaw (K : PySem.W.Frag) : Sp := fun vs H Q _ => ∃ (a : Addr) (ns : List Int), vs = [.ref a] ∧ ns.length ≤ 63 ∧ SqL K H a (ns.map V.int) ∧ ∀ H', Q (.bl true) H'
theorem law_ok (F : FunD K x qual params body scope [] [] f fd) (S : FnScope N [y] scope) (hj : ∀ E : XK, JSs (gam P w K mg base N scope k [] E) body g) (hg : ∀ ns : List Int, ns.length ≤ 63 → ∃ ρ, g (rho0 N.length [.s ns]) = .ret (.d (.bool true)) ρ) : FnOk P w K mg base (L2.CX P w) (k + 1) f fd [y] (spLaw K) := by
  refine F.ok S (fun vs H Q E h => ?_) (fun cdv A outer s H vs Q E hr h => ?_)
  · obtain ⟨a, ns, rfl, _⟩ := h; rfl
  · obtain ⟨a, ns, rfl, hl, hq, hQ⟩ := h
    obtain ⟨ts, pj, sj⟩ := hj E
    obtain ⟨ρ, e⟩ := hg ns hl
    refine ⟨ts, pj _ (gam_at hr), sj H (fun _ => []) _ H _ _ (reps (ds := []) (vs := []) (Same.refl H) hq (Nat.le_trans hl (by decide)) rfl) ?_⟩
    have e' : g (rho0 N.length (SV.s ns :: List.map SV.d [])) = .ret (.d (.bool true)) ρ := e
    rw [e']
    intro S' H' ow' σ' v os st r _ ok own
    obtain ⟨_, ok⟩ := ok
    cases ok
    exact hQ H'
end
end DL

/-! The data layer, part 15: a, b, .. = x, y, .. -/
namespace DL
open PySem PySem.Spec PyProof.Rows L2

def SvOks (K : PySem.W.Frag) (S H : Hp) : List (List Addr) → List SV → List V → Prop
  | [], [], vs => vs = []
  | os :: oss, x :: xs, vs => ∃ v r, vs = v :: r ∧ SvOk K S H os x v ∧ SvOks K S H oss xs r
  | _, _, _ => False
def AllNew (S H : Hp) (ow : Nat → List Addr) (oss : List (List Addr)) : Prop := (∀ os ∈ oss, ∀ p ∈ os, S p = none ∧ H p = none ∧ ∀ i, p ∉ ow i) ∧ oss.Pairwise fun a b => ∀ p ∈ a, p ∉ b
def SimAO (Γ : Ctx) (ta : TA) (f : M (List SV)) : Prop := ∀ S ow σ H ρ (Q : List V → Hp → Prop), Rep Γ.K S ow σ H ρ →
  Post Γ ow σ S H (f ρ) (fun xs S' H' _ => ∀ vs oss, SvOks Γ.K S' H' oss xs vs → (∀ os ∈ oss, ∀ p ∈ os, S' p = none ∧ H p = none ∧ ∀ i, p ∉ ow i) → (oss.Pairwise fun a b => ∀ p ∈ a, p ∉ b) → Q vs H') → ta σ H Q
structure JAO (Γ : Ctx) (es : List Expr) (f : M (List SV)) : Prop where
  ex : ∃ te, (∀ X, Γ.At X → PA X es te) ∧ SimAO Γ te f
def oNil : M (List SV) := fun ρ => .ok [] ρ
def oCons (f : M SV) (g : M (List SV)) : M (List SV) := fun ρ => (f ρ).bind fun x ρ1 => (g ρ1).bind fun xs ρ2 => .ok (x :: xs) ρ2
section
variable {Γ : Ctx} {e : Expr} {es : List Expr} {f : M SV} {g : M (List SV)}
theorem jao_nil : JAO Γ [] oNil := ⟨_, fun _ _ => pa_nil, fun S ow σ H ρ Q rep h => h.here rep (.refl rep.sub) [] [] rfl (fun os ho => by cases ho) .nil⟩
theorem jao_cons (ha : JO Γ e f) (hb : JAO Γ es g) (hs : ∀ env, starEach (e :: es) env = (false, eval e env) :: starEach es env := by intro _; rfl) : JAO Γ (e :: es) (oCons f g) := by
  obtain ⟨ta, pa, sa⟩ := ha
  obtain ⟨tb, pb, sb⟩ := hb
  refine ⟨_, fun X hX => pa_cons (pa X hX) (pb X hX) (hs _), fun S ow σ H ρ Q rep h => sa S ow σ H ρ _ rep (h.bind.imp' fun x S1 H1 ρ1 st r1 h1 v os q n => ?_)⟩
  refine sb S1 ow σ H1 ρ1 _ r1 (h1.bind.imp' fun xs S2 H2 ρ2 st2 r2 h2 vs oss q2 n2 pw => ?_)
  have k1 : ∀ p ∈ os, ∀ o, H1 p = some o → H2 p = some o := fun p hp o e => st2.fr p o e (n p hp).2.2
  have q' : SvOk Γ.K S2 H2 os x v := q.mono st2.ss k1
  have dom1 : ∀ p, H1 p = none → H p = none := fun p h => by
    cases e : H p with
    | none => rfl
    | some o => exact absurd h (st.dom p (by rw [e]; exact fun z => nomatch z))
  refine h2.here r2 (.refl r2.sub) (v :: vs) (os :: oss) ⟨v, vs, rfl, q', q2⟩ (fun a ha p hp => ?_) (List.pairwise_cons.mpr ⟨fun b hb p hp hpb => ?_, pw⟩)
  · rcases List.mem_cons.mp ha with e | ha
    · subst e
      refine ⟨?_, (n p hp).2⟩
      cases z : S2 p with
      | none => rfl
      | some o =>
        have := st2.new p (by rw [z]; exact fun z => nomatch z) (n p hp).1
        exact absurd this (q.al p hp)
    · obtain ⟨a1, a2, a3⟩ := n2 a ha p hp
      exact ⟨a1, dom1 p a2, a3⟩
  · exact absurd (n2 b hb p hpb).2.1 (q.al p hp)
end
def storeN (bor : List Nat) : List Nat → List SV → Rho → Option Rho
  | [], [], ρ => some ρ
  | i :: is, x :: xs, ρ => (setO bor i x ρ).bind (storeN bor is xs)
  | _, _, _ => none
def sets : L2.St → List Nat → List V → L2.St
  | σ, i :: is, v :: vs => sets (σ.set i (some v)) is vs
  | σ, _, _ => σ
def gParN (bor : List Nat) (is : List Nat) (f : M (List SV)) : G := fun ρ => (f ρ).go fun xs ρ1 => match storeN bor is xs ρ1 with
  | some ρ2 => .next ρ2
  | none => .stuck
section
variable {Γ : Ctx} {S H : Hp}
theorem storeN_ok : ∀ {is : List Nat} {xs : List SV} {oss : List (List Addr)} {vs : List V} {ow : Nat → List Addr} {σ : L2.St} {ρ ρ' : Rho}, Rep Γ.K S ow σ H ρ → SvOks Γ.K S H oss xs vs → (∀ os ∈ oss, ∀ p ∈ os, S p = none ∧ ∀ i, p ∉ ow i) → (oss.Pairwise fun a b => ∀ p ∈ a, p ∉ b) → storeN Γ.bor is xs ρ = some ρ' →
    ∃ ow', Rep Γ.K S ow' (sets σ is vs) H ρ' ∧ (∀ k p, p ∈ ow' k → p ∈ ow k ∨ ∃ os ∈ oss, p ∈ os) ∧ (∀ k ∈ Γ.bor, ow' k = ow k) ∧ is.length = vs.length
  | [], [], [], vs, ow, σ, ρ, ρ', r, q, n, pw, h => by
    cases q
    cases h
    exact ⟨ow, r, fun k p hp => .inl hp, fun _ _ => rfl, rfl⟩
  | [], [], _ :: _, vs, ow, σ, ρ, ρ', r, q, n, pw, h => q.elim
  | [], _ :: _, _, vs, ow, σ, ρ, ρ', r, q, n, pw, h => by cases h
  | _ :: _, [], _, vs, ow, σ, ρ, ρ', r, q, n, pw, h => by cases h
  | i :: is, x :: xs, [], vs, ow, σ, ρ, ρ', r, q, n, pw, h => q.elim
  | i :: is, x :: xs, os :: oss, vs, ow, σ, ρ, ρ', r, q, n, pw, h => by
    obtain ⟨v, vr, rfl, q1, q2⟩ := q
    unfold storeN setO at h
    by_cases c : i < ρ.length ∧ i ∉ Γ.bor
    · rw [if_pos c] at h
      have r1 := r.set_own q1 (fun p hp => n os List.mem_cons_self p hp) c.1
      obtain ⟨pw1, pw2⟩ := List.pairwise_cons.mp pw
      obtain ⟨ow', h1, h2, h3, h4⟩ := storeN_ok r1 q2 (fun a ha p hp => ⟨(n a (List.mem_cons_of_mem _ ha) p hp).1, fun k hk => by
        by_cases z : k = i
        · rw [if_pos z] at hk; exact pw1 a ha p hk hp
        · rw [if_neg z] at hk; exact (n a (List.mem_cons_of_mem _ ha) p hp).2 k hk⟩) pw2 h
      refine ⟨ow', h1, fun k p hp => ?_, fun k hk => ?_, by rw [List.length_cons, List.length_cons, h4]⟩
      · rcases h2 k p hp with z | ⟨a, ha, z⟩
        · by_cases e : k = i
          · rw [if_pos e] at z; exact .inr ⟨os, List.mem_cons_self, z⟩
          · rw [if_neg e] at z; exact .inl z
        · exact .inr ⟨a, List.mem_cons_of_mem _ ha, z⟩
      · rw [h3 k hk]
        exact if_neg fun e => c.2 (by rw [← e]; exact hk)
    · rw [if_neg c] at h; cases h
theorem sim_par {ta : TA} {f : M (List SV)} {is : List Nat} (sa : SimAO Γ ta f) : SimS Γ (fun D σ H => ta σ H fun vs H1 => vs.length = is.length ∧ D.nx (sets σ is vs) H1) (gParN Γ.bor is f) := fun S ow σ H ρ D r h => by
  refine sa S ow σ H ρ _ r (h.go0 fun xs S1 H1 ρ1 st r1 h1 vs oss q n pw => ?_)
  cases e : storeN Γ.bor is xs ρ1 with
  | none => rw [e] at h1; exact h1.elim
  | some ρ2 =>
    rw [e] at h1
    obtain ⟨ow', a, b, c, d⟩ := storeN_ok r1 q (fun os ho p hp => ⟨(n os ho p hp).1, (n os ho p hp).2.2⟩) pw e
    refine ⟨d.symm, h1 S1 H1 ow' _ ⟨st.ss, st.fr, st.dom, fun k p hp => ?_, c, fun p x y => .inl (st.new p x y)⟩ a⟩
    rcases b k p hp with z | ⟨os, ho, z⟩
    · exact .inl z
    · exact .inr (n os ho p z).2.1
end
section
variable {Γ : Ctx} {pt pos : Pos} {f : M (List SV)}
theorem js_par2 {x y : Str} {px py : Pos} {kt k2 pt2} {a b : Expr} (i j : Nat) (hc : Γ.calm = true) (nd : Γ.N.Nodup) (h : JAO Γ [a, b] f) (hij : i ≠ j := by decide) (hi : Γ.N[i]? = some x := by rfl) (hj : Γ.N[j]? = some y := by rfl)
    (hx : Γ.sc.names.lookup x = some .local := by rfl) (hy : Γ.sc.names.lookup y = some .local := by rfl)
    (hw : ∀ env : Env, env.scope = Γ.sc → swappedStores [.Tuple [.Name x px, .Name y py] kt pt] (.Tuple [a, b] k2 pt2) env = pure (some [x, y]) := by intro env he; simp only [swappedStores, Env.kindOf, Env.blockKind, he]; rfl)
    (hs : ∀ env, swapsWithSole [.Tuple [.Name x px, .Name y py] kt pt] (.Tuple [a, b] k2 pt2) pos.line env = pure false := by intro _; rfl) :
    JS Γ (.Assign [.Tuple [.Name x px, .Name y py] kt pt] (.Tuple [a, b] k2 pt2) pos) (gParN Γ.bor [i, j] f) := by
  obtain ⟨ta, pa, sa⟩ := h
  refine ⟨tPar i j ta, fun X hX => ps_par (calm_of hX.toAt hc) (by rw [hX.N]; exact nd) (by rw [hX.N]; exact hi) (by rw [hX.N]; exact hj) hij (by rw [hX.sc]; exact hx) (by rw [hX.sc]; exact hy) (pa X hX.toAt) (hw _ hX.sc) (hs _), fun S ow σ H ρ D r h => ?_⟩
  refine sa S ow σ H ρ _ r (h.go0 fun xs S1 H1 ρ1 st r1 h1 vs oss q n pw => ?_)
  cases e : storeN Γ.bor [i, j] xs ρ1 with
  | none => rw [e] at h1; exact h1.elim
  | some ρ2 =>
    rw [e] at h1
    obtain ⟨ow', a, b, c, d⟩ := storeN_ok r1 q (fun os ho p hp => ⟨(n os ho p hp).1, (n os ho p hp).2.2⟩) pw e
    match vs, d, a with
    | [u, v], _, a =>
      refine ⟨u, v, rfl, h1 S1 H1 ow' _ ⟨st.ss, st.fr, st.dom, fun k p hp => ?_, c, fun p x y => .inl (st.new p x y)⟩ a⟩
      rcases b k p hp with z | ⟨os, ho, z⟩
      · exact .inl z
      · exact .inr (n os ho p z).2.1
theorem js_par3 {x y z : Str} {px py pz : Pos} {kt k2 pt2} {a b c : Expr} (i j l : Nat) (hc : Γ.calm = true) (nd : Γ.N.Nodup) (h : JAO Γ [a, b, c] f) (hij : i ≠ j := by decide) (hil : i ≠ l := by decide) (hjl : j ≠ l := by decide) (hi : Γ.N[i]? = some x := by rfl) (hj : Γ.N[j]? = some y := by rfl) (hl : Γ.N[l]? = some z := by rfl)
    (hx : Γ.sc.names.lookup x = some .local := by rfl) (hy : Γ.sc.names.lookup y = some .local := by rfl) (hz : Γ.sc.names.lookup z = some .local := by rfl)
    (hw : ∀ env : Env, env.scope = Γ.sc → swappedStores [.Tuple [.Name x px, .Name y py, .Name z pz] kt pt] (.Tuple [a, b, c] k2 pt2) env = pure (some [x, y, z]) := by intro env he; simp only [swappedStores, Env.kindOf, Env.blockKind, he]; rfl)
    (hs : ∀ env, swapsWithSole [.Tuple [.Name x px, .Name y py, .Name z pz] kt pt] (.Tuple [a, b, c] k2 pt2) pos.line env = pure false := by intro _; rfl) :
    JS Γ (.Assign [.Tuple [.Name x px, .Name y py, .Name z pz] kt pt] (.Tuple [a, b, c] k2 pt2) pos) (gParN Γ.bor [i, j, l] f) := by
  obtain ⟨ta, pa, sa⟩ := h
  refine ⟨tPar3 i j l ta, fun X hX => ps_par3 (calm_of hX.toAt hc) (by rw [hX.N]; exact nd) (by rw [hX.N]; exact hi) (by rw [hX.N]; exact hj) (by rw [hX.N]; exact hl) hij hil hjl (by rw [hX.sc]; exact hx) (by rw [hX.sc]; exact hy) (by rw [hX.sc]; exact hz) (pa X hX.toAt) (hw _ hX.sc) (hs _), fun S ow σ H ρ D r h => ?_⟩
  refine sa S ow σ H ρ _ r (h.go0 fun xs S1 H1 ρ1 st r1 h1 vs oss q n pw => ?_)
  cases e : storeN Γ.bor [i, j, l] xs ρ1 with
  | none => rw [e] at h1; exact h1.elim
  | some ρ2 =>
    rw [e] at h1
    obtain ⟨ow', a, b, c, d⟩ := storeN_ok r1 q (fun os ho p hp => ⟨(n os ho p hp).1, (n os ho p hp).2.2⟩) pw e
    match vs, d, a with
    | [u, v, w], _, a =>
      refine ⟨u, v, w, rfl, h1 S1 H1 ow' _ ⟨st.ss, st.fr, st.dom, fun k p hp => ?_, c, fun p x y => .inl (st.new p x y)⟩ a⟩
      rcases b k p hp with z | ⟨os, ho, z⟩
      · exact .inl z
      · exact .inr (n os ho p z).2.1
/-- names alone -/
structure Nms (Γ : Ctx) (es : List Expr) (is : List Nat) : Prop where
  ex : ∀ X, Γ.At X → PGs X es (fun vs σ H Q => vs.length = is.length ∧ Q (sets σ is vs) H)
theorem PGs.imp {X : Cx} {es : List Expr} {t t' : TGs} (h : PGs X es t) (k : ∀ vs σ H Q, t' vs σ H Q → t vs σ H Q) : PGs X es t' := ⟨fun pins s σ H vs us Q I r q => h.run pins s σ H vs us Q I r (k _ _ _ _ q)⟩
theorem nms_nil : Nms Γ [] [] := ⟨fun X hX => PGs.imp pgs_nil fun vs σ H Q h => by
  obtain ⟨h1, h2⟩ := h
  have : vs = [] := List.length_eq_zero_iff.mp h1
  subst this
  exact ⟨rfl, h2⟩⟩
theorem nms_cons {x : Str} {p : Pos} {es : List Expr} {is : List Nat} (i : Nat) (nd : Γ.N.Nodup) (h : Nms Γ es is) (hi : Γ.N[i]? = some x := by rfl) (hx : Loc Γ.sc x := by first | exact Or.inl rfl | exact Or.inr rfl) (hf : Γ.fn x = true ∨ Γ.sc.names.lookup x = some .local := by first | exact Or.inl rfl | exact Or.inr rfl) : Nms Γ (.Name x p :: es) (i :: is) :=
  ⟨fun X hX => PGs.imp (pgs_cons (pg_name (by rw [hX.N]; exact nd) (by rw [hX.N]; exact hi) (by rw [hX.sc]; exact hx) (by rw [hX.fn, hX.sc]; exact hf)) (h.ex X hX)) fun vs σ H Q q => by
    obtain ⟨h1, h2⟩ := q
    match vs, h1, h2 with
    | v :: r, h1, h2 => exact ⟨v, r, rfl, by simpa using h1, h2⟩⟩
theorem js_parT {tgs es : List Expr} {kt k2 pt2} {is : List Nat} {n : Nat} (hc : Γ.calm = true) (h : JAO Γ es f) (hg : Nms Γ tgs is) (hn : is.length = n := by rfl) (hz : n ≤ sizeLine := by decide)
    (hlen : ∀ env, (assignEach tgs env).length = n := by intro _; rfl) (hst : ∀ env, (assignEach tgs env).findIdx? (·.1) = none := by intro _; rfl)
    (hw : ∀ env : Env, env.scope = Γ.sc → swappedStores [.Tuple tgs kt pt] (.Tuple es k2 pt2) env = pure none := by first | (intro _ _; rfl) | (intro env he; simp only [swappedStores, Env.kindOf, Env.blockKind, he]; rfl))
    (hs : ∀ env, swapsWithSole [.Tuple tgs kt pt] (.Tuple es k2 pt2) pos.line env = pure false := by intro _; rfl) (h1 : ∀ env, (assignEach [.Tuple tgs kt pt] env).map (·.2) = [assign (.Tuple tgs kt pt) env] := by intro _; rfl) :
    JS Γ (.Assign [.Tuple tgs kt pt] (.Tuple es k2 pt2) pos) (gParN Γ.bor is f) := by
  obtain ⟨ta, pa, sa⟩ := h
  refine ⟨tAsg (tTup ta) (gTup Γ.K n fun vs σ H Q => vs.length = is.length ∧ Q (sets σ is vs) H), fun X hX => ?_, fun S ow σ H ρ D r h => ?_⟩
  · have q := pg_tup (pos := pt) (k := kt) (calm_of hX.toAt hc) (hg.ex X hX.toAt) (hlen X.env) (hst X.env)
    rw [hX.K] at q
    exact ps_asg (pe_tup (pa X hX.toAt)) q (hs _) (hw _ hX.sc) (h1 _)
  refine sa S ow σ H ρ _ r (h.go0 fun xs S1 H1 ρ1 st r1 h1 vs oss q n' pw => ?_)
  cases e : storeN Γ.bor is xs ρ1 with
  | none => rw [e] at h1; exact h1.elim
  | some ρ2 =>
    rw [e] at h1
    obtain ⟨ow', a, b, c, d⟩ := storeN_ok r1 q (fun os ho p hp => ⟨(n' os ho p hp).1, (n' os ho p hp).2.2⟩) pw e
    refine ⟨by rw [← d, hn]; exact hz, fun p np => ?_⟩
    have nO : ∀ i, p ∉ ow' i := fun i hi => a.al i p hi np
    have nS := r1.sub.free np
    have nH : H p = none := by
      cases e : H p with
      | none => rfl
      | some o => exact absurd np (st.dom p (by rw [e]; exact fun z => nomatch z))
    refine ⟨p, vs, rfl, .of upd_same, by rw [← d, hn], d.symm, ?_⟩
    refine h1 S1 _ ow' _ ⟨st.ss, fun b u e n => ?_, fun q hq => ?_, fun k p hp => ?_, c, fun p x y => .inl (st.new p x y)⟩ (a.out nS nO)
    · have : b ≠ p := fun z => by rw [z, nH] at e; cases e
      rw [upd_ne this]; exact st.fr b u e n
    · by_cases z : q = p
      · rw [z, upd_same]; exact fun z => nomatch z
      · rw [upd_ne z]; exact st.dom q hq
    · rcases b k p hp with z | ⟨os, ho, z⟩
      · exact .inl z
      · exact .inr (n' os ho p z).2.1
end
end DL

/-! The data layer, part 16: small things for the printed texts. -/
namespace DL
open PySem PySem.Spec PyProof.Rows L2
def wF : Nat := 1099511627776
def xIf (c a b : String → Option D) : String → Option D := fun x => (c x).bind fun d => match d with | .bool k => if k = true then a x else b x | _ => none
theorem js_raiseE {Γ : Ctx} {pos : Pos} {m : Str} {j : Nat} {p p2 pos2 : Pos} (x : String) (h : ∃ C, ErrOk Γ.K Γ.mg x C) (hc : Γ.calm = true) (hg : Γ.G (Str.ofString x) := by rfl) (hdb : (Str.ofString x == ("__debug__" : Str)) = false := by decide) :
    JS Γ (.Raise (some (.Call (.Name (Str.ofString x) p) [.Constant (.str m) j p2] [] pos)) none pos2) (gErr x) := by
  obtain ⟨C, h⟩ := h
  exact js_raise x h hc hg hdb
section
variable {P : Program} {w : World} {K : PySem.W.Frag} {mg : Str → Option Value} {base : Heap} {k : Nat} {x : Str} {ps : List Str} {qual : Str} {params : Arguments} {body : List Stmt} {scope : Scope} {f : Addr} {fd : FuncData}
/-- a def that is never called in earnest -/
theorem fn0_stuck (F : FunD K x qual params body scope [] [] f fd) (gm : mg x = some (.ref f)) (hb : Binds K fd ps []) : Fn0 P w K mg base k x ps (fun _ => .stuck) :=
  ⟨f, fd, ⟨fun vs H Q E h => h.1, fun A outer s H args us vs Q E hr e0 hb hv hs => by
    obtain ⟨_, S, ds, _, _, q⟩ := hs
    exact q.elim⟩, gm, F.kp, hb⟩
end
end DL
namespace DL
open PySem PySem.Spec PyProof.Rows L2
/-- BlkOk by looking -/
def blkB (N : List Str) (sc scope : Scope) (own : List (Str × Nat)) : Bool :=
  (match scope.kind with | .function => true | _ => false) && (scope.names.all fun y => decide (scope.names.lookup y.1 = some y.2)) && (own.all fun p => decide (N[p.2]? = some p.1)) &&
  (scope.names.all fun y => !decide (y.2 = .free) || decide (sc.names.lookup y.1 = some .cell) || decide (sc.names.lookup y.1 = some .free)) &&
  (scope.names.all fun y => !(decide (y.2 = .local) || decide (y.2 = .cell)) || decide (y.1 ∈ own.map (·.1)) || decide (y.1 ∉ N))
theorem blk_ok {N : List Str} {sc scope : Scope} {own : List (Str × Nat)} (h : blkB N sc scope own = true) : BlkOk N sc scope own := by
  unfold blkB at h
  simp only [Bool.and_eq_true, List.all_eq_true, decide_eq_true_eq, Bool.or_eq_true, Bool.not_eq_true', decide_eq_false_iff_not] at h
  obtain ⟨⟨⟨⟨h1, h2⟩, h3⟩, h4⟩, h5⟩ := h
  refine ⟨?_, h2, h3, fun y hy e => ?_, fun y hy e => ?_⟩
  · cases hk : scope.kind <;> rw [hk] at h1 <;> first | rfl | cases h1
  · rcases h4 y hy with (z | z) | z
    · exact absurd e z
    · exact .inl z
    · exact .inr z
  · rcases h5 y hy with (z | z) | z
    · rw [Bool.or_eq_false_iff, decide_eq_false_iff_not, decide_eq_false_iff_not] at z
      exact absurd e fun q => q.elim z.1 z.2
    · exact .inl z
    · exact .inr z
end DL
namespace DL
open PySem PySem.Spec PyProof.Rows L2
section
variable {Γ : Ctx} {pos : Pos}
def oDict0 (x : SV) : M SV := fun ρ => .ok x ρ
theorem jo_dict0K : JO Γ (.Dict [] [] pos) (oDict0 (.k [])) := ⟨_, fun X hX => pe_dnewK, fun S ow σ H ρ Q rep h p n => by
  have nO : ∀ i, p ∉ ow i := fun i hi => rep.al i p hi n
  have nS := rep.sub.free n
  refine h S _ ((Grow.refl rep.sub).stp.out n) (rep.out nS nO) (.ref p) [p] ⟨p, [], rfl, rfl, upd_same, Nat.zero_le _, rfl⟩ fun q hq => ?_
  rw [List.mem_singleton.mp hq]
  exact ⟨nS, n, nO⟩⟩
theorem jo_dict0T : JO Γ (.Dict [] [] pos) (oDict0 (.t [])) := ⟨_, fun X hX => pe_dnewT, fun S ow σ H ρ Q rep h p n => by
  have nO : ∀ i, p ∉ ow i := fun i hi => rep.al i p hi n
  have nS := rep.sub.free n
  refine h S _ ((Grow.refl rep.sub).stp.out n) (rep.out nS nO) (.ref p) [p] ⟨p, [], rfl, rfl, upd_same, Nat.zero_le _, rfl⟩ fun q hq => ?_
  rw [List.mem_singleton.mp hq]
  exact ⟨nS, n, nO⟩⟩
end
end DL

/-! The data layer, walking over data: what an outcome must satisfy. -/
namespace DL
open PySem PySem.Spec PyProof.Rows L2

/-- ends well, with Q -/
def Res.wp {α : Type} (r : Res α) (Q : α → Rho → Prop) : Prop := match r with
  | .ok a ρ => Q a ρ
  | _ => False
/-- a statement's outcome: next, handed back, broken off, gone on, raised -/
structure Pst where
  n : Rho → Prop := fun _ => False
  r : SV → Rho → Prop := fun _ _ => False
  b : Rho → Prop := fun _ => False
  c : Rho → Prop := fun _ => False
  x : String → Rho → Prop := fun _ _ => False
def Fl.wp (r : Fl) (P : Pst) : Prop := match r with
  | .next ρ => P.n ρ
  | .ret x ρ => P.r x ρ
  | .brk ρ => P.b ρ
  | .cnt ρ => P.c ρ
  | .err x ρ => P.x x ρ
  | .stuck => False
section
variable {α β : Type} {ρ : Rho} {P : Pst}
@[simp] theorem wp_ok {a : α} {Q : α → Rho → Prop} : (Res.ok a ρ).wp Q ↔ Q a ρ := Iff.rfl
@[simp] theorem wp_err {x : String} {Q : α → Rho → Prop} : (Res.err x ρ : Res α).wp Q ↔ False := Iff.rfl
@[simp] theorem wp_stuck {Q : α → Rho → Prop} : (Res.stuck : Res α).wp Q ↔ False := Iff.rfl
@[simp] theorem fwp_next : (Fl.next ρ).wp P ↔ P.n ρ := Iff.rfl
@[simp] theorem fwp_ret {x : SV} : (Fl.ret x ρ).wp P ↔ P.r x ρ := Iff.rfl
@[simp] theorem fwp_brk : (Fl.brk ρ).wp P ↔ P.b ρ := Iff.rfl
@[simp] theorem fwp_cnt : (Fl.cnt ρ).wp P ↔ P.c ρ := Iff.rfl
@[simp] theorem fwp_err {x : String} : (Fl.err x ρ).wp P ↔ P.x x ρ := Iff.rfl
@[simp] theorem fwp_stuck : (Fl.stuck).wp P ↔ False := Iff.rfl
@[simp] theorem wp_bind {r : Res α} {f : α → M β} {Q : β → Rho → Prop} : (r.bind f).wp Q ↔ r.wp fun a ρ1 => (f a ρ1).wp Q := by cases r <;> exact Iff.rfl
theorem Res.wp.imp {r : Res α} {Q Q' : α → Rho → Prop} (h : r.wp Q) (k : ∀ a ρ, Q a ρ → Q' a ρ) : r.wp Q' := by
  cases r with
  | ok a ρ => exact k _ _ h
  | err x ρ => exact h
  | stuck => exact h
theorem Res.wp.ex {r : Res α} {Q : α → Rho → Prop} (h : r.wp Q) : ∃ a ρ, r = .ok a ρ ∧ Q a ρ := by
  cases r with
  | ok a ρ => exact ⟨a, ρ, rfl, h⟩
  | err x ρ => exact h.elim
  | stuck => exact h.elim
theorem Fl.wp.imp {r : Fl} {P P' : Pst} (h : r.wp P) (kn : ∀ ρ, P.n ρ → P'.n ρ := by exact fun _ h => h) (kr : ∀ x ρ, P.r x ρ → P'.r x ρ := by exact fun _ _ h => h) (kb : ∀ ρ, P.b ρ → P'.b ρ := by exact fun _ h => h) (kc : ∀ ρ, P.c ρ → P'.c ρ := by exact fun _ h => h) (kx : ∀ x ρ, P.x x ρ → P'.x x ρ := by exact fun _ _ h => h) : r.wp P' := by
  cases r with
  | next ρ => exact kn _ h
  | ret x ρ => exact kr _ _ h
  | brk ρ => exact kb _ h
  | cnt ρ => exact kc _ h
  | err x ρ => exact kx _ _ h
  | stuck => exact h
/-- an expression's outcome ahead of a statement, where it raises nothing -/
theorem fwp_go_of {r : Res α} {k : α → G} (h : r.wp fun a ρ1 => (k a ρ1).wp P) : (r.go k).wp P := by
  cases r with
  | ok a ρ => exact h
  | err x ρ => exact h.elim
  | stuck => exact h.elim
@[simp] theorem wp_ofOpt {o : Option α} {Q : α → Rho → Prop} : (ofOpt o ρ).wp Q ↔ ∃ a, o = some a ∧ Q a ρ := by
  cases o with
  | none => exact ⟨fun h => h.elim, fun ⟨a, h, _⟩ => by cases h⟩
  | some a => exact ⟨fun h => ⟨a, rfl, h⟩, fun ⟨b, h, q⟩ => by cases h; exact q⟩
@[simp] theorem wp_var {i : Nat} {Q : D → Rho → Prop} : (eVar i ρ).wp Q ↔ ∃ x, ρ[i]? = some (some (.d x)) ∧ Q x ρ := by
  unfold eVar
  split
  · rename_i x e
    exact ⟨fun h => ⟨x, e, h⟩, fun ⟨y, h, q⟩ => by rw [h] at e; cases e; exact q⟩
  · rename_i e
    exact ⟨fun h => h.elim, fun ⟨y, h, q⟩ => e y h⟩
@[simp] theorem wp_c {d : D} {Q : D → Rho → Prop} : (eC d ρ).wp Q ↔ Q d ρ := Iff.rfl
@[simp] theorem wp_op {g : D → D → Option D} {fa fb : M D} {Q : D → Rho → Prop} : (eOp g fa fb ρ).wp Q ↔ (fa ρ).wp fun a ρ1 => (fb ρ1).wp fun b ρ2 => ∃ d, g a b = some d ∧ Q d ρ2 := by
  unfold eOp; simp only [wp_bind, wp_ofOpt]
@[simp] theorem wp_call2 {g : D → D → Option D} {fa fb : M D} {Q : D → Rho → Prop} : (eCall2 g fa fb ρ).wp Q ↔ (fa ρ).wp fun a ρ1 => (fb ρ1).wp fun b ρ2 => ∃ d, g a b = some d ∧ Q d ρ2 := wp_op
@[simp] theorem wp_call1 {g : D → Option D} {f : M D} {Q : D → Rho → Prop} : (eCall1 g f ρ).wp Q ↔ (f ρ).wp fun a ρ1 => ∃ d, g a = some d ∧ Q d ρ1 := by
  unfold eCall1; simp only [wp_bind, wp_ofOpt]
@[simp] theorem wp_neg {f : M D} {Q : D → Rho → Prop} : (eNeg f ρ).wp Q ↔ (f ρ).wp fun a ρ1 => ∃ i, a = .int i ∧ Q (.int (-i)) ρ1 := by
  unfold eNeg
  simp only [wp_bind, wp_ofOpt]
  constructor
  · intro h
    refine h.imp fun a ρ1 ⟨d, e, q⟩ => ?_
    cases a with
    | int i => cases e; exact ⟨i, rfl, q⟩
    | _ => cases e
  · intro h
    refine h.imp fun a ρ1 ⟨i, e, q⟩ => ?_
    subst e
    exact ⟨_, rfl, q⟩
@[simp] theorem wp_tOfE {f : M D} {Q : Bool → Rho → Prop} : (tOfE f ρ).wp Q ↔ (f ρ).wp fun a ρ1 => ∃ b, a = .bool b ∧ Q b ρ1 := by
  unfold tOfE
  simp only [wp_bind, wp_ofOpt]
  constructor
  · intro h
    refine h.imp fun a ρ1 ⟨d, e, q⟩ => ?_
    cases a with
    | bool i => cases e; exact ⟨_, rfl, q⟩
    | _ => cases e
  · intro h
    refine h.imp fun a ρ1 ⟨i, e, q⟩ => ?_
    subst e
    exact ⟨_, rfl, q⟩
@[simp] theorem wp_tAnd {f g : M Bool} {Q : Bool → Rho → Prop} : (tAndM f g ρ).wp Q ↔ (f ρ).wp fun b ρ1 => (b = true → (g ρ1).wp Q) ∧ (b = false → Q false ρ1) := by
  unfold tAndM
  simp only [wp_bind]
  constructor <;> intro h <;> refine h.imp fun b ρ1 q => ?_ <;> cases b <;> simpa using q
@[simp] theorem wp_tOr {f g : M Bool} {Q : Bool → Rho → Prop} : (tOrM f g ρ).wp Q ↔ (f ρ).wp fun b ρ1 => (b = true → Q true ρ1) ∧ (b = false → (g ρ1).wp Q) := by
  unfold tOrM
  simp only [wp_bind]
  constructor <;> intro h <;> refine h.imp fun b ρ1 q => ?_ <;> cases b <;> simpa using q
@[simp] theorem wp_tNot {f : M Bool} {Q : Bool → Rho → Prop} : (tNotM f ρ).wp Q ↔ (f ρ).wp fun b ρ1 => Q (!b) ρ1 := by
  unfold tNotM; simp only [wp_bind, wp_ok]
@[simp] theorem wp_tYes {Q : Bool → Rho → Prop} : (tYesM ρ).wp Q ↔ Q true ρ := Iff.rfl
@[simp] theorem wp_if {t : M Bool} {f g : M D} {Q : D → Rho → Prop} : (eIfM t f g ρ).wp Q ↔ (t ρ).wp fun b ρ1 => (b = true → (f ρ1).wp Q) ∧ (b = false → (g ρ1).wp Q) := by
  unfold eIfM
  simp only [wp_bind]
  constructor <;> intro h <;> refine h.imp fun b ρ1 q => ?_ <;> cases b <;> simpa using q
@[simp] theorem wp_and {f g : M D} {Q : D → Rho → Prop} : (eAndM f g ρ).wp Q ↔ (f ρ).wp fun a ρ1 => ∃ b, a = .bool b ∧ (b = true → (g ρ1).wp Q) ∧ (b = false → Q (.bool false) ρ1) := by
  unfold eAndM
  simp only [wp_bind]
  constructor
  · intro h
    refine h.imp fun a ρ1 q => ?_
    cases a with
    | bool b => cases b <;> exact ⟨_, rfl, by simpa using q⟩
    | _ => exact (wp_stuck.mp q).elim
  · intro h
    refine h.imp fun a ρ1 ⟨b, e, q1, q2⟩ => ?_
    subst e
    cases b
    · exact q2 rfl
    · exact q1 rfl
@[simp] theorem wp_or {f g : M D} {Q : D → Rho → Prop} : (eOrM f g ρ).wp Q ↔ (f ρ).wp fun a ρ1 => ∃ b, a = .bool b ∧ (b = true → Q (.bool true) ρ1) ∧ (b = false → (g ρ1).wp Q) := by
  unfold eOrM
  simp only [wp_bind]
  constructor
  · intro h
    refine h.imp fun a ρ1 q => ?_
    cases a with
    | bool b => cases b <;> exact ⟨_, rfl, by simpa using q⟩
    | _ => exact (wp_stuck.mp q).elim
  · intro h
    refine h.imp fun a ρ1 ⟨b, e, q1, q2⟩ => ?_
    subst e
    cases b
    · exact q2 rfl
    · exact q1 rfl
@[simp] theorem wp_not {f : M D} {Q : D → Rho → Prop} : (eNotM f ρ).wp Q ↔ (f ρ).wp fun a ρ1 => ∃ b, a = .bool b ∧ Q (.bool !b) ρ1 := by
  unfold eNotM
  simp only [wp_bind]
  constructor
  · intro h
    refine h.imp fun a ρ1 q => ?_
    cases a with
    | bool b => exact ⟨_, rfl, q⟩
    | _ => exact (wp_stuck.mp q).elim
  · intro h
    refine h.imp fun a ρ1 ⟨b, e, q⟩ => ?_
    subst e
    exact q
@[simp] theorem wp_isi {c : String} {f : M D} {Q : D → Rho → Prop} : (eIsi c f ρ).wp Q ↔ (f ρ).wp fun a ρ1 => Q (.bool (isTy (tyD a) c)) ρ1 := by
  unfold eIsi; simp only [wp_bind, wp_ok]
@[simp] theorem wp_isi2 {c c' : String} {f : M D} {Q : D → Rho → Prop} : (eIsi2 c c' f ρ).wp Q ↔ (f ρ).wp fun a ρ1 => Q (.bool (isTy (tyD a) c || isTy (tyD a) c')) ρ1 := by
  unfold eIsi2; simp only [wp_bind, wp_ok]
@[simp] theorem wp_slot {i : Nat} {Q : D → Rho → Prop} : (eSlot i ρ).wp Q ↔ ∃ x d, ρ[i]? = some (some x) ∧ x.view = some d ∧ Q d ρ := by
  unfold eSlot
  split
  · rename_i x e
    rw [wp_ofOpt]
    exact ⟨fun ⟨d, a, b⟩ => ⟨x, d, e, a, b⟩, fun ⟨y, d, h, a, b⟩ => by rw [h] at e; cases e; exact ⟨d, a, b⟩⟩
  · rename_i e
    exact ⟨fun h => h.elim, fun ⟨y, d, h, _⟩ => e y h⟩
@[simp] theorem wp_opS {g : D → D → Option D} {i : Nat} {fb : M D} {Q : D → Rho → Prop} : (eOpS g i fb ρ).wp Q ↔ (∃ x, ρ[i]? = some (some x)) ∧ (fb ρ).wp fun b ρ1 => (eSlot i ρ1).wp fun a ρ2 => ∃ d, g a b = some d ∧ Q d ρ2 := by
  unfold eOpS
  split
  · rename_i x e
    simp only [wp_bind, wp_ofOpt]
    exact ⟨fun h => ⟨⟨x, e⟩, h⟩, fun h => h.2⟩
  · rename_i e
    exact ⟨fun h => h.elim, fun h => by obtain ⟨⟨y, h⟩, _⟩ := h; exact e y h⟩
@[simp] theorem wp_frz {f : M SV} {Q : D → Rho → Prop} : (eFrz f ρ).wp Q ↔ (f ρ).wp fun x ρ1 => ∃ d, x.frz = some d ∧ Q d ρ1 := by
  unfold eFrz; simp only [wp_bind, wp_ofOpt]
@[simp] theorem wp_oD {f : M D} {Q : SV → Rho → Prop} : (oD f ρ).wp Q ↔ (f ρ).wp fun d ρ1 => Q (.d d) ρ1 := by
  unfold oD; simp only [wp_bind, wp_ok]
@[simp] theorem wp_aNil {Q : List D → Rho → Prop} : (aNil ρ).wp Q ↔ Q [] ρ := Iff.rfl
@[simp] theorem wp_aCons {f : M D} {g : M (List D)} {Q : List D → Rho → Prop} : (aCons f g ρ).wp Q ↔ (f ρ).wp fun d ρ1 => (g ρ1).wp fun ds ρ2 => Q (d :: ds) ρ2 := by
  unfold aCons; simp only [wp_bind, wp_ok]
@[simp] theorem wp_oNil {Q : List SV → Rho → Prop} : (oNil ρ).wp Q ↔ Q [] ρ := Iff.rfl
@[simp] theorem wp_oCons {f : M SV} {g : M (List SV)} {Q : List SV → Rho → Prop} : (oCons f g ρ).wp Q ↔ (f ρ).wp fun d ρ1 => (g ρ1).wp fun ds ρ2 => Q (d :: ds) ρ2 := by
  unfold oCons; simp only [wp_bind, wp_ok]
@[simp] theorem wp_tup {g : M (List D)} {Q : D → Rho → Prop} : (eTup g ρ).wp Q ↔ (g ρ).wp fun ds ρ1 => ds.length ≤ sizeLine ∧ Q (.tuple ds) ρ1 := by
  unfold eTup
  simp only [wp_bind]
  constructor <;> intro h <;> refine h.imp fun ds ρ1 q => ?_
  · by_cases z : ds.length ≤ sizeLine
    · rw [if_pos z] at q; exact ⟨z, q⟩
    · rw [if_neg z] at q; exact q.elim
  · rw [if_pos q.1]; exact q.2
@[simp] theorem wp_lst {g : M (List D)} {Q : SV → Rho → Prop} : (oLst g ρ).wp Q ↔ (g ρ).wp fun ds ρ1 => ds.length ≤ sizeLine ∧ Q (.l ds) ρ1 := by
  unfold oLst
  simp only [wp_bind]
  constructor <;> intro h <;> refine h.imp fun ds ρ1 q => ?_
  · by_cases z : ds.length ≤ sizeLine
    · rw [if_pos z] at q; exact ⟨z, q⟩
    · rw [if_neg z] at q; exact q.elim
  · rw [if_pos q.1]; exact q.2
@[simp] theorem wp_pNone {Q : Option Int → Rho → Prop} : (pNone ρ).wp Q ↔ Q none ρ := Iff.rfl
@[simp] theorem wp_pSome {f : M D} {Q : Option Int → Rho → Prop} : (pSome f ρ).wp Q ↔ (f ρ).wp fun d ρ1 => ∃ i, d = .int i ∧ Q (some i) ρ1 := by
  unfold pSome
  simp only [wp_bind]
  constructor <;> intro h <;> refine h.imp fun d ρ1 q => ?_
  · cases d with
    | int i => exact ⟨i, rfl, q⟩
    | _ => exact (wp_stuck.mp q).elim
  · obtain ⟨i, rfl, q⟩ := q
    exact q
@[simp] theorem wp_sl {fa : M D} {fl fh : M (Option Int)} {Q : D → Rho → Prop} : (eSl fa fl fh ρ).wp Q ↔ (fa ρ).wp fun a ρ1 => (fl ρ1).wp fun lo ρ2 => (fh ρ2).wp fun hi ρ3 => ∃ d, gSl a lo hi = some d ∧ Q d ρ3 := by
  unfold eSl; simp only [wp_bind, wp_ofOpt]
@[simp] theorem wp_methT {g : Str → List D → Option D} {fo : M D} {fa : M (List D)} {Q : D → Rho → Prop} : (eMethT g fo fa ρ).wp Q ↔ (fo ρ).wp fun o ρ1 => ∃ a, o = .str a ∧ (fa ρ1).wp fun ds ρ2 => ∃ d, g a ds = some d ∧ Q d ρ2 := by
  unfold eMethT
  simp only [wp_bind]
  constructor <;> intro h <;> refine h.imp fun d ρ1 q => ?_
  · cases d with
    | str i => exact ⟨i, rfl, by simpa using q⟩
    | _ => exact (wp_stuck.mp q).elim
  · obtain ⟨i, rfl, q⟩ := q
    simpa using q
@[simp] theorem wp_join {fo f : M D} {Q : D → Rho → Prop} : (eJoin fo f ρ).wp Q ↔ (fo ρ).wp fun o ρ1 => ∃ a, o = .str a ∧ (f ρ1).wp fun d ρ2 => ∃ e, joinD a d = some e ∧ Q e ρ2 := by
  unfold eJoin
  simp only [wp_bind]
  constructor <;> intro h <;> refine h.imp fun d ρ1 q => ?_
  · cases d with
    | str i => exact ⟨i, rfl, by simpa using q⟩
    | _ => exact (wp_stuck.mp q).elim
  · obtain ⟨i, rfl, q⟩ := q
    simpa using q
@[simp] theorem wp_iSeq {f : M D} {Q : List D → Rho → Prop} : (iSeq f ρ).wp Q ↔ (f ρ).wp fun d ρ1 => ∃ ds, seqD d = some ds ∧ Q ds ρ1 := by
  unfold iSeq; simp only [wp_bind, wp_ofOpt]
@[simp] theorem wp_iRange1 {f : M D} {Q : List D → Rho → Prop} : (iRange1 f ρ).wp Q ↔ (f ρ).wp fun d ρ1 => ∃ ds, rng1 d = some ds ∧ Q ds ρ1 := by
  unfold iRange1; simp only [wp_bind, wp_ofOpt]
@[simp] theorem wp_iRange2 {f f2 : M D} {Q : List D → Rho → Prop} : (iRange2 f f2 ρ).wp Q ↔ (f ρ).wp fun d ρ1 => (f2 ρ1).wp fun d2 ρ2 => ∃ ds, rng2 d d2 = some ds ∧ Q ds ρ2 := by
  unfold iRange2; simp only [wp_bind, wp_ofOpt]
@[simp] theorem wp_iZip {f f2 : M D} {Q : List D → Rho → Prop} : (iZipM f f2 ρ).wp Q ↔ (f ρ).wp fun d ρ1 => (f2 ρ1).wp fun d2 ρ2 => ∃ ds, gZip d d2 = some ds ∧ Q ds ρ2 := by
  unfold iZipM; simp only [wp_bind, wp_ofOpt]
@[simp] theorem wp_iEnum {f : M D} {Q : List D → Rho → Prop} : (iEnumL f ρ).wp Q ↔ (f ρ).wp fun d ρ1 => ∃ ds, gEnumL d = some ds ∧ Q ds ρ1 := by
  unfold iEnumL; simp only [wp_bind, wp_ofOpt]
@[simp] theorem wp_chain {g g' : D → D → Option D} {fa fb fc : M D} {Q : D → Rho → Prop} : (eChain g g' fa fb fc ρ).wp Q ↔ (fa ρ).wp fun a ρ1 => (fb ρ1).wp fun b ρ2 => ∃ k, g a b = some (.bool k) ∧ (k = true → (fc ρ2).wp fun c ρ3 => ∃ d, g' b c = some d ∧ Q d ρ3) ∧ (k = false → Q (.bool false) ρ2) := by
  unfold eChain
  simp only [wp_bind]
  constructor <;> intro h <;> refine h.imp fun a ρ1 q => q.imp fun b ρ2 q => ?_
  · obtain ⟨z, e, q⟩ := wp_ofOpt.mp q
    cases z with
    | bool k =>
      refine ⟨k, e, ?_⟩
      cases k
      · exact ⟨fun h => (nomatch h), fun _ => q⟩
      · exact ⟨fun _ => by simpa using q, fun h => (nomatch h)⟩
    | _ => exact (wp_stuck.mp q).elim
  · obtain ⟨k, e, q1, q2⟩ := q
    rw [wp_ofOpt]
    refine ⟨_, e, ?_⟩
    cases k
    · exact q2 rfl
    · simpa using q1 rfl
/-- defs -/
@[simp] theorem wp_ocall {F : F0} {fa : M (List D)} {Q : SV → Rho → Prop} : (oCall F fa ρ).wp Q ↔ (fa ρ).wp fun ds ρ1 => ∃ r, F ds = .ok r ∧ Q r ρ1 := by
  unfold oCall
  simp only [wp_bind]
  constructor <;> intro h <;> refine h.imp fun d ρ1 q => ?_
  · cases e : F d with
    | ok r => rw [e] at q; exact ⟨r, rfl, q⟩
    | err x => rw [e] at q; exact q.elim
    | stuck => rw [e] at q; exact q.elim
  · obtain ⟨r, e, q⟩ := q
    rw [e]; exact q
@[simp] theorem wp_ocall1 {F : F1} {i : Nat} {fa : M (List D)} {Q : SV → Rho → Prop} : (oCall1 F i fa ρ).wp Q ↔ (∃ xs, ρ[i]? = some (some (.l xs))) ∧ (fa ρ).wp fun ds ρ1 => ∃ xs r xs', ρ1[i]? = some (some (.l xs)) ∧ F xs ds = .ok r xs' ∧ Q r (ρ1.set i (some (.l xs'))) := by
  unfold oCall1
  split
  · rename_i xs e
    rw [wp_bind]
    constructor
    · intro h
      refine ⟨⟨xs, e⟩, h.imp fun ds ρ1 q => ?_⟩
      split at q
      · rename_i ys e1
        cases eF : F ys ds with
        | ok r zs => rw [eF] at q; exact ⟨ys, r, zs, e1, eF, q⟩
        | err x zs => rw [eF] at q; exact q.elim
        | stuck => rw [eF] at q; exact q.elim
      · exact q.elim
    · intro h
      refine h.2.imp fun ds ρ1 ⟨ys, r, zs, e1, eF, q⟩ => ?_
      rw [e1]
      dsimp only
      rw [eF]
      exact q
  · rename_i e
    exact ⟨fun h => h.elim, fun ⟨⟨xs, h⟩, _⟩ => e xs h⟩
@[simp] theorem wp_ocallS {F : Fs} {i : Nat} {fa : M (List D)} {Q : SV → Rho → Prop} : (oCallS F i fa ρ).wp Q ↔ ∃ ns, ρ[i]? = some (some (.s ns)) ∧ (fa ρ).wp fun ds ρ1 => ∃ r, F ns ds = .ok r ∧ Q r ρ1 := by
  unfold oCallS
  split
  · rename_i ns e
    rw [wp_bind]
    constructor
    · intro h
      refine ⟨ns, e, h.imp fun ds ρ1 q => ?_⟩
      cases eF : F ns ds with
      | ok r => rw [eF] at q; exact ⟨r, rfl, q⟩
      | err x => rw [eF] at q; exact q.elim
      | stuck => rw [eF] at q; exact q.elim
    · intro ⟨ms, e2, h⟩
      rw [e] at e2
      cases e2
      refine h.imp fun ds ρ1 ⟨r, eF, q⟩ => ?_
      rw [eF]
      exact q
  · rename_i e
    exact ⟨fun h => h.elim, fun ⟨ns, h, _⟩ => e ns h⟩
theorem wp_mutL {op : LOp} {i : Nat} {fa : M (List D)} {Q : D → Rho → Prop} : (eMutL op i fa ρ).wp Q ↔ (∃ xs, ρ[i]? = some (some (.l xs))) ∧ (fa ρ).wp fun ds ρ1 => ∃ xs y, ρ1[i]? = some (some (.l xs)) ∧ op xs ds = some y ∧ Q y.1 (ρ1.set i (some (.l y.2))) := by
  unfold eMutL
  split
  · rename_i xs e
    rw [wp_bind]
    constructor
    · intro h
      refine ⟨⟨xs, e⟩, h.imp fun ds ρ1 q => ?_⟩
      cases e1 : slotL ρ1 i with
      | none => rw [e1] at q; exact q.elim
      | some ys =>
        rw [e1] at q
        dsimp only at q
        cases eo : op ys ds with
        | none => rw [eo] at q; exact q.elim
        | some y => obtain ⟨d, zs⟩ := y; rw [eo] at q; exact ⟨ys, (d, zs), slotL_some e1, eo, q⟩
    · intro h
      refine h.2.imp fun ds ρ1 ⟨ys, (d, zs), e1, eo, q⟩ => ?_
      have e2 : slotL ρ1 i = some ys := by unfold slotL; rw [e1]
      rw [e2]
      dsimp only
      rw [eo]
      exact q
  · rename_i e
    exact ⟨fun h => h.elim, fun ⟨⟨xs, h⟩, _⟩ => e xs h⟩
/-! statements -/
@[simp] theorem fwp_seq {g k : G} : (gSeq g k ρ).wp P ↔ (g ρ).wp { P with n := fun ρ1 => (k ρ1).wp P } := by
  unfold gSeq
  cases g ρ <;> exact Iff.rfl
@[simp] theorem fwp_gnext : (gNext ρ).wp P ↔ P.n ρ := Iff.rfl
@[simp] theorem fwp_gbrk : (gBrk ρ).wp P ↔ P.b ρ := Iff.rfl
@[simp] theorem fwp_gcnt : (gCnt ρ).wp P ↔ P.c ρ := Iff.rfl
@[simp] theorem fwp_gerr {x : String} : (gErr x ρ).wp P ↔ P.x x ρ := Iff.rfl
theorem fwp_ret_of {f : M D} (h : (f ρ).wp fun d ρ1 => P.r (.d d) ρ1) : (gRet f ρ).wp P := fwp_go_of h
theorem fwp_retO_of {f : M SV} (h : (f ρ).wp fun d ρ1 => P.r d ρ1) : (gRetO f ρ).wp P := fwp_go_of h
theorem fwp_if_of {t : M Bool} {a b : G} (h : (t ρ).wp fun k ρ1 => (k = true → (a ρ1).wp P) ∧ (k = false → (b ρ1).wp P)) : (gIf t a b ρ).wp P := fwp_go_of (h.imp fun k ρ1 q => by cases k <;> simpa using q)
theorem fwp_drop_of {f : M D} (h : (f ρ).wp fun _ ρ1 => P.n ρ1) : (gDrop f ρ).wp P := fwp_go_of h
theorem fwp_set_of {g : D → Rho → Option Rho} {f : M D} (h : (f ρ).wp fun d ρ1 => ∃ ρ2, g d ρ1 = some ρ2 ∧ P.n ρ2) : (gSet g f ρ).wp P := fwp_go_of (h.imp fun d ρ1 ⟨ρ2, e, q⟩ => by rw [e]; exact q)
theorem fwp_setO_of {bor : List Nat} {i : Nat} {f : M SV} (h : (f ρ).wp fun d ρ1 => ∃ ρ2, setO bor i d ρ1 = some ρ2 ∧ P.n ρ2) : (gSetO bor i f ρ).wp P := fwp_go_of (h.imp fun d ρ1 ⟨ρ2, e, q⟩ => by rw [e]; exact q)
theorem fwp_par_of {bor is : List Nat} {f : M (List SV)} (h : (f ρ).wp fun xs ρ1 => ∃ ρ2, storeN bor is xs ρ1 = some ρ2 ∧ P.n ρ2) : (gParN bor is f ρ).wp P := fwp_go_of (h.imp fun d ρ1 ⟨ρ2, e, q⟩ => by rw [e]; exact q)
theorem fwp_put_of {i : Nat} {fk fe : M D} (h : (fe ρ).wp fun d ρ1 => (∃ x, ρ1[i]? = some (some x)) ∧ (fk ρ1).wp fun y ρ2 => ∃ x x', ρ2[i]? = some (some x) ∧ x.put y d = some x' ∧ P.n (ρ2.set i (some x'))) : (gPut i fk fe ρ).wp P := fwp_go_of (h.imp fun d ρ1 ⟨⟨x0, e0⟩, q⟩ => by
  rw [e0]
  exact fwp_go_of (q.imp fun y ρ2 ⟨x, x', e, ex, q⟩ => by rw [e]; dsimp only; rw [ex]; exact q))
theorem fwp_retS_of {i : Nat} {bor : List Nat} (h : ∃ x, ρ[i]? = some (some x) ∧ i ∉ bor ∧ P.r x ρ) : (gRetS i bor ρ).wp P := by
  obtain ⟨x, e, hb, q⟩ := h
  unfold gRetS
  rw [e]
  dsimp only
  rw [if_neg hb]
  exact q
theorem fwp_frz_of {i : Nat} {bor : List Nat} {g : G} (h : ∃ ρ', frzR i bor ρ = some ρ' ∧ (g ρ').wp P) : (gFrz i bor g ρ).wp P := by
  obtain ⟨ρ', e, q⟩ := h
  unfold gFrz
  rw [e]
  exact q
theorem fwp_for_of {fi : M (List D)} {tg : D → Rho → Option Rho} {b : G} (h : (fi ρ).wp fun ds ρ1 => (gFor tg b ds ρ1).wp P) : (gForM fi tg b ρ).wp P := fwp_go_of h
theorem fwp_augI_of {op : Int → Int → Int} {bor : List Nat} {i : Nat} {fe : M D} (h : ∃ a, ρ[i]? = some (some (.d (.int a))) ∧ (fe ρ).wp fun d ρ1 => ∃ b ρ2, d = .int b ∧ setD bor i (.int (op a b)) ρ1 = some ρ2 ∧ P.n ρ2) : (gAugI op bor i fe ρ).wp P := by
  obtain ⟨a, e, h⟩ := h
  unfold gAugI
  rw [e]
  refine fwp_go_of (h.imp fun d ρ1 ⟨b, ρ2, ed, e2, q⟩ => ?_)
  subst ed
  dsimp only
  rw [e2]
  exact q
/-- a loop over ds, I: what holds ahead of the i-th turn -/
theorem fwp_loop {tg : D → Rho → Option Rho} {b : G} {P : Pst} (I : Nat → Rho → Prop) : ∀ {ds : List D} {ρ : Rho} (k : Nat), I k ρ →
    (∀ i d ρ, ds[i]? = some d → I (k + i) ρ → ∃ ρ1, tg d ρ = some ρ1 ∧ (b ρ1).wp { n := I (k + i + 1), c := I (k + i + 1), b := P.n, r := P.r, x := P.x }) → (∀ ρ, I (k + ds.length) ρ → P.n ρ) → (gFor tg b ds ρ).wp P
  | [], ρ, k, h0, hs, he => he ρ h0
  | d :: ds, ρ, k, h0, hs, he => by
    obtain ⟨ρ1, e, q⟩ := hs 0 d ρ rfl h0
    unfold gFor
    rw [e]
    dsimp only
    have go : ∀ ρ2, I (k + 1) ρ2 → (gFor tg b ds ρ2).wp P := fun ρ2 h2 => fwp_loop I (k + 1) h2 (fun i d' ρ' ed hi => by
      have h3 := hs (i + 1) d' ρ' (by simpa using ed) (by rw [show k + (i + 1) = k + 1 + i by omega]; exact hi)
      rw [show k + (i + 1) + 1 = k + 1 + i + 1 by omega] at h3
      exact h3) fun ρ' h' => he ρ' (by rw [List.length_cons, show k + (ds.length + 1) = k + 1 + ds.length by omega]; exact h')
    cases eb : b ρ1 with
    | next ρ2 => rw [eb] at q; exact go ρ2 q
    | cnt ρ2 => rw [eb] at q; exact go ρ2 q
    | brk ρ2 => rw [eb] at q; exact q
    | ret x ρ2 => rw [eb] at q; exact q
    | err x ρ2 => rw [eb] at q; exact q
    | stuck => rw [eb] at q; exact q.elim
/-- a def's outcome by its body's -/
theorem fn0_ok_of {N : Nat} {g : G} {ds : List D} {Q : SV → Prop} (h : (g (rho0 N (ds.map .d))).wp { n := fun _ => Q (.d .none), r := fun x _ => Q x }) : ∃ r, fn0 N g ds = .ok r ∧ Q r := by
  unfold fn0
  cases e : g (rho0 N (ds.map .d)) with
  | next ρ => rw [e] at h; exact ⟨_, rfl, h⟩
  | ret x ρ => rw [e] at h; exact ⟨_, rfl, h⟩
  | _ => rw [e] at h; exact h.elim
theorem fns_ok_of {N : Nat} {g : G} {ns : List Int} {ds : List D} {Q : SV → Prop} (h : (g (rho0 N (.s ns :: ds.map .d))).wp { n := fun _ => Q (.d .none), r := fun x _ => Q x }) : ∃ r, fns N g ns ds = .ok r ∧ Q r := by
  unfold fns
  cases e : g (rho0 N (.s ns :: ds.map .d)) with
  | next ρ => rw [e] at h; exact ⟨_, rfl, h⟩
  | ret x ρ => rw [e] at h; exact ⟨_, rfl, h⟩
  | _ => rw [e] at h; exact h.elim
theorem fn1_ok_of {N : Nat} {g : G} {xs ds : List D} {Q : SV → List D → Prop} (h : (g (rho0 N (.l xs :: ds.map .d))).wp { n := fun ρ => ∃ ys, ρ[0]? = some (some (.l ys)) ∧ Q (.d .none) ys, r := fun x ρ => ∃ ys, ρ[0]? = some (some (.l ys)) ∧ Q x ys }) : ∃ r ys, fn1 N g xs ds = .ok r ys ∧ Q r ys := by
  unfold fn1
  cases e : g (rho0 N (.l xs :: ds.map .d)) with
  | next ρ =>
    rw [e] at h
    obtain ⟨ys, h1, h2⟩ := h
    have e2 : slotL ρ 0 = some ys := by unfold slotL; rw [h1]
    exact ⟨.d .none, ys, by dsimp only; rw [e2], h2⟩
  | ret x ρ =>
    rw [e] at h
    obtain ⟨ys, h1, h2⟩ := h
    have e2 : slotL ρ 0 = some ys := by unfold slotL; rw [h1]
    exact ⟨x, ys, by dsimp only; rw [e2], h2⟩
  | _ => rw [e] at h; exact h.elim
end

/-! ### what the operations are on written-out things -/
section
variable {i j k : Int} {n : Nat} {b c : Bool} {s t : Str} {ds es : List D}
theorem atI_pos {α : Type} {xs : List α} (h : 0 ≤ i) : atI xs i = xs[i.toNat]? := by
  unfold atI ixN
  rw [if_pos h]
  by_cases z : i < xs.length
  · rw [if_pos z]; rfl
  · rw [if_neg z, List.getElem?_eq_none (by omega)]; rfl
@[simp] theorem atI_0 {α : Type} {xs : List α} : atI xs 0 = xs[0]? := atI_pos (by decide)
@[simp] theorem atI_1 {α : Type} {xs : List α} : atI xs 1 = xs[1]? := atI_pos (by decide)
@[simp] theorem atI_2 {α : Type} {xs : List α} : atI xs 2 = xs[2]? := atI_pos (by decide)
@[simp] theorem atI_3 {α : Type} {xs : List α} : atI xs 3 = xs[3]? := atI_pos (by decide)
@[simp] theorem atI_4 {α : Type} {xs : List α} : atI xs 4 = xs[4]? := atI_pos (by decide)
@[simp] theorem atI_5 {α : Type} {xs : List α} : atI xs 5 = xs[5]? := atI_pos (by decide)
@[simp] theorem atI_6 {α : Type} {xs : List α} : atI xs 6 = xs[6]? := atI_pos (by decide)
@[simp] theorem atI_7 {α : Type} {xs : List α} : atI xs 7 = xs[7]? := atI_pos (by decide)
@[simp] theorem atI_8 {α : Type} {xs : List α} : atI xs 8 = xs[8]? := atI_pos (by decide)
@[simp] theorem atI_9 {α : Type} {xs : List α} : atI xs 9 = xs[9]? := atI_pos (by decide)
@[simp] theorem atI_10 {α : Type} {xs : List α} : atI xs 10 = xs[10]? := atI_pos (by decide)
@[simp] theorem atI_11 {α : Type} {xs : List α} : atI xs 11 = xs[11]? := atI_pos (by decide)
@[simp] theorem atI_12 {α : Type} {xs : List α} : atI xs 12 = xs[12]? := atI_pos (by decide)
@[simp] theorem gIx_list : gIx (.list ds) (.int i) = atI ds i := rfl
@[simp] theorem gIx_tup : gIx (.tuple ds) (.int i) = atI ds i := rfl
@[simp] theorem gAdd_int : gAdd (.int i) (.int j) = some (.int (i + j)) := rfl
@[simp] theorem gSub_int : gSub (.int i) (.int j) = some (.int (i - j)) := rfl
@[simp] theorem gMul_int : gMul (.int i) (.int j) = if mulOk i j then some (.int (i * j)) else none := rfl
@[simp] theorem gDiv_int : gDiv (.int i) (.int j) = if divOk j then some (.int (i.fdiv j)) else none := rfl
@[simp] theorem gMod_int : gMod (.int i) (.int j) = if j ≠ 0 then some (.int (i.fmod j)) else none := rfl
@[simp] theorem gPow_int : gPow (.int i) (.int j) = if CPow i j then some (.int (i ^ j.toNat)) else none := rfl
@[simp] theorem gGt_int : gGt (.int i) (.int j) = some (.bool (decide (j < i))) := rfl
@[simp] theorem gGe_int : gGe (.int i) (.int j) = some (.bool (decide (j ≤ i))) := rfl
@[simp] theorem gLt_int : gLt (.int i) (.int j) = some (.bool (decide (i < j))) := rfl
@[simp] theorem gLe_int : gLe (.int i) (.int j) = some (.bool (decide (i ≤ j))) := rfl
@[simp] theorem gAdd_str : gAdd (.str s) (.str t) = if s.length + t.length ≤ sizeLine then some (.str (s ++ t)) else none := rfl
@[simp] theorem gAdd_list : gAdd (.list ds) (.list es) = if ds.length + es.length ≤ sizeLine then some (.list (ds ++ es)) else none := rfl
@[simp] theorem gAdd_tup : gAdd (.tuple ds) (.tuple es) = if ds.length + es.length ≤ sizeLine then some (.tuple (ds ++ es)) else none := rfl
@[simp] theorem intD_int : DL.intD (.int i) = some (.int i) := rfl
@[simp] theorem maxD_int : DL.maxD (.int i) (.int j) = some (.int (if j > i then j else i)) := rfl
@[simp] theorem minD_int : DL.minD (.int i) (.int j) = some (.int (if j < i then j else i)) := rfl
@[simp] theorem lenS_list : DL.lenS (.list ds) = some (.int ds.length) := rfl
@[simp] theorem lenS_tup : DL.lenS (.tuple ds) = some (.int ds.length) := rfl
@[simp] theorem lenS_str : DL.lenS (.str s) = some (.int s.length) := rfl
@[simp] theorem tupL_list : DL.tupL (.list ds) = some (.tuple ds) := rfl
@[simp] theorem view_d {d : D} : (SV.d d).view = some d := rfl
@[simp] theorem view_l {xs : List D} : (SV.l xs).view = some (.list xs) := rfl
@[simp] theorem view_s {ns : List Int} : (SV.s ns).view = some (.list (ns.map PyData.int)) := rfl
@[simp] theorem frz_d {d : D} : (SV.d d).frz = some d := rfl
@[simp] theorem frz_l {xs : List D} : (SV.l xs).frz = some (.list xs) := rfl
@[simp] theorem frz_k0 : (SV.k []).frz = some (.dict []) := rfl
@[simp] theorem put_l {xs : List D} {z : D} : (SV.l xs).put (.int i) z = (ixN xs.length i).map fun j => SV.l (xs.set j z) := rfl
@[simp] theorem setD_eq {bor : List Nat} {a : Nat} {d : D} {ρ : Rho} : setD bor a d ρ = if a < ρ.length ∧ a ∉ bor then some (ρ.set a (some (.d d))) else none := rfl
@[simp] theorem setO_eq {bor : List Nat} {a : Nat} {x : SV} {ρ : Rho} : setO bor a x ρ = if a < ρ.length ∧ a ∉ bor then some (ρ.set a (some x)) else none := rfl
@[simp] theorem storeN_nil {bor : List Nat} {ρ : Rho} : storeN bor [] [] ρ = some ρ := rfl
@[simp] theorem storeN_cons {bor is : List Nat} {a : Nat} {x : SV} {xs : List SV} {ρ : Rho} : storeN bor (a :: is) (x :: xs) ρ = (setO bor a x ρ).bind (storeN bor is xs) := rfl
@[simp] theorem rho0_eq {N : Nat} {xs : List SV} : rho0 N xs = xs.map some ++ List.replicate (N - xs.length) none := rfl
@[simp] theorem seqD_list : seqD (.list ds) = some ds := rfl
@[simp] theorem seqD_tup : seqD (.tuple ds) = some ds := rfl
@[simp] theorem seqD_str : seqD (.str s) = some (s.cps.toList.map fun c => .str ⟨#[c]⟩) := rfl
@[simp] theorem gZip_list : gZip (.list ds) (.list es) = some (zipD ds es) := rfl
@[simp] theorem gZip_tup : gZip (.tuple ds) (.tuple es) = some (zipD ds es) := rfl
theorem fmod_rng (h : 0 < j) : 0 ≤ i.fmod j ∧ i.fmod j < j := by
  rw [Int.fmod_eq_emod_of_nonneg i (by omega)]
  exact ⟨Int.emod_nonneg i (by omega), Int.emod_lt_of_pos i h⟩
theorem ixN_pos (h : 0 ≤ i) (h2 : i < n) : ixN n i = some i.toNat := by unfold ixN; rw [if_pos h, if_pos h2]
theorem mulOk_l (h1 : -(2 ^ 64) < i) (h2 : i < 2 ^ 64) : mulOk i j := .inl (.inl ⟨h1, h2⟩)
theorem mulOk_r (h1 : -(2 ^ 64) < j) (h2 : j < 2 ^ 64) : mulOk i j := .inl (.inr ⟨h1, h2⟩)
theorem log2_lt {a e : Nat} (h : a < 2 ^ e) (he : 0 < e) : a.log2 < e := by
  by_cases z : a = 0
  · subst z; simpa using he
  · exact (Nat.log2_lt z).mpr h
theorem mulOk_big (e f : Nat) (h1 : i.natAbs < 2 ^ e) (h2 : j.natAbs < 2 ^ f) (he : 0 < e) (hf : 0 < f) (h : e + f < 1000000) : mulOk i j := .inr (by
  have a := log2_lt h1 he
  have b := log2_lt h2 hf
  show i.natAbs.log2 + j.natAbs.log2 < 1000000
  omega)
theorem divOk_small (h1 : j ≠ 0) (h2 : j.natAbs < 1073741824) : divOk j := .inl ⟨h1, h2⟩
theorem divOk_big (e : Nat) (h1 : 0 < j) (h2 : j.natAbs < 2 ^ e) (he : 0 < e) (h : e ≤ 9000) : divOk j := .inr ⟨h1, Nat.lt_of_lt_of_le (log2_lt h2 he) h⟩
@[simp] theorem wp_slS {a : Nat} {fl fh : M (Option Int)} {ρ : Rho} {Q : D → Rho → Prop} : (eSlS a fl fh ρ).wp Q ↔ (∃ x, ρ[a]? = some (some x)) ∧ (fl ρ).wp fun lo ρ2 => (fh ρ2).wp fun hi ρ3 => (eSlot a ρ3).wp fun d ρ4 => ∃ e, gSlV d lo hi = some e ∧ Q e ρ4 := by
  unfold eSlS
  split
  · rename_i x e
    simp only [wp_bind, wp_ofOpt]
    exact ⟨fun h => ⟨⟨x, e⟩, h⟩, fun h => h.2⟩
  · rename_i e
    exact ⟨fun h => h.elim, fun h => by obtain ⟨⟨y, h⟩, _⟩ := h; exact e y h⟩
@[simp] theorem gSlV_list {lo hi : Option Int} : gSlV (.list ds) lo hi = some (.list (cutD ds lo hi)) := rfl
@[simp] theorem gSlV_str {lo hi : Option Int} : gSlV (.str s) lo hi = some (.str (cutS s lo hi)) := rfl
@[simp] theorem gSl_list {lo hi : Option Int} : gSl (.list ds) lo hi = some (.list (cutD ds lo hi)) := rfl
@[simp] theorem gSl_tup {lo hi : Option Int} : gSl (.tuple ds) lo hi = some (.tuple (cutD ds lo hi)) := rfl
@[simp] theorem gSl_str {lo hi : Option Int} : gSl (.str s) lo hi = some (.str (cutS s lo hi)) := rfl
theorem cutD_ints (ns : List Int) (lo hi : Option Int) : ∃ ms : List Int, cutD (ns.map PyData.int) lo hi = ms.map PyData.int := by
  unfold cutD
  exact ⟨((ns.drop (HT.sIx (ns.map PyData.int).length 0 lo)).take (HT.sIx (ns.map PyData.int).length (ns.map PyData.int).length hi - HT.sIx (ns.map PyData.int).length 0 lo)), by rw [List.map_take, List.map_drop]⟩
@[simp] theorem sumD_ints {ns : List Int} : DL.sumD (.list (ns.map PyData.int)) = some (.int ns.sum) := by
  show (intsOf _).map _ = _
  rw [intsOf_map]; rfl
@[simp] theorem eqv_int : PyData.eqv (.int i) (.int j) = (i == j) := rfl
@[simp] theorem eqv_str : PyData.eqv (.str s) (.str t) = (s == t) := rfl
@[simp] theorem eqv_bool : PyData.eqv (.bool b) (.bool c) = (b == c) := rfl
@[simp] theorem rng1_int : rng1 (.int i) = if i.toNat ≤ sizeLine ∧ -(2 ^ 62) ≤ i then some (rangeD 0 i.toNat) else none := rfl
@[simp] theorem joinD_list : joinD s (.list ds) = (match strsOf ds with | some ys => if (ys.map (·.length)).sum + ys.length * s.length ≤ 16777216 then some (.str (Txt.join s ys)) else none | none => none) := rfl
end

/-! ### comprehensions -/
section
variable {ρ : Rho} {vs : List Nat} {g : D → Rho → Option Rho} {t : M Bool} {f : M D} {T : M (List D)}
theorem fComp_wp {Q : List D → Rho → Prop} (I : Nat → List D → Rho → Prop) : ∀ {ds : List D} {ρ : Rho} (k : Nat) (acc : List D), I k acc ρ →
    (∀ i d acc ρ2, ds[i]? = some d → I (k + i) acc ρ2 → ∃ ρ3, g d ρ2 = some ρ3 ∧ (t ρ3).wp fun b ρ4 => (b = true → (f ρ4).wp fun y ρ5 => I (k + i + 1) (acc ++ [y]) (wipeR ρ5 vs)) ∧ (b = false → I (k + i + 1) acc (wipeR ρ4 vs))) →
    (∀ ys ρ2, I (k + ds.length) ys ρ2 → Q ys ρ2) → (fComp vs g t f ds ρ).wp fun ys ρ2 => Q (acc ++ ys) ρ2
  | [], ρ, k, acc, h0, hs, he => by
    show Q (acc ++ []) ρ
    rw [List.append_nil]; exact he _ _ h0
  | d :: ds, ρ, k, acc, h0, hs, he => by
    obtain ⟨ρ3, e, q⟩ := hs 0 d acc ρ rfl h0
    unfold fComp
    rw [e]
    dsimp only
    have go : ∀ acc2 ρ2, I (k + 1) acc2 ρ2 → (fComp vs g t f ds ρ2).wp fun ys ρ3 => Q (acc2 ++ ys) ρ3 := fun acc2 ρ2 h2 => fComp_wp I (k + 1) acc2 h2 (fun i d' acc' ρ' ed hi => by
      have h3 := hs (i + 1) d' acc' ρ' (by simpa using ed) (by rw [show k + (i + 1) = k + 1 + i by omega]; exact hi)
      rw [show k + (i + 1) + 1 = k + 1 + i + 1 by omega] at h3
      exact h3) fun ys ρ' h' => he ys ρ' (by rw [List.length_cons, show k + (ds.length + 1) = k + 1 + ds.length by omega]; exact h')
    cases et : t ρ3 with
    | stuck => rw [et] at q; exact q.elim
    | err x ρ4 => rw [et] at q; exact q.elim
    | ok b ρ4 =>
      rw [et] at q
      obtain ⟨q1, q2⟩ := q
      cases b with
      | false => exact go acc _ (q2 rfl)
      | true =>
        have q1 := q1 rfl
        dsimp only
        cases ef : f ρ4 with
        | stuck => rw [ef] at q1; exact q1.elim
        | err x ρ5 => rw [ef] at q1; exact q1.elim
        | ok y ρ5 =>
          rw [ef] at q1
          dsimp only
          rw [wp_bind]
          refine (go _ _ q1).imp fun ys ρ6 q => ?_
          show Q (acc ++ y :: ys) ρ6
          rw [List.append_assoc] at q
          exact q
theorem wp_comp_of {fi : M (List D)} {Q : SV → Rho → Prop} (h : (fi ρ).wp fun ds ρ1 => vsOk ρ1 vs = true ∧ ∃ I : Nat → List D → Rho → Prop, I 0 [] (wipeR ρ1 vs) ∧
    (∀ i d acc ρ2, ds[i]? = some d → I i acc ρ2 → ∃ ρ3, g d ρ2 = some ρ3 ∧ (t ρ3).wp fun b ρ4 => (b = true → (f ρ4).wp fun y ρ5 => I (i + 1) (acc ++ [y]) (wipeR ρ5 vs)) ∧ (b = false → I (i + 1) acc (wipeR ρ4 vs))) ∧
    ∀ ys ρ2, I ds.length ys ρ2 → Q (.l ys) (restR ρ1 ρ2 vs)) : (oComp vs fi g t f ρ).wp Q := by
  unfold oComp
  rw [wp_bind]
  refine h.imp fun ds ρ1 ⟨hv, I, h0, hs, he⟩ => ?_
  rw [if_pos hv]
  have q := fComp_wp (vs := vs) (g := g) (t := t) (f := f) (ds := ds) (Q := fun ys ρ2 => Q (.l ys) (restR ρ1 ρ2 vs)) I 0 [] h0 (fun i d acc ρ2 ed hi => by rw [Nat.zero_add] at hi ⊢; exact hs i d acc ρ2 ed hi) (fun ys ρ2 h => he ys ρ2 (by rw [Nat.zero_add] at h; exact h))
  cases ef : fComp vs g t f ds (wipeR ρ1 vs) with
  | stuck => rw [ef] at q; exact q.elim
  | err x ρ5 => rw [ef] at q; exact q.elim
  | ok y ρ5 => rw [ef] at q; exact q
/-- nothing is changed in a turn: what stays, by p, what comes of it, by h -/
theorem wp_comp_pure {fi : M (List D)} {Q : SV → Rho → Prop} (p : D → Bool) (hf : D → D) (h : (fi ρ).wp fun ds ρ1 => vsOk ρ1 vs = true ∧
    (∀ d ∈ ds, ∃ ρ3, g d (wipeR ρ1 vs) = some ρ3 ∧ (t ρ3).wp fun b ρ4 => b = p d ∧ (p d = true → (f ρ4).wp fun y ρ5 => y = hf d ∧ wipeR ρ5 vs = wipeR ρ1 vs) ∧ (p d = false → wipeR ρ4 vs = wipeR ρ1 vs)) ∧
    Q (.l ((ds.filter p).map hf)) (restR ρ1 (wipeR ρ1 vs) vs)) : (oComp vs fi g t f ρ).wp Q := by
  refine wp_comp_of (h.imp fun ds ρ1 ⟨hv, hs, he⟩ => ⟨hv, fun i acc ρ2 => ρ2 = wipeR ρ1 vs ∧ acc = ((ds.take i).filter p).map hf, ⟨rfl, rfl⟩, ?_, ?_⟩)
  · rintro i d acc ρ2 ed ⟨rfl, rfl⟩
    obtain ⟨ρ3, e, q⟩ := hs d (List.mem_of_getElem? ed)
    refine ⟨ρ3, e, q.imp fun b ρ4 ⟨eb, q1, q2⟩ => ?_⟩
    have et : ds.take (i + 1) = ds.take i ++ [d] := by rw [List.take_add_one, ed]; rfl
    subst eb
    refine ⟨fun hb => (q1 hb).imp fun y ρ5 ⟨ey, er⟩ => ⟨er, ?_⟩, fun hb => ⟨q2 hb, ?_⟩⟩
    · rw [et, List.filter_append, List.map_append, ey]; simp [hb]
    · rw [et, List.filter_append, List.map_append]; simp [hb]
  · rintro ys ρ2 ⟨rfl, rfl⟩
    rw [List.take_length]; exact he
theorem fLoop_wp {Q : List D → Rho → Prop} (I : Nat → List D → Rho → Prop) : ∀ {ds : List D} {ρ : Rho} (k : Nat) (acc : List D), I k acc ρ →
    (∀ i d acc ρ2, ds[i]? = some d → I (k + i) acc ρ2 → ∃ ρ3, g d ρ2 = some ρ3 ∧ (T ρ3).wp fun zs ρ5 => I (k + i + 1) (acc ++ zs) (wipeR ρ5 vs)) →
    (∀ ys ρ2, I (k + ds.length) ys ρ2 → Q ys ρ2) → (fLoop vs g T ds ρ).wp fun ys ρ2 => Q (acc ++ ys) ρ2
  | [], ρ, k, acc, h0, hs, he => by
    show Q (acc ++ []) ρ
    rw [List.append_nil]; exact he _ _ h0
  | d :: ds, ρ, k, acc, h0, hs, he => by
    obtain ⟨ρ3, e, q⟩ := hs 0 d acc ρ rfl h0
    unfold fLoop
    rw [e]
    dsimp only
    cases eT : T ρ3 with
    | stuck => rw [eT] at q; exact q.elim
    | err x ρ5 => rw [eT] at q; exact q.elim
    | ok zs ρ5 =>
      rw [eT] at q
      dsimp only
      rw [wp_bind]
      have h2 : I (k + 1) (acc ++ zs) (wipeR ρ5 vs) := q
      refine (fLoop_wp I (k + 1) (acc ++ zs) h2 (fun i d' acc' ρ' ed hi => by
        have h3 := hs (i + 1) d' acc' ρ' (by simpa using ed) (by rw [show k + (i + 1) = k + 1 + i by omega]; exact hi)
        rw [show k + (i + 1) + 1 = k + 1 + i + 1 by omega] at h3
        exact h3) fun ys ρ' h' => he ys ρ' (by rw [List.length_cons, show k + (ds.length + 1) = k + 1 + ds.length by omega]; exact h')).imp fun ys ρ6 q => ?_
      show Q (acc ++ (zs ++ ys)) ρ6
      rw [← List.append_assoc]
      exact q
@[simp] theorem wp_tOne {Q : List D → Rho → Prop} : (tOne t f ρ).wp Q ↔ (t ρ).wp fun b ρ2 => (b = true → (f ρ2).wp fun y ρ3 => Q [y] ρ3) ∧ (b = false → Q [] ρ2) := by
  unfold tOne
  cases t ρ with
  | stuck => exact Iff.rfl
  | err x ρ => exact Iff.rfl
  | ok b ρ2 =>
    cases b with
    | false => simp
    | true =>
      cases ef : f ρ2 with
      | stuck => simp [ef]
      | err x ρ => simp [ef]
      | ok y ρ => simp [ef]
@[simp] theorem wp_tTwo {fi1 : M (List D)} {vs1 : List Nat} {g1 : D → Rho → Option Rho} {T1 : M (List D)} {Q : List D → Rho → Prop} : (tTwo t fi1 vs1 g1 T1 ρ).wp Q ↔
    (t ρ).wp fun b ρ2 => (b = true → (fi1 ρ2).wp fun ds ρ3 => vsOk ρ3 vs1 = true ∧ (fLoop vs1 g1 T1 ds (wipeR ρ3 vs1)).wp fun ys ρ4 => Q ys (restR ρ3 ρ4 vs1)) ∧ (b = false → Q [] ρ2) := by
  unfold tTwo
  cases t ρ with
  | stuck => exact Iff.rfl
  | err x ρ => exact Iff.rfl
  | ok b ρ2 =>
    cases b with
    | false => simp
    | true =>
      cases ef : fi1 ρ2 with
      | stuck => simp [ef]
      | err x ρ => simp [ef]
      | ok ds ρ3 =>
        by_cases hv : vsOk ρ3 vs1 = true
        · cases eL : fLoop vs1 g1 T1 ds (wipeR ρ3 vs1) <;> simp [ef, hv, eL]
        · simp [ef, hv]
@[simp] theorem wp_comp2 {fi : M (List D)} {Q : SV → Rho → Prop} : (oComp2 vs fi g T ρ).wp Q ↔ (fi ρ).wp fun ds ρ1 => vsOk ρ1 vs = true ∧ (fLoop vs g T ds (wipeR ρ1 vs)).wp fun ys ρ2 => ys.length ≤ sizeLine ∧ Q (.l ys) (restR ρ1 ρ2 vs) := by
  unfold oComp2
  rw [wp_bind]
  constructor <;> intro h <;> refine h.imp fun ds ρ1 q => ?_
  · by_cases hv : vsOk ρ1 vs = true
    · rw [if_pos hv] at q
      refine ⟨hv, ?_⟩
      cases eL : fLoop vs g T ds (wipeR ρ1 vs) with
      | stuck => rw [eL] at q; exact q.elim
      | err x ρ => rw [eL] at q; exact q.elim
      | ok ys ρ =>
        rw [eL] at q
        dsimp only at q
        by_cases hz : ys.length ≤ sizeLine
        · rw [if_pos hz] at q; exact ⟨hz, q⟩
        · rw [if_neg hz] at q; exact q.elim
    · rw [if_neg hv] at q; exact q.elim
  · rw [if_pos q.1]
    have q2 := q.2
    cases eL : fLoop vs g T ds (wipeR ρ1 vs) with
    | stuck => rw [eL] at q2; exact q2.elim
    | err x ρ => rw [eL] at q2; exact q2.elim
    | ok ys ρ =>
      rw [eL] at q2
      dsimp only
      rw [if_pos q2.1]
      exact q2.2
/-- each turn alike -/
theorem fLoop_pure {Q : List D → Rho → Prop} {ds : List D} (hf : D → List D) (h : ∀ d ∈ ds, ∃ ρ3, g d ρ = some ρ3 ∧ (T ρ3).wp fun zs ρ5 => zs = hf d ∧ wipeR ρ5 vs = ρ) (q : Q (ds.flatMap hf) ρ) : (fLoop vs g T ds ρ).wp Q := by
  have := fLoop_wp (vs := vs) (g := g) (T := T) (ds := ds) (ρ := ρ) (Q := Q) (fun i acc ρ2 => ρ2 = ρ ∧ acc = (ds.take i).flatMap hf) 0 [] ⟨rfl, rfl⟩ (by
    rintro i d acc ρ2 ed ⟨rfl, rfl⟩
    rw [Nat.zero_add]
    obtain ⟨ρ3, e, q⟩ := h d (List.mem_of_getElem? ed)
    refine ⟨ρ3, e, q.imp fun zs ρ5 ⟨ez, er⟩ => ⟨er, ?_⟩⟩
    have et : ds.take (i + 1) = ds.take i ++ [d] := by rw [List.take_add_one, ed]; rfl
    rw [et, List.flatMap_append, ez]; simp) (by
    rintro ys ρ2 ⟨rfl, rfl⟩
    rw [Nat.zero_add, List.take_length]; exact q)
  simpa using this
end

theorem sum_repl (n k : Nat) : (List.replicate n k).sum = n * k := by
  induction n with
  | zero => simp
  | succ n ih => rw [List.replicate_succ, List.sum_cons, ih, Nat.succ_mul]; omega
theorem fn0_out_of {N : Nat} {g : G} {ds : List D} {O : FR → Prop} (h : (g (rho0 N (ds.map .d))).wp { n := fun _ => O (.ok (.d .none)), r := fun x _ => O (.ok x), x := fun e _ => O (.err e) }) : O (fn0 N g ds) := by
  unfold fn0
  cases e : g (rho0 N (ds.map .d)) with
  | next ρ => rw [e] at h; exact h
  | ret x ρ => rw [e] at h; exact h
  | err x ρ => rw [e] at h; exact h
  | _ => rw [e] at h; exact h.elim
section
variable {b : Bool}
@[simp] theorem isTy_self {c : String} : isTy c c = true := by simp [isTy]
@[simp] theorem tyD_none : tyD .none = "NoneType" := rfl
@[simp] theorem tyD_bool : tyD (.bool b) = "bool" := rfl
@[simp] theorem tyD_int {i : Int} : tyD (.int i) = "int" := rfl
@[simp] theorem tyD_str {s : Str} : tyD (.str s) = "str" := rfl
@[simp] theorem tyD_list {ds : List D} : tyD (.list ds) = "list" := rfl
@[simp] theorem tyD_tuple {ds : List D} : tyD (.tuple ds) = "tuple" := rfl
@[simp] theorem tyD_dict {ds : List (D × D)} : tyD (.dict ds) = "dict" := rfl
@[simp] theorem isTy_NoneType_int : isTy "NoneType" "int" = false := by decide
@[simp] theorem isTy_NoneType_bool : isTy "NoneType" "bool" = false := by decide
@[simp] theorem isTy_NoneType_str : isTy "NoneType" "str" = false := by decide
@[simp] theorem isTy_NoneType_list : isTy "NoneType" "list" = false := by decide
@[simp] theorem isTy_NoneType_tuple : isTy "NoneType" "tuple" = false := by decide
@[simp] theorem isTy_NoneType_dict : isTy "NoneType" "dict" = false := by decide
@[simp] theorem isTy_bool_str : isTy "bool" "str" = false := by decide
@[simp] theorem isTy_bool_list : isTy "bool" "list" = false := by decide
@[simp] theorem isTy_bool_tuple : isTy "bool" "tuple" = false := by decide
@[simp] theorem isTy_bool_dict : isTy "bool" "dict" = false := by decide
@[simp] theorem isTy_int_str : isTy "int" "str" = false := by decide
@[simp] theorem isTy_int_list : isTy "int" "list" = false := by decide
@[simp] theorem isTy_int_tuple : isTy "int" "tuple" = false := by decide
@[simp] theorem isTy_int_dict : isTy "int" "dict" = false := by decide
@[simp] theorem isTy_str_int : isTy "str" "int" = false := by decide
@[simp] theorem isTy_str_bool : isTy "str" "bool" = false := by decide
@[simp] theorem isTy_str_list : isTy "str" "list" = false := by decide
@[simp] theorem isTy_str_tuple : isTy "str" "tuple" = false := by decide
@[simp] theorem isTy_str_dict : isTy "str" "dict" = false := by decide
@[simp] theorem isTy_list_int : isTy "list" "int" = false := by decide
@[simp] theorem isTy_list_bool : isTy "list" "bool" = false := by decide
@[simp] theorem isTy_list_str : isTy "list" "str" = false := by decide
@[simp] theorem isTy_list_tuple : isTy "list" "tuple" = false := by decide
@[simp] theorem isTy_list_dict : isTy "list" "dict" = false := by decide
@[simp] theorem isTy_tuple_int : isTy "tuple" "int" = false := by decide
@[simp] theorem isTy_tuple_bool : isTy "tuple" "bool" = false := by decide
@[simp] theorem isTy_tuple_str : isTy "tuple" "str" = false := by decide
@[simp] theorem isTy_tuple_list : isTy "tuple" "list" = false := by decide
@[simp] theorem isTy_tuple_dict : isTy "tuple" "dict" = false := by decide
@[simp] theorem isTy_dict_int : isTy "dict" "int" = false := by decide
@[simp] theorem isTy_dict_bool : isTy "dict" "bool" = false := by decide
@[simp] theorem isTy_dict_str : isTy "dict" "str" = false := by decide
@[simp] theorem isTy_dict_list : isTy "dict" "list" = false := by decide
@[simp] theorem isTy_dict_tuple : isTy "dict" "tuple" = false := by decide
@[simp] theorem isTy_bool_int : isTy "bool" "int" = true := by decide
@[simp] theorem isTy_int_bool : isTy "int" "bool" = false := by decide
end
section
variable {i j : Int} {s t : Str} {b c : Bool} {ds es : List D} {α : Type}
@[simp] theorem gEq_int : gEq (.int i) (.int j) = some (.bool (i == j)) := by simp [gEq]
@[simp] theorem gNe_int : gNe (.int i) (.int j) = some (.bool (!(i == j))) := by simp [gNe]
@[simp] theorem gEq_str : gEq (.str s) (.str t) = some (.bool (s == t)) := by simp [gEq]
@[simp] theorem gNe_str : gNe (.str s) (.str t) = some (.bool (!(s == t))) := by simp [gNe]
@[simp] theorem gEq_bool : gEq (.bool b) (.bool c) = some (.bool (b == c)) := by simp [gEq]
@[simp] theorem gNe_bool : gNe (.bool b) (.bool c) = some (.bool (!(b == c))) := by simp [gNe]
@[simp] theorem gIn_str : gIn (.str s) (.str t) = some (.bool (strIn s t)) := rfl
@[simp] theorem gNotIn_str : gNotIn (.str s) (.str t) = some (.bool (!strIn s t)) := rfl
theorem boolsOf_bools (p : α → Bool) : ∀ xs : List α, boolsOf (xs.map fun x => PyData.bool (p x)) = some (xs.map p)
  | [] => rfl
  | x :: xs => by simp [boolsOf, boolsOf_bools p xs]
theorem allD_bools (p : α → Bool) (xs : List α) : DL.allD (.list (xs.map fun x => PyData.bool (p x))) = some (.bool (xs.all p)) := by
  show (boolsOf _).map _ = _
  rw [boolsOf_bools]
  simp [List.all_map]
theorem anyD_bools (p : α → Bool) (xs : List α) : DL.anyD (.list (xs.map fun x => PyData.bool (p x))) = some (.bool (xs.any p)) := by
  show (boolsOf _).map _ = _
  rw [boolsOf_bools]
  simp [List.any_map]
@[simp] theorem eqv_nil : PyData.eqv (.list []) (.list []) = true := rfl
@[simp] theorem eqv_nil_cons {d : D} : PyData.eqv (.list (d :: ds)) (.list []) = false := rfl
end
@[simp] theorem filter_tt {α : Type} (l : List α) : List.filter (fun _ => true) l = l := List.filter_eq_self.mpr fun _ _ => rfl
/-- a comprehension without tests, that changes nothing -/
theorem wp_comp_map {ρ : Rho} {vs : List Nat} {g : D → Rho → Option Rho} {f : M D} {fi : M (List D)} {Q : SV → Rho → Prop} (hf : D → D) (h : (fi ρ).wp fun ds ρ1 => vsOk ρ1 vs = true ∧
    (∀ d ∈ ds, ∃ ρ3, g d (wipeR ρ1 vs) = some ρ3 ∧ (f ρ3).wp fun y ρ5 => y = hf d ∧ wipeR ρ5 vs = wipeR ρ1 vs) ∧ Q (.l (ds.map hf)) (restR ρ1 (wipeR ρ1 vs) vs)) : (oComp vs fi g tYesM f ρ).wp Q :=
  wp_comp_pure (fun _ => true) hf (h.imp fun ds ρ1 ⟨hv, hs, q⟩ => ⟨hv, fun d hd => by
    obtain ⟨ρ3, e, w⟩ := hs d hd
    exact ⟨ρ3, e, rfl, fun _ => w, fun h => (nomatch h)⟩, by rw [filter_tt]; exact q⟩)
@[simp] theorem wipeR_nil {ρ : Rho} : wipeR ρ [] = ρ := rfl
@[simp] theorem wipeR_cons {ρ : Rho} {v : Nat} {vs : List Nat} : wipeR ρ (v :: vs) = (wipeR ρ vs).set v none := rfl
@[simp] theorem restR_nil {ρ ρ' : Rho} : restR ρ ρ' [] = ρ' := rfl
@[simp] theorem restR_cons {ρ ρ' : Rho} {v : Nat} {vs : List Nat} : restR ρ ρ' (v :: vs) = (restR ρ ρ' vs).set v ((ρ[v]?).getD none) := rfl
@[simp] theorem vsOk_nil {ρ : Rho} : vsOk ρ [] = true := rfl
@[simp] theorem vsOk_cons {ρ : Rho} {v : Nat} {vs : List Nat} : vsOk ρ (v :: vs) = ((match ρ[v]? with
  | some (some (.l _)) => false
  | some (some (.ll _)) => false
  | some (some (.k _)) => false
  | some (some (.t _)) => false
  | _ => true) && vsOk ρ vs) := rfl
/-- the signs of a text, the entries of a list -/
def strTl (d : D) : List Nat := match d with | .str z => z.cps.toList | _ => []
@[simp] theorem strTl_str {z : Str} : strTl (.str z) = z.cps.toList := rfl
def lstTl (d : D) : List D := match d with | .list z => z | .tuple z => z | _ => []
@[simp] theorem lstTl_list {z : List D} : lstTl (.list z) = z := rfl
@[simp] theorem lstTl_tuple {z : List D} : lstTl (.tuple z) = z := rfl
def intTl (d : D) : Int := match d with | .int i => i | _ => 0
@[simp] theorem intTl_int {i : Int} : intTl (.int i) = i := rfl
section
variable {ρ : Rho} {i j : Nat} {f f2 : M D} {Q : D → Rho → Prop}
@[simp] theorem wp_append : (eMutL opAppend i (aCons f aNil) ρ).wp Q ↔ (∃ xs, ρ[i]? = some (some (.l xs))) ∧ (f ρ).wp fun d ρ1 => ∃ xs, ρ1[i]? = some (some (.l xs)) ∧ xs.length < sizeLine ∧ Q .none (ρ1.set i (some (.l (xs ++ [d])))) := by
  rw [wp_mutL, wp_aCons]
  refine and_congr_right fun _ => ?_
  constructor <;> intro h <;> refine h.imp fun d ρ1 q => ?_
  · obtain ⟨xs, y, e, eo, q⟩ := q
    have eo' : (if xs.length < sizeLine then some (PyData.none, xs ++ [d]) else none) = some y := eo
    by_cases c : xs.length < sizeLine
    · rw [if_pos c] at eo'; cases eo'; exact ⟨xs, e, c, q⟩
    · rw [if_neg c] at eo'; cases eo'
  · obtain ⟨xs, e, c, q⟩ := q
    exact ⟨xs, (.none, xs ++ [d]), e, by show (if xs.length < sizeLine then _ else _) = _; rw [if_pos c], q⟩
@[simp] theorem wp_extend : (eMutL opExtend i (aCons f aNil) ρ).wp Q ↔ (∃ xs, ρ[i]? = some (some (.l xs))) ∧ (f ρ).wp fun d ρ1 => ∃ xs ys, ρ1[i]? = some (some (.l xs)) ∧ d = .list ys ∧ xs.length + ys.length ≤ sizeLine ∧ Q .none (ρ1.set i (some (.l (xs ++ ys)))) := by
  rw [wp_mutL, wp_aCons]
  refine and_congr_right fun _ => ?_
  constructor <;> intro h <;> refine h.imp fun d ρ1 q => ?_
  · obtain ⟨xs, y, e, eo, q⟩ := q
    cases d with
    | list ys =>
      have eo' : (if xs.length + ys.length ≤ sizeLine then some (PyData.none, xs ++ ys) else none) = some y := eo
      by_cases c : xs.length + ys.length ≤ sizeLine
      · rw [if_pos c] at eo'; cases eo'; exact ⟨xs, ys, e, rfl, c, q⟩
      · rw [if_neg c] at eo'; cases eo'
    | _ => cases eo
  · obtain ⟨xs, ys, e, rfl, c, q⟩ := q
    exact ⟨xs, (.none, xs ++ ys), e, by show (if xs.length + ys.length ≤ sizeLine then _ else _) = _; rw [if_pos c], q⟩
@[simp] theorem wp_pop : (eMutL opPop i aNil ρ).wp Q ↔ ∃ xs d, ρ[i]? = some (some (.l xs)) ∧ xs[xs.length - 1]? = some d ∧ Q d (ρ.set i (some (.l xs.dropLast))) := by
  rw [wp_mutL, wp_aNil]
  constructor
  · rintro ⟨_, xs, y, e, eo, q⟩
    have eo' : (xs[xs.length - 1]?).map (fun d => (d, xs.dropLast)) = some y := eo
    cases ed : xs[xs.length - 1]? with
    | none => rw [ed] at eo'; cases eo'
    | some d => rw [ed] at eo'; cases eo'; exact ⟨xs, d, e, ed, q⟩
  · rintro ⟨xs, d, e, ed, q⟩
    exact ⟨⟨xs, e⟩, xs, (d, xs.dropLast), e, by show (xs[xs.length - 1]?).map _ = _; rw [ed]; rfl, q⟩
end
@[simp] theorem vsOk_od (o : Option D) : (match (some (o.map SV.d) : Option (Option SV)) with
  | some (some (.l _)) => false
  | some (some (.ll _)) => false
  | some (some (.k _)) => false
  | some (some (.t _)) => false
  | _ => true) = true := by cases o <;> rfl
theorem sum_take (i : Nat) : ∀ xs : List Nat, (xs.take i).sum ≤ xs.sum := by
  induction i with
  | zero => intro xs; simp
  | succ i ih =>
    intro xs
    cases xs with
    | nil => simp
    | cons x r => rw [List.take_succ_cons, List.sum_cons, List.sum_cons]; have := ih r; omega
theorem mem_sum {x : Nat} : ∀ {xs : List Nat}, x ∈ xs → x ≤ xs.sum
  | y :: r, h => by
    rw [List.sum_cons]
    rcases List.mem_cons.mp h with h | h
    · omega
    · have := mem_sum h; omega
@[simp] theorem gTupD_tup {n : Nat} {gs : List D → Rho → Option Rho} {ds : List D} {ρ : Rho} : gTupD n gs (.tuple ds) ρ = if ds.length = n then gs ds ρ else none := rfl
@[simp] theorem gTupD_list {n : Nat} {gs : List D → Rho → Option Rho} {ds : List D} {ρ : Rho} : gTupD n gs (.list ds) ρ = if ds.length = n then gs ds ρ else none := rfl
@[simp] theorem gsNilD_nil {ρ : Rho} : gsNilD [] ρ = some ρ := rfl
@[simp] theorem gsConsD_cons {g : D → Rho → Option Rho} {gs : List D → Rho → Option Rho} {d : D} {ds : List D} {ρ : Rho} : gsConsD g gs (d :: ds) ρ = (g d ρ).bind (gs ds) := rfl
@[simp] theorem filter_ff {α : Type} (l : List α) : List.filter (fun _ => false) l = [] := List.filter_eq_nil_iff.mpr fun _ _ => Bool.false_ne_true
@[simp] theorem gEq_nil : gEq (.list []) (.list []) = some (.bool true) := rfl
theorem zipD_self : ∀ ds : List D, zipD ds ds = ds.map fun d => .tuple [d, d]
  | [] => rfl
  | d :: ds => by
    have := zipD_self ds
    unfold zipD at this ⊢
    simp [this]
@[simp] theorem wp_replC {y z : Str} {fo : M D} {ρ : Rho} {Q : D → Rho → Prop} : (eReplC y z fo ρ).wp Q ↔ (fo ρ).wp fun o ρ1 => ∃ x, o = .str x ∧ x.length + (x.length + 1) * z.length ≤ 16777216 ∧ (Txt.replace x y z).length ≤ sizeLine ∧ Q (.str (Txt.replace x y z)) ρ1 := by
  unfold eReplC
  rw [wp_bind]
  constructor <;> intro h <;> refine h.imp fun d ρ1 q => ?_
  · cases d with
    | str x =>
      dsimp only at q
      by_cases c : x.length + (x.length + 1) * z.length ≤ 16777216 ∧ (Txt.replace x y z).length ≤ sizeLine
      · rw [if_pos c] at q; exact ⟨x, rfl, c.1, c.2, q⟩
      · rw [if_neg c] at q; exact q.elim
    | _ => exact (wp_stuck.mp q).elim
  · obtain ⟨x, rfl, c1, c2, q⟩ := q
    dsimp only
    rw [if_pos ⟨c1, c2⟩]; exact q
@[simp] theorem wp_odict0 {x : SV} {ρ : Rho} {Q : SV → Rho → Prop} : (oDict0 x ρ).wp Q ↔ Q x ρ := Iff.rfl
@[simp] theorem wp_olistOf {f : M D} {ρ : Rho} {Q : SV → Rho → Prop} : (oListOf f ρ).wp Q ↔ (f ρ).wp fun d ρ1 => ∃ ds, listD d = some ds ∧ Q (.l ds) ρ1 := by
  unfold oListOf
  rw [wp_bind]
  constructor <;> intro h <;> refine h.imp fun d ρ1 q => ?_
  · cases e : listD d with
    | none => rw [e] at q; exact q.elim
    | some ds => rw [e] at q; exact ⟨ds, rfl, q⟩
  · obtain ⟨ds, e, q⟩ := q
    rw [e]; exact q
end DL

/-! The data layer: the head's facts of a module. -/
namespace DL
open PySem PySem.Spec PyProof.Rows L2
def eqB (a b : Option Bool) : Bool := match a, b with
  | some x, some y => x == y
  | none, none => true
  | _, _ => false
theorem eqB_ok {a b : Option Bool} (h : eqB a b = true) : a = b := by
  cases a <;> cases b <;> simp_all [eqB]
def excCB (K : PySem.W.Frag) (D : Addr) : Bool :=
  He.eqO (PySem.W.findIn K (.ref D) "__getattribute__") (some (some (.builtin "BaseException.__getattribute__"))) && He.eqO (PySem.W.findIn K (.ref D) "__getattr__") (some none) && eqB (PySem.W.subIn K (.ref D) (.type "BaseException")) (some true) && PySem.W.hasDictIn K D &&
  He.eqO (PySem.W.findIn K (.ref D) "__class__") (some (some (.builtin "object.__class__"))) && He.eqO (PySem.W.specialIn K (.builtin "object.__class__") "__get__") (some (some (.builtin "getset_descriptor.__get__"))) && eqB (PySem.W.takesIn K (.builtin "object.__class__")) (some true) && eqB (PySem.W.mroIn K D (.type "object")) (some true)
theorem excC_ok {K : PySem.W.Frag} {D : Addr} (h : excCB K D = true) : ExcC K D := by
  unfold excCB at h
  simp only [Bool.and_eq_true] at h
  obtain ⟨⟨⟨⟨⟨⟨⟨h1, h2⟩, h3⟩, h4⟩, h5⟩, h6⟩, h7⟩, h8⟩ := h
  exact ⟨He.eqO_ok h1, He.eqO_ok h2, eqB_ok h3, h4, He.eqO_ok h5, He.eqO_ok h6, eqB_ok h7, eqB_ok h8⟩
def extB (T : String → String → Bool) (xs ys : List String) (K : PySem.W.Frag) : Bool := xs.all fun x => He.eqO (PySem.W.nsIn K mainGlobals (Str.ofString x)) (some (some (.ref (He.ga K (Str.ofString x))))) && excCB K (He.ga K (Str.ofString x)) && ys.all fun y =>
  He.eqO (PySem.W.nsIn K mainGlobals (Str.ofString y)) (some (some (.ref (He.ga K (Str.ofString y))))) && eqB (PySem.W.exmOne K (.ref (He.ga K (Str.ofString x))) (.ref (He.ga K (Str.ofString y)))) (some (T x y)) && eqB (PySem.W.kitOne K (.ref (He.ga K (Str.ofString x))) (.ref (He.ga K (Str.ofString y)))) (some (T x y))
theorem ext_ok {T : String → String → Bool} {xs ys : List String} {K : PySem.W.Frag} {h : Heap} {mg : Str → Option Value} (X : K.In h) (G : h.Ns mainGlobals mg) (e : extB T xs ys K = true) : ExT K mg T xs ys := by
  refine ⟨fun x hx C hC => ?_⟩
  have h1 := List.all_eq_true.mp e x hx
  simp only [Bool.and_eq_true, List.all_eq_true] at h1
  obtain ⟨⟨g1, h2⟩, h3⟩ := h1
  have g2 := PySem.W.mg_of X G (He.eqO_ok g1)
  rw [hC] at g2
  cases g2
  refine ⟨excC_ok h2, fun y hy => ?_⟩
  obtain ⟨⟨g3, h4⟩, h5⟩ := h3 y hy
  exact ⟨_, PySem.W.mg_of X G (He.eqO_ok g3), eqB_ok h4, eqB_ok h5⟩
theorem err_ok {K : PySem.W.Frag} {h : Heap} {mg : Str → Option Value} (X : K.In h) (G : h.Ns mainGlobals mg) {x : String} (c : (He.Fa.glo (Str.ofString x)).ok K = true) (e : (He.Fa.exc (Str.ofString x)).ok K = true) : ∃ C, ErrOk K mg x C := by
  obtain ⟨a, b, d, t⟩ := He.exc_ok e
  exact ⟨_, He.glo_ok X G c, a, b, d, t⟩
/-- the Hook: facts, defs, one more look -/
def hookX (n : Nat) (fa : List He.Fa) (fn : List He.DefD) (xb : PySem.W.Frag → Bool) : PySem.W.Hook where
  α := He.AlD × Bool
  obs := fun s => (He.obsDG n fa fn s.heap.get?, xb (He.frG s.heap.get? (He.asD s.heap.get? n)))
  val := fun _ => (He.valD fn, true)
  says := fun _ h => ∃ K : PySem.W.Frag, K.In h ∧ He.SaysD fa fn K ∧ xb K = true
  of := fun _ _ e => ⟨_, He.frG_in, congrArg Prod.fst e, congrArg Prod.snd e⟩
  keeps := fun _ _ _ ⟨K, hK, c⟩ k => ⟨K, PySem.W.Frag.In.keeps hK k, c⟩
def obX (n : Nat) (fa : List He.Fa) (fn : List He.DefD) (xb : PySem.W.Frag → Bool) (s : PySem.W.SharedT) : He.AlD × Bool := (He.obsDG n fa fn (HandSHeadRun.getT s), xb (He.frG (HandSHeadRun.getT s) (He.asD (HandSHeadRun.getT s) n)))
theorem obX_eq {n : Nat} {fa : List He.Fa} {fn : List He.DefD} {xb : PySem.W.Frag → Bool} (s : PySem.W.SharedT) : obX n fa fn xb s = (hookX n fa fn xb).obs s.abs := by
  have e : HandSHeadRun.getT s = s.abs.heap.get? := funext (HandSHeadRun.getT_eq s)
  unfold obX hookX
  rw [e]
end DL
namespace DL
open PySem PySem.Spec PyProof.Rows L2
/-- the end of a law: what a def may let out is the world's own matter -/
theorem law_walk {l : PySem.W.OpenLaw} {k : Nat} {q P : Program} {names : List Str} {XP : (Str → Option Value) → Heap → Prop} {says : World → Heap → Prop} {d : DefRec}
    (most : l.most = some 63) (plain : d.params.defaults = []) (room : Room k callerA) (hP : l.prog = P)
    (F : ∀ (w : World) (mg : Str → Option Value) (fa : Addr) (h : Heap), says w h → h.Ns mainGlobals mg → mg d.name = some (.ref fa) →
      ∃ K fd, K.In h ∧ (∀ (s : Shared) (u : Value), BindsTo s fd ⟨[u], []⟩ [("script", u)]) ∧ ∀ base : Heap, K.In base → base.Ns mainGlobals mg → FnOk P w K mg base (L2.CX P w) k fa fd ["script"] (spLaw K)) :
    PySem.W.WalkO q names XP says l.row.toRowW d [] (fun f vs => PySem.call f vs) := by
  subst hP
  refine Att.attach_call most plain fun w s0 s1 mg mb fa o pm cd doc a vs ns gr sy _ _ _ named there isi len gens => ?_
  obtain ⟨K, fd, kin, binds, keeps⟩ := F w mg fa _ sy gr.T.g named
  have spl : ∀ H : Hp, Only H → SqL K H a (ns.map V.int) → spLaw K [.ref a] H (fun v _ => v = .bl true) fun _ _ _ => False := fun H _ seq => ⟨a, ns, rfl, len, seq, fun _ => rfl⟩
  refine law_call kin gr.T.g gr.T.b gr.T.builtins gr.T.nolimit gens there isi (Nat.le_trans len (by decide)) room keeps binds spl fun H e s' c => ?_
  obtain ⟨_, _, _, _, _, _, _, _, _, _, _, _, no⟩ := c
  exact no
end DL

namespace Lk60
open PySem PySem.Spec PyProof.Rows L2 DL
def top (i : Nat) : Stmt := PySem.Challenge.pw_shorestree_k60_whole_texts_that_are_no_p.main.body.getD i (.Pass ⟨0, 0, 0, 0⟩)
abbrev FnP (K : PySem.W.Frag) (x : Str) (st : Stmt) (f : Addr) (fd : FuncData) : Prop := FunD K x x (defArgs st) (defBody st) (defScope st) [] [] f fd
def errXs : List String := ["BadPicture"]
def errYs : List String := ["ShoreError", "BadPicture"]
def errT (x y : String) : Bool := x == y || y == "ShoreError"
structure Ev (K : PySem.W.Frag) (mg : Str → Option Value) : Prop where
  bl : Bl mg
  g_MOST_CELLS : ∃ t, mg "MOST_CELLS" = some (.int 600 t)
  g_MOST_LENGTH : ∃ t, mg "MOST_LENGTH" = some (.int 40 t)
  g_SIGNS : ∃ t, mg "SIGNS" = some (.str ".#o+x*" t)
  e_BadPicture : ∃ C, ErrOk K mg "BadPicture" C
  ext : ExT K mg errT errXs errYs
  k_ShoreError : mg (Str.ofString "ShoreError") = some (.ref (He.ga K "ShoreError"))
  k_BadPicture : mg (Str.ofString "BadPicture") = some (.ref (He.ga K "BadPicture"))
section
variable {P : Program} {w : World} {K : PySem.W.Frag} {mg : Str → Option Value} {base : Heap} {f : Addr} {fd : FuncData}
def G_read_picture : G := gSeq (gIf (tOrM (tNotM (tOfE (eIsi "str" (eVar 0)))) (tOfE (eOp gGt (eCall1 lenS (eSlot 0)) (eOp gMul (eC (.int 2)) (eC (.int 600)))))) (gErr "BadPicture") (gNext)) (gSeq (gSet (setD [] 1) (eMethT gSplit (eVar 0) (aCons (eC (.str "\n")) aNil))) (gSeq (gParN [] [2, 3] (oCons (oD (eCall1 lenS (eSlot 1))) (oCons (oD (eCall1 lenS (eOp gIx (eVar 1) (eC (.int 0))))) (oNil)))) (gSeq (gIf (tOrM (tNotM (tOfE (eChain gLe gLe (eC (.int 1)) (eVar 3) (eC (.int 40))))) (tOrM (tOfE (eOp gGt (eVar 2) (eC (.int 40)))) (tOfE (eOp gGt (eOp gMul (eVar 2) (eVar 3)) (eC (.int 600)))))) (gErr "BadPicture") (gNext)) (gSeq (gIf (tNotM (tOfE (eCall1 allD (eFrz (oComp [4] (iSeq (eVar 1)) (setD [] 4) (tYesM) (eAndM (eOp gEq (eCall1 lenS (eSlot 4)) (eVar 3)) (eCall1 allD (eFrz (oComp [5] (iSeq (eVar 4)) (setD [] 5) (tYesM) (eOp gIn (eVar 5) (eC (.str ".#o+x*")))))))))))) (gErr "BadPicture") (gNext)) (gRet (eTup (aCons (eVar 2) (aCons (eVar 3) (aCons (eCall1 tupL (eFrz (oComp2 [4, 5] (iSeq (eVar 1)) (setD [] 4) (tTwo (tYesM) (iSeq (eVar 4)) [5] (setD [] 5) (tOne (tYesM) (eMethT gSIndex (eC (.str ".#o+x*")) (aCons (eVar 5) aNil))))))) (aNil))))))))))
def F_read_picture : F0 := fn0 6 G_read_picture
abbrev P_read_picture : List Str := ["text"]
abbrev N_read_picture : List Str := ["text", "lines", "rows", "columns", "line", "sign"]
theorem nd_read_picture : N_read_picture.Nodup := by decide +kernel
theorem ok_read_picture (ev : Ev K mg) (F : FnP K "read_picture" (top 7) f fd) (gm : mg "read_picture" = some (.ref f))  : Fn0 P w K mg base 1 "read_picture" P_read_picture F_read_picture :=
  have nd := nd_read_picture
  fn0_ok (N := N_read_picture) F gm (FunD.bindsN (ps := P_read_picture) F fun _ _ _ _ _ _ us hl => match us, hl with | [_], _ => rfl) ⟨rfl, rfl, rfl, nd, rfl, by decide +kernel, by decide +kernel⟩ (fun E => show JSs (gam P w K mg base N_read_picture (defScope (top 7)) 0 [] E) (defBody (top 7)) G_read_picture from jss_cons (js_if (jt_w (jw_or (jt_not (jt_val (je_isi "str" ev.bl (by decide) ev.bl.str PyProof.Rows.boot_str (je_var 0)))) (jw_or1 (JC.t (jc_gt (je_len ev.bl (jv_slot 0)) (je_mul (je_int) (je_globI ev.g_MOST_CELLS))))))) (jss_one (js_raiseE "BadPicture" ev.e_BadPicture rfl)) (jss_nil)) (jss_cons (js_set 1 nd (je_split (je_var 0) (je_str))) (jss_cons (js_parT rfl (jao_cons (jo_of (je_len ev.bl (jv_slot 1))) (jao_cons (jo_of (je_len ev.bl (jv_of (je_ix (je_var 1) (je_int))))) (jao_nil))) (nms_cons 2 nd (nms_cons 3 nd (nms_nil)))) (jss_cons (js_if (jt_w (jw_or (jt_not (JC.t (jc_lele (je_int) (je_var 3) (je_globI ev.g_MOST_LENGTH)))) (jw_or (JC.t (jc_gt (je_var 2) (je_globI ev.g_MOST_LENGTH))) (jw_or1 (JC.t (jc_gt (je_mul (je_var 2) (je_var 3)) (je_globI ev.g_MOST_CELLS))))))) (jss_one (js_raiseE "BadPicture" ev.e_BadPicture rfl)) (jss_nil)) (jss_cons (js_if (jt_not (jt_val (je_all ev.bl rfl (jv_of (je_new (jo_comp (own := [("line", 4)]) (vs := [4]) (ws := [4]) rfl nd (ji_seq (je_var 1)) (blk_ok (by kernel_rfl)) rfl (jg_name 4 nd) (by decide) (jts_nil) (je_and (JC.e (jc_eq (je_len ev.bl (jv_slot 4)) (je_var 3))) (je_one (je_all ev.bl rfl (jv_of (je_new (jo_comp (own := [("sign", 5)]) (vs := [5]) (ws := [5]) rfl nd (ji_seq (je_var 4)) (blk_ok (by kernel_rfl)) rfl (jg_name 5 nd) (by decide) (jts_nil) (JC.e (jc_in (je_var 5) (je_globS ev.g_SIGNS))))))))))))))) (jss_one (js_raiseE "BadPicture" ev.e_BadPicture rfl)) (jss_nil)) (jss_one (js_ret (je_tup (ja_cons (je_var 2) (ja_cons (je_var 3) (ja_cons (je_tupleL ev.bl (jv_of (je_new (jo_comp2 (own := [("line", 4), ("sign", 5)]) (vs := [4, 5]) (vs1 := [5]) (ws := [4]) (ws1 := [5]) rfl nd (ji_seq (je_var 1)) (blk_ok (by kernel_rfl)) rfl (jg_name 4 nd) (by decide) (jts_nil) (ji_seq (je_var 4)) (jg_name 5 nd) (by decide) (by decide) (jts_nil) (je_sindex (je_globS ev.g_SIGNS) (je_var 5)))))) (ja_nil))))))))))))
theorem okk_read_picture (ev : Ev K mg) (F : FnP K "read_picture" (top 7) f fd) (gm : mg "read_picture" = some (.ref f))  : FnK P w K mg base 1 "read_picture" P_read_picture F_read_picture :=
  have nd := nd_read_picture
  fnk_ok (N := N_read_picture) F gm (FunD.kwb (ps := P_read_picture) F fun _ _ _ _ _ _ us hl => match us, hl with | [_], _ => by kernel_rfl) ⟨rfl, rfl, rfl, nd, rfl, by decide +kernel, by decide +kernel⟩ (fun E => show JSs (gam P w K mg base N_read_picture (defScope (top 7)) 0 [] E) (defBody (top 7)) G_read_picture from jss_cons (js_if (jt_w (jw_or (jt_not (jt_val (je_isi "str" ev.bl (by decide) ev.bl.str PyProof.Rows.boot_str (je_var 0)))) (jw_or1 (JC.t (jc_gt (je_len ev.bl (jv_slot 0)) (je_mul (je_int) (je_globI ev.g_MOST_CELLS))))))) (jss_one (js_raiseE "BadPicture" ev.e_BadPicture rfl)) (jss_nil)) (jss_cons (js_set 1 nd (je_split (je_var 0) (je_str))) (jss_cons (js_parT rfl (jao_cons (jo_of (je_len ev.bl (jv_slot 1))) (jao_cons (jo_of (je_len ev.bl (jv_of (je_ix (je_var 1) (je_int))))) (jao_nil))) (nms_cons 2 nd (nms_cons 3 nd (nms_nil)))) (jss_cons (js_if (jt_w (jw_or (jt_not (JC.t (jc_lele (je_int) (je_var 3) (je_globI ev.g_MOST_LENGTH)))) (jw_or (JC.t (jc_gt (je_var 2) (je_globI ev.g_MOST_LENGTH))) (jw_or1 (JC.t (jc_gt (je_mul (je_var 2) (je_var 3)) (je_globI ev.g_MOST_CELLS))))))) (jss_one (js_raiseE "BadPicture" ev.e_BadPicture rfl)) (jss_nil)) (jss_cons (js_if (jt_not (jt_val (je_all ev.bl rfl (jv_of (je_new (jo_comp (own := [("line", 4)]) (vs := [4]) (ws := [4]) rfl nd (ji_seq (je_var 1)) (blk_ok (by kernel_rfl)) rfl (jg_name 4 nd) (by decide) (jts_nil) (je_and (JC.e (jc_eq (je_len ev.bl (jv_slot 4)) (je_var 3))) (je_one (je_all ev.bl rfl (jv_of (je_new (jo_comp (own := [("sign", 5)]) (vs := [5]) (ws := [5]) rfl nd (ji_seq (je_var 4)) (blk_ok (by kernel_rfl)) rfl (jg_name 5 nd) (by decide) (jts_nil) (JC.e (jc_in (je_var 5) (je_globS ev.g_SIGNS))))))))))))))) (jss_one (js_raiseE "BadPicture" ev.e_BadPicture rfl)) (jss_nil)) (jss_one (js_ret (je_tup (ja_cons (je_var 2) (ja_cons (je_var 3) (ja_cons (je_tupleL ev.bl (jv_of (je_new (jo_comp2 (own := [("line", 4), ("sign", 5)]) (vs := [4, 5]) (vs1 := [5]) (ws := [4]) (ws1 := [5]) rfl nd (ji_seq (je_var 1)) (blk_ok (by kernel_rfl)) rfl (jg_name 4 nd) (by decide) (jts_nil) (ji_seq (je_var 4)) (jg_name 5 nd) (by decide) (by decide) (jts_nil) (je_sindex (je_globS ev.g_SIGNS) (je_var 5)))))) (ja_nil))))))))))))
def G_law_feed : G := gSeq (gSet (setD [] 2) (eOp gAdd (eOp gMul (eC (.int 8849)) (eVar 1)) (eOp gMul (eC (.int 137)) (eCall1 sumD (eSlS 0 (pNone) (pSome (eC (.int 3)))))))) (gSeq (gIf (tOfE (eOp gLt (eVar 1) (eCall1 lenS (eSlot 0)))) (gSet (setD [] 2) (eOpS gIx 0 (eVar 1))) (gNext)) (gRetO (oLst (aCons (eCall2 maxD (eC (.int 0)) (eOp gSub (eVar 2) (eOp gPow (eC (.int 10)) (eC (.int 18))))) (aCons (eOp gMod (eCall1 intD (eOp gAdd (eOp gAdd (eOp gMul (eVar 2) (eC (.int 667))) (eOp gMul (eC (.int 163)) (eVar 1))) (eC (.int 341)))) (eOp gAdd (eOp gPow (eC (.int 10)) (eC (.int 40))) (eC (.int 121)))) (aCons (eC (.int 0)) (aNil)))))))
def F_law_feed : Fs := fns 3 G_law_feed
abbrev P_law_feed : List Str := ["script", "k"]
abbrev N_law_feed : List Str := ["script", "k", "cell"]
theorem nd_law_feed : N_law_feed.Nodup := by decide +kernel
theorem ok_law_feed (ev : Ev K mg) (F : FnP K "_law_feed" (top 9) f fd) (gm : mg "_law_feed" = some (.ref f))  : FnS P w K mg base 1 "_law_feed" P_law_feed F_law_feed :=
  have nd := nd_law_feed
  fns_ok (N := N_law_feed) F gm (FunD.bindsN (ps := P_law_feed) F fun _ _ _ _ _ _ us hl => match us, hl with | [_, _], _ => rfl) ⟨rfl, rfl, rfl, nd, rfl, by decide +kernel, by decide +kernel⟩ (fun E => show JSs (gam P w K mg base N_law_feed (defScope (top 9)) 0 [] E) (defBody (top 9)) G_law_feed from jss_cons (js_set 2 nd (je_add (je_mul (je_int) (je_var 1)) (je_mul (je_int) (je_sum ev.bl rfl (jv_of (je_slS 0 (jp_none) (jp_some (je_int)))))))) (jss_cons (js_if (JC.t (jc_lt (je_var 1) (je_len ev.bl (jv_slot 0)))) (jss_one (js_set 2 nd (je_ixS 0 (je_var 1)))) (jss_nil)) (jss_one (js_retO (jo_lst (ja_cons (je_max2 ev.bl rfl (je_int) (je_sub (je_var 2) (je_pow (je_int) (je_int)))) (ja_cons (je_mod (je_int1 ev.bl (jv_of (je_add (je_add (je_mul (je_var 2) (je_int)) (je_mul (je_int) (je_var 1))) (je_int)))) (je_add (je_pow (je_int) (je_int)) (je_int))) (ja_cons (je_int) (ja_nil)))))))))
def G_law_draw : G := gSeq (gIf (tOfE (eOp gGt (eOpS gIx 0 (eC (.int 0))) (eC (.int 0)))) (gSeq (gSet (setD [0] 2) (eOp gMod (eCall1 intD (eOpS gIx 0 (eC (.int 0)))) (eVar 1))) (gSeq (gPut 0 (eC (.int 0)) (eOp gDiv (eOpS gIx 0 (eC (.int 0))) (eVar 1))) (gRet (eVar 2)))) (gNext)) (gSeq (gPut 0 (eC (.int 2)) (eOp gAdd (eOpS gIx 0 (eC (.int 2))) (eC (.int 1)))) (gSeq (gSet (setD [0] 3) (eOp gAdd (eOpS gIx 0 (eC (.int 1))) (eOp gMul (eC (.int 86038403)) (eOpS gIx 0 (eC (.int 2)))))) (gSeq (gSet (setD [0] 3) (eOp gMod (eCall1 intD (eOp gAdd (eOp gAdd (eOp gMul (eOp gMul (eVar 3) (eVar 3)) (eVar 3)) (eOp gMul (eC (.int 49987043)) (eOpS gIx 0 (eC (.int 2))))) (eC (.int 7)))) (eOp gAdd (eOp gPow (eC (.int 10)) (eC (.int 41))) (eC (.int 81))))) (gSeq (gSet (setD [0] 3) (eOp gMod (eCall1 intD (eOp gAdd (eOp gMul (eVar 3) (eVar 3)) (eC (.int 982458127)))) (eOp gAdd (eOp gPow (eC (.int 10)) (eC (.int 38))) (eC (.int 133))))) (gRet (eOp gMod (eCall1 intD (eOp gDiv (eVar 3) (eOp gPow (eC (.int 10)) (eC (.int 9))))) (eVar 1)))))))
def F_law_draw : F1 := fn1 4 G_law_draw
abbrev P_law_draw : List Str := ["feed", "many"]
abbrev N_law_draw : List Str := ["feed", "many", "got", "stir"]
theorem nd_law_draw : N_law_draw.Nodup := by decide +kernel
theorem ok_law_draw (ev : Ev K mg) (F : FnP K "_law_draw" (top 10) f fd) (gm : mg "_law_draw" = some (.ref f))  : Fn1 P w K mg base 1 "_law_draw" P_law_draw F_law_draw :=
  have nd := nd_law_draw
  fn1_ok (N := N_law_draw) F gm (FunD.bindsN (ps := P_law_draw) F fun _ _ _ _ _ _ us hl => match us, hl with | [_, _], _ => rfl) ⟨rfl, rfl, rfl, nd, rfl, by decide +kernel, by decide +kernel⟩ (fun E => show JSs (gam P w K mg base N_law_draw (defScope (top 10)) 0 [0] E) (defBody (top 10)) G_law_draw from jss_cons (js_if (JC.t (jc_gt (je_ixS 0 (je_int)) (je_int))) (jss_cons (js_set 2 nd (je_mod (je_int1 ev.bl (jv_of (je_ixS 0 (je_int)))) (je_var 1))) (jss_cons (js_put 0 (je_div (je_ixS 0 (je_int)) (je_var 1)) (je_int)) (jss_one (js_ret (je_var 2))))) (jss_nil)) (jss_cons (js_put 0 (je_add (je_ixS 0 (je_int)) (je_int)) (je_int)) (jss_cons (js_set 3 nd (je_add (je_ixS 0 (je_int)) (je_mul (je_int) (je_ixS 0 (je_int))))) (jss_cons (js_set 3 nd (je_mod (je_int1 ev.bl (jv_of (je_add (je_add (je_mul (je_mul (je_var 3) (je_var 3)) (je_var 3)) (je_mul (je_int) (je_ixS 0 (je_int)))) (je_int)))) (je_add (je_pow (je_int) (je_int)) (je_int)))) (jss_cons (js_set 3 nd (je_mod (je_int1 ev.bl (jv_of (je_add (je_mul (je_var 3) (je_var 3)) (je_int)))) (je_add (je_pow (je_int) (je_int)) (je_int)))) (jss_one (js_ret (je_mod (je_int1 ev.bl (jv_of (je_div (je_var 3) (je_pow (je_int) (je_int))))) (je_var 1)))))))))
def G_law_one : G := gRet (eOp gIx (eVar 1) (eFrz (oCall1 F_law_draw 0 (aCons (eCall1 lenS (eSlot 1)) (aNil)))))
def F_law_one : F1 := fn1 2 G_law_one
abbrev P_law_one : List Str := ["feed", "things"]
abbrev N_law_one : List Str := ["feed", "things"]
theorem nd_law_one : N_law_one.Nodup := by decide +kernel
theorem ok_law_one (ev : Ev K mg) (F : FnP K "_law_one" (top 11) f fd) (gm : mg "_law_one" = some (.ref f)) (h_law_draw : Fn1 P w K mg base 1 "_law_draw" P_law_draw F_law_draw) : Fn1 P w K mg base 2 "_law_one" P_law_one F_law_one :=
  have nd := nd_law_one
  fn1_ok (N := N_law_one) F gm (FunD.bindsN (ps := P_law_one) F fun _ _ _ _ _ _ us hl => match us, hl with | [_, _], _ => rfl) ⟨rfl, rfl, rfl, nd, rfl, by decide +kernel, by decide +kernel⟩ (fun E => show JSs (gam P w K mg base N_law_one (defScope (top 11)) 1 [0] E) (defBody (top 11)) G_law_one from jss_one (js_ret (je_ix (je_var 1) (je_new (jo_call1 0 h_law_draw (Nat.le_of_ble_eq_true rfl) rfl rfl (ja_cons (je_len ev.bl (jv_slot 1)) (ja_nil)))))))
def G_law_same (F : F0) : G := gSeq (gIf (tOfE (eOp gIs (eVar 1) (eC .none))) (gRet (eOp gIs (eVar 0) (eC .none))) (gNext)) (gSeq (gIf (tOfE (eIsi "bool" (eVar 1))) (gRet (eAndM (eIsi "bool" (eVar 0)) (eOp gEq (eVar 0) (eVar 1)))) (gNext)) (gSeq (gIf (tOfE (eIsi "int" (eVar 1))) (gRet (eAndM (eIsi "int" (eVar 0)) (eAndM (eNotM (eIsi "bool" (eVar 0))) (eOp gEq (eVar 0) (eVar 1))))) (gNext)) (gSeq (gIf (tOfE (eIsi "str" (eVar 1))) (gRet (eAndM (eIsi "str" (eVar 0)) (eOp gEq (eVar 0) (eVar 1)))) (gNext)) (gSeq (gIf (tOrM (tOfE (eOp gNe (eIsi "list" (eVar 1)) (eIsi "list" (eVar 0)))) (tOrM (tNotM (tOfE (eIsi2 "list" "tuple" (eVar 0)))) (tOfE (eOp gNe (eCall1 lenS (eSlot 0)) (eCall1 lenS (eSlot 1)))))) (gRet (eC (.bool false))) (gNext)) (gRet (eOp gEq (eFrz (oComp [2, 3] (iZipM (eVar 0) (eVar 1)) (gTupD 2 (gsConsD (setD [] 2) (gsConsD (setD [] 3) (gsNilD)))) (tNotM (tOfE (eFrz (oCall F (aCons (eVar 2) (aCons (eVar 3) (aNil))))))) (eC (.int 1)))) (eFrz (oLst (aNil)))))))))
def F_law_same : Nat → F0
  | 0 => fun _ => .stuck
  | n + 1 => fn0 4 (G_law_same (F_law_same n))
abbrev P_law_same : List Str := ["told", "due"]
abbrev N_law_same : List Str := ["told", "due", "one", "other"]
theorem nd_law_same : N_law_same.Nodup := by decide +kernel
theorem ok_law_same (ev : Ev K mg) (F : FnP K "_law_same" (top 12) f fd) (gm : mg "_law_same" = some (.ref f))  : ∀ n, Fn0 P w K mg base (0 + n) "_law_same" P_law_same (F_law_same n)
  | 0 => fn0_stuck F gm (FunD.bindsN (ps := P_law_same) F fun _ _ _ _ _ _ us hl => match us, hl with | [_, _], _ => rfl)
  | n + 1 =>
    have nd := nd_law_same
    have hF := ok_law_same ev F gm  n
    fn0_ok (N := N_law_same) F gm (FunD.bindsN (ps := P_law_same) F fun _ _ _ _ _ _ us hl => match us, hl with | [_, _], _ => rfl) ⟨rfl, rfl, rfl, nd, rfl, by decide +kernel, by decide +kernel⟩ (fun E => show JSs (gam P w K mg base N_law_same (defScope (top 12)) (0 + n) [] E) (defBody (top 12)) (G_law_same (F_law_same n)) from jss_cons (js_if (JC.t (jc_is (je_var 1) (je_non))) (jss_one (js_ret (JC.e (jc_is (je_var 0) (je_non))))) (jss_nil)) (jss_cons (js_if (jt_val (je_isi "bool" ev.bl (by decide) ev.bl.bool PyProof.Rows.boot_bool (je_var 1))) (jss_one (js_ret (je_and (je_isi "bool" ev.bl (by decide) ev.bl.bool PyProof.Rows.boot_bool (je_var 0)) (je_one (JC.e (jc_eq (je_var 0) (je_var 1))))))) (jss_nil)) (jss_cons (js_if (jt_val (je_isi "int" ev.bl (by decide) ev.bl.int PyProof.Rows.boot_int (je_var 1))) (jss_one (js_ret (je_and (je_isi "int" ev.bl (by decide) ev.bl.int PyProof.Rows.boot_int (je_var 0)) (je_and (je_not (je_isi "bool" ev.bl (by decide) ev.bl.bool PyProof.Rows.boot_bool (je_var 0))) (je_one (JC.e (jc_eq (je_var 0) (je_var 1)))))))) (jss_nil)) (jss_cons (js_if (jt_val (je_isi "str" ev.bl (by decide) ev.bl.str PyProof.Rows.boot_str (je_var 1))) (jss_one (js_ret (je_and (je_isi "str" ev.bl (by decide) ev.bl.str PyProof.Rows.boot_str (je_var 0)) (je_one (JC.e (jc_eq (je_var 0) (je_var 1))))))) (jss_nil)) (jss_cons (js_if (jt_w (jw_or (JC.t (jc_ne (je_isi "list" ev.bl (by decide) ev.bl.list PyProof.Rows.boot_list (je_var 1)) (je_isi "list" ev.bl (by decide) ev.bl.list PyProof.Rows.boot_list (je_var 0)))) (jw_or (jt_not (jt_val (je_isi2 "list" "tuple" ev.bl (by decide) (by decide) ev.bl.list PyProof.Rows.boot_list ev.bl.tuple PyProof.Rows.boot_tuple (je_var 0)))) (jw_or1 (JC.t (jc_ne (je_len ev.bl (jv_slot 0)) (je_len ev.bl (jv_slot 1)))))))) (jss_one (js_ret (je_bl))) (jss_nil)) (jss_one (js_ret (JC.e (jc_eq (je_new (jo_comp (own := [("one", 2), ("other", 3)]) (vs := [2, 3]) (ws := [2, 3]) rfl nd (ji_zip ev.bl (je_var 0) (je_var 1)) (blk_ok (by kernel_rfl)) rfl (jg_tup rfl (jgs_cons (jg_name 2 nd) (jgs_cons (jg_name 3 nd) (jgs_nil)))) (by decide) (jts_one (jt_not (jt_val (je_new (jo_call hF (Nat.le_refl _) rfl rfl (ja_cons (je_var 2) (ja_cons (je_var 3) (ja_nil)))))))) (je_int))) (je_new (jo_lst (ja_nil))))))))))))
def B1_law_due : G := gIf (tOfE (eOp gEq (eVar 3) (eC (.str "\n")))) (gSeq (gDrop (eMutL opAppend 1 (aCons (eVar 2) (aNil)))) (gSet (setD [] 2) (eC (.str "")))) (gSet (setD [] 2) (eOp gAdd (eVar 2) (eVar 3)))
def B2_law_due : G := gSeq (gIf (tOrM (tOfE (eOp gNe (eCall1 lenS (eSlot 2)) (eVar 4))) (tOfE (eOp gNe (eFrz (oComp [3] (iSeq (eVar 2)) (setD [] 3) (tOfE (eOp gNotIn (eVar 3) (eC (.str ".#o+x*")))) (eVar 3))) (eFrz (oLst (aNil)))))) (gRet (eC .none)) (gNext)) (gDrop (eMutL opExtend 5 (aCons (eFrz (oComp [3] (iSeq (eVar 2)) (setD [] 3) (tYesM) (eMethT gSIndex (eC (.str ".#o+x*")) (aCons (eVar 3) aNil)))) (aNil))))
def G_law_due : G := gSeq (gIf (tNotM (tOfE (eIsi "str" (eVar 0)))) (gRet (eC .none)) (gNext)) (gSeq (gParN [] [1, 2] (oCons (oLst (aNil)) (oCons (oD (eC (.str ""))) (oNil)))) (gSeq (gForM (iSeq (eOp gAdd (eVar 0) (eC (.str "\n")))) (setD [] 3) (B1_law_due)) (gSeq (gParN [] [4, 5] (oCons (oD (eCall1 lenS (eOpS gIx 1 (eC (.int 0))))) (oCons (oLst (aNil)) (oNil)))) (gSeq (gIf (tOrM (tNotM (tOfE (eChain gLe gLe (eC (.int 1)) (eVar 4) (eC (.int 40))))) (tOrM (tOfE (eOp gGt (eCall1 lenS (eSlot 1)) (eC (.int 40)))) (tOfE (eOp gGt (eOp gMul (eCall1 lenS (eSlot 1)) (eVar 4)) (eC (.int 600)))))) (gRet (eC .none)) (gNext)) (gSeq (gFrz 1 [] (gForM (iSeq (eVar 1)) (setD [] 2) (B2_law_due))) (gRet (eTup (aCons (eCall1 lenS (eSlot 1)) (aCons (eVar 4) (aCons (eCall1 tupL (eSlot 5)) (aNil)))))))))))
def F_law_due : F0 := fn0 6 G_law_due
abbrev P_law_due : List Str := ["text"]
abbrev N_law_due : List Str := ["text", "lines", "line", "sign", "columns", "found"]
theorem nd_law_due : N_law_due.Nodup := by decide +kernel
theorem ok_law_due (ev : Ev K mg) (F : FnP K "_law_due" (top 13) f fd) (gm : mg "_law_due" = some (.ref f))  : Fn0 P w K mg base 1 "_law_due" P_law_due F_law_due :=
  have nd := nd_law_due
  fn0_ok (N := N_law_due) F gm (FunD.bindsN (ps := P_law_due) F fun _ _ _ _ _ _ us hl => match us, hl with | [_], _ => rfl) ⟨rfl, rfl, rfl, nd, rfl, by decide +kernel, by decide +kernel⟩ (fun E => show JSs (gam P w K mg base N_law_due (defScope (top 13)) 0 [] E) (defBody (top 13)) G_law_due from jss_cons (js_if (jt_not (jt_val (je_isi "str" ev.bl (by decide) ev.bl.str PyProof.Rows.boot_str (je_var 0)))) (jss_one (js_ret (je_non))) (jss_nil)) (jss_cons (js_par2 1 2 rfl nd (jao_cons (jo_lst (ja_nil)) (jao_cons (jo_of (je_str)) (jao_nil)))) (jss_cons (js_for rfl (ji_seq (je_add (je_var 0) (je_str))) (jg_name 3 nd) (jss_one (js_if (JC.t (jc_eq (je_var 3) (je_str))) (jss_cons (js_expr (je_append 1 (je_var 2))) (jss_one (js_set 2 nd (je_str)))) (jss_one (js_set 2 nd (je_add (je_var 2) (je_var 3))))))) (jss_cons (js_par2 4 5 rfl nd (jao_cons (jo_of (je_len ev.bl (jv_of (je_ixS 1 (je_int))))) (jao_cons (jo_lst (ja_nil)) (jao_nil)))) (jss_cons (js_if (jt_w (jw_or (jt_not (JC.t (jc_lele (je_int) (je_var 4) (je_int)))) (jw_or (JC.t (jc_gt (je_len ev.bl (jv_slot 1)) (je_int))) (jw_or1 (JC.t (jc_gt (je_mul (je_len ev.bl (jv_slot 1)) (je_var 4)) (je_int))))))) (jss_one (js_ret (je_non))) (jss_nil)) (jss_cons (js_frz 1 (js_for rfl (ji_seq (je_var 1)) (jg_name 2 nd) (jss_cons (js_if (jt_w (jw_or (JC.t (jc_ne (je_len ev.bl (jv_slot 2)) (je_var 4))) (jw_or1 (JC.t (jc_ne (je_new (jo_comp (own := [("sign", 3)]) (vs := [3]) (ws := [3]) rfl nd (ji_seq (je_var 2)) (blk_ok (by kernel_rfl)) rfl (jg_name 3 nd) (by decide) (jts_one (JC.t (jc_notin (je_var 3) (je_str)))) (je_var 3))) (je_new (jo_lst (ja_nil)))))))) (jss_one (js_ret (je_non))) (jss_nil)) (jss_one (js_expr (je_extend 5 (je_new (jo_comp (own := [("sign", 3)]) (vs := [3]) (ws := [3]) rfl nd (ji_seq (je_var 2)) (blk_ok (by kernel_rfl)) rfl (jg_name 3 nd) (by decide) (jts_nil) (je_sindex (je_str) (je_var 3)))))))))) (jss_one (js_ret (je_tup (ja_cons (je_len ev.bl (jv_slot 1)) (ja_cons (je_var 4) (ja_cons (je_tupleL ev.bl (jv_slot 5)) (ja_nil)))))))))))))
def G_law_drawn : G := gSeq (gSet (gTupD 2 (gsConsD (setD [0] 1) (gsConsD (setD [0] 2) (gsNilD)))) (eFrz (oCall1 F_law_one 0 (aCons (eFrz (oLst (aCons (eTup (aCons (eC (.int 1)) (aCons (eC (.int 1)) (aNil)))) (aCons (eTup (aCons (eC (.int 2)) (aCons (eC (.int 3)) (aNil)))) (aCons (eTup (aCons (eC (.int 40)) (aCons (eC (.int 15)) (aNil)))) (aCons (eTup (aCons (eC (.int 15)) (aCons (eC (.int 40)) (aNil)))) (aCons (eTup (aCons (eC (.int 24)) (aCons (eC (.int 25)) (aNil)))) (aCons (eTup (aCons (eC (.int 40)) (aCons (eC (.int 1)) (aNil)))) (aCons (eTup (aCons (eC (.int 1)) (aCons (eC (.int 40)) (aNil)))) (aCons (eTup (aCons (eC (.int 41)) (aCons (eC (.int 2)) (aNil)))) (aCons (eTup (aCons (eC (.int 2)) (aCons (eC (.int 41)) (aNil)))) (aCons (eTup (aCons (eC (.int 25)) (aCons (eC (.int 25)) (aNil)))) (aCons (eTup (aCons (eOp gAdd (eC (.int 1)) (eFrz (oCall1 F_law_draw 0 (aCons (eC (.int 9)) (aNil))))) (aCons (eOp gAdd (eC (.int 1)) (eFrz (oCall1 F_law_draw 0 (aCons (eC (.int 9)) (aNil))))) (aNil)))) (aNil)))))))))))))) (aNil))))) (gRetO (oComp [3] (iRange1 (eVar 1)) (setD [0] 3) (tYesM) (eJoin (eC (.str "")) (eFrz (oComp [4] (iRange1 (eVar 2)) (setD [0] 4) (tYesM) (eFrz (oCall1 F_law_one 0 (aCons (eC (.str ".#o+x*")) (aNil)))))))))
def F_law_drawn : F1 := fn1 5 G_law_drawn
abbrev P_law_drawn : List Str := ["feed"]
abbrev N_law_drawn : List Str := ["feed", "rows", "columns", "row", "column"]
theorem nd_law_drawn : N_law_drawn.Nodup := by decide +kernel
theorem ok_law_drawn (ev : Ev K mg) (F : FnP K "_law_drawn" (top 14) f fd) (gm : mg "_law_drawn" = some (.ref f)) (h_law_one : Fn1 P w K mg base 2 "_law_one" P_law_one F_law_one) (h_law_draw : Fn1 P w K mg base 1 "_law_draw" P_law_draw F_law_draw) : Fn1 P w K mg base 3 "_law_drawn" P_law_drawn F_law_drawn :=
  have nd := nd_law_drawn
  fn1_ok (N := N_law_drawn) F gm (FunD.bindsN (ps := P_law_drawn) F fun _ _ _ _ _ _ us hl => match us, hl with | [_], _ => rfl) ⟨rfl, rfl, rfl, nd, rfl, by decide +kernel, by decide +kernel⟩ (fun E => show JSs (gam P w K mg base N_law_drawn (defScope (top 14)) 2 [0] E) (defBody (top 14)) G_law_drawn from jss_cons (js_asg (je_new (jo_call1 0 h_law_one (Nat.le_of_ble_eq_true rfl) rfl rfl (ja_cons (je_new (jo_lst (ja_cons (je_tup (ja_cons (je_int) (ja_cons (je_int) (ja_nil)))) (ja_cons (je_tup (ja_cons (je_int) (ja_cons (je_int) (ja_nil)))) (ja_cons (je_tup (ja_cons (je_int) (ja_cons (je_int) (ja_nil)))) (ja_cons (je_tup (ja_cons (je_int) (ja_cons (je_int) (ja_nil)))) (ja_cons (je_tup (ja_cons (je_int) (ja_cons (je_int) (ja_nil)))) (ja_cons (je_tup (ja_cons (je_int) (ja_cons (je_int) (ja_nil)))) (ja_cons (je_tup (ja_cons (je_int) (ja_cons (je_int) (ja_nil)))) (ja_cons (je_tup (ja_cons (je_int) (ja_cons (je_int) (ja_nil)))) (ja_cons (je_tup (ja_cons (je_int) (ja_cons (je_int) (ja_nil)))) (ja_cons (je_tup (ja_cons (je_int) (ja_cons (je_int) (ja_nil)))) (ja_cons (je_tup (ja_cons (je_add (je_int) (je_new (jo_call1 0 h_law_draw (Nat.le_of_ble_eq_true rfl) rfl rfl (ja_cons (je_int) (ja_nil))))) (ja_cons (je_add (je_int) (je_new (jo_call1 0 h_law_draw (Nat.le_of_ble_eq_true rfl) rfl rfl (ja_cons (je_int) (ja_nil))))) (ja_nil)))) (ja_nil)))))))))))))) (ja_nil)))) (jg_tup rfl (jgs_cons (jg_name 1 nd) (jgs_cons (jg_name 2 nd) (jgs_nil))))) (jss_one (js_retO (jo_comp (own := [("row", 3)]) (vs := [3]) (ws := [3]) rfl nd (ji_range1 ev.bl (je_var 1)) (blk_ok (by kernel_rfl)) rfl (jg_name 3 nd) (by decide) (jts_nil) (je_join (je_str) (jv_of (je_new (jo_comp (own := [("column", 4)]) (vs := [4]) (ws := [4]) rfl nd (ji_range1 ev.bl (je_var 2)) (blk_ok (by kernel_rfl)) rfl (jg_name 4 nd) (by decide) (jts_nil) (je_new (jo_call1 0 h_law_one (Nat.le_of_ble_eq_true rfl) rfl rfl (ja_cons (je_str) (ja_nil))))))))))))
def G_law_texts : G := gSeq (gSet (setD [0] 1) (eFrz (oCall1 F_law_drawn 0 (aNil)))) (gSeq (gSet (setD [0] 2) (eJoin (eC (.str "\n")) (eSlot 1))) (gSeq (gParN [0] [3, 4] (oCons (oD (eFrz (oCall1 F_law_draw 0 (aCons (eOp gAdd (eCall1 lenS (eSlot 2)) (eC (.int 1))) (aNil))))) (oCons (oD (eFrz (oCall1 F_law_draw 0 (aCons (eCall1 lenS (eSlot 1)) (aNil))))) (oNil)))) (gSeq (gSet (setD [0] 5) (eFrz (oLst (aCons (eVar 2) (aCons (eOp gAdd (eVar 2) (eC (.str "\n"))) (aCons (eOp gAdd (eC (.str "\n")) (eVar 2)) (aCons (eOp gAdd (eOp gAdd (eSl (eVar 2) (pNone) (pSome (eVar 3))) (eC (.str "\n"))) (eSl (eVar 2) (pSome (eVar 3)) (pNone))) (aCons (eOp gAdd (eOp gAdd (eSl (eVar 2) (pNone) (pSome (eVar 3))) (eFrz (oCall1 F_law_one 0 (aCons (eC (.str " 0O@X-\t,")) (aNil))))) (eSl (eVar 2) (pSome (eOp gAdd (eVar 3) (eC (.int 1)))) (pNone))) (aCons (eOp gAdd (eSl (eVar 2) (pNone) (pSome (eVar 3))) (eSl (eVar 2) (pSome (eOp gAdd (eVar 3) (eC (.int 1)))) (pNone))) (aCons (eOp gAdd (eOp gAdd (eSl (eVar 2) (pNone) (pSome (eVar 3))) (eC (.str "#"))) (eSl (eVar 2) (pSome (eVar 3)) (pNone))) (aNil))))))))))) (gSeq (gSet (setD [0] 5) (eOp gAdd (eVar 5) (eFrz (oLst (aCons (eJoin (eC (.str "\t\n")) (eSlot 1)) (aCons (eJoin (eC (.str "")) (eSlot 1)) (aCons (eJoin (eC (.str "\n")) (eOp gAdd (eVar 1) (eVar 1))) (aCons (eJoin (eC (.str "\n")) (eOp gAdd (eOp gAdd (eSl (eVar 1) (pNone) (pSome (eVar 4))) (eFrz (oLst (aCons (eC (.str "")) (aNil))))) (eSl (eVar 1) (pSome (eVar 4)) (pNone)))) (aNil))))))))) (gSeq (gSet (setD [0] 5) (eOp gAdd (eVar 5) (eFrz (oLst (aCons (eJoin (eC (.str "\n")) (eOp gAdd (eVar 1) (eFrz (oLst (aCons (eOp gIx (eVar 1) (eC (.int 0))) (aNil)))))) (aCons (eJoin (eC (.str "\n")) (eFrz (oComp [6] (iSeq (eVar 1)) (setD [0] 6) (tYesM) (eOp gAdd (eVar 6) (eC (.str ".")))))) (aCons (eC (.str "")) (aNil)))))))) (gRet (eOp gAdd (eVar 5) (eFrz (oLst (aCons (eVar 1) (aCons (eCall1 tupL (eSlot 1)) (aCons (eC .none) (aCons (eC (.int 0)) (aCons (eC (.bool true)) (aCons (eFrz (oDict0 (.k []))) (aCons (eC (.str "\n")) (aCons (eOp gAdd (eC (.str " ")) (eVar 2)) (aCons (eOp gAdd (eVar 2) (eC (.str " "))) (aCons (eTup (aCons (eVar 2) (aNil))) (aCons (eC (.str "\n\n")) (aCons (eReplC "o" "O" (eVar 2)) (aCons (eOp gAdd (eVar 2) (eVar 2)) (aNil)))))))))))))))))))))))
def F_law_texts : F1 := fn1 7 G_law_texts
abbrev P_law_texts : List Str := ["feed"]
abbrev N_law_texts : List Str := ["feed", "lines", "text", "at", "row", "found", "line"]
theorem nd_law_texts : N_law_texts.Nodup := by decide +kernel
theorem ok_law_texts (ev : Ev K mg) (F : FnP K "_law_texts" (top 15) f fd) (gm : mg "_law_texts" = some (.ref f)) (h_law_drawn : Fn1 P w K mg base 3 "_law_drawn" P_law_drawn F_law_drawn) (h_law_draw : Fn1 P w K mg base 1 "_law_draw" P_law_draw F_law_draw) (h_law_one : Fn1 P w K mg base 2 "_law_one" P_law_one F_law_one) : Fn1 P w K mg base 4 "_law_texts" P_law_texts F_law_texts :=
  have nd := nd_law_texts
  fn1_ok (N := N_law_texts) F gm (FunD.bindsN (ps := P_law_texts) F fun _ _ _ _ _ _ us hl => match us, hl with | [_], _ => rfl) ⟨rfl, rfl, rfl, nd, rfl, by decide +kernel, by decide +kernel⟩ (fun E => show JSs (gam P w K mg base N_law_texts (defScope (top 15)) 3 [0] E) (defBody (top 15)) G_law_texts from jss_cons (js_set 1 nd (je_new (jo_call1 0 h_law_drawn (Nat.le_of_ble_eq_true rfl) rfl rfl (ja_nil)))) (jss_cons (js_set 2 nd (je_join (je_str) (jv_slot 1))) (jss_cons (js_par2 3 4 rfl nd (jao_cons (jo_of (je_new (jo_call1 0 h_law_draw (Nat.le_of_ble_eq_true rfl) rfl rfl (ja_cons (je_add (je_len ev.bl (jv_slot 2)) (je_int)) (ja_nil))))) (jao_cons (jo_of (je_new (jo_call1 0 h_law_draw (Nat.le_of_ble_eq_true rfl) rfl rfl (ja_cons (je_len ev.bl (jv_slot 1)) (ja_nil))))) (jao_nil)))) (jss_cons (js_set 5 nd (je_new (jo_lst (ja_cons (je_var 2) (ja_cons (je_add (je_var 2) (je_str)) (ja_cons (je_add (je_str) (je_var 2)) (ja_cons (je_add (je_add (je_sl (je_var 2) (jp_none) (jp_some (je_var 3))) (je_str)) (je_sl (je_var 2) (jp_some (je_var 3)) (jp_none))) (ja_cons (je_add (je_add (je_sl (je_var 2) (jp_none) (jp_some (je_var 3))) (je_new (jo_call1 0 h_law_one (Nat.le_of_ble_eq_true rfl) rfl rfl (ja_cons (je_str) (ja_nil))))) (je_sl (je_var 2) (jp_some (je_add (je_var 3) (je_int))) (jp_none))) (ja_cons (je_add (je_sl (je_var 2) (jp_none) (jp_some (je_var 3))) (je_sl (je_var 2) (jp_some (je_add (je_var 3) (je_int))) (jp_none))) (ja_cons (je_add (je_add (je_sl (je_var 2) (jp_none) (jp_some (je_var 3))) (je_str)) (je_sl (je_var 2) (jp_some (je_var 3)) (jp_none))) (ja_nil))))))))))) (jss_cons (js_set 5 nd (je_add (je_var 5) (je_new (jo_lst (ja_cons (je_join (je_str) (jv_slot 1)) (ja_cons (je_join (je_str) (jv_slot 1)) (ja_cons (je_join (je_str) (jv_of (je_add (je_var 1) (je_var 1)))) (ja_cons (je_join (je_str) (jv_of (je_add (je_add (je_sl (je_var 1) (jp_none) (jp_some (je_var 4))) (je_new (jo_lst (ja_cons (je_str) (ja_nil))))) (je_sl (je_var 1) (jp_some (je_var 4)) (jp_none))))) (ja_nil))))))))) (jss_cons (js_set 5 nd (je_add (je_var 5) (je_new (jo_lst (ja_cons (je_join (je_str) (jv_of (je_add (je_var 1) (je_new (jo_lst (ja_cons (je_ix (je_var 1) (je_int)) (ja_nil))))))) (ja_cons (je_join (je_str) (jv_of (je_new (jo_comp (own := [("line", 6)]) (vs := [6]) (ws := [6]) rfl nd (ji_seq (je_var 1)) (blk_ok (by kernel_rfl)) rfl (jg_name 6 nd) (by decide) (jts_nil) (je_add (je_var 6) (je_str)))))) (ja_cons (je_str) (ja_nil)))))))) (jss_one (js_ret (je_add (je_var 5) (je_new (jo_lst (ja_cons (je_var 1) (ja_cons (je_tupleL ev.bl (jv_slot 1)) (ja_cons (je_non) (ja_cons (je_int) (ja_cons (je_bl) (ja_cons (je_new (jo_dict0K)) (ja_cons (je_str) (ja_cons (je_add (je_str) (je_var 2)) (ja_cons (je_add (je_var 2) (je_str)) (ja_cons (je_tup (ja_cons (je_var 2) (ja_nil))) (ja_strT (jat_consT (jet_repl (je_var 2)) (jat_cons (je_add (je_var 2) (je_var 2)) (jat_nil)))))))))))))))))))))))))
def G_law_told : G := gSeq (gSet (setD [] 2) (eC .none)) (gSeq (gTryAs 3 2 [] errT errXs "ShoreError" (xIf (fun x => some (.bool (errT x "BadPicture"))) (fun _ => some (.none)) (fun _ => some ((.str "another")))) (gSet (setD [] 2) (eIfM (tOfE (eVar 1)) (eFrz (oCall F_read_picture (aCons (eVar 0) (aNil)))) (eFrz (oCall F_read_picture (aCons (eVar 0) (aNil))))))) (gRet (eVar 2)))
def F_law_told : F0 := fn0 4 G_law_told
abbrev P_law_told : List Str := ["text", "is_named"]
abbrev N_law_told : List Str := ["text", "is_named", "told", "error"]
theorem nd_law_told : N_law_told.Nodup := by decide +kernel
theorem ok_law_told (ev : Ev K mg) (F : FnP K "_law_told" (top 16) f fd) (gm : mg "_law_told" = some (.ref f)) (h_read_picture : Fn0 P w K mg base 1 "read_picture" P_read_picture F_read_picture) (hk_read_picture : FnK P w K mg base 1 "read_picture" P_read_picture F_read_picture) : Fn0 P w K mg base 2 "_law_told" P_law_told F_law_told :=
  have nd := nd_law_told
  fn0_ok (N := N_law_told) F gm (FunD.bindsN (ps := P_law_told) F fun _ _ _ _ _ _ us hl => match us, hl with | [_, _], _ => rfl) ⟨rfl, rfl, rfl, nd, rfl, by decide +kernel, by decide +kernel⟩ (fun E => show JSs (gam P w K mg base N_law_told (defScope (top 16)) 1 [] E) (defBody (top 16)) G_law_told from jss_cons (js_set 2 nd (je_non)) (jss_cons (js_tryAs "ShoreError" rfl ev.ext (by decide) ev.k_ShoreError nd (fun W => jss_one (js_set 2 nd (je_if (jt_val (je_var 1)) (je_new (jo_callK hk_read_picture (Nat.le_of_ble_eq_true rfl) rfl rfl (jk_cons (je_var 0) (jk_nil)))) (je_new (jo_call h_read_picture (Nat.le_of_ble_eq_true rfl) rfl rfl (ja_cons (je_var 0) (ja_nil))))))) (jx_if (jx_is "BadPicture" ev.bl ev.ext (by decide)) (jx_non) (jx_str)) (by decide)) (jss_one (js_ret (je_var 2)))))
def B1_law : G := gIf (tNotM (tOfE (eFrz (oCall (F_law_same 60) (aCons (eFrz (oCall F_law_told (aCons (eVar 4) (aCons (eOp gEq (eFrz (oCall1 F_law_draw 2 (aCons (eC (.int 2)) (aNil)))) (eC (.int 0))) (aNil))))) (aCons (eFrz (oCall F_law_due (aCons (eVar 4) (aNil)))) (aNil))))))) (gRet (eC (.bool false))) (gNext)
def B2_law : G := gForM (iSeq (eFrz (oCall1 F_law_texts 2 (aNil)))) (setD [] 4) (B1_law)
def B3_law : G := gSeq (gSetO [] 2 (oCallS F_law_feed 0 (aCons (eVar 1) (aNil)))) (gForM (iRange1 (eC (.int 3))) (setD [] 3) (B2_law))
def G_law : G := gSeq (gForM (iRange1 (eCall2 maxD (eC (.int 1)) (eCall2 minD (eCall1 lenS (eSlot 0)) (eC (.int 3))))) (setD [] 1) (B3_law)) (gRet (eC (.bool true)))
abbrev P_law : List Str := ["script"]
abbrev N_law : List Str := ["script", "k", "feed", "turn", "text"]
theorem nd_law : N_law.Nodup := by decide +kernel
theorem ok_law (ev : Ev K mg) (F : FnP K "law" (top 17) f fd) (h_law_feed : FnS P w K mg base 1 "_law_feed" P_law_feed F_law_feed) (h_law_texts : Fn1 P w K mg base 4 "_law_texts" P_law_texts F_law_texts) (h_law_same : Fn0 P w K mg base 60 "_law_same" P_law_same (F_law_same 60)) (h_law_told : Fn0 P w K mg base 2 "_law_told" P_law_told F_law_told) (h_law_draw : Fn1 P w K mg base 1 "_law_draw" P_law_draw F_law_draw) (h_law_due : Fn0 P w K mg base 1 "_law_due" P_law_due F_law_due) (hg : ∀ ns : List Int, ns.length ≤ 63 → ∃ ρ, G_law (rho0 5 [.s ns]) = .ret (.d (.bool true)) ρ) : FnOk P w K mg base (L2.CX P w) 61 f fd P_law (spLaw K) :=
  have nd := nd_law
  law_ok (N := N_law) F ⟨rfl, rfl, rfl, nd, rfl, by decide +kernel, by decide +kernel⟩ (fun E => show JSs (gam P w K mg base N_law (defScope (top 17)) 60 [] E) (defBody (top 17)) G_law from jss_cons (js_for rfl (ji_range1 ev.bl (je_max2 ev.bl rfl (je_int) (je_min2 ev.bl rfl (je_len ev.bl (jv_slot 0)) (je_int)))) (jg_name 1 nd) (jss_cons (js_setO 2 nd (jo_callS 0 h_law_feed (Nat.le_of_ble_eq_true rfl) rfl rfl (ja_cons (je_var 1) (ja_nil)))) (jss_one (js_for rfl (ji_range1 ev.bl (je_int)) (jg_name 3 nd) (jss_one (js_for rfl (ji_seq (je_new (jo_call1 2 h_law_texts (Nat.le_of_ble_eq_true rfl) rfl rfl (ja_nil)))) (jg_name 4 nd) (jss_one (js_if (jt_not (jt_val (je_new (jo_call h_law_same (Nat.le_of_ble_eq_true rfl) rfl rfl (ja_cons (je_new (jo_call h_law_told (Nat.le_of_ble_eq_true rfl) rfl rfl (ja_cons (je_var 4) (ja_cons (JC.e (jc_eq (je_new (jo_call1 2 h_law_draw (Nat.le_of_ble_eq_true rfl) rfl rfl (ja_cons (je_int) (ja_nil)))) (je_int))) (ja_nil))))) (ja_cons (je_new (jo_call h_law_due (Nat.le_of_ble_eq_true rfl) rfl rfl (ja_cons (je_var 4) (ja_nil)))) (ja_nil))))))) (jss_one (js_ret (je_bl))) (jss_nil))))))))) (jss_one (js_ret (je_bl)))) hg
end
end Lk60

set_option exponentiation.threshold 2000
namespace Lk60
open PySem PySem.Spec PyProof.Rows L2 DL
def Feed (m : Nat) (xs : List D) : Prop := ∃ a b c : Int, xs = [.int a, .int b, .int c] ∧ 0 ≤ a ∧ 0 ≤ b ∧ b < 10 ^ 42 ∧ 0 ≤ c ∧ c ≤ (m : Nat)
theorem draw_ok {m : Nat} {xs : List D} {many : Int} (h : Feed m xs) (hm : m < 2 ^ 200) (h1 : 1 ≤ many) (h2 : many < 2 ^ 29) : ∃ r xs', F_law_draw xs [.int many] = .ok (.d (.int r)) xs' ∧ 0 ≤ r ∧ r < many ∧ Feed (m + 1) xs' := by
  obtain ⟨a, b, c, rfl, ha, hb, hb2, hc, hcm⟩ := h
  have := fn1_ok_of (N := 4) (g := G_law_draw) (xs := [.int a, .int b, .int c]) (ds := [.int many]) (Q := fun x ys => ∃ r, x = .d (.int r) ∧ 0 ≤ r ∧ r < many ∧ Feed (m + 1) ys) ?_
  · obtain ⟨x, ys, e, r, rfl, q1, q2, q3⟩ := this
    exact ⟨r, ys, e, q1, q2, q3⟩
  unfold G_law_draw
  simp only [fwp_seq]
  refine fwp_if_of ?_
  have hmod : ∀ x : Int, 0 ≤ x.fmod many ∧ x.fmod many < many := fun x => fmod_rng (by omega)
  have hmany : divOk many := divOk_small (by omega) (by omega)
  have hn : ¬ many = 0 := by omega
  by_cases h0 : 0 < a
  · simp [h0]
    refine fwp_set_of ?_
    simp [hn]
    refine fwp_put_of ?_
    simp [ixN, hmany]
    refine fwp_ret_of ?_
    simp
    refine ⟨(hmod a).1, (hmod a).2, _, _, _, rfl, ?_, hb, hb2, hc, by omega⟩
    exact Int.fdiv_nonneg ha (by omega)
  · simp [h0]
    refine fwp_put_of ?_
    simp [ixN]
    refine fwp_set_of ?_
    have hc2 : mulOk 86038403 (c + 1) := mulOk_l (by decide) (by decide)
    simp [hc2]
    refine fwp_set_of ?_
    have hp : CPow 10 41 := by decide
    generalize es : b + 86038403 * (c + 1) = s
    have hs0 : 0 ≤ s := by omega
    have hs1 : s < 2 ^ 300 := by omega
    have hs2 : mulOk s s := mulOk_big 300 300 (by omega) (by omega) (by decide) (by decide) (by decide)
    have hss : 0 ≤ s * s ∧ s * s < 2 ^ 600 := ⟨Int.mul_nonneg hs0 hs0, by
      have h3 : s * s ≤ s * 2 ^ 300 := Int.mul_le_mul_of_nonneg_left (Int.le_of_lt hs1) hs0
      have h4 : s * 2 ^ 300 < 2 ^ 300 * 2 ^ 300 := Int.mul_lt_mul_of_pos_right hs1 (by decide)
      have h5 : (2 : Int) ^ 300 * 2 ^ 300 = 2 ^ 600 := by decide
      omega⟩
    have hs3 : mulOk (s * s) s := mulOk_big 600 300 (by omega) (by omega) (by decide) (by decide) (by decide)
    have hs4 : mulOk 49987043 (c + 1) := mulOk_l (by decide) (by decide)
    simp [hs2, hs3, hs4, hp]
    refine fwp_set_of ?_
    have hu := fmod_rng (i := s * s * s + 49987043 * (c + 1) + 7) (j := 100000000000000000000000000000000000000081) (by decide)
    generalize (s * s * s + 49987043 * (c + 1) + 7).fmod 100000000000000000000000000000000000000081 = u at hu ⊢
    have hu1 : mulOk u u := mulOk_big 200 200 (by omega) (by omega) (by decide) (by decide) (by decide)
    have hp2 : CPow 10 38 := by decide
    simp [hu1, hp2]
    refine fwp_ret_of ?_
    have hp3 : CPow 10 9 := by decide
    have hd3 : divOk 1000000000 := divOk_small (by decide) (by decide)
    simp [hp3, hd3, hn]
    exact ⟨(hmod _).1, (hmod _).2, _, _, _, rfl, by omega, hb, hb2, by omega, by omega⟩
/-- what is left of the feed, whatever -/
theorem feed_ok {ns : List Int} {k : Int} (hk : 0 ≤ k) (hk2 : k < 3) (hl : ns.length ≤ 63) : ∃ xs, F_law_feed ns [.int k] = .ok (.l xs) ∧ Feed 0 xs := by
  have := fns_ok_of (N := 3) (g := G_law_feed) (ns := ns) (ds := [.int k]) (Q := fun x => ∃ xs, x = .l xs ∧ Feed 0 xs) ?_
  · obtain ⟨x, e, xs, rfl, q⟩ := this
    exact ⟨xs, e, q⟩
  unfold G_law_feed
  simp only [fwp_seq]
  refine fwp_set_of ?_
  have m1 : mulOk 8849 k := mulOk_l (by decide) (by decide)
  have m2 : ∀ z, mulOk 137 z := fun z => mulOk_l (by decide) (by decide)
  obtain ⟨ms, hms⟩ := cutD_ints ns none (some 3)
  simp [m1, m2, hms]
  have hp1 : CPow 10 18 := by decide
  have hp2 : CPow 10 40 := by decide
  have m3 : ∀ z, mulOk z 667 := fun z => mulOk_r (by decide) (by decide)
  have m4 : ∀ z, mulOk 163 z := fun z => mulOk_l (by decide) (by decide)
  have fin : ∀ cell : Int, (gRetO (oLst (aCons (eCall2 DL.maxD (eC (.int 0)) (eOp DL.gSub (eVar 2) (eOp gPow (eC (.int 10)) (eC (.int 18))))) (aCons (eOp gMod (eCall1 DL.intD (eOp gAdd (eOp gAdd (eOp gMul (eVar 2) (eC (.int 667))) (eOp gMul (eC (.int 163)) (eVar 1))) (eC (.int 341)))) (eOp gAdd (eOp gPow (eC (.int 10)) (eC (.int 40))) (eC (.int 121)))) (aCons (eC (.int 0)) (aNil))))) [some (.s ns), some (.d (.int k)), some (.d (.int cell))]).wp { r := fun x _ => ∃ xs, x = SV.l xs ∧ Feed 0 xs } := fun cell => by
    refine fwp_retO_of ?_
    simp [hp1, hp2, m3, m4]
    have h := fmod_rng (i := cell * 667 + 163 * k + 341) (j := 10000000000000000000000000000000000000121) (by decide)
    refine ⟨by decide, _, _, _, rfl, ?_, h.1, by omega, by decide, by decide⟩
    split <;> omega
  refine fwp_if_of ?_
  have hle : (ns.length : Int) ≤ 63 := by omega
  by_cases h0 : k < (ns.length : Int)
  · simp [h0]
    refine fwp_set_of ?_
    have hk3 : k.toNat < ns.length := by omega
    simp [atI_pos hk, List.getElem?_eq_getElem hk3]
    exact fin _
  · simp [h0]
    exact fin _
end Lk60

namespace Lk60
open PySem PySem.Spec PyProof.Rows L2 DL
abbrev tl (x : Str) : List Nat := x.cps.toList
def mkS (l : List Nat) : Str := ⟨l.toArray⟩
def SG : Str := ".#o+x*"
def occ (c : Nat) : List Nat := Builtin.Str.occurrences SG ⟨#[c]⟩ 0 SG.length 1
def okc (c : Nat) : Bool := !(occ c).isEmpty
def ixc (c : Nat) : D := match occ c with | i :: _ => .int (i : Nat) | [] => .none
/-- the lines of a text -/
def lns (s : Str) : List (List Nat) := TL.spl [10] 0 [] (tl s)
def colsN (L : List (List Nat)) : Nat := (L.headD []).length
def dimOk (L : List (List Nat)) : Bool := decide (1 ≤ colsN L) && decide (colsN L ≤ 40) && decide (L.length ≤ 40) && decide (L.length * colsN L ≤ 600)
def lineOk (n : Nat) (l : List Nat) : Bool := decide (l.length = n) && l.all okc
def valid (L : List (List Nat)) : Bool := dimOk L && L.all (lineOk (colsN L))
def pic (L : List (List Nat)) : D := .tuple [.int L.length, .int (colsN L), .tuple (L.flatten.map ixc)]
def due (d : D) : D := match d with
  | .str s => if valid (lns s) = true then pic (lns s) else .none
  | _ => .none
theorem spl_ne (k : Nat) (acc l : List Nat) : TL.spl [10] k acc l ≠ [] := by
  induction l generalizing k acc with
  | nil => rw [TL.spl_nil]; simp
  | cons c r ih =>
    cases k with
    | zero =>
      cases h : TL.pre [10] (c :: r) with
      | true => rw [TL.spl_hit h]; simp
      | false => rw [TL.spl_miss h]; exact ih _ _
    | succ k => exact ih _ _
theorem spl_cons (acc : List Nat) (c : Nat) (r : List Nat) : TL.spl [10] 0 acc (c :: r) = if c = 10 then acc :: TL.spl [10] 0 [] r else TL.spl [10] 0 (acc ++ [c]) r := by
  by_cases h : c = 10
  · subst h; rw [if_pos rfl, TL.spl_hit (by simp [TL.pre])]; rfl
  · rw [if_neg h, TL.spl_miss (by simp [TL.pre, h])]
theorem lns_split (s : Str) : Txt.split s "\n" = (lns s).map mkS := by
  refine TL.map_tl_inj ?_
  rw [TL.split_spl s "\n" (by decide +kernel) (TL.kind_ok (by decide +kernel)), List.map_map]
  have e : TL.tl ("\n" : Str) = [10] := by decide +kernel
  rw [e]
  have : (TL.tl ∘ mkS) = id := rfl
  rw [this, List.map_id]
  rfl
/-- the signs of all lines are those of the text but the ends of lines -/
theorem lns_len (s : Str) : ((lns s).map List.length).sum + (lns s).length = s.length + 1 := by
  have h : ∀ (l acc : List Nat), ((TL.spl [10] 0 acc l).map List.length).sum + (TL.spl [10] 0 acc l).length = acc.length + l.length + 1 := by
    intro l
    induction l with
    | nil => intro acc; rw [TL.spl_nil]; simp
    | cons c r ih =>
      intro acc
      rw [spl_cons]
      split
      · have := ih []; simp only [List.map_cons, List.sum_cons, List.length_cons, List.length_nil] at this ⊢; omega
      · have := ih (acc ++ [c]); simp only [List.length_append, List.length_cons, List.length_nil] at this ⊢; omega
  have := h (tl s) []
  rw [TL.len_tl]
  unfold lns
  simpa using this
theorem lns_cons (s : Str) : ∃ l r, lns s = l :: r := by
  have h := spl_ne 0 [] (tl s)
  cases e : lns s with
  | nil => exact absurd e h
  | cons l r => exact ⟨l, r, rfl⟩
theorem valid_len {s : Str} (h : valid (lns s) = true) : s.length ≤ 1200 := by
  have h1 := lns_len s
  unfold valid dimOk at h
  simp only [Bool.and_eq_true, decide_eq_true_eq, List.all_eq_true] at h
  obtain ⟨⟨⟨⟨h2, h3⟩, h4⟩, h5⟩, h6⟩ := h
  have h7 : ∀ l ∈ lns s, l.length = colsN (lns s) := fun l hl => by
    have := h6 l hl
    unfold lineOk at this
    simp only [Bool.and_eq_true, decide_eq_true_eq] at this
    exact this.1
  have h8 : (lns s).map List.length = List.replicate (lns s).length (colsN (lns s)) := by
    refine List.eq_replicate_iff.mpr ⟨by rw [List.length_map], fun x hx => ?_⟩
    obtain ⟨l, hl, rfl⟩ := List.mem_map.mp hx
    exact h7 l hl
  rw [h8, sum_repl] at h1
  omega
def outR (d : D) : FR := match d with
  | .str s => if valid (lns s) = true then .ok (.d (pic (lns s))) else .err "BadPicture"
  | _ => .err "BadPicture"
theorem read_ok (d : D) (h : ∀ s, d = .str s → s.length ≤ 100000) : F_read_picture [d] = outR d := by
  refine fn0_out_of (O := fun r => r = outR d) ?_
  unfold G_read_picture
  simp only [fwp_seq]
  refine fwp_if_of ?_
  have hm : mulOk 2 600 := by decide
  cases d with
  | str s =>
    have hs := h s rfl
    by_cases hl : (1200 : Int) < (s.length : Int)
    · simp [hm, hl]
      show FR.err _ = if valid (lns s) = true then _ else _
      rw [if_neg fun z => by have := valid_len z; omega]
    · simp [hm, hl]
      refine fwp_set_of ?_
      obtain ⟨l0, r0, eL⟩ := lns_cons s
      have hz : s.length + 2 ≤ sizeLine := by rw [sizeLine_eq]; omega
      have hn : ¬ ("\n" : Str).length = 0 := by decide +kernel
      simp [gSplit, hn, hz, lns_split, List.map_map]
      refine fwp_par_of ?_
      have h0 : (lns s)[0]? = some l0 := by rw [eL]; rfl
      have hc : colsN (lns s) = l0.length := by rw [eL]; rfl
      have hmk : ∀ l : List Nat, (mkS l).length = l.length := fun l => by simp [mkS, Str.length]
      simp [h0, hmk]
      refine fwp_if_of ?_
      have hb1 : ∀ x : Int, (0 ≤ x ∧ x < 2 ^ 60) → mulOk x (l0.length : Int) := fun x hx => mulOk_l (by omega) (by omega)
      have hsum := lns_len s
      have hlen : (lns s).length ≤ 100001 := by omega
      refine Res.wp.imp (Q := fun k ρ1 => k = !dimOk (lns s) ∧ ρ1 = [some (SV.d (PyData.str s)), some (SV.d (PyData.list (List.map (PyData.str ∘ mkS) (lns s)))), some (SV.d (PyData.int ↑(lns s).length)), some (SV.d (PyData.int ↑l0.length)), none, none]) ?_ ?_
      · have hm2 : mulOk ((lns s).length : Int) (l0.length : Int) := hb1 _ (by omega)
        unfold dimOk
        rw [hc]
        have e4 : ((600 : Int) < ((lns s).length : Int) * (l0.length : Int)) ↔ ¬ (lns s).length * l0.length ≤ 600 := by
          rw [← Int.natCast_mul]; omega
        by_cases c1 : 1 ≤ l0.length
        · by_cases c2 : l0.length ≤ 40
          · by_cases c3 : (lns s).length ≤ 40
            · have e3 : ¬ (40 : Int) < ((lns s).length : Int) := by omega
              simp [hm2, c1, c2, c3, e3, e4]
              omega
            · have e3 : (40 : Int) < ((lns s).length : Int) := by omega
              simp [hm2, c1, c2, c3, e3]
              omega
          · simp [hm2, c1, c2, e4]
            omega
        · simp [hm2, c1, e4]
          omega
      rintro k ρ1 ⟨rfl, rfl⟩
      refine ⟨fun hd => ?_, fun hd => ?_⟩
      · have hv : ¬ valid (lns s) = true := by unfold valid; simp at hd; simp [hd]
        show FR.err _ = if valid (lns s) = true then _ else _
        rw [if_neg hv]
      · have hd : dimOk (lns s) = true := by simpa using hd
        rw [fwp_gnext]
        refine fwp_if_of ?_
        rw [wp_tNot, wp_tOfE, wp_call1, wp_frz]
        have htl : ∀ l : List Nat, (mkS l).cps.toList = l := fun l => rfl
        refine wp_comp_map (fun d => .bool (lineOk l0.length (strTl d))) ?_
        simp [vsOk, wipeR, restR, hmk]
        refine ⟨fun l hl => ?_, ?_⟩
        · by_cases el : l.length = l0.length
          · refine .inr ⟨by omega, ?_⟩
            refine wp_comp_map (fun d => .bool (okc ((strTl d).headD 0))) ?_
            simp [vsOk, wipeR, restR, htl, lineOk, el]
            exact ⟨fun _ _ => rfl, allD_bools (fun c => okc c) l⟩
          · refine .inl ⟨by omega, ?_⟩
            unfold lineOk
            simp [el, hmk, htl]
        · refine ⟨_, allD_bools (fun l => lineOk l0.length l) (lns s), ?_⟩
          have hv : valid (lns s) = (lns s).all (lineOk l0.length) := by unfold valid; rw [hd, hc, Bool.true_and]
          cases hall : (lns s).all (fun l => lineOk l0.length l) with
          | false =>
            refine .inl ⟨rfl, ?_⟩
            show FR.err _ = if valid (lns s) = true then _ else _
            rw [hv, hall]; rfl
          | true =>
            refine .inr ⟨rfl, fwp_ret_of ?_⟩
            have ho : outR (.str s) = .ok (.d (pic (lns s))) := by
              show (if valid (lns s) = true then _ else _) = _
              rw [hv, hall]; rfl
            rw [ho]
            simp [vsOk, wipeR, restR]
            refine fLoop_pure (fun d => (strTl d).map ixc) ?_ ?_
            · simp
              intro l hl
              have hlo : ∀ c ∈ l, okc c = true := fun c hc => by
                have h1 := List.all_eq_true.mp hall l hl
                unfold lineOk at h1
                rw [Bool.and_eq_true, List.all_eq_true] at h1
                exact h1.2 c hc
              refine fLoop_pure (fun d => [ixc ((strTl d).headD 0)]) ?_ ?_
              · simp [htl]
                intro c hc
                have h1 := hlo c hc
                have e : gSIndex (".#o+x*" : Str) [.str ⟨#[c]⟩] = match occ c with | i :: _ => some (.int (i : Nat)) | [] => none := rfl
                rw [e]
                unfold okc at h1
                unfold ixc
                cases ho : occ c with
                | nil => rw [ho] at h1; cases h1
                | cons i r => rfl
              · simp [htl]
                rw [List.flatMap_map]
                show List.flatMap (fun a => [ixc a]) l = _
                rw [← List.map_eq_flatMap]
            · simp
              have e1 : List.flatMap (fun d => (strTl d).map ixc) ((lns s).map (PyData.str ∘ mkS)) = (lns s).flatten.map ixc := by
                rw [List.flatMap_map]
                show List.flatMap (fun l => List.map ixc l) (lns s) = _
                rw [List.map_flatten, List.flatMap_def]
              rw [e1]
              refine ⟨?_, by decide, by unfold pic; rw [hc]⟩
              show ((lns s).map List.length).sum ≤ _
              rw [sizeLine_eq]; omega
  | _ => simp [outR]
end Lk60

namespace Lk60
open PySem PySem.Spec PyProof.Rows L2 DL
theorem spl_app (l : List Nat) : ∀ acc, TL.spl [10] 0 acc (l ++ [10]) = TL.spl [10] 0 acc l ++ [[]] := by
  induction l with
  | nil => intro acc; rw [List.nil_append, spl_cons, if_pos rfl, TL.spl_nil, TL.spl_nil]; rfl
  | cons c r ih =>
    intro acc
    rw [List.cons_append, spl_cons, spl_cons]
    split
    · rw [ih]; rfl
    · rw [ih]
theorem mk_inj {c : Nat} : (mkS [c] == ("\n" : Str)) = decide (c = 10) := by
  have e : ("\n" : Str) = mkS [10] := by decide +kernel
  rw [e]
  by_cases h : c = 10
  · subst h; simp
  · have : mkS [c] ≠ mkS [10] := fun z => h (by have := congrArg (fun x => x.cps.toList) z; simpa [mkS] using this)
    simp [h, this]
theorem mkS_app (a b : List Nat) : mkS a ++ mkS b = mkS (a ++ b) := by
  show Str.mk _ = _
  simp [mkS]
theorem due_ok (d : D) (h : ∀ s, d = .str s → s.length ≤ 100000) : ∃ r, F_law_due [d] = .ok r ∧ r = .d (due d) := by
  refine fn0_ok_of ?_
  unfold G_law_due
  simp only [fwp_seq]
  refine fwp_if_of ?_
  cases d with
  | str s =>
    have hs := h s rfl
    simp
    refine fwp_par_of ?_
    simp
    refine fwp_for_of ?_
    have hz : s.length + ("\n" : Str).length ≤ sizeLine := by
      have : ("\n" : Str).length = 1 := by decide +kernel
      rw [sizeLine_eq]; omega
    have htx : (s ++ ("\n" : Str)).cps.toList = tl s ++ [10] := by
      have e : ("\n" : Str) = mkS [10] := by decide +kernel
      rw [e]
      exact TL.tl_append s (mkS [10])
    simp [hz, htx]
    refine fwp_loop (fun i ρ => ∃ (ls : List (List Nat)) (l : List Nat) (o : Option D), ρ = [some (.d (.str s)), some (.l (ls.map fun l => .str (mkS l))), some (.d (.str (mkS l))), o.map .d, none, none] ∧ ls ++ (TL.spl [10] 0 l ((tl s ++ [10]).drop i)).dropLast = lns s ∧ ls.length ≤ i ∧ l.length ≤ i) 0 ?_ ?_ ?_
    · refine ⟨[], [], none, ?_, ?_, Nat.le_refl _, Nat.le_refl _⟩
      · have e : ("" : Str) = mkS [] := by decide +kernel
        rw [e]; rfl
      · rw [List.drop_zero, spl_app]; simp [lns]
    · rintro i d ρ ed ⟨ls, l, o, rfl, hL, hls, hll⟩
      rw [Nat.zero_add] at *
      obtain ⟨c, ec, rfl⟩ : ∃ c, (tl s ++ [10])[i]? = some c ∧ d = .str (mkS [c]) := by
        have ed : ((tl s ++ [10]).map fun c => PyData.str ⟨#[c]⟩)[i]? = some d := by simpa using ed
        rw [List.getElem?_map] at ed
        cases e : (tl s ++ [10])[i]? with
        | none => rw [e] at ed; cases ed
        | some c => rw [e] at ed; cases ed; exact ⟨c, rfl, rfl⟩
      have hi : i < (tl s ++ [10]).length := (List.getElem?_eq_some_iff.mp ec).1
      have hdr : (tl s ++ [10]).drop i = c :: (tl s ++ [10]).drop (i + 1) := by
        rw [List.drop_eq_getElem_cons hi]
        rw [List.getElem?_eq_getElem hi] at ec
        cases ec; rfl
      have hbig : i ≤ 100001 := by
        rw [List.length_append, ← TL.len_tl] at hi
        simp at hi; omega
      rw [hdr, spl_cons] at hL
      refine ⟨_, by simp; rfl, ?_⟩
      unfold B1_law_due
      refine fwp_if_of ?_
      simp [mk_inj]
      by_cases hc : c = 10
      · subst hc
        simp
        refine fwp_drop_of ?_
        have hz2 : ls.length < sizeLine := by rw [sizeLine_eq]; omega
        simp [hz2]
        refine fwp_set_of ?_
        simp
        rw [if_pos rfl] at hL
        refine ⟨ls ++ [l], [], ⟨by simp, by decide +kernel, some (.str (mkS [10])), rfl⟩, ?_, by simp; omega, Nat.zero_le _⟩
        · rw [← hL, List.dropLast_cons_of_ne_nil (spl_ne 0 [] _), List.append_assoc]; rfl
      · simp [hc]
        refine fwp_set_of ?_
        have hz2 : (mkS l).length + (mkS [c]).length ≤ sizeLine := by
          have : (mkS l).length = l.length := by simp [mkS, Str.length]
          have : (mkS [c]).length = 1 := by simp [mkS, Str.length]
          rw [sizeLine_eq]; omega
        simp [hz2, mkS_app]
        rw [if_neg hc] at hL
        exact ⟨ls, l ++ [c], ⟨rfl, rfl, some (.str (mkS [c])), rfl⟩, hL, by omega, by simp; omega⟩
    · rintro ρ ⟨ls, l, o, rfl, hL, hls, hll⟩
      have hend : ∀ n, n = 0 + (List.map (fun c => PyData.str { cps := #[c] }) (tl s) ++ [PyData.str { cps := #[10] }]).length → (tl s ++ [10]).drop n = [] := fun n hn => List.drop_eq_nil_of_le (by rw [hn]; simp)
      rw [hend _ rfl, TL.spl_nil, List.dropLast_singleton, List.append_nil] at hL
      subst hL
      obtain ⟨l0, r0, eL⟩ := lns_cons s
      have h0 : (lns s)[0]? = some l0 := by rw [eL]; rfl
      have hc : colsN (lns s) = l0.length := by rw [eL]; rfl
      have hmk : ∀ l : List Nat, (mkS l).length = l.length := fun l => by simp [mkS, Str.length]
      have hsum := lns_len s
      have hlen : (lns s).length ≤ 100001 := by omega
      refine fwp_par_of ?_
      simp [h0, hmk]
      refine fwp_if_of ?_
      refine Res.wp.imp (Q := fun k ρ1 => k = !dimOk (lns s) ∧ ρ1 = [some (SV.d (PyData.str s)), some (SV.l (List.map (fun l => PyData.str (mkS l)) (lns s))), some (SV.d (PyData.str (mkS l))), o.map SV.d, some (SV.d (PyData.int ↑l0.length)), some (SV.l [])]) ?_ ?_
      · have hm2 : mulOk ((lns s).length : Int) (l0.length : Int) := mulOk_l (by omega) (by omega)
        unfold dimOk
        rw [hc]
        have e4 : ((600 : Int) < ((lns s).length : Int) * (l0.length : Int)) ↔ ¬ (lns s).length * l0.length ≤ 600 := by
          rw [← Int.natCast_mul]; omega
        by_cases c1 : 1 ≤ l0.length
        · by_cases c2 : l0.length ≤ 40
          · by_cases c3 : (lns s).length ≤ 40
            · have e3 : ¬ (40 : Int) < ((lns s).length : Int) := by omega
              simp [hm2, c1, c2, c3, e3, e4]
              omega
            · have e3 : (40 : Int) < ((lns s).length : Int) := by omega
              simp [hm2, c1, c2, c3, e3]
              omega
          · simp [hm2, c1, c2, e4]
            omega
        · simp [hm2, c1, e4]
          omega
      rintro k ρ1 ⟨rfl, rfl⟩
      refine ⟨fun hd => ?_, fun hd => ?_⟩
      · have hv : ¬ valid (lns s) = true := by unfold valid; simp at hd; simp [hd]
        refine fwp_ret_of ?_
        simp [due, hv]
      · have hd : dimOk (lns s) = true := by simpa using hd
        rw [fwp_gnext]
        refine fwp_frz_of ⟨_, by simp [frzR]; rfl, ?_⟩
        refine fwp_for_of ?_
        simp
        refine fwp_loop (fun i ρ => (∀ l ∈ (lns s).take i, lineOk l0.length l = true) ∧ ∃ o1 o2 : Option D, ρ = [some (.d (.str s)), some (.d (.list (List.map (fun l => PyData.str (mkS l)) (lns s)))), o1.map .d, o2.map .d, some (.d (.int l0.length)), some (.l (((lns s).take i).flatten.map ixc))]) 0 ?_ ?_ ?_
        · exact ⟨by simp, some (.str (mkS l)), o, rfl⟩
        · rintro i d ρ ed ⟨hok, o1, o2, rfl⟩
          rw [Nat.zero_add] at *
          obtain ⟨l, el, rfl⟩ : ∃ l, (lns s)[i]? = some l ∧ d = .str (mkS l) := by
            rw [List.getElem?_map] at ed
            cases e : (lns s)[i]? with
            | none => rw [e] at ed; cases ed
            | some l => rw [e] at ed; cases ed; exact ⟨l, rfl, rfl⟩
          have hlm : l ∈ lns s := List.mem_of_getElem? el
          have htk : (lns s).take (i + 1) = (lns s).take i ++ [l] := by rw [List.take_add_one, el]; rfl
          have htl : ∀ l : List Nat, (mkS l).cps.toList = l := fun l => rfl
          refine ⟨_, by simp; rfl, ?_⟩
          unfold B2_law_due
          rw [fwp_seq]
          refine fwp_if_of ?_
          refine Res.wp.imp (Q := fun k ρ1 => k = !lineOk l0.length l ∧ ∃ o2 : Option D, ρ1 = [some (.d (.str s)), some (.d (.list (List.map (fun l => PyData.str (mkS l)) (lns s)))), some (.d (.str (mkS l))), o2.map .d, some (.d (.int l0.length)), some (.l (((lns s).take i).flatten.map ixc))]) ?_ ?_
          · simp [hmk]
            by_cases el2 : l.length = l0.length
            · refine .inl ⟨by omega, ?_⟩
              refine wp_comp_pure (fun d => !okc ((strTl d).headD 0)) (fun d => d) ?_
              simp [htl]
              refine ⟨fun a _ => ?_, ?_⟩
              · have e0 : strIn { cps := #[a] } (Str.ofString ".#o+x*") = okc a := rfl
                rw [e0]; cases okc a <;> simp
              have key : gNe (.list (List.filter (fun d => !okc ((strTl d).head?.getD 0)) (List.map (fun c => PyData.str { cps := #[c] }) l))) (.list []) = some (.bool (!l.all okc)) := by
                have e1 : List.filter (fun d => !okc ((strTl d).head?.getD 0)) (List.map (fun c => PyData.str { cps := #[c] }) l) = (l.filter fun c => !okc c).map fun c => PyData.str { cps := #[c] } := by
                  rw [List.filter_map]; rfl
                rw [e1]
                have e2 : shp 64 (.list ((l.filter fun c => !okc c).map fun c => PyData.str { cps := #[c] })) = true := by
                  show List.all _ (shp 63) = true
                  simp
                have e3 : shp 64 (.list []) = true := rfl
                unfold gNe
                rw [if_pos ⟨e2, e3⟩]
                cases e4 : l.filter fun c => !okc c with
                | nil =>
                  have : l.all okc = true := List.all_eq_true.mpr fun c hc => by
                    have := List.filter_eq_nil_iff.mp e4 c hc
                    simpa using this
                  rw [this]; rfl
                | cons c r =>
                  have hm : c ∈ l.filter fun c => !okc c := by rw [e4]; exact List.mem_cons_self
                  obtain ⟨hm1, hm2⟩ := List.mem_filter.mp hm
                  have : l.all okc = false := by
                    cases z : l.all okc with
                    | false => rfl
                    | true => rw [List.all_eq_true.mp z c hm1] at hm2; cases hm2
                  rw [this]; rfl
              refine ⟨_, key, ?_⟩
              have hlo : lineOk l0.length l = l.all okc := by unfold lineOk; rw [el2]; simp
              rw [hlo]
              cases l.all okc with
              | true => exact .inl ⟨rfl, rfl, o2, rfl⟩
              | false => exact .inr ⟨rfl, rfl, o2, rfl⟩
            · refine .inr ⟨by omega, ?_, o2, rfl⟩
              unfold lineOk; simp [el2]
          rintro k ρ1 ⟨rfl, o3, rfl⟩
          refine ⟨fun hb => ?_, fun hb => ?_⟩
          · have hv : ¬ valid (lns s) = true := by
              intro z
              unfold valid at z
              rw [hc, Bool.and_eq_true, List.all_eq_true] at z
              have := z.2 l hlm
              rw [this] at hb; cases hb
            refine fwp_ret_of ?_
            simp [due, hv]
          · have hb : lineOk l0.length l = true := by simpa using hb
            rw [fwp_gnext]
            refine fwp_drop_of ?_
            simp
            refine wp_comp_map (fun d => ixc ((strTl d).headD 0)) ?_
            simp [htl]
            have e5 : ∀ n, (List.take n (List.map (List.map ixc) (lns s))).flatten = ((lns s).take n).flatten.map ixc := fun n => by simp
            have hlo : ∀ c ∈ l, okc c = true := fun c hc => by
              unfold lineOk at hb
              rw [Bool.and_eq_true, List.all_eq_true] at hb
              exact hb.2 c hc
            refine ⟨fun c hc => ?_, ?_, ?_, ⟨some (.str (mkS l)), rfl⟩, ⟨o3, rfl⟩, ?_⟩
            · have h1 := hlo c hc
              have e : gSIndex (".#o+x*" : Str) [.str ⟨#[c]⟩] = match occ c with | i :: _ => some (.int (i : Nat)) | [] => none := rfl
              rw [e]
              unfold okc at h1
              unfold ixc
              cases ho : occ c with
              | nil => rw [ho] at h1; cases h1
              | cons i r => rfl
            · have e7 : List.length ∘ List.map ixc = List.length := by funext z; simp
              rw [e7]
              have h7 := sum_take i ((lns s).map List.length)
              have h8 := mem_sum (List.mem_map_of_mem (f := List.length) hlm)
              rw [sizeLine_eq]; omega
            · intro z hz
              rw [htk] at hz
              rcases List.mem_append.mp hz with h1 | h1
              · exact hok z h1
              · rw [List.mem_singleton.mp h1]; exact hb
            · rw [e5, e5, htk]
              simp
        · rintro ρ ⟨hok, o1, o2, rfl⟩
          rw [Nat.zero_add, List.length_map, List.take_length] at hok
          rw [Nat.zero_add, List.length_map, List.take_length]
          have hv : valid (lns s) = true := by
            unfold valid
            rw [hd, hc, Bool.true_and]
            exact List.all_eq_true.mpr hok
          dsimp only
          refine fwp_ret_of ?_
          have h3 : 3 ≤ sizeLine := by decide
          simp [h3, due, hv, pic, hc]
  | _ => simp; refine fwp_ret_of ?_; simp [due]
end Lk60

namespace Lk60
open PySem PySem.Spec PyProof.Rows L2 DL
theorem told_ok (d : D) (b : Bool) (h : ∀ s, d = .str s → s.length ≤ 100000) : F_law_told [d, .bool b] = .ok (.d (due d)) := by
  have hr := read_ok d h
  have hT : errT "BadPicture" "ShoreError" = true := by decide +kernel
  have hT2 : errT "BadPicture" "BadPicture" = true := by decide +kernel
  have hx : "BadPicture" ∈ errXs := by decide +kernel
  have key : (outR d = .ok (.d (due d))) ∨ (outR d = .err "BadPicture" ∧ due d = .none) := by
    unfold outR due
    cases d with
    | str s => by_cases hv : valid (lns s) = true <;> simp [hv]
    | _ => simp
  rcases key with e | ⟨e, e2⟩
  · rw [e] at hr
    cases b <;> simp [F_law_told, fn0, G_law_told, gSeq, gSet, eC, Res.go, gTryAs, eIfM, tOfE, eVar, eFrz, oCall, aCons, aNil, hr, ofOpt, gRet]
  · rw [e] at hr
    cases b <;> simp [F_law_told, fn0, G_law_told, gSeq, gSet, eC, Res.go, gTryAs, eIfM, tOfE, eVar, eFrz, oCall, aCons, aNil, hr, ofOpt, gRet, hx, hT, hT2, xIf, e2]
/-! the same -/
theorem same_none (n : Nat) : F_law_same (n + 1) [.none, .none] = .ok (.d (.bool true)) := by
  have := fn0_ok_of (N := 4) (g := G_law_same (F_law_same n)) (ds := [.none, .none]) (Q := fun r => r = .d (.bool true)) ?_
  · obtain ⟨r, e, rfl⟩ := this; exact e
  unfold G_law_same
  rw [fwp_seq]
  refine fwp_if_of ?_
  simp [gIs]
  refine fwp_ret_of ?_
  simp [gIs]
theorem same_int (n : Nat) (i : Int) : F_law_same (n + 1) [.int i, .int i] = .ok (.d (.bool true)) := by
  have := fn0_ok_of (N := 4) (g := G_law_same (F_law_same n)) (ds := [.int i, .int i]) (Q := fun r => r = .d (.bool true)) ?_
  · obtain ⟨r, e, rfl⟩ := this; exact e
  unfold G_law_same
  rw [fwp_seq]
  refine fwp_if_of ?_
  simp [gIs]
  refine fwp_if_of ?_
  simp
  refine fwp_if_of ?_
  simp
  refine fwp_ret_of ?_
  simp
theorem same_tup (n : Nat) (ds : List D) (h : ∀ d ∈ ds, F_law_same n [d, d] = .ok (.d (.bool true))) : F_law_same (n + 1) [.tuple ds, .tuple ds] = .ok (.d (.bool true)) := by
  have := fn0_ok_of (N := 4) (g := G_law_same (F_law_same n)) (ds := [.tuple ds, .tuple ds]) (Q := fun r => r = .d (.bool true)) ?_
  · obtain ⟨r, e, rfl⟩ := this; exact e
  unfold G_law_same
  rw [fwp_seq]
  refine fwp_if_of ?_
  simp [gIs]
  refine fwp_if_of ?_
  simp
  refine fwp_if_of ?_
  simp
  refine fwp_if_of ?_
  simp
  refine fwp_if_of ?_
  simp
  refine fwp_ret_of ?_
  simp
  refine wp_comp_pure (fun _ => false) (fun d => d) ?_
  simp [zipD_self]
  intro d hd
  exact ⟨_, h d hd, by simp⟩
theorem ixc_cases (c : Nat) : (∃ i : Nat, ixc c = .int i) ∨ ixc c = .none := by
  unfold ixc
  cases occ c with
  | nil => exact .inr rfl
  | cons i r => exact .inl ⟨i, rfl⟩
theorem same_due (d : D) : F_law_same 60 [due d, due d] = .ok (.d (.bool true)) := by
  unfold due
  split
  · rename_i s
    split
    · unfold pic
      refine same_tup 59 _ fun d hd => ?_
      simp only [List.mem_cons, List.mem_nil_iff, or_false] at hd
      rcases hd with rfl | rfl | rfl
      · exact same_int 58 _
      · exact same_int 58 _
      · refine same_tup 58 _ fun d hd => ?_
        obtain ⟨c, _, rfl⟩ := List.mem_map.mp hd
        rcases ixc_cases c with ⟨i, e⟩ | e
        · rw [e]; exact same_int 57 _
        · rw [e]; exact same_none 57
    · exact same_none 59
  · exact same_none 59
end Lk60

namespace Lk60
open PySem PySem.Spec PyProof.Rows L2 DL
theorem one_list {m : Nat} {xs things : List D} (h : Feed m xs) (hm : m < 2 ^ 200) (hne : 1 ≤ things.length) (hl : things.length < 2 ^ 29) : ∃ d xs', F_law_one xs [.list things] = .ok (.d d) xs' ∧ d ∈ things ∧ Feed (m + 1) xs' := by
  have := fn1_ok_of (N := 2) (g := G_law_one) (xs := xs) (ds := [.list things]) (Q := fun x ys => ∃ d, x = .d d ∧ d ∈ things ∧ Feed (m + 1) ys) ?_
  · obtain ⟨x, ys, e, d, rfl, q1, q2⟩ := this
    exact ⟨d, ys, e, q1, q2⟩
  unfold G_law_one
  refine fwp_ret_of ?_
  simp
  obtain ⟨r, xs', e, r0, r1, hf⟩ := draw_ok (many := (things.length : Int)) h hm (by omega) (by omega)
  refine ⟨_, _, e, ?_⟩
  simp
  have hr : r.toNat < things.length := by omega
  rw [atI_pos r0, List.getElem?_eq_getElem hr]
  exact ⟨_, rfl, List.getElem_mem hr, hf⟩
theorem one_str {m : Nat} {xs : List D} {s : Str} (h : Feed m xs) (hm : m < 2 ^ 200) (hne : 1 ≤ s.length) (hl : s.length < 2 ^ 29) : ∃ c xs', F_law_one xs [.str s] = .ok (.d (.str (mkS [c]))) xs' ∧ Feed (m + 1) xs' := by
  have := fn1_ok_of (N := 2) (g := G_law_one) (xs := xs) (ds := [.str s]) (Q := fun x ys => ∃ c, x = .d (.str (mkS [c])) ∧ Feed (m + 1) ys) ?_
  · obtain ⟨x, ys, e, d, rfl, q1⟩ := this
    exact ⟨d, ys, e, q1⟩
  unfold G_law_one
  refine fwp_ret_of ?_
  simp
  obtain ⟨r, xs', e, r0, r1, hf⟩ := draw_ok (many := (s.length : Int)) h hm (by omega) (by omega)
  refine ⟨_, _, e, ?_⟩
  simp
  have hr : r.toNat < s.cps.toList.length := by rw [← TL.len_tl]; omega
  have eg : gIx (.str s) (.int r) = some (.str (mkS [s.cps.toList[r.toNat]])) := by
    show (atI s.cps.toList r).map _ = _
    rw [atI_pos r0, List.getElem?_eq_getElem hr]; rfl
  exact ⟨_, eg, ⟨_, rfl⟩, hf⟩
/-- a row: the signs of a line, drawn -/
theorem row_ok {m : Nat} {xs : List D} {rows cols : Int} {od : Option SV} (h : Feed m xs) (hm : m + 41 < 2 ^ 200) (hc : 0 ≤ cols) (hc2 : cols ≤ 41) :
    (eJoin (eC (.str "")) (eFrz (oComp [4] (iRange1 (eVar 2)) (setD [0] 4) (tYesM) (eFrz (oCall1 F_law_one 0 (aCons (eC (.str ".#o+x*")) (aNil)))))) [some (.l xs), some (.d (.int rows)), some (.d (.int cols)), od, none]).wp fun d ρ => ∃ s xs', d = .str s ∧ s.length ≤ 41 ∧ Feed (m + 41) xs' ∧ ρ = [some (.l xs'), some (.d (.int rows)), some (.d (.int cols)), od, none] := by
  simp
  refine wp_comp_of ?_
  have hz : cols.toNat ≤ sizeLine ∧ -4611686018427387904 ≤ cols := by rw [sizeLine_eq]; omega
  simp [hz]
  refine ⟨fun i acc ρ => ∃ (xs' : List D) (ss : List Str), Feed (m + i) xs' ∧ acc = ss.map PyData.str ∧ ss.length = i ∧ (∀ s ∈ ss, s.length = 1) ∧ ρ = [some (.l xs'), some (.d (.int rows)), some (.d (.int cols)), od, none], ⟨xs, [], h, rfl, rfl, by simp, rfl⟩, ?_, ?_⟩
  · rintro i d acc ρ ed ⟨xs', ss, hf, rfl, hl, hs, rfl⟩
    have hi : i < cols.toNat := by
      have := (List.getElem?_eq_some_iff.mp ed).1
      rw [rangeD_len] at this; exact this
    refine ⟨_, by simp; rfl, ?_⟩
    simp
    obtain ⟨c, ys, e, hf2⟩ := one_str (s := ".#o+x*") hf (by omega) (by decide +kernel) (by decide +kernel)
    refine ⟨_, _, e, ?_⟩
    simp
    exact ⟨ys, hf2, ss ++ [mkS [c]], by simp, by simp [hl], fun s hs' => by
      rcases List.mem_append.mp hs' with h | h
      · exact hs s h
      · rw [List.mem_singleton.mp h]; rfl, rfl⟩
  · rintro ys ρ ⟨xs', ss, hf, rfl, hl, hs, rfl⟩
    rw [rangeD_len] at hl hf
    have h1 : (ss.map (·.length)).sum = ss.length := by
      have : ss.map (·.length) = List.replicate ss.length 1 := List.eq_replicate_iff.mpr ⟨by simp, fun x hx => by
        obtain ⟨s, h2, rfl⟩ := List.mem_map.mp hx
        exact hs s h2⟩
      rw [this, sum_repl, Nat.mul_one]
    have h0 : ("" : Str).length = 0 := by decide +kernel
    refine ⟨.str (Txt.join "" ss), ?_, _, rfl, ?_, xs', ?_, rfl⟩
    · simp only [strsOf_map, h0, h1]
      rw [if_pos (by omega)]
    · have e : Txt.join "" ss = Str.join "" ss := StrLaws.glued_eq_join ..
      rw [e]
      have := StrLaws.join_length_le "" ss
      rw [h0, h1] at this
      omega
    · obtain ⟨a, b, c, e, q1, q2, q3, q4, q5⟩ := hf
      exact ⟨a, b, c, e, q1, q2, q3, q4, by omega⟩
theorem Feed.le {m n : Nat} {xs : List D} (h : Feed m xs) (hn : m ≤ n) : Feed n xs := by
  obtain ⟨a, b, c, e, q1, q2, q3, q4, q5⟩ := h
  exact ⟨a, b, c, e, q1, q2, q3, q4, by omega⟩
def szs : List D := [.tuple [.int 1, .int 1], .tuple [.int 2, .int 3], .tuple [.int 40, .int 15], .tuple [.int 15, .int 40], .tuple [.int 24, .int 25], .tuple [.int 40, .int 1], .tuple [.int 1, .int 40], .tuple [.int 41, .int 2], .tuple [.int 2, .int 41], .tuple [.int 25, .int 25]]
theorem drawn_ok {m : Nat} {xs : List D} (h : Feed m xs) (hm : m + 2000 < 2 ^ 200) : ∃ (ss : List Str) (xs' : List D), F_law_drawn xs [] = .ok (.l (ss.map PyData.str)) xs' ∧ 1 ≤ ss.length ∧ ss.length ≤ 41 ∧ (∀ s ∈ ss, s.length ≤ 41) ∧ Feed (m + 2000) xs' := by
  have := fn1_ok_of (N := 5) (g := G_law_drawn) (xs := xs) (ds := []) (Q := fun x ys => ∃ ss : List Str, x = .l (ss.map PyData.str) ∧ 1 ≤ ss.length ∧ ss.length ≤ 41 ∧ (∀ s ∈ ss, s.length ≤ 41) ∧ Feed (m + 2000) ys) ?_
  · obtain ⟨x, ys, e, ss, rfl, q⟩ := this
    exact ⟨ss, ys, e, q⟩
  unfold G_law_drawn
  rw [fwp_seq]
  refine fwp_set_of ?_
  simp
  obtain ⟨r1, x1, e1, a1, b1, hf1⟩ := draw_ok (many := 9) h (by omega) (by decide) (by decide)
  have hz2 : 2 ≤ sizeLine := by decide
  have hz11 : 11 ≤ sizeLine := by decide
  refine ⟨hz2, _, _, e1, ?_⟩
  simp
  obtain ⟨r2, x2, e2, a2, b2, hf2⟩ := draw_ok (many := 9) hf1 (by omega) (by decide) (by decide)
  refine ⟨_, _, e2, ?_⟩
  simp [hz2, hz11]
  obtain ⟨d, x3, e3, hd, hf3⟩ := one_list (things := szs ++ [.tuple [.int (1 + r1), .int (1 + r2)]]) hf2 (by omega) (by simp [szs]) (by simp [szs])
  refine ⟨_, _, e3, ?_⟩
  obtain ⟨rows, cols, rfl, hr1, hr2, hc1, hc2⟩ : ∃ rows cols : Int, d = .tuple [.int rows, .int cols] ∧ 1 ≤ rows ∧ rows ≤ 41 ∧ 1 ≤ cols ∧ cols ≤ 41 := by
    rcases List.mem_append.mp hd with hd | hd
    · simp only [szs, List.mem_cons, List.mem_nil_iff, or_false] at hd
      rcases hd with rfl | rfl | rfl | rfl | rfl | rfl | rfl | rfl | rfl | rfl <;> exact ⟨_, _, rfl, by decide, by decide, by decide, by decide⟩
    · rw [List.mem_singleton.mp hd]
      exact ⟨_, _, rfl, by omega, by omega, by omega, by omega⟩
  simp
  refine fwp_retO_of ?_
  refine wp_comp_of ?_
  have hz : rows.toNat ≤ sizeLine ∧ -4611686018427387904 ≤ rows := by rw [sizeLine_eq]; omega
  simp [hz, -wp_frz, -wp_join]
  refine ⟨fun i acc ρ => ∃ (xs' : List D) (ss : List Str), Feed (m + 3 + i * 41) xs' ∧ acc = ss.map PyData.str ∧ ss.length = i ∧ (∀ s ∈ ss, s.length ≤ 41) ∧ ρ = [some (.l xs'), some (.d (.int rows)), some (.d (.int cols)), none, none], ⟨x3, [], hf3, rfl, rfl, by simp, rfl⟩, ?_, ?_⟩
  · rintro i d acc ρ ed ⟨xs', ss, hf, rfl, hl, hs, rfl⟩
    have hi : i < rows.toNat := by
      have := (List.getElem?_eq_some_iff.mp ed).1
      rw [rangeD_len] at this; exact this
    refine ⟨_, by simp; rfl, ?_⟩
    refine (row_ok (od := some (.d d)) hf (by omega) (by omega) hc2).imp fun d' ρ' ⟨s, ys, e, hs1, hf2, er⟩ => ?_
    subst e
    subst er
    refine ⟨ys, ss ++ [s], hf2.le (by omega), by simp, by simp [hl], fun s' hs' => ?_, rfl⟩
    rcases List.mem_append.mp hs' with h | h
    · exact hs s' h
    · rw [List.mem_singleton.mp h]; exact hs1
  · rintro ys ρ ⟨xs', ss, hf, rfl, hl, hs, rfl⟩
    rw [rangeD_len] at hl hf
    exact ⟨xs', rfl, ss, rfl, by omega, by omega, hs, hf.le (by omega)⟩
end Lk60

namespace Lk60
open PySem PySem.Spec PyProof.Rows L2 DL
theorem cutS_len (z : Str) (lo hi : Option Int) : (cutS z lo hi).length ≤ z.length := by
  show ((z.cps.toList.drop (HT.sIx z.length 0 lo)).take (HT.sIx z.length z.length hi - HT.sIx z.length 0 lo)).toArray.size ≤ z.length
  rw [List.size_toArray, List.length_take, List.length_drop]
  have : z.cps.toList.length = z.length := by simp [Str.length]
  omega
theorem cutD_strs (ss : List Str) (lo hi : Option Int) : ∃ tt : List Str, DL.cutD (ss.map PyData.str) lo hi = tt.map PyData.str ∧ (∀ s ∈ tt, s ∈ ss) ∧ tt.length ≤ ss.length := by
  refine ⟨(ss.drop (HT.sIx (ss.map PyData.str).length 0 lo)).take (HT.sIx (ss.map PyData.str).length (ss.map PyData.str).length hi - HT.sIx (ss.map PyData.str).length 0 lo), by unfold DL.cutD; rw [List.map_take, List.map_drop], fun s h => List.mem_of_mem_drop (List.mem_of_mem_take h), ?_⟩
  rw [List.length_take, List.length_drop]; omega
theorem sum_le (ss : List Str) (n : Nat) (h : ∀ s ∈ ss, s.length ≤ n) : (ss.map (·.length)).sum ≤ ss.length * n := by
  induction ss with
  | nil => simp
  | cons s r ih =>
    have h1 := ih fun s hs => h s (List.mem_cons_of_mem _ hs)
    have h2 := h s List.mem_cons_self
    rw [List.map_cons, List.sum_cons, List.length_cons, Nat.succ_mul]
    omega
theorem join_d {a : Str} {ss : List Str} (ha : a.length ≤ 2) (h : ∀ s ∈ ss, s.length ≤ 50) (hl : ss.length ≤ 100) : joinD a (.list (ss.map PyData.str)) = some (.str (Txt.join a ss)) ∧ (Txt.join a ss).length ≤ 6000 := by
  have h1 := sum_le ss 50 h
  have h2 : ss.length * a.length ≤ 100 * 2 := Nat.mul_le_mul hl ha
  refine ⟨?_, ?_⟩
  · simp only [joinD_list, strsOf_map]
    rw [if_pos (by omega)]
  · have e : Txt.join a ss = Str.join a ss := StrLaws.glued_eq_join ..
    rw [e]
    have := StrLaws.join_length_le a ss
    omega
theorem join_len {y z : Str} (h : y.length = z.length) : ∀ ps : List Str, (Str.join y ps).length = (Str.join z ps).length
  | [] => rfl
  | [_] => rfl
  | p :: q :: r => by
    show (p ++ y ++ Str.join y (q :: r)).length = (p ++ z ++ Str.join z (q :: r)).length
    rw [Str.length_append, Str.length_append, Str.length_append, Str.length_append, join_len h, h]
theorem repl_len (x : Str) : (Txt.replace x "o" "O").length = x.length := by
  have e : ("o" : Str) = ⟨#[111]⟩ := by decide +kernel
  rw [e, StrLaws.replace_one, join_len (z := ⟨#[111]⟩) (by decide +kernel), StrLaws.join_split]
def dotF (d : D) : D := .str (mkS (strTl d) ++ ".")
theorem dotF_str (s : Str) : dotF (.str s) = .str (s ++ ".") := rfl
def OkT (d : D) : Prop := ∀ s, d = .str s → s.length ≤ 100000
theorem okt_str {s : Str} (h : s.length ≤ 100000) : OkT (.str s) := fun t e => by cases e; exact h
theorem texts_ok {m : Nat} {xs : List D} (h : Feed m xs) (hm : m + 3000 < 2 ^ 200) : ∃ (ds : List D) (xs' : List D), F_law_texts xs [] = .ok (.d (.list ds)) xs' ∧ (∀ d ∈ ds, OkT d) ∧ ds.length ≤ 100 ∧ Feed (m + 3000) xs' := by
  have := fn1_ok_of (N := 7) (g := G_law_texts) (xs := xs) (ds := []) (Q := fun x ys => ∃ ds : List D, x = .d (.list ds) ∧ (∀ d ∈ ds, OkT d) ∧ ds.length ≤ 100 ∧ Feed (m + 3000) ys) ?_
  · obtain ⟨x, ys, e, ds, rfl, q⟩ := this
    exact ⟨ds, ys, e, q⟩
  have hz3 : sizeLine = 16777216 := by rw [sizeLine_eq]
  unfold G_law_texts
  rw [fwp_seq]
  refine fwp_set_of ?_
  simp
  obtain ⟨ss, x1, e1, hs1, hs2, hs3, hf1⟩ := drawn_ok h (by omega)
  refine ⟨_, _, e1, ?_⟩
  simp
  refine fwp_set_of ?_
  have ln : ("\n" : Str).length = 1 := by decide +kernel
  have l1 : (".":Str).length = 1 := by decide +kernel
  have l2 : ("#":Str).length = 1 := by decide +kernel
  have l3 : (" ":Str).length = 1 := by decide +kernel
  have l4 : ("":Str).length = 0 := by decide +kernel
  have l5 : ("\t\n":Str).length = 2 := by decide +kernel
  have l6 : ("\n\n":Str).length = 2 := by decide +kernel
  have l7 : ("O":Str).length = 1 := by decide +kernel
  have hs50 : ∀ s ∈ ss, s.length ≤ 50 := fun s hs => Nat.le_trans (hs3 s hs) (by decide)
  obtain ⟨j1, j2⟩ := join_d (a := "\n") (by omega) hs50 (by omega)
  simp [j1, -joinD_list]
  generalize hT : Txt.join ("\n" : Str) ss = T at j1 j2 ⊢
  refine fwp_par_of ?_
  simp
  obtain ⟨at', x2, e2, a2, b2, hf2⟩ := draw_ok (many := (T.length : Int) + 1) hf1 (by omega) (by omega) (by omega)
  refine ⟨_, _, e2, ?_⟩
  simp
  obtain ⟨row, x3, e3, a3, b3, hf3⟩ := draw_ok (many := (ss.length : Int)) hf2 (by omega) (by omega) (by omega)
  refine ⟨_, _, e3, ?_⟩
  simp
  refine fwp_set_of ?_
  have hc : ∀ lo hi, (cutS T lo hi).length ≤ T.length := fun lo hi => cutS_len T lo hi
  have hA : ∀ (a b : Str), a.length + b.length ≤ 16777216 → gAdd (.str a) (.str b) = some (.str (a ++ b)) := fun a b h => by simp [hz3, h]
  have hla : ∀ a b : Str, (a ++ b).length = a.length + b.length := fun a b => Str.length_append a b
  obtain ⟨c, x4, e4, hf4⟩ := one_str (s := " 0O@X-\t,") hf3 (by omega) (by decide +kernel) (by decide +kernel)
  have hc1 : (mkS [c]).length = 1 := rfl
  have k1 := hc none (some at')
  have k2 := hc (some at') none
  have k3 := hc (some (at' + 1)) none
  have A1 := hA T "\n" (by omega)
  have A2 := hA "\n" T (by omega)
  have A3 := hA (cutS T none (some at')) "\n" (by omega)
  have A4 := hA (cutS T none (some at') ++ "\n") (cutS T (some at') none) (by rw [hla]; omega)
  have A5 := hA (cutS T none (some at')) (mkS [c]) (by omega)
  have A6 := hA (cutS T none (some at') ++ mkS [c]) (cutS T (some (at' + 1)) none) (by rw [hla]; omega)
  have A7 := hA (cutS T none (some at')) (cutS T (some (at' + 1)) none) (by omega)
  have A8 := hA (cutS T none (some at')) "#" (by omega)
  have A9 := hA (cutS T none (some at') ++ "#") (cutS T (some at') none) (by rw [hla]; omega)
  have hz7 : 7 ≤ sizeLine := by omega
  have hz4 : 4 ≤ sizeLine := by omega
  have hz1 : 1 ≤ sizeLine := by omega
  have hz33 : 3 ≤ sizeLine := by omega
  have hz13 : 13 ≤ sizeLine := by omega
  simp [A1, A2, A3, A4, A5, A6, A7, A8, A9, e4, hz7, -gAdd_str]
  have key : ∀ {P Q : D → List D → Prop}, P (.str (mkS [c])) x4 → ∃ x x_1, FR1.ok (SV.d (.str (mkS [c]))) x4 = FR1.ok x x_1 ∧ ∃ d, x.frz = some d ∧ P d x_1 := fun h => ⟨_, _, rfl, _, rfl, h⟩
  refine ⟨_, _, ⟨rfl, rfl⟩, ?_⟩
  simp [A5, A6, A7, A8, A9, -gAdd_str]
  refine fwp_set_of ?_
  have hL : ∀ (a b : List D), a.length + b.length ≤ 16777216 → gAdd (.list a) (.list b) = some (.list (a ++ b)) := fun a b h => by rw [gAdd_list, if_pos (by omega)]
  obtain ⟨j3, j4⟩ := join_d (a := "\t\n") (by omega) hs50 (by omega)
  obtain ⟨j5, j6⟩ := join_d (a := "") (by omega) hs50 (by omega)
  obtain ⟨j7, j8⟩ := join_d (a := "\n") (ss := ss ++ ss) (by omega) (fun s hs => by rcases List.mem_append.mp hs with h | h <;> exact hs50 s h) (by rw [List.length_append]; omega)
  obtain ⟨t1, et1, ht1, hl1⟩ := cutD_strs ss none (some row)
  obtain ⟨t2, et2, ht2, hl2⟩ := cutD_strs ss (some row) none
  have hss : ∀ s ∈ t1 ++ [("" : Str)] ++ t2, s.length ≤ 50 := fun s hs => by
    rcases List.mem_append.mp hs with h | h
    · rcases List.mem_append.mp h with h | h
      · exact hs50 s (ht1 s h)
      · rw [List.mem_singleton.mp h]; omega
    · exact hs50 s (ht2 s h)
  obtain ⟨j9, j10⟩ := join_d (a := "\n") (ss := t1 ++ [("" : Str)] ++ t2) (by omega) hss (by simp; omega)
  have B1 := hL (ss.map PyData.str) (ss.map PyData.str) (by simp; omega)
  have B2 := hL (t1.map PyData.str) [PyData.str ""] (by simp; omega)
  have B3 := hL (t1.map PyData.str ++ [PyData.str ""]) (t2.map PyData.str) (by simp; omega)
  rw [← List.map_append] at B1
  have B3' : gAdd (.list (t1.map PyData.str ++ [PyData.str ""])) (.list (t2.map PyData.str)) = some (.list ((t1 ++ [("" : Str)] ++ t2).map PyData.str)) := by rw [B3]; simp
  simp [j3, j5, B1, j7, et1, et2, hz1, B2, B3', j9, hz4, -joinD_list, -gAdd_list, -List.map_append, -List.append_assoc]
  refine ⟨_, hL _ _ (by simp), ?_⟩
  have hfs : ∀ d ∈ [PyData.str T, PyData.str (T ++ "\n"), PyData.str ("\n" ++ T), PyData.str (cutS T none (some at') ++ "\n" ++ cutS T (some at') none), PyData.str (cutS T none (some at') ++ mkS [c] ++ cutS T (some (at' + 1)) none), PyData.str (cutS T none (some at') ++ cutS T (some (at' + 1)) none), PyData.str (cutS T none (some at') ++ "#" ++ cutS T (some at') none)] ++ [PyData.str (Txt.join "\t\n" ss), PyData.str (Txt.join "" ss), PyData.str (Txt.join "\n" (ss ++ ss)), PyData.str (Txt.join "\n" (t1 ++ [("" : Str)] ++ t2))], OkT d := fun d hd => by
    simp only [List.cons_append, List.nil_append, List.mem_cons, List.mem_nil_iff, or_false] at hd
    rcases hd with rfl | rfl | rfl | rfl | rfl | rfl | rfl | rfl | rfl | rfl | rfl <;> refine okt_str ?_ <;> (try simp only [hla]) <;> omega
  have hfl : ([PyData.str T, PyData.str (T ++ "\n"), PyData.str ("\n" ++ T), PyData.str (cutS T none (some at') ++ "\n" ++ cutS T (some at') none), PyData.str (cutS T none (some at') ++ mkS [c] ++ cutS T (some (at' + 1)) none), PyData.str (cutS T none (some at') ++ cutS T (some (at' + 1)) none), PyData.str (cutS T none (some at') ++ "#" ++ cutS T (some at') none)] ++ [PyData.str (Txt.join "\t\n" ss), PyData.str (Txt.join "" ss), PyData.str (Txt.join "\n" (ss ++ ss)), PyData.str (Txt.join "\n" (t1 ++ [("" : Str)] ++ t2))]).length = 11 := rfl
  revert hfs hfl
  generalize ([PyData.str T, PyData.str (T ++ "\n"), PyData.str ("\n" ++ T), PyData.str (cutS T none (some at') ++ "\n" ++ cutS T (some at') none), PyData.str (cutS T none (some at') ++ mkS [c] ++ cutS T (some (at' + 1)) none), PyData.str (cutS T none (some at') ++ cutS T (some (at' + 1)) none), PyData.str (cutS T none (some at') ++ "#" ++ cutS T (some at') none)] ++ [PyData.str (Txt.join "\t\n" ss), PyData.str (Txt.join "" ss), PyData.str (Txt.join "\n" (ss ++ ss)), PyData.str (Txt.join "\n" (t1 ++ [("" : Str)] ++ t2))]) = fs
  intro hfs hfl
  clear A1 A2 A3 A4 A5 A6 A7 A8 A9 j3 j5 j7 j9 et1 et2 B1 B2 B3 B3' key e1 e2 e3 e4
  refine fwp_set_of ?_
  obtain ⟨s0, es0⟩ : ∃ s0, ss[0]? = some s0 := ⟨ss[0], List.getElem?_eq_getElem (by omega)⟩
  have hs0 : s0 ∈ ss := List.mem_of_getElem? es0
  obtain ⟨j3, j4'⟩ := join_d (a := "\n") (ss := ss ++ [s0]) (by omega) (fun s hs => by
    rcases List.mem_append.mp hs with h | h
    · exact hs50 s h
    · rw [List.mem_singleton.mp h]; exact hs50 _ hs0) (by simp; omega)
  have B1 := hL (ss.map PyData.str) [PyData.str s0] (by simp; omega)
  have B1' : gAdd (.list (ss.map PyData.str)) (.list [PyData.str s0]) = some (.list ((ss ++ [s0]).map PyData.str)) := by rw [B1]; simp
  simp [es0, hz1, B1', j3, -joinD_list, -gAdd_list, -List.map_append]
  refine wp_comp_map dotF ?_
  obtain ⟨j5, j6'⟩ := join_d (a := "\n") (ss := ss.map fun s => s ++ ("." : Str)) (by omega) (fun s hs => by
    obtain ⟨z, hz, rfl⟩ := List.mem_map.mp hs
    rw [hla]; have := hs3 z hz; omega) (by simp; omega)
  have hcomp : List.map dotF (List.map PyData.str ss) = (ss.map fun s => s ++ (".":Str)).map PyData.str := by
    rw [List.map_map, List.map_map]
    rfl
  simp [hz33, -joinD_list, -gAdd_list, -gAdd_str, -List.map_map]
  refine ⟨fun z hz => (hA z "." (by have := hs3 z hz; omega)).trans rfl, ?_⟩
  rw [hcomp]
  refine ⟨_, j5, _, hL _ _ (by simp; omega), ?_⟩
  refine fwp_ret_of ?_
  have A1 := hA " " T (by omega)
  have A2 := hA T " " (by omega)
  have A3 := hA T T (by omega)
  have hrl := repl_len T
  have r1 : T.length + (T.length + 1) * ("O" : Str).length ≤ 16777216 := by rw [l7]; omega
  have r2 : (Txt.replace T "o" "O").length ≤ sizeLine := by rw [hrl]; omega
  simp [A1, A2, A3, r1, r2, hz1, hz13, -gAdd_list, -gAdd_str]
  refine ⟨_, hL _ _ (by simp; omega), _, rfl, ?_, by simp; omega, hf4.le (by omega)⟩
  intro d hd
  have hnon : ∀ d : D, (∀ s, d ≠ .str s) → OkT d := fun d h s e => absurd e (h s)
  rcases List.mem_append.mp hd with hd | hd
  · rcases List.mem_append.mp hd with hd | hd
    · exact hfs d hd
    · simp only [List.mem_cons, List.mem_nil_iff, or_false] at hd
      rcases hd with rfl | rfl | rfl <;> refine okt_str ?_ <;> omega
  · simp only [List.mem_cons, List.mem_nil_iff, or_false] at hd
    rcases hd with rfl | rfl | rfl | rfl | rfl | rfl | rfl | rfl | rfl | rfl | rfl | rfl | rfl
    · exact hnon _ fun s e => nomatch e
    · exact hnon _ fun s e => nomatch e
    · exact hnon _ fun s e => nomatch e
    · exact hnon _ fun s e => nomatch e
    · exact hnon _ fun s e => nomatch e
    · exact hnon _ fun s e => nomatch e
    · refine okt_str ?_; omega
    · refine okt_str ?_; rw [hla]; omega
    · refine okt_str ?_; rw [hla]; omega
    · exact hnon _ fun s e => nomatch e
    · refine okt_str ?_; omega
    · refine okt_str ?_; rw [hrl]; omega
    · refine okt_str ?_; rw [hla]; omega
/-- THE LAW over data -/
theorem law_data (ns : List Int) (hl : ns.length ≤ 63) : ∃ ρ, G_law (rho0 5 [.s ns]) = .ret (.d (.bool true)) ρ := by
  have : (G_law (rho0 5 [.s ns])).wp { r := fun x _ => x = .d (.bool true) } := by
    unfold G_law
    rw [fwp_seq]
    refine fwp_for_of ?_
    have h3 : ∀ z : Int, 0 ≤ z → z ≤ 3 → z.toNat ≤ sizeLine ∧ -(2 ^ 62) ≤ z := fun z h1 h2 => by rw [sizeLine_eq]; omega
    simp
    generalize hk : (if 1 < (if 3 < (ns.length : Int) then 3 else (ns.length : Int)) then (if 3 < (ns.length : Int) then 3 else (ns.length : Int)) else 1) = n
    have hn : 1 ≤ n ∧ n ≤ 3 := by
      subst hk
      split <;> split <;> omega
    refine ⟨_, ⟨by rw [sizeLine_eq]; omega, rfl⟩, ?_⟩
    refine fwp_loop (fun i ρ => ∃ o1 o3 o4 : Option D, ∃ o2 : Option SV, ρ = [some (.s ns), o1.map .d, o2, o3.map .d, o4.map .d]) 0 ⟨none, none, none, none, rfl⟩ ?_ ?_
    · rintro k d ρ ed ⟨o1, o3, o4, o2, rfl⟩
      have hk3 : k < n.toNat := by
        have := (List.getElem?_eq_some_iff.mp ed).1
        rw [rangeD_len] at this; exact this
      have hd : d = .int (k : Nat) := by
        unfold rangeD at ed
        rw [List.getElem?_map, List.getElem?_range hk3] at ed
        cases ed; simp
      subst hd
      refine ⟨_, by simp; rfl, ?_⟩
      unfold B3_law
      rw [fwp_seq]
      refine fwp_setO_of ?_
      simp
      obtain ⟨fd, ef, hf⟩ := feed_ok (ns := ns) (k := (k : Nat)) (by omega) (by omega) hl
      refine ⟨_, ef, ?_⟩
      refine fwp_for_of ?_
      have h3 : (3 : Nat) ≤ sizeLine := by decide
      simp [h3]
      refine fwp_loop (fun i ρ => ∃ o3 o4 : Option D, ∃ xs, Feed (i * 4000) xs ∧ ρ = [some (.s ns), some (.d (.int (k : Nat))), some (.l xs), o3.map .d, o4.map .d]) 0 ⟨o3, o4, fd, by simpa using hf, rfl⟩ ?_ ?_
      · rintro t d ρ ed2 ⟨o3, o4, xs, hfx, rfl⟩
        rw [Nat.zero_add] at *
        have ht : t < 3 := by
          have := (List.getElem?_eq_some_iff.mp ed2).1
          rw [rangeD_len] at this; exact this
        refine ⟨_, by simp; rfl, ?_⟩
        unfold B2_law
        refine fwp_for_of ?_
        simp
        obtain ⟨ds, x1, et, hds, hdl, hf1⟩ := texts_ok hfx (by omega)
        refine ⟨_, _, et, ?_⟩
        simp
        refine fwp_loop (fun i ρ => ∃ o4 : Option D, ∃ xs, Feed (t * 4000 + 3000 + i) xs ∧ ρ = [some (.s ns), some (.d (.int (k : Nat))), some (.l xs), some (.d d), o4.map .d]) 0 ⟨o4, x1, hf1, rfl⟩ ?_ ?_
        · rintro j txt ρ ed3 ⟨o4, xs, hfx, rfl⟩
          rw [Nat.zero_add] at *
          have hj : j < ds.length := (List.getElem?_eq_some_iff.mp ed3).1
          have htx : OkT txt := hds txt (List.mem_of_getElem? ed3)
          refine ⟨_, by simp; rfl, ?_⟩
          unfold B1_law
          refine fwp_if_of ?_
          simp
          obtain ⟨r, x2, ed, hr1, hr2, hf2⟩ := draw_ok (many := 2) hfx (by omega) (by decide) (by decide)
          refine ⟨_, _, ed, ?_⟩
          simp
          have e1 := told_ok txt (r == 0) htx
          obtain ⟨r2, e2, rfl⟩ := due_ok txt htx
          have e3 := same_due txt
          exact ⟨_, e1, _, rfl, _, e2, _, rfl, _, e3, _, rfl, .inr ⟨rfl, some txt, x2, hf2, rfl, rfl⟩⟩
        · rintro ρ ⟨o4, xs, hfx, rfl⟩
          exact ⟨some d, o4, xs, hfx.le (by omega), rfl⟩
      · rintro ρ ⟨o3, o4, xs, hfx, rfl⟩
        exact ⟨some (.int (k : Nat)), o3, o4, some (.l xs), rfl⟩
    · rintro ρ ⟨o1, o3, o4, o2, rfl⟩
      dsimp only
      refine fwp_ret_of ?_
      simp
  cases e : G_law (rho0 5 [.s ns]) with
  | ret x ρ => rw [e] at this; cases this; exact ⟨ρ, rfl⟩
  | _ => rw [e] at this; exact this.elim
end Lk60

namespace Lk60
open PySem PySem.Spec PyProof.Rows L2 DL
def d_law_feed : He.DefD := ⟨("_law_feed", none), "_law_feed", "_law_feed", defArgs (top 9), defBody (top 9), defScope (top 9), [], []⟩
def d_law_draw : He.DefD := ⟨("_law_draw", none), "_law_draw", "_law_draw", defArgs (top 10), defBody (top 10), defScope (top 10), [], []⟩
def d_law_one : He.DefD := ⟨("_law_one", none), "_law_one", "_law_one", defArgs (top 11), defBody (top 11), defScope (top 11), [], []⟩
def d_law_drawn : He.DefD := ⟨("_law_drawn", none), "_law_drawn", "_law_drawn", defArgs (top 14), defBody (top 14), defScope (top 14), [], []⟩
def d_law_texts : He.DefD := ⟨("_law_texts", none), "_law_texts", "_law_texts", defArgs (top 15), defBody (top 15), defScope (top 15), [], []⟩
def d_law_same : He.DefD := ⟨("_law_same", none), "_law_same", "_law_same", defArgs (top 12), defBody (top 12), defScope (top 12), [], []⟩
def d_read_picture : He.DefD := ⟨("read_picture", none), "read_picture", "read_picture", defArgs (top 7), defBody (top 7), defScope (top 7), [], []⟩
def d_law_told : He.DefD := ⟨("_law_told", none), "_law_told", "_law_told", defArgs (top 16), defBody (top 16), defScope (top 16), [], []⟩
def d_law_due : He.DefD := ⟨("_law_due", none), "_law_due", "_law_due", defArgs (top 13), defBody (top 13), defScope (top 13), [], []⟩
def d_law : He.DefD := ⟨("law", none), "law", "law", defArgs (top 17), defBody (top 17), defScope (top 17), [], []⟩
def fn : List He.DefD := ([d_law_feed, d_law_draw, d_law_one, d_law_drawn, d_law_texts, d_law_same, d_read_picture, d_law_told, d_law_due, d_law] : List He.DefD)
def fa : List He.Fa := ([.free "len", .free "int", .free "str", .free "bool", .free "isinstance", .free "all", .free "any", .free "sum", .free "max", .free "min", .free "abs", .free "sorted", .free "list", .free "tuple", .free "dict", .free "set"] : List He.Fa) ++ ([.free "range", .free "zip", .free "enumerate", .free "repr", .glo "_law_feed", .glo "_law_draw", .glo "_law_one", .glo "_law_drawn", .glo "_law_texts", .glo "_law_same", .glo "read_picture", .glo "_law_told", .glo "_law_due", .glo "law", .int "MOST_CELLS" 600, .int "MOST_LENGTH" 40] : List He.Fa) ++ ([.str "SIGNS" ".#o+x*", .glo "BadPicture", .glo "ShoreError", .exc "BadPicture"] : List He.Fa)
abbrev R : PySem.W.OpenRow := PySem.W.OpenLaw.row PySem.Challenge.rw_shorestree_k60_whole_texts_that_are_no_p
def xb : PySem.W.Frag → Bool := extB errT errXs errYs
def names : List PySem.Str := (["__name__", "ShoreError", "BadPicture", "MOST_CELLS", "MOST_LENGTH", "SIGNS", "read_picture", "_law_feed", "_law_draw", "_law_one", "_law_same", "_law_due", "_law_drawn", "_law_texts", "_law_told"] : List PySem.Str)
theorem run (w : World) : HandSHeadRun.RunEq R (PySem.W.view R.prog [17]) (hookX 5 fa fn xb) (obX 5 fa fn xb) 40000 names w := by
  intro os
  kernel_rfl
theorem facts {w : World} {K : PySem.W.Frag} {h : Heap} {mg : Str → Option Value} {f : Addr} (X : K.In h) (G : h.Ns mainGlobals mg) (hfa : mg ("law" : Str) = some (.ref f)) (c : He.SaysD fa fn K) (hx : xb K = true) :
    ∃ fd : FuncData, (∀ (s : Shared) (v : Value), BindsTo s fd ⟨[v], []⟩ [("script", v)]) ∧ ∀ base : Heap, K.In base → base.Ns mainGlobals mg → FnOk PySem.Challenge.pw_shorestree_k60_whole_texts_that_are_no_p w K mg base (L2.CX PySem.Challenge.pw_shorestree_k60_whole_texts_that_are_no_p w) 61 f fd ["script"] (spLaw K) := by
  have bl : Bl mg := ⟨He.free_ok X G (c.fact 0 (f := .free "len") rfl), He.free_ok X G (c.fact 1 (f := .free "int") rfl), He.free_ok X G (c.fact 2 (f := .free "str") rfl), He.free_ok X G (c.fact 3 (f := .free "bool") rfl), He.free_ok X G (c.fact 4 (f := .free "isinstance") rfl), He.free_ok X G (c.fact 5 (f := .free "all") rfl), He.free_ok X G (c.fact 6 (f := .free "any") rfl), He.free_ok X G (c.fact 7 (f := .free "sum") rfl), He.free_ok X G (c.fact 8 (f := .free "max") rfl), He.free_ok X G (c.fact 9 (f := .free "min") rfl), He.free_ok X G (c.fact 10 (f := .free "abs") rfl), He.free_ok X G (c.fact 11 (f := .free "sorted") rfl), He.free_ok X G (c.fact 12 (f := .free "list") rfl), He.free_ok X G (c.fact 13 (f := .free "tuple") rfl), He.free_ok X G (c.fact 14 (f := .free "dict") rfl), He.free_ok X G (c.fact 15 (f := .free "set") rfl), He.free_ok X G (c.fact 16 (f := .free "range") rfl), He.free_ok X G (c.fact 17 (f := .free "zip") rfl), He.free_ok X G (c.fact 18 (f := .free "enumerate") rfl), He.free_ok X G (c.fact 19 (f := .free "repr") rfl)⟩
  have ev : Ev K mg := ⟨bl,
    He.int_ok X G (c.fact 30 (f := .int "MOST_CELLS" 600) rfl),
    He.int_ok X G (c.fact 31 (f := .int "MOST_LENGTH" 40) rfl),
    He.str_ok X G (c.fact 32 (f := .str "SIGNS" ".#o+x*") rfl),
    err_ok X G (c.fact 33 (f := .glo "BadPicture") rfl) (c.fact 35 (f := .exc "BadPicture") rfl),
    ext_ok X G hx,
    He.glo_ok X G (c.fact 34 (f := .glo "ShoreError") rfl),
    He.glo_ok X G (c.fact 33 (f := .glo "BadPicture") rfl)⟩
  obtain ⟨fd_law_feed, D_law_feed⟩ := c.def_ 0 (d := d_law_feed) rfl
  obtain ⟨fd_law_draw, D_law_draw⟩ := c.def_ 1 (d := d_law_draw) rfl
  obtain ⟨fd_law_one, D_law_one⟩ := c.def_ 2 (d := d_law_one) rfl
  obtain ⟨fd_law_drawn, D_law_drawn⟩ := c.def_ 3 (d := d_law_drawn) rfl
  obtain ⟨fd_law_texts, D_law_texts⟩ := c.def_ 4 (d := d_law_texts) rfl
  obtain ⟨fd_law_same, D_law_same⟩ := c.def_ 5 (d := d_law_same) rfl
  obtain ⟨fd_read_picture, D_read_picture⟩ := c.def_ 6 (d := d_read_picture) rfl
  obtain ⟨fd_law_told, D_law_told⟩ := c.def_ 7 (d := d_law_told) rfl
  obtain ⟨fd_law_due, D_law_due⟩ := c.def_ 8 (d := d_law_due) rfl
  obtain ⟨fd_law, D_law⟩ := c.def_ 9 (d := d_law) rfl
  have e := hfa.symm.trans (He.glo_ok X G (c.fact 29 (f := .glo "law") rfl))
  cases e
  have b := FunD.bindsA (ps := ["script"]) D_law fun _ _ _ _ _ _ us hl => match us, hl with | [_], _ => rfl
  refine ⟨fd_law, fun s v => b s [v] rfl, fun base _ _ => ?_⟩
  have h_law_feed := ok_law_feed (P := PySem.Challenge.pw_shorestree_k60_whole_texts_that_are_no_p) (w := w) (base := base) ev D_law_feed (He.glo_ok X G (c.fact 20 (f := .glo "_law_feed") rfl))  
  have h_law_draw := ok_law_draw (P := PySem.Challenge.pw_shorestree_k60_whole_texts_that_are_no_p) (w := w) (base := base) ev D_law_draw (He.glo_ok X G (c.fact 21 (f := .glo "_law_draw") rfl))  
  have h_law_one := ok_law_one (P := PySem.Challenge.pw_shorestree_k60_whole_texts_that_are_no_p) (w := w) (base := base) ev D_law_one (He.glo_ok X G (c.fact 22 (f := .glo "_law_one") rfl)) h_law_draw 
  have h_law_drawn := ok_law_drawn (P := PySem.Challenge.pw_shorestree_k60_whole_texts_that_are_no_p) (w := w) (base := base) ev D_law_drawn (He.glo_ok X G (c.fact 23 (f := .glo "_law_drawn") rfl)) h_law_one h_law_draw 
  have h_law_texts := ok_law_texts (P := PySem.Challenge.pw_shorestree_k60_whole_texts_that_are_no_p) (w := w) (base := base) ev D_law_texts (He.glo_ok X G (c.fact 24 (f := .glo "_law_texts") rfl)) h_law_drawn h_law_draw h_law_one 
  have h_law_same := ok_law_same (P := PySem.Challenge.pw_shorestree_k60_whole_texts_that_are_no_p) (w := w) (base := base) ev D_law_same (He.glo_ok X G (c.fact 25 (f := .glo "_law_same") rfl))   60
  have h_read_picture := ok_read_picture (P := PySem.Challenge.pw_shorestree_k60_whole_texts_that_are_no_p) (w := w) (base := base) ev D_read_picture (He.glo_ok X G (c.fact 26 (f := .glo "read_picture") rfl))  
  have hk_read_picture := okk_read_picture (P := PySem.Challenge.pw_shorestree_k60_whole_texts_that_are_no_p) (w := w) (base := base) ev D_read_picture (He.glo_ok X G (c.fact 26 (f := .glo "read_picture") rfl))  
  have h_law_told := ok_law_told (P := PySem.Challenge.pw_shorestree_k60_whole_texts_that_are_no_p) (w := w) (base := base) ev D_law_told (He.glo_ok X G (c.fact 27 (f := .glo "_law_told") rfl)) h_read_picture hk_read_picture
  have h_law_due := ok_law_due (P := PySem.Challenge.pw_shorestree_k60_whole_texts_that_are_no_p) (w := w) (base := base) ev D_law_due (He.glo_ok X G (c.fact 28 (f := .glo "_law_due") rfl))  
  exact ok_law (P := PySem.Challenge.pw_shorestree_k60_whole_texts_that_are_no_p) (w := w) (base := base) ev D_law h_law_feed h_law_texts h_law_same h_law_told h_law_draw h_law_due  law_data
end Lk60
open PySem PySem.W PySem.Calls PyProof.Rows
theorem PySem.Challenge.cw_shorestree_k60_whole_texts_that_are_no_p_holds : PySem.Challenge.rw_shorestree_k60_whole_texts_that_are_no_p.Holds := by
  w_on; o_law
  refine HandSHeadRun.head_any (r := OpenLaw.row PySem.Challenge.rw_shorestree_k60_whole_texts_that_are_no_p) (q := view (OpenLaw.row PySem.Challenge.rw_shorestree_k60_whole_texts_that_are_no_p).prog [17]) (H := DL.hookX 5 Lk60.fa Lk60.fn Lk60.xb) (ob := DL.obX 5 Lk60.fa Lk60.fn Lk60.xb) (M := 40000) (loose := Lk60.names) (d := HandSHeadRun.topDef (OpenLaw.row PySem.Challenge.rw_shorestree_k60_whole_texts_that_are_no_p).prog 17) (kwd := []) DL.obX_eq
    (by kernel_rfl) (fun s => by kernel_rfl) Lk60.run (by kernel_rfl) (by kernel_rfl) (by kernel_rfl) (by rfl) (by first | assumption | decide +kernel) (by decide +kernel) ⟨rfl, rfl, rfl, rfl, rfl, by decide +kernel⟩ ?hw ?hc
  case hw => w_witness2
  case hc =>
    refine DL.law_walk (l := PySem.Challenge.rw_shorestree_k60_whole_texts_that_are_no_p) (P := PySem.Challenge.pw_shorestree_k60_whole_texts_that_are_no_p) (k := 61) rfl (by kernel_rfl) ⟨rfl, by decide, by decide⟩ rfl ?F
    intro w mg fa h Y G hmg0
    obtain ⟨K, KX, c, hx⟩ := Y
    have hmg : mg ("law" : PySem.Str) = some (.ref fa) := by
      have e : (HandSHeadRun.topDef (OpenLaw.row PySem.Challenge.rw_shorestree_k60_whole_texts_that_are_no_p).prog 17).name = ("law" : PySem.Str) := by kernel_rfl
      rw [← e]
      exact hmg0
    obtain ⟨fd, hb, hF⟩ := Lk60.facts (w := w) KX G hmg c hx
    exact ⟨K, fd, KX, hb, hF⟩
