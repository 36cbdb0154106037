import PyProof.Rows.All
import Wide.All
import OpenK.AllK
import Wide.FinOn
import HandS.ForMost
import HandS.ForExc
import HandS.Walk
import HandS.Flow
import HandS.IsInst
import HandS.Wide
import HandS.TupAny
import HandS.TupMul
import HandS.Zip
import HandS.Rev
import HandS.Conv
import HandS.Style
import HandS.ExcOwn
import HandS.WordsExc
import HandS.SortRule
import HandS.SortInts
import OpenK.KMore
import HandS.Ends
import HandS.TupLe
import PySem.Challenge.RW_plumbtrees_k67_whole_levels_by_themselve
section
set_option Elab.async false
set_option linter.all false
set_option maxRecDepth 100000
set_option maxHeartbeats 4000000
/-! Ab: an abstract machine over the hand layer. Values are data (Dat); lists that are still changed are cells (Cel) of a small memory; all heap reasoning is hidden in Stt, Step. -/
namespace Ab
open PySem L2

inductive Dat where
  | non
  | bl (b : Bool)
  | int (i : Int)
  | str (x : Str)
  | tup (ds : List Dat)
  | lst (ds : List Dat)
  | rol (ds : List Dat)
  | ptr (k : Nat)
  | oth (v : V)

inductive Cel where
  | lst (ds : List Dat)
  | dK (kvs : List (Key × Dat))
  | dT (kvs : List (List Key × Dat))
  | dead

abbrev Gam := List (Option Dat)
abbrev Mem := List Cel

/-! ### data in a heap -/
mutual
inductive Rep (K : PySem.W.Frag) (S : Hp) (A : List Addr) : Dat → V → Prop
  | non : Rep K S A .non .non
  | bl (b : Bool) : Rep K S A (.bl b) (.bl b)
  | int (i : Int) : Rep K S A (.int i) (.int i)
  | str (x : Str) : Rep K S A (.str x) (.str x)
  | tup {a : Addr} {xs : List V} {ds : List Dat} : SqT K S a xs → Reps K S A ds xs → Rep K S A (.tup ds) (.ref a)
  | lst {a : Addr} {xs : List V} {ds : List Dat} : S a = some (.lst xs) → Reps K S A ds xs → Rep K S A (.lst ds) (.ref a)
  | rol {a : Addr} {xs : List V} {ds : List Dat} : SqL K S a xs → Reps K S A ds xs → Rep K S A (.rol ds) (.ref a)
  | ptr {k : Nat} {a : Addr} : A[k]? = some a → Rep K S A (.ptr k) (.ref a)
  | oth (v : V) : Rep K S A (.oth v) v
inductive Reps (K : PySem.W.Frag) (S : Hp) (A : List Addr) : List Dat → List V → Prop
  | nil : Reps K S A [] []
  | cons {d : Dat} {v : V} {ds : List Dat} {vs : List V} : Rep K S A d v → Reps K S A ds vs → Reps K S A (d :: ds) (v :: vs)
end

theorem Same.trd {H H' : Hp} {a : Addr} {u : HO} (e : Same H H') (h : Rd H a u) : Rd H' a u := by
  rcases h with h | ⟨o, h⟩
  · exact Or.inl (e a _ h)
  · exact Or.inr ⟨o, e a _ h⟩
theorem Same.sqt {K : PySem.W.Frag} {H H' : Hp} {a : Addr} {xs : List V} (e : Same H H') (h : SqT K H a xs) : SqT K H' a xs := by
  rcases h with h | h
  · exact Or.inl (Same.trd e h)
  · exact Or.inr h
theorem Same.sql {K : PySem.W.Frag} {H H' : Hp} {a : Addr} {xs : List V} (e : Same H H') (h : SqL K H a xs) : SqL K H' a xs := by
  rcases h with h | h
  · exact Or.inl (Same.trd e h)
  · exact Or.inr h

theorem pre_get {α : Type} {A A' : List α} {k : Nat} {a : α} (p : A <+: A') (h : A[k]? = some a) : A'[k]? = some a := by
  obtain ⟨T, rfl⟩ := p
  have hk : k < A.length := (List.getElem?_eq_some_iff.mp h).1
  rw [List.getElem?_append_left hk]
  exact h

mutual
theorem Rep.mono {K : PySem.W.Frag} {S S' : Hp} {A A' : List Addr} (e : Same S S') (p : A <+: A') : ∀ {d : Dat} {v : V}, Rep K S A d v → Rep K S' A' d v
  | _, _, .non => .non
  | _, _, .bl b => .bl b
  | _, _, .int i => .int i
  | _, _, .str x => .str x
  | _, _, .tup h r => .tup (Same.sqt e h) (Reps.mono e p r)
  | _, _, .lst h r => .lst (e _ _ h) (Reps.mono e p r)
  | _, _, .rol h r => .rol (Same.sql e h) (Reps.mono e p r)
  | _, _, .ptr h => .ptr (pre_get p h)
  | _, _, .oth v => .oth v
theorem Reps.mono {K : PySem.W.Frag} {S S' : Hp} {A A' : List Addr} (e : Same S S') (p : A <+: A') : ∀ {ds : List Dat} {vs : List V}, Reps K S A ds vs → Reps K S' A' ds vs
  | _, _, .nil => .nil
  | _, _, .cons r t => .cons (Rep.mono e p r) (Reps.mono e p t)
end

section
variable {K : PySem.W.Frag} {S : Hp} {A : List Addr}
theorem Reps.length : ∀ {ds : List Dat} {vs : List V}, Reps K S A ds vs → ds.length = vs.length
  | _, _, .nil => rfl
  | _, _, .cons _ t => congrArg (· + 1) (Reps.length t)
theorem Reps.get : ∀ {ds : List Dat} {vs : List V} {i : Nat} {v : V}, Reps K S A ds vs → vs[i]? = some v → ∃ d, ds[i]? = some d ∧ Rep K S A d v
  | _, _, i, v, .nil, e => by simp at e
  | _, _, 0, v, .cons r _, e => by
    have e' := Option.some.inj e
    subst e'
    exact ⟨_, rfl, r⟩
  | _, _, i + 1, v, .cons _ t, e => by
    obtain ⟨d, h1, h2⟩ := Reps.get (i := i) (v := v) t (by simpa using e)
    exact ⟨d, by simpa using h1, h2⟩
theorem Reps.getD : ∀ {ds : List Dat} {vs : List V} {i : Nat} {d : Dat}, Reps K S A ds vs → ds[i]? = some d → ∃ v, vs[i]? = some v ∧ Rep K S A d v
  | _, _, i, v, .nil, e => by simp at e
  | _, _, 0, v, .cons r _, e => by
    have e' := Option.some.inj e
    subst e'
    exact ⟨_, rfl, r⟩
  | _, _, i + 1, v, .cons _ t, e => by
    obtain ⟨d, h1, h2⟩ := Reps.getD (i := i) (d := v) t (by simpa using e)
    exact ⟨d, by simpa using h1, h2⟩
theorem Reps.append : ∀ {ds es : List Dat} {vs us : List V}, Reps K S A ds vs → Reps K S A es us → Reps K S A (ds ++ es) (vs ++ us)
  | _, _, _, _, .nil, s => s
  | _, _, _, _, .cons r t, s => .cons r (Reps.append t s)
theorem Reps.set {d : Dat} {v : V} (r : Rep K S A d v) : ∀ {ds : List Dat} {vs : List V} (i : Nat), Reps K S A ds vs → Reps K S A (ds.set i d) (vs.set i v)
  | _, _, _, .nil => .nil
  | _, _, 0, .cons _ t => .cons r t
  | _, _, i + 1, .cons q t => .cons q (Reps.set r i t)
theorem Reps.take : ∀ {ds : List Dat} {vs : List V} (n : Nat), Reps K S A ds vs → Reps K S A (ds.take n) (vs.take n)
  | _, _, 0, _ => .nil
  | _, _, _ + 1, .nil => .nil
  | _, _, n + 1, .cons r t => .cons r (Reps.take n t)
theorem Reps.drop : ∀ {ds : List Dat} {vs : List V} (n : Nat), Reps K S A ds vs → Reps K S A (ds.drop n) (vs.drop n)
  | _, _, 0, r => r
  | _, _, _ + 1, .nil => .nil
  | _, _, n + 1, .cons _ t => Reps.drop n t
theorem Reps.dropLast : ∀ {ds : List Dat} {vs : List V}, Reps K S A ds vs → Reps K S A ds.dropLast vs.dropLast
  | _, _, .nil => .nil
  | _, _, .cons _ .nil => .nil
  | _, _, .cons r (.cons q t) => .cons r (Reps.dropLast (.cons q t))
theorem Reps.eraseIdx : ∀ {ds : List Dat} {vs : List V} (i : Nat), Reps K S A ds vs → Reps K S A (ds.eraseIdx i) (vs.eraseIdx i)
  | _, _, _, .nil => .nil
  | _, _, 0, .cons _ t => t
  | _, _, i + 1, .cons r t => .cons r (Reps.eraseIdx i t)
theorem Reps.reverse {ds : List Dat} {vs : List V} (h : Reps K S A ds vs) : Reps K S A ds.reverse vs.reverse := by
  have key : ∀ {ds : List Dat} {vs : List V}, Reps K S A ds vs → Reps K S A ds.reverse vs.reverse := by
    intro ds
    induction ds with
    | nil => intro vs h; cases h; exact .nil
    | cons d ds ih =>
      intro vs h
      cases h with
      | cons r t =>
        rw [List.reverse_cons, List.reverse_cons]
        exact (ih t).append (.cons r .nil)
  exact key h
theorem Reps.rep {ds : List Dat} {vs : List V} (h : Reps K S A ds vs) : ∀ n : Nat, Reps K S A (List.replicate n ds).flatten (List.replicate n vs).flatten
  | 0 => .nil
  | n + 1 => by
    rw [List.replicate_succ, List.replicate_succ, List.flatten_cons, List.flatten_cons]
    exact h.append (Reps.rep h n)
theorem Reps.ints : ∀ {ns : List Int} {vs : List V}, Reps K S A (ns.map Dat.int) vs → vs = ns.map V.int
  | [], vs, h => by cases h; rfl
  | n :: ns, vs, h => by
    cases h with
    | cons r t =>
      cases r
      rw [Reps.ints t]
      rfl
theorem Reps.of_ints : ∀ (ns : List Int), Reps K S A (ns.map Dat.int) (ns.map V.int)
  | [] => .nil
  | n :: ns => .cons (.int n) (Reps.of_ints ns)
theorem Reps.strs : ∀ {ns : List Str} {vs : List V}, Reps K S A (ns.map Dat.str) vs → vs = ns.map V.str
  | [], vs, h => by cases h; rfl
  | n :: ns, vs, h => by
    cases h with
    | cons r t =>
      cases r
      rw [Reps.strs t]
      rfl
theorem Reps.of_strs : ∀ (ns : List Str), Reps K S A (ns.map Dat.str) (ns.map V.str)
  | [] => .nil
  | n :: ns => .cons (.str n) (Reps.of_strs ns)
theorem Reps.bls : ∀ {ns : List Bool} {vs : List V}, Reps K S A (ns.map Dat.bl) vs → vs = ns.map V.bl
  | [], vs, h => by cases h; rfl
  | n :: ns, vs, h => by
    cases h with
    | cons r t =>
      cases r
      rw [Reps.bls t]
      rfl
end

/-! ### no cells in a datum -/
mutual
def Dat.np : Dat → Bool
  | .tup ds => Dat.nps ds
  | .lst ds => Dat.nps ds
  | .rol ds => Dat.nps ds
  | .ptr _ => false
  | _ => true
def Dat.nps : List Dat → Bool
  | [] => true
  | d :: ds => d.np && Dat.nps ds
end
mutual
theorem Rep.free {K : PySem.W.Frag} {S : Hp} {A B : List Addr} : ∀ {d : Dat} {v : V}, d.np = true → Rep K S A d v → Rep K S B d v
  | _, _, _, .non => .non
  | _, _, _, .bl b => .bl b
  | _, _, _, .int i => .int i
  | _, _, _, .str x => .str x
  | _, _, n, .tup h r => .tup h (Reps.free (by simpa [Dat.np] using n) r)
  | _, _, n, .lst h r => .lst h (Reps.free (by simpa [Dat.np] using n) r)
  | _, _, n, .rol h r => .rol h (Reps.free (by simpa [Dat.np] using n) r)
  | _, _, n, .ptr h => by simp [Dat.np] at n
  | _, _, _, .oth v => .oth v
theorem Reps.free {K : PySem.W.Frag} {S : Hp} {A B : List Addr} : ∀ {ds : List Dat} {vs : List V}, Dat.nps ds = true → Reps K S A ds vs → Reps K S B ds vs
  | _, _, _, .nil => .nil
  | _, _, n, .cons r t => by
    simp only [Dat.nps, Bool.and_eq_true] at n
    exact .cons (Rep.free n.1 r) (Reps.free n.2 t)
end
theorem nps_append : ∀ (a b : List Dat), Dat.nps (a ++ b) = (Dat.nps a && Dat.nps b)
  | [], b => by simp [Dat.nps]
  | d :: a, b => by simp [Dat.nps, nps_append a b, Bool.and_assoc]
theorem nps_iff : ∀ (a : List Dat), Dat.nps a = true ↔ ∀ d ∈ a, d.np = true
  | [] => by simp [Dat.nps]
  | d :: a => by simp [Dat.nps, nps_iff a]
theorem nps_map {α : Type} {f : α → Dat} (h : ∀ x, (f x).np = true) (l : List α) : Dat.nps (l.map f) = true := by
  rw [nps_iff]
  intro d hd
  obtain ⟨x, _, rfl⟩ := List.mem_map.mp hd
  exact h x
theorem nps_sub {a b : List Dat} (h : ∀ d ∈ a, d ∈ b) (n : Dat.nps b = true) : Dat.nps a = true := by
  rw [nps_iff] at *
  exact fun d hd => n d (h d hd)
end Ab
end

section
set_option Elab.async false
set_option linter.all false
set_option maxRecDepth 100000
set_option maxHeartbeats 4000000
namespace Ab
open PySem L2

/-! ### steps between states: what is stable stays, what is no cell stays, what is new is new -/
structure Step (S : Hp) (A : List Addr) (H : Hp) (S' : Hp) (A' : List Addr) (H' : Hp) : Prop where
  s : Same S S'
  a : A <+: A'
  keep : ∀ x o, H x = some o → x ∉ A → H' x = some o
  newS : ∀ x o, S' x = some o → S x = some o ∨ H x = none ∨ x ∈ A
  newA : ∀ x, x ∈ A' → x ∈ A ∨ H x = none
  dom : ∀ x o, H x = some o → ∃ o', H' x = some o'
theorem Step.refl (S : Hp) (A : List Addr) (H : Hp) : Step S A H S A H :=
  ⟨Same.refl S, List.prefix_rfl, fun _ _ h _ => h, fun _ _ h => .inl h, fun _ h => .inl h, fun _ o h => ⟨o, h⟩⟩
theorem none_back {H H' : Hp} (dom : ∀ x o, H x = some o → ∃ o', H' x = some o') {x : Addr} (h : H' x = none) : H x = none := by
  cases e : H x with
  | none => rfl
  | some o =>
    obtain ⟨o', q⟩ := dom x o e
    rw [h] at q
    cases q
theorem Step.trans {S S1 S2 : Hp} {A A1 A2 : List Addr} {H H1 H2 : Hp} (a : Step S A H S1 A1 H1) (b : Step S1 A1 H1 S2 A2 H2) : Step S A H S2 A2 H2 where
  s := a.s.trans b.s
  a := a.a.trans b.a
  keep := fun x o h n => b.keep x o (a.keep x o h n) fun m => by
    rcases a.newA x m with q | q
    · exact n q
    · rw [h] at q; cases q
  newS := fun x o h => by
    rcases b.newS x o h with q | q | q
    · exact a.newS x o q
    · exact .inr (.inl (none_back a.dom q))
    · rcases a.newA x q with q | q
      · exact .inr (.inr q)
      · exact .inr (.inl q)
  newA := fun x h => by
    rcases b.newA x h with q | q
    · exact a.newA x q
    · exact .inr (none_back a.dom q)
  dom := fun x o h => by
    obtain ⟨o', q⟩ := a.dom x o h
    exact b.dom x o' q

/-! ### cells -/
def RepKV {κ : Type} (K : PySem.W.Frag) (S : Hp) (A : List Addr) (kvs : List (κ × Dat)) (ws : List (κ × V)) : Prop :=
  Paired (fun (p : κ × Dat) (q : κ × V) => p.1 = q.1 ∧ Rep K S A p.2 q.2) kvs ws
def CellAt (K : PySem.W.Frag) (S : Hp) (A : List Addr) (H : Hp) (x : Addr) : Cel → Prop
  | .lst ds => ∃ xs, H x = some (.lst xs) ∧ Reps K S A ds xs
  | .dK kvs => ∃ ws, H x = some (.dK ws) ∧ RepKV K S A kvs ws
  | .dT kvs => ∃ ws, H x = some (.dT ws) ∧ RepKV K S A kvs ws
  | .dead => ∃ o, H x = some o
theorem RepKV.mono {κ : Type} {K : PySem.W.Frag} {S S' : Hp} {A A' : List Addr} (e : Same S S') (p : A <+: A') {kvs : List (κ × Dat)} {ws : List (κ × V)} (h : RepKV K S A kvs ws) : RepKV K S' A' kvs ws :=
  Paired.mapP h fun _ _ q => ⟨q.1, q.2.mono e p⟩
theorem CellAt.lives {K : PySem.W.Frag} {S : Hp} {A : List Addr} {H : Hp} {x : Addr} {c : Cel} (h : CellAt K S A H x c) : ∃ o, H x = some o := by
  cases c with
  | lst ds => obtain ⟨xs, h, _⟩ := h; exact ⟨_, h⟩
  | dK kvs => obtain ⟨xs, h, _⟩ := h; exact ⟨_, h⟩
  | dT kvs => obtain ⟨xs, h, _⟩ := h; exact ⟨_, h⟩
  | dead => exact h
theorem CellAt.mono {K : PySem.W.Frag} {S S' : Hp} {A A' : List Addr} {H H' : Hp} {x : Addr} {c : Cel} (e : Same S S') (p : A <+: A') (hx : ∀ o, H x = some o → H' x = some o) (h : CellAt K S A H x c) : CellAt K S' A' H' x c := by
  cases c with
  | lst ds => obtain ⟨xs, h, r⟩ := h; exact ⟨xs, hx _ h, r.mono e p⟩
  | dK kvs => obtain ⟨xs, h, r⟩ := h; exact ⟨xs, hx _ h, r.mono e p⟩
  | dT kvs => obtain ⟨xs, h, r⟩ := h; exact ⟨xs, hx _ h, r.mono e p⟩
  | dead => obtain ⟨o, h⟩ := h; exact ⟨o, hx _ h⟩

/-! ### the base (the def's entry) and the state -/
structure Bas where
  S : Hp
  A : List Addr
  H : Hp
def Envs (K : PySem.W.Frag) (S : Hp) (A : List Addr) (σ : L2.St) (Γ : Gam) : Prop :=
  σ.length = Γ.length ∧ ∀ (i : Nat) (d : Dat), Γ[i]? = some (some d) → ∃ v, σ[i]? = some (some v) ∧ Rep K S A d v
structure Stt (K : PySem.W.Frag) (b : Bas) (σ : L2.St) (S : Hp) (A : List Addr) (H : Hp) (Γ : Gam) (M : Mem) : Prop where
  base : Step b.S b.A b.H S A H
  sub : Same S H
  nd : A.Nodup
  len : A.length = M.length
  own : ∀ (k : Nat) (x : Addr) (c : Cel), A[k]? = some x → M[k]? = some c → c ≠ .dead → S x = none
  cell : ∀ (k : Nat) (x : Addr) (c : Cel), A[k]? = some x → M[k]? = some c → CellAt K S A H x c
  env : Envs K S A σ Γ

section
variable {K : PySem.W.Frag} {b : Bas} {σ σ' : L2.St} {S S' : Hp} {A A' : List Addr} {H H' : Hp} {Γ Γ' : Gam} {M M' : Mem}
theorem Envs.mono (e : Same S S') (p : A <+: A') (h : Envs K S A σ Γ) : Envs K S' A' σ Γ :=
  ⟨h.1, fun i d q => by
    obtain ⟨v, h1, h2⟩ := h.2 i d q
    exact ⟨v, h1, h2.mono e p⟩⟩
theorem Envs.set {i : Nat} {d : Dat} {v : V} (h : Envs K S A σ Γ) (r : Rep K S A d v) : Envs K S A (σ.set i (some v)) (Γ.set i (some d)) := by
  refine ⟨by rw [List.length_set, List.length_set]; exact h.1, fun j e q => ?_⟩
  by_cases hj : i = j
  · subst hj
    have hi : i < Γ.length := by
      have := (List.getElem?_eq_some_iff.mp q).1
      rw [List.length_set] at this
      exact this
    rw [List.getElem?_set_self hi] at q
    have e' := Option.some.inj (Option.some.inj q)
    subst e'
    exact ⟨v, List.getElem?_set_self (by rw [h.1]; exact hi), r⟩
  · rw [List.getElem?_set_ne hj] at q
    obtain ⟨v', h1, h2⟩ := h.2 j e q
    exact ⟨v', by rw [List.getElem?_set_ne hj]; exact h1, h2⟩
/-- fewer slots known -/
def Fewer (Γ Γ' : Gam) : Prop := Γ'.length = Γ.length ∧ ∀ (i : Nat) (d : Dat), Γ'[i]? = some (some d) → Γ[i]? = some (some d)
theorem Envs.fewer (f : Fewer Γ Γ') (h : Envs K S A σ Γ) : Envs K S A σ Γ' := ⟨h.1.trans f.1.symm, fun i d q => h.2 i d (f.2 i d q)⟩
theorem Stt.fewer (f : Fewer Γ Γ') (h : Stt K b σ S A H Γ M) : Stt K b σ S A H Γ' M := ⟨h.base, h.sub, h.nd, h.len, h.own, h.cell, h.env.fewer f⟩
theorem Stt.withEnv (h : Stt K b σ S A H Γ M) (e : Envs K S A σ' Γ') : Stt K b σ' S A H Γ' M := ⟨h.base, h.sub, h.nd, h.len, h.own, h.cell, e⟩
theorem Stt.set {i : Nat} {d : Dat} {v : V} (h : Stt K b σ S A H Γ M) (r : Rep K S A d v) : Stt K b (σ.set i (some v)) S A H (Γ.set i (some d)) M := h.withEnv (h.env.set r)
theorem Stt.liveA (h : Stt K b σ S A H Γ M) {x : Addr} (hx : x ∈ A) : ∃ o, H x = some o := by
  obtain ⟨k, hk, e⟩ := List.mem_iff_getElem.mp hx
  have hM : k < M.length := by rw [← h.len]; exact hk
  exact (h.cell k x M[k] (by rw [List.getElem?_eq_getElem hk, e]) (List.getElem?_eq_getElem hM)).lives
theorem Stt.notA (h : Stt K b σ S A H Γ M) {p : Addr} (hp : H p = none) : p ∉ A := fun m => by
  obtain ⟨o, e⟩ := h.liveA m
  rw [hp] at e
  cases e
theorem Stt.freshS (h : Stt K b σ S A H Γ M) {p : Addr} (hp : H p = none) : S p = none := by
  cases e : S p with
  | none => rfl
  | some o =>
    have := h.sub p o e
    rw [hp] at this
    cases this
/-- a new object, stable from now on -/
theorem Stt.lay {p : Addr} {o : HO} (h : Stt K b σ S A H Γ M) (hp : H p = none) : Step S A H (upd S p o) A (upd H p o) ∧ Stt K b σ (upd S p o) A (upd H p o) Γ M := by
  have nA := h.notA hp
  have fS := h.freshS hp
  have sS : Same S (upd S p o) := fun x u e => by
    rw [upd_ne (ne_of_none e fS)]
    exact e
  have sH : ∀ x u, H x = some u → (upd H p o) x = some u := fun x u e => by
    rw [upd_ne (ne_of_none e hp)]
    exact e
  have st : Step S A H (upd S p o) A (upd H p o) := ⟨sS, List.prefix_rfl, fun x u e _ => sH x u e, fun x u e => by
    by_cases hx : x = p
    · subst hx
      exact .inr (.inl hp)
    · rw [upd_ne hx] at e
      exact .inl e, fun x hx => .inl hx, fun x u e => ⟨u, sH x u e⟩⟩
  refine ⟨st, h.base.trans st, fun x u e => ?_, h.nd, h.len, fun k x c h1 h2 h3 => ?_, fun k x c h1 h2 => (h.cell k x c h1 h2).mono sS List.prefix_rfl (sH x), h.env.mono sS List.prefix_rfl⟩
  · by_cases hx : x = p
    · subst hx
      rw [upd_same] at e
      rw [upd_same]
      exact e
    · rw [upd_ne hx] at e
      rw [upd_ne hx]
      exact h.sub x u e
  · have hx : x ≠ p := fun z => nA (z ▸ List.mem_of_getElem? h1)
    rw [upd_ne hx]
    exact h.own k x c h1 h2 h3
/-- a new object that stays ours: one more cell -/
theorem Stt.layCell {p : Addr} {o : HO} {c : Cel} (h : Stt K b σ S A H Γ M) (hp : H p = none) (hc : CellAt K S (A ++ [p]) (upd H p o) p c) :
    Step S A H S (A ++ [p]) (upd H p o) ∧ Stt K b σ S (A ++ [p]) (upd H p o) Γ (M ++ [c]) := by
  have nA := h.notA hp
  have fS := h.freshS hp
  have sH : ∀ x u, H x = some u → (upd H p o) x = some u := fun x u e => by
    rw [upd_ne (ne_of_none e hp)]
    exact e
  have pr : A <+: A ++ [p] := List.prefix_append _ _
  have st : Step S A H S (A ++ [p]) (upd H p o) := ⟨Same.refl S, pr, fun x u e _ => sH x u e, fun x u e => .inl e, fun x hx => by
    rcases List.mem_append.mp hx with q | q
    · exact .inl q
    · have e : x = p := by simpa using q
      subst e
      exact .inr hp, fun x u e => ⟨u, sH x u e⟩⟩
  refine ⟨st, h.base.trans st, fun x u e => sH x u (h.sub x u e), ?_, ?_, fun k x c' h1 h2 h3 => ?_, fun k x c' h1 h2 => ?_, h.env.mono (Same.refl S) pr⟩
  · rw [List.nodup_append]
    refine ⟨h.nd, by simp, fun a ha b hb => ?_⟩
    have e : b = p := by simpa using hb
    subst e
    exact fun z => nA (z ▸ ha)
  · rw [List.length_append, List.length_append, h.len]
    rfl
  · by_cases hk : k < A.length
    · rw [List.getElem?_append_left hk] at h1
      rw [List.getElem?_append_left (by rw [← h.len]; exact hk)] at h2
      exact h.own k x c' h1 h2 h3
    · rw [List.getElem?_append_right (by omega)] at h1
      have hk0 : k - A.length = 0 := by
        have := (List.getElem?_eq_some_iff.mp h1).1
        simp at this
        omega
      rw [hk0] at h1
      have e : p = x := Option.some.inj h1
      subst e
      exact fS
  · by_cases hk : k < A.length
    · rw [List.getElem?_append_left hk] at h1
      rw [List.getElem?_append_left (by rw [← h.len]; exact hk)] at h2
      exact (h.cell k x c' h1 h2).mono (Same.refl S) pr (sH x)
    · rw [List.getElem?_append_right (by omega)] at h1
      have hk0 : k - A.length = 0 := by
        have := (List.getElem?_eq_some_iff.mp h1).1
        simp at this
        omega
      rw [hk0] at h1
      have e : p = x := Option.some.inj h1
      subst e
      rw [List.getElem?_append_right (by rw [← h.len]; omega), ← h.len, hk0] at h2
      have e2 : c = c' := Option.some.inj h2
      subst e2
      exact hc
/-- a cell is written -/
theorem Stt.write {k : Nat} {x : Addr} {o : HO} {c c0 : Cel} (h : Stt K b σ S A H Γ M) (hA : A[k]? = some x) (hM : M[k]? = some c0) (hl : c0 ≠ .dead) (hc : CellAt K S A (upd H x o) x c) :
    Step S A H S A (upd H x o) ∧ Stt K b σ S A (upd H x o) Γ (M.set k c) := by
  have hS : S x = none := h.own k x c0 hA hM hl
  obtain ⟨u0, hH⟩ := (h.cell k x c0 hA hM).lives
  have st : Step S A H S A (upd H x o) := ⟨Same.refl S, List.prefix_rfl, fun y u e n => by
    have ne : y ≠ x := fun z => n (by rw [z]; exact List.mem_of_getElem? hA)
    rw [upd_ne ne]
    exact e, fun y u e => .inl e, fun y hy => .inl hy, fun y u e => by
    by_cases hy : y = x
    · subst hy
      exact ⟨_, upd_same⟩
    · exact ⟨u, by rw [upd_ne hy]; exact e⟩⟩
  have hk : k < M.length := (List.getElem?_eq_some_iff.mp hM).1
  refine ⟨st, h.base.trans st, fun y u e => ?_, h.nd, by rw [List.length_set]; exact h.len, fun j y c' h1 h2 h3 => ?_, fun j y c' h1 h2 => ?_, h.env⟩
  · rw [upd_ne (ne_of_none e hS)]
    exact h.sub y u e
  · by_cases hj : k = j
    · subst hj
      have e : x = y := Option.some.inj (hA.symm.trans h1)
      subst e
      exact hS
    · rw [List.getElem?_set_ne hj] at h2
      exact h.own j y c' h1 h2 h3
  · by_cases hj : k = j
    · subst hj
      have e : x = y := Option.some.inj (hA.symm.trans h1)
      subst e
      rw [List.getElem?_set_self hk] at h2
      have e2 : c = c' := Option.some.inj h2
      subst e2
      exact hc
    · rw [List.getElem?_set_ne hj] at h2
      have hne : y ≠ x := fun z => by
        subst z
        exact hj (nd_ix h.nd hA h1)
      exact (h.cell j y c' h1 h2).mono (Same.refl S) List.prefix_rfl fun u e => by
        rw [upd_ne hne]
        exact e
/-- the replacing of a cell's pointer by what it holds -/
def Dat.frz (k : Nat) (ds : List Dat) : Dat → Dat
  | .ptr j => if j = k then .lst ds else .ptr j
  | d => d
def frzG (k : Nat) (ds : List Dat) (Γ : Gam) : Gam := Γ.map (Option.map (Dat.frz k ds))
/-- a list cell is given up: it is a stable list from now on -/
theorem Stt.freeze {k : Nat} {ds : List Dat} (h : Stt K b σ S A H Γ M) (hM : M[k]? = some (.lst ds)) :
    ∃ x xs, A[k]? = some x ∧ H x = some (.lst xs) ∧ Reps K S A ds xs ∧ Step S A H (upd S x (.lst xs)) A H ∧ Stt K b σ (upd S x (.lst xs)) A H (frzG k ds Γ) (M.set k .dead) ∧ Rep K (upd S x (.lst xs)) A (.lst ds) (.ref x) := by
  have hk : k < M.length := (List.getElem?_eq_some_iff.mp hM).1
  have hkA : k < A.length := by rw [h.len]; exact hk
  have hA : A[k]? = some A[k] := List.getElem?_eq_getElem hkA
  obtain ⟨xs, hx, hr⟩ := h.cell k _ _ hA hM
  have hS : S A[k] = none := h.own k _ _ hA hM (fun z => nomatch z)
  have sS : Same S (upd S A[k] (.lst xs)) := fun y u e => by
    rw [upd_ne (ne_of_none e hS)]
    exact e
  have st : Step S A H (upd S A[k] (.lst xs)) A H := ⟨sS, List.prefix_rfl, fun y u e _ => e, fun y u e => by
    by_cases hy : y = A[k]
    · subst hy
      exact .inr (.inr (List.mem_of_getElem? hA))
    · rw [upd_ne hy] at e
      exact .inl e, fun y hy => .inl hy, fun y u e => ⟨u, e⟩⟩
  have rr : Rep K (upd S A[k] (.lst xs)) A (.lst ds) (.ref A[k]) := .lst upd_same (hr.mono sS List.prefix_rfl)
  refine ⟨A[k], xs, hA, hx, hr, st, ⟨h.base.trans st, fun y u e => ?_, h.nd, by rw [List.length_set]; exact h.len, fun j y c h1 h2 h3 => ?_, fun j y c h1 h2 => ?_, ?_⟩, rr⟩
  · by_cases hy : y = A[k]
    · subst hy
      rw [upd_same] at e
      exact hx.trans e
    · rw [upd_ne hy] at e
      exact h.sub y u e
  · by_cases hj : k = j
    · subst hj
      rw [List.getElem?_set_self hk] at h2
      exact absurd (Option.some.inj h2).symm h3
    · rw [List.getElem?_set_ne hj] at h2
      have hne : y ≠ A[k] := fun z => by
        subst z
        exact hj (nd_ix h.nd hA h1)
      rw [upd_ne hne]
      exact h.own j y c h1 h2 h3
  · by_cases hj : k = j
    · subst hj
      rw [List.getElem?_set_self hk] at h2
      have e2 := Option.some.inj h2
      subst e2
      have e : A[k] = y := Option.some.inj (hA.symm.trans h1)
      subst e
      exact ⟨_, hx⟩
    · rw [List.getElem?_set_ne hj] at h2
      exact (h.cell j y c h1 h2).mono sS List.prefix_rfl fun _ e => e
  · refine ⟨by unfold frzG; rw [List.length_map]; exact h.env.1, fun i d q => ?_⟩
    unfold frzG at q
    rw [List.getElem?_map] at q
    cases hg : Γ[i]? with
    | none => rw [hg] at q; cases q
    | some od =>
      rw [hg] at q
      cases od with
      | none => cases q
      | some d0 =>
        have q' : Dat.frz k ds d0 = d := Option.some.inj (Option.some.inj q)
        obtain ⟨v, h1, h2⟩ := h.env.2 i d0 hg
        refine ⟨v, h1, ?_⟩
        subst q'
        have base : Rep K (upd S A[k] (.lst xs)) A d0 v := h2.mono sS List.prefix_rfl
        cases d0 with
        | ptr j =>
          show Rep K (upd S A[k] (HO.lst xs)) A (if j = k then Dat.lst ds else Dat.ptr j) v
          by_cases hj : j = k
          · rw [if_pos hj]
            subst hj
            cases h2 with
            | ptr z =>
              have e := Option.some.inj (hA.symm.trans z)
              subst e
              exact rr
          · rw [if_neg hj]
            exact base
        | non => exact base
        | bl b => exact base
        | int i => exact base
        | str i => exact base
        | tup i => exact base
        | lst i => exact base
        | rol i => exact base
        | oth i => exact base
end
end Ab
end

section
set_option Elab.async false
set_option linter.all false
set_option maxRecDepth 100000
set_option maxHeartbeats 4000000
namespace Ab
open PySem L2

/-! ### what is wanted behind a reading, by data -/
def Post (K : PySem.W.Frag) (b : Bas) (σ : L2.St) (S : Hp) (A : List Addr) (H : Hp) (Γ : Gam) (R : Dat → Mem → Prop) (Q : VK) : Prop :=
  ∀ v d M' S' A' H', Step S A H S' A' H' → Stt K b σ S' A' H' Γ M' → Rep K S' A' d v → R d M' → Q v H'
def EV (K : PySem.W.Frag) (b : Bas) (te : TE) (Γ : Gam) (M : Mem) (R : Dat → Mem → Prop) : Prop :=
  ∀ σ S A H Q, Stt K b σ S A H Γ M → Post K b σ S A H Γ R Q → te σ H Q
def PostT (K : PySem.W.Frag) (b : Bas) (σ : L2.St) (S : Hp) (A : List Addr) (H : Hp) (Γ : Gam) (R : Bool → Mem → Prop) (Q : Bool → Hp → Prop) : Prop :=
  ∀ c M' S' A' H', Step S A H S' A' H' → Stt K b σ S' A' H' Γ M' → R c M' → Q c H'
def ET (K : PySem.W.Frag) (b : Bas) (tt : TT) (Γ : Gam) (M : Mem) (R : Bool → Mem → Prop) : Prop :=
  ∀ σ S A H Q, Stt K b σ S A H Γ M → PostT K b σ S A H Γ R Q → tt σ H Q
def PostA (K : PySem.W.Frag) (b : Bas) (σ : L2.St) (S : Hp) (A : List Addr) (H : Hp) (Γ : Gam) (R : List Dat → Mem → Prop) (Q : List V → Hp → Prop) : Prop :=
  ∀ vs ds M' S' A' H', Step S A H S' A' H' → Stt K b σ S' A' H' Γ M' → Reps K S' A' ds vs → R ds M' → Q vs H'
def EA (K : PySem.W.Frag) (b : Bas) (ta : TA) (Γ : Gam) (M : Mem) (R : List Dat → Mem → Prop) : Prop :=
  ∀ σ S A H Q, Stt K b σ S A H Γ M → PostA K b σ S A H Γ R Q → ta σ H Q
def PostO (K : PySem.W.Frag) (b : Bas) (σ : L2.St) (S : Hp) (A : List Addr) (H : Hp) (Γ : Gam) (R : Option Int → Mem → Prop) (Q : Option Int → Hp → Prop) : Prop :=
  ∀ o M' S' A' H', Step S A H S' A' H' → Stt K b σ S' A' H' Γ M' → R o M' → Q o H'
def EO (K : PySem.W.Frag) (b : Bas) (to : TO) (Γ : Gam) (M : Mem) (R : Option Int → Mem → Prop) : Prop :=
  ∀ σ S A H Q, Stt K b σ S A H Γ M → PostO K b σ S A H Γ R Q → to σ H Q

/-! ### the weakest readings -/
def tW (X : Cx) (e : Expr) : TE := fun σ H Q => ∀ pins s, Inv X pins σ H s → wpAny (model X.prog X.w) X.A (eval e X.env) (EP X pins σ Q) X.xe s
theorem pe_tW {X : Cx} {e : Expr} : PE X e (tW X e) := ⟨fun pins s _ _ _ I h => h pins s I⟩
def tWT (X : Cx) (e : Expr) : TT := fun σ H Q => ∀ pins s, Inv X pins σ H s → wpAny (model X.prog X.w) X.A (isTrue e X.env (eval e X.env)) (TP X pins σ Q) X.xe s
theorem pt_tW {X : Cx} {e : Expr} : PT X e (tWT X e) := ⟨fun pins s _ _ _ I h => h pins s I⟩
def tWW (X : Cx) (e : Expr) : TT := fun σ H Q => ∀ whole pins s, Inv X pins σ H s → wpAny (model X.prog X.w) X.A (isTrue e X.env whole) (TP X pins σ Q) X.xe s
theorem pw_tW {X : Cx} {e : Expr} : PW X e (tWW X e) := ⟨fun wh pins s _ _ _ I h => h wh pins s I⟩
def tWA (X : Cx) (es : List Expr) : TA := fun σ H Q => ∀ pos pins s, Inv X pins σ H s → wpAny (model X.prog X.w) X.A (spliced (backTo pos (starEach es X.env))) (AP X pins σ Q) X.xe s
theorem pa_tW {X : Cx} {es : List Expr} : PA X es (tWA X es) := ⟨fun pos pins s _ _ _ I h => h pos pins s I⟩
def tWS (X : Cx) (st : Stmt) : TS := fun D σ H => ∀ pins s, Inv X pins σ H s → wpAny (model X.prog X.w) X.A (exec st X.env) (SP X pins D) X.xe s
theorem ps_tW {X : Cx} {st : Stmt} : PS X st (tWS X st) := ⟨fun pins s _ _ _ I h => h pins s I⟩
def tWSs (X : Cx) (st : List Stmt) : TS := fun D σ H => ∀ pins s, Inv X pins σ H s → wpAny (model X.prog X.w) X.A (execs st X.env) (SP X pins D) X.xe s
theorem pss_tW {X : Cx} {st : List Stmt} : PSs X st (tWSs X st) := ⟨fun pins s _ _ _ I h => h pins s I⟩

/-! ### the judgements by data -/
def AE (X : Cx) (b : Bas) (e : Expr) (Γ : Gam) (M : Mem) (R : Dat → Mem → Prop) : Prop := EV X.K b (tW X e) Γ M R
def AT (X : Cx) (b : Bas) (e : Expr) (Γ : Gam) (M : Mem) (R : Bool → Mem → Prop) : Prop := ET X.K b (tWT X e) Γ M R
def AW (X : Cx) (b : Bas) (e : Expr) (Γ : Gam) (M : Mem) (R : Bool → Mem → Prop) : Prop := ET X.K b (tWW X e) Γ M R
def AA (X : Cx) (b : Bas) (es : List Expr) (Γ : Gam) (M : Mem) (R : List Dat → Mem → Prop) : Prop := EA X.K b (tWA X es) Γ M R
theorem AE.of {X : Cx} {b : Bas} {e : Expr} {t : TE} {Γ : Gam} {M : Mem} {R : Dat → Mem → Prop} (hp : PE X e t) (h : EV X.K b t Γ M R) : AE X b e Γ M R :=
  fun σ S A H Q st p pins s I => hp.run pins s σ H Q I (h σ S A H Q st p)
theorem AT.of {X : Cx} {b : Bas} {e : Expr} {t : TT} {Γ : Gam} {M : Mem} {R : Bool → Mem → Prop} (hp : PT X e t) (h : ET X.K b t Γ M R) : AT X b e Γ M R :=
  fun σ S A H Q st p pins s I => hp.run pins s σ H Q I (h σ S A H Q st p)
theorem AW.of {X : Cx} {b : Bas} {e : Expr} {t : TT} {Γ : Gam} {M : Mem} {R : Bool → Mem → Prop} (hp : PW X e t) (h : ET X.K b t Γ M R) : AW X b e Γ M R :=
  fun σ S A H Q st p wh pins s I => hp.run wh pins s σ H Q I (h σ S A H Q st p)
theorem AA.of {X : Cx} {b : Bas} {es : List Expr} {t : TA} {Γ : Gam} {M : Mem} {R : List Dat → Mem → Prop} (hp : PA X es t) (h : EA X.K b t Γ M R) : AA X b es Γ M R :=
  fun σ S A H Q st p pos pins s I => hp.run pos pins s σ H Q I (h σ S A H Q st p)

section
variable {K : PySem.W.Frag} {b : Bas} {σ : L2.St} {S : Hp} {A : List Addr} {H : Hp} {Γ : Gam} {M : Mem} {R R' : Dat → Mem → Prop} {Q : VK}
theorem Post.here {v : V} {d : Dat} (p : Post K b σ S A H Γ R Q) (st : Stt K b σ S A H Γ M) (r : Rep K S A d v) (h : R d M) : Q v H := p v d M S A H (Step.refl _ _ _) st r h
theorem Post.after {S' : Hp} {A' : List Addr} {H' : Hp} (p : Post K b σ S A H Γ R Q) (t : Step S A H S' A' H') : Post K b σ S' A' H' Γ R Q :=
  fun v d M' S2 A2 H2 s2 st r h => p v d M' S2 A2 H2 (t.trans s2) st r h
theorem Post.imp (p : Post K b σ S A H Γ R Q) (h : ∀ d M, R' d M → R d M) : Post K b σ S A H Γ R' Q := fun v d M' S2 A2 H2 s2 st r q => p v d M' S2 A2 H2 s2 st r (h d M' q)
theorem EV.imp {te : TE} (e : EV K b te Γ M R') (h : ∀ d M, R' d M → R d M) : EV K b te Γ M R := fun σ S A H Q st p => e σ S A H Q st (p.imp h)
end
theorem AE.imp {X : Cx} {b : Bas} {e : Expr} {Γ : Gam} {M : Mem} {R R' : Dat → Mem → Prop} (a : AE X b e Γ M R') (h : ∀ d M, R' d M → R d M) : AE X b e Γ M R := EV.imp a h
theorem AT.imp {X : Cx} {b : Bas} {e : Expr} {Γ : Gam} {M : Mem} {R R' : Bool → Mem → Prop} (a : AT X b e Γ M R') (h : ∀ d M, R' d M → R d M) : AT X b e Γ M R := fun σ S A H Q st p => a σ S A H Q st fun c M' S' A' H' s1 t1 q => p c M' S' A' H' s1 t1 (h _ _ q)
theorem AA.imp {X : Cx} {b : Bas} {e : List Expr} {Γ : Gam} {M : Mem} {R R' : List Dat → Mem → Prop} (a : AA X b e Γ M R') (h : ∀ d M, R' d M → R d M) : AA X b e Γ M R := fun σ S A H Q st p => a σ S A H Q st fun c ds M' S' A' H' s1 t1 r q => p c ds M' S' A' H' s1 t1 r (h _ _ q)

/-! ### names, constants -/
section
variable {X : Cx} {b : Bas} {Γ : Gam} {M : Mem} {R : Dat → Mem → Prop} {e a c : Expr} {es : List Expr} {pos : Pos}
theorem A_var (i : Nat) {d : Dat} {x : Str} (hN : X.N[i]? = some x) (hv : Vis X.env.scope x) (hΓ : Γ[i]? = some (some d)) (h : R d M)
    (hd : (x == ("__debug__" : Str)) = false := by decide) (hcd : (x == ("__classdict__" : Str)) = false := by decide) : AE X b (.Name x pos) Γ M R :=
  AE.of (pe_var hN hv hd hcd) fun σ S A H Q st p => by
    obtain ⟨v, h1, h2⟩ := st.env.2 i d hΓ
    exact ⟨v, h1, p.here st h2 h⟩
theorem A_int {i : Int} {j : Nat} (h : R (.int i) M) : AE X b (.Constant (.int i) j pos) Γ M R := AE.of pe_int fun σ S A H Q st p => p.here st (.int i) h
theorem A_bl {i : Bool} {j : Nat} (h : R (.bl i) M) : AE X b (.Constant (.bool i) j pos) Γ M R := AE.of pe_bl fun σ S A H Q st p => p.here st (.bl i) h
theorem A_non {j : Nat} (h : R .non M) : AE X b (.Constant .none j pos) Γ M R := AE.of pe_non fun σ S A H Q st p => p.here st .non h
theorem A_str {i : Str} {j : Nat} (h : R (.str i) M) : AE X b (.Constant (.str i) j pos) Γ M R := AE.of pe_str fun σ S A H Q st p => p.here st (.str i) h
/-- a global of the module, whatever it is -/
theorem A_glob {x : Str} {v : V} {u : Value} {d : Dat} (hg : Gl X x) (hm : X.mg x = some u) (r : RelV v u) (hd : ∀ S A, Rep X.K S A d v) (h : R d M) (hdb : (x == ("__debug__" : Str)) = false := by decide) : AE X b (.Name x pos) Γ M R :=
  AE.of (pe_glob hg hm r hdb) fun σ S A H Q st p => p.here st (hd S A) h
theorem A_bltn {x : Str} {v : V} {u : Value} (hg : Gl X x) (hm : X.mg x = none) (hv : bootBuiltins x = some u) (r : RelV v u) (h : R (.oth v) M) (hn : x ≠ "__name__" := by decide) (hdb : (x == ("__debug__" : Str)) = false := by decide) : AE X b (.Name x pos) Γ M R :=
  AE.of (pe_bltn hg hm hv r hn hdb) fun σ S A H Q st p => p.here st (.oth v) h

/-! ### operators -/
/-- a two-place operation of data -/
def OpD (K : PySem.W.Frag) (b : Bas) (r : R2) (d1 d2 : Dat) (Γ : Gam) (M : Mem) (R : Dat → Mem → Prop) : Prop :=
  ∀ σ S A H v1 v2 Q, Stt K b σ S A H Γ M → Rep K S A d1 v1 → Rep K S A d2 v2 → Post K b σ S A H Γ R Q → r v1 v2 H Q
theorem E_op {K : PySem.W.Frag} {r : R2} {ta tb : TE} (h : EV K b ta Γ M fun d1 M1 => EV K b tb Γ M1 fun d2 M2 => OpD K b r d1 d2 Γ M2 R) : EV K b (tOp r ta tb) Γ M R := fun σ S A H Q st p =>
  h σ S A H _ st fun v1 d1 M1 S1 A1 H1 s1 st1 r1 h1 => h1 σ S1 A1 H1 _ st1 fun v2 d2 M2 S2 A2 H2 s2 st2 r2 h2 => h2 σ S2 A2 H2 v1 v2 Q st2 (r1.mono s2.s s2.a) r2 (p.after (s1.trans s2))
theorem A_op {op : Operator} {r : R2} (ho : OpR X (binaryOp op) r) (h : AE X b a Γ M fun d1 M1 => AE X b c Γ M1 fun d2 M2 => OpD X.K b r d1 d2 Γ M2 R) : AE X b (.BinOp a op c pos) Γ M R :=
  AE.of (pe_op ho pe_tW pe_tW) (E_op h)
theorem A_cmp {op : CmpOp} {r : R2} (ho : OpR X (compareOp op) r) (hm : behindInMarks op c = false) (h : AE X b a Γ M fun d1 M1 => AE X b c Γ M1 fun d2 M2 => OpD X.K b r d1 d2 Γ M2 R) : AE X b (.Compare a [op] [c] pos) Γ M R :=
  AE.of (pe_cmpR ho pe_tW pe_tW hm) (E_op h)
theorem T_cmp {op : CmpOp} {r : R2} {R : Bool → Mem → Prop} (ho : OpR X (compareOp op) r) (hm : behindInMarks op c = false) (h : AE X b a Γ M fun d1 M1 => AE X b c Γ M1 fun d2 M2 => OpD X.K b r d1 d2 Γ M2 fun d M3 => ∃ k, d = .bl k ∧ R k M3) : AT X b (.Compare a [op] [c] pos) Γ M R :=
  AT.of (pt_cmpR ho pe_tW pe_tW hm) fun σ S A H Q st p => E_op h σ S A H _ st fun v d M' S' A' H' s1 st1 r1 ⟨k, e, hR⟩ => by
    subst e
    cases r1
    exact ⟨k, rfl, p k M' S' A' H' s1 st1 hR⟩
def UnD (K : PySem.W.Frag) (b : Bas) (r : V → Hp → VK → Prop) (d1 : Dat) (Γ : Gam) (M : Mem) (R : Dat → Mem → Prop) : Prop :=
  ∀ σ S A H v1 Q, Stt K b σ S A H Γ M → Rep K S A d1 v1 → Post K b σ S A H Γ R Q → r v1 H Q
theorem A_un {op : UnaryOp} {r : V → Hp → VK → Prop} (ho : UnR X (unaryOp op) r) (h : AE X b a Γ M fun d1 M1 => UnD X.K b r d1 Γ M1 R) : AE X b (.UnaryOp op a pos) Γ M R :=
  AE.of (pe_un ho pe_tW) fun σ S A H Q st p => h σ S A H _ st fun v1 d1 M1 S1 A1 H1 s1 st1 r1 h1 => h1 σ S1 A1 H1 v1 Q st1 r1 (p.after s1)

variable {K : PySem.W.Frag} {i j : Int}
theorem opd_I0 {g : Int → Int → V} {d : Dat} (hd : ∀ S A, Rep K S A d (g i j)) (h : R d M) : OpD K b (rI0 g) (.int i) (.int j) Γ M R := fun σ S A H v1 v2 Q st r1 r2 p => by
  cases r1; cases r2
  exact ⟨i, j, rfl, rfl, p.here st (hd S A) h⟩
theorem opd_I {C : Int → Int → Prop} {g : Int → Int → V} {d : Dat} (hC : C i j) (hd : ∀ S A, Rep K S A d (g i j)) (h : R d M) : OpD K b (rI C g) (.int i) (.int j) Γ M R := fun σ S A H v1 v2 Q st r1 r2 p => by
  cases r1; cases r2
  exact ⟨i, j, rfl, rfl, hC, p.here st (hd S A) h⟩
theorem A_add (h : AE X b a Γ M fun d1 M1 => AE X b c Γ M1 fun d2 M2 => ∃ i j, d1 = .int i ∧ d2 = .int j ∧ R (.int (i + j)) M2) : AE X b (.BinOp a .Add c pos) Γ M R :=
  A_op op_add (h.imp fun d1 M1 h => h.imp fun d2 M2 ⟨i, j, e1, e2, q⟩ => by subst e1 e2; exact opd_I0 (fun _ _ => .int _) q)
theorem A_sub (h : AE X b a Γ M fun d1 M1 => AE X b c Γ M1 fun d2 M2 => ∃ i j, d1 = .int i ∧ d2 = .int j ∧ R (.int (i - j)) M2) : AE X b (.BinOp a .Sub c pos) Γ M R :=
  A_op op_sub (h.imp fun d1 M1 h => h.imp fun d2 M2 ⟨i, j, e1, e2, q⟩ => by subst e1 e2; exact opd_I0 (fun _ _ => .int _) q)
end
end Ab
end

section
set_option Elab.async false
set_option linter.all false
set_option maxRecDepth 100000
set_option maxHeartbeats 4000000
namespace Ab
open PySem L2

/-! ### what may be read as a list, as a tuple -/
inductive IsL (M : Mem) : Dat → List Dat → Prop
  | lst (ds : List Dat) : IsL M (.lst ds) ds
  | ptr {k : Nat} {ds : List Dat} : M[k]? = some (.lst ds) → IsL M (.ptr k) ds
/-- .. also the script -/
inductive IsR (M : Mem) : Dat → List Dat → Prop
  | l {d : Dat} {ds : List Dat} : IsL M d ds → IsR M d ds
  | rol (ds : List Dat) : IsR M (.rol ds) ds
inductive IsT : Dat → List Dat → Prop
  | tup (ds : List Dat) : IsT (.tup ds) ds
section
variable {K : PySem.W.Frag} {b : Bas} {σ : L2.St} {S : Hp} {A : List Addr} {H : Hp} {Γ : Gam} {M : Mem} {d : Dat} {ds : List Dat} {v : V}
theorem IsL.at (i : IsL M d ds) (st : Stt K b σ S A H Γ M) (r : Rep K S A d v) : ∃ a xs, v = .ref a ∧ H a = some (.lst xs) ∧ Reps K S A ds xs := by
  cases i with
  | lst _ =>
    cases r with
    | lst h q => exact ⟨_, _, rfl, st.sub _ _ h, q⟩
  | ptr hM =>
    cases r with
    | ptr hA =>
      obtain ⟨xs, h, q⟩ := st.cell _ _ _ hA hM
      exact ⟨_, xs, rfl, h, q⟩
theorem IsR.at (i : IsR M d ds) (st : Stt K b σ S A H Γ M) (r : Rep K S A d v) : ∃ a xs, v = .ref a ∧ SqL K H a xs ∧ Reps K S A ds xs := by
  cases i with
  | l i =>
    obtain ⟨a, xs, e, h, q⟩ := i.at st r
    exact ⟨a, xs, e, SqL.of h, q⟩
  | rol _ =>
    cases r with
    | rol h q => exact ⟨_, _, rfl, Same.sql st.sub h, q⟩
theorem IsT.at (i : IsT d ds) (st : Stt K b σ S A H Γ M) (r : Rep K S A d v) : ∃ a xs, v = .ref a ∧ SqT K H a xs ∧ Reps K S A ds xs := by
  cases i with
  | tup _ =>
    cases r with
    | tup h q => exact ⟨_, _, rfl, Same.sqt st.sub h, q⟩
theorem atI_rep {xs : List V} {i : Int} (r : Reps K S A ds xs) (h : atI ds i = some d) : ∃ v, atI xs i = some v ∧ Rep K S A d v := by
  unfold atI at *
  rw [← r.length]
  cases e : ixN ds.length i with
  | none => rw [e] at h; cases h
  | some j =>
    rw [e] at h
    exact r.getD (i := j) h
theorem cut_rep {xs : List V} (lo hi : Option Int) (r : Reps K S A ds xs) : Reps K S A ((ds.drop (HT.sIx ds.length 0 lo)).take (HT.sIx ds.length ds.length hi - HT.sIx ds.length 0 lo)) (cutV xs lo hi) := by
  unfold cutV
  rw [← r.length]
  exact (r.drop _).take _
end
/-- a slice -/
def cutD (ds : List Dat) (lo hi : Option Int) : List Dat := (ds.drop (HT.sIx ds.length 0 lo)).take (HT.sIx ds.length ds.length hi - HT.sIx ds.length 0 lo)

section
variable {X : Cx} {b : Bas} {Γ : Gam} {M : Mem} {R : Dat → Mem → Prop} {RT : Bool → Mem → Prop} {e a c : Expr} {es rest : List Expr} {pos : Pos}

/-! ### tests: and, or, not; as values too -/
theorem T_val (h : AE X b e Γ M fun d M1 => ∃ k, d = .bl k ∧ RT k M1) (he : ∀ whole, isTrue e X.env whole = (do let v ← whole; standAt e.pos; holding [v] (truthy v)) := by intro _; rfl) : AT X b e Γ M RT :=
  AT.of (pt_val pe_tW he) fun σ S A H Q st p => h σ S A H _ st fun v d M' S' A' H' s1 st1 r1 ⟨k, e, q⟩ => by
    subst e
    cases r1
    exact ⟨k, rfl, p k M' S' A' H' s1 st1 q⟩
theorem T_not (h : AT X b e Γ M fun k M1 => RT (!k) M1) : AT X b (.UnaryOp .Not e pos) Γ M RT :=
  AT.of (pt_not pt_tW) fun σ S A H Q st p => h σ S A H _ st fun k M' S' A' H' s1 st1 q => p (!k) M' S' A' H' s1 st1 q
theorem ET_and {K : PySem.W.Frag} {t u : TT} (h : ET K b t Γ M fun k M1 => (k = true → ET K b u Γ M1 RT) ∧ (k = false → RT false M1)) : ET K b (tAnd t u) Γ M RT := fun σ S A H Q st p =>
  h σ S A H _ st fun k M1 S1 A1 H1 s1 st1 ⟨q1, q2⟩ => by
    cases k with
    | true => exact q1 rfl σ S1 A1 H1 Q st1 fun c M' S' A' H' s2 st2 q => p c M' S' A' H' (s1.trans s2) st2 q
    | false => exact p false M1 S1 A1 H1 s1 st1 (q2 rfl)
theorem ET_or {K : PySem.W.Frag} {t u : TT} (h : ET K b t Γ M fun k M1 => (k = true → RT true M1) ∧ (k = false → ET K b u Γ M1 RT)) : ET K b (tOr t u) Γ M RT := fun σ S A H Q st p =>
  h σ S A H _ st fun k M1 S1 A1 H1 s1 st1 ⟨q1, q2⟩ => by
    cases k with
    | false => exact q2 rfl σ S1 A1 H1 Q st1 fun c M' S' A' H' s2 st2 q => p c M' S' A' H' (s1.trans s2) st2 q
    | true => exact p true M1 S1 A1 H1 s1 st1 (q1 rfl)
/-- a and b; three and more: the tail is again one -/
theorem W_and (h : AT X b a Γ M fun k M1 => (k = true → AW X b (.BoolOp .And (c :: rest) pos) Γ M1 RT) ∧ (k = false → RT false M1)) : AW X b (.BoolOp .And (a :: c :: rest) pos) Γ M RT :=
  AW.of (pw_and pt_tW pw_tW) (ET_and h)
theorem W_or (h : AT X b a Γ M fun k M1 => (k = true → RT true M1) ∧ (k = false → AW X b (.BoolOp .Or (c :: rest) pos) Γ M1 RT)) : AW X b (.BoolOp .Or (a :: c :: rest) pos) Γ M RT :=
  AW.of (pw_or pt_tW pw_tW) (ET_or h)
theorem W_and1 (h : AT X b a Γ M RT) : AW X b (.BoolOp .And [a] pos) Γ M RT := AW.of (pw_and1 pt_tW) h
theorem W_or1 (h : AT X b a Γ M RT) : AW X b (.BoolOp .Or [a] pos) Γ M RT := AW.of (pw_or1 pt_tW) h
theorem T_W (h : AW X b e Γ M RT) : AT X b e Γ M RT := AT.of pw_tW.pt h
/-- as values (truth values all) -/
theorem A_and (h : AE X b a Γ M fun d M1 => ∃ k, d = .bl k ∧ (k = true → AE X b (.BoolOp .And (c :: rest) pos) Γ M1 R) ∧ (k = false → R (.bl false) M1)) : AE X b (.BoolOp .And (a :: c :: rest) pos) Γ M R :=
  AE.of (pe_and pe_tW pe_tW) fun σ S A H Q st p => h σ S A H _ st fun v d M1 S1 A1 H1 s1 st1 r1 ⟨k, e, q1, q2⟩ => by
    subst e
    cases r1
    refine ⟨k, rfl, ?_⟩
    cases k with
    | true => exact q1 rfl σ S1 A1 H1 Q st1 (p.after s1)
    | false => exact (p.after s1).here st1 (.bl false) (q2 rfl)
theorem A_or (h : AE X b a Γ M fun d M1 => ∃ k, d = .bl k ∧ (k = true → R (.bl true) M1) ∧ (k = false → AE X b (.BoolOp .Or (c :: rest) pos) Γ M1 R)) : AE X b (.BoolOp .Or (a :: c :: rest) pos) Γ M R :=
  AE.of (pe_or pe_tW pe_tW) fun σ S A H Q st p => h σ S A H _ st fun v d M1 S1 A1 H1 s1 st1 r1 ⟨k, e, q1, q2⟩ => by
    subst e
    cases r1
    refine ⟨k, rfl, ?_⟩
    cases k with
    | false => exact q2 rfl σ S1 A1 H1 Q st1 (p.after s1)
    | true => exact (p.after s1).here st1 (.bl true) (q1 rfl)
theorem A_one {op : BoolOp} (h : AE X b a Γ M R) : AE X b (.BoolOp op [a] pos) Γ M R := AE.of (pe_one pe_tW) h
theorem A_not (h : AE X b a Γ M fun d M1 => ∃ k, d = .bl k ∧ R (.bl (!k)) M1) : AE X b (.UnaryOp .Not a pos) Γ M R :=
  AE.of (pe_not pe_tW) fun σ S A H Q st p => h σ S A H _ st fun v d M1 S1 A1 H1 s1 st1 r1 ⟨k, e, q⟩ => by
    subst e
    cases r1
    exact ⟨k, rfl, (p.after s1).here st1 (.bl _) q⟩
theorem A_ifExp {f : Expr} (h : AT X b f Γ M fun k M1 => (k = true → AE X b a Γ M1 R) ∧ (k = false → AE X b c Γ M1 R)) : AE X b (.IfExp f a c pos) Γ M R :=
  AE.of (pe_ifExp pt_tW pe_tW pe_tW) fun σ S A H Q st p => h σ S A H _ st fun k M1 S1 A1 H1 s1 st1 ⟨q1, q2⟩ => by
    cases k with
    | true => exact q1 rfl σ S1 A1 H1 Q st1 (p.after s1)
    | false => exact q2 rfl σ S1 A1 H1 Q st1 (p.after s1)
/-- x or y by truth, x a list that is read -/
theorem A_orL (h : AE X b a Γ M fun d M1 => ∃ ds, IsR M1 d ds ∧ (ds ≠ [] → R d M1) ∧ (ds = [] → AE X b (.BoolOp .Or (c :: rest) pos) Γ M1 R)) : AE X b (.BoolOp .Or (a :: c :: rest) pos) Γ M R :=
  AE.of (pe_orT pe_tW pe_tW) fun σ S A H Q st p => h σ S A H _ st fun v d M1 S1 A1 H1 s1 st1 r1 ⟨ds, i, q1, q2⟩ => by
    obtain ⟨x, xs, ev, hx, hr⟩ := i.at st1 r1
    subst ev
    refine ⟨!xs.isEmpty, .inl ⟨xs, hx, rfl⟩, ?_⟩
    have hl := hr.length
    cases ds with
    | nil =>
      cases xs with
      | nil => exact q2 rfl σ S1 A1 H1 Q st1 (p.after s1)
      | cons _ _ => cases hl
    | cons d0 dr =>
      cases xs with
      | nil => cases hl
      | cons _ _ => exact (p.after s1).here st1 r1 (q1 (fun z => nomatch z))

/-! ### arguments -/
theorem L_nil {R : List Dat → Mem → Prop} (h : R [] M) : AA X b [] Γ M R := AA.of pa_nil fun σ S A H Q st p => p [] [] M S A H (Step.refl _ _ _) st .nil h
theorem L_cons {R : List Dat → Mem → Prop} (h : AE X b e Γ M fun d M1 => AA X b es Γ M1 fun ds M2 => R (d :: ds) M2) (hs : starEach (e :: es) X.env = (false, eval e X.env) :: starEach es X.env := by rfl) : AA X b (e :: es) Γ M R :=
  AA.of (pa_cons pe_tW pa_tW hs) fun σ S A H Q st p => h σ S A H _ st fun v d M1 S1 A1 H1 s1 st1 r1 q1 => q1 σ S1 A1 H1 _ st1 fun vs ds M2 S2 A2 H2 s2 st2 r2 q2 =>
    p (v :: vs) (d :: ds) M2 S2 A2 H2 (s1.trans s2) st2 (.cons (r1.mono s2.s s2.a) r2) q2

/-! ### displays -/
theorem A_tup {k : Nat} (h : AA X b es Γ M fun ds M1 => ds.length ≤ sizeLine ∧ R (.tup ds) M1) : AE X b (.Tuple es k pos) Γ M R :=
  AE.of (pe_tup pa_tW) fun σ S A H Q st p => h σ S A H _ st fun vs ds M1 S1 A1 H1 s1 st1 r1 ⟨z, q⟩ => ⟨by rw [← r1.length]; exact z, fun x hx => by
    obtain ⟨s2, st2⟩ := st1.lay (o := .tup vs) hx
    exact (p.after (s1.trans s2)).here st2 (.tup (SqT.of upd_same) (r1.mono s2.s s2.a)) q⟩
theorem A_lst (h : AA X b es Γ M fun ds M1 => ds.length ≤ sizeLine ∧ R (.lst ds) M1) : AE X b (.List es pos) Γ M R :=
  AE.of (pe_lst pa_tW) fun σ S A H Q st p => h σ S A H _ st fun vs ds M1 S1 A1 H1 s1 st1 r1 ⟨z, q⟩ => ⟨by rw [← r1.length]; exact z, fun x hx => by
    obtain ⟨s2, st2⟩ := st1.lay (o := .lst vs) hx
    exact (p.after (s1.trans s2)).here st2 (.lst upd_same (r1.mono s2.s s2.a)) q⟩
/-- .. a list that stays ours -/
theorem A_lstC (h : AA X b es Γ M fun ds M1 => ds.length ≤ sizeLine ∧ R (.ptr M1.length) (M1 ++ [.lst ds])) : AE X b (.List es pos) Γ M R :=
  AE.of (pe_lst pa_tW) fun σ S A H Q st p => h σ S A H _ st fun vs ds M1 S1 A1 H1 s1 st1 r1 ⟨z, q⟩ => ⟨by rw [← r1.length]; exact z, fun x hx => by
    obtain ⟨s2, st2⟩ := st1.layCell (o := .lst vs) (c := .lst ds) hx ⟨vs, upd_same, r1.mono (Same.refl _) (List.prefix_append _ _)⟩
    refine (p.after (s1.trans s2)).here st2 (.ptr ?_) q
    rw [← st1.len, List.getElem?_append_right (Nat.le_refl _), Nat.sub_self] <;> rfl⟩
end
end Ab
end

section
set_option Elab.async false
set_option linter.all false
set_option maxRecDepth 100000
set_option maxHeartbeats 4000000
namespace Ab
open PySem L2

/-! ### operators that make no object -/
def CMulX (i j : Int) : Prop := CMul i j ∨ CMulW i j
theorem CMulX.ok {i j : Int} (h : CMulX i j) : IntMulOk i j := h.elim CMul.ok CMulW.ok
def CDivX (_ j : Int) : Prop := j ≠ 0 ∧ j.natAbs.log2 < 9000
theorem op_mulX {X : Cx} : OpR X (binaryOp .Mult) (rI CMulX fun i j => .int (i * j)) := opI fun _ _ _ _ _ _ _ hc q => PyProof.Rows.mul_int q hc.ok
theorem op_fdivX {X : Cx} : OpR X (binaryOp .FloorDiv) (rI CDivX fun i j => .int (i.fdiv j)) := opI fun i j _ _ _ _ _ hc q =>
  PyProof.Rows.floordiv_int hc.1 q (.inl (PyProof.noPylong_of_log2 hc.2))
inductive BinD : Operator → Dat → Dat → Dat → Prop
  | add (i j : Int) : BinD .Add (.int i) (.int j) (.int (i + j))
  | sub (i j : Int) : BinD .Sub (.int i) (.int j) (.int (i - j))
  | mul {i j : Int} (h : CMulX i j) : BinD .Mult (.int i) (.int j) (.int (i * j))
  | fdiv {i j : Int} (h : CDivW i j) : BinD .FloorDiv (.int i) (.int j) (.int (i / j))
  | fdivX {i j : Int} (h : CDivX i j) : BinD .FloorDiv (.int i) (.int j) (.int (i.fdiv j))
  | mod {i j : Int} (h : 0 < j) : BinD .Mod (.int i) (.int j) (.int (i % j))
  | modX {i j : Int} (h : j ≠ 0) : BinD .Mod (.int i) (.int j) (.int (i.fmod j))
  | pow {i j : Int} (h : CPow i j) : BinD .Pow (.int i) (.int j) (.int (i ^ j.toNat))
  | addS {x y : Str} (h : x.length + y.length ≤ sizeLine) : BinD .Add (.str x) (.str y) (.str (x ++ y))
inductive CmpD : CmpOp → Dat → Dat → Bool → Prop
  | lt (i j : Int) : CmpD .Lt (.int i) (.int j) (decide (i < j))
  | le (i j : Int) : CmpD .LtE (.int i) (.int j) (decide (i ≤ j))
  | gt (i j : Int) : CmpD .Gt (.int i) (.int j) (decide (j < i))
  | ge (i j : Int) : CmpD .GtE (.int i) (.int j) (decide (j ≤ i))
  | eqI (i j : Int) : CmpD .Eq (.int i) (.int j) (decide (i = j))
  | neI (i j : Int) : CmpD .NotEq (.int i) (.int j) (!decide (i = j))
  | eqS (x y : Str) : CmpD .Eq (.str x) (.str y) (decide (x = y))
  | neS (x y : Str) : CmpD .NotEq (.str x) (.str y) (!decide (x = y))
  | eqB (x y : Bool) : CmpD .Eq (.bl x) (.bl y) (decide (x = y))
  | neB (x y : Bool) : CmpD .NotEq (.bl x) (.bl y) (!decide (x = y))

section
variable {X : Cx} {b : Bas} {Γ : Gam} {M : Mem} {R : Dat → Mem → Prop} {RT : Bool → Mem → Prop} {e a c e1 e2 e3 : Expr} {es rest : List Expr} {pos : Pos} {K : PySem.W.Frag}
theorem binD_run {op : Operator} {d1 d2 d : Dat} (h : BinD op d1 d2 d) (hR : R d M) : ∃ r, OpR X (binaryOp op) r ∧ OpD X.K b r d1 d2 Γ M R := by
  cases h with
  | add i j => exact ⟨_, op_add, opd_I0 (fun _ _ => .int _) hR⟩
  | sub i j => exact ⟨_, op_sub, opd_I0 (fun _ _ => .int _) hR⟩
  | mul h => exact ⟨_, op_mulX, opd_I h (fun _ _ => .int _) hR⟩
  | fdiv h => exact ⟨_, op_fdivW, opd_I h (fun _ _ => .int _) hR⟩
  | fdivX h => exact ⟨_, op_fdivX, opd_I h (fun _ _ => .int _) hR⟩
  | mod h => exact ⟨_, op_mod, opd_I h (fun _ _ => .int _) hR⟩
  | modX h => exact ⟨_, op_modN, opd_I h (fun _ _ => .int _) hR⟩
  | pow h => exact ⟨_, op_pow, opd_I h (fun _ _ => .int _) hR⟩
  | addS h => exact ⟨_, op_add_str, fun σ S A H v1 v2 Q st r1 r2 p => by
      cases r1; cases r2
      exact ⟨_, _, rfl, rfl, h, p.here st (.str _) hR⟩⟩
/-- the rule may be chosen when both operands are known -/
theorem bin_late {op : Operator} (h : AE X b a Γ M fun d1 M1 => AE X b c Γ M1 fun d2 M2 => ∃ r, OpR X (binaryOp op) r ∧ OpD X.K b r d1 d2 Γ M2 R) : AE X b (.BinOp a op c pos) Γ M R := fun σ S A H Q st p pins s I => by
  refine wpAny_BinOp (thn (pe_tW.run pins s σ H (fun x H1 => ∀ s1, Inv X pins σ H1 s1 → ∀ v, RelV x v → wpAny (model X.prog X.w) X.A (eval c X.env) (fun u s₂ => wpAny (model X.prog X.w) X.A (binaryOp op v u) (EP X pins σ Q) X.xe s₂) X.xe s1) I (h σ S A H _ st fun v1 d1 M1 S1 A1 H1 s1 st1 r1 h1 => ?_)) fun v s1 ⟨x, H1, I1, r1, q1⟩ => q1 s1 I1 v r1)
  intro sa Ia va rva
  refine thn (pe_tW.run pins sa σ H1 (fun y H2 => ∀ s2, Inv X pins σ H2 s2 → ∀ u, RelV y u → wpAny (model X.prog X.w) X.A (binaryOp op va u) (EP X pins σ Q) X.xe s2) Ia (h1 σ S1 A1 H1 _ st1 fun v2 d2 M2 S2 A2 H2 s2 st2 r2 h2 => ?_)) fun v s1 ⟨x, H1, I1, r1, q1⟩ => q1 s1 I1 v r1
  intro sb Ib vb rvb
  obtain ⟨r, ho, hd⟩ := h2
  exact ho pins sb σ H2 v1 v2 va vb Q Ib rva rvb (hd σ S2 A2 H2 v1 v2 Q st2 (r1.mono s2.s s2.a) r2 (p.after (s1.trans s2)))
theorem A_bin {op : Operator} (h : AE X b a Γ M fun d1 M1 => AE X b c Γ M1 fun d2 M2 => ∃ d, BinD op d1 d2 d ∧ R d M2) : AE X b (.BinOp a op c pos) Γ M R :=
  bin_late (h.imp fun d1 M1 h1 => h1.imp fun d2 M2 ⟨d, hb, hr⟩ => binD_run hb hr)
theorem A_neg (h : AE X b a Γ M fun d M1 => ∃ i, d = .int i ∧ R (.int (-i)) M1) : AE X b (.UnaryOp .USub a pos) Γ M R :=
  A_un un_neg (h.imp fun d M1 ⟨i, e, q⟩ => by
    subst e
    exact fun σ S A H v1 Q st r1 p => by
      cases r1
      exact ⟨i, rfl, p.here st (.int _) q⟩)
/-- a list and a list: a new list -/
theorem opd_cat {d1 d2 : Dat} {xs ys : List Dat} (h1 : IsL M d1 xs) (h2 : IsL M d2 ys) (hz : xs.length + ys.length ≤ sizeLine) (hR : R (.lst (xs ++ ys)) M) : OpD K b rCat d1 d2 Γ M R := fun σ S A H v1 v2 Q st r1 r2 p => by
  obtain ⟨a1, us, e1, g1, q1⟩ := h1.at st r1
  obtain ⟨a2, ws, e2, g2, q2⟩ := h2.at st r2
  subst e1 e2
  refine ⟨a1, a2, us, ws, rfl, rfl, g1, g2, by rw [← q1.length, ← q2.length]; exact hz, fun x hx => ?_⟩
  obtain ⟨s2, st2⟩ := st.lay (o := .lst (us ++ ws)) hx
  exact (p.after s2).here st2 (.lst upd_same ((q1.append q2).mono s2.s s2.a)) hR
theorem opd_catC {d1 d2 : Dat} {xs ys : List Dat} (h1 : IsL M d1 xs) (h2 : IsL M d2 ys) (hz : xs.length + ys.length ≤ sizeLine) (hR : R (.ptr M.length) (M ++ [.lst (xs ++ ys)])) : OpD K b rCat d1 d2 Γ M R := fun σ S A H v1 v2 Q st r1 r2 p => by
  obtain ⟨a1, us, e1, g1, q1⟩ := h1.at st r1
  obtain ⟨a2, ws, e2, g2, q2⟩ := h2.at st r2
  subst e1 e2
  refine ⟨a1, a2, us, ws, rfl, rfl, g1, g2, by rw [← q1.length, ← q2.length]; exact hz, fun x hx => ?_⟩
  obtain ⟨s2, st2⟩ := st.layCell (o := .lst (us ++ ws)) (c := .lst (xs ++ ys)) hx ⟨_, upd_same, (q1.append q2).mono (Same.refl _) (List.prefix_append _ _)⟩
  refine (p.after s2).here st2 (.ptr ?_) hR
  rw [← st.len, List.getElem?_append_right (Nat.le_refl _), Nat.sub_self] <;> rfl
theorem A_cat (h : AE X b a Γ M fun d1 M1 => AE X b c Γ M1 fun d2 M2 => ∃ xs ys, IsL M2 d1 xs ∧ IsL M2 d2 ys ∧ xs.length + ys.length ≤ sizeLine ∧ R (.lst (xs ++ ys)) M2) : AE X b (.BinOp a .Add c pos) Γ M R :=
  A_op op_cat (h.imp fun d1 M1 h1 => h1.imp fun d2 M2 ⟨xs, ys, i1, i2, hz, q⟩ => opd_cat i1 i2 hz q)
theorem A_catC (h : AE X b a Γ M fun d1 M1 => AE X b c Γ M1 fun d2 M2 => ∃ xs ys, IsL M2 d1 xs ∧ IsL M2 d2 ys ∧ xs.length + ys.length ≤ sizeLine ∧ R (.ptr M2.length) (M2 ++ [.lst (xs ++ ys)])) : AE X b (.BinOp a .Add c pos) Γ M R :=
  A_op op_cat (h.imp fun d1 M1 h1 => h1.imp fun d2 M2 ⟨xs, ys, i1, i2, hz, q⟩ => opd_catC i1 i2 hz q)
/-- tuples -/
theorem A_catT (h : AE X b a Γ M fun d1 M1 => AE X b c Γ M1 fun d2 M2 => ∃ xs ys, d1 = .tup xs ∧ d2 = .tup ys ∧ xs.length + ys.length ≤ sizeLine ∧ R (.tup (xs ++ ys)) M2) : AE X b (.BinOp a .Add c pos) Γ M R :=
  A_op op_catA (h.imp fun d1 M1 h1 => h1.imp fun d2 M2 ⟨xs, ys, e1, e2, hz, q⟩ => by
    subst e1 e2
    exact fun σ S A H v1 v2 Q st r1 r2 p => by
      have R1 := r1
      have R2 := r2
      obtain ⟨a1, us, e1, g1, q1⟩ := (IsT.tup xs).at st r1
      obtain ⟨a2, ws, e2, g2, q2⟩ := (IsT.tup ys).at st r2
      subst e1 e2
      refine ⟨a1, a2, us, ws, rfl, rfl, g1, g2, by rw [← q1.length, ← q2.length]; exact hz, fun z => ?_, fun z1 z2 => ?_, fun z1 z2 x hx => ?_⟩
      · subst z
        have : xs = [] := by have := q1.length; simpa using this
        subst this
        exact p.here st R2 q
      · subst z2
        have : ys = [] := by have := q2.length; simpa using this
        subst this
        rw [List.append_nil] at q
        exact p.here st R1 q
      · obtain ⟨s2, st2⟩ := st.lay (o := .tup (us ++ ws)) hx
        exact (p.after s2).here st2 (.tup (SqT.of upd_same) ((q1.append q2).mono s2.s s2.a)) q)
/-- a list so many times -/
theorem A_rep (h : AE X b a Γ M fun d1 M1 => AE X b c Γ M1 fun d2 M2 => ∃ xs k, IsL M2 d1 xs ∧ d2 = .int k ∧ -(2 ^ 63) ≤ k ∧ k < 2 ^ 63 ∧ xs.length * k.toNat ≤ sizeLine ∧ R (.lst (List.replicate k.toNat xs).flatten) M2) : AE X b (.BinOp a .Mult c pos) Γ M R :=
  A_op op_rep (h.imp fun d1 M1 h1 => h1.imp fun d2 M2 ⟨xs, k, i1, e2, h3, h4, h5, q⟩ => by
    subst e2
    exact fun σ S A H v1 v2 Q st r1 r2 p => by
      obtain ⟨a1, us, e1, g1, q1⟩ := i1.at st r1
      subst e1
      cases r2
      refine ⟨a1, k, us, rfl, rfl, g1, h3, h4, by rw [← q1.length]; exact h5, fun x hx => ?_⟩
      obtain ⟨s2, st2⟩ := st.lay (o := .lst (List.replicate k.toNat us).flatten) hx
      exact (p.after s2).here st2 (.lst upd_same ((q1.rep _).mono s2.s s2.a)) q)
theorem A_repC (h : AE X b a Γ M fun d1 M1 => AE X b c Γ M1 fun d2 M2 => ∃ xs k, IsL M2 d1 xs ∧ d2 = .int k ∧ -(2 ^ 63) ≤ k ∧ k < 2 ^ 63 ∧ xs.length * k.toNat ≤ sizeLine ∧ R (.ptr M2.length) (M2 ++ [.lst (List.replicate k.toNat xs).flatten])) : AE X b (.BinOp a .Mult c pos) Γ M R :=
  A_op op_rep (h.imp fun d1 M1 h1 => h1.imp fun d2 M2 ⟨xs, k, i1, e2, h3, h4, h5, q⟩ => by
    subst e2
    exact fun σ S A H v1 v2 Q st r1 r2 p => by
      obtain ⟨a1, us, e1, g1, q1⟩ := i1.at st r1
      subst e1
      cases r2
      refine ⟨a1, k, us, rfl, rfl, g1, h3, h4, by rw [← q1.length]; exact h5, fun x hx => ?_⟩
      obtain ⟨s2, st2⟩ := st.layCell (o := .lst (List.replicate k.toNat us).flatten) (c := .lst (List.replicate k.toNat xs).flatten) hx ⟨_, upd_same, (q1.rep _).mono (Same.refl _) (List.prefix_append _ _)⟩
      refine (p.after s2).here st2 (.ptr ?_) q
      rw [← st.len, List.getElem?_append_right (Nat.le_refl _), Nat.sub_self] <;> rfl)

/-! ### comparisons -/
theorem cmpD_run {op : CmpOp} {d1 d2 : Dat} {k : Bool} (h : CmpD op d1 d2 k) (hR : R (.bl k) M) : ∃ r, OpR X (compareOp op) r ∧ OpD X.K b r d1 d2 Γ M R := by
  have sc : ∀ {x y : V} (σ : L2.St) (S : Hp) (A : List Addr) (H : Hp) (Q : VK), scal x y = true → Stt X.K b σ S A H Γ M → Post X.K b σ S A H Γ (fun d M' => d = .bl (decide (x = y)) ∧ M' = M) Q → rEq x y H Q := fun σ S A H Q h st p => ⟨h, p.here st (.bl _) ⟨rfl, rfl⟩⟩
  cases h with
  | lt i j => exact ⟨_, op_lt, opd_I0 (fun _ _ => .bl _) hR⟩
  | le i j => exact ⟨_, op_le, opd_I0 (fun _ _ => .bl _) hR⟩
  | gt i j => exact ⟨_, op_gt, opd_I0 (fun _ _ => .bl _) hR⟩
  | ge i j => exact ⟨_, op_ge, opd_I0 (fun _ _ => .bl _) hR⟩
  | eqI i j => exact ⟨_, op_eq, fun σ S A H v1 v2 Q st r1 r2 p => by
      cases r1; cases r2
      exact ⟨rfl, p.here st (.bl _) (by rw [show decide (V.int i = V.int j) = decide (i = j) by simp]; exact hR)⟩⟩
  | neI i j => exact ⟨_, op_ne, fun σ S A H v1 v2 Q st r1 r2 p => by
      cases r1; cases r2
      exact ⟨rfl, p.here st (.bl _) (by rw [show decide (V.int i = V.int j) = decide (i = j) by simp]; exact hR)⟩⟩
  | eqS i j => exact ⟨_, op_eq, fun σ S A H v1 v2 Q st r1 r2 p => by
      cases r1; cases r2
      exact ⟨rfl, p.here st (.bl _) (by rw [show decide (V.str i = V.str j) = decide (i = j) by simp]; exact hR)⟩⟩
  | neS i j => exact ⟨_, op_ne, fun σ S A H v1 v2 Q st r1 r2 p => by
      cases r1; cases r2
      exact ⟨rfl, p.here st (.bl _) (by rw [show decide (V.str i = V.str j) = decide (i = j) by simp]; exact hR)⟩⟩
  | eqB i j => exact ⟨_, op_eq, fun σ S A H v1 v2 Q st r1 r2 p => by
      cases r1; cases r2
      exact ⟨rfl, p.here st (.bl _) (by rw [show decide (V.bl i = V.bl j) = decide (i = j) by simp]; exact hR)⟩⟩
  | neB i j => exact ⟨_, op_ne, fun σ S A H v1 v2 Q st r1 r2 p => by
      cases r1; cases r2
      exact ⟨rfl, p.here st (.bl _) (by rw [show decide (V.bl i = V.bl j) = decide (i = j) by simp]; exact hR)⟩⟩
theorem late_op {f : Value → Value → Sem Value} (h : AE X b a Γ M fun d1 M1 => AE X b c Γ M1 fun d2 M2 => ∃ r, OpR X f r ∧ OpD X.K b r d1 d2 Γ M2 R) {σ : L2.St} {S : Hp} {A : List Addr} {H : Hp} {Q : VK} {pins s} (st : Stt X.K b σ S A H Γ M) (p : Post X.K b σ S A H Γ R Q) (I : Inv X pins σ H s) :
    wpAny (model X.prog X.w) X.A (eval a X.env) (fun v s₁ => wpAny (model X.prog X.w) X.A (eval c X.env) (fun u s₂ => wpAny (model X.prog X.w) X.A (f v u) (EP X pins σ Q) X.xe s₂) X.xe s₁) X.xe s := by
  refine thn (pe_tW.run pins s σ H (fun x H1 => ∀ s1, Inv X pins σ H1 s1 → ∀ v, RelV x v → wpAny (model X.prog X.w) X.A (eval c X.env) (fun u s₂ => wpAny (model X.prog X.w) X.A (f v u) (EP X pins σ Q) X.xe s₂) X.xe s1) I (h σ S A H _ st fun v1 d1 M1 S1 A1 H1 s1 st1 r1 h1 => ?_)) fun v s1 ⟨x, H1, I1, r1, q1⟩ => q1 s1 I1 v r1
  intro sa Ia va rva
  refine thn (pe_tW.run pins sa σ H1 (fun y H2 => ∀ s2, Inv X pins σ H2 s2 → ∀ u, RelV y u → wpAny (model X.prog X.w) X.A (f va u) (EP X pins σ Q) X.xe s2) Ia (h1 σ S1 A1 H1 _ st1 fun v2 d2 M2 S2 A2 H2 s2 st2 r2 h2 => ?_)) fun v s1 ⟨x, H1, I1, r1, q1⟩ => q1 s1 I1 v r1
  intro sb Ib vb rvb
  obtain ⟨r, ho, hd⟩ := h2
  exact ho pins sb σ H2 v1 v2 va vb Q Ib rva rvb (hd σ S2 A2 H2 v1 v2 Q st2 (r1.mono s2.s s2.a) r2 (p.after (s1.trans s2)))
theorem A_cmpD {op : CmpOp} (h : AE X b a Γ M fun d1 M1 => AE X b c Γ M1 fun d2 M2 => ∃ k, CmpD op d1 d2 k ∧ R (.bl k) M2) (hm : behindInMarks op c = false := by exact nomark _) : AE X b (.Compare a [op] [c] pos) Γ M R := fun σ S A H Q st p pins s I =>
  wpAny_Compare1 (late_op (h.imp fun d1 M1 h1 => h1.imp fun d2 M2 ⟨k, hk, q⟩ => cmpD_run hk q) st p I) hm
theorem T_of {R' : Dat → Mem → Prop} {op : CmpOp} (h : AE X b (.Compare a [op] [c] pos) Γ M fun d M1 => ∃ k, d = .bl k ∧ RT k M1) (he : ∀ whole, isTrue (.Compare a [op] [c] pos) X.env whole = (do let v ← whole; standAt (Expr.Compare a [op] [c] pos).pos; holding [v] (truthy v)) := by intro _; rfl) : AT X b (.Compare a [op] [c] pos) Γ M RT := T_val h he
theorem T_cmpD {op : CmpOp} (h : AE X b a Γ M fun d1 M1 => AE X b c Γ M1 fun d2 M2 => ∃ k, CmpD op d1 d2 k ∧ RT k M2) (hm : behindInMarks op c = false := by exact nomark _) : AT X b (.Compare a [op] [c] pos) Γ M RT := fun σ S A H Q st p pins s I => by
  refine wpAny_isTrue_Compare1 (thn (late_op (R := fun d M2 => ∃ k, d = .bl k ∧ RT k M2) (Q := fun v H' => ∃ k, v = .bl k ∧ Q k H') (h.imp fun d1 M1 h1 => h1.imp fun d2 M2 ⟨k, hk, q⟩ => cmpD_run hk ⟨k, rfl, q⟩) st (fun v d M' S' A' H' s1 st1 r1 ⟨k, e, q⟩ => by
    subst e
    cases r1
    exact ⟨k, rfl, p k M' S' A' H' s1 st1 q⟩) I) fun v s1 h1 => thn h1 fun u s2 h2 => thn h2 fun c s3 ⟨x, H1, I1, r1, q1⟩ => ?_) hm
  obtain ⟨d, rfl, q⟩ := q1
  cases r1
  exact wpAny_truthy_bool ⟨H1, I1, q⟩
/-- is None -/
theorem T_isN {j : Nat} {p2 : Pos} (h : AE X b a Γ M fun d M1 => ∃ k, (∀ S A v, Rep X.K S A d v → decide (v = .non) = k) ∧ RT k M1) : AT X b (.Compare a [.Is] [.Constant .none j p2] pos) Γ M RT :=
  AT.of (pt_cmpR op_isN pe_tW pe_non (nomark _)) fun σ S A H Q st p => h σ S A H _ st fun v d M' S' A' H' s1 st1 r1 ⟨k, hk, q⟩ => ⟨rfl, k, by rw [hk _ _ _ r1], p k M' S' A' H' s1 st1 q⟩
theorem T_notN {j : Nat} {p2 : Pos} (h : AE X b a Γ M fun d M1 => ∃ k, (∀ S A v, Rep X.K S A d v → decide (v = .non) = k) ∧ RT (!k) M1) : AT X b (.Compare a [.IsNot] [.Constant .none j p2] pos) Γ M RT :=
  AT.of (pt_cmpR op_notN pe_tW pe_non (nomark _)) fun σ S A H Q st p => h σ S A H _ st fun v d M' S' A' H' s1 st1 r1 ⟨k, hk, q⟩ => ⟨rfl, !k, by rw [hk _ _ _ r1], p (!k) M' S' A' H' s1 st1 q⟩
theorem A_isN {j : Nat} {p2 : Pos} (h : AE X b a Γ M fun d M1 => ∃ k, (∀ S A v, Rep X.K S A d v → decide (v = .non) = k) ∧ R (.bl k) M1) : AE X b (.Compare a [.Is] [.Constant .none j p2] pos) Γ M R :=
  AE.of (pe_cmpR op_isN pe_tW pe_non (nomark _)) fun σ S A H Q st p => h σ S A H _ st fun v d M' S' A' H' s1 st1 r1 ⟨k, hk, q⟩ => ⟨rfl, by rw [hk _ _ _ r1]; exact (p.after s1).here st1 (.bl k) q⟩
/-- whether a datum is None -/
def Dat.isN : Dat → Bool
  | .non => true
  | _ => false
theorem isN_rep {S : Hp} {A : List Addr} {d : Dat} {v : V} (h : ∀ u, d ≠ .oth u) (r : Rep K S A d v) : decide (v = .non) = d.isN := by
  cases r <;> first | rfl | exact absurd rfl (h _)
end
end Ab
end

section
set_option Elab.async false
set_option linter.all false
set_option maxRecDepth 100000
set_option maxHeartbeats 4000000
namespace Ab
open PySem L2
section
variable {X : Cx} {b : Bas} {Γ : Gam} {M : Mem} {R : Dat → Mem → Prop} {RT : Bool → Mem → Prop} {e a c e1 e2 e3 : Expr} {es rest : List Expr} {pos : Pos} {K : PySem.W.Frag}

/-! ### subscripts, slices -/
/-- the item of a list, a tuple, a text -/
inductive ItemD (M : Mem) : Dat → Dat → Dat → Prop
  | l {d v : Dat} {ds : List Dat} {i : Int} : IsR M d ds → atI ds i = some v → ItemD M d (.int i) v
  | t {ds : List Dat} {v : Dat} {i : Int} : atI ds i = some v → ItemD M (.tup ds) (.int i) v
  | s {z : Str} {i : Int} {k : Nat} : z.length ≤ sizeLine → atI z.cps.toList i = some k → ItemD M (.str z) (.int i) (.str ⟨#[k]⟩)
theorem A_ix (h : AE X b a Γ M fun d1 M1 => AE X b c Γ M1 fun d2 M2 => ∃ d, ItemD M2 d1 d2 d ∧ R d M2) (hs : PlainIx c := by exact fun _ _ => rfl) : AE X b (.Subscript a c pos) Γ M R :=
  AE.of (pe_ix ix_seq pe_tW pe_tW hs) (E_op (h.imp fun d1 M1 h1 => h1.imp fun d2 M2 ⟨d, hi, q⟩ => fun σ S A H v1 v2 Q st r1 r2 p => by
    cases hi with
    | l i z =>
      obtain ⟨x, us, ev, g, q1⟩ := i.at st r1
      subst ev
      cases r2
      obtain ⟨v, hv, rv⟩ := atI_rep q1 z
      exact .inl ⟨x, us, _, v, rfl, rfl, g, hv, p.here st rv q⟩
    | t z =>
      obtain ⟨x, us, ev, g, q1⟩ := (IsT.tup _).at st r1
      subst ev
      cases r2
      obtain ⟨v, hv, rv⟩ := atI_rep q1 z
      exact .inr (.inl ⟨x, us, _, v, rfl, rfl, g, hv, p.here st rv q⟩)
    | s z1 z2 =>
      cases r1
      cases r2
      exact .inr (.inr ⟨_, _, _, rfl, rfl, z1, z2, p.here st (.str _) q⟩)))
def AO (X : Cx) (b : Bas) (e : Option Expr) (Γ : Gam) (M : Mem) (R : Option Int → Mem → Prop) : Prop := ∃ t, PO X e t ∧ EO X.K b t Γ M R
theorem O_none {R : Option Int → Mem → Prop} (h : R none M) : AO X b none Γ M R := ⟨_, po_none, fun σ S A H Q st p => p none M S A H (Step.refl _ _ _) st h⟩
theorem O_some {R : Option Int → Mem → Prop} (h : AE X b e Γ M fun d M1 => ∃ i, d = .int i ∧ R (some i) M1) : AO X b (some e) Γ M R :=
  ⟨_, po_some pe_tW, fun σ S A H Q st p => h σ S A H _ st fun v d M' S' A' H' s1 st1 r1 ⟨i, ed, q⟩ => by
    subst ed
    cases r1
    exact ⟨i, rfl, p (some i) M' S' A' H' s1 st1 q⟩⟩
theorem AO.imp {R R' : Option Int → Mem → Prop} {e : Option Expr} (a : AO X b e Γ M R') (h : ∀ d M, R' d M → R d M) : AO X b e Γ M R := by
  obtain ⟨t, hp, ht⟩ := a
  exact ⟨t, hp, fun σ S A H Q st p => ht σ S A H Q st fun c M' S' A' H' s1 t1 q => p c M' S' A' H' s1 t1 (h _ _ q)⟩
/-- the weakest reading of an optional part -/
def tWO (X : Cx) (e : Option Expr) : TO := fun σ H Q => ∃ t, PO X e t ∧ t σ H Q
theorem po_tW {e : Option Expr} : PO X e (tWO X e) := ⟨fun pins s σ H Q I ⟨t, hp, h⟩ => hp.run pins s σ H Q I h⟩
inductive SliD (M : Mem) : Dat → Option Int → Option Int → Dat → Prop
  | l {d : Dat} {ds : List Dat} {lo hi : Option Int} : IsR M d ds → SliD M d lo hi (.lst (cutD ds lo hi))
  | t {ds : List Dat} {lo hi : Option Int} : SliD M (.tup ds) lo hi (.tup (cutD ds lo hi))
  | s {z : Str} {lo hi : Option Int} : z.length ≤ sizeLine → SliD M (.str z) lo hi (.str (cutS z lo hi))
theorem cutD_whole {ds : List Dat} {lo hi : Option Int} (h : HT.sIx ds.length 0 lo = 0 ∧ HT.sIx ds.length ds.length hi = ds.length) : cutD ds lo hi = ds := by
  unfold cutD
  rw [h.1, h.2]
  simp
theorem A_sl {p2 : Pos} {lo hi : Option Expr} (h : AE X b a Γ M fun d M1 => AO X b lo Γ M1 fun l M2 => AO X b hi Γ M2 fun u M3 => ∃ d', SliD M3 d l u d' ∧ R d' M3) : AE X b (.Subscript a (.Slice lo hi none p2) pos) Γ M R :=
  AE.of (pe_slice (sl_list.or (sl_tupA.or sl_str)) pe_tW po_tW po_tW) fun σ S A H Q st p => h σ S A H _ st fun v d M1 S1 A1 H1 s1 st1 r1 h1 => by
    obtain ⟨tl, hpl, hl⟩ := h1
    refine ⟨tl, hpl, hl σ S1 A1 H1 _ st1 fun l M2 S2 A2 H2 s2 st2 h2 => ?_⟩
    obtain ⟨th, hph, hh⟩ := h2
    refine ⟨th, hph, hh σ S2 A2 H2 _ st2 fun u M3 S3 A3 H3 s3 st3 h3 => ?_⟩
    obtain ⟨d', hd, q⟩ := h3
    have r3 := (r1.mono s2.s s2.a).mono s3.s s3.a
    have p3 := p.after ((s1.trans s2).trans s3)
    cases hd with
    | l i =>
      obtain ⟨x, us, ev, g, q1⟩ := i.at st3 r3
      subst ev
      refine .inl ⟨x, us, rfl, g, fun y hy => ?_⟩
      obtain ⟨s4, st4⟩ := st3.lay (o := .lst (cutV us l u)) hy
      exact (p3.after s4).here st4 (.lst upd_same ((cut_rep l u q1).mono s4.s s4.a)) q
    | t =>
      obtain ⟨x, us, ev, g, q1⟩ := (IsT.tup _).at st3 r3
      subst ev
      refine .inr (.inl ⟨x, us, rfl, g, fun hw => ?_, fun hw y hy => ?_⟩)
      · rw [← q1.length] at hw
        rw [cutD_whole hw] at q
        exact p3.here st3 r3 q
      · obtain ⟨s4, st4⟩ := st3.lay (o := .tup (cutV us l u)) hy
        exact (p3.after s4).here st4 (.tup (SqT.of upd_same) ((cut_rep l u q1).mono s4.s s4.a)) q
    | s z =>
      cases r3
      exact .inr (.inr ⟨_, rfl, z, p3.here st3 (.str _) q⟩)
/-- a list's slice that stays ours -/
theorem A_slC {p2 : Pos} {lo hi : Option Expr} (h : AE X b a Γ M fun d M1 => AO X b lo Γ M1 fun l M2 => AO X b hi Γ M2 fun u M3 => ∃ ds, IsR M3 d ds ∧ R (.ptr M3.length) (M3 ++ [.lst (cutD ds l u)])) : AE X b (.Subscript a (.Slice lo hi none p2) pos) Γ M R :=
  AE.of (pe_slice sl_list pe_tW po_tW po_tW) fun σ S A H Q st p => h σ S A H _ st fun v d M1 S1 A1 H1 s1 st1 r1 h1 => by
    obtain ⟨tl, hpl, hl⟩ := h1
    refine ⟨tl, hpl, hl σ S1 A1 H1 _ st1 fun l M2 S2 A2 H2 s2 st2 h2 => ?_⟩
    obtain ⟨th, hph, hh⟩ := h2
    refine ⟨th, hph, hh σ S2 A2 H2 _ st2 fun u M3 S3 A3 H3 s3 st3 h3 => ?_⟩
    obtain ⟨ds, i, q⟩ := h3
    have r3 := (r1.mono s2.s s2.a).mono s3.s s3.a
    have p3 := p.after ((s1.trans s2).trans s3)
    obtain ⟨x, us, ev, g, q1⟩ := i.at st3 r3
    subst ev
    refine ⟨x, us, rfl, g, fun y hy => ?_⟩
    obtain ⟨s4, st4⟩ := st3.layCell (o := .lst (cutV us l u)) (c := .lst (cutD ds l u)) hy ⟨_, upd_same, (cut_rep l u q1).mono (Same.refl _) (List.prefix_append _ _)⟩
    refine (p3.after s4).here st4 (.ptr ?_) q
    rw [← st3.len, List.getElem?_append_right (Nat.le_refl _), Nat.sub_self] <;> rfl

/-! ### chains of comparisons of ints -/
inductive CmpI : CmpOp → Int → Int → Bool → Prop
  | lt (i j : Int) : CmpI .Lt i j (decide (i < j))
  | le (i j : Int) : CmpI .LtE i j (decide (i ≤ j))
  | gt (i j : Int) : CmpI .Gt i j (decide (j < i))
  | ge (i j : Int) : CmpI .GtE i j (decide (j ≤ i))
  | eq (i j : Int) : CmpI .Eq i j (decide (i = j))
def rCI (op : CmpOp) : R2 := fun x y H Q => ∃ i j k, x = .int i ∧ y = .int j ∧ CmpI op i j k ∧ Q (.bl k) H
theorem op_CI {op : CmpOp} : OpR X (compareOp op) (rCI op) := by
  intro pins s σ H x y v u Q I rx ry h
  obtain ⟨i, j, k, e1, e2, hk, q⟩ := h
  subst e1 e2
  cases hk with
  | lt => exact op_lt pins s σ H _ _ v u Q I rx ry ⟨i, j, rfl, rfl, q⟩
  | le => exact op_le pins s σ H _ _ v u Q I rx ry ⟨i, j, rfl, rfl, q⟩
  | gt => exact op_gt pins s σ H _ _ v u Q I rx ry ⟨i, j, rfl, rfl, q⟩
  | ge => exact op_ge pins s σ H _ _ v u Q I rx ry ⟨i, j, rfl, rfl, q⟩
  | eq => exact op_eq pins s σ H _ _ v u Q I rx ry ⟨rfl, by rw [show decide (V.int i = V.int j) = decide (i = j) by simp]; exact q⟩
theorem pe_chain3 {op op' op'' : CmpOp} {ta tb tc td : TE} {e0 : Expr} (ha : PE X e0 ta) (hb : PE X e1 tb) (hc : PE X e2 tc) (hd : PE X e3 td)
    (hm : lastMarks [op, op', op''] [e1, e2, e3] = false := by with_unfolding_all rfl) : PE X (.Compare e0 [op, op', op''] [e1, e2, e3] pos)
      (fun σ H Q => ta σ H fun x H1 => tb σ H1 fun y H2 => rCI op x y H2 fun z H3 => ∃ k, z = .bl k ∧ (if k = true then tc σ H3 fun w H4 => rCI op' y w H4 fun z2 H5 => ∃ k2, z2 = .bl k2 ∧ (if k2 = true then td σ H5 fun w2 H6 => rCI op'' w w2 H6 Q else Q (.bl false) H5) else Q (.bl false) H3)) := by
  refine ⟨fun pins s σ H Q I h => ?_⟩
  refine PyProof.Rows.Compare_chain (thn (ha.run pins s σ H _ I h) fun v s1 ⟨x, H1, I1, r1, q1⟩ => PyProof.Rows.chain_link (thn (hb.run pins s1 σ H1 _ I1 q1) fun u s2 ⟨y, H2, I2, r2, q2⟩ =>
    thn (op_CI pins s2 σ H2 x y v u _ I2 r1 r2 q2) fun d s3 ⟨z, H3, I3, r3, k, e, q3⟩ => ?_)) hm
  subst e
  cases r3
  refine wpAny_truthy_bool ?_
  cases k with
  | false => exact iteF ⟨.bl false, H3, I3, rfl, q3⟩
  | true =>
    refine iteT (PyProof.Rows.chain_link (thn (hc.run pins s3 σ H3 _ I3 q3) fun w s4 ⟨z', H4, I4, r4, q4⟩ => thn (op_CI pins s4 σ H4 y z' u w _ I4 r2 r4 q4) fun d s5 ⟨z2, H5, I5, r5, k2, e2, q5⟩ => ?_))
    subst e2
    cases r5
    refine wpAny_truthy_bool ?_
    cases k2 with
    | false => exact iteF ⟨.bl false, H5, I5, rfl, q5⟩
    | true => exact iteT (PyProof.Rows.chain_last (thn (hd.run pins s5 σ H5 _ I5 q5) fun w2 s6 ⟨z3, H6, I6, r6, q6⟩ => op_CI pins s6 σ H6 z' z3 w w2 Q I6 r4 r6 q6))
theorem A_chain {op op' : CmpOp} (h : AE X b a Γ M fun d1 M1 => AE X b e1 Γ M1 fun d2 M2 => ∃ i j k, d1 = .int i ∧ d2 = .int j ∧ CmpI op i j k ∧ (k = true → AE X b e2 Γ M2 fun d3 M3 => ∃ l k', d3 = .int l ∧ CmpI op' j l k' ∧ R (.bl k') M3) ∧ (k = false → R (.bl false) M2))
    (hm : lastMarks [op, op'] [e1, e2] = false := by with_unfolding_all rfl) : AE X b (.Compare a [op, op'] [e1, e2] pos) Γ M R :=
  AE.of (pe_chain op_CI op_CI pe_tW pe_tW pe_tW hm) fun σ S A H Q st p => h σ S A H _ st fun v1 d1 M1 S1 A1 H1 s1 st1 r1 h1 => h1 σ S1 A1 H1 _ st1 fun v2 d2 M2 S2 A2 H2 s2 st2 r2 h2 => by
    obtain ⟨i, j, k, z1, z2, hk, y1, y2⟩ := h2
    subst z1 z2
    cases r1
    cases r2
    refine ⟨i, j, k, rfl, rfl, hk, k, rfl, ?_⟩
    cases k with
    | false => exact iteF ((p.after (s1.trans s2)).here st2 (.bl _) (y2 rfl))
    | true => exact iteT (y1 rfl σ S2 A2 H2 _ st2 fun v3 d3 M3 S3 A3 H3 s3 st3 r3 h3 => by
        obtain ⟨l, k', z3, hk', q⟩ := h3
        subst z3
        cases r3
        exact ⟨j, l, k', rfl, rfl, hk', ((p.after (s1.trans s2)).after s3).here st3 (.bl _) q⟩)
theorem T_chain {op op' : CmpOp} (h : AE X b a Γ M fun d1 M1 => AE X b e1 Γ M1 fun d2 M2 => ∃ i j k, d1 = .int i ∧ d2 = .int j ∧ CmpI op i j k ∧ (k = true → AE X b e2 Γ M2 fun d3 M3 => ∃ l k', d3 = .int l ∧ CmpI op' j l k' ∧ RT k' M3) ∧ (k = false → RT false M2))
    (hm : lastMarks [op, op'] [e1, e2] = false := by with_unfolding_all rfl) : AT X b (.Compare a [op, op'] [e1, e2] pos) Γ M RT :=
  AT.of (pt_chain op_CI op_CI pe_tW pe_tW pe_tW hm) fun σ S A H Q st p => h σ S A H _ st fun v1 d1 M1 S1 A1 H1 s1 st1 r1 h1 => h1 σ S1 A1 H1 _ st1 fun v2 d2 M2 S2 A2 H2 s2 st2 r2 h2 => by
    obtain ⟨i, j, k, z1, z2, hk, y1, y2⟩ := h2
    subst z1 z2
    cases r1
    cases r2
    refine ⟨i, j, k, rfl, rfl, hk, k, rfl, ?_⟩
    cases k with
    | false => exact iteF ⟨false, rfl, p false M2 S2 A2 H2 (s1.trans s2) st2 (y2 rfl)⟩
    | true => exact iteT (y1 rfl σ S2 A2 H2 _ st2 fun v3 d3 M3 S3 A3 H3 s3 st3 r3 h3 => by
        obtain ⟨l, k', z3, hk', q⟩ := h3
        subst z3
        cases r3
        exact ⟨j, l, k', rfl, rfl, hk', k', rfl, p k' M3 S3 A3 H3 ((s1.trans s2).trans s3) st3 q⟩)
theorem A_chain3 {op op' op'' : CmpOp} (h : AE X b a Γ M fun d1 M1 => AE X b e1 Γ M1 fun d2 M2 => ∃ i j k, d1 = .int i ∧ d2 = .int j ∧ CmpI op i j k ∧ (k = false → R (.bl false) M2) ∧ (k = true → AE X b e2 Γ M2 fun d3 M3 => ∃ l k', d3 = .int l ∧ CmpI op' j l k' ∧ (k' = false → R (.bl false) M3) ∧
      (k' = true → AE X b e3 Γ M3 fun d4 M4 => ∃ n k'', d4 = .int n ∧ CmpI op'' l n k'' ∧ R (.bl k'') M4)))
    (hm : lastMarks [op, op', op''] [e1, e2, e3] = false := by with_unfolding_all rfl) : AE X b (.Compare a [op, op', op''] [e1, e2, e3] pos) Γ M R :=
  AE.of (pe_chain3 pe_tW pe_tW pe_tW pe_tW hm) fun σ S A H Q st p => h σ S A H _ st fun v1 d1 M1 S1 A1 H1 s1 st1 r1 h1 => h1 σ S1 A1 H1 _ st1 fun v2 d2 M2 S2 A2 H2 s2 st2 r2 h2 => by
    obtain ⟨i, j, k, z1, z2, hk, y2, y1⟩ := h2
    subst z1 z2
    cases r1
    cases r2
    refine ⟨i, j, k, rfl, rfl, hk, k, rfl, ?_⟩
    cases k with
    | false => exact iteF ((p.after (s1.trans s2)).here st2 (.bl _) (y2 rfl))
    | true => exact iteT (y1 rfl σ S2 A2 H2 _ st2 fun v3 d3 M3 S3 A3 H3 s3 st3 r3 h3 => by
        obtain ⟨l, k', z3, hk', x2, x1⟩ := h3
        subst z3
        cases r3
        refine ⟨j, l, k', rfl, rfl, hk', k', rfl, ?_⟩
        cases k' with
        | false => exact iteF (((p.after (s1.trans s2)).after s3).here st3 (.bl _) (x2 rfl))
        | true => exact iteT (x1 rfl σ S3 A3 H3 _ st3 fun v4 d4 M4 S4 A4 H4 s4 st4 r4 h4 => by
            obtain ⟨n, k'', z4, hk'', q⟩ := h4
            subst z4
            cases r4
            exact ⟨l, n, k'', rfl, rfl, hk'', (((p.after (s1.trans s2)).after s3).after s4).here st4 (.bl _) q⟩))

/-! ### a built-in called by its name -/
def CallD (K : PySem.W.Frag) (b : Bas) (r : List V → Hp → VK → Prop) (ds : List Dat) (Γ : Gam) (M : Mem) (R : Dat → Mem → Prop) : Prop :=
  ∀ σ S A H vs Q, Stt K b σ S A H Γ M → Reps K S A ds vs → Post K b σ S A H Γ R Q → r vs H Q
theorem A_blt {id : String} {x : Str} {r : List V → Hp → VK → Prop} {p : Pos} (hc : CallR X (.builtin id) r) (hg : Gl X x) (hm : X.mg x = none) (hv : bootBuiltins x = some (.builtin id)) (h : AA X b (e :: es) Γ M fun ds M1 => CallD X.K b r ds Γ M1 R)
    (hn : x ≠ "__name__" := by decide) (hdb : (x == ("__debug__" : Str)) = false := by decide) (he : starEach (e :: es) X.env = (false, eval e X.env) :: starEach es X.env := by rfl) (hpl : (backTo pos (starEach es X.env)).any (·.1) = false := by rfl) : AE X b (.Call (.Name x p) (e :: es) [] pos) Γ M R :=
  AE.of (pe_callB hc hg hm hv pa_tW hn hdb he hpl) fun σ S A H Q st p => h σ S A H _ st fun vs ds M1 S1 A1 H1 s1 st1 r1 q => q σ S1 A1 H1 vs Q st1 r1 (p.after s1)
theorem A_ty {T : String} {x : Str} {r : List V → Hp → VK → Prop} {p : Pos} (hc : CallR X (.type T) r) (hg : Gl X x) (hm : X.mg x = none) (hv : bootBuiltins x = some (.type T)) (h : AA X b (e :: es) Γ M fun ds M1 => CallD X.K b r ds Γ M1 R)
    (hn : x ≠ "__name__" := by decide) (hdb : (x == ("__debug__" : Str)) = false := by decide) (he : starEach (e :: es) X.env = (false, eval e X.env) :: starEach es X.env := by rfl) (hpl : (backTo pos (starEach es X.env)).any (·.1) = false := by rfl) : AE X b (.Call (.Name x p) (e :: es) [] pos) Γ M R :=
  AE.of (pe_callTy hc hg hm hv pa_tW hn hdb he hpl) fun σ S A H Q st p => h σ S A H _ st fun vs ds M1 S1 A1 H1 s1 st1 r1 q => q σ S1 A1 H1 vs Q st1 r1 (p.after s1)
theorem Reps.one {S : Hp} {A : List Addr} {d : Dat} {vs : List V} (h : Reps K S A [d] vs) : ∃ v, vs = [v] ∧ Rep K S A d v := by
  cases h with
  | cons r t => cases t; exact ⟨_, rfl, r⟩
theorem Reps.two {S : Hp} {A : List Addr} {d d' : Dat} {vs : List V} (h : Reps K S A [d, d'] vs) : ∃ v v', vs = [v, v'] ∧ Rep K S A d v ∧ Rep K S A d' v' := by
  cases h with
  | cons r t =>
    cases t with
    | cons r' t' => cases t'; exact ⟨_, _, rfl, r, r'⟩

/-! ### len, abs, int, str .. of data -/
inductive LenD (M : Mem) : Dat → Nat → Prop
  | l {d : Dat} {ds : List Dat} : IsR M d ds → LenD M d ds.length
  | t (ds : List Dat) : LenD M (.tup ds) ds.length
  | s {z : Str} : z.length ≤ sizeLine → LenD M (.str z) z.length
theorem A_len {p : Pos} (hg : Gl X "len") (hm : X.mg "len" = none) (h : AE X b e Γ M fun d M1 => ∃ n : Nat, LenD M1 d n ∧ R (.int n) M1) (he : starEach [e] X.env = (false, eval e X.env) :: starEach [] X.env := by rfl) : AE X b (.Call (.Name "len" p) [e] [] pos) Γ M R :=
  A_blt call_len hg hm PySem.boot_len (L_cons (h.imp fun d M1 ⟨n, hn, q⟩ => L_nil fun σ S A H vs Q st r1 p => by
    obtain ⟨v, ev, r⟩ := r1.one
    subst ev
    cases hn with
    | l i =>
      obtain ⟨x, us, e1, g, q1⟩ := i.at st r
      subst e1
      exact ⟨_, _, rfl, .inl ⟨us, g, rfl⟩, p.here st (.int _) (by rw [← q1.length]; exact q)⟩
    | t ds =>
      obtain ⟨x, us, e1, g, q1⟩ := (IsT.tup _).at st r
      subst e1
      exact ⟨_, _, rfl, .inr ⟨us, g, rfl⟩, p.here st (.int _) (by rw [← q1.length]; exact q)⟩
    | s z =>
      cases r
      exact ⟨_, _, rfl, ⟨z, rfl⟩, p.here st (.int _) q⟩) he) (by decide) (by decide) he
theorem A_abs {p : Pos} (hg : Gl X "abs") (hm : X.mg "abs" = none) (h : AE X b e Γ M fun d M1 => ∃ i : Int, d = .int i ∧ R (.int (if i < 0 then -i else i)) M1) (he : starEach [e] X.env = (false, eval e X.env) :: starEach [] X.env := by rfl) : AE X b (.Call (.Name "abs" p) [e] [] pos) Γ M R :=
  A_blt call_abs hg hm (by decide +kernel) (L_cons (h.imp fun d M1 ⟨n, hn, q⟩ => L_nil fun σ S A H vs Q st r1 p => by
    obtain ⟨v, ev, r⟩ := r1.one
    subst ev hn
    cases r
    exact ⟨_, rfl, p.here st (.int _) q⟩) he) (by decide) (by decide) he
inductive IntD : Dat → Int → Prop
  | i (n : Int) : IntD (.int n) n
  | b (k : Bool) : IntD (.bl k) (if k then 1 else 0)
theorem A_intC {p : Pos} (hg : Gl X "int") (hm : X.mg "int" = none) (h : AE X b e Γ M fun d M1 => ∃ i : Int, IntD d i ∧ R (.int i) M1) (he : starEach [e] X.env = (false, eval e X.env) :: starEach [] X.env := by rfl) : AE X b (.Call (.Name "int" p) [e] [] pos) Γ M R :=
  A_ty call_int1 hg hm (by decide +kernel) (L_cons (h.imp fun d M1 ⟨n, hn, q⟩ => L_nil fun σ S A H vs Q st r1 p => by
    obtain ⟨v, ev, r⟩ := r1.one
    subst ev
    cases hn with
    | i n => cases r; exact .inl ⟨_, rfl, p.here st (.int _) q⟩
    | b k => cases r; exact .inr ⟨_, rfl, p.here st (.int _) q⟩) he) (by decide) (by decide) he
theorem A_max2 {p : Pos} (hc : X.calm = true) (hg : Gl X "max") (hm : X.mg "max" = none) (h : AE X b e1 Γ M fun d1 M1 => AE X b e2 Γ M1 fun d2 M2 => ∃ i j : Int, d1 = .int i ∧ d2 = .int j ∧ R (.int (if j > i then j else i)) M2)
    (he : starEach [e1, e2] X.env = (false, eval e1 X.env) :: starEach [e2] X.env := by rfl) (he2 : starEach [e2] X.env = (false, eval e2 X.env) :: starEach [] X.env := by rfl) (hpl : (backTo pos (starEach [e2] X.env)).any (·.1) = false := by rfl) : AE X b (.Call (.Name "max" p) [e1, e2] [] pos) Γ M R :=
  A_blt (call_max2 hc) hg hm (by decide +kernel) (L_cons (h.imp fun d M1 h1 => L_cons (h1.imp fun d2 M2 ⟨i, j, z1, z2, q⟩ => L_nil fun σ S A H vs Q st r1 p => by
    obtain ⟨v, v', ev, r, r'⟩ := r1.two
    subst ev z1 z2
    cases r
    cases r'
    exact ⟨_, _, rfl, p.here st (.int _) q⟩) he2) he) (by decide) (by decide) he hpl
theorem A_min2 {p : Pos} (hc : X.calm = true) (hg : Gl X "min") (hm : X.mg "min" = none) (h : AE X b e1 Γ M fun d1 M1 => AE X b e2 Γ M1 fun d2 M2 => ∃ i j : Int, d1 = .int i ∧ d2 = .int j ∧ R (.int (if j < i then j else i)) M2)
    (he : starEach [e1, e2] X.env = (false, eval e1 X.env) :: starEach [e2] X.env := by rfl) (he2 : starEach [e2] X.env = (false, eval e2 X.env) :: starEach [] X.env := by rfl) (hpl : (backTo pos (starEach [e2] X.env)).any (·.1) = false := by rfl) : AE X b (.Call (.Name "min" p) [e1, e2] [] pos) Γ M R :=
  A_blt (call_min2 hc) hg hm (by decide +kernel) (L_cons (h.imp fun d M1 h1 => L_cons (h1.imp fun d2 M2 ⟨i, j, z1, z2, q⟩ => L_nil fun σ S A H vs Q st r1 p => by
    obtain ⟨v, v', ev, r, r'⟩ := r1.two
    subst ev z1 z2
    cases r
    cases r'
    exact ⟨_, _, rfl, p.here st (.int _) q⟩) he2) he) (by decide) (by decide) he hpl
/-- list(x) -/
inductive SeqD (M : Mem) : Dat → List Dat → Prop
  | l {d : Dat} {ds : List Dat} : IsR M d ds → SeqD M d ds
  | t (ds : List Dat) : SeqD M (.tup ds) ds
theorem SeqD.at {b : Bas} {σ : L2.St} {S : Hp} {A : List Addr} {H : Hp} {d : Dat} {ds : List Dat} {v : V} (i : SeqD M d ds) (st : Stt K b σ S A H Γ M) (r : Rep K S A d v) : ∃ a xs, v = .ref a ∧ (SqL K H a xs ∨ SqT K H a xs) ∧ Reps K S A ds xs := by
  cases i with
  | l i =>
    obtain ⟨x, us, e1, g, q1⟩ := i.at st r
    exact ⟨x, us, e1, .inl g, q1⟩
  | t =>
    obtain ⟨x, us, e1, g, q1⟩ := (IsT.tup _).at st r
    exact ⟨x, us, e1, .inr g, q1⟩
theorem A_list {p : Pos} (hg : Gl X "list") (hm : X.mg "list" = none) (h : AE X b e Γ M fun d M1 => ∃ ds, SeqD M1 d ds ∧ R (.lst ds) M1) (he : starEach [e] X.env = (false, eval e X.env) :: starEach [] X.env := by rfl) : AE X b (.Call (.Name "list" p) [e] [] pos) Γ M R :=
  A_ty call_list_of hg hm PyProof.Rows.boot_list (L_cons (h.imp fun d M1 ⟨ds, hn, q⟩ => L_nil fun σ S A H vs Q st r1 p => by
    obtain ⟨v, ev, r⟩ := r1.one
    subst ev
    obtain ⟨x, us, e1, g, q1⟩ := hn.at st r
    subst e1
    refine ⟨x, us, rfl, g, fun y hy => ?_⟩
    obtain ⟨s4, st4⟩ := st.lay (o := .lst us) hy
    exact (p.after s4).here st4 (.lst upd_same (q1.mono s4.s s4.a)) q) he) (by decide) (by decide) he
theorem A_listC {p : Pos} (hg : Gl X "list") (hm : X.mg "list" = none) (h : AE X b e Γ M fun d M1 => ∃ ds, SeqD M1 d ds ∧ R (.ptr M1.length) (M1 ++ [.lst ds])) (he : starEach [e] X.env = (false, eval e X.env) :: starEach [] X.env := by rfl) : AE X b (.Call (.Name "list" p) [e] [] pos) Γ M R :=
  A_ty call_list_of hg hm PyProof.Rows.boot_list (L_cons (h.imp fun d M1 ⟨ds, hn, q⟩ => L_nil fun σ S A H vs Q st r1 p => by
    obtain ⟨v, ev, r⟩ := r1.one
    subst ev
    obtain ⟨x, us, e1, g, q1⟩ := hn.at st r
    subst e1
    refine ⟨x, us, rfl, g, fun y hy => ?_⟩
    obtain ⟨s4, st4⟩ := st.layCell (o := .lst us) (c := .lst ds) hy ⟨_, upd_same, q1.mono (Same.refl _) (List.prefix_append _ _)⟩
    refine (p.after s4).here st4 (.ptr ?_) q
    rw [← st.len, List.getElem?_append_right (Nat.le_refl _), Nat.sub_self] <;> rfl) he) (by decide) (by decide) he
theorem A_tuple {p : Pos} (hg : Gl X "tuple") (hm : X.mg "tuple" = none) (h : AE X b e Γ M fun d M1 => ∃ ds, SeqD M1 d ds ∧ R (.tup ds) M1) (he : starEach [e] X.env = (false, eval e X.env) :: starEach [] X.env := by rfl) : AE X b (.Call (.Name "tuple" p) [e] [] pos) Γ M R :=
  A_ty call_tuple_of hg hm PyProof.Rows.boot_tuple (L_cons (h.imp fun d M1 ⟨ds, hn, q⟩ => L_nil fun σ S A H vs Q st r1 p => by
    obtain ⟨v, ev, r⟩ := r1.one
    subst ev
    cases hn with
    | l i =>
      obtain ⟨x, us, e1, g, q1⟩ := i.at st r
      subst e1
      refine ⟨x, us, rfl, .inl ⟨g, fun y hy => ?_⟩⟩
      obtain ⟨s4, st4⟩ := st.lay (o := .tup us) hy
      exact (p.after s4).here st4 (.tup (SqT.of upd_same) (q1.mono s4.s s4.a)) q
    | t =>
      obtain ⟨x, us, e1, g, q1⟩ := (IsT.tup _).at st r
      subst e1
      exact ⟨x, us, rfl, .inr ⟨g, p.here st r q⟩⟩) he) (by decide) (by decide) he
/-- sum, all, any of a list -/
theorem A_sum {p : Pos} (hc : X.calm = true) (hg : Gl X "sum") (hm : X.mg "sum" = none) (h : AE X b e Γ M fun d M1 => ∃ ns : List Int, IsR M1 d (ns.map .int) ∧ R (.int ns.sum) M1) (he : starEach [e] X.env = (false, eval e X.env) :: starEach [] X.env := by rfl) : AE X b (.Call (.Name "sum" p) [e] [] pos) Γ M R :=
  A_blt (cr_sum hc) hg hm (by decide +kernel) (L_cons (h.imp fun d M1 ⟨ds, hn, q⟩ => L_nil fun σ S A H vs Q st r1 p => by
    obtain ⟨v, ev, r⟩ := r1.one
    subst ev
    obtain ⟨x, us, e1, g, q1⟩ := hn.at st r
    subst e1
    have e2 := q1.ints
    subst e2
    exact ⟨x, ds, rfl, g, p.here st (.int _) q⟩) he) (by decide) (by decide) he
theorem A_all {p : Pos} (hc : X.calm = true) (hg : Gl X "all") (hm : X.mg "all" = none) (h : AE X b e Γ M fun d M1 => ∃ ns : List Bool, IsR M1 d (ns.map .bl) ∧ R (.bl (ns.all id)) M1) (he : starEach [e] X.env = (false, eval e X.env) :: starEach [] X.env := by rfl) : AE X b (.Call (.Name "all" p) [e] [] pos) Γ M R :=
  A_blt (cr_all hc) hg hm (by decide +kernel) (L_cons (h.imp fun d M1 ⟨ds, hn, q⟩ => L_nil fun σ S A H vs Q st r1 p => by
    obtain ⟨v, ev, r⟩ := r1.one
    subst ev
    obtain ⟨x, us, e1, g, q1⟩ := hn.at st r
    subst e1
    have e2 := q1.bls
    subst e2
    exact ⟨x, ds, rfl, g, p.here st (.bl _) q⟩) he) (by decide) (by decide) he
theorem A_any {p : Pos} (hc : X.calm = true) (hg : Gl X "any") (hm : X.mg "any" = none) (h : AE X b e Γ M fun d M1 => ∃ ns : List Bool, IsR M1 d (ns.map .bl) ∧ R (.bl (ns.any id)) M1) (he : starEach [e] X.env = (false, eval e X.env) :: starEach [] X.env := by rfl) : AE X b (.Call (.Name "any" p) [e] [] pos) Γ M R :=
  A_blt (cr_any hc) hg hm (by decide +kernel) (L_cons (h.imp fun d M1 ⟨ds, hn, q⟩ => L_nil fun σ S A H vs Q st r1 p => by
    obtain ⟨v, ev, r⟩ := r1.one
    subst ev
    obtain ⟨x, us, e1, g, q1⟩ := hn.at st r
    subst e1
    have e2 := q1.bls
    subst e2
    exact ⟨x, ds, rfl, g, p.here st (.bl _) q⟩) he) (by decide) (by decide) he
end
end Ab
end

section
set_option Elab.async false
set_option linter.all false
set_option maxRecDepth 100000
set_option maxHeartbeats 4000000
namespace Ab
open PySem L2

/-! ### statements -/
structure AEnds where
  nx : Gam → Mem → Prop
  rt : Dat → Mem → Prop
  bk : Gam → Mem → Prop := fun _ _ => False
  ct : Gam → Mem → Prop := fun _ _ => False
structure RealD (K : PySem.W.Frag) (b : Bas) (S : Hp) (A : List Addr) (H : Hp) (D : AEnds) (D' : Ends) : Prop where
  nx : ∀ σ' S' A' H' Γ' M', Step S A H S' A' H' → Stt K b σ' S' A' H' Γ' M' → D.nx Γ' M' → D'.nx σ' H'
  rt : ∀ σ' S' A' H' Γ' M' v d, Step S A H S' A' H' → Stt K b σ' S' A' H' Γ' M' → Rep K S' A' d v → D.rt d M' → D'.rt v H'
  bk : ∀ σ' S' A' H' Γ' M', Step S A H S' A' H' → Stt K b σ' S' A' H' Γ' M' → D.bk Γ' M' → D'.bk σ' H'
  ct : ∀ σ' S' A' H' Γ' M', Step S A H S' A' H' → Stt K b σ' S' A' H' Γ' M' → D.ct Γ' M' → D'.ct σ' H'
theorem RealD.after {K : PySem.W.Frag} {b : Bas} {S S1 : Hp} {A A1 : List Addr} {H H1 : Hp} {D : AEnds} {D' : Ends} (r : RealD K b S A H D D') (s : Step S A H S1 A1 H1) : RealD K b S1 A1 H1 D D' :=
  ⟨fun σ' S' A' H' Γ' M' s' => r.nx σ' S' A' H' Γ' M' (s.trans s'), fun σ' S' A' H' Γ' M' v d s' => r.rt σ' S' A' H' Γ' M' v d (s.trans s'), fun σ' S' A' H' Γ' M' s' => r.bk σ' S' A' H' Γ' M' (s.trans s'), fun σ' S' A' H' Γ' M' s' => r.ct σ' S' A' H' Γ' M' (s.trans s')⟩
def SV (K : PySem.W.Frag) (b : Bas) (t : TS) (Γ : Gam) (M : Mem) (D : AEnds) : Prop := ∀ σ S A H D', Stt K b σ S A H Γ M → RealD K b S A H D D' → t D' σ H
def AS (X : Cx) (b : Bas) (st : Stmt) (Γ : Gam) (M : Mem) (D : AEnds) : Prop := SV X.K b (tWS X st) Γ M D
def ASs (X : Cx) (b : Bas) (sts : List Stmt) (Γ : Gam) (M : Mem) (D : AEnds) : Prop := SV X.K b (tWSs X sts) Γ M D
theorem AS.of {X : Cx} {b : Bas} {st : Stmt} {t : TS} {Γ : Gam} {M : Mem} {D : AEnds} (hp : PS X st t) (h : SV X.K b t Γ M D) : AS X b st Γ M D := fun σ S A H D' s r pins s' I => hp.run pins s' σ H D' I (h σ S A H D' s r)
theorem ASs.of {X : Cx} {b : Bas} {st : List Stmt} {t : TS} {Γ : Gam} {M : Mem} {D : AEnds} (hp : PSs X st t) (h : SV X.K b t Γ M D) : ASs X b st Γ M D := fun σ S A H D' s r pins s' I => hp.run pins s' σ H D' I (h σ S A H D' s r)

section
variable {X : Cx} {b : Bas} {Γ : Gam} {M : Mem} {D : AEnds} {e a c e1 e2 e3 : Expr} {es rest : List Expr} {pos : Pos} {K : PySem.W.Frag} {st : Stmt} {sts s1 s2 : List Stmt} {t u : TS}
theorem AS.imp {D2 : AEnds} (h : AS X b st Γ M D) (h1 : ∀ Γ M, D.nx Γ M → D2.nx Γ M) (h2 : ∀ Γ M, D.rt Γ M → D2.rt Γ M) (h3 : ∀ Γ M, D.bk Γ M → D2.bk Γ M) (h4 : ∀ Γ M, D.ct Γ M → D2.ct Γ M) : AS X b st Γ M D2 := fun σ S A H D' s r =>
  h σ S A H D' s ⟨fun σ' S' A' H' Γ' M' s' t' q => r.nx σ' S' A' H' Γ' M' s' t' (h1 _ _ q), fun σ' S' A' H' Γ' M' v d s' t' rr q => r.rt σ' S' A' H' Γ' M' v d s' t' rr (h2 _ _ q), fun σ' S' A' H' Γ' M' s' t' q => r.bk σ' S' A' H' Γ' M' s' t' (h3 _ _ q), fun σ' S' A' H' Γ' M' s' t' q => r.ct σ' S' A' H' Γ' M' s' t' (h4 _ _ q)⟩
theorem S_nil (h : D.nx Γ M) : ASs X b [] Γ M D := ASs.of pss_nil fun σ S A H D' s r => r.nx σ S A H Γ M (Step.refl _ _ _) s h
theorem S_cons (h : AS X b st Γ M { D with nx := fun Γ' M' => ASs X b sts Γ' M' D }) : ASs X b (st :: sts) Γ M D :=
  ASs.of (pss_cons ps_tW pss_tW) fun σ S A H D' s r => h σ S A H _ s ⟨fun σ' S' A' H' Γ' M' s' t' q => q σ' S' A' H' D' t' (r.after s'), r.rt, r.bk, r.ct⟩
theorem S_pass (h : D.nx Γ M) : AS X b (.Pass pos) Γ M D := AS.of ps_pass fun σ S A H D' s r => r.nx σ S A H Γ M (Step.refl _ _ _) s h
theorem S_break (h : D.bk Γ M) : AS X b (.Break pos) Γ M D := AS.of ps_break fun σ S A H D' s r => r.bk σ S A H Γ M (Step.refl _ _ _) s h
theorem S_continue (h : D.ct Γ M) : AS X b (.Continue pos) Γ M D := AS.of ps_continue fun σ S A H D' s r => r.ct σ S A H Γ M (Step.refl _ _ _) s h
theorem S_ret (h : AE X b e Γ M fun d M1 => D.rt d M1) : AS X b (.Return (some e) pos) Γ M D := AS.of (ps_ret pe_tW) fun σ S A H D' s r => h σ S A H _ s fun v d M1 S1 A1 H1 s1 st1 r1 q => r.rt σ S1 A1 H1 Γ M1 v d s1 st1 r1 q
theorem S_retN (h : D.rt .non M) : AS X b (.Return none pos) Γ M D := AS.of ps_retN fun σ S A H D' s r => r.rt σ S A H Γ M _ _ (Step.refl _ _ _) s .non h
theorem S_if {b1 b2 : List Stmt} (h : AT X b c Γ M fun k M1 => (k = true → ASs X b b1 Γ M1 D) ∧ (k = false → ASs X b b2 Γ M1 D)) : AS X b (.If c b1 b2 pos) Γ M D :=
  AS.of (ps_if pt_tW pss_tW pss_tW) fun σ S A H D' s r => h σ S A H _ s fun k M1 S1 A1 H1 s1 st1 ⟨q1, q2⟩ => by
    cases k with
    | true => exact q1 rfl σ S1 A1 H1 D' st1 (r.after s1)
    | false => exact q2 rfl σ S1 A1 H1 D' st1 (r.after s1)
theorem S_expr (h : AE X b e Γ M fun _ M1 => D.nx Γ M1) (hs : swapsWith e none pos.line X.env = pure false := by rfl) : AS X b (.Expr e pos) Γ M D :=
  AS.of (ps_expr pe_tW hs) fun σ S A H D' s r => h σ S A H _ s fun v d M1 S1 A1 H1 s1 st1 r1 q => r.nx σ S1 A1 H1 Γ M1 s1 st1 q
theorem S_set (i : Nat) {x : Str} {p2 : Pos} (hN : X.N.Nodup) (hi : X.N[i]? = some x) (hx : Loc X.env.scope x) (h : AE X b e Γ M fun d M1 => D.nx (Γ.set i (some d)) M1) (hs : swapsWith e (some (.Name x p2)) pos.line X.env = pure false := by rfl)
    (hf : X.fn x = true ∨ X.env.scope.names.lookup x = some .local := by first | exact .inl rfl | exact .inr rfl | assumption) : AS X b (.Assign [.Name x p2] e pos) Γ M D :=
  AS.of (ps_set hN hi hx pe_tW hs hf) fun σ S A H D' s r => h σ S A H _ s fun v d M1 S1 A1 H1 s1 st1 r1 q => r.nx _ S1 A1 H1 _ M1 s1 (st1.set r1) q
theorem S_par2 (i j : Nat) {x y : Str} {px py pt p2 : Pos} {kt k2 : Nat} (hc : X.calm = true) (hN : X.N.Nodup) (hi : X.N[i]? = some x) (hj : X.N[j]? = some y) (hij : i ≠ j) (hx : X.env.scope.names.lookup x = some .local) (hy : X.env.scope.names.lookup y = some .local)
    (hw : swappedStores [.Tuple [.Name x px, .Name y py] kt pt] (.Tuple [e1, e2] k2 p2) X.env = pure (some [x, y])) (h : AE X b e1 Γ M fun d1 M1 => AE X b e2 Γ M1 fun d2 M2 => D.nx ((Γ.set i (some d1)).set j (some d2)) M2)
    (ha1 : starEach [e1, e2] X.env = (false, eval e1 X.env) :: starEach [e2] X.env := by rfl) (ha2 : starEach [e2] X.env = (false, eval e2 X.env) :: starEach [] X.env := by rfl)
    (hs : swapsWithSole [.Tuple [.Name x px, .Name y py] kt pt] (.Tuple [e1, e2] k2 p2) pos.line X.env = pure false := by rfl) : AS X b (.Assign [.Tuple [.Name x px, .Name y py] kt pt] (.Tuple [e1, e2] k2 p2) pos) Γ M D :=
  AS.of (ps_par hc hN hi hj hij hx hy (pa_cons pe_tW (pa_cons pe_tW pa_nil ha2) ha1) hw hs) fun σ S A H D' s r => h σ S A H _ s fun v1 d1 M1 S1 A1 H1 s1 st1 r1 q => q σ S1 A1 H1 _ st1 fun v2 d2 M2 S2 A2 H2 s2 st2 r2 q2 =>
    ⟨v1, v2, rfl, r.nx _ S2 A2 H2 _ M2 (s1.trans s2) ((st2.set (r1.mono s2.s s2.a)).set r2) q2⟩
theorem S_par3 (i j l : Nat) {x y z : Str} {px py pz pt p2 : Pos} {kt k2 : Nat} (hc : X.calm = true) (hN : X.N.Nodup) (hi : X.N[i]? = some x) (hj : X.N[j]? = some y) (hl : X.N[l]? = some z) (hij : i ≠ j) (hil : i ≠ l) (hjl : j ≠ l) (hx : X.env.scope.names.lookup x = some .local) (hy : X.env.scope.names.lookup y = some .local) (hz : X.env.scope.names.lookup z = some .local)
    (hw : swappedStores [.Tuple [.Name x px, .Name y py, .Name z pz] kt pt] (.Tuple [e1, e2, e3] k2 p2) X.env = pure (some [x, y, z])) (h : AE X b e1 Γ M fun d1 M1 => AE X b e2 Γ M1 fun d2 M2 => AE X b e3 Γ M2 fun d3 M3 => D.nx (((Γ.set i (some d1)).set j (some d2)).set l (some d3)) M3)
    (ha1 : starEach [e1, e2, e3] X.env = (false, eval e1 X.env) :: starEach [e2, e3] X.env := by rfl) (ha2 : starEach [e2, e3] X.env = (false, eval e2 X.env) :: starEach [e3] X.env := by rfl) (ha3 : starEach [e3] X.env = (false, eval e3 X.env) :: starEach [] X.env := by rfl)
    (hs : swapsWithSole [.Tuple [.Name x px, .Name y py, .Name z pz] kt pt] (.Tuple [e1, e2, e3] k2 p2) pos.line X.env = pure false := by rfl) : AS X b (.Assign [.Tuple [.Name x px, .Name y py, .Name z pz] kt pt] (.Tuple [e1, e2, e3] k2 p2) pos) Γ M D :=
  AS.of (ps_par3 hc hN hi hj hl hij hil hjl hx hy hz (pa_cons pe_tW (pa_cons pe_tW (pa_cons pe_tW pa_nil ha3) ha2) ha1) hw hs) fun σ S A H D' s r => h σ S A H _ s fun v1 d1 M1 S1 A1 H1 s1 st1 r1 q => q σ S1 A1 H1 _ st1 fun v2 d2 M2 S2 A2 H2 s2 st2 r2 q2 => q2 σ S2 A2 H2 _ st2 fun v3 d3 M3 S3 A3 H3 s3 st3 r3 q3 =>
    ⟨v1, v2, v3, rfl, r.nx _ S3 A3 H3 _ M3 ((s1.trans s2).trans s3) (((st3.set ((r1.mono s2.s s2.a).mono s3.s s3.a)).set (r2.mono s3.s s3.a)).set r3) q3⟩

/-! ### targets -/
def GV (K : PySem.W.Frag) (b : Bas) (g : TG) (d : Dat) (Γ : Gam) (M : Mem) (R : Gam → Mem → Prop) : Prop :=
  ∀ σ S A H v Q, Stt K b σ S A H Γ M → Rep K S A d v → (∀ σ' S' A' H' Γ' M', Step S A H S' A' H' → Stt K b σ' S' A' H' Γ' M' → R Γ' M' → Q σ' H') → g v σ H Q
def GVs (K : PySem.W.Frag) (b : Bas) (g : TGs) (ds : List Dat) (Γ : Gam) (M : Mem) (R : Gam → Mem → Prop) : Prop :=
  ∀ σ S A H vs Q, Stt K b σ S A H Γ M → Reps K S A ds vs → (∀ σ' S' A' H' Γ' M', Step S A H S' A' H' → Stt K b σ' S' A' H' Γ' M' → R Γ' M' → Q σ' H') → g vs σ H Q
def AG (X : Cx) (b : Bas) (tg : Expr) (d : Dat) (Γ : Gam) (M : Mem) (R : Gam → Mem → Prop) : Prop := ∃ g, PG X tg g ∧ GV X.K b g d Γ M R
def AGs (X : Cx) (b : Bas) (tgs : List Expr) (ds : List Dat) (Γ : Gam) (M : Mem) (R : Gam → Mem → Prop) : Prop := ∃ g, PGs X tgs g ∧ GVs X.K b g ds Γ M R
variable {R : Gam → Mem → Prop} {d : Dat} {ds : List Dat} {tg : Expr} {tgs : List Expr}
/-- the weakest readings of targets -/
def tWG (X : Cx) (tg : Expr) : TG := fun v σ H Q => ∃ g, PG X tg g ∧ g v σ H Q
theorem pg_tW : PG X tg (tWG X tg) := ⟨fun pins s σ H v u Q I r ⟨g, hg, h⟩ => hg.run pins s σ H v u Q I r h⟩
def tWGs (X : Cx) (tgs : List Expr) : TGs := fun v σ H Q => ∃ g, PGs X tgs g ∧ g v σ H Q
theorem pgs_tW : PGs X tgs (tWGs X tgs) := ⟨fun pins s σ H v u Q I r ⟨g, hg, h⟩ => hg.run pins s σ H v u Q I r h⟩
theorem AG.gv (h : AG X b tg d Γ M R) : GV X.K b (tWG X tg) d Γ M R := fun σ S A H v Q st r k => by
  obtain ⟨g, hg, hv⟩ := h
  exact ⟨g, hg, hv σ S A H v Q st r k⟩
theorem AGs.gv (h : AGs X b tgs ds Γ M R) : GVs X.K b (tWGs X tgs) ds Γ M R := fun σ S A H v Q st r k => by
  obtain ⟨g, hg, hv⟩ := h
  exact ⟨g, hg, hv σ S A H v Q st r k⟩
theorem G_name (i : Nat) {x : Str} (hN : X.N.Nodup) (hi : X.N[i]? = some x) (hx : Loc X.env.scope x) (h : R (Γ.set i (some d)) M) (hf : X.fn x = true ∨ X.env.scope.names.lookup x = some .local := by first | exact .inl rfl | exact .inr rfl | assumption) : AG X b (.Name x pos) d Γ M R :=
  ⟨_, pg_name hN hi hx hf, fun σ S A H v Q st r k => k _ S A H _ M (Step.refl _ _ _) (st.set r) h⟩
theorem G_nil (h : R Γ M) : AGs X b [] [] Γ M R := ⟨_, pgs_nil, fun σ S A H v Q st r k => by
  cases r
  exact ⟨rfl, k σ S A H Γ M (Step.refl _ _ _) st h⟩⟩
theorem G_cons (h : AG X b tg d Γ M fun Γ1 M1 => AGs X b tgs ds Γ1 M1 R) (hs : (assignEach (tg :: tgs) X.env).map (·.2) = assign tg X.env :: (assignEach tgs X.env).map (·.2) := by rfl) : AGs X b (tg :: tgs) (d :: ds) Γ M R :=
  ⟨_, pgs_cons pg_tW pgs_tW hs, fun σ S A H v Q st r k => by
    cases r with
    | cons r1 rr => exact ⟨_, _, rfl, h.gv σ S A H _ _ st r1 fun σ1 S1 A1 H1 Γ1 M1 s1 st1 q => AGs.gv q σ1 S1 A1 H1 _ Q st1 (rr.mono s1.s s1.a) fun σ2 S2 A2 H2 Γ2 M2 s2 st2 q2 => k σ2 S2 A2 H2 Γ2 M2 (s1.trans s2) st2 q2⟩⟩
theorem G_tup {k : Nat} (hc : X.calm = true) (h : AGs X b tgs ds Γ M R) (hn : (assignEach tgs X.env).length = ds.length := by rfl) (hst : (assignEach tgs X.env).findIdx? (·.1) = none := by rfl) : AG X b (.Tuple tgs k pos) (.tup ds) Γ M R :=
  ⟨_, pg_tup hc pgs_tW hn hst, fun σ S A H v Q st r k => by
    obtain ⟨x, us, ev, g, q1⟩ := (IsT.tup ds).at st r
    exact ⟨x, us, ev, g, q1.length.symm, h.gv σ S A H us Q st q1 k⟩⟩
theorem S_asg (h : AE X b e Γ M fun d M1 => AG X b tg d Γ M1 fun Γ' M' => D.nx Γ' M') (hs : swapsWithSole [tg] e pos.line X.env = pure false := by rfl) (hw : swappedStores [tg] e X.env = pure none := by rfl)
    (h1 : (assignEach [tg] X.env).map (·.2) = [assign tg X.env] := by rfl) : AS X b (.Assign [tg] e pos) Γ M D :=
  AS.of (ps_asg pe_tW pg_tW hs hw h1) fun σ S A H D' s r => h σ S A H _ s fun v d M1 S1 A1 H1 s1 st1 r1 q => AG.gv q σ S1 A1 H1 v _ st1 r1 fun σ2 S2 A2 H2 Γ2 M2 s2 st2 q2 => r.nx σ2 S2 A2 H2 Γ2 M2 (s1.trans s2) st2 q2
/-- xs[i] = v, a list that is ours -/
theorem G_subL {o i : Expr} (h : AE X b o Γ M fun d1 M1 => AE X b i Γ M1 fun d2 M2 => ∃ k ds n j, d1 = .ptr k ∧ M2[k]? = some (.lst ds) ∧ d2 = .int n ∧ ixN ds.length n = some j ∧ R Γ (M2.set k (.lst (ds.set j d))))
    (ha : ∀ v, assign (.Subscript o i pos) X.env v = (do
      let ov ← holding [v] (eval o X.env)
      let iv ← holding [v, ov] (eval i X.env)
      standAt pos
      holding [v, ov, iv] (setItem ov iv v)
      release [v, ov, iv] []) := by intro _; rfl) : AG X b (.Subscript o i pos) d Γ M R :=
  ⟨_, pg_sub pe_tW pe_tW set_list ha, fun σ S A H v Q st r k => h σ S A H _ st fun v1 d1 M1 S1 A1 H1 s1 st1 r1 h1 => h1 σ S1 A1 H1 _ st1 fun v2 d2 M2 S2 A2 H2 s2 st2 r2 h2 => by
    obtain ⟨kk, ds, n, j, z1, hM, z2, hj, q⟩ := h2
    subst z1 z2
    cases r2
    cases r1.mono s2.s s2.a with
    | ptr hA =>
      obtain ⟨us, hx, q1⟩ := st2.cell _ _ _ hA hM
      have rv := (r.mono s1.s s1.a).mono s2.s s2.a
      obtain ⟨s3, st3⟩ := st2.write (o := .lst (us.set j v)) (c := .lst (ds.set j d)) hA hM (fun z => nomatch z) ⟨_, upd_same, q1.set rv j⟩
      exact ⟨_, us, n, j, rfl, rfl, hx, by rw [← q1.length]; exact hj, k σ S2 A2 _ Γ _ ((s1.trans s2).trans s3) st3 q⟩⟩

/-! ### x op= e -/
theorem S_aug (i : Nat) {x : Str} {p2 : Pos} {op : Operator} {tip : TIp} {d0 : Dat} (hN : X.N.Nodup) (hi : X.N[i]? = some x) (hx : Loc X.env.scope x) (hΓ : Γ[i]? = some (some d0)) (ho : PIp X op tip)
    (h : AE X b e Γ M fun d M1 => OpD X.K b tip d0 d Γ M1 fun d' M2 => D.nx (Γ.set i (some d')) M2) (hf : X.fn x = true ∨ X.env.scope.names.lookup x = some .local := by first | exact .inl rfl | exact .inr rfl | assumption) : AS X b (.AugAssign (.Name x p2) op e pos) Γ M D :=
  AS.of (ps_aug hN hi hx pe_tW ho hf) fun σ S A H D' s r => by
    obtain ⟨v0, h1, r0⟩ := s.env.2 i d0 hΓ
    exact ⟨v0, h1, h σ S A H _ s fun v d M1 S1 A1 H1 s1 st1 r1 q => q σ S1 A1 H1 v0 v _ st1 (r0.mono s1.s s1.a) r1 fun v2 d2 M2 S2 A2 H2 s2 st2 r2 q2 => r.nx _ S2 A2 H2 _ M2 (s1.trans s2) (st2.set r2) q2⟩
theorem opd_ip {f : Int → Int → Int} {i j : Int} {R : Dat → Mem → Prop} (h : R (.int (f i j)) M) : OpD K b (ipI f) (.int i) (.int j) Γ M R := fun σ S A H v1 v2 Q st r1 r2 p => by
  cases r1; cases r2
  exact ⟨i, j, rfl, rfl, p.here st (.int _) h⟩
theorem S_augAdd (i : Nat) {x : Str} {p2 : Pos} (hN : X.N.Nodup) (hi : X.N[i]? = some x) (hx : Loc X.env.scope x) {n : Int} (hΓ : Γ[i]? = some (some (.int n))) (h : AE X b e Γ M fun d M1 => ∃ j, d = .int j ∧ D.nx (Γ.set i (some (.int (n + j)))) M1)
    (hf : X.fn x = true ∨ X.env.scope.names.lookup x = some .local := by first | exact .inl rfl | exact .inr rfl | assumption) : AS X b (.AugAssign (.Name x p2) .Add e pos) Γ M D :=
  S_aug i hN hi hx hΓ ip_add (h.imp fun d M1 ⟨j, e, q⟩ => by subst e; exact opd_ip q) hf
theorem S_augSub (i : Nat) {x : Str} {p2 : Pos} (hN : X.N.Nodup) (hi : X.N[i]? = some x) (hx : Loc X.env.scope x) {n : Int} (hΓ : Γ[i]? = some (some (.int n))) (h : AE X b e Γ M fun d M1 => ∃ j, d = .int j ∧ D.nx (Γ.set i (some (.int (n - j)))) M1)
    (hf : X.fn x = true ∨ X.env.scope.names.lookup x = some .local := by first | exact .inl rfl | exact .inr rfl | assumption) : AS X b (.AugAssign (.Name x p2) .Sub e pos) Γ M D :=
  S_aug i hN hi hx hΓ ip_sub (h.imp fun d M1 ⟨j, e, q⟩ => by subst e; exact opd_ip q) hf

/-! ### while -/
theorem S_while {body : List Stmt} (hp : PassesOwn (model X.prog X.w) X.A X.env X.xe) (W : Nat → Gam → Mem → Prop) (m0 : Nat) (h0 : W m0 Γ M)
    (hs : ∀ m Γ' M', W m Γ' M' → AT X b c Γ' M' fun k M1 => (k = true → ASs X b body Γ' M1 { D with nx := fun Γ2 M2 => ∃ m', m' < m ∧ W m' Γ2 M2, ct := fun Γ2 M2 => ∃ m', m' < m ∧ W m' Γ2 M2, bk := D.nx }) ∧ (k = false → D.nx Γ' M1)) : AS X b (.While c body [] pos) Γ M D :=
  AS.of (ps_while hp pt_tW pss_tW) fun σ S A H D' s r => by
    refine ⟨fun m σ' H' => ∃ S' A' Γ' M', Step S A H S' A' H' ∧ Stt X.K b σ' S' A' H' Γ' M' ∧ W m Γ' M', ⟨m0, S, A, Γ, M, Step.refl _ _ _, s, h0⟩, ?_⟩
    rintro m σ' H' ⟨S', A', Γ', M', s1, st1, hw⟩
    refine hs m Γ' M' hw σ' S' A' H' _ st1 fun k M1 S2 A2 H2 s2 st2 ⟨q1, q2⟩ => ?_
    cases k with
    | true =>
      refine iteT ⟨fun σ3 H3 => ∃ m', m' < m ∧ ∃ S' A' Γ' M', Step S A H S' A' H3 ∧ Stt X.K b σ3 S' A' H3 Γ' M' ∧ W m' Γ' M', fun σ3 H3 q => q, ?_⟩
      have r2 := r.after (s1.trans s2)
      refine q1 rfl σ' S2 A2 H2 _ st2 ⟨fun σ3 S3 A3 H3 Γ3 M3 s3 t3 q => ?_, r2.rt, fun σ3 S3 A3 H3 Γ3 M3 s3 t3 q => r2.nx σ3 S3 A3 H3 Γ3 M3 s3 t3 q, fun σ3 S3 A3 H3 Γ3 M3 s3 t3 q => ?_⟩
      · obtain ⟨m', hm, w'⟩ := q
        exact ⟨m', hm, S3, A3, Γ3, M3, (s1.trans s2).trans s3, t3, w'⟩
      · obtain ⟨m', hm, w'⟩ := q
        exact ⟨m', hm, S3, A3, Γ3, M3, (s1.trans s2).trans s3, t3, w'⟩
    | false => exact iteF (r.nx σ' S2 A2 H2 Γ' M1 (s1.trans s2) st2 (q2 rfl))
/-- a ghost step: a list cell is given up -/
theorem S_freeze (k : Nat) {ds : List Dat} (hM : M[k]? = some (.lst ds)) (h : ASs X b sts (frzG k ds Γ) (M.set k .dead) D) : ASs X b sts Γ M D := fun σ S A H D' s r => by
  obtain ⟨x, xs, _, _, _, s1, st1, _⟩ := s.freeze hM
  exact h σ _ A H D' st1 (r.after s1)
theorem S_fewer {Γ' : Gam} (f : Fewer Γ Γ') (h : ASs X b sts Γ' M D) : ASs X b sts Γ M D := fun σ S A H D' s r => h σ S A H D' (s.fewer f) r
end
end Ab
end

section
set_option Elab.async false
set_option linter.all false
set_option maxRecDepth 100000
set_option maxHeartbeats 4000000
namespace Ab
open PySem L2

/-! ### an untracked list of ours changes (a comprehension's) -/
theorem Step.other {S S' : Hp} {A A' : List Addr} {H H' : Hp} {p : Addr} {o : HO} (s : Step S A H S' A' H') (hp : H p = none) (hx : ∃ u, H' p = some u) : Step S A H S' A' (upd H' p o) :=
  ⟨s.s, s.a, fun x u e n => by
    rw [upd_ne (ne_of_none e hp)]
    exact s.keep x u e n, s.newS, s.newA, fun x u e => by
    rw [upd_ne (ne_of_none e hp)]
    exact s.dom x u e⟩
theorem Step.otherNew {S S' : Hp} {A A' : List Addr} {H H' : Hp} {p : Addr} {o : HO} (s : Step S A H S' A' H') (hp : H' p = none) : Step S A H S' A' (upd H' p o) :=
  ⟨s.s, s.a, fun x u e n => by
    rw [upd_ne (ne_of_none (s.keep x u e n) hp)]
    exact s.keep x u e n, s.newS, s.newA, fun x u e => by
    obtain ⟨u', q⟩ := s.dom x u e
    exact ⟨u', by rw [upd_ne (ne_of_none q hp)]; exact q⟩⟩
theorem Stt.other {K : PySem.W.Frag} {b : Bas} {σ : L2.St} {S : Hp} {A : List Addr} {H : Hp} {Γ : Gam} {M : Mem} {p : Addr} {o : HO} (h : Stt K b σ S A H Γ M) (hb : b.H p = none) (hS : S p = none) (hA : p ∉ A) (hp : H p = none ∨ ∃ u, H p = some u) : Stt K b σ S A (upd H p o) Γ M := by
  have base : Step b.S b.A b.H S A (upd H p o) := by
    rcases hp with q | q
    · exact h.base.otherNew q
    · exact h.base.other hb q
  exact ⟨base, fun x u e => by
    rw [upd_ne (ne_of_none e hS)]
    exact h.sub x u e, h.nd, h.len, h.own, fun k x c h1 h2 => (h.cell k x c h1 h2).mono (Same.refl S) List.prefix_rfl fun u e => by
    have ne : x ≠ p := fun z => hA (by rw [← z]; exact List.mem_of_getElem? h1)
    rw [upd_ne ne]
    exact e, h.env⟩
/-- an untracked object of ours becomes stable -/
theorem Step.adopt {S S' : Hp} {A A' : List Addr} {H H' : Hp} {p : Addr} {o : HO} (s : Step S A H S' A' H') (hp : H p = none) (hS : S' p = none) : Step S A H (upd S' p o) A' H' :=
  ⟨fun x u e => by
    have e' := s.s x u e
    rw [upd_ne (ne_of_none e' hS)]
    exact e', s.a, s.keep, fun x u e => by
    by_cases hx : x = p
    · subst hx
      exact .inr (.inl hp)
    · rw [upd_ne hx] at e
      exact s.newS x u e, s.newA, s.dom⟩
theorem Stt.adopt {K : PySem.W.Frag} {b : Bas} {σ : L2.St} {S : Hp} {A : List Addr} {H : Hp} {Γ : Gam} {M : Mem} {p : Addr} {o : HO} (h : Stt K b σ S A H Γ M) (hb : b.H p = none) (hS : S p = none) (hA : p ∉ A) (hp : H p = some o) : Stt K b σ (upd S p o) A H Γ M := by
  have sS : Same S (upd S p o) := fun x u e => by
    rw [upd_ne (ne_of_none e hS)]
    exact e
  refine ⟨h.base.adopt hb hS, fun x u e => ?_, h.nd, h.len, fun k x c h1 h2 h3 => ?_, fun k x c h1 h2 => (h.cell k x c h1 h2).mono sS List.prefix_rfl fun _ e => e, h.env.mono sS List.prefix_rfl⟩
  · by_cases hx : x = p
    · subst hx
      rw [upd_same] at e
      exact hp.trans e
    · rw [upd_ne hx] at e
      exact h.sub x u e
  · have ne : x ≠ p := fun z => hA (by rw [← z]; exact List.mem_of_getElem? h1)
    rw [upd_ne ne]
    exact h.own k x c h1 h2 h3
theorem Step.adoptC {S S' : Hp} {A A' : List Addr} {H H' : Hp} {p : Addr} (s : Step S A H S' A' H') (hp : H p = none) : Step S A H S' (A' ++ [p]) H' :=
  ⟨s.s, s.a.trans (List.prefix_append _ _), s.keep, s.newS, fun x hx => by
    rcases List.mem_append.mp hx with q | q
    · exact s.newA x q
    · have e : x = p := by simpa using q
      subst e
      exact .inr hp, s.dom⟩
theorem Stt.adoptC {K : PySem.W.Frag} {b : Bas} {σ : L2.St} {S : Hp} {A : List Addr} {H : Hp} {Γ : Gam} {M : Mem} {p : Addr} {xs : List V} {ds : List Dat} (h : Stt K b σ S A H Γ M) (hb : b.H p = none) (hS : S p = none) (hA : p ∉ A) (hp : H p = some (.lst xs)) (hr : Reps K S A ds xs) :
    Stt K b σ S (A ++ [p]) H Γ (M ++ [.lst ds]) := by
  have pr : A <+: A ++ [p] := List.prefix_append _ _
  have last : ∀ {k : Nat} {x : Addr}, (A ++ [p])[k]? = some x → ¬ k < A.length → k - A.length = 0 ∧ p = x := fun {k x} h1 hk => by
    rw [List.getElem?_append_right (by omega)] at h1
    have hk0 : k - A.length = 0 := by
      have := (List.getElem?_eq_some_iff.mp h1).1
      simp at this
      omega
    rw [hk0] at h1
    exact ⟨hk0, Option.some.inj h1⟩
  refine ⟨h.base.adoptC hb, h.sub, ?_, by rw [List.length_append, List.length_append, h.len] <;> rfl, fun k x c h1 h2 h3 => ?_, fun k x c h1 h2 => ?_, h.env.mono (Same.refl S) pr⟩
  · rw [List.nodup_append]
    refine ⟨h.nd, by simp, fun a ha c hc => ?_⟩
    have e : c = p := by simpa using hc
    subst e
    exact fun z => hA (by rw [← z]; exact ha)
  · by_cases hk : k < A.length
    · rw [List.getElem?_append_left hk] at h1
      rw [List.getElem?_append_left (by rw [← h.len]; exact hk)] at h2
      exact h.own k x c h1 h2 h3
    · obtain ⟨_, e⟩ := last h1 hk
      subst e
      exact hS
  · by_cases hk : k < A.length
    · rw [List.getElem?_append_left hk] at h1
      rw [List.getElem?_append_left (by rw [← h.len]; exact hk)] at h2
      exact (h.cell k x c h1 h2).mono (Same.refl S) pr fun _ e => e
    · obtain ⟨hk0, e⟩ := last h1 hk
      subst e
      rw [List.getElem?_append_right (by rw [← h.len]; omega), ← h.len, hk0] at h2
      have e2 : Cel.lst ds = c := Option.some.inj h2
      subst e2
      exact ⟨xs, hp, hr.mono (Same.refl S) pr⟩

/-! ### what is walked, by data -/
/-- a walked thing gives the data ds, as long as Gm holds of the memory -/
structure Gives (K : PySem.W.Frag) (b : Bas) (S : Hp) (A : List Addr) (H : Hp) (J : It) (ds : List Dat) (Gm : Mem → Prop) : Prop where
  ex : ∃ (G : Hp → Prop) (Y : Nat → Hp → V → Hp → Prop), Walk J ds.length G Y ∧
    (∀ σ S2 A2 H2 Γ2 M2, Step S A H S2 A2 H2 → Stt K b σ S2 A2 H2 Γ2 M2 → Gm M2 → G H2) ∧
    (∀ σ S2 A2 H2 Γ2 M2 i x H3, Step S A H S2 A2 H2 → Stt K b σ S2 A2 H2 Γ2 M2 → Gm M2 → i < ds.length → Y i H2 x H3 → ∃ S3 d, ds[i]? = some d ∧ Step S2 A2 H2 S3 A2 H3 ∧ Stt K b σ S3 A2 H3 Γ2 M2 ∧ Rep K S3 A2 d x)
  stays : ∀ p, H p = none → ∀ (u : List V), True
def IV (K : PySem.W.Frag) (b : Bas) (wi : TI) (Γ : Gam) (M : Mem) (R : List Dat → (Mem → Prop) → Mem → Prop) : Prop :=
  ∀ σ S A H Rw, Stt K b σ S A H Γ M → (∀ J ds Gm M' S' A' H', Step S A H S' A' H' → Stt K b σ S' A' H' Γ M' → Gives K b S' A' H' J ds Gm → R ds Gm M' → Rw J H') → wi σ H Rw
def AI (X : Cx) (b : Bas) (tg iter : Expr) (Γ : Gam) (M : Mem) (R : List Dat → (Mem → Prop) → Mem → Prop) : Prop := ∃ wi, PI X tg iter wi ∧ IV X.K b wi Γ M R

/-! ### lists that are read while their cell stands: by what they hold at each turn -/
def YLst (K : PySem.W.Frag) (a : Addr) : Nat → Hp → V → Hp → Prop := fun i H x H' => H' = H ∧ ∀ xs, SqL K H a xs → xs[i]? = some x
theorem walk_listE {K : PySem.W.Frag} {a : Addr} {n : Nat} : Walk (Itl K a) n (fun H => ∃ xs, SqL K H a xs ∧ xs.length = n) (YLst K a) :=
  ⟨fun i H hi ⟨xs, q, hl⟩ => ⟨xs, xs[i], q, by simp [hl, hi]⟩, fun H ⟨xs, q, hl⟩ => ⟨xs, q, by omega⟩, fun i H x H' hi ⟨xs, q, hl⟩ y => y⟩
section
variable {K : PySem.W.Frag} {b : Bas} {σ : L2.St} {S : Hp} {A : List Addr} {H : Hp} {Γ : Gam} {M : Mem} {d : Dat} {ds : List Dat} {v : V}
/-- what the memory must say for a list to be still read as ds -/
def GmOf : Dat → List Dat → Mem → Prop
  | .ptr k, ds, M => M[k]? = some (.lst ds)
  | _, _, _ => True
theorem gives_list (i : IsR M d ds) (st : Stt K b σ S A H Γ M) (r : Rep K S A d v) : ∃ a, v = .ref a ∧ (∃ xs, SqL K H a xs) ∧ Gives K b S A H (Itl K a) ds (GmOf d ds) := by
  obtain ⟨a, xs, ev, g, q⟩ := i.at st r
  subst ev
  refine ⟨a, rfl, ⟨xs, g⟩, ⟨⟨_, _, walk_listE, fun σ2 S2 A2 H2 Γ2 M2 s2 st2 hG => ?_, fun σ2 S2 A2 H2 Γ2 M2 i' x H3 s2 st2 hG hi hY => ?_⟩, fun _ _ _ => trivial⟩⟩
  all_goals
    have i2 : IsR M2 d ds := by
      cases i with
      | l il =>
        cases il with
        | lst => exact .l (.lst ds)
        | ptr hM => exact .l (.ptr hG)
      | rol => exact .rol ds
    obtain ⟨a2, xs2, ev2, g2, q2⟩ := i2.at st2 (r.mono s2.s s2.a)
    have ea : a = a2 := V.ref.inj ev2
    subst ea
  · exact ⟨xs2, g2, q2.length.symm⟩
  · obtain ⟨e, hx⟩ := hY
    subst e
    obtain ⟨d', h1, h2⟩ := q2.get (hx _ g2)
    exact ⟨S2, d', h1, Step.refl _ _ _, st2, h2⟩
theorem gives_tup (st : Stt K b σ S A H Γ M) (r : Rep K S A (.tup ds) v) : ∃ a, v = .ref a ∧ (∃ xs, SqT K H a xs) ∧ Gives K b S A H (Itt K a) ds (fun _ => True) := by
  obtain ⟨a, xs, ev, g, q⟩ := (IsT.tup ds).at st r
  subst ev
  have hl := q.length
  cases r with
  | tup hS qS =>
    refine ⟨a, rfl, ⟨xs, g⟩, ⟨⟨fun H => SqT K H a _, _, by rw [qS.length]; exact walk_tup, fun σ2 S2 A2 H2 Γ2 M2 s2 st2 hG => Same.sqt st2.sub (Same.sqt s2.s hS), fun σ2 S2 A2 H2 Γ2 M2 i' x H3 s2 st2 hG hi hY => ?_⟩, fun _ _ _ => trivial⟩⟩
    obtain ⟨e, hx⟩ := hY
    subst e
    obtain ⟨d', h1, h2⟩ := (qS.mono s2.s s2.a).get hx
    exact ⟨S2, d', h1, Step.refl _ _ _, st2, h2⟩
theorem gives_fn {J : It} {n : Nat} {f : Nat → V} {g : Nat → Dat} (w : Walk J n (fun _ => True) (YFn f)) (hr : ∀ i S A, Rep K S A (g i) (f i)) : Gives K b S A H J ((List.range n).map g) (fun _ => True) := by
  refine ⟨⟨fun _ => True, YFn f, by rw [List.length_map, List.length_range]; exact w, fun _ _ _ _ _ _ _ _ _ => trivial, fun σ2 S2 A2 H2 Γ2 M2 i x H3 s2 st2 hG hi hY => ?_⟩, fun _ _ _ => trivial⟩
  obtain ⟨e, hx⟩ := hY
  subst e hx
  rw [List.length_map, List.length_range] at hi
  exact ⟨S2, g i, by rw [List.getElem?_map, List.getElem?_range hi]; rfl, Step.refl _ _ _, st2, hr i S2 A2⟩
end

/-! ### the forms of walked things -/
section
variable {X : Cx} {b : Bas} {Γ : Gam} {M : Mem} {e e1 e2 e3 tg : Expr} {pos : Pos} {R : List Dat → (Mem → Prop) → Mem → Prop}
theorem I_list (h : AE X b e Γ M fun d M1 => ∃ ds, IsR M1 d ds ∧ R ds (GmOf d ds) M1) : AI X b tg e Γ M R :=
  ⟨_, pi_list pe_tW, fun σ S A H Rw st k => h σ S A H _ st fun v d M1 S1 A1 H1 s1 st1 r1 ⟨ds, i, q⟩ => by
    obtain ⟨a, ev, hx, g⟩ := gives_list i st1 r1
    exact ⟨a, ev, hx, k _ ds _ M1 S1 A1 H1 s1 st1 g q⟩⟩
theorem I_tup (h : AE X b e Γ M fun d M1 => ∃ ds, d = .tup ds ∧ R ds (fun _ => True) M1) : AI X b tg e Γ M R :=
  ⟨_, pi_tup pe_tW, fun σ S A H Rw st k => h σ S A H _ st fun v d M1 S1 A1 H1 s1 st1 r1 ⟨ds, e, q⟩ => by
    subst e
    obtain ⟨a, ev, hx, g⟩ := gives_tup st1 r1
    exact ⟨a, ev, hx, k _ ds _ M1 S1 A1 H1 s1 st1 g q⟩⟩
theorem I_range1 {p : Pos} (hg : Gl X "range") (hm : X.mg "range" = none) (h : AE X b e Γ M fun d M1 => ∃ n : Int, d = .int n ∧ -(2 ^ 62) ≤ n ∧ n < 2 ^ 62 ∧ R ((List.range n.toNat).map fun i => .int (i : Nat)) (fun _ => True) M1) (hs : starEach [e] X.env = [(false, eval e X.env)] := by rfl) : AI X b tg (.Call (.Name "range" p) [e] [] pos) Γ M R :=
  ⟨_, pi_range1 hg hm (pa_cons pe_tW pa_nil hs) hs, fun σ S A H Rw st k => h σ S A H _ st fun v d M1 S1 A1 H1 s1 st1 r1 ⟨n, e, h1, h2, q⟩ => by
    subst e
    cases r1
    exact ⟨n, rfl, h1, h2, k _ _ _ M1 S1 A1 H1 s1 st1 (gives_fn (n := n.toNat) (f := fun i => .int (0 + (i : Nat))) walk_range fun i S A => by rw [Int.zero_add]; exact .int _) q⟩⟩
theorem I_range2 {p : Pos} (hg : Gl X "range") (hm : X.mg "range" = none) (h : AE X b e1 Γ M fun d1 M1 => AE X b e2 Γ M1 fun d2 M2 => ∃ i j : Int, d1 = .int i ∧ d2 = .int j ∧ (-(2 ^ 62) ≤ i ∧ i < 2 ^ 62 ∧ -(2 ^ 62) ≤ j ∧ j < 2 ^ 62) ∧ R ((List.range (j - i).toNat).map fun k => .int (i + (k : Nat))) (fun _ => True) M2)
    (hs : starEach [e1, e2] X.env = [(false, eval e1 X.env), (false, eval e2 X.env)] := by rfl) (hs2 : starEach [e2] X.env = [(false, eval e2 X.env)] := by rfl) : AI X b tg (.Call (.Name "range" p) [e1, e2] [] pos) Γ M R :=
  ⟨_, pi_range2 hg hm (pa_cons pe_tW (pa_cons pe_tW pa_nil hs2) (by rw [hs, hs2])) hs hs2, fun σ S A H Rw st k => h σ S A H _ st fun v d M1 S1 A1 H1 s1 st1 r1 h1 => h1 σ S1 A1 H1 _ st1 fun v2 d2 M2 S2 A2 H2 s2 st2 r2 h2 => by
    obtain ⟨i, j, z1, z2, z3, q⟩ := h2
    subst z1 z2
    cases r1
    cases r2
    exact ⟨i, j, rfl, z3, k _ _ _ M2 S2 A2 H2 (s1.trans s2) st2 (gives_fn (n := (j - i).toNat) (f := fun m => .int (i + (m : Nat))) walk_range fun m S A => .int _) q⟩⟩
end

/-! ### for -/
section
variable {X : Cx} {b : Bas} {Γ : Gam} {M : Mem} {D : AEnds} {e tg iter : Expr} {pos : Pos} {body : List Stmt}
theorem S_for (hp : PassesOwn (model X.prog X.w) X.A X.env X.xe) (hc : X.calm = true)
    (h : AI X b tg iter Γ M fun ds Gm M1 => ∃ Pv : Nat → Gam → Mem → Prop, Pv 0 Γ M1 ∧ (∀ i Γ' M', i ≤ ds.length → Pv i Γ' M' → Gm M') ∧
      (∀ i d Γ' M', ds[i]? = some d → Pv i Γ' M' → AG X b tg d Γ' M' fun Γ2 M2 => ASs X b body Γ2 M2 { D with nx := Pv (i + 1), ct := Pv (i + 1), bk := D.nx }) ∧ ∀ Γ' M', Pv ds.length Γ' M' → D.nx Γ' M')
    (hs : ∀ x, foldedSetIterable iter X.env x = pure x := by intro _; rfl) : AS X b (.For tg iter body [] pos) Γ M D := by
  obtain ⟨wi, hpi, hwi⟩ := h
  refine AS.of (ps_for hp hc hpi pg_tW pss_tW hs) fun σ S A H D' st r => ?_
  refine hwi σ S A H _ st fun J ds Gm M1 S1 A1 H1 s1 st1 gv hq => ?_
  obtain ⟨Pv, h0, hG, hstep, hd⟩ := hq
  obtain ⟨⟨G, Y, w, wG, wY⟩, _⟩ := gv
  refine for_it w (fun i σ' H' => ∃ S' A' Γ' M', Step S1 A1 H1 S' A' H' ∧ Stt X.K b σ' S' A' H' Γ' M' ∧ Pv i Γ' M') ⟨S1, A1, Γ, M1, Step.refl _ _ _, st1, h0⟩ ?_ ?_ ?_
  · rintro i σ' H' hi ⟨S', A', Γ', M', s', st', pv⟩
    exact wG σ' S' A' H' Γ' M' s' st' (hG i Γ' M' hi pv)
  · rintro i x σ' H' H3 hi ⟨S', A', Γ', M', s', st', pv⟩ hY
    obtain ⟨S3, d, hds, s3, st3, rd⟩ := wY σ' S' A' H' Γ' M' i x H3 s' st' (hG i Γ' M' (Nat.le_of_lt hi) pv) hi hY
    refine (hstep i d Γ' M' hds pv).gv σ' S3 A' H3 x _ st3 rd fun σ4 S4 A4 H4 Γ4 M4 s4 st4 q4 => ?_
    have sAll := (s'.trans s3).trans s4
    have r4 := r.after (s1.trans sAll)
    refine q4 σ4 S4 A4 H4 _ st4 ⟨fun σ5 S5 A5 H5 Γ5 M5 s5 st5 q => ⟨S5, A5, Γ5, M5, sAll.trans s5, st5, q⟩, r4.rt, fun σ5 S5 A5 H5 Γ5 M5 s5 st5 q => r4.nx σ5 S5 A5 H5 Γ5 M5 s5 st5 q, fun σ5 S5 A5 H5 Γ5 M5 s5 st5 q => ⟨S5, A5, Γ5, M5, sAll.trans s5, st5, q⟩⟩
  · rintro σ' H' ⟨S', A', Γ', M', s', st', pv⟩
    exact r.nx σ' S' A' H' Γ' M' (s1.trans s') st' (hd Γ' M' pv)
end

/-! ### list comprehensions -/
def wipeG (Γ : Gam) : List Nat → Gam
  | [] => Γ
  | v :: vs => (wipeG Γ vs).set v none
theorem Envs.none {K : PySem.W.Frag} {S : Hp} {A : List Addr} {σ : L2.St} {Γ : Gam} (h : Envs K S A σ Γ) (i : Nat) : Envs K S A (σ.set i none) (Γ.set i none) := by
  refine ⟨by rw [List.length_set, List.length_set]; exact h.1, fun j e q => ?_⟩
  by_cases hj : i = j
  · subst hj
    by_cases hi : i < Γ.length
    · rw [List.getElem?_set_self hi] at q
      cases q
    · rw [List.getElem?_eq_none (by rw [List.length_set]; omega)] at q
      cases q
  · rw [List.getElem?_set_ne hj] at q
    obtain ⟨v', h1, h2⟩ := h.2 j e q
    exact ⟨v', by rw [List.getElem?_set_ne hj]; exact h1, h2⟩
theorem Envs.wipe {K : PySem.W.Frag} {S : Hp} {A : List Addr} {σ : L2.St} {Γ : Gam} (h : Envs K S A σ Γ) : ∀ vs : List Nat, Envs K S A (wipe σ vs) (wipeG Γ vs)
  | [] => h
  | v :: vs => (Envs.wipe h vs).none v
theorem wipe_set_in {σ : L2.St} {x : Option V} : ∀ {vs : List Nat} {i : Nat}, i ∈ vs → wipe (σ.set i x) vs = wipe σ vs
  | v :: vs, i, hi => by
    unfold wipe
    by_cases hv : i ∈ vs
    · rw [wipe_set_in hv]
    · have e : i = v := by
        rcases List.mem_cons.mp hi with q | q
        · exact q
        · exact absurd q hv
      subst e
      have key : ∀ (us : List Nat) (τ : L2.St), i ∉ us → L2.wipe (τ.set i x) us = (L2.wipe τ us).set i x := by
        intro us
        induction us with
        | nil => intro τ _; rfl
        | cons u us ih =>
          intro τ hu
          simp only [List.mem_cons, not_or] at hu
          unfold L2.wipe
          rw [ih τ hu.2, List.set_comm _ _ hu.1]
      rw [key vs σ hv, List.set_set]
theorem wipe_wipe {σ : L2.St} : ∀ {us vs : List Nat}, (∀ u ∈ us, u ∈ vs) → wipe (wipe σ us) vs = wipe σ vs
  | [], vs, _ => rfl
  | u :: us, vs, h => by
    show wipe ((wipe σ us).set u none) vs = wipe σ vs
    rw [wipe_set_in (h u List.mem_cons_self)]
    exact wipe_wipe fun w hw => h w (List.mem_cons_of_mem _ hw)
/-- a comprehension's target: a name, or some names -/
inductive Tgt where
  | one (i : Nat)
  | tup (is : List Nat)
def gNames : List Nat → TGs
  | [] => gNil
  | i :: is => gCons (gName i) (gNames is)
def Tgt.g (K : PySem.W.Frag) : Tgt → TG
  | .one i => gName i
  | .tup is => gTup K is.length (gNames is)
def Tgt.slots : Tgt → List Nat
  | .one i => [i]
  | .tup is => is
def putAll : List Nat → List Dat → Gam → Gam
  | i :: is, d :: ds, Γ => putAll is ds (Γ.set i (some d))
  | _, _, Γ => Γ
/-- what the slots hold behind the target -/
inductive Tgt.Put : Tgt → Dat → Gam → Gam → Prop
  | one (i : Nat) (d : Dat) (Γ : Gam) : Tgt.Put (.one i) d Γ (Γ.set i (some d))
  | tup {is : List Nat} {ds : List Dat} {Γ : Gam} : ds.length = is.length → Tgt.Put (.tup is) (.tup ds) Γ (putAll is ds Γ)
def setAll : List Nat → List V → L2.St → L2.St
  | i :: is, d :: ds, Γ => setAll is ds (Γ.set i (some d))
  | _, _, Γ => Γ
theorem gNames_run : ∀ {is : List Nat} {vs : List V} {σ : L2.St} {H : Hp} {Q : L2.St → Hp → Prop}, vs.length = is.length → Q (setAll is vs σ) H → gNames is vs σ H Q
  | [], [], σ, H, Q, _, q => ⟨rfl, q⟩
  | i :: is, v :: vs, σ, H, Q, hl, q => ⟨v, vs, rfl, gNames_run (by simpa using hl) q⟩
theorem Envs.setAll {K : PySem.W.Frag} {S : Hp} {A : List Addr} : ∀ {is : List Nat} {ds : List Dat} {vs : List V} {σ : L2.St} {Γ : Gam}, Envs K S A σ Γ → Reps K S A ds vs → Envs K S A (Ab.setAll is vs σ) (putAll is ds Γ)
  | [], _, _, _, _, h, _ => by
    unfold Ab.setAll putAll
    exact h
  | i :: is, _, _, σ, Γ, h, .nil => by
    unfold Ab.setAll putAll
    exact h
  | i :: is, _, _, σ, Γ, h, .cons r t => by
    unfold Ab.setAll putAll
    exact Envs.setAll (h.set r) t
theorem wipe_setAll {us : List Nat} : ∀ {is : List Nat} {vs : List V} {σ : L2.St}, (∀ i ∈ is, i ∈ us) → wipe (setAll is vs σ) us = wipe σ us
  | [], vs, σ, _ => by unfold setAll; rfl
  | i :: is, [], σ, _ => by unfold setAll; rfl
  | i :: is, v :: vs, σ, h => by
    unfold setAll
    rw [wipe_setAll fun j hj => h j (List.mem_cons_of_mem _ hj), wipe_set_in (h i List.mem_cons_self)]
theorem Tgt.run {K : PySem.W.Frag} {b : Bas} {σ : L2.St} {S : Hp} {A : List Addr} {H : Hp} {Γ Γ' : Gam} {M : Mem} {t : Tgt} {d : Dat} {v : V} {vs : List Nat} {Q : L2.St → Hp → Prop} (p : t.Put d Γ Γ') (hs : ∀ i ∈ t.slots, i ∈ vs) (st : Stt K b σ S A H Γ M) (r : Rep K S A d v)
    (h : ∀ σ', Stt K b σ' S A H Γ' M → wipe σ' vs = wipe σ vs → Q σ' H) : t.g K v σ H Q := by
  cases p with
  | one i d Γ => exact h _ (st.set r) (wipe_set_in (hs i (by simp [Tgt.slots])))
  | @tup is ds Γ hl =>
    obtain ⟨a, us, ev, g, q⟩ := (IsT.tup ds).at st r
    subst ev
    refine ⟨a, us, rfl, g, by rw [← q.length]; exact hl, gNames_run (by rw [← q.length]; exact hl) ?_⟩
    exact h _ (st.withEnv (st.env.setAll q)) (wipe_setAll hs)

section
variable {X : Cx} {b : Bas} {Γ : Gam} {M : Mem} {R : Dat → Mem → Prop} {elt tg iter : Expr} {ifs : List Expr} {scope : Scope} {own : List (Str × Nat)} {pos : Pos}
/-- in each context of the block -/
def AEB (X : Cx) (b : Bas) (scope : Scope) (e : Expr) (Γ : Gam) (M : Mem) (R : Dat → Mem → Prop) : Prop := ∀ s H C cl fp, AE (X.blk s H scope (compEnvC scope cl C X.env) fp) b e Γ M R
def ATB (X : Cx) (b : Bas) (scope : Scope) (e : Expr) (Γ : Gam) (M : Mem) (R : Bool → Mem → Prop) : Prop := ∀ s H C cl fp, AT (X.blk s H scope (compEnvC scope cl C X.env) fp) b e Γ M R
/-- the tests: none, or one -/
def AIfs (X : Cx) (b : Bas) (scope : Scope) (ifs : List Expr) (Γ : Gam) (M : Mem) (R : Bool → Mem → Prop) : Prop := match ifs with
  | [] => R true M
  | [c] => ATB X b scope c Γ M R
  | _ => False
def tBlk (X : Cx) (scope : Scope) (e : Expr) : TE := fun σ H Q => ∀ s H0 C cl fp, tW (X.blk s H0 scope (compEnvC scope cl C X.env) fp) e σ H Q
def tBlkT (X : Cx) (scope : Scope) (ifs : List Expr) : TT := match ifs with
  | [c] => fun σ H Q => ∀ s H0 C cl fp, tWT (X.blk s H0 scope (compEnvC scope cl C X.env) fp) c σ H Q
  | [] => tYes
  | _ => fun _ _ _ => False
theorem pts_blk : ∀ {ifs : List Expr} (s : Shared) (H : Hp) (C : Addr) (cl : List (Str × Addr)) (fp : List Addr), PTs (X.blk s H scope (compEnvC scope cl C X.env) fp) ifs (tBlkT X scope ifs)
  | [], s, H, C, cl, fp => pts_nil
  | [c], s, H, C, cl, fp => pts_one ⟨fun pins s' σ H' Q I h => h s H C cl fp pins s' I⟩
  | _ :: _ :: _, s, H, C, cl, fp => ⟨fun pins s' σ H' Q I h => h.elim⟩
theorem aifs_ev : ∀ {ifs : List Expr} {Γ : Gam} {M : Mem} {RT : Bool → Mem → Prop}, AIfs X b scope ifs Γ M RT → ET X.K b (tBlkT X scope ifs) Γ M RT
  | [], Γ, M, RT, h => fun σ S A H Q st p => p true M S A H (Step.refl _ _ _) st h
  | [c], Γ, M, RT, h => fun σ S A H Q st p => fun s H0 C cl fp => h s H0 C cl fp σ S A H Q st p
  | _ :: _ :: _, Γ, M, RT, h => h.elim
/-- the comprehension's reading, its new list still untracked at D -/
theorem lc_run {wi : TI} {t : Tgt} {σ : L2.St} {S : Hp} {A : List Addr} {H : Hp} {Q : VK} {vs : List Nat} {RD : List Dat → Mem → Prop} (st : Stt X.K b σ S A H Γ M) (hsl : ∀ i ∈ t.slots, i ∈ vs)
    (h : IV X.K b wi Γ M fun ds Gm M1 => ∃ Pv : Nat → List Dat → Mem → Prop, Pv 0 [] M1 ∧ (∀ i acc M', i ≤ ds.length → Pv i acc M' → Gm M') ∧
      (∀ i d acc M', ds[i]? = some d → Pv i acc M' → ∃ Γ2, t.Put d (wipeG Γ vs) Γ2 ∧ AIfs X b scope ifs Γ2 M' fun k M2 => (k = true → AEB X b scope elt Γ2 M2 fun y M3 => acc.length < sizeLine ∧ Pv (i + 1) (acc ++ [y]) M3) ∧ (k = false → Pv (i + 1) acc M2)) ∧
      ∀ acc M', Pv ds.length acc M' → RD acc M')
    (hQ : ∀ p acc xs M' S' A' H', H p = none → Step S A H S' A' H' → Stt X.K b σ S' A' H' Γ M' → p ∉ A' → S' p = none → H' p = some (.lst xs) → Reps X.K S' A' acc xs → RD acc M' → Q (.ref p) H')
    (hz : ∀ acc M', RD acc M' → True) : tLc wi (t.g X.K) (tBlkT X scope ifs) (tBlk X scope elt) vs σ H Q := by
  refine h σ S A H _ st fun J ds Gm M1 S1 A1 H1 s1 st1 gv hq p hp => ?_
  obtain ⟨Pv, h0, hG, hstep, hd⟩ := hq
  obtain ⟨⟨G, Y, w, wG, wY⟩, _⟩ := gv
  have hp0 : H p = none := none_back s1.dom hp
  have hb : b.H p = none := none_back st1.base.dom hp
  refine lc_it w (fun i H' => ∃ S' A' M' acc xs, Step S1 A1 H1 S' A' H' ∧ Stt X.K b σ S' A' H' Γ M' ∧ p ∉ A' ∧ S' p = none ∧ H' p = some (.lst xs) ∧ Reps X.K S' A' acc xs ∧ Pv i acc M')
    ⟨S1, A1, M1, [], [], (Step.refl _ _ _).otherNew hp, st1.other hb (st1.freshS hp) (st1.notA hp) (.inl hp), st1.notA hp, st1.freshS hp, upd_same, .nil, h0⟩ ?_ ?_ ?_
  · rintro i H' hi ⟨S', A', M', acc, xs, s', st', n1, n2, hx, hr, pv⟩
    exact wG σ S' A' H' Γ M' s' st' (hG i acc M' hi pv)
  · rintro i x H' H3 hi ⟨S', A', M', acc, xs, s', st', n1, n2, hx, hr, pv⟩ hY
    obtain ⟨S3, d, hds, s3, st3, rd⟩ := wY σ S' A' H' Γ M' i x H3 s' st' (hG i acc M' (Nat.le_of_lt hi) pv) hi hY
    -- p is still apart
    have apart : ∀ {S4 : Hp} {A4 : List Addr} {H4 : Hp} {S5 : Hp} {A5 : List Addr} {H5 : Hp} {u : HO}, Step S4 A4 H4 S5 A5 H5 → p ∉ A4 → S4 p = none → H4 p = some u → p ∉ A5 ∧ S5 p = none ∧ H5 p = some u := fun {S4 A4 H4 S5 A5 H5 u} s m1 m2 m3 => by
      refine ⟨fun z => ?_, ?_, s.keep p u m3 m1⟩
      · rcases s.newA p z with q | q
        · exact m1 q
        · rw [m3] at q; cases q
      · cases e : S5 p with
        | none => rfl
        | some o =>
          rcases s.newS p o e with q | q | q
          · rw [m2] at q; cases q
          · rw [m3] at q; cases q
          · exact absurd q m1
    obtain ⟨k1, k2, k3⟩ := apart s3 n1 n2 hx
    obtain ⟨Γ2, hput, hrun⟩ := hstep i d acc M' hds pv
    have stw : Stt X.K b (wipe σ vs) S3 A' H3 (wipeG Γ vs) M' := st3.withEnv (st3.env.wipe vs)
    refine Tgt.run hput hsl stw rd fun σ4 st4 hw4 => ?_
    refine ⟨by rw [hw4]; exact wipe_wipe fun u hu => hu, ?_⟩
    refine aifs_ev hrun σ4 S3 A' H3 _ st4 fun k M5 S5 A5 H5 s5 st5 ⟨q1, q2⟩ => ?_
    obtain ⟨l1, l2, l3⟩ := apart s5 k1 k2 k3
    have back : ∀ {S6 : Hp} {A6 : List Addr} {H6 : Hp} {M6 : Mem}, Step S3 A' H3 S6 A6 H6 → Stt X.K b σ4 S6 A6 H6 Γ2 M6 → Stt X.K b σ S6 A6 H6 Γ M6 := fun {S6 A6 H6 M6} s t => t.withEnv (st3.env.mono s.s s.a)
    cases k with
    | false =>
      refine iteF ⟨S5, A5, M5, acc, xs, (s'.trans s3).trans s5, back s5 st5, l1, l2, l3, (hr.mono s3.s s3.a).mono s5.s s5.a, q2 rfl⟩
    | true =>
      refine iteT ?_
      intro s0 H0 C cl fp
      refine q1 rfl s0 H0 C cl fp σ4 S5 A5 H5 _ st5 fun y dy M6 S6 A6 H6 s6 st6 r6 q6 => ?_
      obtain ⟨m1, m2, m3⟩ := apart s6 l1 l2 l3
      have hr6 := ((hr.mono s3.s s3.a).mono s5.s s5.a).mono s6.s s6.a
      have sA := ((s'.trans s3).trans s5).trans s6
      have st6' := back (s5.trans s6) st6
      refine ⟨xs, m3, by rw [← hr6.length]; exact q6.1, S6, A6, M6, acc ++ [dy], xs ++ [y], sA.other hp ⟨_, m3⟩, st6'.other hb m2 m1 (.inr ⟨_, m3⟩), m1, m2, upd_same, hr6.append (.cons r6 .nil), q6.2⟩
  · rintro H' ⟨S', A', M', acc, xs, s', st', n1, n2, hx, hr, pv⟩
    exact hQ p acc xs M' S' A' H' hp0 (s1.trans s') st' n1 n2 hx hr (hd acc M' pv)
/-- what a comprehension asks: a word Pv of the turn, of what is made so far, of the memory -/
def LcAsk (X : Cx) (b : Bas) (scope : Scope) (t : Tgt) (vs : List Nat) (ifs : List Expr) (elt : Expr) (Γ : Gam) (RD : List Dat → Mem → Prop) (ds : List Dat) (Gm : Mem → Prop) (M1 : Mem) : Prop :=
  ∃ Pv : Nat → List Dat → Mem → Prop, Pv 0 [] M1 ∧ (∀ i acc M', i ≤ ds.length → Pv i acc M' → Gm M') ∧
    (∀ i d acc M', ds[i]? = some d → Pv i acc M' → ∃ Γ2, t.Put d (wipeG Γ vs) Γ2 ∧ AIfs X b scope ifs Γ2 M' fun k M2 => (k = true → AEB X b scope elt Γ2 M2 fun y M3 => acc.length < sizeLine ∧ Pv (i + 1) (acc ++ [y]) M3) ∧ (k = false → Pv (i + 1) acc M2)) ∧
    ∀ acc M', Pv ds.length acc M' → RD acc M'
theorem EV_lc {wi : TI} {t : Tgt} {vs : List Nat} (hsl : ∀ i ∈ t.slots, i ∈ vs) (h : IV X.K b wi Γ M (LcAsk X b scope t vs ifs elt Γ fun acc M' => R (.lst acc) M')) : EV X.K b (tLc wi (t.g X.K) (tBlkT X scope ifs) (tBlk X scope elt) vs) Γ M R := fun σ S A H Q st p =>
  lc_run st hsl h (fun q acc xs M' S' A' H' hq s' st' n1 n2 hx hr hR =>
    p (.ref q) (.lst acc) M' (upd S' q (.lst xs)) A' H' (s'.adopt hq n2) (st'.adopt (none_back st.base.dom hq) n2 n1 hx) (.lst upd_same (hr.mono (fun x u e => by
      rw [upd_ne (ne_of_none e n2)]
      exact e) List.prefix_rfl)) hR) fun _ _ _ => trivial
theorem EV_lcC {wi : TI} {t : Tgt} {vs : List Nat} (hsl : ∀ i ∈ t.slots, i ∈ vs) (h : IV X.K b wi Γ M (LcAsk X b scope t vs ifs elt Γ fun acc M' => R (.ptr M'.length) (M' ++ [.lst acc]))) : EV X.K b (tLc wi (t.g X.K) (tBlkT X scope ifs) (tBlk X scope elt) vs) Γ M R := fun σ S A H Q st p =>
  lc_run st hsl h (fun q acc xs M' S' A' H' hq s' st' n1 n2 hx hr hR =>
    p (.ref q) (.ptr M'.length) (M' ++ [.lst acc]) S' (A' ++ [q]) H' (s'.adoptC hq) (st'.adoptC (none_back st.base.dom hq) n2 n1 hx hr) (.ptr (by rw [← st'.len, List.getElem?_append_right (Nat.le_refl _), Nat.sub_self] <;> rfl)) hR) fun _ _ _ => trivial
theorem pe_blk : ∀ (s : Shared) (H : Hp) (C : Addr) (cl : List (Str × Addr)) (fp : List Addr), PE (X.blk s H scope (compEnvC scope cl C X.env) fp) elt (tBlk X scope elt) := fun s H C cl fp => ⟨fun pins s' σ H' Q I h => h s H C cl fp pins s' I⟩
/-- as a value; hg: the target's rule, for a name pg_name, for names pg_tup .. -/
theorem A_lc (t : Tgt) (hc : X.calm = true) (hN : X.N.Nodup) (ok : BlkOk X.N X.env.scope scope own) (hg : ∀ (s : Shared) (H : Hp) (C : Addr) (cl : List (Str × Addr)) (fp : List Addr), PG (X.blk s H scope (compEnvC scope cl C X.env) fp) tg (t.g X.K)) (hsl : ∀ i ∈ t.slots, i ∈ own.map (·.2))
    (h : AI X b tg iter Γ M (LcAsk X b scope t (own.map (·.2)) ifs elt Γ fun acc M' => R (.lst acc) M')) (hs : ∀ x, foldedSetIterable iter X.env x = pure x := by intro _; rfl) : AE X b (.ListComp elt [⟨tg, iter, ifs, 0⟩] scope pos) Γ M R := by
  obtain ⟨wi, hpi, hwi⟩ := h
  exact AE.of (pe_lc hc hN hpi ok hg pts_blk pe_blk hs) (EV_lc hsl hwi)
theorem A_lcC (t : Tgt) (hc : X.calm = true) (hN : X.N.Nodup) (ok : BlkOk X.N X.env.scope scope own) (hg : ∀ (s : Shared) (H : Hp) (C : Addr) (cl : List (Str × Addr)) (fp : List Addr), PG (X.blk s H scope (compEnvC scope cl C X.env) fp) tg (t.g X.K)) (hsl : ∀ i ∈ t.slots, i ∈ own.map (·.2))
    (h : AI X b tg iter Γ M (LcAsk X b scope t (own.map (·.2)) ifs elt Γ fun acc M' => R (.ptr M'.length) (M' ++ [.lst acc]))) (hs : ∀ x, foldedSetIterable iter X.env x = pure x := by intro _; rfl) : AE X b (.ListComp elt [⟨tg, iter, ifs, 0⟩] scope pos) Γ M R := by
  obtain ⟨wi, hpi, hwi⟩ := h
  exact AE.of (pe_lc hc hN hpi ok hg pts_blk pe_blk hs) (EV_lcC hsl hwi)
/-- y = [..] on one line, y a plain local -/
theorem S_setLc (i : Nat) (t : Tgt) {y : Str} {py : Pos} {spos : Pos} {D : AEnds} (hc : X.calm = true) (hN : X.N.Nodup) (hy : X.N[i]? = some y) (hyl : X.env.scope.names.lookup y = some .local) (hsw : swapsWith (.ListComp elt [⟨tg, iter, ifs, 0⟩] scope pos) (some (.Name y py)) spos.line X.env = pure true)
    (ok : BlkOk X.N X.env.scope scope own) (hg : ∀ (s : Shared) (H : Hp) (C : Addr) (cl : List (Str × Addr)) (fp : List Addr), PG (X.blk s H scope (compEnvC scope cl C X.env) fp) tg (t.g X.K)) (hsl : ∀ i ∈ t.slots, i ∈ own.map (·.2))
    (h : AI X b tg iter Γ M (LcAsk X b scope t (own.map (·.2)) ifs elt Γ fun acc M' => D.nx (Γ.set i (some (.lst acc))) M')) (hs : ∀ x, foldedSetIterable iter X.env x = pure x := by intro _; rfl) : AS X b (.Assign [.Name y py] (.ListComp elt [⟨tg, iter, ifs, 0⟩] scope pos) spos) Γ M D := by
  obtain ⟨wi, hpi, hwi⟩ := h
  refine AS.of (ps_setLc hc hN hy hyl hsw hpi ok hg pts_blk pe_blk hs) fun σ S A H D' st r => ?_
  exact EV_lc (R := fun d M' => D.nx (Γ.set i (some d)) M') hsl hwi σ S A H _ st fun v d M1 S1 A1 H1 s1 st1 r1 q => r.nx _ S1 A1 H1 _ M1 s1 (st1.set r1) q
theorem S_setLcC (i : Nat) (t : Tgt) {y : Str} {py : Pos} {spos : Pos} {D : AEnds} (hc : X.calm = true) (hN : X.N.Nodup) (hy : X.N[i]? = some y) (hyl : X.env.scope.names.lookup y = some .local) (hsw : swapsWith (.ListComp elt [⟨tg, iter, ifs, 0⟩] scope pos) (some (.Name y py)) spos.line X.env = pure true)
    (ok : BlkOk X.N X.env.scope scope own) (hg : ∀ (s : Shared) (H : Hp) (C : Addr) (cl : List (Str × Addr)) (fp : List Addr), PG (X.blk s H scope (compEnvC scope cl C X.env) fp) tg (t.g X.K)) (hsl : ∀ i ∈ t.slots, i ∈ own.map (·.2))
    (h : AI X b tg iter Γ M (LcAsk X b scope t (own.map (·.2)) ifs elt Γ fun acc M' => D.nx (Γ.set i (some (.ptr M'.length))) (M' ++ [.lst acc]))) (hs : ∀ x, foldedSetIterable iter X.env x = pure x := by intro _; rfl) : AS X b (.Assign [.Name y py] (.ListComp elt [⟨tg, iter, ifs, 0⟩] scope pos) spos) Γ M D := by
  obtain ⟨wi, hpi, hwi⟩ := h
  refine AS.of (ps_setLc hc hN hy hyl hsw hpi ok hg pts_blk pe_blk hs) fun σ S A H D' st r => ?_
  exact EV_lcC (R := fun d M' => D.nx (Γ.set i (some d)) M') hsl hwi σ S A H _ st fun v d M1 S1 A1 H1 s1 st1 r1 q => r.nx _ S1 A1 H1 _ M1 s1 (st1.set r1) q
end
end Ab
end

section
set_option Elab.async false
set_option linter.all false
set_option maxRecDepth 100000
set_option maxHeartbeats 4000000
namespace Ab
open PySem PySem.Spec PyProof.Rows L2

/-! ### exceptions by data: the class, its one field if it has one -/
abbrev Exn := Addr × Option (Str × Dat)
def ExnAt (K : PySem.W.Frag) (S' : Hp) (A' : List Addr) (H' : Hp) (x : Exn) (cls : Value) (d : Option Addr) : Prop :=
  cls = .ref x.1 ∧ match x.2 with
    | none => d = none
    | some (f, v) => ∃ dd w, d = some dd ∧ H' dd = some (.xd [(f, w)]) ∧ Rep K S' A' v w
/-! ### results -/
inductive Rs (α : Type) where
  | ok (a : α) (M : Mem)
  | ex (x : Exn) (Γ : Gam) (M : Mem)
  | no
def Rs.bind {α β : Type} (r : Rs α) (f : α → Mem → Rs β) : Rs β := match r with
  | .ok a M => f a M
  | .ex x Γ M => .ex x Γ M
  | .no => .no
/-- told with the slots of the caller -/
def Rs.at {α : Type} (Γ : Gam) (r : Rs α) : Rs α := match r with
  | .ex x _ M => .ex x Γ M
  | r => r
def Good {α : Type} (r : Rs α) (R : α → Mem → Prop) (E : Exn → Gam → Mem → Prop) : Prop := match r with
  | .ok a M => R a M
  | .ex x Γ M => E x Γ M
  | .no => False
theorem Good.imp {α : Type} {r : Rs α} {R R' : α → Mem → Prop} {E E' : Exn → Gam → Mem → Prop} (g : Good r R E) (h : ∀ a M, R a M → R' a M) (h2 : ∀ a Γ M, E a Γ M → E' a Γ M) : Good r R' E' := by
  cases r with
  | ok a M => exact h _ _ g
  | ex x Γ M => exact h2 _ _ _ g
  | no => exact g
theorem Good.bnd {α β : Type} {r : Rs α} {f : α → Mem → Rs β} {R : β → Mem → Prop} {E : Exn → Gam → Mem → Prop} (g : Good (r.bind f) R E) : Good r (fun a M => Good (f a M) R E) E := by
  cases r with
  | ok a M => exact g
  | ex x Γ M => exact g
  | no => exact g
theorem Good.of_at {α : Type} {r : Rs α} {Γ : Gam} {R : α → Mem → Prop} {E : Exn → Gam → Mem → Prop} (g : Good (r.at Γ) R E) : Good r R (fun x _ M => E x Γ M) := by
  cases r with
  | ok a M => exact g
  | ex x Γ M => exact g
  | no => exact g

/-! ### what a def promises: all cells of the caller may be handed on -/
/-- the caller's cells B as M -/
structure Lent (K : PySem.W.Frag) (S : Hp) (B : List Addr) (H : Hp) (M : Mem) : Prop where
  sub : Same S H
  nd : B.Nodup
  len : B.length = M.length
  own : ∀ (k : Nat) (x : Addr) (c : Cel), B[k]? = some x → M[k]? = some c → c ≠ .dead → S x = none
  cell : ∀ (k : Nat) (x : Addr) (c : Cel), B[k]? = some x → M[k]? = some c → CellAt K S B H x c
def SpD (K : PySem.W.Frag) (n : Nat) (F : List Dat → Mem → Rs Dat) : Sp := fun vs H Q E => ∃ (S : Hp) (B : List Addr) (ds : List Dat) (M : Mem),
  Lent K S B H M ∧ Reps K S B ds vs ∧ ds.length = n ∧
  Good (F ds M) (fun d M' => ∀ v S' A' H', Step S B H S' A' H' → Lent K S' A' H' M' → Rep K S' A' d v → Q v H')
    (fun x _ M' => ∀ cls dd S' A' H', Step S B H S' A' H' → Lent K S' A' H' M' → ExnAt K S' A' H' x cls dd → E cls dd H')
theorem Stt.lent {K : PySem.W.Frag} {b : Bas} {σ : L2.St} {S : Hp} {A : List Addr} {H : Hp} {Γ : Gam} {M : Mem} (h : Stt K b σ S A H Γ M) : Lent K S A H M := ⟨h.sub, h.nd, h.len, h.own, h.cell⟩
def startG (N : List Str) (ds : List Dat) : Gam := ds.map some ++ List.replicate (N.length - ds.length) none
def endsOf (R : Dat → Mem → Prop) : AEnds := { nx := fun _ M => R .non M, rt := R }
/-- a wish about exceptions keeps its word by data -/
def ExcW (K : PySem.W.Frag) (b : Bas) (W : WX) (EW : Exn → Gam → Mem → Prop) : Prop :=
  ∀ x cls d σ S A H Γ M, Stt K b σ S A H Γ M → ExnAt K S A H x cls d → EW x Γ M → W cls d σ H
section
variable {K : PySem.W.Frag}
theorem start_envs {S : Hp} {A : List Addr} {N : List Str} {ds : List Dat} {vs : List V} (r : Reps K S A ds vs) : Envs K S A (L2.start N vs) (startG N ds) := by
  have hl := r.length
  refine ⟨by unfold L2.start startG; simp [hl], fun i d q => ?_⟩
  unfold startG at q
  unfold L2.start
  by_cases hi : i < ds.length
  · rw [List.getElem?_append_left (by simpa using hi), List.getElem?_map] at q
    cases e : ds[i]? with
    | none => rw [e] at q; cases q
    | some d0 =>
      rw [e] at q
      have e0 : d0 = d := Option.some.inj (Option.some.inj q)
      subst e0
      obtain ⟨v, h1, h2⟩ := r.getD e
      refine ⟨v, ?_, h2⟩
      rw [List.getElem?_append_left (by rw [List.length_map, ← hl]; exact hi), List.getElem?_map, h1]
      rfl
  · rw [List.getElem?_append_right (by simpa using hi), List.getElem?_replicate] at q
    split at q <;> cases q
variable {P : Program} {w : World} {mg : Str → Option Value} {base : Heap}
/-- THE RULE for a def by data -/
theorem fn_D {x qual : Str} {st : Stmt} {f : Addr} {fd : FuncData} {N ps : List Str} {k n : Nat} {F : List Dat → Mem → Rs Dat} (Fn : Fun K x qual st f fd) (Sc : FnScope N ps (defScope st)) (hn : ps.length = n)
    (hbody : ∀ (cdv : Value) (A : Around) (outer : List Env) (s : Shared) (H : Hp) (E : XK) (b : Bas) (ds : List Dat) (M : Mem) (R : Dat → Mem → Prop) (EF : Exn → Mem → Prop), Room k (A.deeper (envOfC qual (defScope st) s.heap.objs.size f cdv)) → ds.length = n →
      ExcW K b (fun cls d _ H' => E cls d H') (fun x _ => EF x) → Good (F ds M) R (fun x _ => EF x) → ASs (cxOf (L2.CX P w) P w K mg base N qual (defScope st) f cdv A outer s H E) b (defBody st) (startG N ds) M (endsOf R)) :
    FnOk P w K mg base (L2.CX P w) (k + 1) f fd ps (SpD K n F) := by
  refine Fn.okX Sc (fun vs H Q E h => ?_) (fun cdv A outer s H vs Q E hr h => ?_)
  · obtain ⟨S, B, ds, M, _, r, hl, _⟩ := h
    rw [← r.length, hl, hn]
  · obtain ⟨S, B, ds, M, hL, r, hl, hF⟩ := h
    refine ⟨_, pss_tW, ?_⟩
    have st0 : Stt K ⟨S, B, H⟩ (L2.start N vs) S B H (startG N ds) M := ⟨Step.refl _ _ _, hL.sub, hL.nd, hL.len, hL.own, hL.cell, start_envs r⟩
    exact hbody cdv A outer s H E ⟨S, B, H⟩ ds M _ _ hr hl (fun x cls d σ S' A' H' Γ' M' st' hx hq => hq cls d S' A' H' st'.base st'.lent hx) hF (L2.start N vs) S B H _ st0
      ⟨fun σ' S' A' H' Γ' M' s' st' q => q .non S' A' H' s' st'.lent .non, fun σ' S' A' H' Γ' M' v d s' st' rd q => q v S' A' H' s' st'.lent rd, fun _ _ _ _ _ _ _ _ q => q.elim, fun _ _ _ _ _ _ _ _ q => q.elim⟩

/-! ### calls -/
variable {b : Bas} {σ : L2.St} {S : Hp} {A : List Addr} {H : Hp} {Γ : Gam} {M : Mem}
theorem after_all {S' : Hp} {A' : List Addr} {H' : Hp} {M' : Mem} (st : Stt K b σ S A H Γ M) (s : Step S A H S' A' H') (l : Lent K S' A' H' M') : Stt K b σ S' A' H' Γ M' :=
  ⟨st.base.trans s, l.sub, l.nd, l.len, l.own, l.cell, st.env.mono s.s s.a⟩
theorem after_none {S' : Hp} {A' : List Addr} {H' : Hp} {M' : Mem} (st : Stt K b σ S A H Γ M) (s : Step S [] H S' A' H') (l : Lent K S' A' H' M') : Step S A H S' A H' ∧ Stt K b σ S' A H' Γ M := by
  have kp : ∀ x o, H x = some o → H' x = some o := fun x o e => s.keep x o e (by simp)
  have sp : Step S A H S' A H' := ⟨s.s, List.prefix_rfl, fun x o e _ => kp x o e, fun x o e => (s.newS x o e).elim .inl fun q => q.elim (fun q => .inr (.inl q)) fun q => absurd q (by simp), fun x hx => .inl hx, s.dom⟩
  refine ⟨sp, st.base.trans sp, l.sub, st.nd, st.len, fun k x c h1 h2 h3 => ?_, fun k x c h1 h2 => (st.cell k x c h1 h2).mono s.s List.prefix_rfl (kp x), st.env.mono s.s List.prefix_rfl⟩
  have hS := st.own k x c h1 h2 h3
  obtain ⟨u, hu⟩ := (st.cell k x c h1 h2).lives
  cases e : S' x with
  | none => rfl
  | some o =>
    rcases s.newS x o e with q | q | q
    · rw [hS] at q; cases q
    · rw [hu] at q; cases q
    · exact absurd q (by simp)
theorem lent_nil {S H : Hp} (h : Same S H) : Lent K S [] H [] := ⟨h, List.nodup_nil, rfl, fun k x c h => by simp at h, fun k x c h => by simp at h⟩
end
/-- what comes back from a call that had nothing lent: M the caller's memory -/
def backF (M : Mem) (d : Dat) (M1 : Mem) : Rs Dat := match d with
  | .ptr k => match M1[k]? with
    | some (.lst ds) => if Dat.nps ds then .ok (.lst ds) M else .no
    | _ => .no
  | d => if d.np then .ok d M else .no
def backC (M : Mem) (d : Dat) (M1 : Mem) : Rs Dat := match d with
  | .ptr k => match M1[k]? with
    | some (.lst ds) => if Dat.nps ds then .ok (.ptr M.length) (M ++ [.lst ds]) else .no
    | _ => .no
  | d => if d.np then .ok d M else .no
def exB (M : Mem) (x : Exn) : Rs Dat := match x.2 with
  | none => .ex x [] M
  | some (_, v) => if v.np then .ex x [] M else .no
def callN (bk : Mem → Dat → Mem → Rs Dat) (F : List Dat → Mem → Rs Dat) (ds : List Dat) (M : Mem) : Rs Dat :=
  if Dat.nps ds then match F ds [] with
    | .ok d M1 => bk M d M1
    | .ex x _ _ => exB M x
    | .no => .no
  else .no
section
variable {K : PySem.W.Frag} {b : Bas} {σ : L2.St} {S : Hp} {A : List Addr} {H : Hp} {Γ : Gam} {M : Mem}
theorem back_np {M1 : Mem} {S' : Hp} {A' : List Addr} {H' : Hp} {d : Dat} {v : V} {R : Dat → Mem → Prop} {Q : VK} (st : Stt K b σ S A H Γ M) (s : Step S [] H S' A' H') (l : Lent K S' A' H' M1) (r : Rep K S' A' d v) (p : Post K b σ S A H Γ R Q)
    (hn : d.np = true) (q : R d M) : Q v H' := by
  obtain ⟨sp, st'⟩ := after_none st s l
  exact (p.after sp).here st' (r.free hn) q
theorem back_ptr {M1 : Mem} {S' : Hp} {A' : List Addr} {H' : Hp} {k : Nat} {ds : List Dat} {v : V} (st : Stt K b σ S A H Γ M) (s : Step S [] H S' A' H') (l : Lent K S' A' H' M1) (r : Rep K S' A' (.ptr k) v) (hM : M1[k]? = some (.lst ds)) (hn : Dat.nps ds = true) :
    ∃ x xs, v = .ref x ∧ H x = none ∧ S' x = none ∧ H' x = some (.lst xs) ∧ Reps K S' A ds xs := by
  cases r with
  | @ptr _ x hA' =>
    obtain ⟨xs, g, rr⟩ := l.cell _ _ _ hA' hM
    refine ⟨x, xs, rfl, ?_, l.own _ _ _ hA' hM (fun z => nomatch z), g, rr.free hn⟩
    rcases s.newA x (List.mem_of_getElem? hA') with q | q
    · exact absurd q (by simp)
    · exact q
theorem good_backF {M1 : Mem} {S' : Hp} {A' : List Addr} {H' : Hp} {d : Dat} {v : V} {R : Dat → Mem → Prop} {E : Exn → Gam → Mem → Prop} {Q : VK} (st : Stt K b σ S A H Γ M) (s : Step S [] H S' A' H') (l : Lent K S' A' H' M1) (r : Rep K S' A' d v) (p : Post K b σ S A H Γ R Q)
    (g : Good (backF M d M1) R E) : Q v H' := by
  unfold backF at g
  split at g
  · rename_i k
    split at g
    · rename_i ds hM
      by_cases hn : Dat.nps ds = true
      · rw [if_pos hn] at g
        obtain ⟨x, xs, ev, h1, h2, h3, rr⟩ := back_ptr st s l r hM hn
        subst ev
        obtain ⟨sp, st'⟩ := after_none st s l
        have hA : x ∉ A := st.notA h1
        have hb : b.H x = none := none_back st.base.dom h1
        refine p (.ref x) (.lst ds) M (upd S' x (.lst xs)) A H' (sp.adopt h1 h2) (st'.adopt hb h2 hA h3) (.lst upd_same (Reps.mono (fun y u e => ?_) List.prefix_rfl rr)) g
        rw [upd_ne (ne_of_none e h2)]
        exact e
      · rw [if_neg hn] at g
        exact g.elim
    · exact g.elim
  · by_cases hn : d.np = true
    · rw [if_pos hn] at g
      exact back_np st s l r p hn g
    · rw [if_neg hn] at g
      exact g.elim
theorem good_backC {M1 : Mem} {S' : Hp} {A' : List Addr} {H' : Hp} {d : Dat} {v : V} {R : Dat → Mem → Prop} {E : Exn → Gam → Mem → Prop} {Q : VK} (st : Stt K b σ S A H Γ M) (s : Step S [] H S' A' H') (l : Lent K S' A' H' M1) (r : Rep K S' A' d v) (p : Post K b σ S A H Γ R Q)
    (g : Good (backC M d M1) R E) : Q v H' := by
  unfold backC at g
  split at g
  · rename_i k
    split at g
    · rename_i ds hM
      by_cases hn : Dat.nps ds = true
      · rw [if_pos hn] at g
        obtain ⟨x, xs, ev, h1, h2, h3, rr⟩ := back_ptr st s l r hM hn
        subst ev
        obtain ⟨sp, st'⟩ := after_none st s l
        have hA : x ∉ A := st.notA h1
        have hb : b.H x = none := none_back st.base.dom h1
        have g : R (.ptr M.length) (M ++ [.lst ds]) := g
        refine p (.ref x) (.ptr M.length) (M ++ [.lst ds]) S' (A ++ [x]) H' (sp.adoptC h1) (st'.adoptC (ds := ds) hb h2 hA h3 rr) (.ptr ?_) g
        rw [← st.len, List.getElem?_append_right (Nat.le_refl _), Nat.sub_self]; rfl
      · rw [if_neg hn] at g
        exact g.elim
    · exact g.elim
  · by_cases hn : d.np = true
    · rw [if_pos hn] at g
      exact back_np st s l r p hn g
    · rw [if_neg hn] at g
      exact g.elim
theorem good_exB {M1 : Mem} {S' : Hp} {A' : List Addr} {H' : Hp} {x : Exn} {cls : Value} {dd : Option Addr} {R : Dat → Mem → Prop} {EW : Exn → Gam → Mem → Prop} {W : WX} (hW : ExcW K b W EW) (st : Stt K b σ S A H Γ M) (s : Step S [] H S' A' H') (l : Lent K S' A' H' M1) (hx : ExnAt K S' A' H' x cls dd)
    (g : Good (exB M x) R (fun x _ M => EW x Γ M)) : W cls dd σ H' := by
  obtain ⟨sp, st'⟩ := after_none st s l
  obtain ⟨c, o⟩ := x
  cases o with
  | none => exact hW _ cls dd σ S' A H' Γ M st' hx g
  | some fv =>
    obtain ⟨f, v⟩ := fv
    have g : Good (if v.np then (.ex (c, some (f, v)) [] M : Rs Dat) else .no) R (fun x _ M => EW x Γ M) := g
    by_cases hn : v.np = true
    · rw [if_pos hn] at g
      obtain ⟨h1, d2, w, h2, h3, h4⟩ := hx
      exact hW _ cls dd σ S' A H' Γ M st' ⟨h1, d2, w, h2, h3, h4.free hn⟩ g
    · rw [if_neg hn] at g
      exact g.elim
end
section
variable {X : Cx} {b : Bas} {Γ : Gam} {M : Mem} {R : Dat → Mem → Prop} {W : WX} {EW : Exn → Gam → Mem → Prop} {k n : Nat} {f : Addr} {fd : FuncData} {ps : List Str} {F : List Dat → Mem → Rs Dat} {x : Str} {p pos : Pos} {e : Expr} {es : List Expr}
theorem call_N {bk : Mem → Dat → Mem → Rs Dat} (hbk : ∀ {K : PySem.W.Frag} {b : Bas} {σ : L2.St} {S : Hp} {A : List Addr} {H : Hp} {Γ : Gam} {M : Mem} {M1 : Mem} {S' : Hp} {A' : List Addr} {H' : Hp} {d : Dat} {v : V} {R : Dat → Mem → Prop} {E : Exn → Gam → Mem → Prop} {Q : VK}, Stt K b σ S A H Γ M → Step S [] H S' A' H' → Lent K S' A' H' M1 → Rep K S' A' d v → Post K b σ S A H Γ R Q → Good (bk M d M1) R E → Q v H')
    (G : FnOk X.prog X.w X.K X.mg X.base (L2.CX X.prog X.w) k f fd ps (SpD X.K n F)) (hr : Room k X.A) (hg : Gl X x) (hm : X.mg x = some (.ref f)) (hk : PySem.W.keepIn X.K (.ref f) = true) (hb : Binds X.K fd ps []) (tk : Takes X W) (hW : ExcW X.K b W EW)
    (h : AA X b (e :: es) Γ M fun ds M1 => ds.length = n ∧ Good (callN bk F ds M1) R (fun x _ M => EW x Γ M)) (hdb : (x == ("__debug__" : Str)) = false := by decide) (he : starEach (e :: es) X.env = (false, eval e X.env) :: starEach es X.env := by rfl) (hpl : (backTo pos (starEach es X.env)).any (·.1) = false := by rfl) :
    AE X b (.Call (.Name x p) (e :: es) [] pos) Γ M R :=
  AE.of (pe_callS G hr hg hm hk hb (fun σ => passAt tk σ) pa_tW hdb he hpl) fun σ S A H Q st pq => h σ S A H _ st fun vs ds M1 S1 A1 H1 s1 st1 r1 ⟨hl, g⟩ => by
    unfold callN at g
    by_cases hn : Dat.nps ds = true
    · rw [if_pos hn] at g
      refine ⟨S1, [], ds, [], lent_nil st1.sub, r1.free hn, hl, ?_⟩
      cases eF : F ds [] with
      | ok d M2 =>
        rw [eF] at g
        intro v S' A' H' s l r
        exact hbk st1 s l r (pq.after s1) g
      | ex x G2 M2 =>
        rw [eF] at g
        intro cls dd S' A' H' s l hx
        exact good_exB hW st1 s l hx g
      | no =>
        rw [eF] at g
        exact g.elim
    · rw [if_neg hn] at g
      exact g.elim
/-- the callee works on the caller's cells -/
theorem call_H (G : FnOk X.prog X.w X.K X.mg X.base (L2.CX X.prog X.w) k f fd ps (SpD X.K n F)) (hr : Room k X.A) (hg : Gl X x) (hm : X.mg x = some (.ref f)) (hk : PySem.W.keepIn X.K (.ref f) = true) (hb : Binds X.K fd ps []) (tk : Takes X W) (hW : ExcW X.K b W EW)
    (h : AA X b (e :: es) Γ M fun ds M1 => ds.length = n ∧ Good (F ds M1) R (fun x _ M => EW x Γ M)) (hdb : (x == ("__debug__" : Str)) = false := by decide) (he : starEach (e :: es) X.env = (false, eval e X.env) :: starEach es X.env := by rfl) (hpl : (backTo pos (starEach es X.env)).any (·.1) = false := by rfl) :
    AE X b (.Call (.Name x p) (e :: es) [] pos) Γ M R :=
  AE.of (pe_callS G hr hg hm hk hb (fun σ => passAt tk σ) pa_tW hdb he hpl) fun σ S A H Q st pq => h σ S A H _ st fun vs ds M1 S1 A1 H1 s1 st1 r1 ⟨hl, g⟩ => by
    refine ⟨S1, A1, ds, M1, st1.lent, r1, hl, ?_⟩
    exact g.imp (fun d M' q v S' A' H' s l r => (pq.after s1) v d M' S' A' H' s (after_all st1 s l) r q) (fun xn _ M' q cls dd S' A' H' s l hx => hW xn cls dd σ S' A' H' Γ M' (after_all st1 s l) hx q)
end
end Ab
end

section
set_option Elab.async false
set_option linter.all false
set_option maxRecDepth 100000
set_option maxHeartbeats 4000000
/-! Ab10: a small language of slots and data, and its runner. -/
namespace Ab
open PySem PySem.Spec PyProof.Rows L2

/-! ### reading data -/
def rdL (M : Mem) : Dat → Option (List Dat)
  | .lst ds => some ds
  | .ptr k => match M[k]? with
    | some (.lst ds) => some ds
    | _ => none
  | _ => none
def rd (M : Mem) : Dat → Option (List Dat)
  | .rol ds => some ds
  | d => rdL M d
def sq (M : Mem) : Dat → Option (List Dat)
  | .tup ds => some ds
  | d => rd M d
def intsD : List Dat → Option (List Int)
  | [] => some []
  | .int i :: ds => (intsD ds).map (i :: ·)
  | _ => none
def boolsD : List Dat → Option (List Bool)
  | [] => some []
  | .bl i :: ds => (boolsD ds).map (i :: ·)
  | _ => none
theorem rdL_ok {M : Mem} {d : Dat} {ds : List Dat} (h : rdL M d = some ds) : IsL M d ds := by
  cases d with
  | lst xs => cases h; exact .lst _
  | ptr k =>
    have h : (match M[k]? with | some (.lst ds) => some ds | _ => none) = some ds := h
    split at h
    · rename_i xs e
      cases h
      exact .ptr e
    · cases h
  | _ => cases h
theorem rd_ok {M : Mem} {d : Dat} {ds : List Dat} (h : rd M d = some ds) : IsR M d ds := by
  cases d with
  | rol xs => cases h; exact .rol _
  | _ => exact .l (rdL_ok h)
theorem sq_ok {M : Mem} {d : Dat} {ds : List Dat} (h : sq M d = some ds) : SeqD M d ds := by
  cases d with
  | tup xs => cases h; exact .t _
  | _ => exact .l (rd_ok h)
theorem intsD_ok : ∀ {ds : List Dat} {ns : List Int}, intsD ds = some ns → ds = ns.map .int
  | [], _, h => by cases h; rfl
  | .int i :: ds, ns, h => by
    unfold intsD at h
    cases e : intsD ds with
    | none => rw [e] at h; cases h
    | some ms =>
      rw [e] at h
      cases h
      rw [List.map_cons, ← intsD_ok e]
  | .non :: _, _, h => by cases h
  | .bl _ :: _, _, h => by cases h
  | .str _ :: _, _, h => by cases h
  | .tup _ :: _, _, h => by cases h
  | .lst _ :: _, _, h => by cases h
  | .rol _ :: _, _, h => by cases h
  | .ptr _ :: _, _, h => by cases h
  | .oth _ :: _, _, h => by cases h
theorem boolsD_ok : ∀ {ds : List Dat} {ns : List Bool}, boolsD ds = some ns → ds = ns.map .bl
  | [], _, h => by cases h; rfl
  | .bl i :: ds, ns, h => by
    unfold boolsD at h
    cases e : boolsD ds with
    | none => rw [e] at h; cases h
    | some ms =>
      rw [e] at h
      cases h
      rw [List.map_cons, ← boolsD_ok e]
  | .non :: _, _, h => by cases h
  | .int _ :: _, _, h => by cases h
  | .str _ :: _, _, h => by cases h
  | .tup _ :: _, _, h => by cases h
  | .lst _ :: _, _, h => by cases h
  | .rol _ :: _, _, h => by cases h
  | .ptr _ :: _, _, h => by cases h
  | .oth _ :: _, _, h => by cases h

/-! ### two-place operations -/
def mulOk (i j : Int) : Bool := decide ((-(2 ^ 64) < i ∧ i < 2 ^ 64) ∨ (-(2 ^ 64) < j ∧ j < 2 ^ 64)) || decide (i.natAbs.log2 + j.natAbs.log2 < 1000000)
def divOk (j : Int) : Bool := decide (j.natAbs.log2 < 9000)
def binD : Operator → Dat → Dat → Option Dat
  | .Add, .int i, .int j => some (.int (i + j))
  | .Add, .str x, .str y => if x.length + y.length ≤ sizeLine then some (.str (x ++ y)) else none
  | .Sub, .int i, .int j => some (.int (i - j))
  | .Mult, .int i, .int j => if mulOk i j then some (.int (i * j)) else none
  | .FloorDiv, .int i, .int j => if divOk j then (if 0 < j then some (.int (i / j)) else if j ≠ 0 then some (.int (i.fdiv j)) else none) else none
  | .Mod, .int i, .int j => if 0 < j then some (.int (i % j)) else if j ≠ 0 then some (.int (i.fmod j)) else none
  | .Pow, .int i, .int j => if 0 ≤ j ∧ j ≤ 1000000 ∧ i.natAbs < 2 ^ 64 then some (.int (i ^ j.toNat)) else none
  | _, _, _ => none
theorem binD_ok {op : Operator} {d1 d2 d : Dat} (h : binD op d1 d2 = some d) : BinD op d1 d2 d := by
  unfold binD at h
  split at h
  · cases h; exact .add _ _
  · split at h
    · cases h; exact .addS (by assumption)
    · cases h
  · cases h; exact .sub _ _
  · split at h
    · rename_i hm
      cases h
      refine .mul ?_
      rcases Bool.or_eq_true_iff.mp hm with z | z
      · exact .inl (show CMul _ _ from of_decide_eq_true (p := (-(2 ^ 64) < _ ∧ _ < 2 ^ 64) ∨ (-(2 ^ 64) < _ ∧ _ < 2 ^ 64)) z)
      · exact .inr (show CMulW _ _ from of_decide_eq_true (p := _ + _ < 1000000) z)
    · cases h
  · split at h
    · rename_i hd
      have hd := of_decide_eq_true hd
      split at h
      · cases h; exact .fdiv ⟨by assumption, hd⟩
      · split at h
        · cases h; exact .fdivX ⟨by assumption, hd⟩
        · cases h
    · cases h
  · split at h
    · cases h; exact .mod (by assumption)
    · split at h
      · cases h; exact .modX (by assumption)
      · cases h
  · split at h
    · rename_i hp
      cases h; exact .pow hp
    · cases h
  · cases h
def cmpD : CmpOp → Dat → Dat → Option Bool
  | .Lt, .int i, .int j => some (decide (i < j))
  | .LtE, .int i, .int j => some (decide (i ≤ j))
  | .Gt, .int i, .int j => some (decide (j < i))
  | .GtE, .int i, .int j => some (decide (j ≤ i))
  | .Eq, .int i, .int j => some (decide (i = j))
  | .NotEq, .int i, .int j => some (!decide (i = j))
  | .Eq, .str i, .str j => some (decide (i = j))
  | .NotEq, .str i, .str j => some (!decide (i = j))
  | .Eq, .bl i, .bl j => some (decide (i = j))
  | .NotEq, .bl i, .bl j => some (!decide (i = j))
  | _, _, _ => none
theorem cmpD_ok {op : CmpOp} {d1 d2 : Dat} {k : Bool} (h : cmpD op d1 d2 = some k) : CmpD op d1 d2 k := by
  unfold cmpD at h
  split at h <;> first | (cases h; constructor) | cases h
def cmpI : CmpOp → Dat → Dat → Option Bool
  | .Lt, .int i, .int j => some (decide (i < j))
  | .LtE, .int i, .int j => some (decide (i ≤ j))
  | .Gt, .int i, .int j => some (decide (j < i))
  | .GtE, .int i, .int j => some (decide (j ≤ i))
  | .Eq, .int i, .int j => some (decide (i = j))
  | _, _, _ => none
theorem cmpI_ok {op : CmpOp} {d1 d2 : Dat} {k : Bool} (h : cmpI op d1 d2 = some k) : ∃ i j, d1 = .int i ∧ d2 = .int j ∧ CmpI op i j k := by
  unfold cmpI at h
  split at h <;> first | (cases h; exact ⟨_, _, rfl, rfl, by constructor⟩) | cases h
def itemD (M : Mem) (d i : Dat) : Option Dat := match i with
  | .int n => match d with
    | .str z => if z.length ≤ sizeLine then (atI z.cps.toList n).map fun k => .str ⟨#[k]⟩ else none
    | d => (sq M d).bind fun ds => atI ds n
  | _ => none
theorem itemD_ok {M : Mem} {d i v : Dat} (h : itemD M d i = some v) : ItemD M d i v := by
  unfold itemD at h
  split at h
  · rename_i n
    split at h
    · split at h
      · rename_i hz
        obtain ⟨k, e, e2⟩ := Option.map_eq_some_iff.mp h
        subst e2
        exact .s hz e
      · cases h
    · obtain ⟨ds, e, e2⟩ := Option.bind_eq_some_iff.mp h
      cases sq_ok e with
      | l i => exact .l i e2
      | t => exact .t e2
  · cases h
/-! ### data as the model's plain data -/
mutual
def Dat.py : Dat → Option PyData
  | .non => some .none
  | .bl b => some (.bool b)
  | .int i => some (.int i)
  | .str x => some (.str x)
  | .tup ds => (Dat.pys ds).map .tuple
  | .lst ds => (Dat.pys ds).map .list
  | .rol ds => (Dat.pys ds).map .list
  | .ptr _ => none
  | .oth _ => none
def Dat.pys : List Dat → Option (List PyData)
  | [] => some []
  | d :: ds => match Dat.py d with
    | some p => (Dat.pys ds).map (p :: ·)
    | none => none
end
def pyD (M : Mem) : Dat → Option PyData
  | .ptr k => match M[k]? with
    | some (.lst ds) => (Dat.pys ds).map .list
    | _ => none
  | d => d.py
section
variable {K : PySem.W.Frag} {S : Hp} {A : List Addr} {H : Hp}
mutual
theorem Rep.dp (s : Same S H) : ∀ {d : Dat} {v : V} {p : PyData}, Rep K S A d v → d.py = some p → Dp K H v p
  | _, _, _, .non, h => by cases h; exact .non
  | _, _, _, .bl b, h => by cases h; exact .bl b
  | _, _, _, .int i, h => by cases h; exact .int i
  | _, _, _, .str x, h => by cases h; exact .str x
  | _, _, _, .tup g r, h => by
    obtain ⟨ps, e, e2⟩ := Option.map_eq_some_iff.mp h
    subst e2
    exact .tup (Same.sqt s g) (Reps.dp s r e)
  | _, _, _, .lst g r, h => by
    obtain ⟨ps, e, e2⟩ := Option.map_eq_some_iff.mp h
    subst e2
    exact .lst (.inl (.inl (s _ _ g))) (Reps.dp s r e)
  | _, _, _, .rol g r, h => by
    obtain ⟨ps, e, e2⟩ := Option.map_eq_some_iff.mp h
    subst e2
    exact .lst (Same.sql s g) (Reps.dp s r e)
  | _, _, _, .ptr _, h => by cases h
  | _, _, _, .oth _, h => by cases h
theorem Reps.dp (s : Same S H) : ∀ {d : List Dat} {v : List V} {p : List PyData}, Reps K S A d v → Dat.pys d = some p → DpAll K H v p
  | _, _, _, .nil, h => by cases h; exact .nil
  | d :: ds, _, _, .cons r t, h => by
    unfold Dat.pys at h
    cases e : Dat.py d with
    | none => rw [e] at h; cases h
    | some q =>
      rw [e] at h
      obtain ⟨ps, e2, e3⟩ := Option.map_eq_some_iff.mp h
      subst e3
      exact .cons (Rep.dp s r e) (Reps.dp s t e2)
end
theorem pyD_ok {b : Bas} {σ : L2.St} {Γ : Gam} {M : Mem} {d : Dat} {v : V} {p : PyData} (st : Stt K b σ S A H Γ M) (r : Rep K S A d v) (h : pyD M d = some p) : Dp K H v p := by
  cases d with
  | ptr k =>
    have h : (match M[k]? with | some (.lst ds) => (Dat.pys ds).map .list | _ => none) = some p := h
    split at h
    · rename_i ds e
      obtain ⟨ps, e2, e3⟩ := Option.map_eq_some_iff.mp h
      subst e3
      cases r with
      | ptr hA =>
        obtain ⟨xs, g, q⟩ := st.cell _ _ _ hA e
        exact .lst (.inl (.inl g)) (q.dp st.sub e2)
    · cases h
  | _ => exact r.dp st.sub h
end
def eqvD (M : Mem) (d1 d2 : Dat) : Option Bool := (pyD M d1).bind fun p => (pyD M d2).bind fun q => if SeqAt.shaped p && SeqAt.shaped q then some (PyData.eqv p q) else none
def inD (M : Mem) (d1 d2 : Dat) : Option Bool := (pyD M d1).bind fun p => (pyD M d2).bind fun q => match q with
  | .list ds => if SeqAt.shaped p && SeqAt.shaped (.list ds) then some (ds.any fun z => PyData.eqv z p) else none
  | _ => none
section
variable {X : Cx} {b : Bas} {Γ : Gam} {M : Mem} {R : Dat → Mem → Prop} {a c : Expr} {pos : Pos}
theorem A_eqv (hu : X.A.units + 64 < cLine) (h : AE X b a Γ M fun d1 M1 => AE X b c Γ M1 fun d2 M2 => ∃ k, eqvD M2 d1 d2 = some k ∧ R (.bl k) M2) (hm : behindInMarks .Eq c = false := by rfl) : AE X b (.Compare a [.Eq] [c] pos) Γ M R :=
  A_cmp (op_eqD hu) hm (h.imp fun d1 M1 h1 => h1.imp fun d2 M2 ⟨k, hk, q⟩ => fun σ S A H v1 v2 Q st r1 r2 p => by
    obtain ⟨p1, e1, hk⟩ := Option.bind_eq_some_iff.mp hk
    obtain ⟨p2, e2, hk⟩ := Option.bind_eq_some_iff.mp hk
    split at hk
    · rename_i hs
      obtain ⟨s1, s2⟩ := Bool.and_eq_true_iff.mp hs
      cases hk
      exact ⟨p1, p2, pyD_ok st r1 e1, pyD_ok st r2 e2, s1, s2, p.here st (.bl _) q⟩
    · cases hk)
theorem A_neqv (hu : X.A.units + 64 < cLine) (h : AE X b a Γ M fun d1 M1 => AE X b c Γ M1 fun d2 M2 => ∃ k, eqvD M2 d1 d2 = some k ∧ R (.bl (!k)) M2) (hm : behindInMarks .NotEq c = false := by rfl) : AE X b (.Compare a [.NotEq] [c] pos) Γ M R :=
  A_cmp (op_neD hu) hm (h.imp fun d1 M1 h1 => h1.imp fun d2 M2 ⟨k, hk, q⟩ => fun σ S A H v1 v2 Q st r1 r2 p => by
    obtain ⟨p1, e1, hk⟩ := Option.bind_eq_some_iff.mp hk
    obtain ⟨p2, e2, hk⟩ := Option.bind_eq_some_iff.mp hk
    split at hk
    · rename_i hs
      obtain ⟨s1, s2⟩ := Bool.and_eq_true_iff.mp hs
      cases hk
      exact ⟨p1, p2, pyD_ok st r1 e1, pyD_ok st r2 e2, s1, s2, p.here st (.bl _) q⟩
    · cases hk)
end

/-! ### isinstance -/
inductive Ty where
  | non | bool | int | str | tuple | list | dict
def Ty.nm : Ty → String
  | .non => "NoneType"
  | .bool => "bool"
  | .int => "int"
  | .str => "str"
  | .tuple => "tuple"
  | .list => "list"
  | .dict => "dict"
def Ty.isa : Ty → Ty → Bool
  | .non, .non => true
  | .bool, .bool => true
  | .bool, .int => true
  | .int, .int => true
  | .str, .str => true
  | .tuple, .tuple => true
  | .list, .list => true
  | .dict, .dict => true
  | _, _ => false
theorem Ty.isa_ok : ∀ a b : Ty, kitB a.nm b.nm = some (a.isa b) := by
  intro a b
  cases a <;> cases b <;> decide +kernel
def tyD (M : Mem) : Dat → Option Ty
  | .non => some .non
  | .bl _ => some .bool
  | .int _ => some .int
  | .str _ => some .str
  | .tup _ => some .tuple
  | .lst _ => some .list
  | .rol _ => some .list
  | .ptr k => match M[k]? with
    | some (.lst _) => some .list
    | some (.dK _) => some .dict
    | some (.dT _) => some .dict
    | _ => none
  | .oth _ => none
end Ab
end

section
set_option Elab.async false
set_option linter.all false
set_option maxRecDepth 100000
set_option maxHeartbeats 4000000
/-! Ab11: isinstance, methods of lists, zip, enumerate by data. -/
namespace Ab
open PySem PySem.Spec PyProof.Rows L2

theorem tyD_ok {K : PySem.W.Frag} {b : Bas} {σ : L2.St} {S : Hp} {A : List Addr} {H : Hp} {Γ : Gam} {M : Mem} {d : Dat} {v : V} {t : Ty} (st : Stt K b σ S A H Γ M) (r : Rep K S A d v) (h : tyD M d = some t) : TyX K H v (.type t.nm) := by
  have seqL : ∀ {a : Addr} {xs : List V}, SqL K H a xs → TyX K H (.ref a) (.type "list") := fun {a xs} q => by
    rcases q with (q | ⟨o, q⟩) | ⟨o, _, _, q, c, _⟩
    · exact .base (.lst q)
    · exact .base (.frz q)
    · exact .kList q c
  have seqT : ∀ {a : Addr} {xs : List V}, SqT K H a xs → TyX K H (.ref a) (.type "tuple") := fun {a xs} q => by
    rcases q with (q | ⟨o, q⟩) | ⟨o, _, _, q, c, _⟩
    · exact .base (.tup q)
    · exact .fTuple q
    · exact .kTuple q c
  cases r with
  | non => cases h; exact .base .non
  | bl => cases h; exact .base (.bl _)
  | int => cases h; exact .base (.int _)
  | str => cases h; exact .base (.str _)
  | tup g q => cases h; exact seqT (Same.sqt st.sub g)
  | lst g q => cases h; exact seqL (.inl (.inl (st.sub _ _ g)))
  | rol g q => cases h; exact seqL (Same.sql st.sub g)
  | @ptr k a hA =>
    have h : (match M[k]? with | some (.lst _) => some Ty.list | some (.dK _) => some Ty.dict | some (.dT _) => some Ty.dict | _ => none) = some t := h
    split at h
    · rename_i e
      cases h
      obtain ⟨xs, g, _⟩ := st.cell _ _ _ hA e
      exact .base (.lst g)
    · rename_i e
      cases h
      obtain ⟨xs, g, _⟩ := st.cell _ _ _ hA e
      exact .base (.dK g)
    · rename_i e
      cases h
      obtain ⟨xs, g, _⟩ := st.cell _ _ _ hA e
      exact .base (.dT g)
    · cases h
  | oth => cases h
/-- is it of one of these -/
def Ty.any (t : Ty) : List Ty → Bool
  | [] => false
  | u :: us => t.isa u || t.any us
theorem Ty.kitAny {K : PySem.W.Frag} {t : Ty} : ∀ (us : List Ty), PySem.W.kitAny K (.type t.nm) (us.map fun u => .type u.nm) = some (t.any us)
  | [] => kitAny_nil
  | u :: us => by
    refine kitAny_cons (kit_ty (Ty.isa_ok t u)) (fun e => ?_) fun e => ?_
    · rw [Ty.kitAny us]
      unfold Ty.any
      rw [e, Bool.false_or]
      cases us <;> rfl
    · unfold Ty.any
      rw [e, Bool.true_or]
def isiD (M : Mem) (ts : List Ty) (d : Dat) : Option Bool := (tyD M d).map fun t => t.any ts
theorem Ty.boot : ∀ t : Ty, t ≠ .non → bootBuiltins (Str.ofString t.nm) = some (.type t.nm) := by
  intro t h
  cases t <;> first | exact absurd rfl h | decide +kernel
section
variable {X : Cx} {b : Bas} {Γ : Gam} {M : Mem} {R : Dat → Mem → Prop} {e : Expr} {pos p p2 p3 p4 : Pos} {k : Nat}
/-- isinstance(e, t) -/
theorem A_isi (t : Ty) {x : Str} (hx : x = Str.ofString t.nm) (ht : t ≠ .non) (hg : Gl X "isinstance") (hm : X.mg "isinstance" = none) (hg2 : Gl X x) (hm2 : X.mg x = none) (h : AE X b e Γ M fun d M1 => ∃ k, isiD M1 [t] d = some k ∧ R (.bl k) M1)
    (he : starEach [e, .Name x p2] X.env = (false, eval e X.env) :: starEach [.Name x p2] X.env := by rfl) : AE X b (.Call (.Name "isinstance" p) [e, .Name x p2] [] pos) Γ M R := by
  have hv : bootBuiltins x = some (.type t.nm) := by rw [hx]; exact t.boot ht
  have n1 : x ≠ "__name__" := by subst hx; cases t <;> decide +kernel
  have n2 : (x == ("__debug__" : Str)) = false := by subst hx; cases t <;> decide +kernel
  have e2 : starEach [Expr.Name x p2] X.env = (false, eval (Expr.Name x p2) X.env) :: starEach [] X.env := rfl
  refine A_blt call_isi hg hm (by decide +kernel) (L_cons (h.imp fun d M1 ⟨k, hk, q⟩ => L_cons (A_bltn (v := .ty t.nm) hg2 hm2 hv rfl (L_nil ?_) n1 n2) e2) he) (by decide) (by decide) he
  intro σ S A H vs Q st r1 p
  obtain ⟨v, v', ev, ra, rb⟩ := r1.two
  subst ev
  cases rb
  obtain ⟨ty, e1, e2⟩ := Option.map_eq_some_iff.mp hk
  refine ⟨v, _, .type ty.nm, .type t.nm, k, rfl, .ty _, tyD_ok st ra e1, ?_, p.here st (.bl _) q⟩
  rw [← e2, kit_ty (Ty.isa_ok ty t)]
  unfold Ty.any Ty.any
  rw [Bool.or_false]
/-- isinstance(e, (t, u)) -/
theorem A_isi2 (t u : Ty) {x y : Str} (hx : x = Str.ofString t.nm) (ht : t ≠ .non) (hy : y = Str.ofString u.nm) (hu : u ≠ .non) (hg : Gl X "isinstance") (hm : X.mg "isinstance" = none) (hgx : Gl X x) (hmx : X.mg x = none) (hgy : Gl X y) (hmy : X.mg y = none)
    (h : AE X b e Γ M fun d M1 => ∃ k, isiD M1 [t, u] d = some k ∧ R (.bl k) M1)
    (he : starEach [e, .Tuple [.Name x p2, .Name y p3] k p4] X.env = (false, eval e X.env) :: starEach [.Tuple [.Name x p2, .Name y p3] k p4] X.env := by rfl) : AE X b (.Call (.Name "isinstance" p) [e, .Tuple [.Name x p2, .Name y p3] k p4] [] pos) Γ M R := by
  have n1 : x ≠ "__name__" := by subst hx; cases t <;> decide +kernel
  have n2 : (x == ("__debug__" : Str)) = false := by subst hx; cases t <;> decide +kernel
  have m1 : y ≠ "__name__" := by subst hy; cases u <;> decide +kernel
  have m2 : (y == ("__debug__" : Str)) = false := by subst hy; cases u <;> decide +kernel
  have hvx : bootBuiltins x = some (.type t.nm) := by rw [hx]; exact t.boot ht
  have hvy : bootBuiltins y = some (.type u.nm) := by rw [hy]; exact u.boot hu
  have px : PE X (.Name x p2) (tC (.ty t.nm)) := pe_bltn hgx hmx hvx rfl n1 n2
  have py : PE X (.Name y p3) (tC (.ty u.nm)) := pe_bltn hgy hmy hvy rfl m1 m2
  have pt := pe_tup (x1 := k) (pos := p4) (pa_cons px (pa_cons py pa_nil rfl) rfl)
  refine AE.of (pe_callB call_isiT hg hm (by decide +kernel) (pa_cons pe_tW (pa_cons pt pa_nil rfl) he) (by decide) (by decide) he rfl) fun σ S A H Q st p => h σ S A H _ st fun v d M1 S1 A1 H1 s1 st1 r1 ⟨kk, hk, q⟩ => ?_
  refine ⟨by rw [sizeLine_eq]; simp, fun a ha => ?_⟩
  obtain ⟨s2, st2⟩ := st1.lay (o := .tup [.ty t.nm, .ty u.nm]) ha
  obtain ⟨ty, e1, e2⟩ := Option.map_eq_some_iff.mp hk
  refine ⟨v, a, [.ty t.nm, .ty u.nm], .type ty.nm, [.type t.nm, .type u.nm], kk, rfl, upd_same, .cons (.ty _) (.cons (.ty _) .nil), tyD_ok st2 (r1.mono s2.s s2.a) e1, ?_, ((p.after s1).after s2).here st2 (.bl _) q⟩
  rw [← e2]
  exact Ty.kitAny [t, u]
end

/-! ### xs.append(e), xs.pop(), xs.pop(i), xs.extend(e): lists that are ours -/
def appD (d x : Dat) (M : Mem) : Option Mem := match d with
  | .ptr k => match M[k]? with
    | some (.lst ds) => if ds.length < sizeLine then some (M.set k (.lst (ds ++ [x]))) else none
    | _ => none
  | _ => none
def extD (d x : Dat) (M : Mem) : Option Mem := match d with
  | .ptr k => match M[k]? with
    | some (.lst ds) => match x with
      | .tup es => if ds.length + es.length ≤ sizeLine then some (M.set k (.lst (ds ++ es))) else none
      | .lst es => if ds.length + es.length ≤ sizeLine then some (M.set k (.lst (ds ++ es))) else none
      | _ => none
    | _ => none
  | _ => none
def popD (d : Dat) (M : Mem) : Option (Dat × Mem) := match d with
  | .ptr k => match M[k]? with
    | some (.lst ds) => match ds[ds.length - 1]? with
      | some y => some (y, M.set k (.lst ds.dropLast))
      | none => none
    | _ => none
  | _ => none
def popAtD (d i : Dat) (M : Mem) : Option (Dat × Mem) := match d, i with
  | .ptr k, .int i => match M[k]? with
    | some (.lst ds) => if -(2 ^ 63) ≤ i ∧ i < 2 ^ 63 then match seqIndex? i ds.length with
      | some j => match ds[j]? with
        | some y => some (y, M.set k (.lst (ds.eraseIdx j)))
        | none => none
      | none => none
      else none
    | _ => none
  | _, _ => none
/-- extend by a tuple -/
theorem ext_tup (l : Addr) (items : Array Value) (n : Nat) (b : Addr) (items2 : Array Value) (n2 : Nat) (dd : Option Addr) (sl : Array (Option Value)) (h0 : ¬(!items.isEmpty && Builtin.List.listTooLong (items.size + items2.size)) = true) (h1 : items.size ≤ sizeLine) (h2 : items.size + items2.size ≤ sizeLine + 1) :
    Meets (Builtin.«list.extend» ⟨[.ref l, .ref b], []⟩) fun _ R s => s.heap.get? l = some { cls := .type "list", dict := none, data := .seq items n, slots := #[] } ∧ s.heap.get? b = some { cls := .type "tuple", dict := dd, data := .seq items2 n2, slots := sl } ∧
      R (.ok (.ret Value.none)) { s with heap := s.heap.update l (Obj.mapSeq fun x => x ++ items2), toks := s.toks } :=
  .of_wp fun prog w A R s h => by
    obtain ⟨hp, g, d, tk, os⟩ := s
    obtain ⟨hl, hb, h⟩ := h
    have f2 := AutoSeq1.sub_tuple_tuple
    have f3 := AutoSeq1.sub_list_list
    have f4 := AutoSeq1.sub_tuple_list
    have f5 := AutoSeq1.sub_list_tuple
    have hz' : (items ++ items2).size ≤ sizeLine + 1 := by rw [Array.size_append]; exact h2
    wp_walk using (wpAny_updateSeq hl rfl (hz := h1) (_hz' := hz')), wpAny_loadPart' hl, wpAny_loadPart' hb
    exact ⟨_, rfl, h⟩
def rExtendT (K : PySem.W.Frag) : V → List V → Hp → VK → Prop := fun x vs H Q => ∃ l b xs zs, x = .ref l ∧ vs = [.ref b] ∧ H l = some (.lst xs) ∧ SqT K H b zs ∧ xs.length + zs.length ≤ sizeLine ∧ Q .non (upd H l (.lst (xs ++ zs)))
theorem mt_extendT {X : Cx} : MtM X "list.extend" (rExtendT X.K) := by
  intro pins s σ H x vs v us Q I rx rv h
  obtain ⟨l, b, xs, zs, rfl, rfl, hH, hB, hz, q⟩ := h
  cases rx
  obtain ⟨u, rfl, ru⟩ := rv.one
  cases ru
  obtain ⟨z, its, n, r, hl, e⟩ := I.lstM hH
  obtain ⟨its2, r2, ⟨⟨c, dd, dt, sl⟩, e2, hc, n2, hd⟩, hz2⟩ := I.tuple hB
  simp only at hc hd
  subst hc hd
  have l1 : its.toArray.size = xs.length := by rw [List.size_toArray]; exact hl.symm
  have l2 : its2.toArray.size = zs.length := by rw [List.size_toArray]; exact r2.length.symm
  have h0 : ¬ (!its.toArray.isEmpty && Builtin.List.listTooLong (its.toArray.size + its2.toArray.size)) = true := by
    rw [notLongL (by rw [l1, l2]; exact hz), Bool.and_false]
    exact Bool.false_ne_true
  refine call_meets F.slot_list_extend ⟨_, e, rfl⟩ F.entry_list_extend (F.args_list_extend_2 _ _) (ext_tup l its.toArray n b its2.toArray n2 dd sl h0 (by rw [l1]; exact z) (by rw [l1, l2]; omega)) ⟨e, e2, ?_⟩
  refine ⟨.non, _, I.lset (its' := its ++ its2) hH e (by simp) (r.append r2) ?_, rfl, q⟩
  rw [List.length_append]
  exact hz
section
variable {X : Cx} {b : Bas} {Γ : Gam} {M : Mem} {R : Dat → Mem → Prop} {o e : Expr} {apos cpos : Pos}
/-- is it a list of ours -/
def isCl (M : Mem) : Dat → Bool
  | .ptr k => match M[k]? with
    | some (.lst _) => true
    | _ => false
  | _ => false
theorem isCl_ok {M : Mem} {d : Dat} (h : isCl M d = true) : ∃ k ds, d = .ptr k ∧ M[k]? = some (.lst ds) := by
  cases d with
  | ptr k =>
    have h : (match M[k]? with | some (.lst _) => true | _ => false) = true := h
    split at h
    · rename_i ds e
      exact ⟨k, ds, rfl, e⟩
    · cases h
  | _ => cases h
theorem isCl_ty {σ : L2.St} {S : Hp} {A : List Addr} {H : Hp} {d : Dat} {v : V} (st : Stt X.K b σ S A H Γ M) (r : Rep X.K S A d v) (h : isCl M d = true) : tyV X.K "list" v H := by
  obtain ⟨k, ds, e1, hM⟩ := isCl_ok h
  subst e1
  cases r with
  | ptr hA =>
    obtain ⟨xs, g, _⟩ := st.cell _ _ _ hA hM
    exact .inl ⟨rfl, xs, .inl (.inl g)⟩
theorem A_append (h : AE X b o Γ M fun d M1 => isCl M1 d = true ∧ AE X b e Γ M1 fun d2 M2 => ∃ M3, appD d d2 M2 = some M3 ∧ R .non M3) (hbase : attributeBase o "append" X.env (eval o X.env) = eval o X.env := by rfl)
    (hline : (apos.endLine == cpos.line) = true := by rfl) (hs : starEach [e] X.env = (false, eval e X.env) :: starEach [] X.env := by rfl)
    (hfew : ((backTo cpos (starEach [e] X.env)).all (fun x => !x.1) && (backToKw cpos (keywordEach [] X.env)).all (fun x => x.1.isSome) && decide ([e].length + ([] : List Keyword).length + (if ([] : List Keyword).isEmpty then 0 else 1) < 30)) = true := by rfl) :
    AE X b (.Call (.Attribute o "append" apos) [e] [] cpos) Γ M R :=
  AE.of (pe_bm PySem.F.plainAttrs_list PySem.F.slot_list_append PySem.F.type_list_append mt_append pe_tW (pa_cons pe_tW pa_nil hs) hbase hfew hline hs rfl) fun σ S A H Q st p => h σ S A H _ st fun v d M1 S1 A1 H1 s1 st1 r1 ⟨hc, h1⟩ => by
    refine ⟨isCl_ty st1 r1 hc, h1 σ S1 A1 H1 _ st1 fun v2 d2 M2 S2 A2 H2 s2 st2 r2 ⟨M3, hap, q⟩ => ?_⟩
    unfold appD at hap
    split at hap
    · rename_i k
      split at hap
      · rename_i ds hM
        split at hap
        · rename_i hlt
          cases hap
          cases r1.mono s2.s s2.a with
          | @ptr _ a hA =>
            obtain ⟨xs, g, rr⟩ := st2.cell _ _ _ hA hM
            obtain ⟨s3, st3⟩ := st2.write (o := .lst (xs ++ [v2])) (c := .lst (ds ++ [d2])) hA hM (fun z => nomatch z) ⟨_, upd_same, rr.append (.cons r2 .nil)⟩
            exact ⟨a, xs, v2, rfl, rfl, g, by rw [← rr.length]; exact hlt, ((p.after (s1.trans s2)).after s3).here st3 .non q⟩
        · cases hap
      · cases hap
    · cases hap
/-- xs.extend(e), e a list or a tuple -/
theorem mt_extendX : MtM X "list.extend" (fun x vs H Q => rExtend x vs H Q ∨ rExtendT X.K x vs H Q) := fun pins s σ H x vs v us Q I rx rv h => by
  rcases h with h | h
  · exact mt_extend pins s σ H x vs v us Q I rx rv h
  · exact mt_extendT pins s σ H x vs v us Q I rx rv h
theorem A_extend (h : AE X b o Γ M fun d M1 => isCl M1 d = true ∧ AE X b e Γ M1 fun d2 M2 => ∃ M3, extD d d2 M2 = some M3 ∧ R .non M3) (hbase : attributeBase o "extend" X.env (eval o X.env) = eval o X.env := by rfl)
    (hline : (apos.endLine == cpos.line) = true := by rfl) (hs : starEach [e] X.env = (false, eval e X.env) :: starEach [] X.env := by rfl)
    (hfew : ((backTo cpos (starEach [e] X.env)).all (fun x => !x.1) && (backToKw cpos (keywordEach [] X.env)).all (fun x => x.1.isSome) && decide ([e].length + ([] : List Keyword).length + (if ([] : List Keyword).isEmpty then 0 else 1) < 30)) = true := by rfl) :
    AE X b (.Call (.Attribute o "extend" apos) [e] [] cpos) Γ M R :=
  AE.of (pe_bm PySem.F.plainAttrs_list PySem.F.slot_list_extend PySem.F.type_list_extend mt_extendX pe_tW (pa_cons pe_tW pa_nil hs) hbase hfew hline hs rfl) fun σ S A H Q st p => h σ S A H _ st fun v d M1 S1 A1 H1 s1 st1 r1 ⟨hc, h1⟩ => by
    refine ⟨isCl_ty st1 r1 hc, h1 σ S1 A1 H1 _ st1 fun v2 d2 M2 S2 A2 H2 s2 st2 r2 ⟨M3, hap, q⟩ => ?_⟩
    unfold extD at hap
    split at hap
    · rename_i k
      split at hap
      · rename_i ds hM
        cases r1.mono s2.s s2.a with
        | @ptr _ a hA =>
          obtain ⟨xs, g, rr⟩ := st2.cell _ _ _ hA hM
          split at hap
          · rename_i es
            split at hap
            · rename_i hz
              cases hap
              cases r2 with
              | @tup t ys _ gy ry =>
                obtain ⟨s3, st3⟩ := st2.write (o := .lst (xs ++ ys)) (c := .lst (ds ++ es)) hA hM (fun z => nomatch z) ⟨_, upd_same, rr.append ry⟩
                exact .inr ⟨a, t, xs, ys, rfl, rfl, g, Same.sqt st2.sub gy, by rw [← rr.length, ← ry.length]; exact hz, ((p.after (s1.trans s2)).after s3).here st3 .non q⟩
            · cases hap
          · rename_i es
            split at hap
            · rename_i hz
              cases hap
              cases r2 with
              | @lst t ys _ gy ry =>
                obtain ⟨s3, st3⟩ := st2.write (o := .lst (xs ++ ys)) (c := .lst (ds ++ es)) hA hM (fun z => nomatch z) ⟨_, upd_same, rr.append ry⟩
                exact .inl ⟨a, t, xs, ys, rfl, rfl, g, st2.sub _ _ gy, by rw [← rr.length, ← ry.length]; exact hz, ((p.after (s1.trans s2)).after s3).here st3 .non q⟩
            · cases hap
          · cases hap
      · cases hap
    · cases hap
theorem A_pop (h : AE X b o Γ M fun d M1 => ∃ r, popD d M1 = some r ∧ R r.1 r.2) (hbase : attributeBase o "pop" X.env (eval o X.env) = eval o X.env := by rfl) (hline : (apos.endLine == cpos.line) = true := by rfl) :
    AE X b (.Call (.Attribute o "pop" apos) [] [] cpos) Γ M R :=
  AE.of (pe_bm0 PySem.F.plainAttrs_list PySem.F.slot_list_pop PySem.F.type_list_pop mt_pop pe_tW hbase hline) fun σ S A H Q st p => h σ S A H _ st fun v d M1 S1 A1 H1 s1 st1 r1 ⟨r, hp, q⟩ => by
    unfold popD at hp
    split at hp
    · rename_i k
      split at hp
      · rename_i ds hM
        split at hp
        · rename_i y hy
          cases hp
          refine ⟨isCl_ty st1 r1 (by simp only [isCl, hM]), ?_⟩
          cases r1 with
          | @ptr _ a hA =>
            obtain ⟨xs, g, rr⟩ := st1.cell _ _ _ hA hM
            obtain ⟨s3, st3⟩ := st1.write (o := .lst xs.dropLast) (c := .lst ds.dropLast) hA hM (fun z => nomatch z) ⟨_, upd_same, rr.dropLast⟩
            obtain ⟨u, hu, ru⟩ := rr.getD hy
            exact ⟨a, xs, u, rfl, rfl, g, by rw [← rr.length]; exact hu, ((p.after s1).after s3).here st3 (ru.mono s3.s s3.a) q⟩
        · cases hp
      · cases hp
    · cases hp
theorem A_popAt (h : AE X b o Γ M fun d M1 => isCl M1 d = true ∧ AE X b e Γ M1 fun d2 M2 => ∃ r, popAtD d d2 M2 = some r ∧ R r.1 r.2) (hbase : attributeBase o "pop" X.env (eval o X.env) = eval o X.env := by rfl)
    (hline : (apos.endLine == cpos.line) = true := by rfl) (hs : starEach [e] X.env = (false, eval e X.env) :: starEach [] X.env := by rfl)
    (hfew : ((backTo cpos (starEach [e] X.env)).all (fun x => !x.1) && (backToKw cpos (keywordEach [] X.env)).all (fun x => x.1.isSome) && decide ([e].length + ([] : List Keyword).length + (if ([] : List Keyword).isEmpty then 0 else 1) < 30)) = true := by rfl) :
    AE X b (.Call (.Attribute o "pop" apos) [e] [] cpos) Γ M R :=
  AE.of (pe_bm PySem.F.plainAttrs_list PySem.F.slot_list_pop PySem.F.type_list_pop mt_popAt pe_tW (pa_cons pe_tW pa_nil hs) hbase hfew hline hs rfl) fun σ S A H Q st p => h σ S A H _ st fun v d M1 S1 A1 H1 s1 st1 r1 ⟨hc, h1⟩ => by
    refine ⟨isCl_ty st1 r1 hc, h1 σ S1 A1 H1 _ st1 fun v2 d2 M2 S2 A2 H2 s2 st2 r2 ⟨r, hp, q⟩ => ?_⟩
    unfold popAtD at hp
    split at hp
    · rename_i k i
      split at hp
      · rename_i ds hM
        split at hp
        · rename_i hi
          split at hp
          · rename_i j hj
            split at hp
            · rename_i y hy
              cases hp
              cases r2
              cases r1.mono s2.s s2.a with
              | @ptr _ a hA =>
                obtain ⟨xs, g, rr⟩ := st2.cell _ _ _ hA hM
                obtain ⟨s3, st3⟩ := st2.write (o := .lst (xs.eraseIdx j)) (c := .lst (ds.eraseIdx j)) hA hM (fun z => nomatch z) ⟨_, upd_same, rr.eraseIdx j⟩
                obtain ⟨u, hu, ru⟩ := rr.getD hy
                exact ⟨a, xs, _, j, u, rfl, rfl, g, hi.1, hi.2, by rw [← rr.length]; exact hj, hu, ((p.after (s1.trans s2)).after s3).here st3 (ru.mono s3.s s3.a) q⟩
            · cases hp
          · cases hp
        · cases hp
      · cases hp
    · cases hp
end
end Ab
end

section
set_option Elab.async false
set_option linter.all false
set_option maxRecDepth 100000
set_option maxHeartbeats 4000000
/-! Ab12: zip, enumerate by data. -/
namespace Ab
open PySem PySem.Spec PyProof.Rows L2

def pairD (a b : Dat) : Dat := .tup [a, b]
theorem walk_zipT {K : PySem.W.Frag} {a b : Addr} {xs ys : List V} {n : Nat} (hn : n = min xs.length ys.length) : Walk (RZ.ItzT K a b) n (fun H => SqT K H a xs ∧ SqT K H b ys) (YPair (fun i => xs[i]?) (fun i => ys[i]?)) := by
  subst hn
  refine ⟨fun i _ hi q => ?_, fun _ q => ⟨xs, ys, q.1, q.2, by omega⟩, fun i H v H' _ q y => ?_⟩
  · have h1 : i < xs.length := by omega
    have h2 : i < ys.length := by omega
    exact ⟨xs, ys, xs[i], ys[i], q.1, q.2, by simp [h1], by simp [h2]⟩
  · obtain ⟨T, x, z, h1, h2, h3, h4, h5⟩ := y
    exact ⟨T, x, z, h1, h2, h3, h4 xs q.1, h5 ys q.2⟩
/-- zip of lists, for the data as they stand -/
def YZipE (K : PySem.W.Frag) (a b : Addr) : Nat → Hp → V → Hp → Prop := fun i H v H' => ∃ T x y, v = .ref T ∧ H T = none ∧ H' = upd H T (.tup [x, y]) ∧ (∀ xs, SqL K H a xs → xs[i]? = some x) ∧ ∀ ys, SqL K H b ys → ys[i]? = some y
theorem walk_zipE {K : PySem.W.Frag} {a b : Addr} {n m : Nat} : Walk (Itz K a b) (min n m) (fun H => (∃ xs, SqL K H a xs ∧ xs.length = n) ∧ ∃ ys, SqL K H b ys ∧ ys.length = m) (YZipE K a b) := by
  refine ⟨fun i _ hi q => ?_, fun _ q => ?_, fun i H v H' _ q y => y⟩
  · obtain ⟨⟨xs, q1, l1⟩, ys, q2, l2⟩ := q
    have h1 : i < xs.length := by omega
    have h2 : i < ys.length := by omega
    exact ⟨xs, ys, xs[i], ys[i], q1, q2, by simp [h1], by simp [h2]⟩
  · obtain ⟨⟨xs, q1, l1⟩, ys, q2, l2⟩ := q
    exact ⟨xs, ys, q1, q2, by omega⟩
def YEnumE (K : PySem.W.Frag) (a : Addr) : Nat → Hp → V → Hp → Prop := fun i H v H' => ∃ T x, v = .ref T ∧ H T = none ∧ H' = upd H T (.tup [.int (i : Nat), x]) ∧ (∀ xs, SqL K H a xs → xs[i]? = some x)
theorem walk_enumE {K : PySem.W.Frag} {a : Addr} {n : Nat} : Walk (Ite K a) n (fun H => ∃ xs, SqL K H a xs ∧ xs.length = n) (YEnumE K a) := by
  refine ⟨fun i _ hi ⟨xs, q, hl⟩ => ⟨xs, xs[i], q, by simp [hl, hi]⟩, fun _ ⟨xs, q, hl⟩ => ⟨xs, q, by omega⟩, fun i H v H' _ q y => ?_⟩
  obtain ⟨T, x, h1, h2, h3, h4⟩ := y
  exact ⟨T, x, h1, h2, h3, h4⟩
section
variable {K : PySem.W.Frag} {b : Bas} {σ : L2.St} {S : Hp} {A : List Addr} {H : Hp} {Γ : Gam} {M : Mem} {d d' : Dat} {ds es : List Dat} {v v' : V}
theorem isR_again {S2 : Hp} {A2 : List Addr} {H2 : Hp} {Γ2 : Gam} {M2 : Mem} {σ2 : L2.St} {a : Addr} (i : IsR M d ds) (r : Rep K S A d (.ref a)) (s2 : Step S A H S2 A2 H2) (st2 : Stt K b σ2 S2 A2 H2 Γ2 M2) (hG : GmOf d ds M2) : ∃ xs, SqL K H2 a xs ∧ Reps K S2 A2 ds xs := by
  have i2 : IsR M2 d ds := by
    cases i with
    | l il =>
      cases il with
      | lst => exact .l (.lst ds)
      | ptr hM => exact .l (.ptr hG)
    | rol => exact .rol ds
  obtain ⟨a2, xs2, ev2, g2, q2⟩ := i2.at st2 (r.mono s2.s s2.a)
  have ea : a = a2 := V.ref.inj ev2
  subst ea
  exact ⟨xs2, g2, q2⟩
theorem zip_get {i : Nat} {x y : Dat} (h1 : ds[i]? = some x) (h2 : es[i]? = some y) : (List.zipWith pairD ds es)[i]? = some (pairD x y) := by
  rw [List.getElem?_zipWith, h1, h2]
theorem gives_zip (i : IsR M d ds) (j : IsR M d' es) (st : Stt K b σ S A H Γ M) (r : Rep K S A d v) (r' : Rep K S A d' v') : ∃ a a' xs ys, v = .ref a ∧ v' = .ref a' ∧ SqL K H a xs ∧ SqL K H a' ys ∧ Gives K b S A H (Itz K a a') (List.zipWith pairD ds es) (fun M => GmOf d ds M ∧ GmOf d' es M) := by
  obtain ⟨a, xs, ev, g, q⟩ := i.at st r
  obtain ⟨a', ys, ev', g', q'⟩ := j.at st r'
  subst ev ev'
  refine ⟨a, a', xs, ys, rfl, rfl, g, g', ⟨⟨_, _, by rw [List.length_zipWith]; exact walk_zipE (n := ds.length) (m := es.length), fun σ2 S2 A2 H2 Γ2 M2 s2 st2 hG => ?_, fun σ2 S2 A2 H2 Γ2 M2 k x H3 s2 st2 hG hi hY => ?_⟩, fun _ _ _ => trivial⟩⟩
  · obtain ⟨xs2, g2, q2⟩ := isR_again i r s2 st2 hG.1
    obtain ⟨ys2, g3, q3⟩ := isR_again j r' s2 st2 hG.2
    exact ⟨⟨xs2, g2, q2.length.symm⟩, ys2, g3, q3.length.symm⟩
  · obtain ⟨xs2, g2, q2⟩ := isR_again i r s2 st2 hG.1
    obtain ⟨ys2, g3, q3⟩ := isR_again j r' s2 st2 hG.2
    obtain ⟨T, x1, y1, e1, hT, e2, h4, h5⟩ := hY
    subst e1 e2
    obtain ⟨dx, k1, k2⟩ := q2.get (h4 _ g2)
    obtain ⟨dy, k3, k4⟩ := q3.get (h5 _ g3)
    obtain ⟨s3, st3⟩ := st2.lay (o := .tup [x1, y1]) hT
    exact ⟨_, pairD dx dy, zip_get k1 k3, s3, st3, .tup (.inl (.inl upd_same)) (.cons (k2.mono s3.s s3.a) (.cons (k4.mono s3.s s3.a) .nil))⟩
theorem gives_zipT (st : Stt K b σ S A H Γ M) (r : Rep K S A (.tup ds) v) (r' : Rep K S A (.tup es) v') : ∃ a a' xs ys, v = .ref a ∧ v' = .ref a' ∧ SqT K H a xs ∧ SqT K H a' ys ∧ Gives K b S A H (RZ.ItzT K a a') (List.zipWith pairD ds es) (fun _ => True) := by
  cases r with
  | @tup a xs _ g q =>
    cases r' with
    | @tup a' ys _ g' q' =>
      refine ⟨a, a', xs, ys, rfl, rfl, Same.sqt st.sub g, Same.sqt st.sub g', ⟨⟨fun H => SqT K H a xs ∧ SqT K H a' ys, YPair (fun i => xs[i]?) (fun i => ys[i]?), by rw [List.length_zipWith, q.length, q'.length]; exact walk_zipT (xs := xs) (ys := ys) rfl, fun σ2 S2 A2 H2 Γ2 M2 s2 st2 hG => ⟨Same.sqt st2.sub (Same.sqt s2.s g), Same.sqt st2.sub (Same.sqt s2.s g')⟩, fun σ2 S2 A2 H2 Γ2 M2 k x H3 s2 st2 hG hi hY => ?_⟩, fun _ _ _ => trivial⟩⟩
      obtain ⟨T, x1, y1, e1, hT, e2, h4, h5⟩ := hY
      subst e1 e2
      obtain ⟨dx, k1, k2⟩ := (q.mono s2.s s2.a).get h4
      obtain ⟨dy, k3, k4⟩ := (q'.mono s2.s s2.a).get h5
      obtain ⟨s3, st3⟩ := st2.lay (o := .tup [x1, y1]) hT
      exact ⟨_, pairD dx dy, zip_get k1 k3, s3, st3, .tup (.inl (.inl upd_same)) (.cons (k2.mono s3.s s3.a) (.cons (k4.mono s3.s s3.a) .nil))⟩
def enumD (ds : List Dat) : List Dat := List.zipWith pairD ((List.range ds.length).map fun i => .int (i : Nat)) ds
theorem enumD_length : (enumD ds).length = ds.length := by unfold enumD; simp
theorem gives_enum (i : IsR M d ds) (st : Stt K b σ S A H Γ M) (r : Rep K S A d v) : ∃ a xs, v = .ref a ∧ SqL K H a xs ∧ Gives K b S A H (Ite K a) (enumD ds) (GmOf d ds) := by
  obtain ⟨a, xs, ev, g, q⟩ := i.at st r
  subst ev
  refine ⟨a, xs, rfl, g, ⟨⟨_, _, by rw [enumD_length]; exact walk_enumE (n := ds.length), fun σ2 S2 A2 H2 Γ2 M2 s2 st2 hG => ?_, fun σ2 S2 A2 H2 Γ2 M2 k x H3 s2 st2 hG hi hY => ?_⟩, fun _ _ _ => trivial⟩⟩
  · obtain ⟨xs2, g2, q2⟩ := isR_again i r s2 st2 hG
    exact ⟨xs2, g2, q2.length.symm⟩
  · obtain ⟨xs2, g2, q2⟩ := isR_again i r s2 st2 hG
    obtain ⟨T, x1, e1, hT, e2, h4⟩ := hY
    subst e1 e2
    obtain ⟨dx, k1, k2⟩ := q2.get (h4 _ g2)
    obtain ⟨s3, st3⟩ := st2.lay (o := .tup [.int (k : Nat), x1]) hT
    rw [enumD_length] at hi
    exact ⟨_, pairD (.int (k : Nat)) dx, zip_get (by rw [List.getElem?_map, List.getElem?_range hi] <;> rfl) k1, s3, st3, .tup (.inl (.inl upd_same)) (.cons (.int _) (.cons (k2.mono s3.s s3.a) .nil))⟩
end
section
variable {X : Cx} {b : Bas} {Γ : Gam} {M : Mem} {e e2 : Expr} {pos p tpos : Pos} {R : List Dat → (Mem → Prop) → Mem → Prop} {elts : List Expr} {kk : Nat}
theorem I_enum (hg : Gl X "enumerate") (hm : X.mg "enumerate" = none) (h : AE X b e Γ M fun d M1 => ∃ ds, IsR M1 d ds ∧ R (enumD ds) (GmOf d ds) M1) (hs : starEach [e] X.env = [(false, eval e X.env)] := by rfl) : AI X b (.Tuple elts kk tpos) (.Call (.Name "enumerate" p) [e] [] pos) Γ M R :=
  ⟨_, pi_enum hg hm (pa_cons pe_tW pa_nil hs) hs, fun σ S A H Rw st k => h σ S A H _ st fun v d M1 S1 A1 H1 s1 st1 r1 ⟨ds, i, q⟩ => by
    obtain ⟨a, xs, ev, hx, g⟩ := gives_enum i st1 r1
    subst ev
    exact ⟨a, xs, rfl, hx, k _ _ _ M1 S1 A1 H1 s1 st1 g q⟩⟩
theorem I_zip (hg : Gl X "zip") (hm : X.mg "zip" = none) (h : AE X b e Γ M fun d M1 => AE X b e2 Γ M1 fun d' M2 => (∃ ds es, IsR M2 d ds ∧ IsR M2 d' es ∧ R (List.zipWith pairD ds es) (fun M => GmOf d ds M ∧ GmOf d' es M) M2) ∨ ∃ ds es, d = .tup ds ∧ d' = .tup es ∧ R (List.zipWith pairD ds es) (fun _ => True) M2)
    (hs : starEach [e, e2] X.env = (false, eval e X.env) :: starEach [e2] X.env := by rfl) (hs2 : starEach [e2] X.env = (false, eval e2 X.env) :: starEach [] X.env := by rfl) (hpl : (backTo pos (starEach [e2] X.env)).any (·.1) = false := by rfl) : AI X b (.Tuple elts kk tpos) (.Call (.Name "zip" p) [e, e2] [] pos) Γ M R :=
  ⟨_, RZ.pi_zipA hg hm (pa_cons pe_tW (pa_cons pe_tW pa_nil hs2) hs) hs hpl, fun σ S A H Rw st k => h σ S A H _ st fun v d M1 S1 A1 H1 s1 st1 r1 h1 => h1 σ S1 A1 H1 _ st1 fun v2 d2 M2 S2 A2 H2 s2 st2 r2 h2 => by
    rcases h2 with ⟨ds, es, i, j, q⟩ | ⟨ds, es, e1, e2, q⟩
    · obtain ⟨a, a', xs, ys, ev, ev', hx, hy, g⟩ := gives_zip i j st2 (r1.mono s2.s s2.a) r2
      subst ev ev'
      exact ⟨a, a', xs, ys, rfl, .inl ⟨hx, hy, k _ _ _ M2 S2 A2 H2 (s1.trans s2) st2 g q⟩⟩
    · subst e1 e2
      obtain ⟨a, a', xs, ys, ev, ev', hx, hy, g⟩ := gives_zipT st2 (r1.mono s2.s s2.a) r2
      subst ev ev'
      exact ⟨a, a', xs, ys, rfl, .inr ⟨hx, hy, k _ _ _ M2 S2 A2 H2 (s1.trans s2) st2 g q⟩⟩⟩
end
end Ab
end

section
set_option Elab.async false
set_option linter.all false
set_option maxRecDepth 100000
set_option maxHeartbeats 4000000
/-! Ab13: the small language and its runner. -/
namespace Ab
open PySem PySem.Spec PyProof.Rows L2

/-! ### a total order of data; sorting -/
mutual
def Dat.cmp : Dat → Dat → Ordering
  | .int i, .int j => if i < j then .lt else if i = j then .eq else .gt
  | .tup xs, .tup ys => Dat.cmps xs ys
  | .int _, _ => .lt
  | .tup _, .int _ => .gt
  | .tup _, _ => .lt
  | _, .int _ => .gt
  | _, .tup _ => .gt
  | _, _ => .eq
def Dat.cmps : List Dat → List Dat → Ordering
  | [], [] => .eq
  | [], _ :: _ => .lt
  | _ :: _, [] => .gt
  | x :: xs, y :: ys => match Dat.cmp x y with
    | .eq => Dat.cmps xs ys
    | o => o
end
def Dat.lt (x y : Dat) : Bool := match Dat.cmp x y with
  | .lt => true
  | _ => false
mutual
def Dat.like : Dat → Dat → Bool
  | .int _, .int _ => true
  | .tup xs, .tup ys => Dat.likes xs ys
  | _, _ => false
def Dat.likes : List Dat → List Dat → Bool
  | x :: xs, y :: ys => Dat.like x y && Dat.likes xs ys
  | _, _ => true
end
def insD (x : Dat) : List Dat → List Dat
  | [] => [x]
  | y :: ys => if Dat.lt y x then y :: insD x ys else x :: y :: ys
def isortD : List Dat → List Dat
  | [] => []
  | x :: xs => insD x (isortD xs)
def Dat.isI : Dat → Bool
  | .int _ => true
  | _ => false
def Dat.headI : Dat → Bool
  | .tup (.int _ :: _) => true
  | _ => false
def Dat.headT : Dat → Bool
  | .tup (.tup _ :: _) => true
  | _ => false
def Dat.shp (d : Dat) : Bool := match d.py with
  | some p => SeqAt.shaped p
  | none => false
def srtD (ds : List Dat) : Option (List Dat) :=
  if ds.length < 2 then (match Dat.pys ds with
    | some _ => some ds
    | none => none)
  else if (ds.all Dat.isI || ds.all Dat.headI || ds.all Dat.headT) && ds.all Dat.shp && (ds.all fun x => ds.all fun y => Dat.like x y) then some (isortD ds)
  else none

/-! ### one-place operations -/
inductive B1 where
  | neg | notB | len | abs | int | list | listC | tuple | sum | all | any | isN | notN | srt | srtC | pop | isi (ts : List Ty)
def lenD (M : Mem) (d : Dat) : Option Nat := match d with
  | .str z => if z.length ≤ sizeLine then some z.length else none
  | d => (sq M d).map List.length
def un1 : B1 → Dat → Mem → Option (Dat × Mem)
  | .neg, .int i, M => some (.int (-i), M)
  | .notB, .bl k, M => some (.bl (!k), M)
  | .len, d, M => (lenD M d).map fun (n : Nat) => (.int n, M)
  | .abs, .int i, M => some (.int (if i < 0 then -i else i), M)
  | .int, .int i, M => some (.int i, M)
  | .int, .bl k, M => some (.int (if k then 1 else 0), M)
  | .list, d, M => (sq M d).map fun ds => (.lst ds, M)
  | .listC, d, M => (sq M d).map fun ds => (.ptr M.length, M ++ [.lst ds])
  | .tuple, d, M => (sq M d).map fun ds => (.tup ds, M)
  | .sum, d, M => (rd M d).bind fun ds => (intsD ds).map fun ns => (.int ns.sum, M)
  | .all, d, M => (rd M d).bind fun ds => (boolsD ds).map fun ns => (.bl (ns.all id), M)
  | .any, d, M => (rd M d).bind fun ds => (boolsD ds).map fun ns => (.bl (ns.any id), M)
  | .isN, d, M => match d with
    | .oth _ => none
    | d => some (.bl d.isN, M)
  | .notN, d, M => match d with
    | .oth _ => none
    | d => some (.bl (!d.isN), M)
  | .srt, d, M => (sq M d).bind fun ds => (srtD ds).map fun es => (.lst es, M)
  | .srtC, d, M => (sq M d).bind fun ds => (srtD ds).map fun es => (.ptr M.length, M ++ [.lst es])
  | .pop, d, M => popD d M
  | .isi ts, d, M => (isiD M ts d).map fun k => (.bl k, M)
  | _, _, _ => none
/-! ### two-place operations -/
inductive B2 where
  | op (o : Operator) | cmp (o : CmpOp) | eqv | neqv | inn | ninn | catL | catC | catT | repL | repC | repT | ix | max | min
def repOk (n : Nat) (k : Int) : Bool := decide (-(2 ^ 63) ≤ k) && decide (k < 2 ^ 63) && decide (n * k.toNat ≤ sizeLine)
def bin2 : B2 → Dat → Dat → Mem → Option (Dat × Mem)
  | .op o, d, e, M => (binD o d e).map fun x => (x, M)
  | .cmp o, d, e, M => (cmpD o d e).map fun k => (.bl k, M)
  | .eqv, d, e, M => (eqvD M d e).map fun k => (.bl k, M)
  | .neqv, d, e, M => (eqvD M d e).map fun k => (.bl (!k), M)
  | .inn, d, e, M => (inD M d e).map fun k => (.bl k, M)
  | .ninn, d, e, M => (inD M d e).map fun k => (.bl (!k), M)
  | .catL, d, e, M => (rdL M d).bind fun xs => (rdL M e).bind fun ys => if xs.length + ys.length ≤ sizeLine then some (.lst (xs ++ ys), M) else none
  | .catC, d, e, M => (rdL M d).bind fun xs => (rdL M e).bind fun ys => if xs.length + ys.length ≤ sizeLine then some (.ptr M.length, M ++ [.lst (xs ++ ys)]) else none
  | .catT, .tup xs, .tup ys, M => if xs.length + ys.length ≤ sizeLine then some (.tup (xs ++ ys), M) else none
  | .repL, d, .int k, M => (rdL M d).bind fun xs => if repOk xs.length k then some (.lst (List.replicate k.toNat xs).flatten, M) else none
  | .repC, d, .int k, M => (rdL M d).bind fun xs => if repOk xs.length k then some (.ptr M.length, M ++ [.lst (List.replicate k.toNat xs).flatten]) else none
  | .ix, d, e, M => (itemD M d e).map fun x => (x, M)
  | .max, .int i, .int j, M => some (.int (if j > i then j else i), M)
  | .min, .int i, .int j, M => some (.int (if j < i then j else i), M)
  | _, _, _, _ => none
/-- methods with one argument: the receiver is a list of ours -/
inductive M1 where
  | append | extend | popAt
def mth1 : M1 → Dat → Dat → Mem → Option (Dat × Mem)
  | .append, d, e, M => (appD d e M).map fun M => (.non, M)
  | .extend, d, e, M => (extD d e M).map fun M => (.non, M)
  | .popAt, d, e, M => popAtD d e M
inductive Cw where
  | fz | cl | hp
def cutX (M : Mem) (d : Dat) (lo hi : Option Int) : Option Dat := match d with
  | .tup ds => some (.tup (cutD ds lo hi))
  | .str z => if z.length ≤ sizeLine then some (.str (cutS z lo hi)) else none
  | d => (rd M d).map fun ds => .lst (cutD ds lo hi)

/-! ### expressions -/
mutual
inductive Ex where
  | var (i : Nat)
  | dat (d : Dat)
  | un (f : B1) (e : Ex)
  | bin (f : B2) (a c : Ex)
  | mth (f : M1) (a c : Ex)
  | chain (o o' : CmpOp) (a c e : Ex)
  | and (a c : Ex)
  | or (a c : Ex)
  | orL (a c : Ex)
  | ite (c a e : Ex)
  | tup (es : Exs)
  | lst (es : Exs)
  | lstC (es : Exs)
  | sl (a : Ex) (lo hi : Exo)
  | slC (a : Ex) (lo hi : Exo)
  | lc (c : Bool) (t : Tgt) (vs : List Nat) (it : Ir) (cond : Ex) (e : Ex)
  | call (w : Cw) (j : Nat) (es : Exs)
inductive Exs where
  | nil
  | cons (e : Ex) (es : Exs)
inductive Exo where
  | none
  | some (e : Ex)
inductive Ir where
  | lst (e : Ex)
  | tup (e : Ex)
  | any (e : Ex)
  | rng1 (e : Ex)
  | rng2 (e e' : Ex)
  | zip (e e' : Ex)
  | enum (e : Ex)
end
abbrev CallF := Nat → List Dat → Mem → Rs Dat
def ofO {α : Type} : Option (α × Mem) → Rs α
  | some (a, M) => .ok a M
  | none => .no
def asB (r : Rs Dat) : Rs Bool := r.bind fun d M => match d with
  | .bl k => .ok k M
  | _ => .no
def putT : Tgt → Dat → Gam → Option Gam
  | .one i, d, Γ => some (Γ.set i (some d))
  | .tup is, .tup ds, Γ => if ds.length = is.length then some (putAll is ds Γ) else none
  | .tup _, _, _ => none
/-- what must still stand while a thing is walked -/
abbrev Gd := List (Dat × List Dat)
mutual
def Dat.same : Dat → Dat → Bool
  | .non, .non => true
  | .bl a, .bl b => a == b
  | .int a, .int b => decide (a = b)
  | .str a, .str b => decide (a = b)
  | .tup a, .tup b => Dat.sames a b
  | .lst a, .lst b => Dat.sames a b
  | .rol a, .rol b => Dat.sames a b
  | .ptr a, .ptr b => decide (a = b)
  | _, _ => false
def Dat.sames : List Dat → List Dat → Bool
  | [], [] => true
  | x :: xs, y :: ys => Dat.same x y && Dat.sames xs ys
  | _, _ => false
end
def gdOk1 (M : Mem) : Dat × List Dat → Bool
  | (.ptr k, ds) => match M[k]? with
    | some (.lst es) => Dat.sames es ds
    | _ => false
  | _ => true
def gdOk (M : Mem) (g : Gd) : Bool := g.all (gdOk1 M)
/-- the comprehension's turns -/
def lcGo (g : Gd) (f : Dat → Mem → Rs (Option Dat)) : List Dat → List Dat → Mem → Rs (List Dat)
  | [], acc, M => .ok acc M
  | d :: ds, acc, M => match f d M with
    | .ok (some y) M' => if gdOk M' g then lcGo g f ds (acc ++ [y]) M' else .no
    | .ok none M' => if gdOk M' g then lcGo g f ds acc M' else .no
    | _ => .no
def isR62 (i : Int) : Bool := decide (-(2 ^ 62) ≤ i) && decide (i < 2 ^ 62)
def callW (cf : CallF) : Cw → Nat → List Dat → Mem → Rs Dat
  | .fz, j, ds, M => callN backF (cf j) ds M
  | .cl, j, ds, M => callN backC (cf j) ds M
  | .hp, j, ds, M => cf j ds M
mutual
def evE (cf : CallF) : Ex → Gam → Mem → Rs Dat
  | .var i, Γ, M => match Γ[i]? with
    | some (some d) => .ok d M
    | _ => .no
  | .dat d, _, M => .ok d M
  | .un f e, Γ, M => (evE cf e Γ M).bind fun d M => ofO (un1 f d M)
  | .bin f a c, Γ, M => (evE cf a Γ M).bind fun d M => (evE cf c Γ M).bind fun e M => ofO (bin2 f d e M)
  | .mth f a c, Γ, M => (evE cf a Γ M).bind fun d M => if isCl M d then (evE cf c Γ M).bind fun e M => ofO (mth1 f d e M) else .no
  | .chain o o' a c e, Γ, M => (evE cf a Γ M).bind fun d M => (evE cf c Γ M).bind fun x M => match cmpI o d x with
    | some true => (evE cf e Γ M).bind fun y M => match cmpI o' x y with
      | some k => .ok (.bl k) M
      | none => .no
    | some false => .ok (.bl false) M
    | none => .no
  | .and a c, Γ, M => (asB (evE cf a Γ M)).bind fun k M => match k with
    | true => evE cf c Γ M
    | false => .ok (.bl false) M
  | .or a c, Γ, M => (asB (evE cf a Γ M)).bind fun k M => match k with
    | true => .ok (.bl true) M
    | false => evE cf c Γ M
  | .orL a c, Γ, M => (evE cf a Γ M).bind fun d M => match rd M d with
    | some [] => evE cf c Γ M
    | some (_ :: _) => .ok d M
    | none => .no
  | .ite c a e, Γ, M => (asB (evE cf c Γ M)).bind fun k M => match k with
    | true => evE cf a Γ M
    | false => evE cf e Γ M
  | .tup es, Γ, M => (evA cf es Γ M).bind fun ds M => if ds.length ≤ sizeLine then .ok (.tup ds) M else .no
  | .lst es, Γ, M => (evA cf es Γ M).bind fun ds M => if ds.length ≤ sizeLine then .ok (.lst ds) M else .no
  | .lstC es, Γ, M => (evA cf es Γ M).bind fun ds M => if ds.length ≤ sizeLine then .ok (.ptr M.length) (M ++ [.lst ds]) else .no
  | .sl a lo hi, Γ, M => (evE cf a Γ M).bind fun d M => (evO cf lo Γ M).bind fun l M => (evO cf hi Γ M).bind fun u M => match cutX M d l u with
    | some x => .ok x M
    | none => .no
  | .slC a lo hi, Γ, M => (evE cf a Γ M).bind fun d M => (evO cf lo Γ M).bind fun l M => (evO cf hi Γ M).bind fun u M => match rd M d with
    | some ds => .ok (.ptr M.length) (M ++ [.lst (cutD ds l u)])
    | none => .no
  | .lc c t vs it cond e, Γ, M => (evI cf it Γ M).bind fun (ds, g) M =>
    if ds.length ≤ sizeLine ∧ gdOk M g = true then
      (lcGo g (fun d M => match putT t d (wipeG Γ vs) with
        | some Γ2 => (asB (evE cf cond Γ2 M)).bind fun k M => match k with
          | true => (evE cf e Γ2 M).bind fun y M => .ok (some y) M
          | false => .ok none M
        | none => .no) ds [] M).bind fun acc M => if c then .ok (.ptr M.length) (M ++ [.lst acc]) else .ok (.lst acc) M
    else .no
  | .call w j es, Γ, M => (evA cf es Γ M).bind fun ds M => (callW cf w j ds M).at Γ
def evA (cf : CallF) : Exs → Gam → Mem → Rs (List Dat)
  | .nil, _, M => .ok [] M
  | .cons e es, Γ, M => (evE cf e Γ M).bind fun d M => (evA cf es Γ M).bind fun ds M => .ok (d :: ds) M
def evO (cf : CallF) : Exo → Gam → Mem → Rs (Option Int)
  | .none, _, M => .ok none M
  | .some e, Γ, M => (evE cf e Γ M).bind fun d M => match d with
    | .int i => .ok (some i) M
    | _ => .no
def evI (cf : CallF) : Ir → Gam → Mem → Rs (List Dat × Gd)
  | .lst e, Γ, M => (evE cf e Γ M).bind fun d M => match rd M d with
    | some ds => .ok (ds, [(d, ds)]) M
    | none => .no
  | .tup e, Γ, M => (evE cf e Γ M).bind fun d M => match d with
    | .tup ds => .ok (ds, []) M
    | _ => .no
  | .any e, Γ, M => (evE cf e Γ M).bind fun d M => match d with
    | .tup ds => .ok (ds, []) M
    | d => match rd M d with
      | some ds => .ok (ds, [(d, ds)]) M
      | none => .no
  | .rng1 e, Γ, M => (evE cf e Γ M).bind fun d M => match d with
    | .int n => if isR62 n then .ok ((List.range n.toNat).map fun i => .int (i : Nat), []) M else .no
    | _ => .no
  | .rng2 e e', Γ, M => (evE cf e Γ M).bind fun d M => (evE cf e' Γ M).bind fun d' M => match d, d' with
    | .int i, .int j => if isR62 i && isR62 j then .ok ((List.range (j - i).toNat).map fun k => .int (i + (k : Nat)), []) M else .no
    | _, _ => .no
  | .zip e e', Γ, M => (evE cf e Γ M).bind fun d M => (evE cf e' Γ M).bind fun d' M => match d, d' with
    | .tup ds, .tup es => .ok (List.zipWith pairD ds es, []) M
    | d, d' => match rd M d, rd M d' with
      | some ds, some es => .ok (List.zipWith pairD ds es, [(d, ds), (d', es)]) M
      | _, _ => .no
  | .enum e, Γ, M => (evE cf e Γ M).bind fun d M => match rd M d with
    | some ds => .ok (enumD ds, [(d, ds)]) M
    | none => .no
end

/-! ### statements -/
mutual
inductive Tg where
  | name (i : Nat)
  | tup (ts : Tgs)
  | sub (o i : Ex)
inductive Tgs where
  | nil
  | cons (t : Tg) (ts : Tgs)
end
def Tgs.len : Tgs → Nat
  | .nil => 0
  | .cons _ ts => ts.len + 1
mutual
def evG (cf : CallF) : Tg → Dat → Gam → Mem → Rs Gam
  | .name i, d, Γ, M => .ok (Γ.set i (some d)) M
  | .tup ts, d, Γ, M => match d with
    | .tup ds => if ds.length = ts.len then evGs cf ts ds Γ M else .no
    | _ => .no
  | .sub o i, d, Γ, M => (evE cf o Γ M).bind fun x M => (evE cf i Γ M).bind fun y M => match x, y with
    | .ptr k, .int n => match M[k]? with
      | some (.lst ds) => match ixN ds.length n with
        | some j => .ok Γ (M.set k (.lst (ds.set j d)))
        | none => .no
      | _ => .no
    | _, _ => .no
def evGs (cf : CallF) : Tgs → List Dat → Gam → Mem → Rs Gam
  | .nil, [], Γ, M => .ok Γ M
  | .cons t ts, d :: ds, Γ, M => (evG cf t d Γ M).bind fun Γ M => evGs cf ts ds Γ M
  | _, _, _, _ => .no
end
mutual
inductive Sm where
  | expr (e : Ex)
  | set (i : Nat) (e : Ex)
  | par2 (i j : Nat) (e e' : Ex)
  | par3 (i j l : Nat) (e e' e'' : Ex)
  | asg (t : Tg) (e : Ex)
  | aug (i : Nat) (neg : Bool) (e : Ex)
  | iff (c : Ex) (s s' : Sms)
  | whil (c : Ex) (s : Sms)
  | forr (t : Tg) (it : Ir) (s : Sms)
  | ret (e : Ex)
  | retN
  | brk
  | cnt
  | pass
  | stuck
inductive Sms where
  | nil
  | cons (s : Sm) (ss : Sms)
  | frz (i : Nat) (ss : Sms)
end
inductive Fl where
  | nx (Γ : Gam)
  | rt (d : Dat)
  | bk (Γ : Gam)
  | ct (Γ : Gam)
def forGo (g : Gd) (f : Dat → Gam → Mem → Rs Fl) : List Dat → Gam → Mem → Rs Fl
  | [], Γ, M => .ok (.nx Γ) M
  | d :: ds, Γ, M => match f d Γ M with
    | .ok (.nx Γ') M' => if gdOk M' g then forGo g f ds Γ' M' else .no
    | .ok (.ct Γ') M' => if gdOk M' g then forGo g f ds Γ' M' else .no
    | .ok (.bk Γ') M' => .ok (.nx Γ') M'
    | .ok (.rt d) M' => .ok (.rt d) M'
    | .ex x Γ' M' => .ex x Γ' M'
    | .no => .no
def whGo (c : Gam → Mem → Rs Bool) (f : Gam → Mem → Rs Fl) : Nat → Gam → Mem → Rs Fl
  | 0, _, _ => .no
  | n + 1, Γ, M => match c Γ M with
    | .ok true M' => match f Γ M' with
      | .ok (.nx Γ2) M2 => whGo c f n Γ2 M2
      | .ok (.ct Γ2) M2 => whGo c f n Γ2 M2
      | .ok (.bk Γ2) M2 => .ok (.nx Γ2) M2
      | .ok (.rt d) M2 => .ok (.rt d) M2
      | .ex x Γ2 M2 => .ex x Γ2 M2
      | .no => .no
    | .ok false M' => .ok (.nx Γ) M'
    | .ex x Γ' M' => .ex x Γ' M'
    | .no => .no
mutual
def evS (wf : Nat) (cf : CallF) : Sm → Gam → Mem → Rs Fl
  | .expr e, Γ, M => (evE cf e Γ M).bind fun _ M => .ok (.nx Γ) M
  | .set i e, Γ, M => (evE cf e Γ M).bind fun d M => .ok (.nx (Γ.set i (some d))) M
  | .par2 i j e e', Γ, M => (evE cf e Γ M).bind fun d M => (evE cf e' Γ M).bind fun d' M => .ok (.nx ((Γ.set i (some d)).set j (some d'))) M
  | .par3 i j l e e' e'', Γ, M => (evE cf e Γ M).bind fun d M => (evE cf e' Γ M).bind fun d' M => (evE cf e'' Γ M).bind fun d'' M => .ok (.nx (((Γ.set i (some d)).set j (some d')).set l (some d''))) M
  | .asg t e, Γ, M => (evE cf e Γ M).bind fun d M => (evG cf t d Γ M).bind fun Γ M => .ok (.nx Γ) M
  | .aug i neg e, Γ, M => match Γ[i]? with
    | some (some (.int n)) => (evE cf e Γ M).bind fun d M => match d with
      | .int j => .ok (.nx (Γ.set i (some (.int (if neg then n - j else n + j))))) M
      | _ => .no
    | _ => .no
  | .iff c s s', Γ, M => (asB (evE cf c Γ M)).bind fun k M => match k with
    | true => evSs wf cf s Γ M
    | false => evSs wf cf s' Γ M
  | .whil c s, Γ, M => whGo (fun Γ M => asB (evE cf c Γ M)) (evSs wf cf s) wf Γ M
  | .forr t it s, Γ, M => (evI cf it Γ M).bind fun (ds, g) M => if gdOk M g then forGo g (fun d Γ M => (evG cf t d Γ M).bind fun Γ M => evSs wf cf s Γ M) ds Γ M else .no
  | .ret e, Γ, M => (evE cf e Γ M).bind fun d M => .ok (.rt d) M
  | .retN, _, M => .ok (.rt .non) M
  | .brk, Γ, M => .ok (.bk Γ) M
  | .cnt, Γ, M => .ok (.ct Γ) M
  | .pass, Γ, M => .ok (.nx Γ) M
  | .stuck, _, _ => .no
def evSs (wf : Nat) (cf : CallF) : Sms → Gam → Mem → Rs Fl
  | .nil, Γ, M => .ok (.nx Γ) M
  | .cons s ss, Γ, M => (evS wf cf s Γ M).bind fun f M => match f with
    | .nx Γ => evSs wf cf ss Γ M
    | f => .ok f M
  | .frz i ss, Γ, M => match Γ[i]? with
    | some (some (.ptr k)) => match M[k]? with
      | some (.lst ds) => evSs wf cf ss (frzG k ds Γ) (M.set k .dead)
      | _ => .no
    | _ => .no
end
/-- a def: how many slots, parameters; its body -/
structure Df where
  slots : Nat
  pars : Nat
  body : Sms
def callD (wf : Nat) (cf : CallF) (f : Df) (ds : List Dat) (M : Mem) : Rs Dat :=
  (evSs wf cf f.body (ds.map some ++ List.replicate (f.slots - ds.length) none) M).bind fun r M => match r with
    | .nx _ => .ok .non M
    | .rt d => .ok d M
    | _ => .no
def runF (wf : Nat) (T : List Df) : Nat → CallF
  | 0, _, _, _ => .no
  | k + 1, j, ds, M => match T[j]? with
    | some f => if ds.length = f.pars then callD wf (runF wf T k) f ds M else .no
    | none => .no
end Ab
end

section
set_option Elab.async false
set_option linter.all false
set_option maxRecDepth 100000
set_option maxHeartbeats 4000000
/-! Ab14: calls by any reading of the arguments; keywords. -/
namespace Ab
open PySem PySem.Spec PyProof.Rows L2
section
variable {X : Cx} {b : Bas} {Γ : Gam} {M : Mem} {R : Dat → Mem → Prop} {W : WX} {EW : Exn → Gam → Mem → Prop} {n : Nat} {F : List Dat → Mem → Rs Dat} {ce : Expr} {t : TA}
theorem callP_N {bk : Mem → Dat → Mem → Rs Dat} (hbk : ∀ {K : PySem.W.Frag} {b : Bas} {σ : L2.St} {S : Hp} {A : List Addr} {H : Hp} {Γ : Gam} {M : Mem} {M1 : Mem} {S' : Hp} {A' : List Addr} {H' : Hp} {d : Dat} {v : V} {R : Dat → Mem → Prop} {E : Exn → Gam → Mem → Prop} {Q : VK}, Stt K b σ S A H Γ M → Step S [] H S' A' H' → Lent K S' A' H' M1 → Rep K S' A' d v → Post K b σ S A H Γ R Q → Good (bk M d M1) R E → Q v H')
    (hp : PE X ce (tCallS (SpD X.K n F) (WE W) t)) (hW : ExcW X.K b W EW) (h : EA X.K b t Γ M fun ds M1 => ds.length = n ∧ Good (callN bk F ds M1) R (fun x _ M => EW x Γ M)) : AE X b ce Γ M R :=
  AE.of hp fun σ S A H Q st pq => h σ S A H _ st fun vs ds M1 S1 A1 H1 s1 st1 r1 ⟨hl, g⟩ => by
    unfold callN at g
    by_cases hn : Dat.nps ds = true
    · rw [if_pos hn] at g
      refine ⟨S1, [], ds, [], lent_nil st1.sub, r1.free hn, hl, ?_⟩
      cases eF : F ds [] with
      | ok d M2 =>
        rw [eF] at g
        intro v S' A' H' s l r
        exact hbk st1 s l r (pq.after s1) g
      | ex x G2 M2 =>
        rw [eF] at g
        intro cls dd S' A' H' s l hx
        exact good_exB hW st1 s l hx g
      | no =>
        rw [eF] at g
        exact g.elim
    · rw [if_neg hn] at g
      exact g.elim
theorem callP_H (hp : PE X ce (tCallS (SpD X.K n F) (WE W) t)) (hW : ExcW X.K b W EW) (h : EA X.K b t Γ M fun ds M1 => ds.length = n ∧ Good (F ds M1) R (fun x _ M => EW x Γ M)) : AE X b ce Γ M R :=
  AE.of hp fun σ S A H Q st pq => h σ S A H _ st fun vs ds M1 S1 A1 H1 s1 st1 r1 ⟨hl, g⟩ => by
    refine ⟨S1, A1, ds, M1, st1.lent, r1, hl, ?_⟩
    exact g.imp (fun d M' q v S' A' H' s l r => (pq.after s1) v d M' S' A' H' s (after_all st1 s l) r q) (fun xn _ M' q cls dd S' A' H' s l hx => hW xn cls dd σ S' A' H' Γ M' (after_all st1 s l) hx q)
theorem callP {cf : CallF} {w : Cw} {j : Nat} (hp : PE X ce (tCallS (SpD X.K n (cf j)) (WE W) t)) (hW : ExcW X.K b W EW) (h : EA X.K b t Γ M fun ds M1 => ds.length = n ∧ Good ((callW cf w j ds M1).at Γ) R EW) : AE X b ce Γ M R := by
  cases w with
  | fz => exact callP_N good_backF hp hW fun σ S A H Q st p => h σ S A H Q st fun vs ds M' S' A' H' s1 t1 r q => p vs ds M' S' A' H' s1 t1 r ⟨q.1, q.2.of_at⟩
  | cl => exact callP_N good_backC hp hW fun σ S A H Q st p => h σ S A H Q st fun vs ds M' S' A' H' s1 t1 r q => p vs ds M' S' A' H' s1 t1 r ⟨q.1, q.2.of_at⟩
  | hp => exact callP_H hp hW fun σ S A H Q st p => h σ S A H Q st fun vs ds M' S' A' H' s1 t1 r q => p vs ds M' S' A' H' s1 t1 r ⟨q.1, q.2.of_at⟩
end

/-! ### keywords -/
def tWK (X : Cx) (kws : List Keyword) : TA := fun σ H Q => ∀ pos pins s, Inv X pins σ H s → wpAny (model X.prog X.w) X.A (evalAll ((backToKw pos (keywordEach kws X.env)).map (·.2))) (AP X pins σ Q) X.xe s
theorem pk_tW {X : Cx} {kws : List Keyword} : PK X kws (tWK X kws) := ⟨fun pos pins s _ _ _ I h => h pos pins s I⟩
def AK (X : Cx) (b : Bas) (kws : List Keyword) (Γ : Gam) (M : Mem) (R : List Dat → Mem → Prop) : Prop := EA X.K b (tWK X kws) Γ M R
/-- binding by keywords in the parameters' order -/
def KwB (K : PySem.W.Frag) (fd : FuncData) (ps ks : List Str) : Prop :=
  ∀ (s : Shared) (us ws : List Value), K.In s.heap → us.length + ws.length = ps.length → ws.length = ks.length → BindsTo s fd ⟨us, ks.zip ws⟩ (ps.zip (us ++ ws))
theorem KwB.all {K : PySem.W.Frag} {fd : FuncData} {ps ks : List Str} (h : ∀ us ws : List Value, us.length + ws.length = ps.length → ws.length = ks.length → bindArgs fd ⟨us, ks.zip ws⟩ = pure (ps.zip (us ++ ws))) : KwB K fd ps ks := fun s us ws _ hl hk => .of_eq (h us ws hl hk)
section
variable {X : Cx} {b : Bas} {Γ : Gam} {M : Mem} {k n : Nat} {f : Addr} {fd : FuncData} {ps ks : List Str} {sp : Sp} {x : Str} {p pos kpos : Pos} {e : Expr} {es : List Expr} {kws : List Keyword} {E : L2.St → XK} {t tk : TA} {nm : Option Str}
theorem K_nil {R : List Dat → Mem → Prop} (h : R [] M) : AK X b [] Γ M R := fun σ S A H Q st p pos pins s I => pk_nil.run pos pins s σ H Q I (p [] [] M S A H (Step.refl _ _ _) st .nil h)
theorem K_cons {R : List Dat → Mem → Prop} (h : AE X b e Γ M fun d M1 => AK X b kws Γ M1 fun ds M2 => R (d :: ds) M2) : AK X b (⟨nm, e, kpos⟩ :: kws) Γ M R := fun σ S A H Q st p pos pins s I =>
  (pk_cons pe_tW pk_tW).run pos pins s σ H Q I (h σ S A H _ st fun v d M1 S1 A1 H1 s1 st1 r1 q => q σ S1 A1 H1 _ st1 fun vs ds M2 S2 A2 H2 s2 st2 r2 q2 => p (v :: vs) (d :: ds) M2 S2 A2 H2 (s1.trans s2) st2 (.cons (r1.mono s2.s s2.a) r2) q2)
theorem run_kw {pins : List (Addr × Obj)} {σ : L2.St} {H : Hp} {s : Shared} {Q : VK} {us ws : List Value} {vs zs : List V} (F : FnOk X.prog X.w X.K X.mg X.base (L2.CX X.prog X.w) k f fd ps sp) (hr : Room k X.A) (hb : KwB X.K fd ps ks) (hx : PassesAt (L2.CX X.prog X.w) X σ (E σ))
    (I : Inv X pins σ H s) (r : Vals vs us) (rz : Vals zs ws) (hk : zs.length = ks.length) (h : sp (vs ++ zs) H Q (E σ)) : wpAny (model X.prog X.w) X.A (call (.ref f) us (ks.zip ws)) (EP X pins σ Q) X.xe s := by
  have hl : us.length + ws.length = ps.length := by
    rw [← r.length, ← rz.length, ← List.length_append]
    exact F.len _ _ _ _ h
  refine wpAny_call (codeAny_mono (F.run X.A X.stack s H ⟨us, ks.zip ws⟩ (us ++ ws) (vs ++ zs) Q (E σ) hr I.env0 (hb s us ws I.kIn hl (by rw [← rz.length]; exact hk)) (r.append rz) h) fun r s' hq => ?_)
  cases r with
  | error e => exact hx pins H s e s' I hq
  | ok fl =>
    cases fl with
    | ret u => exact I.after hq
    | next => exact False.elim hq
    | brk => exact False.elim hq
    | cont => exact False.elim hq
/-- f(k = v, ..) -/
theorem pe_kw0 (F : FnOk X.prog X.w X.K X.mg X.base (L2.CX X.prog X.w) k f fd ps sp) (hr : Room k X.A) (hg : Gl X x) (hm : X.mg x = some (.ref f)) (hk : PySem.W.keepIn X.K (.ref f) = true) (hb : KwB X.K fd ps ks) (hx : ∀ σ, PassesAt (L2.CX X.prog X.w) X σ (E σ)) (hkw : PK X kws tk)
    (hl : ks.length = ps.length) (hall : (backToKw pos (keywordEach kws X.env)).all (·.1.isSome) = true := by rfl) (hks : (backToKw pos (keywordEach kws X.env)).filterMap (·.1) = ks := by rfl)
    (hdb : (x == ("__debug__" : Str)) = false := by decide) (hpl : ((backTo pos (starEach [] X.env)).any (·.1) || (backToKw pos (keywordEach kws X.env)).any (·.1.isNone)) = false := by rfl) :
    PE X (.Call (.Name x p) [] kws pos) (tCallS sp E tk) := by
  refine ⟨fun pins s σ H Q I h => ?_⟩
  refine wpAny_Call_Name_kw (ld_glob I hg hm ?_ hdb)
  refine PySem.W.callWith_KW0 (h₀ := X.base) I.ok.mod.kin hk hall (thn (hkw.run pos pins s σ H _ I h) fun ws s2 ⟨zs, H2, I2, rz, q2⟩ => ⟨I2.kIn, ?_⟩) hpl
  rw [hks]
  exact run_kw (us := []) (vs := []) F hr hb (hx σ) I2 .nil rz ((F.len _ _ _ _ q2).trans hl.symm) q2
end
end Ab
end

section
set_option Elab.async false
set_option linter.all false
set_option maxRecDepth 100000
set_option maxHeartbeats 4000000
/-! Ab15: the small language stands for the program's expressions. -/
namespace Ab
open PySem PySem.Spec PyProof.Rows L2

def XW (X : Cx) (b : Bas) (EW : Exn → Gam → Mem → Prop) : Prop := ∃ W, Takes X W ∧ ExcW X.K b W EW
theorem XW.no {X : Cx} {b : Bas} : XW X b (fun _ _ _ => False) := ⟨_, L2.takes0, fun _ _ _ _ _ _ _ _ _ _ _ z => z.elim⟩
def SE (X : Cx) (cf : CallF) (e : Expr) (ir : Ex) : Prop := ∀ b Γ M R EW, XW X b EW → Good (evE cf ir Γ M) R EW → AE X b e Γ M R
def SA (X : Cx) (cf : CallF) (es : List Expr) (ir : Exs) : Prop := ∀ b Γ M R EW, XW X b EW → Good (evA cf ir Γ M) R EW → AA X b es Γ M R
def SK (X : Cx) (cf : CallF) (kws : List Keyword) (ir : Exs) : Prop := ∀ b Γ M R EW, XW X b EW → Good (evA cf ir Γ M) R EW → AK X b kws Γ M R
def SO (X : Cx) (cf : CallF) (e : Option Expr) (ir : Exo) : Prop := ∀ b Γ M R EW, XW X b EW → Good (evO cf ir Γ M) R EW → AO X b e Γ M R
def ST (X : Cx) (cf : CallF) (e : Expr) (ir : Ex) : Prop := ∀ b Γ M R EW, XW X b EW → Good (asB (evE cf ir Γ M)) R EW → AT X b e Γ M R
def SW (X : Cx) (cf : CallF) (e : Expr) (ir : Ex) : Prop := ∀ b Γ M R EW, XW X b EW → Good (asB (evE cf ir Γ M)) R EW → AW X b e Γ M R
def SI (X : Cx) (cf : CallF) (tg iter : Expr) (ir : Ir) : Prop := ∀ b Γ M R EW, XW X b EW → Good (evI cf ir Γ M) R EW → AI X b tg iter Γ M fun ds Gm M1 => ∃ g, R (ds, g) M1 ∧ ∀ M, gdOk M g = true → Gm M

theorem good_ofO {α : Type} {o : Option (α × Mem)} {R : α → Mem → Prop} {E : Exn → Gam → Mem → Prop} (g : Good (ofO o) R E) : ∃ r, o = some r ∧ R r.1 r.2 := by
  cases o with
  | none => exact g.elim
  | some r => exact ⟨r, rfl, g⟩
theorem good_asB {r : Rs Dat} {R : Bool → Mem → Prop} {E : Exn → Gam → Mem → Prop} (g : Good (asB r) R E) : Good r (fun d M => ∃ k, d = .bl k ∧ R k M) E := by
  refine (Good.bnd g).imp (fun d M q => ?_) fun _ _ _ q => q
  cases d with
  | bl k => exact ⟨k, rfl, q⟩
  | _ => exact False.elim q
theorem good_if {α : Type} {c : Prop} [Decidable c] {r : Rs α} {R : α → Mem → Prop} {E : Exn → Gam → Mem → Prop} (g : Good (if c then r else .no) R E) : c ∧ Good r R E := by
  by_cases h : c
  · rw [if_pos h] at g
    exact ⟨h, g⟩
  · rw [if_neg h] at g
    exact g.elim
mutual
theorem Dat.same_eq : ∀ {x y : Dat}, Dat.same x y = true → x = y
  | .non, y, h => by cases y <;> first | rfl | cases h
  | .bl a, y, h => by
    cases y with
    | bl b => exact congrArg _ (beq_iff_eq.mp (show (a == b) = true from h))
    | _ => cases h
  | .int a, y, h => by
    cases y with
    | int b => exact congrArg _ (of_decide_eq_true (p := a = b) h)
    | _ => cases h
  | .str a, y, h => by
    cases y with
    | str b => exact congrArg _ (of_decide_eq_true (p := a = b) h)
    | _ => cases h
  | .tup a, y, h => by
    cases y with
    | tup b => exact congrArg _ (Dat.sames_eq (x := a) (y := b) h)
    | _ => cases h
  | .lst a, y, h => by
    cases y with
    | lst b => exact congrArg _ (Dat.sames_eq (x := a) (y := b) h)
    | _ => cases h
  | .rol a, y, h => by
    cases y with
    | rol b => exact congrArg _ (Dat.sames_eq (x := a) (y := b) h)
    | _ => cases h
  | .ptr a, y, h => by
    cases y with
    | ptr b => exact congrArg _ (of_decide_eq_true (p := a = b) h)
    | _ => cases h
  | .oth a, y, h => by cases y <;> cases h
theorem Dat.sames_eq : ∀ {x y : List Dat}, Dat.sames x y = true → x = y
  | [], [], _ => rfl
  | [], _ :: _, h => by cases h
  | _ :: _, [], h => by cases h
  | x :: xs, y :: ys, h => by
    obtain ⟨h1, h2⟩ := Bool.and_eq_true_iff.mp (show (Dat.same x y && Dat.sames xs ys) = true from h)
    rw [Dat.same_eq h1, Dat.sames_eq h2]
end
theorem gdOk_gm {M : Mem} {d : Dat} {ds : List Dat} (h : gdOk1 M (d, ds) = true) : GmOf d ds M := by
  cases d with
  | ptr k =>
    have h : (match M[k]? with | some (.lst es) => Dat.sames es ds | _ => false) = true := h
    split at h
    · rename_i es e
      rw [Dat.sames_eq h] at e
      exact e
    · cases h
  | _ => exact trivial
theorem gd1 {M : Mem} {d : Dat} {ds : List Dat} (h : gdOk M [(d, ds)] = true) : GmOf d ds M := gdOk_gm (by simpa [gdOk] using h)
theorem gd2 {M : Mem} {d d' : Dat} {ds ds' : List Dat} (h : gdOk M [(d, ds), (d', ds')] = true) : GmOf d ds M ∧ GmOf d' ds' M := by
  have h : gdOk1 M (d, ds) = true ∧ gdOk1 M (d', ds') = true := by simpa [gdOk] using h
  exact ⟨gdOk_gm h.1, gdOk_gm h.2⟩
section
variable {X : Cx} {cf : CallF} {e a c e1 e2 e3 o tg iter : Expr} {es rest : List Expr} {kws : List Keyword} {pos p p2 p3 p4 apos cpos kpos : Pos} {ie ia ic i1 i2 i3 : Ex} {ies : Exs} {nm : Option Str}
/-! names, constants -/
theorem SE.var (i : Nat) {x : Str} (hN : X.N[i]? = some x) (hv : Vis X.env.scope x) (hd : (x == ("__debug__" : Str)) = false := by decide) (hcd : (x == ("__classdict__" : Str)) = false := by decide) : SE X cf (.Name x pos) (.var i) := fun b Γ M R EW hw g => by
  have g : Good (match Γ[i]? with | some (some d) => Rs.ok d M | _ => .no) R EW := g
  split at g
  · rename_i d hΓ
    exact A_var i hN hv hΓ g hd hcd
  · exact g.elim
theorem SE.int {i : Int} {j : Nat} : SE X cf (.Constant (.int i) j pos) (.dat (.int i)) := fun b Γ M R EW hw g => A_int g
theorem SE.bl {i : Bool} {j : Nat} : SE X cf (.Constant (.bool i) j pos) (.dat (.bl i)) := fun b Γ M R EW hw g => A_bl g
theorem SE.non {j : Nat} : SE X cf (.Constant .none j pos) (.dat .non) := fun b Γ M R EW hw g => A_non g
theorem SE.str {x : Str} {j : Nat} : SE X cf (.Constant (.str x) j pos) (.dat (.str x)) := fun b Γ M R EW hw g => A_str g
theorem SE.glob {x : Str} {v : V} {u : Value} {d : Dat} (hg : Gl X x) (hm : X.mg x = some u) (r : RelV v u) (hd : ∀ S A, Rep X.K S A d v) (hdb : (x == ("__debug__" : Str)) = false := by decide) : SE X cf (.Name x pos) (.dat d) := fun b Γ M R EW hw g => A_glob hg hm r hd g hdb
/-! one place -/
theorem SE.un1 (f : B1) (rule : ∀ b Γ M R, AE X b a Γ M (fun d M1 => ∃ r, Ab.un1 f d M1 = some r ∧ R r.1 r.2) → AE X b e Γ M R) (ha : SE X cf a ia) : SE X cf e (.un f ia) := fun b Γ M R EW hw g =>
  rule b Γ M R (ha b Γ M _ EW hw ((Good.bnd g).imp (fun d M q => good_ofO q) fun _ _ _ q => q))
theorem SE.bin2 (f : B2) (rule : ∀ b Γ M R, AE X b a Γ M (fun d M1 => AE X b c Γ M1 fun d2 M2 => ∃ r, Ab.bin2 f d d2 M2 = some r ∧ R r.1 r.2) → AE X b e Γ M R) (ha : SE X cf a ia) (hc : SE X cf c ic) : SE X cf e (.bin f ia ic) := fun b Γ M R EW hw g =>
  rule b Γ M R (ha b Γ M _ EW hw ((Good.bnd g).imp (fun d M q => hc b Γ M _ EW hw ((Good.bnd q).imp (fun d2 M2 q2 => good_ofO q2) fun _ _ _ q => q)) fun _ _ _ q => q))
theorem SE.mth1 (f : M1) (rule : ∀ b Γ M R, AE X b a Γ M (fun d M1 => isCl M1 d = true ∧ AE X b c Γ M1 fun d2 M2 => ∃ r, Ab.mth1 f d d2 M2 = some r ∧ R r.1 r.2) → AE X b e Γ M R) (ha : SE X cf a ia) (hc : SE X cf c ic) : SE X cf e (.mth f ia ic) := fun b Γ M R EW hw g =>
  rule b Γ M R (ha b Γ M _ EW hw ((Good.bnd g).imp (fun d M q => ⟨(good_if q).1, hc b Γ M _ EW hw ((Good.bnd (good_if q).2).imp (fun d2 M2 q2 => good_ofO q2) fun _ _ _ q => q)⟩) fun _ _ _ q => q))
theorem SE.neg (ha : SE X cf a ia) : SE X cf (.UnaryOp .USub a pos) (.un .neg ia) := SE.un1 .neg (fun b Γ M R h => A_neg (h.imp fun d M ⟨r, e, q⟩ => by
  unfold Ab.un1 at e
  cases d with
  | int i => cases e; exact ⟨i, rfl, q⟩
  | _ => cases e)) ha
theorem SE.notB (ha : SE X cf a ia) : SE X cf (.UnaryOp .Not a pos) (.un .notB ia) := SE.un1 .notB (fun b Γ M R h => A_not (h.imp fun d M ⟨r, e, q⟩ => by
  unfold Ab.un1 at e
  cases d with
  | bl i => cases e; exact ⟨i, rfl, q⟩
  | _ => cases e)) ha
theorem lenD_ok {M : Mem} {d : Dat} {n : Nat} (h : lenD M d = some n) : LenD M d n := by
  unfold lenD at h
  split at h
  · split at h
    · cases h; exact .s (by assumption)
    · cases h
  · obtain ⟨ds, e, e2⟩ := Option.map_eq_some_iff.mp h
    subst e2
    cases sq_ok e with
    | l i => exact .l i
    | t => exact .t _
theorem SE.len (hg : Gl X "len") (hm : X.mg "len" = none) (ha : SE X cf a ia) (he : starEach [a] X.env = (false, eval a X.env) :: starEach [] X.env := by rfl) : SE X cf (.Call (.Name "len" p) [a] [] pos) (.un .len ia) := SE.un1 .len (fun b Γ M R h => A_len hg hm (h.imp fun d M ⟨r, e, q⟩ => by
  obtain ⟨n, e1, e2⟩ := Option.map_eq_some_iff.mp e
  subst e2
  exact ⟨n, lenD_ok e1, q⟩) he) ha
theorem SE.abs (hg : Gl X "abs") (hm : X.mg "abs" = none) (ha : SE X cf a ia) (he : starEach [a] X.env = (false, eval a X.env) :: starEach [] X.env := by rfl) : SE X cf (.Call (.Name "abs" p) [a] [] pos) (.un .abs ia) := SE.un1 .abs (fun b Γ M R h => A_abs hg hm (h.imp fun d M ⟨r, e, q⟩ => by
  unfold Ab.un1 at e
  cases d with
  | int i => cases e; exact ⟨i, rfl, q⟩
  | _ => cases e) he) ha
theorem SE.intC (hg : Gl X "int") (hm : X.mg "int" = none) (ha : SE X cf a ia) (he : starEach [a] X.env = (false, eval a X.env) :: starEach [] X.env := by rfl) : SE X cf (.Call (.Name "int" p) [a] [] pos) (.un .int ia) := SE.un1 .int (fun b Γ M R h => A_intC hg hm (h.imp fun d M ⟨r, e, q⟩ => by
  unfold Ab.un1 at e
  cases d with
  | int i => cases e; exact ⟨i, .i _, q⟩
  | bl i => cases e; exact ⟨_, .b _, q⟩
  | _ => cases e) he) ha
theorem map1 {α β : Type} {o : Option α} {f : α → β} {r : β} {P : α → Prop} (h : o.map f = some r) (k : ∀ x, o = some x → f x = r → P x) : ∃ x, o = some x ∧ f x = r ∧ P x := by
  obtain ⟨x, e1, e2⟩ := Option.map_eq_some_iff.mp h
  exact ⟨x, e1, e2, k x e1 e2⟩
theorem SE.list (hg : Gl X "list") (hm : X.mg "list" = none) (ha : SE X cf a ia) (he : starEach [a] X.env = (false, eval a X.env) :: starEach [] X.env := by rfl) : SE X cf (.Call (.Name "list" p) [a] [] pos) (.un .list ia) := SE.un1 .list (fun b Γ M R h => A_list hg hm (h.imp fun d M ⟨r, e, q⟩ => by
  obtain ⟨n, e1, e2⟩ := Option.map_eq_some_iff.mp e
  subst e2
  exact ⟨n, sq_ok e1, q⟩) he) ha
theorem SE.listC (hg : Gl X "list") (hm : X.mg "list" = none) (ha : SE X cf a ia) (he : starEach [a] X.env = (false, eval a X.env) :: starEach [] X.env := by rfl) : SE X cf (.Call (.Name "list" p) [a] [] pos) (.un .listC ia) := SE.un1 .listC (fun b Γ M R h => A_listC hg hm (h.imp fun d M ⟨r, e, q⟩ => by
  obtain ⟨n, e1, e2⟩ := Option.map_eq_some_iff.mp e
  subst e2
  exact ⟨n, sq_ok e1, q⟩) he) ha
theorem SE.tuple (hg : Gl X "tuple") (hm : X.mg "tuple" = none) (ha : SE X cf a ia) (he : starEach [a] X.env = (false, eval a X.env) :: starEach [] X.env := by rfl) : SE X cf (.Call (.Name "tuple" p) [a] [] pos) (.un .tuple ia) := SE.un1 .tuple (fun b Γ M R h => A_tuple hg hm (h.imp fun d M ⟨r, e, q⟩ => by
  obtain ⟨n, e1, e2⟩ := Option.map_eq_some_iff.mp e
  subst e2
  exact ⟨n, sq_ok e1, q⟩) he) ha
theorem SE.sum (hc : X.calm = true) (hg : Gl X "sum") (hm : X.mg "sum" = none) (ha : SE X cf a ia) (he : starEach [a] X.env = (false, eval a X.env) :: starEach [] X.env := by rfl) : SE X cf (.Call (.Name "sum" p) [a] [] pos) (.un .sum ia) := SE.un1 .sum (fun b Γ M R h => A_sum hc hg hm (h.imp fun d M ⟨r, e, q⟩ => by
  obtain ⟨ds, e1, e2⟩ := Option.bind_eq_some_iff.mp e
  obtain ⟨ns, e3, e4⟩ := Option.map_eq_some_iff.mp e2
  subst e4
  exact ⟨ns, by rw [← intsD_ok e3]; exact rd_ok e1, q⟩) he) ha
theorem SE.all (hc : X.calm = true) (hg : Gl X "all") (hm : X.mg "all" = none) (ha : SE X cf a ia) (he : starEach [a] X.env = (false, eval a X.env) :: starEach [] X.env := by rfl) : SE X cf (.Call (.Name "all" p) [a] [] pos) (.un .all ia) := SE.un1 .all (fun b Γ M R h => A_all hc hg hm (h.imp fun d M ⟨r, e, q⟩ => by
  obtain ⟨ds, e1, e2⟩ := Option.bind_eq_some_iff.mp e
  obtain ⟨ns, e3, e4⟩ := Option.map_eq_some_iff.mp e2
  subst e4
  exact ⟨ns, by rw [← boolsD_ok e3]; exact rd_ok e1, q⟩) he) ha
theorem SE.any (hc : X.calm = true) (hg : Gl X "any") (hm : X.mg "any" = none) (ha : SE X cf a ia) (he : starEach [a] X.env = (false, eval a X.env) :: starEach [] X.env := by rfl) : SE X cf (.Call (.Name "any" p) [a] [] pos) (.un .any ia) := SE.un1 .any (fun b Γ M R h => A_any hc hg hm (h.imp fun d M ⟨r, e, q⟩ => by
  obtain ⟨ds, e1, e2⟩ := Option.bind_eq_some_iff.mp e
  obtain ⟨ns, e3, e4⟩ := Option.map_eq_some_iff.mp e2
  subst e4
  exact ⟨ns, by rw [← boolsD_ok e3]; exact rd_ok e1, q⟩) he) ha
theorem isN_un {d : Dat} {M : Mem} {r : Dat × Mem} (e : Ab.un1 .isN d M = some r) : (∀ u, d ≠ .oth u) ∧ r = (.bl d.isN, M) := by
  unfold Ab.un1 at e
  cases d <;> first | (cases e; exact ⟨fun u z => (nomatch z), rfl⟩) | cases e
theorem SE.isN {j : Nat} (ha : SE X cf a ia) : SE X cf (.Compare a [.Is] [.Constant .none j p2] pos) (.un .isN ia) := SE.un1 .isN (fun b Γ M R h => A_isN (h.imp fun d M ⟨r, e, q⟩ => by
  obtain ⟨h1, h2⟩ := isN_un e
  subst h2
  exact ⟨d.isN, fun S A v rr => isN_rep h1 rr, q⟩)) ha
theorem SE.isi (t : Ty) {x : Str} (hg : Gl X "isinstance") (hm : X.mg "isinstance" = none) (hg2 : Gl X x) (hm2 : X.mg x = none) (ha : SE X cf a ia) (hx : x = Str.ofString t.nm := by rfl) (ht : t ≠ .non := by exact fun h => nomatch h)
    (he : starEach [a, .Name x p2] X.env = (false, eval a X.env) :: starEach [.Name x p2] X.env := by rfl) : SE X cf (.Call (.Name "isinstance" p) [a, .Name x p2] [] pos) (.un (.isi [t]) ia) := SE.un1 _ (fun b Γ M R h => A_isi t hx ht hg hm hg2 hm2 (h.imp fun d M ⟨r, e, q⟩ => by
  obtain ⟨n, e1, e2⟩ := Option.map_eq_some_iff.mp e
  subst e2
  exact ⟨n, e1, q⟩) he) ha
theorem SE.isi2 (t u : Ty) {x y : Str} {k : Nat} (hg : Gl X "isinstance") (hm : X.mg "isinstance" = none) (hg2 : Gl X x) (hm2 : X.mg x = none) (hg3 : Gl X y) (hm3 : X.mg y = none) (ha : SE X cf a ia) (hx : x = Str.ofString t.nm := by rfl) (ht : t ≠ .non := by exact fun h => nomatch h) (hy : y = Str.ofString u.nm := by rfl) (hu : u ≠ .non := by exact fun h => nomatch h)
    (he : starEach [a, .Tuple [.Name x p2, .Name y p3] k p4] X.env = (false, eval a X.env) :: starEach [.Tuple [.Name x p2, .Name y p3] k p4] X.env := by rfl) : SE X cf (.Call (.Name "isinstance" p) [a, .Tuple [.Name x p2, .Name y p3] k p4] [] pos) (.un (.isi [t, u]) ia) := SE.un1 _ (fun b Γ M R h => A_isi2 t u hx ht hy hu hg hm hg2 hm2 hg3 hm3 (h.imp fun d M ⟨r, e, q⟩ => by
  obtain ⟨n, e1, e2⟩ := Option.map_eq_some_iff.mp e
  subst e2
  exact ⟨n, e1, q⟩) he) ha
theorem SE.pop (ha : SE X cf o ia) (hbase : attributeBase o "pop" X.env (eval o X.env) = eval o X.env := by rfl) (hline : (apos.endLine == cpos.line) = true := by rfl) : SE X cf (.Call (.Attribute o "pop" apos) [] [] cpos) (.un .pop ia) := SE.un1 .pop (fun b Γ M R h => A_pop h hbase hline) ha
/-! two places -/
theorem SE.bin {op : Operator} (ha : SE X cf a ia) (hc : SE X cf c ic) : SE X cf (.BinOp a op c pos) (.bin (.op op) ia ic) := SE.bin2 (.op op) (fun b Γ M R h => A_bin (h.imp fun d M h => h.imp fun d2 M2 ⟨r, e, q⟩ => by
  obtain ⟨n, e1, e2⟩ := Option.map_eq_some_iff.mp e
  subst e2
  exact ⟨n, binD_ok e1, q⟩)) ha hc
theorem SE.cmp {op : CmpOp} (ha : SE X cf a ia) (hc : SE X cf c ic) (hm : behindInMarks op c = false := by exact nomark _) : SE X cf (.Compare a [op] [c] pos) (.bin (.cmp op) ia ic) := SE.bin2 (.cmp op) (fun b Γ M R h => A_cmpD (h.imp fun d M h => h.imp fun d2 M2 ⟨r, e, q⟩ => by
  obtain ⟨n, e1, e2⟩ := Option.map_eq_some_iff.mp e
  subst e2
  exact ⟨n, cmpD_ok e1, q⟩) hm) ha hc
theorem SE.eqv (hu : X.A.units + 64 < cLine) (ha : SE X cf a ia) (hc : SE X cf c ic) (hm : behindInMarks .Eq c = false := by rfl) : SE X cf (.Compare a [.Eq] [c] pos) (.bin .eqv ia ic) := SE.bin2 .eqv (fun b Γ M R h => A_eqv hu (h.imp fun d M h => h.imp fun d2 M2 ⟨r, e, q⟩ => by
  obtain ⟨n, e1, e2⟩ := Option.map_eq_some_iff.mp e
  subst e2
  exact ⟨n, e1, q⟩) hm) ha hc
theorem SE.neqv (hu : X.A.units + 64 < cLine) (ha : SE X cf a ia) (hc : SE X cf c ic) (hm : behindInMarks .NotEq c = false := by rfl) : SE X cf (.Compare a [.NotEq] [c] pos) (.bin .neqv ia ic) := SE.bin2 .neqv (fun b Γ M R h => A_neqv hu (h.imp fun d M h => h.imp fun d2 M2 ⟨r, e, q⟩ => by
  obtain ⟨n, e1, e2⟩ := Option.map_eq_some_iff.mp e
  subst e2
  exact ⟨n, e1, q⟩) hm) ha hc
theorem SE.ix (ha : SE X cf a ia) (hc : SE X cf c ic) (hs : PlainIx c := by exact fun _ _ => rfl) : SE X cf (.Subscript a c pos) (.bin .ix ia ic) := SE.bin2 .ix (fun b Γ M R h => A_ix (h.imp fun d M h => h.imp fun d2 M2 ⟨r, e, q⟩ => by
  obtain ⟨n, e1, e2⟩ := Option.map_eq_some_iff.mp e
  subst e2
  exact ⟨n, itemD_ok e1, q⟩) hs) ha hc
theorem SE.catL (ha : SE X cf a ia) (hc : SE X cf c ic) : SE X cf (.BinOp a .Add c pos) (.bin .catL ia ic) := SE.bin2 .catL (fun b Γ M R h => A_cat (h.imp fun d M h => h.imp fun d2 M2 ⟨r, e, q⟩ => by
  obtain ⟨xs, e1, e⟩ := Option.bind_eq_some_iff.mp e
  obtain ⟨ys, e2, e⟩ := Option.bind_eq_some_iff.mp e
  split at e
  · cases e
    exact ⟨xs, ys, rdL_ok e1, rdL_ok e2, by assumption, q⟩
  · cases e)) ha hc
theorem SE.catC (ha : SE X cf a ia) (hc : SE X cf c ic) : SE X cf (.BinOp a .Add c pos) (.bin .catC ia ic) := SE.bin2 .catC (fun b Γ M R h => A_catC (h.imp fun d M h => h.imp fun d2 M2 ⟨r, e, q⟩ => by
  obtain ⟨xs, e1, e⟩ := Option.bind_eq_some_iff.mp e
  obtain ⟨ys, e2, e⟩ := Option.bind_eq_some_iff.mp e
  split at e
  · cases e
    exact ⟨xs, ys, rdL_ok e1, rdL_ok e2, by assumption, q⟩
  · cases e)) ha hc
theorem SE.catT (ha : SE X cf a ia) (hc : SE X cf c ic) : SE X cf (.BinOp a .Add c pos) (.bin .catT ia ic) := SE.bin2 .catT (fun b Γ M R h => A_catT (h.imp fun d M h => h.imp fun d2 M2 ⟨r, e, q⟩ => by
  cases d with
  | tup xs =>
    cases d2 with
    | tup ys =>
      have e : (if xs.length + ys.length ≤ sizeLine then some (Dat.tup (xs ++ ys), M2) else none) = some r := by
        unfold Ab.bin2 at e
        exact e
      split at e
      · cases e
        exact ⟨xs, ys, rfl, rfl, by assumption, q⟩
      · cases e
    | _ => unfold Ab.bin2 at e; cases e
  | _ => unfold Ab.bin2 at e; cases d2 <;> cases e)) ha hc
theorem repOk_ok {n : Nat} {k : Int} (h : repOk n k = true) : -(2 ^ 63) ≤ k ∧ k < 2 ^ 63 ∧ n * k.toNat ≤ sizeLine := by
  unfold repOk at h
  obtain ⟨h, h3⟩ := Bool.and_eq_true_iff.mp h
  obtain ⟨h1, h2⟩ := Bool.and_eq_true_iff.mp h
  exact ⟨of_decide_eq_true h1, of_decide_eq_true h2, of_decide_eq_true h3⟩
theorem SE.repL (ha : SE X cf a ia) (hc : SE X cf c ic) : SE X cf (.BinOp a .Mult c pos) (.bin .repL ia ic) := SE.bin2 .repL (fun b Γ M R h => A_rep (h.imp fun d M h => h.imp fun d2 M2 ⟨r, e, q⟩ => by
  cases d2 with
  | int k =>
    have e : ((rdL M2 d).bind fun xs => if repOk xs.length k then some (Dat.lst (List.replicate k.toNat xs).flatten, M2) else none) = some r := by
      unfold Ab.bin2 at e
      exact e
    obtain ⟨xs, e1, e⟩ := Option.bind_eq_some_iff.mp e
    split at e
    · rename_i hr
      cases e
      obtain ⟨h1, h2, h3⟩ := repOk_ok hr
      exact ⟨xs, k, rdL_ok e1, rfl, h1, h2, h3, q⟩
    · cases e
  | _ => unfold Ab.bin2 at e; cases d <;> cases e)) ha hc
theorem SE.repC (ha : SE X cf a ia) (hc : SE X cf c ic) : SE X cf (.BinOp a .Mult c pos) (.bin .repC ia ic) := SE.bin2 .repC (fun b Γ M R h => A_repC (h.imp fun d M h => h.imp fun d2 M2 ⟨r, e, q⟩ => by
  cases d2 with
  | int k =>
    have e : ((rdL M2 d).bind fun xs => if repOk xs.length k then some (Dat.ptr M2.length, M2 ++ [.lst (List.replicate k.toNat xs).flatten]) else none) = some r := by
      unfold Ab.bin2 at e
      exact e
    obtain ⟨xs, e1, e⟩ := Option.bind_eq_some_iff.mp e
    split at e
    · rename_i hr
      cases e
      obtain ⟨h1, h2, h3⟩ := repOk_ok hr
      exact ⟨xs, k, rdL_ok e1, rfl, h1, h2, h3, q⟩
    · cases e
  | _ => unfold Ab.bin2 at e; cases d <;> cases e)) ha hc
theorem SE.append (ha : SE X cf o ia) (hc : SE X cf e ie) (hbase : attributeBase o "append" X.env (eval o X.env) = eval o X.env := by rfl) (hline : (apos.endLine == cpos.line) = true := by rfl) (hs : starEach [e] X.env = (false, eval e X.env) :: starEach [] X.env := by rfl)
    (hfew : ((backTo cpos (starEach [e] X.env)).all (fun x => !x.1) && (backToKw cpos (keywordEach [] X.env)).all (fun x => x.1.isSome) && decide ([e].length + ([] : List Keyword).length + (if ([] : List Keyword).isEmpty then 0 else 1) < 30)) = true := by rfl) : SE X cf (.Call (.Attribute o "append" apos) [e] [] cpos) (.mth .append ia ie) :=
  SE.mth1 .append (fun b Γ M R h => A_append (h.imp fun d M ⟨h0, h⟩ => ⟨h0, h.imp fun d2 M2 ⟨r, e, q⟩ => by
    obtain ⟨n, e1, e2⟩ := Option.map_eq_some_iff.mp e
    subst e2
    exact ⟨n, e1, q⟩⟩) hbase hline hs hfew) ha hc
theorem SE.extend (ha : SE X cf o ia) (hc : SE X cf e ie) (hbase : attributeBase o "extend" X.env (eval o X.env) = eval o X.env := by rfl) (hline : (apos.endLine == cpos.line) = true := by rfl) (hs : starEach [e] X.env = (false, eval e X.env) :: starEach [] X.env := by rfl)
    (hfew : ((backTo cpos (starEach [e] X.env)).all (fun x => !x.1) && (backToKw cpos (keywordEach [] X.env)).all (fun x => x.1.isSome) && decide ([e].length + ([] : List Keyword).length + (if ([] : List Keyword).isEmpty then 0 else 1) < 30)) = true := by rfl) : SE X cf (.Call (.Attribute o "extend" apos) [e] [] cpos) (.mth .extend ia ie) :=
  SE.mth1 .extend (fun b Γ M R h => A_extend (h.imp fun d M ⟨h0, h⟩ => ⟨h0, h.imp fun d2 M2 ⟨r, e, q⟩ => by
    obtain ⟨n, e1, e2⟩ := Option.map_eq_some_iff.mp e
    subst e2
    exact ⟨n, e1, q⟩⟩) hbase hline hs hfew) ha hc
theorem SE.popAt (ha : SE X cf o ia) (hc : SE X cf e ie) (hbase : attributeBase o "pop" X.env (eval o X.env) = eval o X.env := by rfl) (hline : (apos.endLine == cpos.line) = true := by rfl) (hs : starEach [e] X.env = (false, eval e X.env) :: starEach [] X.env := by rfl)
    (hfew : ((backTo cpos (starEach [e] X.env)).all (fun x => !x.1) && (backToKw cpos (keywordEach [] X.env)).all (fun x => x.1.isSome) && decide ([e].length + ([] : List Keyword).length + (if ([] : List Keyword).isEmpty then 0 else 1) < 30)) = true := by rfl) : SE X cf (.Call (.Attribute o "pop" apos) [e] [] cpos) (.mth .popAt ia ie) :=
  SE.mth1 .popAt (fun b Γ M R h => A_popAt h hbase hline hs hfew) ha hc
end
end Ab
end

section
set_option Elab.async false
set_option linter.all false
set_option maxRecDepth 100000
set_option maxHeartbeats 4000000
/-! Ab16: .. of expressions with parts, comprehensions, calls. -/
namespace Ab
open PySem PySem.Spec PyProof.Rows L2
section
variable {X : Cx} {cf : CallF} {e a c e1 e2 e3 o tg iter : Expr} {es rest : List Expr} {kws : List Keyword} {pos p p2 p3 p4 apos cpos kpos : Pos} {ie ia ic i1 i2 i3 : Ex} {ies : Exs} {nm : Option Str} {lo hi : Option Expr} {il ih : Exo}
theorem good_match {α : Type} {r : Rs α} {R : α → Mem → Prop} {E : Exn → Gam → Mem → Prop} (g : Good r R E) : Good r R E := g
/-! chains -/
theorem SE.chain {op op' : CmpOp} (ha : SE X cf a ia) (h1 : SE X cf e1 i1) (h2 : SE X cf e2 i2) (hm : lastMarks [op, op'] [e1, e2] = false := by with_unfolding_all rfl) : SE X cf (.Compare a [op, op'] [e1, e2] pos) (.chain op op' ia i1 i2) := fun b Γ M R EW hw g =>
  A_chain (ha b Γ M _ EW hw ((Good.bnd g).imp (fun d M1 q => h1 b Γ M1 _ EW hw ((Good.bnd q).imp (fun x M2 q => by
    cases hc : cmpI op d x with
    | none => rw [hc] at q; exact q.elim
    | some k =>
      rw [hc] at q
      obtain ⟨i, j, ed, ex, hk⟩ := cmpI_ok hc
      refine ⟨i, j, k, ed, ex, hk, fun ek => ?_, fun ek => ?_⟩
      · subst ek
        exact h2 b Γ M2 _ EW hw ((Good.bnd q).imp (fun y M3 q => by
          cases hc2 : cmpI op' x y with
          | none => rw [hc2] at q; exact q.elim
          | some k' =>
            rw [hc2] at q
            obtain ⟨j', l, ex', ey, hk'⟩ := cmpI_ok hc2
            have z : Dat.int j = Dat.int j' := ex.symm.trans ex'
            cases z
            exact ⟨l, k', ey, hk', q⟩) fun _ _ _ q => q)
      · subst ek
        exact q) fun _ _ _ q => q)) fun _ _ _ q => q)) hm
/-! and, or, if -/
theorem ST.val (h : SE X cf e ie) (he : ∀ whole, isTrue e X.env whole = (do let v ← whole; standAt e.pos; holding [v] (truthy v)) := by intro _; rfl) : ST X cf e ie := fun b Γ M R EW hw g => T_val (h b Γ M _ EW hw (good_asB g)) he
theorem good_asB_bind {r : Rs Bool} {f : Bool → Mem → Rs Dat} {R : Bool → Mem → Prop} {E : Exn → Gam → Mem → Prop} (g : Good (asB (r.bind f)) R E) : Good r (fun k M => Good (asB (f k M)) R E) E := by
  cases r with
  | ok a M => exact g
  | ex x Γ M => exact g
  | no => exact g
theorem ST.notB (h : ST X cf a ia) : ST X cf (.UnaryOp .Not a pos) (.un .notB ia) := fun b Γ M R EW hw g => T_not (h b Γ M _ EW hw (by
  have g : Good (asB ((evE cf ia Γ M).bind fun d M => ofO (Ab.un1 .notB d M))) R EW := g
  show Good (asB (evE cf ia Γ M)) (fun k M => R (!k) M) EW
  cases hr : evE cf ia Γ M with
  | ok d M1 =>
    rw [hr] at g
    have g : Good (asB (ofO (Ab.un1 .notB d M1))) R EW := g
    cases d with
    | bl k => exact g
    | _ => exact g.elim
  | ex x Γ M1 => rw [hr] at g; exact g
  | no => rw [hr] at g; exact g))
theorem ST.sw (h : SW X cf e ie) : ST X cf e ie := fun b Γ M R EW hw g => T_W (h b Γ M R EW hw g)
theorem SW.and1 (h : ST X cf a ia) : SW X cf (.BoolOp .And [a] pos) ia := fun b Γ M R EW hw g => W_and1 (h b Γ M R EW hw g)
theorem SW.or1 (h : ST X cf a ia) : SW X cf (.BoolOp .Or [a] pos) ia := fun b Γ M R EW hw g => W_or1 (h b Γ M R EW hw g)
theorem SW.and (ha : ST X cf a ia) (h : SW X cf (.BoolOp .And (c :: rest) pos) ic) : SW X cf (.BoolOp .And (a :: c :: rest) pos) (.and ia ic) := fun b Γ M R EW hw g =>
  W_and (ha b Γ M _ EW hw ((good_asB_bind g).imp (fun k M1 q => ⟨fun ek => by subst ek; exact h b Γ M1 R EW hw q, fun ek => by subst ek; exact q⟩) fun _ _ _ q => q))
theorem SW.or (ha : ST X cf a ia) (h : SW X cf (.BoolOp .Or (c :: rest) pos) ic) : SW X cf (.BoolOp .Or (a :: c :: rest) pos) (.or ia ic) := fun b Γ M R EW hw g =>
  W_or (ha b Γ M _ EW hw ((good_asB_bind g).imp (fun k M1 q => ⟨fun ek => by subst ek; exact q, fun ek => by subst ek; exact h b Γ M1 R EW hw q⟩) fun _ _ _ q => q))
theorem SE.one {op : BoolOp} (h : SE X cf a ia) : SE X cf (.BoolOp op [a] pos) ia := fun b Γ M R EW hw g => A_one (h b Γ M R EW hw g)
theorem SE.and (ha : SE X cf a ia) (h : SE X cf (.BoolOp .And (c :: rest) pos) ic) : SE X cf (.BoolOp .And (a :: c :: rest) pos) (.and ia ic) := fun b Γ M R EW hw g =>
  A_and (ha b Γ M _ EW hw (good_asB ((Good.bnd g).imp (fun k M1 q => ⟨fun ek => by subst ek; exact h b Γ M1 R EW hw q, fun ek => by subst ek; exact q⟩) fun _ _ _ q => q) |>.imp (fun d M ⟨k, e, q⟩ => ⟨k, e, q⟩) fun _ _ _ q => q))
theorem SE.or (ha : SE X cf a ia) (h : SE X cf (.BoolOp .Or (c :: rest) pos) ic) : SE X cf (.BoolOp .Or (a :: c :: rest) pos) (.or ia ic) := fun b Γ M R EW hw g =>
  A_or (ha b Γ M _ EW hw (good_asB ((Good.bnd g).imp (fun k M1 q => ⟨fun ek => by subst ek; exact q, fun ek => by subst ek; exact h b Γ M1 R EW hw q⟩) fun _ _ _ q => q) |>.imp (fun d M ⟨k, e, q⟩ => ⟨k, e, q⟩) fun _ _ _ q => q))
theorem SE.orL (ha : SE X cf a ia) (h : SE X cf (.BoolOp .Or (c :: rest) pos) ic) : SE X cf (.BoolOp .Or (a :: c :: rest) pos) (.orL ia ic) := fun b Γ M R EW hw g =>
  A_orL (ha b Γ M _ EW hw ((Good.bnd g).imp (fun d M1 q => by
    cases hr : rd M1 d with
    | none => rw [hr] at q; exact q.elim
    | some ds =>
      rw [hr] at q
      refine ⟨ds, rd_ok hr, fun hn => ?_, fun he => ?_⟩
      · cases ds with
        | nil => exact absurd rfl hn
        | cons x xs => exact q
      · subst he
        exact h b Γ M1 R EW hw q) fun _ _ _ q => q))
theorem SE.ite (hc : ST X cf c ic) (ha : SE X cf a ia) (he : SE X cf e ie) : SE X cf (.IfExp c a e pos) (.ite ic ia ie) := fun b Γ M R EW hw g =>
  A_ifExp (hc b Γ M _ EW hw ((Good.bnd g).imp (fun k M1 q => ⟨fun ek => by subst ek; exact ha b Γ M1 R EW hw q, fun ek => by subst ek; exact he b Γ M1 R EW hw q⟩) fun _ _ _ q => q))
theorem SE.notN {j : Nat} (ha : SE X cf a ia) : SE X cf (.Compare a [.IsNot] [.Constant .none j p2] pos) (.un .notN ia) := SE.un1 .notN (fun b Γ M R h => AE.of (pe_cmpR op_notN pe_tW pe_non (nomark _)) fun σ S A H Q st p => h σ S A H _ st fun v d M' S' A' H' s1 st1 r1 ⟨r, e, q⟩ => by
  have e2 : (∀ u, d ≠ .oth u) ∧ r = (.bl (!d.isN), M') := by
    unfold Ab.un1 at e
    cases d <;> first | (cases e; exact ⟨fun u z => (nomatch z), rfl⟩) | cases e
  obtain ⟨h1, h2⟩ := e2
  subst h2
  exact ⟨rfl, by rw [isN_rep h1 r1]; exact (p.after s1).here st1 (.bl _) q⟩) ha
/-! tests that are comparisons -/
theorem good_asB_bnd {α : Type} {r : Rs α} {f : α → Mem → Rs Dat} {R : Bool → Mem → Prop} {E : Exn → Gam → Mem → Prop} (g : Good (asB (r.bind f)) R E) : Good r (fun k M => Good (asB (f k M)) R E) E := by
  cases r with
  | ok a M => exact g
  | ex x Γ M => exact g
  | no => exact g
theorem good_asB_ofO {o : Option (Dat × Mem)} {R : Bool → Mem → Prop} {E : Exn → Gam → Mem → Prop} (g : Good (asB (ofO o)) R E) : ∃ k M, o = some (.bl k, M) ∧ R k M := by
  cases o with
  | none => exact g.elim
  | some r =>
    obtain ⟨d, M⟩ := r
    cases d with
    | bl k => exact ⟨k, M, rfl, g⟩
    | _ => exact False.elim g
theorem ST.cmp2 (f : B2) (rule : ∀ b Γ M (R : Bool → Mem → Prop), AE X b a Γ M (fun d M1 => AE X b c Γ M1 fun d2 M2 => ∃ k M3, Ab.bin2 f d d2 M2 = some (.bl k, M3) ∧ R k M3) → AT X b e Γ M R) (ha : SE X cf a ia) (hc : SE X cf c ic) : ST X cf e (.bin f ia ic) := fun b Γ M R EW hw g =>
  rule b Γ M R (ha b Γ M _ EW hw ((good_asB_bnd (show Good (asB ((evE cf ia Γ M).bind _)) R EW from g)).imp (fun d M q => hc b Γ M _ EW hw ((good_asB_bnd q).imp (fun d2 M2 q2 => good_asB_ofO q2) fun _ _ _ q => q)) fun _ _ _ q => q))
theorem ST.cmp {op : CmpOp} (ha : SE X cf a ia) (hc : SE X cf c ic) (hm : behindInMarks op c = false := by exact nomark _) : ST X cf (.Compare a [op] [c] pos) (.bin (.cmp op) ia ic) := ST.cmp2 (.cmp op) (fun b Γ M R h => T_cmpD (h.imp fun d M h => h.imp fun d2 M2 ⟨k, M3, e, q⟩ => by
  obtain ⟨n, e1, e2⟩ := Option.map_eq_some_iff.mp e
  cases e2
  exact ⟨k, cmpD_ok e1, q⟩) hm) ha hc
theorem ST.eqv (hu : X.A.units + 64 < cLine) (ha : SE X cf a ia) (hc : SE X cf c ic) (hm : behindInMarks .Eq c = false := by rfl) : ST X cf (.Compare a [.Eq] [c] pos) (.bin .eqv ia ic) := ST.cmp2 .eqv (fun b Γ M R h => T_cmp (op_eqD hu) hm (h.imp fun d1 M1 h1 => h1.imp fun d2 M2 ⟨k, M3, e, q⟩ => fun σ S A H v1 v2 Q st r1 r2 p => by
  obtain ⟨k', hk, e2⟩ := Option.map_eq_some_iff.mp e
  cases e2
  obtain ⟨p1, e1, hk⟩ := Option.bind_eq_some_iff.mp hk
  obtain ⟨p2, e2, hk⟩ := Option.bind_eq_some_iff.mp hk
  split at hk
  · rename_i hs
    obtain ⟨s1, s2⟩ := Bool.and_eq_true_iff.mp hs
    cases hk
    exact ⟨p1, p2, pyD_ok st r1 e1, pyD_ok st r2 e2, s1, s2, p.here st (.bl _) ⟨_, rfl, q⟩⟩
  · cases hk)) ha hc
theorem ST.neqv (hu : X.A.units + 64 < cLine) (ha : SE X cf a ia) (hc : SE X cf c ic) (hm : behindInMarks .NotEq c = false := by rfl) : ST X cf (.Compare a [.NotEq] [c] pos) (.bin .neqv ia ic) := ST.cmp2 .neqv (fun b Γ M R h => T_cmp (op_neD hu) hm (h.imp fun d1 M1 h1 => h1.imp fun d2 M2 ⟨k, M3, e, q⟩ => fun σ S A H v1 v2 Q st r1 r2 p => by
  obtain ⟨k', hk, e2⟩ := Option.map_eq_some_iff.mp e
  cases e2
  obtain ⟨p1, e1, hk⟩ := Option.bind_eq_some_iff.mp hk
  obtain ⟨p2, e2, hk⟩ := Option.bind_eq_some_iff.mp hk
  split at hk
  · rename_i hs
    obtain ⟨s1, s2⟩ := Bool.and_eq_true_iff.mp hs
    cases hk
    exact ⟨p1, p2, pyD_ok st r1 e1, pyD_ok st r2 e2, s1, s2, p.here st (.bl _) ⟨_, rfl, q⟩⟩
  · cases hk)) ha hc
theorem un_isN {d : Dat} {M M3 : Mem} {k : Bool} (e : Ab.un1 .isN d M = some (.bl k, M3)) : (∀ u, d ≠ .oth u) ∧ k = d.isN ∧ M3 = M := by
  unfold Ab.un1 at e
  cases d <;> first | (cases e; exact ⟨fun u z => (nomatch z), rfl, rfl⟩) | cases e
theorem un_notN {d : Dat} {M M3 : Mem} {k : Bool} (e : Ab.un1 .notN d M = some (.bl k, M3)) : (∀ u, d ≠ .oth u) ∧ k = (!d.isN) ∧ M3 = M := by
  unfold Ab.un1 at e
  cases d <;> first | (cases e; exact ⟨fun u z => (nomatch z), rfl, rfl⟩) | cases e
theorem ST.isN {j : Nat} (ha : SE X cf a ia) : ST X cf (.Compare a [.Is] [.Constant .none j p2] pos) (.un .isN ia) := fun b Γ M R EW hw g =>
  T_isN (ha b Γ M _ EW hw ((good_asB_bnd (show Good (asB ((evE cf ia Γ M).bind _)) R EW from g)).imp (fun d M q => by
    obtain ⟨k, M3, e, q'⟩ := good_asB_ofO q
    obtain ⟨h1, h2, h3⟩ := un_isN e
    subst h2 h3
    exact ⟨_, fun S A v rr => isN_rep h1 rr, q'⟩) fun _ _ _ q => q))
theorem ST.notN {j : Nat} (ha : SE X cf a ia) : ST X cf (.Compare a [.IsNot] [.Constant .none j p2] pos) (.un .notN ia) := fun b Γ M R EW hw g =>
  T_notN (ha b Γ M _ EW hw ((good_asB_bnd (show Good (asB ((evE cf ia Γ M).bind _)) R EW from g)).imp (fun d M q => by
    obtain ⟨k, M3, e, q'⟩ := good_asB_ofO q
    obtain ⟨h1, h2, h3⟩ := un_notN e
    subst h2 h3
    exact ⟨_, fun S A v rr => isN_rep h1 rr, q'⟩) fun _ _ _ q => q))
theorem ST.chain {op op' : CmpOp} (ha : SE X cf a ia) (h1 : SE X cf e1 i1) (h2 : SE X cf e2 i2) (hm : lastMarks [op, op'] [e1, e2] = false := by with_unfolding_all rfl) : ST X cf (.Compare a [op, op'] [e1, e2] pos) (.chain op op' ia i1 i2) := fun b Γ M R EW hw g =>
  T_chain (ha b Γ M _ EW hw ((good_asB_bnd (show Good (asB ((evE cf ia Γ M).bind _)) R EW from g)).imp (fun d M1 q => h1 b Γ M1 _ EW hw ((good_asB_bnd q).imp (fun x M2 q => by
    cases hc : cmpI op d x with
    | none => rw [hc] at q; exact q.elim
    | some k =>
      rw [hc] at q
      obtain ⟨i, j, ed, ex, hk⟩ := cmpI_ok hc
      refine ⟨i, j, k, ed, ex, hk, fun ek => ?_, fun ek => ?_⟩
      · subst ek
        exact h2 b Γ M2 _ EW hw ((good_asB_bnd q).imp (fun y M3 q => by
          cases hc2 : cmpI op' x y with
          | none => rw [hc2] at q; exact q.elim
          | some k' =>
            rw [hc2] at q
            obtain ⟨j', l, ex', ey, hk'⟩ := cmpI_ok hc2
            have z : Dat.int j = Dat.int j' := ex.symm.trans ex'
            cases z
            exact ⟨l, k', ey, hk', q⟩) fun _ _ _ q => q)
      · subst ek
        exact q) fun _ _ _ q => q)) fun _ _ _ q => q)) hm
/-! lists of expressions -/
theorem SA.nil : SA X cf [] .nil := fun b Γ M R EW hw g => L_nil g
theorem SA.cons (ha : SE X cf e ie) (h : SA X cf es ies) (hs : starEach (e :: es) X.env = (false, eval e X.env) :: starEach es X.env := by rfl) : SA X cf (e :: es) (.cons ie ies) := fun b Γ M R EW hw g =>
  L_cons (ha b Γ M _ EW hw ((Good.bnd g).imp (fun d M1 q => h b Γ M1 _ EW hw ((Good.bnd q).imp (fun ds M2 q => q) fun _ _ _ q => q)) fun _ _ _ q => q)) hs
theorem SK.nil : SK X cf [] .nil := fun b Γ M R EW hw g => K_nil g
theorem SK.cons (ha : SE X cf e ie) (h : SK X cf kws ies) : SK X cf (⟨nm, e, kpos⟩ :: kws) (.cons ie ies) := fun b Γ M R EW hw g =>
  K_cons (ha b Γ M _ EW hw ((Good.bnd g).imp (fun d M1 q => h b Γ M1 _ EW hw ((Good.bnd q).imp (fun ds M2 q => q) fun _ _ _ q => q)) fun _ _ _ q => q))
theorem SE.tup {k : Nat} (h : SA X cf es ies) : SE X cf (.Tuple es k pos) (.tup ies) := fun b Γ M R EW hw g => A_tup (h b Γ M _ EW hw ((Good.bnd g).imp (fun ds M1 q => good_if q) fun _ _ _ q => q))
theorem SE.lst (h : SA X cf es ies) : SE X cf (.List es pos) (.lst ies) := fun b Γ M R EW hw g => A_lst (h b Γ M _ EW hw ((Good.bnd g).imp (fun ds M1 q => good_if q) fun _ _ _ q => q))
theorem SE.lstC (h : SA X cf es ies) : SE X cf (.List es pos) (.lstC ies) := fun b Γ M R EW hw g => A_lstC (h b Γ M _ EW hw ((Good.bnd g).imp (fun ds M1 q => good_if q) fun _ _ _ q => q))
/-! slices -/
theorem SO.none : SO X cf none .none := fun b Γ M R EW hw g => O_none g
theorem SO.some (h : SE X cf e ie) : SO X cf (some e) (.some ie) := fun b Γ M R EW hw g => O_some (h b Γ M _ EW hw ((Good.bnd g).imp (fun d M1 q => by
  cases d with
  | int i => exact ⟨i, rfl, q⟩
  | _ => exact False.elim q) fun _ _ _ q => q))
theorem cutX_ok {M : Mem} {d x : Dat} {l u : Option Int} (h : cutX M d l u = Option.some x) : SliD M d l u x := by
  unfold cutX at h
  split at h
  · cases h; exact .t
  · split at h
    · cases h; exact .s (by assumption)
    · cases h
  · obtain ⟨ds, e, e2⟩ := Option.map_eq_some_iff.mp h
    subst e2
    exact .l (rd_ok e)
theorem SE.sl (ha : SE X cf a ia) (hl : SO X cf lo il) (hh : SO X cf hi ih) : SE X cf (.Subscript a (.Slice lo hi none p2) pos) (.sl ia il ih) := fun b Γ M R EW hw g =>
  A_sl (ha b Γ M _ EW hw ((Good.bnd g).imp (fun d M1 q => hl b Γ M1 _ EW hw ((Good.bnd q).imp (fun l M2 q => hh b Γ M2 _ EW hw ((Good.bnd q).imp (fun u M3 q => by
    cases hx : cutX M3 d l u with
    | none => rw [hx] at q; exact q.elim
    | some x => rw [hx] at q; exact ⟨x, cutX_ok hx, q⟩) fun _ _ _ q => q)) fun _ _ _ q => q)) fun _ _ _ q => q))
theorem SE.slC (ha : SE X cf a ia) (hl : SO X cf lo il) (hh : SO X cf hi ih) : SE X cf (.Subscript a (.Slice lo hi none p2) pos) (.slC ia il ih) := fun b Γ M R EW hw g =>
  A_slC (ha b Γ M _ EW hw ((Good.bnd g).imp (fun d M1 q => hl b Γ M1 _ EW hw ((Good.bnd q).imp (fun l M2 q => hh b Γ M2 _ EW hw ((Good.bnd q).imp (fun u M3 q => by
    cases hx : rd M3 d with
    | none => rw [hx] at q; exact q.elim
    | some x => rw [hx] at q; exact ⟨x, rd_ok hx, q⟩) fun _ _ _ q => q)) fun _ _ _ q => q)) fun _ _ _ q => q))
/-! what is walked -/
theorem SI.lst (h : SE X cf e ie) : SI X cf tg e (.lst ie) := fun b Γ M R EW hw g => I_list (h b Γ M _ EW hw ((Good.bnd g).imp (fun d M1 q => by
  cases hr : rd M1 d with
  | none => rw [hr] at q; exact q.elim
  | some ds => rw [hr] at q; exact ⟨ds, rd_ok hr, _, q, fun M h => gd1 h⟩) fun _ _ _ q => q))
theorem SI.tup (h : SE X cf e ie) : SI X cf tg e (.tup ie) := fun b Γ M R EW hw g => I_tup (h b Γ M _ EW hw ((Good.bnd g).imp (fun d M1 q => by
  cases d with
  | tup ds => exact ⟨ds, rfl, _, q, fun M h => trivial⟩
  | _ => exact False.elim q) fun _ _ _ q => q))
theorem SI.any (h : SE X cf e ie) : SI X cf tg e (.any ie) := fun b Γ M R EW hw g => by
  have h1 := h b Γ M
  have g : Good ((evE cf ie Γ M).bind fun d M => match d with
    | .tup ds => Rs.ok (ds, ([] : Gd)) M
    | d => match rd M d with
      | Option.some ds => .ok (ds, [(d, ds)]) M
      | Option.none => .no) R EW := g
  cases he : evE cf ie Γ M with
  | ok d M1 =>
    rw [he] at g h1
    have keep : AE X b e Γ M fun d' M' => d' = d ∧ M' = M1 := h1 _ EW hw ⟨rfl, rfl⟩
    cases d with
    | tup ds => exact I_tup (keep.imp fun d' M' ⟨e1, e2⟩ => by subst e1 e2; exact ⟨ds, rfl, _, g, fun M h => trivial⟩)
    | _ =>
      refine I_list (keep.imp fun d' M' ⟨e1, e2⟩ => ?_)
      subst e1 e2
      simp only [Rs.bind] at g
      split at g
      · rename_i hr
        exact ⟨_, rd_ok hr, _, g, fun M h => gd1 h⟩
      · exact g.elim
  | ex x G2 M1 =>
    rw [he] at g h1
    exact I_list ((h1 (fun _ _ => False) EW hw g).imp fun _ _ z => z.elim)
  | no => rw [he] at g; exact g.elim
theorem isR62_ok {i : Int} (h : isR62 i = true) : -(2 ^ 62) ≤ i ∧ i < 2 ^ 62 := by
  obtain ⟨h1, h2⟩ := Bool.and_eq_true_iff.mp h
  exact ⟨of_decide_eq_true h1, of_decide_eq_true h2⟩
theorem SI.rng1 (hg : Gl X "range") (hm : X.mg "range" = none) (h : SE X cf e ie) (hs : starEach [e] X.env = [(false, eval e X.env)] := by rfl) : SI X cf tg (.Call (.Name "range" p) [e] [] pos) (.rng1 ie) := fun b Γ M R EW hw g => I_range1 hg hm (h b Γ M _ EW hw ((Good.bnd g).imp (fun d M1 q => by
  cases d with
  | int n =>
    obtain ⟨z, q⟩ := good_if q
    exact ⟨n, rfl, (isR62_ok z).1, (isR62_ok z).2, _, q, fun M h => trivial⟩
  | _ => exact False.elim q) fun _ _ _ q => q)) hs
theorem SI.rng2 (hg : Gl X "range") (hm : X.mg "range" = none) (h1 : SE X cf e1 i1) (h2 : SE X cf e2 i2) (hs : starEach [e1, e2] X.env = [(false, eval e1 X.env), (false, eval e2 X.env)] := by rfl) (hs2 : starEach [e2] X.env = [(false, eval e2 X.env)] := by rfl) : SI X cf tg (.Call (.Name "range" p) [e1, e2] [] pos) (.rng2 i1 i2) := fun b Γ M R EW hw g =>
  I_range2 hg hm (h1 b Γ M _ EW hw ((Good.bnd g).imp (fun d M1 q => h2 b Γ M1 _ EW hw ((Good.bnd q).imp (fun d' M2 q => by
    cases d with
    | int i =>
      cases d' with
      | int j =>
        obtain ⟨z, q⟩ := good_if q
        obtain ⟨z1, z2⟩ := Bool.and_eq_true_iff.mp z
        exact ⟨i, j, rfl, rfl, ⟨(isR62_ok z1).1, (isR62_ok z1).2, (isR62_ok z2).1, (isR62_ok z2).2⟩, _, q, fun M h => trivial⟩
      | _ => exact False.elim q
    | _ => exact False.elim q) fun _ _ _ q => q)) fun _ _ _ q => q)) hs hs2
theorem SI.enum {elts : List Expr} {kk : Nat} {tpos : Pos} (hg : Gl X "enumerate") (hm : X.mg "enumerate" = none) (h : SE X cf e ie) (hs : starEach [e] X.env = [(false, eval e X.env)] := by rfl) : SI X cf (.Tuple elts kk tpos) (.Call (.Name "enumerate" p) [e] [] pos) (.enum ie) := fun b Γ M R EW hw g => I_enum hg hm (h b Γ M _ EW hw ((Good.bnd g).imp (fun d M1 q => by
  cases hr : rd M1 d with
  | none => rw [hr] at q; exact q.elim
  | some ds => rw [hr] at q; exact ⟨ds, rd_ok hr, _, q, fun M h => gd1 h⟩) fun _ _ _ q => q)) hs
theorem SI.zip {elts : List Expr} {kk : Nat} {tpos : Pos} (hg : Gl X "zip") (hm : X.mg "zip" = none) (h1 : SE X cf e1 i1) (h2 : SE X cf e2 i2) (hs : starEach [e1, e2] X.env = (false, eval e1 X.env) :: starEach [e2] X.env := by rfl) (hs2 : starEach [e2] X.env = (false, eval e2 X.env) :: starEach [] X.env := by rfl) (hpl : (backTo pos (starEach [e2] X.env)).any (·.1) = false := by rfl) :
    SI X cf (.Tuple elts kk tpos) (.Call (.Name "zip" p) [e1, e2] [] pos) (.zip i1 i2) := fun b Γ M R EW hw g => I_zip hg hm (h1 b Γ M _ EW hw ((Good.bnd g).imp (fun d M1 q => h2 b Γ M1 _ EW hw ((Good.bnd q).imp (fun d' M2 q => by
  split at q
  · exact .inr ⟨_, _, rfl, rfl, _, q, fun M h => trivial⟩
  · split at q
    · rename_i ds es hr hr'
      exact .inl ⟨ds, es, rd_ok hr, rd_ok hr', _, q, fun M h => gd2 h⟩
    · exact q.elim) fun _ _ _ q => q)) fun _ _ _ q => q)) hs hs2 hpl
end
end Ab
end

section
set_option Elab.async false
set_option linter.all false
set_option maxRecDepth 100000
set_option maxHeartbeats 4000000
/-! Ab17: comprehensions, calls, statements. -/
namespace Ab
open PySem PySem.Spec PyProof.Rows L2
def SIfs (X : Cx) (scope : Scope) (cf : CallF) (ifs : List Expr) (ic : Ex) : Prop := match ifs with
  | [] => ic = .dat (.bl true)
  | [c] => ∀ s H C cl fp, ST (X.blk s H scope (compEnvC scope cl C X.env) fp) cf c ic
  | _ => False
def SB (X : Cx) (scope : Scope) (cf : CallF) (e : Expr) (ie : Ex) : Prop := ∀ s H C cl fp, SE (X.blk s H scope (compEnvC scope cl C X.env) fp) cf e ie
theorem putT_ok {t : Tgt} {d : Dat} {Γ Γ' : Gam} (h : putT t d Γ = some Γ') : t.Put d Γ Γ' := by
  unfold putT at h
  split at h
  · cases h; exact .one _ _ _
  · split at h
    · cases h; exact .tup (by assumption)
    · cases h
  · cases h
theorem good_lc {g : Gd} {f : Dat → Mem → Rs (Option Dat)} {d : Dat} {ds acc : List Dat} {M : Mem} {R : List Dat → Mem → Prop} {E : Exn → Gam → Mem → Prop} (h : Good (lcGo g f (d :: ds) acc M) R E) :
    Good (f d M) (fun o M' => gdOk M' g = true ∧ match o with
      | some y => Good (lcGo g f ds (acc ++ [y]) M') R E
      | none => Good (lcGo g f ds acc M') R E) (fun _ _ _ => False) := by
  unfold lcGo at h
  cases hf : f d M with
  | ok o M' =>
    rw [hf] at h
    cases o with
    | some y => exact good_if h
    | none => exact good_if h
  | ex x Γ M' => rw [hf] at h; exact h
  | no => rw [hf] at h; exact h
theorem drop_get {α : Type} {l : List α} {i : Nat} {x : α} (h : l[i]? = some x) : l.drop i = x :: l.drop (i + 1) := by
  obtain ⟨hi, e⟩ := List.getElem?_eq_some_iff.mp h
  rw [List.drop_eq_getElem_cons hi, e]
section
variable {X : Cx} {b : Bas} {cf : CallF} {Γ : Gam} {M : Mem} {elt tg iter : Expr} {ifs : List Expr} {scope : Scope} {own : List (Str × Nat)} {pos : Pos} {ie ic : Ex} {ir : Ir} {t : Tgt} {vs : List Nat} {c : Bool}
def lcF (cf : CallF) (t : Tgt) (vs : List Nat) (cond e : Ex) (Γ : Gam) (d : Dat) (M : Mem) : Rs (Option Dat) := match putT t d (wipeG Γ vs) with
  | some Γ2 => (asB (evE cf cond Γ2 M)).bind fun k M => match k with
    | true => (evE cf e Γ2 M).bind fun y M => .ok (some y) M
    | false => .ok none M
  | none => .no
theorem lc_ask {g : Gd} {ds : List Dat} {RD : List Dat → Mem → Prop} {Gm : Mem → Prop} {M1 : Mem} {E : Exn → Gam → Mem → Prop} (hI : SIfs X scope cf ifs ic) (hE : SB X scope cf elt ie) (hl : ds.length ≤ sizeLine) (h0 : gdOk M1 g = true) (hG : ∀ M, gdOk M g = true → Gm M)
    (h : Good (lcGo g (lcF cf t vs ic ie Γ) ds [] M1) RD E) : LcAsk X b scope t vs ifs elt Γ RD ds Gm M1 := by
  refine ⟨fun i acc M' => acc.length ≤ i ∧ gdOk M' g = true ∧ Good (lcGo g (lcF cf t vs ic ie Γ) (ds.drop i) acc M') RD E, ⟨Nat.le_refl _, h0, h⟩, fun i acc M' _ q => hG M' q.2.1, fun i d acc M' hd q => ?_, fun acc M' q => ?_⟩
  · obtain ⟨q1, q2, q3⟩ := q
    rw [drop_get hd] at q3
    have q4 := good_lc q3
    unfold lcF at q4
    cases hp : putT t d (wipeG Γ vs) with
    | none => rw [hp] at q4; exact q4.elim
    | some Γ2 =>
      rw [hp] at q4
      have hi : i < ds.length := (List.getElem?_eq_some_iff.mp hd).1
      refine ⟨Γ2, putT_ok hp, ?_⟩
      have q5 := Good.bnd q4
      have elt_ : ∀ {acc' : List Dat} {M2 : Mem}, Good ((evE cf ie Γ2 M2).bind fun y M => Rs.ok (some y) M) (fun o M' => gdOk M' g = true ∧ match o with
          | some y => Good (lcGo g (lcF cf t vs ic ie Γ) (ds.drop (i + 1)) (acc ++ [y]) M') RD E
          | none => Good (lcGo g (lcF cf t vs ic ie Γ) (ds.drop (i + 1)) acc M') RD E) (fun _ _ _ => False) →
          AEB X b scope elt Γ2 M2 fun y M3 => acc.length < sizeLine ∧ (acc ++ [y]).length ≤ i + 1 ∧ gdOk M3 g = true ∧ Good (lcGo g (lcF cf t vs ic ie Γ) (ds.drop (i + 1)) (acc ++ [y]) M3) RD E := fun {acc' M2} q s H C cl fp =>
        hE s H C cl fp b Γ2 M2 _ _ XW.no ((Good.bnd q).imp (fun y M3 q => ⟨by omega, by rw [List.length_append]; simpa using q1, q.1, q.2⟩) fun _ _ _ q => q)
      unfold AIfs
      unfold SIfs at hI
      match ifs, hI with
      | [], hI =>
        subst hI
        exact (show _ ∧ _ from ⟨fun _ => elt_ (acc' := acc) q5, fun z => nomatch z⟩)
      | [cc], hI =>
        intro s H C cl fp
        refine hI s H C cl fp b Γ2 M' _ _ XW.no (q5.imp (fun k M2 q => ?_) fun _ _ _ q => q)
        cases k with
        | true => exact ⟨fun _ => elt_ (acc' := acc) q, fun z => nomatch z⟩
        | false => exact ⟨fun z => (nomatch z), fun _ => ⟨Nat.le_succ_of_le q1, q.1, q.2⟩⟩
      | _ :: _ :: _, hI => exact hI.elim
  · obtain ⟨_, _, q⟩ := q
    rw [List.drop_length] at q
    exact q
theorem AI.imp {R R' : List Dat → (Mem → Prop) → Mem → Prop} (h : AI X b tg iter Γ M R') (k : ∀ ds Gm M1, R' ds Gm M1 → R ds Gm M1) : AI X b tg iter Γ M R := by
  obtain ⟨wi, h1, h2⟩ := h
  exact ⟨wi, h1, fun σ S A H Rw st q => h2 σ S A H Rw st fun J ds Gm M' S' A' H' s' st' g r => q J ds Gm M' S' A' H' s' st' g (k _ _ _ r)⟩
/-- what a comprehension's run asks of its rule -/
theorem lc_ai {R : Dat → Mem → Prop} {EW : Exn → Gam → Mem → Prop} (hw : XW X b EW) (hi : SI X cf tg iter ir) (hI : SIfs X scope cf ifs ic) (hE : SB X scope cf elt ie) (g : Good (evE cf (.lc c t vs ir ic ie) Γ M) R EW) :
    AI X b tg iter Γ M (LcAsk X b scope t vs ifs elt Γ fun acc M' => match c with
      | true => R (.ptr M'.length) (M' ++ [.lst acc])
      | false => R (.lst acc) M') :=
  (hi b Γ M _ EW hw (Good.bnd g)).imp fun ds Gm M1 ⟨gd, q, hG⟩ => by
    obtain ⟨⟨h1, h2⟩, q⟩ := good_if q
    refine lc_ask hI hE h1 h2 hG ((Good.bnd q).imp (fun acc M' q => ?_) fun _ _ _ q => q)
    cases c with
    | true => exact q
    | false => exact q
theorem SE.lc (hc : X.calm = true) (hN : X.N.Nodup) (ok : BlkOk X.N X.env.scope scope own) (hg : ∀ (s : Shared) (H : Hp) (C : Addr) (cl : List (Str × Addr)) (fp : List Addr), PG (X.blk s H scope (compEnvC scope cl C X.env) fp) tg (t.g X.K)) (hvs : own.map (·.2) = vs) (hsl : ∀ i ∈ t.slots, i ∈ vs)
    (hi : SI X cf tg iter ir) (hI : SIfs X scope cf ifs ic) (hE : SB X scope cf elt ie) (hs : ∀ x, foldedSetIterable iter X.env x = pure x := by intro _; rfl) : SE X cf (.ListComp elt [⟨tg, iter, ifs, 0⟩] scope pos) (.lc false t vs ir ic ie) := fun b Γ M R EW hw g => by
  subst hvs
  exact A_lc t hc hN ok hg hsl (lc_ai hw hi hI hE g) hs
theorem SE.lcC (hc : X.calm = true) (hN : X.N.Nodup) (ok : BlkOk X.N X.env.scope scope own) (hg : ∀ (s : Shared) (H : Hp) (C : Addr) (cl : List (Str × Addr)) (fp : List Addr), PG (X.blk s H scope (compEnvC scope cl C X.env) fp) tg (t.g X.K)) (hvs : own.map (·.2) = vs) (hsl : ∀ i ∈ t.slots, i ∈ vs)
    (hi : SI X cf tg iter ir) (hI : SIfs X scope cf ifs ic) (hE : SB X scope cf elt ie) (hs : ∀ x, foldedSetIterable iter X.env x = pure x := by intro _; rfl) : SE X cf (.ListComp elt [⟨tg, iter, ifs, 0⟩] scope pos) (.lc true t vs ir ic ie) := fun b Γ M R EW hw g => by
  subst hvs
  exact A_lcC t hc hN ok hg hsl (lc_ai hw hi hI hE g) hs
end

/-! ### calls of defs -/
def Exs.len : Exs → Nat
  | .nil => 0
  | .cons _ es => es.len + 1
theorem evA_len {cf : CallF} : ∀ {ies : Exs} {Γ : Gam} {M : Mem} {R : List Dat → Mem → Prop} {E : Exn → Gam → Mem → Prop}, Good (evA cf ies Γ M) R E → Good (evA cf ies Γ M) (fun ds M => ds.length = ies.len ∧ R ds M) E
  | .nil, Γ, M, R, E, g => ⟨rfl, g⟩
  | .cons e es, Γ, M, R, E, g => by
    have g : Good ((evE cf e Γ M).bind fun d M => (evA cf es Γ M).bind fun ds M => Rs.ok (d :: ds) M) R E := g
    show Good ((evE cf e Γ M).bind fun d M => (evA cf es Γ M).bind fun ds M => Rs.ok (d :: ds) M) _ E
    cases he : evE cf e Γ M with
    | ok d M1 =>
      rw [he] at g
      have g2 := evA_len (Good.bnd (show Good ((evA cf es Γ M1).bind fun ds M => Rs.ok (d :: ds) M) R E from g))
      show Good ((evA cf es Γ M1).bind fun ds M => Rs.ok (d :: ds) M) _ E
      cases ha : evA cf es Γ M1 with
      | ok ds M2 =>
        rw [ha] at g2
        exact ⟨congrArg (· + 1) g2.1, g2.2⟩
      | ex x G2 M2 => rw [ha] at g2; exact g2
      | no => rw [ha] at g2; exact g2
    | ex x G1 M1 => rw [he] at g; exact g
    | no => rw [he] at g; exact g
/-- a def of the module, as the runner's j -/
structure HasFn (P : Program) (w : World) (K : PySem.W.Frag) (mg : Str → Option Value) (base : Heap) (cf : CallF) (k : Nat) (x : Str) (j n : Nat) (ps : List Str) : Prop where
  ex : ∃ f fd, FnOk P w K mg base (L2.CX P w) k f fd ps (SpD K n (cf j)) ∧ mg x = some (.ref f) ∧ PySem.W.keepIn K (.ref f) = true ∧ Binds K fd ps [] ∧ KwB K fd ps ps
section
variable {X : Cx} {cf : CallF} {k n j : Nat} {x : Str} {ps : List Str} {e : Expr} {es : List Expr} {kws : List Keyword} {p pos : Pos} {ies : Exs} {w : Cw}
theorem SE.call (hf : HasFn X.prog X.w X.K X.mg X.base cf k x j n ps) (hr : Room k X.A) (hg : Gl X x) (ha : SA X cf (e :: es) ies) (hn : ies.len = n := by rfl) (hdb : (x == ("__debug__" : Str)) = false := by decide) (he : starEach (e :: es) X.env = (false, eval e X.env) :: starEach es X.env := by rfl) (hpl : (backTo pos (starEach es X.env)).any (·.1) = false := by rfl) :
    SE X cf (.Call (.Name x p) (e :: es) [] pos) (.call w j ies) := fun b Γ M R EW hw g => by
  obtain ⟨W, tk, hW⟩ := id hw
  obtain ⟨f, fd, F, hm, hk, hb, _⟩ := hf.ex
  refine callP (cf := cf) (w := w) (j := j) (pe_callS F hr hg hm hk hb (fun σ => L2.passAt tk σ) pa_tW hdb he hpl) hW ?_
  exact ha b Γ M _ EW hw ((evA_len (Good.bnd g)).imp (fun ds M1 q => ⟨q.1.trans hn, q.2⟩) fun _ _ _ q => q)
theorem SE.kw (hf : HasFn X.prog X.w X.K X.mg X.base cf k x j n ps) (hr : Room k X.A) (hg : Gl X x) (ha : SK X cf kws ies) (hn : ies.len = n := by rfl) (hall : (backToKw pos (keywordEach kws X.env)).all (·.1.isSome) = true := by rfl) (hks : (backToKw pos (keywordEach kws X.env)).filterMap (·.1) = ps := by rfl)
    (hdb : (x == ("__debug__" : Str)) = false := by decide) (hpl : ((backTo pos (starEach [] X.env)).any (·.1) || (backToKw pos (keywordEach kws X.env)).any (·.1.isNone)) = false := by rfl) :
    SE X cf (.Call (.Name x p) [] kws pos) (.call w j ies) := fun b Γ M R EW hw g => by
  obtain ⟨W, tk, hW⟩ := id hw
  obtain ⟨f, fd, F, hm, hk, _, hb⟩ := hf.ex
  refine callP (cf := cf) (w := w) (j := j) (pe_kw0 F hr hg hm hk hb (fun σ => L2.passAt tk σ) pk_tW rfl hall hks hdb hpl) hW ?_
  exact ha b Γ M _ EW hw ((evA_len (Good.bnd g)).imp (fun ds M1 q => ⟨q.1.trans hn, q.2⟩) fun _ _ _ q => q)
end
end Ab
end

section
set_option Elab.async false
set_option linter.all false
set_option maxRecDepth 100000
set_option maxHeartbeats 4000000
/-! Ab18: statements, defs. -/
namespace Ab
open PySem PySem.Spec PyProof.Rows L2
def flD (D : AEnds) : Fl → Mem → Prop
  | .nx Γ, M => D.nx Γ M
  | .rt d, M => D.rt d M
  | .bk Γ, M => D.bk Γ M
  | .ct Γ, M => D.ct Γ M
def SG (X : Cx) (cf : CallF) (tg : Expr) (t : Tg) : Prop := ∀ b d Γ M R EW, XW X b EW → Good (evG cf t d Γ M) R EW → AG X b tg d Γ M R
def SGs (X : Cx) (cf : CallF) (tgs : List Expr) (t : Tgs) : Prop := ∀ b d Γ M R EW, XW X b EW → Good (evGs cf t d Γ M) R EW → AGs X b tgs d Γ M R
def SS (X : Cx) (wf : Nat) (cf : CallF) (st : Stmt) (ir : Sm) : Prop := ∀ b Γ M D EW, XW X b EW → Good (evS wf cf ir Γ M) (flD D) EW → AS X b st Γ M D
def SSs (X : Cx) (wf : Nat) (cf : CallF) (st : List Stmt) (ir : Sms) : Prop := ∀ b Γ M D EW, XW X b EW → Good (evSs wf cf ir Γ M) (flD D) EW → ASs X b st Γ M D
section
variable {X : Cx} {wf : Nat} {cf : CallF} {e a c e1 e2 e3 o i tg iter elt : Expr} {tgs es rest : List Expr} {pos p p2 px py pz pt : Pos} {ie ia ic i1 i2 i3 io : Ex} {t : Tg} {ts : Tgs} {st : Stmt} {sts b1 b2 body : List Stmt} {s : Sm} {ss s1 s2 : Sms} {ir : Ir}
/-! targets -/
theorem SG.name (k : Nat) {x : Str} (hN : X.N.Nodup) (hi : X.N[k]? = some x) (hx : Loc X.env.scope x) (hf : X.fn x = true ∨ X.env.scope.names.lookup x = some .local := by first | exact .inl rfl | exact .inr rfl | assumption) : SG X cf (.Name x pos) (.name k) := fun b d Γ M R EW hw g => G_name k hN hi hx g hf
theorem SGs.nil : SGs X cf [] .nil := fun b d Γ M R EW hw g => by
  cases d with
  | nil => exact G_nil g
  | cons _ _ => exact False.elim g
theorem SGs.cons (h : SG X cf tg t) (h2 : SGs X cf tgs ts) (hs : (assignEach (tg :: tgs) X.env).map (·.2) = assign tg X.env :: (assignEach tgs X.env).map (·.2) := by rfl) : SGs X cf (tg :: tgs) (.cons t ts) := fun b d Γ M R EW hw g => by
  cases d with
  | nil => exact False.elim g
  | cons d ds => exact G_cons (h b d Γ M _ EW hw ((Good.bnd g).imp (fun Γ1 M1 q => h2 b ds Γ1 M1 R EW hw q) fun _ _ _ q => q)) hs
theorem SG.tup {k : Nat} (hc : X.calm = true) (h : SGs X cf tgs ts) (hn : (assignEach tgs X.env).length = ts.len := by rfl) (hst : (assignEach tgs X.env).findIdx? (·.1) = none := by rfl) : SG X cf (.Tuple tgs k pos) (.tup ts) := fun b d Γ M R EW hw g => by
  cases d with
  | tup ds =>
    have g : Good (if ds.length = ts.len then evGs cf ts ds Γ M else .no) R EW := g
    obtain ⟨hl, g⟩ := good_if g
    exact G_tup hc (h b ds Γ M R EW hw g) (hn.trans hl.symm) hst
  | _ => exact False.elim g
theorem SG.sub (ho : SE X cf o io) (hi : SE X cf i ic) (ha : ∀ v, assign (.Subscript o i pos) X.env v = (do
      let ov ← holding [v] (eval o X.env)
      let iv ← holding [v, ov] (eval i X.env)
      standAt pos
      holding [v, ov, iv] (setItem ov iv v)
      release [v, ov, iv] []) := by intro _; rfl) : SG X cf (.Subscript o i pos) (.sub io ic) := fun b d Γ M R EW hw g =>
  G_subL (ho b Γ M _ EW hw ((Good.bnd g).imp (fun x M1 q => hi b Γ M1 _ EW hw ((Good.bnd q).imp (fun y M2 q => by
    split at q
    · split at q
      · split at q
        · rename_i hM _ j hj
          exact ⟨_, _, _, j, rfl, hM, rfl, hj, q⟩
        · exact q.elim
      · exact q.elim
    · exact q.elim) fun _ _ _ q => q)) fun _ _ _ q => q)) ha
/-! statements -/
theorem SS.stuck : SS X wf cf st .stuck := fun b Γ M D EW hw g => g.elim
theorem SS.expr (h : SE X cf e ie) (hs : swapsWith e none pos.line X.env = pure false := by rfl) : SS X wf cf (.Expr e pos) (.expr ie) := fun b Γ M D EW hw g => S_expr (h b Γ M _ EW hw ((Good.bnd g).imp (fun d M1 q => q) fun _ _ _ q => q)) hs
theorem SS.set (k : Nat) {x : Str} (hN : X.N.Nodup) (hi : X.N[k]? = some x) (hx : Loc X.env.scope x) (h : SE X cf e ie) (hs : swapsWith e (some (.Name x p2)) pos.line X.env = pure false := by rfl)
    (hf : X.fn x = true ∨ X.env.scope.names.lookup x = some .local := by first | exact .inl rfl | exact .inr rfl | assumption) : SS X wf cf (.Assign [.Name x p2] e pos) (.set k ie) := fun b Γ M D EW hw g => S_set k hN hi hx (h b Γ M _ EW hw ((Good.bnd g).imp (fun d M1 q => q) fun _ _ _ q => q)) hs hf
theorem SS.setLc (k : Nat) (tt : Tgt) {y : Str} {spos : Pos} {scope : Scope} {own : List (Str × Nat)} {ifs : List Expr} {vs : List Nat} (hc : X.calm = true) (hN : X.N.Nodup) (hy : X.N[k]? = some y) (hyl : X.env.scope.names.lookup y = some .local) (ok : BlkOk X.N X.env.scope scope own)
    (hg : ∀ (s : Shared) (H : Hp) (C : Addr) (cl : List (Str × Addr)) (fp : List Addr), PG (X.blk s H scope (compEnvC scope cl C X.env) fp) tg (tt.g X.K)) (hvs : own.map (·.2) = vs) (hsl : ∀ i ∈ tt.slots, i ∈ vs) (hi : SI X cf tg iter ir) (hI : SIfs X scope cf ifs ic) (hE : SB X scope cf elt ie)
    (hsw : swapsWith (.ListComp elt [⟨tg, iter, ifs, 0⟩] scope pos) (some (.Name y py)) spos.line X.env = pure true := by rfl) (hs : ∀ x, foldedSetIterable iter X.env x = pure x := by intro _; rfl) : SS X wf cf (.Assign [.Name y py] (.ListComp elt [⟨tg, iter, ifs, 0⟩] scope pos) spos) (.set k (.lc false tt vs ir ic ie)) := fun b Γ M D EW hw g => by
  subst hvs
  exact S_setLc k tt hc hN hy hyl hsw ok hg hsl (lc_ai (R := fun d M1 => D.nx (Γ.set k (some d)) M1) hw hi hI hE (Good.bnd g)) hs
theorem SS.setLcC (k : Nat) (tt : Tgt) {y : Str} {spos : Pos} {scope : Scope} {own : List (Str × Nat)} {ifs : List Expr} {vs : List Nat} (hc : X.calm = true) (hN : X.N.Nodup) (hy : X.N[k]? = some y) (hyl : X.env.scope.names.lookup y = some .local) (ok : BlkOk X.N X.env.scope scope own)
    (hg : ∀ (s : Shared) (H : Hp) (C : Addr) (cl : List (Str × Addr)) (fp : List Addr), PG (X.blk s H scope (compEnvC scope cl C X.env) fp) tg (tt.g X.K)) (hvs : own.map (·.2) = vs) (hsl : ∀ i ∈ tt.slots, i ∈ vs) (hi : SI X cf tg iter ir) (hI : SIfs X scope cf ifs ic) (hE : SB X scope cf elt ie)
    (hsw : swapsWith (.ListComp elt [⟨tg, iter, ifs, 0⟩] scope pos) (some (.Name y py)) spos.line X.env = pure true := by rfl) (hs : ∀ x, foldedSetIterable iter X.env x = pure x := by intro _; rfl) : SS X wf cf (.Assign [.Name y py] (.ListComp elt [⟨tg, iter, ifs, 0⟩] scope pos) spos) (.set k (.lc true tt vs ir ic ie)) := fun b Γ M D EW hw g => by
  subst hvs
  exact S_setLcC k tt hc hN hy hyl hsw ok hg hsl (lc_ai (R := fun d M1 => D.nx (Γ.set k (some d)) M1) hw hi hI hE (Good.bnd g)) hs
theorem SS.par2 (k l : Nat) {x y : Str} {kt k2 : Nat} (hc : X.calm = true) (hN : X.N.Nodup) (hi : X.N[k]? = some x) (hj : X.N[l]? = some y) (hij : k ≠ l) (hx : X.env.scope.names.lookup x = some .local) (hy : X.env.scope.names.lookup y = some .local) (h1 : SE X cf e1 i1) (h2 : SE X cf e2 i2)
    (hw : swappedStores [.Tuple [.Name x px, .Name y py] kt pt] (.Tuple [e1, e2] k2 p2) X.env = pure (some [x, y]) := by rfl)
    (ha1 : starEach [e1, e2] X.env = (false, eval e1 X.env) :: starEach [e2] X.env := by rfl) (ha2 : starEach [e2] X.env = (false, eval e2 X.env) :: starEach [] X.env := by rfl)
    (hs : swapsWithSole [.Tuple [.Name x px, .Name y py] kt pt] (.Tuple [e1, e2] k2 p2) pos.line X.env = pure false := by rfl) : SS X wf cf (.Assign [.Tuple [.Name x px, .Name y py] kt pt] (.Tuple [e1, e2] k2 p2) pos) (.par2 k l i1 i2) := fun b Γ M D EW hW g =>
  S_par2 k l hc hN hi hj hij hx hy hw (h1 b Γ M _ EW hW ((Good.bnd g).imp (fun d M1 q => h2 b Γ M1 _ EW hW ((Good.bnd q).imp (fun d2 M2 q => q) fun _ _ _ q => q)) fun _ _ _ q => q)) ha1 ha2 hs
theorem SS.par3 (k l m : Nat) {x y z : Str} {kt k2 : Nat} (hc : X.calm = true) (hN : X.N.Nodup) (hi : X.N[k]? = some x) (hj : X.N[l]? = some y) (hl : X.N[m]? = some z) (hij : k ≠ l) (hil : k ≠ m) (hjl : l ≠ m) (hx : X.env.scope.names.lookup x = some .local) (hy : X.env.scope.names.lookup y = some .local) (hz : X.env.scope.names.lookup z = some .local)
    (h1 : SE X cf e1 i1) (h2 : SE X cf e2 i2) (h3 : SE X cf e3 i3) (hw : swappedStores [.Tuple [.Name x px, .Name y py, .Name z pz] kt pt] (.Tuple [e1, e2, e3] k2 p2) X.env = pure (some [x, y, z]) := by rfl)
    (ha1 : starEach [e1, e2, e3] X.env = (false, eval e1 X.env) :: starEach [e2, e3] X.env := by rfl) (ha2 : starEach [e2, e3] X.env = (false, eval e2 X.env) :: starEach [e3] X.env := by rfl) (ha3 : starEach [e3] X.env = (false, eval e3 X.env) :: starEach [] X.env := by rfl)
    (hs : swapsWithSole [.Tuple [.Name x px, .Name y py, .Name z pz] kt pt] (.Tuple [e1, e2, e3] k2 p2) pos.line X.env = pure false := by rfl) : SS X wf cf (.Assign [.Tuple [.Name x px, .Name y py, .Name z pz] kt pt] (.Tuple [e1, e2, e3] k2 p2) pos) (.par3 k l m i1 i2 i3) := fun b Γ M D EW hW g =>
  S_par3 k l m hc hN hi hj hl hij hil hjl hx hy hz hw (h1 b Γ M _ EW hW ((Good.bnd g).imp (fun d M1 q => h2 b Γ M1 _ EW hW ((Good.bnd q).imp (fun d2 M2 q => h3 b Γ M2 _ EW hW ((Good.bnd q).imp (fun d3 M3 q => q) fun _ _ _ q => q)) fun _ _ _ q => q)) fun _ _ _ q => q)) ha1 ha2 ha3 hs
theorem SS.asg (h : SE X cf e ie) (hg : SG X cf tg t) (hs : swapsWithSole [tg] e pos.line X.env = pure false := by rfl) (hw : swappedStores [tg] e X.env = pure none := by rfl) (h1 : (assignEach [tg] X.env).map (·.2) = [assign tg X.env] := by rfl) : SS X wf cf (.Assign [tg] e pos) (.asg t ie) := fun b Γ M D EW hW g =>
  S_asg (h b Γ M _ EW hW ((Good.bnd g).imp (fun d M1 q => hg b d Γ M1 _ EW hW ((Good.bnd q).imp (fun Γ' M' q => q) fun _ _ _ q => q)) fun _ _ _ q => q)) hs hw h1
theorem SS.add (k : Nat) {x : Str} (hN : X.N.Nodup) (hi : X.N[k]? = some x) (hx : Loc X.env.scope x) (h : SE X cf e ie) (hf : X.fn x = true ∨ X.env.scope.names.lookup x = some .local := by first | exact .inl rfl | exact .inr rfl | assumption) : SS X wf cf (.AugAssign (.Name x p2) .Add e pos) (.aug k false ie) := fun b Γ M D EW hW g => by
  unfold evS at g
  split at g
  · rename_i n hΓ
    refine S_augAdd k hN hi hx hΓ (h b Γ M _ EW hW ((Good.bnd g).imp (fun d M1 q => ?_) fun _ _ _ q => q)) hf
    cases d with
    | int j => exact ⟨j, rfl, q⟩
    | _ => exact False.elim q
  · exact g.elim
theorem SS.sub (k : Nat) {x : Str} (hN : X.N.Nodup) (hi : X.N[k]? = some x) (hx : Loc X.env.scope x) (h : SE X cf e ie) (hf : X.fn x = true ∨ X.env.scope.names.lookup x = some .local := by first | exact .inl rfl | exact .inr rfl | assumption) : SS X wf cf (.AugAssign (.Name x p2) .Sub e pos) (.aug k true ie) := fun b Γ M D EW hW g => by
  unfold evS at g
  split at g
  · rename_i n hΓ
    refine S_augSub k hN hi hx hΓ (h b Γ M _ EW hW ((Good.bnd g).imp (fun d M1 q => ?_) fun _ _ _ q => q)) hf
    cases d with
    | int j => exact ⟨j, rfl, q⟩
    | _ => exact False.elim q
  · exact g.elim
theorem SS.iff (hc : ST X cf c ic) (h1 : SSs X wf cf b1 s1) (h2 : SSs X wf cf b2 s2) : SS X wf cf (.If c b1 b2 pos) (.iff ic s1 s2) := fun b Γ M D EW hW g =>
  S_if (hc b Γ M _ EW hW ((Good.bnd (show Good ((asB (evE cf ic Γ M)).bind _) _ _ from g)).imp (fun k M1 q => ⟨fun ek => by subst ek; exact h1 b Γ M1 D EW hW q, fun ek => by subst ek; exact h2 b Γ M1 D EW hW q⟩) fun _ _ _ q => q))
theorem SS.ret (h : SE X cf e ie) : SS X wf cf (.Return (some e) pos) (.ret ie) := fun b Γ M D EW hW g => S_ret (h b Γ M _ EW hW ((Good.bnd (show Good ((evE cf ie Γ M).bind _) _ _ from g)).imp (fun d M1 q => q) fun _ _ _ q => q))
theorem SS.retN : SS X wf cf (.Return none pos) .retN := fun b Γ M D EW hW g => S_retN g
theorem SS.brk : SS X wf cf (.Break pos) .brk := fun b Γ M D EW hW g => S_break g
theorem SS.cnt : SS X wf cf (.Continue pos) .cnt := fun b Γ M D EW hW g => S_continue g
theorem SS.pass : SS X wf cf (.Pass pos) .pass := fun b Γ M D EW hW g => S_pass g
theorem SSs.nil : SSs X wf cf [] .nil := fun b Γ M D EW hW g => S_nil g
theorem SSs.cons (h : SS X wf cf st s) (h2 : SSs X wf cf sts ss) : SSs X wf cf (st :: sts) (.cons s ss) := fun b Γ M D EW hW g =>
  S_cons (h b Γ M _ EW hW ((Good.bnd (show Good ((evS wf cf s Γ M).bind _) _ _ from g)).imp (fun f M1 q => by
    cases f with
    | nx Γ' => exact h2 b Γ' M1 D EW hW q
    | rt d => exact q
    | bk Γ' => exact q
    | ct Γ' => exact q) fun _ _ _ q => q))
theorem SSs.frz (k : Nat) (h : SSs X wf cf sts ss) : SSs X wf cf sts (.frz k ss) := fun b Γ M D EW hW g => by
  unfold evSs at g
  split at g
  · split at g
    · rename_i kk _ ds hM
      exact S_freeze _ hM (h b _ _ D EW hW g)
    · exact g.elim
  · exact g.elim
theorem good_wh {cc : Gam → Mem → Rs Bool} {f : Gam → Mem → Rs Fl} {n : Nat} {Γ : Gam} {M : Mem} {R : Fl → Mem → Prop} {E : Exn → Gam → Mem → Prop} (g : Good (whGo cc f (n + 1) Γ M) R E) :
    Good (cc Γ M) (fun k M' => match k with
      | true => Good (f Γ M') (fun r M2 => match r with
        | .nx Γ2 => Good (whGo cc f n Γ2 M2) R E
        | .ct Γ2 => Good (whGo cc f n Γ2 M2) R E
        | .bk Γ2 => R (.nx Γ2) M2
        | .rt d => R (.rt d) M2) E
      | false => R (.nx Γ) M') E := by
  unfold whGo at g
  cases hc : cc Γ M with
  | ok k M' =>
    rw [hc] at g
    cases k with
    | true =>
      show Good (f Γ M') _ E
      cases hf : f Γ M' with
      | ok r M2 =>
        simp only [hf] at g
        cases r <;> exact g
      | ex x Γ2 M2 => simp only [hf] at g; exact g
      | no => simp only [hf] at g; exact g
    | false => exact g
  | ex x Γ2 M' => rw [hc] at g; exact g
  | no => rw [hc] at g; exact g
theorem SS.whil (hp : PassesOwn (model X.prog X.w) X.A X.env X.xe) (hc : ST X cf c ic) (hb : SSs X wf cf body ss) : SS X wf cf (.While c body [] pos) (.whil ic ss) := fun b Γ M D EW hW g => by
  have g : Good (whGo (fun Γ M => asB (evE cf ic Γ M)) (evSs wf cf ss) wf Γ M) (flD D) EW := g
  refine S_while hp (fun m Γ' M' => Good (whGo (fun Γ M => asB (evE cf ic Γ M)) (evSs wf cf ss) m Γ' M') (flD D) EW) wf g fun m Γ' M' q => ?_
  cases m with
  | zero => exact q.elim
  | succ m =>
    refine hc b Γ' M' _ EW hW ((good_wh q).imp (fun k M1 q => ⟨fun ek => ?_, fun ek => ?_⟩) fun _ _ _ q => q)
    · subst ek
      refine hb b Γ' M1 _ EW hW (Good.imp q (fun r M2 q => ?_) fun _ _ _ q => q)
      cases r with
      | nx Γ2 => exact ⟨m, Nat.lt_succ_self m, q⟩
      | ct Γ2 => exact ⟨m, Nat.lt_succ_self m, q⟩
      | bk Γ2 => exact q
      | rt d => exact q
    · subst ek
      exact q
theorem good_for {gd : Gd} {f : Dat → Gam → Mem → Rs Fl} {d : Dat} {ds : List Dat} {Γ : Gam} {M : Mem} {R : Fl → Mem → Prop} {E : Exn → Gam → Mem → Prop} (g : Good (forGo gd f (d :: ds) Γ M) R E) :
    Good (f d Γ M) (fun r M2 => match r with
        | .nx Γ2 => gdOk M2 gd = true ∧ Good (forGo gd f ds Γ2 M2) R E
        | .ct Γ2 => gdOk M2 gd = true ∧ Good (forGo gd f ds Γ2 M2) R E
        | .bk Γ2 => R (.nx Γ2) M2
        | .rt d => R (.rt d) M2) E := by
  unfold forGo at g
  cases hf : f d Γ M with
  | ok r M2 =>
    rw [hf] at g
    cases r with
    | nx Γ2 => exact good_if g
    | ct Γ2 => exact good_if g
    | bk Γ2 => exact g
    | rt d => exact g
  | ex x Γ2 M2 => rw [hf] at g; exact g
  | no => rw [hf] at g; exact g
theorem SS.forr (hp : PassesOwn (model X.prog X.w) X.A X.env X.xe) (hc : X.calm = true) (hi : SI X cf tg iter ir) (ht : SG X cf tg t) (hb : SSs X wf cf body ss) (hs : ∀ x, foldedSetIterable iter X.env x = pure x := by intro _; rfl) : SS X wf cf (.For tg iter body [] pos) (.forr t ir ss) := fun b Γ M D EW hW g => by
  refine S_for hp hc ((hi b Γ M _ EW hW (Good.bnd (show Good ((evI cf ir Γ M).bind _) _ _ from g))).imp fun ds Gm M1 ⟨gd, q, hG⟩ => ?_) hs
  obtain ⟨h0, q⟩ := good_if q
  refine ⟨fun i Γ' M' => gdOk M' gd = true ∧ Good (forGo gd (fun d Γ M => (evG cf t d Γ M).bind fun Γ M => evSs wf cf ss Γ M) (ds.drop i) Γ' M') (flD D) EW, ⟨h0, q⟩, fun i Γ' M' _ q => hG M' q.1, fun i d Γ' M' hd q => ?_, fun Γ' M' q => ?_⟩
  · obtain ⟨q1, q2⟩ := q
    rw [drop_get hd] at q2
    refine ht b d Γ' M' _ EW hW ((Good.bnd (good_for q2)).imp (fun Γ2 M2 q => ?_) fun _ _ _ q => q)
    refine hb b Γ2 M2 _ EW hW (Good.imp q (fun r M3 q => ?_) fun _ _ _ q => q)
    cases r with
    | nx Γ3 => exact q
    | ct Γ3 => exact q
    | bk Γ3 => exact q
    | rt d => exact q
  · obtain ⟨_, q⟩ := q
    rw [List.drop_length] at q
    exact q
end

/-! ### defs -/
section
variable {P : Program} {w : World} {K : PySem.W.Frag} {mg : Str → Option Value} {base : Heap} {wf : Nat} {cf : CallF}
def callF (wf : Nat) (cf : CallF) (d : Df) (ds : List Dat) (M : Mem) : Rs Dat := if ds.length = d.pars then callD wf cf d ds M else .no
theorem fn_run {x qual : Str} {st : Stmt} {f : Addr} {fd : FuncData} {N ps : List Str} {k n : Nat} {d : Df} (Fn : Fun K x qual st f fd) (Sc : FnScope N ps (defScope st)) (hn : ps.length = n) (hs : N.length = d.slots)
    (hbody : ∀ (cdv : Value) (A : Around) (outer : List Env) (s : Shared) (H : Hp) (E : XK), Room k (A.deeper (envOfC qual (defScope st) s.heap.objs.size f cdv)) → SSs (cxOf (L2.CX P w) P w K mg base N qual (defScope st) f cdv A outer s H E) wf cf (defBody st) d.body) :
    FnOk P w K mg base (L2.CX P w) (k + 1) f fd ps (SpD K n (callF wf cf d)) :=
  fn_D Fn Sc hn fun cdv A outer s H E b ds M R EF hr hl hE g => by
    unfold callF at g
    obtain ⟨_, g⟩ := good_if g
    unfold callD at g
    rw [← hs] at g
    refine hbody cdv A outer s H E hr b (startG N ds) M (endsOf R) _ ⟨_, takes_of rfl rfl rfl rfl, hE⟩ ((Good.bnd g).imp (fun r M1 q => ?_) fun _ _ _ q => q)
    cases r with
    | nx Γ => exact q
    | rt d => exact q
    | bk Γ => exact q.elim
    | ct Γ => exact q.elim
theorem fn_run0 {f : Addr} {fd : FuncData} {ps : List Str} {n j : Nat} {T : List Df} : FnOk P w K mg base (L2.CX P w) 0 f fd ps (SpD K n (runF wf T 0 j)) :=
  ⟨fun vs H Q E h => by
    obtain ⟨_, _, _, _, _, _, _, g⟩ := h
    exact g.elim, fun A outer s H args us vs Q E hr he hb hv h => by
    obtain ⟨_, _, _, _, _, _, _, g⟩ := h
    exact g.elim⟩
theorem runF_succ {T : List Df} {k j : Nat} {d : Df} (h : T[j]? = some d) : runF wf T (k + 1) j = callF wf (runF wf T k) d := by
  funext ds M
  show (match T[j]? with | some f => if ds.length = f.pars then callD wf (runF wf T k) f ds M else .no | none => .no) = _
  rw [h]
  rfl
end
end Ab
end

section
set_option Elab.async false
set_option linter.all false
set_option maxRecDepth 100000
set_option maxHeartbeats 4000000
/-! Ab19: all defs of a module at once; the law. -/
namespace Ab
open PySem PySem.Spec PyProof.Rows L2
theorem hu66 {k : Nat} {A : Around} (r : Room k A) : A.units + 64 + 2 < cLine := by
  have := r.un
  omega
/-- BlkOk, looked up -/
def blkB (N : List Str) (sc scope : Scope) (own : List (Str × Nat)) : Bool :=
  (match scope.kind with | .function => true | _ => false) &&
  (scope.names.all fun y => match scope.names.lookup y.1, y.2 with
    | some .local, .local => true
    | some .cell, .cell => true
    | some .free, .free => true
    | some .globalImplicit, .globalImplicit => true
    | _, _ => false) &&
  (own.all fun p => match N[p.2]? with
    | some x => decide (x = p.1)
    | none => false) &&
  (scope.names.all fun y => match y.2 with
    | .free => (match sc.names.lookup y.1 with
      | some .cell => true
      | some .free => true
      | _ => false)
    | .local => (own.any fun p => decide (p.1 = y.1)) || !(N.any fun x => decide (x = y.1))
    | .cell => (own.any fun p => decide (p.1 = y.1)) || !(N.any fun x => decide (x = y.1))
    | _ => true)
theorem blk_of {N : List Str} {sc scope : Scope} {own : List (Str × Nat)} (h : blkB N sc scope own = true) : BlkOk N sc scope own := by
  unfold blkB at h
  obtain ⟨h, h4⟩ := Bool.and_eq_true_iff.mp h
  obtain ⟨h, h3⟩ := Bool.and_eq_true_iff.mp h
  obtain ⟨h1, h2⟩ := Bool.and_eq_true_iff.mp h
  rw [List.all_eq_true] at h2 h3 h4
  refine ⟨?_, fun y hy => ?_, fun p hp => ?_, fun y hy hf => ?_, fun y hy hf => ?_⟩
  · split at h1
    · assumption
    · cases h1
  · have := h2 y hy
    split at this
    · rename_i e1 e2; rw [e1, e2]
    · rename_i e1 e2; rw [e1, e2]
    · rename_i e1 e2; rw [e1, e2]
    · rename_i e1 e2; rw [e1, e2]
    · cases this
  · have := h3 p hp
    split at this
    · rename_i x e; rw [e, of_decide_eq_true this]
    · cases this
  · have := h4 y hy
    rw [hf] at this
    simp only at this
    split at this
    · rename_i e; exact .inl e
    · rename_i e; exact .inr e
    · cases this
  · have h5 := h4 y hy
    have k : ((own.any fun p => decide (p.1 = y.1)) || !(N.any fun x => decide (x = y.1))) = true := by
      rcases hf with hf | hf <;> (rw [hf] at h5; exact h5)
    rcases Bool.or_eq_true_iff.mp k with k | k
    · obtain ⟨p, hp, e⟩ := List.any_eq_true.mp k
      exact .inl (List.mem_map.mpr ⟨p, hp, of_decide_eq_true e⟩)
    · refine .inr fun hm => ?_
      have : (N.any fun x => decide (x = y.1)) = true := List.any_eq_true.mpr ⟨y.1, hm, decide_eq_true rfl⟩
      rw [this] at k
      cases k
/-- a def of the module as the top has left it -/
structure DefOk (K : PySem.W.Frag) (mg : Str → Option Value) (x : Str) (st : Stmt) (ps : List Str) : Prop where
  ex : ∃ f fd, mg x = some (.ref f) ∧ Fun K x x st f fd ∧ Binds K fd ps [] ∧ KwB K fd ps ps
theorem DefOk.mk' {K : PySem.W.Frag} {h : Heap} {mg : Str → Option Value} {x : Str} {st : Stmt} {ps : List Str} {f : Addr} {oc : Value} {od an : Option Addr} {osl : Array (Option Value)} {kV doc pm cdv ct : Value} (X : K.In h) (G : h.Ns mainGlobals mg)
    (a : PySem.W.nsIn K mainGlobals x = some (some (.ref f))) (l : K.lookup f = some ⟨oc, od, .func (PySem.W.fnOf x x (defArgs st) (defBody st) (defScope st) .none kV doc pm an cdv ct), osl⟩) (c : PySem.W.codeIn K cdv x = true) (k : PySem.W.keepIn K (.ref f) = true)
    (hb : ∀ us : List Value, us.length = ps.length → bindArgs (PySem.W.fnOf x x (defArgs st) (defBody st) (defScope st) .none kV doc pm an cdv ct) ⟨us, []⟩ = pure (ps.zip us))
    (hk : ∀ us : List Value, us.length = ps.length → bindArgs (PySem.W.fnOf x x (defArgs st) (defBody st) (defScope st) .none kV doc pm an cdv ct) ⟨[], ps.zip us⟩ = pure (ps.zip us)) : DefOk K mg x st ps := by
  refine ⟨f, _, PySem.W.mg_of X G a, fun_mk l c k, Binds.all hb, KwB.all fun us ws h1 h2 => ?_⟩
  have e : us = [] := List.length_eq_zero_iff.mp (by omega)
  subst e
  exact hk ws h2
section
variable {P : Program} {w : World} {K : PySem.W.Frag} {mg : Str → Option Value} {base : Heap} {wf : Nat}
/-- what is to be shown of a def: its body is the small language's -/
structure BodyOk (P : Program) (w : World) (K : PySem.W.Frag) (mg : Str → Option Value) (base : Heap) (wf : Nat) (L : List (Str × List Str)) (x : Str) (st : Stmt) (ps : List Str) (d : Df) : Prop where
  ex : ∃ N, FnScope N ps (defScope st) ∧ N.length = d.slots ∧ ∀ (cf : CallF) (k : Nat), (∀ (j : Nat) (y : Str) (qs : List Str), L[j]? = some (y, qs) → HasFn P w K mg base cf k y j qs.length qs) →
    ∀ (f : Addr) (cdv : Value) (A : Around) (outer : List Env) (s : Shared) (H : Hp) (E : XK), Room k (A.deeper (envOfC x (defScope st) s.heap.objs.size f cdv)) → SSs (cxOf (L2.CX P w) P w K mg base N x (defScope st) f cdv A outer s H E) wf cf (defBody st) d.body
theorem all_has {L : List (Str × List Str)} {T : List Df} (h : ∀ (j : Nat) (x : Str) (ps : List Str), L[j]? = some (x, ps) → ∃ st d, T[j]? = some d ∧ DefOk K mg x st ps ∧ BodyOk P w K mg base wf L x st ps d) :
    ∀ (k j : Nat) (x : Str) (ps : List Str), L[j]? = some (x, ps) → HasFn P w K mg base (runF wf T k) k x j ps.length ps
  | 0, j, x, ps, hj => by
    obtain ⟨st, d, hd, D, B⟩ := h j x ps hj
    obtain ⟨f, fd, h1, F, h3, h4⟩ := D.ex
    exact ⟨f, fd, fn_run0, h1, F.kp, h3, h4⟩
  | k + 1, j, x, ps, hj => by
    obtain ⟨st, d, hd, D, B⟩ := h j x ps hj
    obtain ⟨f, fd, h1, F, h3, h4⟩ := D.ex
    obtain ⟨N, Sc, hs, hb⟩ := B.ex
    refine ⟨f, fd, ?_, h1, F.kp, h3, h4⟩
    rw [runF_succ hd]
    exact fn_run F Sc rfl hs fun cdv A outer s H E hr => hb (runF wf T k) k (all_has h k) f cdv A outer s H E hr
end
theorem law_fn {P : Program} {w : World} {K : PySem.W.Frag} {mg : Str → Option Value} {base : Heap} {wf : Nat} {L : List (Str × List Str)} {T : List Df} (h : ∀ (j : Nat) (x : Str) (ps : List Str), L[j]? = some (x, ps) → ∃ st d, T[j]? = some d ∧ DefOk K mg x st ps ∧ BodyOk P w K mg base wf L x st ps d)
    (k : Nat) {j : Nat} {x : Str} {ps : List Str} {st : Stmt} {d : Df} {f : Addr} {fd : FuncData} (hd : T[j]? = some d) (F : Fun K x x st f fd) (B : BodyOk P w K mg base wf L x st ps d) : FnOk P w K mg base (L2.CX P w) (k + 1) f fd ps (SpD K ps.length (runF wf T (k + 1) j)) := by
  obtain ⟨N, Sc, hs, hb⟩ := B.ex
  rw [runF_succ hd]
  exact fn_run F Sc rfl hs fun cdv A outer s H E hr => hb (runF wf T k) k (all_has h k) f cdv A outer s H E hr
def spLaw (F : List Dat → Mem → Rs Dat) (K : PySem.W.Frag) : Sp := SpD K 1 F
/-- the law's promise, from its run -/
theorem law_sp {F : List Dat → Mem → Rs Dat} {n : Nat} (hF : ∀ ns : List Int, ns.length ≤ n → ∃ M, F [.rol (ns.map .int)] [] = .ok (.bl true) M) (K : PySem.W.Frag) (H : Hp) (a : Addr) (ns : List Int) (hl : ns.length ≤ n) (hS : SqL K H a (ns.map V.int)) : SpD K 1 F [.ref a] H (fun v _ => v = .bl true) fun _ _ _ => False := by
  have rr : ∀ ns : List Int, Reps K H [] (ns.map Dat.int) (ns.map V.int) := fun ns => by
    induction ns with
    | nil => exact .nil
    | cons n ns ih => exact .cons (.int n) ih
  obtain ⟨M, e⟩ := hF ns hl
  refine ⟨H, [], [.rol (ns.map .int)], [], lent_nil (Same.refl H), .cons (.rol hS (rr ns)) .nil, rfl, ?_⟩
  rw [e]
  intro v S' A' H' _ _ r
  cases r
  rfl
theorem cx_no {P : Program} {w : World} (H : Hp) (s : Shared) (e : Value) (s' : Shared) : L2.CX P w [] H s (fun _ _ _ => False) e s' → False := fun h => by
  obtain ⟨_, _, _, _, _, _, _, _, _, _, _, _, z⟩ := h
  exact z.elim
theorem walk {l : PySem.W.OpenLaw} {q : Program} {loose : List Str} {XP : (Str → Option Value) → Heap → Prop} {YP : World → Heap → Prop} {d : DefRec} {K : Params → PySem.W.Frag} {k : Nat} {F0 : List Dat → Mem → Rs Dat} (hn : l.most = some 63) (hdf : d.params.defaults = []) (hr : Room k callerA)
    (hF : ∀ ns : List Int, ns.length ≤ 63 → ∃ M, F0 [.rol (ns.map .int)] [] = .ok (.bl true) M)
    (hY : ∀ (w : World) (h : Heap), YP w h → (K w.params).In h)
    (F : ∀ (w : World) (mg : Str → Option Value) (fa : Addr) (h : Heap), (K w.params).In h → h.Ns mainGlobals mg → mg d.name = some (.ref fa) →
      ∃ fd : FuncData, (∀ (s : Shared) (u : Value), BindsTo s fd ⟨[u], []⟩ [("script", u)]) ∧ ∀ base : Heap, (K w.params).In base → base.Ns mainGlobals mg → FnOk l.prog w (K w.params) mg base (L2.CX l.prog w) k fa fd ["script"] (SpD (K w.params) 1 F0)) :
    PySem.W.WalkO q loose XP YP l.row.toRowW d [] (fun f vs => PySem.call f vs) :=
  L2.walk_of (n := 63) (k := k) (x := "script") (CX := fun w => L2.CX l.prog w) (sp := fun w => SpD (K w.params) 1 F0) hn (by decide) hdf hr hY F (fun w H a ns hl _ hS => law_sp hF (K w.params) H a ns hl hS) fun w H s e s' => cx_no H s e s'
end Ab
end

section
set_option Elab.async false
set_option linter.all false
set_option maxRecDepth 100000
set_option maxHeartbeats 4000000
/-! Ab20: the order of data, as lists of ints. -/
namespace Ab
open PySem PySem.Spec PyProof.Rows L2
def lexB : List Int → List Int → Bool
  | [], [] => false
  | [], _ :: _ => true
  | _ :: _, [] => false
  | a :: as, b :: bs => if a < b then true else if b < a then false else lexB as bs
theorem lexB_cons {a b : Int} {as bs : List Int} : lexB (a :: as) (b :: bs) = if a < b then true else if b < a then false else lexB as bs := by rw [lexB]
theorem lexB_asym : ∀ {x y : List Int}, lexB x y = true → lexB y x = false
  | [], [], h => by cases h
  | [], _ :: _, _ => rfl
  | _ :: _, [], h => by cases h
  | a :: as, b :: bs, h => by
    rw [lexB_cons] at h ⊢
    by_cases h1 : a < b
    · rw [if_neg (by omega), if_pos h1]
    · rw [if_neg h1] at h
      by_cases h2 : b < a
      · rw [if_pos h2] at h; cases h
      · rw [if_neg h2] at h
        rw [if_neg h2, if_neg h1]
        exact lexB_asym h
theorem lexB_tr : ∀ {x y z : List Int}, lexB x y = false → lexB y z = false → lexB x z = false
  | [], [], z, _, h => h
  | [], _ :: _, z, h, _ => by cases h
  | _ :: _, _, [], _, _ => rfl
  | a :: as, [], c :: cs, _, h => by cases h
  | a :: as, b :: bs, c :: cs, h, k => by
    rw [lexB_cons] at h k ⊢
    by_cases h1 : a < b
    · rw [if_pos h1] at h; cases h
    · rw [if_neg h1] at h
      by_cases k1 : b < c
      · rw [if_pos k1] at k; cases k
      · rw [if_neg k1] at k
        rw [if_neg (by omega)]
        by_cases h2 : c < a
        · rw [if_pos h2]
        · rw [if_neg h2]
          rw [if_neg (by omega)] at h k
          exact lexB_tr h k
theorem lexB_eq : ∀ {x y : List Int}, lexB x y = false → lexB y x = false → x = y
  | [], [], _, _ => rfl
  | [], _ :: _, h, _ => by cases h
  | _ :: _, [], _, h => by cases h
  | a :: as, b :: bs, h, k => by
    rw [lexB_cons] at h k
    by_cases h1 : a < b
    · rw [if_pos h1] at h; cases h
    · rw [if_neg h1] at h
      by_cases k1 : b < a
      · rw [if_pos k1] at k; cases k
      · rw [if_neg k1] at k h
        rw [if_neg h1] at k
        have e : a = b := by omega
        rw [e, lexB_eq h k]
theorem swo_key {α : Type} (k : α → List Int) : SrtO.Swo fun x y => lexB (k x) (k y) := ⟨fun _ _ h => lexB_asym h, fun _ _ _ h1 h2 => lexB_tr h2 h1⟩
mutual
def Dat.enc : Dat → List Int
  | .int i => [1, i]
  | .tup ds => 2 :: (Dat.encs ds ++ [0])
  | _ => [3]
def Dat.encs : List Dat → List Int
  | [] => []
  | d :: ds => d.enc ++ Dat.encs ds
end
mutual
def encP : PyData → List Int
  | .int i => [1, i]
  | .tuple ds => 2 :: (encPs ds ++ [0])
  | _ => [3]
def encPs : List PyData → List Int
  | [] => []
  | d :: ds => encP d ++ encPs ds
end
mutual
theorem enc_py : ∀ {d : Dat} {p : PyData}, d.py = some p → encP p = d.enc
  | .int i, p, h => by cases h; rfl
  | .tup ds, p, h => by
    obtain ⟨ps, e, e2⟩ := Option.map_eq_some_iff.mp (show (Dat.pys ds).map PyData.tuple = some p from h)
    subst e2
    show 2 :: (encPs ps ++ [0]) = 2 :: (Dat.encs ds ++ [0])
    rw [encs_py e]
  | .non, p, h => by cases h; rfl
  | .bl _, p, h => by cases h; rfl
  | .str _, p, h => by cases h; rfl
  | .lst ds, p, h => by
    obtain ⟨ps, e, e2⟩ := Option.map_eq_some_iff.mp (show (Dat.pys ds).map PyData.list = some p from h)
    subst e2
    rfl
  | .rol ds, p, h => by
    obtain ⟨ps, e, e2⟩ := Option.map_eq_some_iff.mp (show (Dat.pys ds).map PyData.list = some p from h)
    subst e2
    rfl
  | .ptr _, p, h => by cases h
  | .oth _, p, h => by cases h
theorem encs_py : ∀ {d : List Dat} {p : List PyData}, Dat.pys d = some p → encPs p = Dat.encs d
  | [], p, h => by cases h; rfl
  | d :: ds, p, h => by
    unfold Dat.pys at h
    cases e : Dat.py d with
    | none => rw [e] at h; cases h
    | some q =>
      rw [e] at h
      obtain ⟨ps, e2, e3⟩ := Option.map_eq_some_iff.mp h
      subst e3
      show encP q ++ encPs ps = d.enc ++ Dat.encs ds
      rw [enc_py e, encs_py e2]
end
theorem enc_head (d : Dat) : ∃ a as, d.enc = a :: as ∧ 0 < a := by
  cases d <;> first | exact ⟨_, _, rfl, by decide⟩ 
mutual
theorem lex_cmp : ∀ {x y : Dat} (r s : List Int), Dat.like x y = true → lexB (x.enc ++ r) (y.enc ++ s) = match Dat.cmp x y with
    | .lt => true
    | .gt => false
    | .eq => lexB r s
  | .int i, .int j, r, s, _ => by
    show lexB (1 :: i :: r) (1 :: j :: s) = match (if i < j then Ordering.lt else if i = j then .eq else .gt) with | .lt => true | .gt => false | .eq => lexB r s
    rw [lexB_cons, if_neg (by decide), if_neg (by decide), lexB_cons]
    by_cases h : i < j
    · rw [if_pos h, if_pos h]
    · rw [if_neg h, if_neg h]
      by_cases h2 : i = j
      · rw [if_pos h2, if_neg (by omega)]
      · rw [if_neg h2, if_pos (by omega)]
  | .tup xs, .tup ys, r, s, h => by
    have := lex_cmps (xs := xs) (ys := ys) r s h
    show lexB (2 :: ((Dat.encs xs ++ [0]) ++ r)) (2 :: ((Dat.encs ys ++ [0]) ++ s)) = match Dat.cmps xs ys with | .lt => true | .gt => false | .eq => lexB r s
    rw [lexB_cons, if_neg (by decide), if_neg (by decide), List.append_assoc, List.append_assoc]
    exact this
  | .int _, .tup _, _, _, h => by cases h
  | .int _, .non, _, _, h => by cases h
  | .int _, .bl _, _, _, h => by cases h
  | .int _, .str _, _, _, h => by cases h
  | .int _, .lst _, _, _, h => by cases h
  | .int _, .rol _, _, _, h => by cases h
  | .int _, .ptr _, _, _, h => by cases h
  | .int _, .oth _, _, _, h => by cases h
  | .tup _, .int _, _, _, h => by cases h
  | .tup _, .non, _, _, h => by cases h
  | .tup _, .bl _, _, _, h => by cases h
  | .tup _, .str _, _, _, h => by cases h
  | .tup _, .lst _, _, _, h => by cases h
  | .tup _, .rol _, _, _, h => by cases h
  | .tup _, .ptr _, _, _, h => by cases h
  | .tup _, .oth _, _, _, h => by cases h
  | .non, y, _, _, h => by cases y <;> cases h
  | .bl _, y, _, _, h => by cases y <;> cases h
  | .str _, y, _, _, h => by cases y <;> cases h
  | .lst _, y, _, _, h => by cases y <;> cases h
  | .rol _, y, _, _, h => by cases y <;> cases h
  | .ptr _, y, _, _, h => by cases y <;> cases h
  | .oth _, y, _, _, h => by cases y <;> cases h
theorem lex_cmps : ∀ {xs ys : List Dat} (r s : List Int), Dat.likes xs ys = true → lexB (Dat.encs xs ++ ([0] ++ r)) (Dat.encs ys ++ ([0] ++ s)) = match Dat.cmps xs ys with
    | .lt => true
    | .gt => false
    | .eq => lexB r s
  | [], [], r, s, _ => by
    show lexB (0 :: r) (0 :: s) = lexB r s
    rw [lexB_cons, if_neg (by decide), if_neg (by decide)]
  | [], y :: ys, r, s, _ => by
    obtain ⟨a, as, e, h⟩ := enc_head y
    show lexB (0 :: r) ((y.enc ++ Dat.encs ys) ++ ([0] ++ s)) = true
    rw [e]
    show lexB (0 :: r) (a :: _) = true
    rw [lexB_cons, if_pos h]
  | x :: xs, [], r, s, _ => by
    obtain ⟨a, as, e, h⟩ := enc_head x
    show lexB ((x.enc ++ Dat.encs xs) ++ ([0] ++ r)) (0 :: s) = false
    rw [e]
    show lexB (a :: _) (0 :: s) = false
    rw [lexB_cons, if_neg (by omega), if_pos h]
  | x :: xs, y :: ys, r, s, h => by
    obtain ⟨h1, h2⟩ := Bool.and_eq_true_iff.mp (show (Dat.like x y && Dat.likes xs ys) = true from h)
    show lexB ((x.enc ++ Dat.encs xs) ++ ([0] ++ r)) ((y.enc ++ Dat.encs ys) ++ ([0] ++ s)) = match (match Dat.cmp x y with | .eq => Dat.cmps xs ys | o => o) with | .lt => true | .gt => false | .eq => lexB r s
    rw [List.append_assoc, List.append_assoc, lex_cmp _ _ h1]
    cases Dat.cmp x y with
    | lt => rfl
    | gt => rfl
    | eq => exact lex_cmps r s h2
end
theorem lt_lex {x y : Dat} (h : Dat.like x y = true) : Dat.lt x y = lexB x.enc y.enc := by
  have := lex_cmp [] [] h
  rw [List.append_nil, List.append_nil] at this
  rw [this]
  unfold Dat.lt
  cases Dat.cmp x y <;> rfl
mutual
theorem cmp_eq : ∀ {x y : Dat}, Dat.like x y = true → Dat.cmp x y = .eq → x = y
  | .int i, .int j, _, h => by
    have h : (if i < j then Ordering.lt else if i = j then .eq else .gt) = .eq := h
    by_cases h1 : i < j
    · rw [if_pos h1] at h; cases h
    · rw [if_neg h1] at h
      by_cases h2 : i = j
      · rw [h2]
      · rw [if_neg h2] at h; cases h
  | .tup xs, .tup ys, l, h => congrArg _ (cmps_eq (xs := xs) (ys := ys) l h)
  | .int _, .tup _, h, _ => by cases h
  | .int _, .non, h, _ => by cases h
  | .int _, .bl _, h, _ => by cases h
  | .int _, .str _, h, _ => by cases h
  | .int _, .lst _, h, _ => by cases h
  | .int _, .rol _, h, _ => by cases h
  | .int _, .ptr _, h, _ => by cases h
  | .int _, .oth _, h, _ => by cases h
  | .tup _, .int _, h, _ => by cases h
  | .tup _, .non, h, _ => by cases h
  | .tup _, .bl _, h, _ => by cases h
  | .tup _, .str _, h, _ => by cases h
  | .tup _, .lst _, h, _ => by cases h
  | .tup _, .rol _, h, _ => by cases h
  | .tup _, .ptr _, h, _ => by cases h
  | .tup _, .oth _, h, _ => by cases h
  | .non, y, h, _ => by cases y <;> cases h
  | .bl _, y, h, _ => by cases y <;> cases h
  | .str _, y, h, _ => by cases y <;> cases h
  | .lst _, y, h, _ => by cases y <;> cases h
  | .rol _, y, h, _ => by cases y <;> cases h
  | .ptr _, y, h, _ => by cases y <;> cases h
  | .oth _, y, h, _ => by cases y <;> cases h
theorem cmps_eq : ∀ {xs ys : List Dat}, Dat.likes xs ys = true → Dat.cmps xs ys = .eq → xs = ys
  | [], [], _, _ => rfl
  | [], _ :: _, _, h => by cases h
  | _ :: _, [], _, h => by cases h
  | x :: xs, y :: ys, l, h => by
    obtain ⟨h1, h2⟩ := Bool.and_eq_true_iff.mp (show (Dat.like x y && Dat.likes xs ys) = true from l)
    have h : (match Dat.cmp x y with | .eq => Dat.cmps xs ys | o => o) = .eq := h
    cases e : Dat.cmp x y with
    | lt => rw [e] at h; cases h
    | gt => rw [e] at h; cases h
    | eq =>
      rw [e] at h
      rw [cmp_eq h1 e, cmps_eq h2 h]
end
theorem lexB_self (x : List Int) : lexB x x = false := by
  cases h : lexB x x with
  | false => rfl
  | true => rw [lexB_asym h] at h; cases h
theorem lexB_more : ∀ (x : List Int), lexB (x ++ []) (x ++ [0]) = true
  | [] => rfl
  | a :: as => by
    show lexB (a :: (as ++ [])) (a :: (as ++ [0])) = true
    rw [lexB_cons, if_neg (by omega), if_neg (by omega)]
    exact lexB_more as
theorem enc_inj {x y : Dat} (l : Dat.like x y = true) (h1 : lexB x.enc y.enc = false) (h2 : lexB y.enc x.enc = false) : x = y := by
  have e := lexB_eq h1 h2
  have k1 := lex_cmp [] [0] l
  rw [e, lexB_more] at k1
  have k2 := lex_cmp [0] [] l
  rw [e] at k2
  cases hc : Dat.cmp x y with
  | eq => exact cmp_eq l hc
  | gt => rw [hc] at k1; cases k1
  | lt =>
    rw [hc] at k2
    have := lexB_asym (lexB_more y.enc)
    rw [this] at k2
    cases k2
/-! ### one sorted arrangement -/
theorem sorted_one {α : Type} {R : α → α → Prop} : ∀ {l m : List α}, l.Perm m → l.Pairwise R → m.Pairwise R → (∀ x ∈ l, ∀ y ∈ l, R x y → R y x → x = y) → l = m
  | [], m, p, _, _, _ => p.nil_eq
  | a :: l, [], p, _, _, _ => by
    have := p.length_eq
    cases this
  | a :: l, b :: m, p, h1, h2, as => by
    have hb : b ∈ a :: l := p.mem_iff.mpr List.mem_cons_self
    have ha : a ∈ b :: m := p.mem_iff.mp List.mem_cons_self
    have e : a = b := by
      rcases List.mem_cons.mp hb with e | hb'
      · exact e.symm
      · rcases List.mem_cons.mp ha with e | ha'
        · exact e
        · exact as a List.mem_cons_self b hb ((List.pairwise_cons.mp h1).1 b hb') ((List.pairwise_cons.mp h2).1 a ha')
    subst e
    rw [sorted_one p.cons_inv (List.pairwise_cons.mp h1).2 (List.pairwise_cons.mp h2).2 fun x hx y hy => as x (List.mem_cons_of_mem _ hx) y (List.mem_cons_of_mem _ hy)]
theorem perm_lift {α β : Type} {f : α → β} {l : List β} {m : List β} (p : l.Perm m) : ∀ {l' : List α}, l'.map f = l → ∃ m' : List α, m'.Perm l' ∧ m'.map f = m := by
  induction p with
  | nil => intro l' e; exact ⟨l', List.Perm.refl _, e⟩
  | cons x _ ih =>
    intro l' e
    cases l' with
    | nil => cases e
    | cons a l' =>
      obtain ⟨e1, e2⟩ := List.cons.inj e
      obtain ⟨m', h1, h2⟩ := ih e2
      exact ⟨a :: m', h1.cons a, by rw [List.map_cons, e1, h2]⟩
  | swap x y l =>
    intro l' e
    match l', e with
    | a :: b :: r, e =>
      obtain ⟨e1, e2⟩ := List.cons.inj e
      obtain ⟨e3, e4⟩ := List.cons.inj e2
      exact ⟨b :: a :: r, List.Perm.swap _ _ _, by rw [List.map_cons, List.map_cons, e1, e3, e4]⟩
  | trans _ _ ih1 ih2 =>
    intro l' e
    obtain ⟨m1, h1, h2⟩ := ih1 e
    obtain ⟨m2, h3, h4⟩ := ih2 h2
    exact ⟨m2, h3.trans h1, h4⟩
theorem insD_perm (x : Dat) : ∀ ys : List Dat, (insD x ys).Perm (x :: ys)
  | [] => List.Perm.refl _
  | y :: ys => by
    unfold insD
    split
    · exact ((insD_perm x ys).cons y).trans (List.Perm.swap x y ys)
    · exact List.Perm.refl _
theorem isortD_perm : ∀ ys : List Dat, (isortD ys).Perm ys
  | [] => List.Perm.refl _
  | y :: ys => (insD_perm y (isortD ys)).trans ((isortD_perm ys).cons y)
abbrev LeD (x y : Dat) : Prop := lexB y.enc x.enc = false
theorem insD_srt {x : Dat} : ∀ {ys : List Dat}, (∀ y ∈ ys, Dat.like y x = true) → ys.Pairwise LeD → (insD x ys).Pairwise LeD
  | [], _, _ => List.pairwise_singleton _ _
  | y :: ys, hl, h => by
    obtain ⟨h1, h2⟩ := List.pairwise_cons.mp h
    unfold insD
    by_cases c : Dat.lt y x = true
    · rw [if_pos c]
      rw [lt_lex (hl y List.mem_cons_self)] at c
      refine List.pairwise_cons.mpr ⟨fun z hz => ?_, insD_srt (fun z hz => hl z (List.mem_cons_of_mem _ hz)) h2⟩
      rcases List.mem_cons.mp ((insD_perm x ys).mem_iff.mp hz) with e | hz
      · subst e; exact lexB_asym c
      · exact h1 z hz
    · rw [if_neg c]
      rw [lt_lex (hl y List.mem_cons_self)] at c
      have c : lexB y.enc x.enc = false := by simpa using c
      refine List.pairwise_cons.mpr ⟨fun z hz => ?_, h⟩
      rcases List.mem_cons.mp hz with e | hz
      · subst e; exact c
      · exact lexB_tr (h1 z hz) c
theorem isortD_srt : ∀ {ys : List Dat}, (∀ x ∈ ys, ∀ y ∈ ys, Dat.like x y = true) → (isortD ys).Pairwise LeD
  | [], _ => List.Pairwise.nil
  | y :: ys, h => insD_srt (fun z hz => h z (List.mem_cons_of_mem _ ((isortD_perm ys).mem_iff.mp hz)) y List.mem_cons_self) (isortD_srt fun a ha b hb => h a (List.mem_cons_of_mem _ ha) b (List.mem_cons_of_mem _ hb))
theorem isortD_one {ds l : List Dat} (hl : ∀ x ∈ ds, ∀ y ∈ ds, Dat.like x y = true) (p : l.Perm ds) (s : l.Pairwise LeD) : l = isortD ds :=
  sorted_one (p.trans (isortD_perm ds).symm) s (isortD_srt hl) fun x hx y hy h1 h2 => enc_inj (hl x (p.mem_iff.mp hx) y (p.mem_iff.mp hy)) h2 h1
end Ab
end

section
set_option Elab.async false
set_option linter.all false
set_option maxRecDepth 100000
set_option maxHeartbeats 4000000
/-! Ab21: nested data compared by the program; sorted. -/
namespace Ab
open PySem PySem.Spec PyProof.Rows L2
def isEqO : Ordering → Bool
  | .eq => true
  | _ => false
def isLtO : Ordering → Bool
  | .lt => true
  | _ => false
mutual
theorem eqv_cmp : ∀ {x y : Dat} {p q : PyData}, Dat.like x y = true → x.py = some p → y.py = some q → PyData.eqv p q = isEqO (Dat.cmp x y)
  | .int i, .int j, p, q, _, h1, h2 => by
    cases h1
    cases h2
    show (i == j) = isEqO (if i < j then Ordering.lt else if i = j then .eq else .gt)
    by_cases h : i < j
    · rw [if_pos h]
      exact beq_eq_false_iff_ne.mpr (by omega)
    · rw [if_neg h]
      by_cases h2 : i = j
      · rw [if_pos h2]; exact beq_iff_eq.mpr h2
      · rw [if_neg h2]; exact beq_eq_false_iff_ne.mpr h2
  | .tup xs, .tup ys, p, q, l, h1, h2 => by
    obtain ⟨ps, e1, f1⟩ := Option.map_eq_some_iff.mp (show (Dat.pys xs).map PyData.tuple = some p from h1)
    obtain ⟨qs, e2, f2⟩ := Option.map_eq_some_iff.mp (show (Dat.pys ys).map PyData.tuple = some q from h2)
    subst f1 f2
    show PyData.eqvAll ps qs = isEqO (Dat.cmps xs ys)
    exact eqvs_cmps (xs := xs) (ys := ys) l e1 e2
  | .int _, .tup _, _, _, h, _, _ => by cases h
  | .int _, .non, _, _, h, _, _ => by cases h
  | .int _, .bl _, _, _, h, _, _ => by cases h
  | .int _, .str _, _, _, h, _, _ => by cases h
  | .int _, .lst _, _, _, h, _, _ => by cases h
  | .int _, .rol _, _, _, h, _, _ => by cases h
  | .int _, .ptr _, _, _, h, _, _ => by cases h
  | .int _, .oth _, _, _, h, _, _ => by cases h
  | .tup _, .int _, _, _, h, _, _ => by cases h
  | .tup _, .non, _, _, h, _, _ => by cases h
  | .tup _, .bl _, _, _, h, _, _ => by cases h
  | .tup _, .str _, _, _, h, _, _ => by cases h
  | .tup _, .lst _, _, _, h, _, _ => by cases h
  | .tup _, .rol _, _, _, h, _, _ => by cases h
  | .tup _, .ptr _, _, _, h, _, _ => by cases h
  | .tup _, .oth _, _, _, h, _, _ => by cases h
  | .non, y, _, _, h, _, _ => by cases y <;> cases h
  | .bl _, y, _, _, h, _, _ => by cases y <;> cases h
  | .str _, y, _, _, h, _, _ => by cases y <;> cases h
  | .lst _, y, _, _, h, _, _ => by cases y <;> cases h
  | .rol _, y, _, _, h, _, _ => by cases y <;> cases h
  | .ptr _, y, _, _, h, _, _ => by cases y <;> cases h
  | .oth _, y, _, _, h, _, _ => by cases y <;> cases h
theorem eqvs_cmps : ∀ {xs ys : List Dat} {p q : List PyData}, Dat.likes xs ys = true → Dat.pys xs = some p → Dat.pys ys = some q → PyData.eqvAll p q = isEqO (Dat.cmps xs ys)
  | [], [], _, _, _, h1, h2 => by cases h1; cases h2; rfl
  | [], y :: ys, _, q, _, h1, h2 => by
    cases h1
    unfold Dat.pys at h2
    cases e : Dat.py y with
    | none => rw [e] at h2; cases h2
    | some z =>
      rw [e] at h2
      obtain ⟨ps, e2, e3⟩ := Option.map_eq_some_iff.mp h2
      subst e3
      rfl
  | x :: xs, [], p, _, _, h1, h2 => by
    cases h2
    unfold Dat.pys at h1
    cases e : Dat.py x with
    | none => rw [e] at h1; cases h1
    | some z =>
      rw [e] at h1
      obtain ⟨ps, e2, e3⟩ := Option.map_eq_some_iff.mp h1
      subst e3
      rfl
  | x :: xs, y :: ys, p, q, l, h1, h2 => by
    obtain ⟨l1, l2⟩ := Bool.and_eq_true_iff.mp (show (Dat.like x y && Dat.likes xs ys) = true from l)
    unfold Dat.pys at h1 h2
    cases e : Dat.py x with
    | none => rw [e] at h1; cases h1
    | some z =>
      rw [e] at h1
      obtain ⟨ps, e2, e3⟩ := Option.map_eq_some_iff.mp h1
      subst e3
      cases f : Dat.py y with
      | none => rw [f] at h2; cases h2
      | some w =>
        rw [f] at h2
        obtain ⟨qs, f2, f3⟩ := Option.map_eq_some_iff.mp h2
        subst f3
        show (PyData.eqv z w && PyData.eqvAll ps qs) = isEqO (match Dat.cmp x y with | .eq => Dat.cmps xs ys | o => o)
        rw [eqv_cmp l1 e f]
        cases Dat.cmp x y with
        | eq => exact (Bool.true_and _).trans (eqvs_cmps l2 e2 f2)
        | lt => rfl
        | gt => rfl
end
theorem lexAt_shift {e r : Nat → Bool} {z : Bool} : ∀ (k i : Nat), Ob.lexAt e r z (i + 1) k = Ob.lexAt (fun j => e (j + 1)) (fun j => r (j + 1)) z i k
  | 0, _ => rfl
  | k + 1, i => by rw [Ob.lexAt_succ, Ob.lexAt_succ, lexAt_shift k (i + 1)]
theorem pys_cons {x : Dat} {xs : List Dat} {p : List PyData} (h : Dat.pys (x :: xs) = some p) : ∃ z ps, p = z :: ps ∧ x.py = some z ∧ Dat.pys xs = some ps := by
  unfold Dat.pys at h
  cases e : Dat.py x with
  | none => rw [e] at h; cases h
  | some z =>
    rw [e] at h
    obtain ⟨ps, e2, e3⟩ := Option.map_eq_some_iff.mp h
    exact ⟨z, ps, e3.symm, rfl, e2⟩
theorem dep_cons {p : PyData} {ps : List PyData} {u n : Nat} (h : u + PyData.depthAll (p :: ps) < n) : u + p.depth < n ∧ u + PyData.depthAll ps < n := by
  have h : u + max p.depth (PyData.depthAll ps) < n := h
  omega
mutual
theorem rc_lt : ∀ (x y : Dat) {A : Around} {s : Shared} {u v : Value} {p q : PyData} {as bs : List Addr}, Dat.like x y = true → x.py = some p → y.py = some q → p.canLay0 = true → q.canLay0 = true → Reads s.heap u p as → Reads s.heap v q bs → A.units + p.depth < cLine → Ob.RcOp .Lt A s u v (isLtO (Dat.cmp x y))
  | .int i, .int j, A, s, u, v, p, q, as, bs, _, h1, h2, _, _, r1, r2, _ => by
    cases h1
    cases h2
    cases r1
    cases r2
    have e : isLtO (Dat.cmp (.int i) (.int j)) = decide (i < j) := by
      show isLtO (if i < j then Ordering.lt else if i = j then .eq else .gt) = _
      by_cases h : i < j
      · rw [if_pos h, decide_eq_true h]; rfl
      · rw [if_neg h, decide_eq_false h]
        split <;> rfl
    rw [e]
    exact Ob.RcOp.lt_int i j _ _
  | .tup xs, .tup ys, A, s, u, v, p, q, as, bs, l, h1, h2, c1, c2, r1, r2, hu => by
    obtain ⟨ps, e1, f1⟩ := Option.map_eq_some_iff.mp (show (Dat.pys xs).map PyData.tuple = some p from h1)
    obtain ⟨qs, e2, f2⟩ := Option.map_eq_some_iff.mp (show (Dat.pys ys).map PyData.tuple = some q from h2)
    subst f1 f2
    cases r1 with
    | @tuple a o vs n _ _ ho hc hd hr =>
      cases r2 with
      | @tuple a2 o2 vs2 n2 _ _ ho2 hc2 hd2 hr2 =>
        have hu2 : A.in1.units + PyData.depthAll ps < cLine := by
          have hu : A.units + (PyData.depthAll ps + 1) < cLine := hu
          show A.units + 1 + PyData.depthAll ps < cLine
          omega
        obtain ⟨e, r, h1, h2, h3⟩ := rc_lts xs ys (A := A.in1) l e1 e2 c1 c2 hr hr2 hu2
        have hu3 : A.units < cLine := by
          have hu : A.units + (PyData.depthAll ps + 1) < cLine := hu
          omega
        have := Ob.RcOp.tuples_lt (e := e) (r := r) (show s.heap.IsTuple a vs from ⟨o, ho, hc, n, hd⟩) (show s.heap.IsTuple a2 vs2 from ⟨o2, ho2, hc2, n2, hd2⟩) hu3 (fun j k1 k2 => h1 j (by simpa using k1) (by simpa using k2)) (fun j k1 k2 ke => h2 j (by simpa using k1) (by simpa using k2) ke)
        show Ob.RcOp .Lt A s _ _ (isLtO (Dat.cmps xs ys))
        rw [← h3]
        simpa using this
  | .int _, .tup _, _, _, _, _, _, _, _, _, h, _, _, _, _, _, _, _ => by cases h
  | .int _, .non, _, _, _, _, _, _, _, _, h, _, _, _, _, _, _, _ => by cases h
  | .int _, .bl _, _, _, _, _, _, _, _, _, h, _, _, _, _, _, _, _ => by cases h
  | .int _, .str _, _, _, _, _, _, _, _, _, h, _, _, _, _, _, _, _ => by cases h
  | .int _, .lst _, _, _, _, _, _, _, _, _, h, _, _, _, _, _, _, _ => by cases h
  | .int _, .rol _, _, _, _, _, _, _, _, _, h, _, _, _, _, _, _, _ => by cases h
  | .int _, .ptr _, _, _, _, _, _, _, _, _, h, _, _, _, _, _, _, _ => by cases h
  | .int _, .oth _, _, _, _, _, _, _, _, _, h, _, _, _, _, _, _, _ => by cases h
  | .tup _, .int _, _, _, _, _, _, _, _, _, h, _, _, _, _, _, _, _ => by cases h
  | .tup _, .non, _, _, _, _, _, _, _, _, h, _, _, _, _, _, _, _ => by cases h
  | .tup _, .bl _, _, _, _, _, _, _, _, _, h, _, _, _, _, _, _, _ => by cases h
  | .tup _, .str _, _, _, _, _, _, _, _, _, h, _, _, _, _, _, _, _ => by cases h
  | .tup _, .lst _, _, _, _, _, _, _, _, _, h, _, _, _, _, _, _, _ => by cases h
  | .tup _, .rol _, _, _, _, _, _, _, _, _, h, _, _, _, _, _, _, _ => by cases h
  | .tup _, .ptr _, _, _, _, _, _, _, _, _, h, _, _, _, _, _, _, _ => by cases h
  | .tup _, .oth _, _, _, _, _, _, _, _, _, h, _, _, _, _, _, _, _ => by cases h
  | .non, y, _, _, _, _, _, _, _, _, h, _, _, _, _, _, _, _ => by cases y <;> cases h
  | .bl _, y, _, _, _, _, _, _, _, _, h, _, _, _, _, _, _, _ => by cases y <;> cases h
  | .str _, y, _, _, _, _, _, _, _, _, h, _, _, _, _, _, _, _ => by cases y <;> cases h
  | .lst _, y, _, _, _, _, _, _, _, _, h, _, _, _, _, _, _, _ => by cases y <;> cases h
  | .rol _, y, _, _, _, _, _, _, _, _, h, _, _, _, _, _, _, _ => by cases y <;> cases h
  | .ptr _, y, _, _, _, _, _, _, _, _, h, _, _, _, _, _, _, _ => by cases y <;> cases h
  | .oth _, y, _, _, _, _, _, _, _, _, h, _, _, _, _, _, _, _ => by cases y <;> cases h
theorem rc_lts : ∀ (xs ys : List Dat) {A : Around} {s : Shared} {us vs : List Value} {p q : List PyData} {as bs : List Addr}, Dat.likes xs ys = true → Dat.pys xs = some p → Dat.pys ys = some q → PyData.canLayAll0 p = true → PyData.canLayAll0 q = true → ReadsAll s.heap us p as → ReadsAll s.heap vs q bs → A.units + PyData.depthAll p < cLine →
    ∃ e r : Nat → Bool, (∀ j (h1 : j < us.length) (h2 : j < vs.length), SeqAt.EqAt A s us[j] vs[j] (e j)) ∧ (∀ j (h1 : j < us.length) (h2 : j < vs.length), e j = false → Ob.RcOp .Lt A s us[j] vs[j] (r j)) ∧ Ob.lexAt e r (decide (us.length < vs.length)) 0 (min us.length vs.length) = isLtO (Dat.cmps xs ys)
  | [], [], A, s, us, vs, p, q, as, bs, _, h1, h2, _, _, r1, r2, _ => by
    cases h1; cases h2; cases r1; cases r2
    exact ⟨fun _ => true, fun _ => true, fun j h => absurd h (by simp), fun j h => absurd h (by simp), rfl⟩
  | [], y :: ys, A, s, us, vs, p, q, as, bs, _, h1, h2, _, _, r1, r2, _ => by
    cases h1
    obtain ⟨z, ps, e, _, _⟩ := pys_cons h2
    subst e
    cases r1
    cases r2
    exact ⟨fun _ => true, fun _ => true, fun j h => absurd h (by simp), fun j h => absurd h (by simp), by simp [Ob.lexAt_zero, Dat.cmps, isLtO]⟩
  | x :: xs, [], A, s, us, vs, p, q, as, bs, _, h1, h2, _, _, r1, r2, _ => by
    cases h2
    obtain ⟨z, ps, e, _, _⟩ := pys_cons h1
    subst e
    cases r2
    cases r1
    exact ⟨fun _ => true, fun _ => true, fun j h h' => absurd h' (by simp), fun j h h' => absurd h' (by simp), by simp [Ob.lexAt_zero, Dat.cmps, isLtO]⟩
  | x :: xs, y :: ys, A, s, us, vs, p, q, as, bs, l, h1, h2, c1, c2, r1, r2, hu => by
    obtain ⟨l1, l2⟩ := Bool.and_eq_true_iff.mp (show (Dat.like x y && Dat.likes xs ys) = true from l)
    obtain ⟨z, ps, e, k1, k2⟩ := pys_cons h1
    obtain ⟨z', ps', e', k1', k2'⟩ := pys_cons h2
    subst e e'
    obtain ⟨c1a, c1b⟩ := Bool.and_eq_true_iff.mp (show (z.canLay0 && PyData.canLayAll0 ps) = true from c1)
    obtain ⟨c2a, c2b⟩ := Bool.and_eq_true_iff.mp (show (z'.canLay0 && PyData.canLayAll0 ps') = true from c2)
    obtain ⟨u1, u2⟩ := dep_cons hu
    cases r1 with
    | cons ra rb =>
      cases r2 with
      | cons ra' rb' =>
        obtain ⟨e, r, q1, q2, q3⟩ := rc_lts xs ys l2 k2 k2' c1b c2b rb rb' u2
        have hq := eqv_cmp l1 k1 k1'
        refine ⟨fun j => match j with | 0 => PyData.eqv z z' | j + 1 => e j, fun j => match j with | 0 => isLtO (Dat.cmp x y) | j + 1 => r j, fun j j1 j2 => ?_, fun j j1 j2 je => ?_, ?_⟩
        · cases j with
          | zero => exact SeqAt.eqAt_reads z z' A s _ _ _ _ ra ra' c1a c2a (by have := Nat.min_le_left z.depth z'.depth; omega)
          | succ j => exact q1 j (by simpa using j1) (by simpa using j2)
        · cases j with
          | zero => exact rc_lt x y l1 k1 k1' c1a c2a ra ra' u1
          | succ j => exact q2 j (by simpa using j1) (by simpa using j2) je
        · rw [List.length_cons, List.length_cons, Nat.add_min_add_right, Ob.lexAt_succ, lexAt_shift]
          show (if PyData.eqv z z' = true then Ob.lexAt e r _ 0 _ else isLtO (Dat.cmp x y)) = isLtO (match Dat.cmp x y with | .eq => Dat.cmps xs ys | o => o)
          rw [hq]
          cases Dat.cmp x y with
          | eq =>
            have := q3
            simpa [isEqO] using this
          | lt => rfl
          | gt => rfl
end
end Ab
end

section
set_option Elab.async false
set_option linter.all false
set_option maxRecDepth 100000
set_option maxHeartbeats 4000000
/-! Ab22: sorted(..) of ints, of nested tuples. -/
namespace Ab
open PySem PySem.Spec PyProof.Rows L2
section
variable {prog : Program} {w : World} {A : Around} {E : Value → Shared → Prop} {s : Shared}
theorem item_of {h : Heap} : ∀ {ds : List Dat} {ps : List PyData} {vs : List Value} {as : List Addr}, Dat.pys ds = some ps → ReadsAll h vs ps as → ∀ v ∈ vs, ∃ d ∈ ds, ∃ p bs, d.py = some p ∧ Reads h v p bs
  | [], _, _, _, h1, r, v, hv => by
    cases h1
    cases r
    cases hv
  | d :: ds, _, _, _, h1, r, v, hv => by
    obtain ⟨z, ps, e, k1, k2⟩ := pys_cons h1
    subst e
    cases r with
    | cons ra rb =>
      rcases List.mem_cons.mp hv with e | hv
      · subst e
        exact ⟨d, List.mem_cons_self, z, _, k1, ra⟩
      · obtain ⟨d', m, p, bs, q1, q2⟩ := item_of k2 rb v hv
        exact ⟨d', List.mem_cons_of_mem _ m, p, bs, q1, q2⟩
/-- the loop of tuples' comparison -/
theorem kat_lts {b : Bool} : ∀ (xs ys : List Dat) {us vs : List Value} {p q : List PyData} {as bs : List Addr} (i : Nat) {fin : Bool} {Q : Bool → Shared → Prop},
    (b = true → i = 0 → ∃ m n xs' ys', xs = .int m :: xs' ∧ ys = .int n :: ys') → Dat.likes xs ys = true → Dat.pys xs = some p → Dat.pys ys = some q → PyData.canLayAll0 p = true → PyData.canLayAll0 q = true → ReadsAll s.heap us p as → ReadsAll s.heap vs q bs → A.units + PyData.depthAll p < cLine →
    fin = decide (us.length < vs.length) → Q (isLtO (Dat.cmps xs ys)) s → PySem.W.KatLex prog w A b fin Q (us.zip vs) i s
  | [], [], us, vs, p, q, as, bs, i, fin, Q, _, _, h1, h2, _, _, r1, r2, _, hf, hQ => by
    cases h1; cases h2; cases r1; cases r2
    subst hf
    exact PySem.W.kat_nil hQ
  | [], y :: ys, us, vs, p, q, as, bs, i, fin, Q, _, _, h1, h2, _, _, r1, r2, _, hf, hQ => by
    cases h1
    obtain ⟨z, ps, e, _, _⟩ := pys_cons h2
    subst e
    cases r1
    cases r2
    subst hf
    exact PySem.W.kat_nil (by simpa [Dat.cmps, isLtO] using hQ)
  | x :: xs, [], us, vs, p, q, as, bs, i, fin, Q, _, _, h1, h2, _, _, r1, r2, _, hf, hQ => by
    cases h2
    obtain ⟨z, ps, e, _, _⟩ := pys_cons h1
    subst e
    cases r2
    cases r1
    subst hf
    exact PySem.W.kat_nil (by simpa [Dat.cmps, isLtO] using hQ)
  | x :: xs, y :: ys, us, vs, p, q, as, bs, i, fin, Q, hb, l, h1, h2, c1, c2, r1, r2, hu, hf, hQ => by
    obtain ⟨l1, l2⟩ := Bool.and_eq_true_iff.mp (show (Dat.like x y && Dat.likes xs ys) = true from l)
    obtain ⟨z, ps, e, k1, k2⟩ := pys_cons h1
    obtain ⟨z', ps', e', k1', k2'⟩ := pys_cons h2
    subst e e'
    obtain ⟨c1a, c1b⟩ := Bool.and_eq_true_iff.mp (show (z.canLay0 && PyData.canLayAll0 ps) = true from c1)
    obtain ⟨c2a, c2b⟩ := Bool.and_eq_true_iff.mp (show (z'.canLay0 && PyData.canLayAll0 ps') = true from c2)
    obtain ⟨u1, u2⟩ := dep_cons hu
    have hQ : Q (isLtO (match Dat.cmp x y with | .eq => Dat.cmps xs ys | o => o)) s := hQ
    cases r1 with
    | @cons v1 vr _ _ _ _ ra rb =>
      cases r2 with
      | @cons v2 vr2 _ _ _ _ ra' rb' =>
        rw [List.zip_cons_cons]
        have hq := eqv_cmp l1 k1 k1'
        refine PySem.W.kat_cons (SeqAt.eqAt_reads z z' A s _ _ _ _ ra ra' c1a c2a (by have := Nat.min_le_left z.depth z'.depth; omega) prog w _ _ ?_)
        refine PySem.W.kat_go (fun e1 => ?_) (fun e1 => ?_)
        · rw [hq] at e1
          cases hc : Dat.cmp x y with
          | lt => rw [hc] at e1; cases e1
          | gt => rw [hc] at e1; cases e1
          | eq =>
            rw [hc] at hQ
            exact PySem.W.kat_yes (kat_lts xs ys (i + 1) (fun _ z => absurd z (by omega)) l2 k2 k2' c1b c2b rb rb' u2 (by rw [hf]; simp) hQ)
        · rw [hq] at e1
          have hQ2 : Q (isLtO (Dat.cmp x y)) s := by
            cases hc : Dat.cmp x y with
            | lt => rw [hc] at hQ; exact hQ
            | gt => rw [hc] at hQ; exact hQ
            | eq => rw [hc] at e1; cases e1
          refine PySem.W.kat_no ?_
          by_cases hbi : (b && i == 0) = true
          · obtain ⟨b1, b2⟩ := Bool.and_eq_true_iff.mp hbi
            obtain ⟨m, n, xs', ys', ex, ey⟩ := hb b1 (by simpa using b2)
            obtain ⟨ex, _⟩ := List.cons.inj ex
            obtain ⟨ey, _⟩ := List.cons.inj ey
            subst ex ey
            cases k1
            cases k1'
            cases ra
            cases ra'
            rw [hbi]
            refine oneLt_int ?_
            have e : isLtO (Dat.cmp (.int m) (.int n)) = decide (m < n) := by
              show isLtO (if m < n then Ordering.lt else if m = n then .eq else .gt) = _
              by_cases h : m < n
              · rw [if_pos h, decide_eq_true h]; rfl
              · rw [if_neg h, decide_eq_false h]
                split <;> rfl
            rw [← e]
            exact hQ2
          · have hbi : (b && i == 0) = false := by simpa using hbi
            rw [hbi]
            exact PySem.W.kat_one _ _ (show wpAny (model prog w) A (richCompare .Lt v1 v2) (PySem.W.BoolBack Q) (fun _ _ => False) s from rc_lt x y l1 k1 k1' c1a c2a ra ra' u1 prog w _ (PySem.W.BoolBack Q) (show PySem.W.BoolBack Q (.bool _) s from hQ2))
theorem kat_tups {h : Heap} : ∀ {ds : List Dat} {ps : List PyData} {vs : List Value} {as : List Addr}, (∀ d ∈ ds, d.headT = true) → Dat.pys ds = some ps → ReadsAll h vs ps as → ∃ fs, PySem.W.KatTups h vs fs ∧ fs.length = vs.length ∧ ∀ f ∈ fs, ∃ a o, f = Value.ref a ∧ h.get? a = some o ∧ o.cls = .type "tuple"
  | [], _, _, _, _, h1, r => by
    cases h1
    cases r
    exact ⟨[], PySem.W.KatTups.nil, rfl, fun f hf => by cases hf⟩
  | d :: ds, _, _, _, hh, h1, r => by
    obtain ⟨z, ps, e, k1, k2⟩ := pys_cons h1
    subst e
    cases r with
    | cons ra rb =>
      obtain ⟨fs, q1, q2, q3⟩ := kat_tups (fun d m => hh d (List.mem_cons_of_mem _ m)) k2 rb
      have hd := hh d List.mem_cons_self
      match d, hd with
      | .tup (.tup ys :: rest), _ =>
        obtain ⟨ts, e1, e2⟩ := Option.map_eq_some_iff.mp (show (Dat.pys (.tup ys :: rest)).map PyData.tuple = some z from k1)
        subst e2
        obtain ⟨z0, r0, e3, k3, k4⟩ := pys_cons e1
        subst e3
        obtain ⟨t2, e4, e5⟩ := Option.map_eq_some_iff.mp (show (Dat.pys ys).map PyData.tuple = some z0 from k3)
        subst e5
        cases ra with
        | @tuple a o vs2 n _ _ ho hc hdt hr =>
          obtain ⟨l⟩ := vs2
          cases hr with
          | cons rc rd =>
            cases rc with
            | @tuple a2 o2 vs3 n2 _ _ ho2 hc2 hdt2 hr2 =>
              refine ⟨.ref a2 :: fs, PySem.W.KatTups.cons ho hc hdt (by simp) q1, by simp [q2], fun f hf => ?_⟩
              rcases List.mem_cons.mp hf with e | hf
              · exact ⟨a2, o2, e, ho2, hc2⟩
              · exact q3 f hf
theorem kat_intsT {h : Heap} : ∀ {ds : List Dat} {ps : List PyData} {vs : List Value} {as : List Addr}, (∀ d ∈ ds, d.headI = true) → Dat.pys ds = some ps → ReadsAll h vs ps as → ∃ fs, PySem.W.KatTups h vs fs ∧ fs.length = vs.length ∧ ∀ f ∈ fs, ∃ x t, f = Value.int x t
  | [], _, _, _, _, h1, r => by
    cases h1
    cases r
    exact ⟨[], PySem.W.KatTups.nil, rfl, fun f hf => by cases hf⟩
  | d :: ds, _, _, _, hh, h1, r => by
    obtain ⟨z, ps, e, k1, k2⟩ := pys_cons h1
    subst e
    cases r with
    | cons ra rb =>
      obtain ⟨fs, q1, q2, q3⟩ := kat_intsT (fun d m => hh d (List.mem_cons_of_mem _ m)) k2 rb
      have hd := hh d List.mem_cons_self
      match d, hd with
      | .tup (.int m :: rest), _ =>
        obtain ⟨ts, e1, e2⟩ := Option.map_eq_some_iff.mp (show (Dat.pys (.int m :: rest)).map PyData.tuple = some z from k1)
        subst e2
        obtain ⟨z0, r0, e3, k3, k4⟩ := pys_cons e1
        subst e3
        cases k3
        cases ra with
        | @tuple a o vs2 n _ _ ho hc hdt hr =>
          obtain ⟨l⟩ := vs2
          cases hr with
          | cons rc rd =>
            cases rc with
            | int i t =>
              refine ⟨.int m t :: fs, PySem.W.KatTups.cons ho hc hdt (by simp) q1, by simp [q2], fun f hf => ?_⟩
              rcases List.mem_cons.mp hf with e | hf
              · exact ⟨_, _, e⟩
              · exact q3 f hf
noncomputable def keyV (h : Heap) (u : Value) : List Int := encP (SeqAt.readOf h u)
theorem shp_py {d : Dat} {p : PyData} (h : d.shp = true) (e : d.py = some p) : p.canLay0 = true ∧ p.depth ≤ 64 := by
  unfold Dat.shp at h
  rw [e] at h
  exact ⟨SeqAt.canLay_of_shaped h, SeqAt.depth_of_shaped h⟩
/-- tuples: comparing is by keyV -/
theorem tup_cmp {h0 h' : Heap} {b : Bool} {vs : List Value} {ds : List Dat} {ps : List PyData} {as : List Addr} (hk : ∀ c o, h0.get? c = some o → h'.get? c = some o) (hp : Dat.pys ds = some ps) (hr : ReadsAll h0 vs ps as) (hu : A.units + 64 < cLine) (hs : ∀ d ∈ ds, d.shp = true) (hl : ∀ x ∈ ds, ∀ y ∈ ds, Dat.like x y = true)
    (ht : ∀ d ∈ ds, ∃ xs, d = .tup xs) (hb : b = true → ∀ d ∈ ds, d.headI = true) : SrtO.Cmp prog w A { s with heap := h' } (tuples' b) (fun p => p.1 ∈ vs) (SrtO.lt2 fun u v => lexB (keyV h0 u) (keyV h0 v)) := by
  intro p q hm hm'
  obtain ⟨x, hx, px, bx, ex, rx⟩ := item_of hp hr _ hm
  obtain ⟨y, hy, py, by_, ey, ry⟩ := item_of hp hr _ hm'
  obtain ⟨c1, d1⟩ := shp_py (hs x hx) ex
  obtain ⟨c2, d2⟩ := shp_py (hs y hy) ey
  have kx : keyV h0 p.1 = x.enc := by unfold keyV; rw [SeqAt.readOf_eq c1 rx, enc_py ex]
  have ky : keyV h0 q.1 = y.enc := by unfold keyV; rw [SeqAt.readOf_eq c2 ry, enc_py ey]
  have l := hl x hx y hy
  show wpAny (model prog w) A (keyLt' (tuples' b) p.1 q.1) (fun r s' => s' = { s with heap := h' } ∧ r = lexB (keyV h0 p.1) (keyV h0 q.1)) (fun _ _ => False) { s with heap := h' }
  rw [kx, ky, ← lt_lex l]
  obtain ⟨xs, e1⟩ := ht x hx
  obtain ⟨ys, e2⟩ := ht y hy
  have hI1 := fun z => hb z x hx
  have hI2 := fun z => hb z y hy
  subst e1 e2
  obtain ⟨ps1, f1, g1⟩ := Option.map_eq_some_iff.mp (show (Dat.pys xs).map PyData.tuple = some px from ex)
  obtain ⟨ps2, f2, g2⟩ := Option.map_eq_some_iff.mp (show (Dat.pys ys).map PyData.tuple = some py from ey)
  subst g1 g2
  have rx' := Reads.keeps hk rx
  have ry' := Reads.keeps hk ry
  generalize p.1 = u at rx' 
  generalize q.1 = v at ry'
  cases rx' with
  | @tuple a o vs1 n _ _ ho hc hd hr1 =>
    cases ry' with
    | @tuple a2 o2 vs2 n2 _ _ ho2 hc2 hd2 hr2 =>
      refine PySem.W.kat_lt (s := { s with heap := h' }) ho hd ho2 hd2 (kat_lts (s := { s with heap := h' }) xs ys 0 (fun z _ => ?_) l f1 f2 c1 c2 hr1 hr2 (by
        have d1 : PyData.depthAll ps1 + 1 ≤ 64 := d1
        omega) (by simp) ⟨rfl, ?_⟩)
      · have i1 := hI1 z
        have i2 := hI2 z
        match xs, ys, i1, i2 with
        | .int m :: xs', .int n :: ys', _, _ => exact ⟨m, n, xs', ys', rfl, rfl⟩
      · show isLtO (Dat.cmps xs ys) = Dat.lt (.tup xs) (.tup ys)
        unfold Dat.lt
        show isLtO (Dat.cmps xs ys) = match Dat.cmps xs ys with | .lt => true | _ => false
        cases Dat.cmps xs ys <;> rfl
end
end Ab
end

section
set_option Elab.async false
set_option linter.all false
set_option maxRecDepth 100000
set_option maxHeartbeats 4000000
/-! Ab23: sorted(..) as a rule. -/
namespace Ab
open PySem PySem.Spec PyProof.Rows L2
section
variable {prog : Program} {w : World} {A : Around} {E : Value → Shared → Prop} {s : Shared}
/-- a tuple's items, collected -/
theorem collect_tup {t : Addr} {items : List Value} {R : List Value → Shared → Prop} (ht : s.heap.IsTuple t items.toArray) (hn : items.length ≤ sizeLine)
    (k : R items { s with heap := (s.heap.push (seqObj "list" #[] 0)).update s.heap.objs.size (Obj.mapSeq (· ++ items.toArray)) }) :
    wpAny (model prog w) A (collect (.ref t)) R E s := by
  obtain ⟨ob, hob, cob, m, dob⟩ := ht
  have new0 : (s.heap.push (seqObj "list" #[] 0)).get? s.heap.objs.size = some (seqObj "list" #[] 0) := Heap.get?_push_size _ rfl
  have old0 : (s.heap.push (seqObj "list" #[] 0)).get? t = some ob := Heap.get?_push_of_some _ hob
  unfold collect
  apply wpAny_bind
  apply wpAny_runValue
  apply codeAny_builtin entry_proto_collect'
  show wpAny _ _ (do again (.builtin "list.__iadd__" ⟨[← newList [], .ref t], []⟩)) _ _ s
  apply wpAny_bind
  apply wpAny_newList
  · apply wpAny_pure
    refine ⟨Code.quiet_builtin _ (by decide +kernel), ?_⟩
    apply codeAny_builtin entry_list_iadd'
    show wpAny _ _ (Builtin.List.listExtendWith (.ref s.heap.objs.size) (.ref t) (.ref s.heap.objs.size)) _ _ { s with heap := s.heap.push (seqObj "list" #[] 0) }
    unfold Builtin.List.listExtendWith
    refine wpAny_bind (wpAny_typeOf (T := "tuple") ⟨ob, old0, cob⟩ ?_)
    have hT : (Value.type "tuple" == Value.type "tuple") = true := by rfl
    rw [if_pos (by rw [hT]; simp)]
    refine wpAny_bind (listItems_at old0 dob ?_)
    refine wpAny_bind (listItems_at (xs := #[]) (n := 0) new0 rfl ?_)
    rw [if_neg (by simp)]
    refine wpAny_bind (listUpdate_at (xs := #[]) (n := 0) new0 rfl ?_ (Nat.zero_le _) (by
      show (#[] ++ items.toArray).size ≤ sizeLine + 1
      rw [Array.size_append, List.size_toArray]
      simp only [List.size_toArray, List.length_nil]
      omega))
    apply wpAny_pure
    show wpAny (model prog w) A (do
      let o ← load s.heap.objs.size
      match o.data with
      | .seq xs _ => pure xs.toList
      | _ => unsupported "internal:collect") R E { s with heap := (s.heap.push (seqObj "list" #[] 0)).update s.heap.objs.size (Obj.mapSeq (· ++ items.toArray)) }
    apply wpAny_bind
    apply wpAny_load (get?_update_seq new0 _)
    show wpAny _ _ (pure ((#[] : Array Value) ++ items.toArray).toList) R E _
    have e : ((#[] : Array Value) ++ items.toArray).toList = items := by simp
    rw [e]
    exact wpAny_pure k
  · exact Nat.zero_le _
/-- sorted(t), t a tuple -/
theorem sorted_tup {t : Addr} {items : List Value} {ltv : Value → Value → Bool} {R : Value → Shared → Prop} (O : SrtO.Swo ltv) (ht : s.heap.IsTuple t items.toArray) (hn : items.length ≤ sizeLine)
    (hS : 2 ≤ items.length → ∀ (h1 : Heap) (a : Addr), h1.get? a = some (seqObj "list" items.toArray 0) → (∀ b o, s.heap.get? b = some o → b ≠ a ∧ h1.get? b = some o) → SrtO.SortableO prog w A.in1.in1 { s with heap := h1 } a items ltv)
    (k : ∀ out : List Value, SrtO.Srtd ltv out → SrtO.Stb ltv out items → R (.ref (s.heap.objs.size + 1)) { s with heap := sortedAll s.heap items out.toArray }) :
    wpAny (model prog w) A (call (.builtin "sorted") [.ref t]) R E s := by
  apply Calls.call_function_entry kind_sorted plain_sorted entry_sorted (args_sorted1 _)
  unfold Builtin.«sorted»
  apply wpAny_bind (m := checkCount "sorted" 1 1 _)
  apply wpAny_pure
  apply wpAny_bind
  apply collect_tup ht hn
  apply wpAny_bind
  refine wpAny_newList ?_ hn
  have len1 : ((s.heap.push (seqObj "list" #[] 0)).update s.heap.objs.size (Obj.mapSeq (· ++ items.toArray))).objs.size = s.heap.objs.size + 1 := by
    rw [Heap.size_update]
    exact size_push' _ _
  have at1 : (((s.heap.push (seqObj "list" #[] 0)).update s.heap.objs.size (Obj.mapSeq (· ++ items.toArray))).push (seqObj "list" items.toArray 0)).get? (s.heap.objs.size + 1) = some (seqObj "list" items.toArray 0) := by
    rw [← len1]
    exact Heap.get?_push_size _ rfl
  have keep1 : ∀ b o, s.heap.get? b = some o → b ≠ s.heap.objs.size + 1 ∧ (((s.heap.push (seqObj "list" #[] 0)).update s.heap.objs.size (Obj.mapSeq (· ++ items.toArray))).push (seqObj "list" items.toArray 0)).get? b = some o := fun b o q => by
    have lt1 := Heap.lt_size q
    refine ⟨Nat.ne_of_lt (Nat.lt_succ_of_lt lt1), Heap.get?_push_of_some _ ?_⟩
    rw [Heap.get?_update_ne _ _ _ _ (Nat.ne_of_lt lt1)]
    exact Heap.get?_push_of_some _ q
  show wpAny _ _ _ _ _ { s with heap := ((s.heap.push (seqObj "list" #[] 0)).update s.heap.objs.size (Obj.mapSeq (· ++ items.toArray))).push (seqObj "list" items.toArray 0) }
  rw [len1]
  apply wpAny_bind
  apply wpAny_holding
  refine wpAny_call_entry slot_list_sort ⟨_, at1, rfl⟩ entry_list_sort ?_ (args_list_sort _)
  refine SrtO.list_sort_ord O at1 hn (fun h2 => hS h2 _ _ at1 keep1) ?_
  intro out hs hb
  refine ⟨_, rfl, ?_⟩
  apply wpAny_pure
  exact ⟨_, rfl, k out hs hb⟩
end
end Ab
end

section
set_option Elab.async false
set_option linter.all false
set_option maxRecDepth 100000
set_option maxHeartbeats 4000000
/-! Ab24: sorted(e) in the small language. -/
namespace Ab
open PySem PySem.Spec PyProof.Rows L2
section
variable {prog : Program} {w : World} {A : Around} {s : Shared}
theorem all_of {α : Type} {f : α → Bool} {l : List α} (h : l.all f = true) : ∀ x ∈ l, f x = true := List.all_eq_true.mp h
theorem headI_tup {d : Dat} (h : d.headI = true) : ∃ xs, d = .tup xs := by
  unfold Dat.headI at h
  split at h
  · exact ⟨_, rfl⟩
  · cases h
theorem headT_tup {d : Dat} (h : d.headT = true) : ∃ xs, d = .tup xs := by
  unfold Dat.headT at h
  split at h
  · exact ⟨_, rfl⟩
  · cases h
theorem ints_of {h : Heap} : ∀ {ds : List Dat} {ps : List PyData} {vs : List Value} {as : List Addr}, (∀ d ∈ ds, d.isI = true) → Dat.pys ds = some ps → ReadsAll h vs ps as → ∃ ns, IntsAre vs ns
  | [], _, _, _, _, h1, r => by
    cases h1
    cases r
    exact ⟨[], .nil⟩
  | d :: ds, _, _, _, hh, h1, r => by
    obtain ⟨z, ps, e, k1, k2⟩ := pys_cons h1
    subst e
    cases r with
    | cons ra rb =>
      obtain ⟨ns, q⟩ := ints_of (fun d m => hh d (List.mem_cons_of_mem _ m)) k2 rb
      have hd := hh d List.mem_cons_self
      cases d with
      | int i =>
        cases k1
        cases ra with
        | int _ t => exact ⟨i :: ns, .cons i t q⟩
      | _ => cases hd
theorem key_of {h0 : Heap} {vs : List Value} {ds : List Dat} {ps : List PyData} {as : List Addr} (hp : Dat.pys ds = some ps) (hr : ReadsAll h0 vs ps as) (hs : ∀ d ∈ ds, d.shp = true) : vs.map (keyV h0) = ds.map Dat.enc := by
  induction ds generalizing ps vs as with
  | nil =>
    cases hp
    cases hr
    rfl
  | cons d ds ih =>
    obtain ⟨z, ps, e, k1, k2⟩ := pys_cons hp
    subst e
    cases hr with
    | cons ra rb =>
      rw [List.map_cons, List.map_cons, ih k2 rb fun d m => hs d (List.mem_cons_of_mem _ m)]
      congr 1
      unfold keyV
      rw [SeqAt.readOf_eq (shp_py (hs d List.mem_cons_self) k1).1 ra, enc_py k1]
theorem nest_sortable {s0 : Shared} {h1 : Heap} {a : Addr} {vs : List Value} {ds : List Dat} {ps : List PyData} {as : List Addr} (hp : Dat.pys ds = some ps) (hr : ReadsAll s0.heap vs ps as) (hu : A.units + 64 < cLine) (h2 : 2 ≤ vs.length)
    (hk : ∀ b o, s0.heap.get? b = some o → b ≠ a ∧ h1.get? b = some o) (hd : (ds.all Dat.isI || ds.all Dat.headI || ds.all Dat.headT) = true) (hs : ∀ d ∈ ds, d.shp = true) (hl : ∀ x ∈ ds, ∀ y ∈ ds, Dat.like x y = true) :
    SrtO.SortableO prog w A { s0 with heap := h1 } a vs fun u v => lexB (keyV s0.heap u) (keyV s0.heap v) := by
  by_cases hI : ds.all Dat.isI = true
  · obtain ⟨ns, hi⟩ := ints_of (all_of hI) hp hr
    intro h' kp
    obtain ⟨κ, q1, q2⟩ := SrtO.ints_sortable (prog := prog) (w := w) (A := A) (s := { s0 with heap := h1 }) (a := a) hi h2 h' kp
    refine ⟨κ, q1, fun p q hm hm' => ?_⟩
    have := q2 p q hm hm'
    refine wpAny_mono this (fun r s' hq => ⟨hq.1, hq.2.trans ?_⟩) fun _ _ z => z
    obtain ⟨x, hx, px, bx, ex, rx⟩ := item_of hp hr _ hm
    obtain ⟨y, hy, py, by_, ey, ry⟩ := item_of hp hr _ hm'
    have ix := all_of hI x hx
    have iy := all_of hI y hy
    cases x with
    | int i =>
      cases y with
      | int j =>
        cases ex
        cases ey
        show SrtO.ltIv p.1 q.1 = lexB (keyV s0.heap p.1) (keyV s0.heap q.1)
        have k1 : keyV s0.heap p.1 = [1, i] := by unfold keyV; rw [SeqAt.readOf_eq rfl rx]; rfl
        have k2 : keyV s0.heap q.1 = [1, j] := by unfold keyV; rw [SeqAt.readOf_eq rfl ry]; rfl
        rw [k1, k2, lexB_cons, if_neg (by decide), if_neg (by decide), lexB_cons]
        generalize p.1 = u at rx
        generalize q.1 = v at ry
        cases rx
        cases ry
        show decide (i < j) = _
        by_cases h : i < j
        · rw [if_pos h, decide_eq_true h]
        · rw [if_neg h, decide_eq_false h]
          split <;> rfl
      | _ => cases iy
    | _ => cases ix
  · have hI : ds.all Dat.isI = false := by simpa using hI
    rw [hI, Bool.false_or] at hd
    intro h' kp
    have keep : ∀ c o, s0.heap.get? c = some o → h'.get? c = some o := fun c o e => by
      obtain ⟨n1, n2⟩ := hk c o e
      exact kp c o n1 n2
    have hr' := ReadsAll.keeps keep hr
    by_cases hH : ds.all Dat.headI = true
    · obtain ⟨fs, f1, f2, f3⟩ := kat_intsT (all_of hH) hp hr'
      refine ⟨tuples' true, fun Q E hq => ?_, tup_cmp (s := s0) keep hp hr hu hs hl (fun d m => headI_tup (all_of hH d m)) fun _ => all_of hH⟩
      refine PySem.W.kat_kind (T := .type "int") f1 (by omega) (fun f hm => ?_) (by rfl) ?_
      · obtain ⟨x, t, e⟩ := f3 f hm
        subst e
        exact PySem.W.Looks.now
      · have e : (Value.type "int" != Value.type "tuple") = true := by decide +kernel
        rw [e]
        exact hq
    · have hH : ds.all Dat.headI = false := by simpa using hH
      rw [hH, Bool.false_or] at hd
      obtain ⟨fs, f1, f2, f3⟩ := kat_tups (all_of hd) hp hr'
      refine ⟨tuples' false, fun Q E hq => ?_, tup_cmp (s := s0) keep hp hr hu hs hl (fun d m => headT_tup (all_of hd d m)) fun z => nomatch z⟩
      refine PySem.W.kat_kind (T := .type "tuple") f1 (by omega) (fun f hm => ?_) (by rfl) ?_
      · obtain ⟨a2, o, e, ho, hc⟩ := f3 f hm
        subst e
        exact hc ▸ (PySem.W.Looks.ld ho).andThen .now
      · have e : (Value.type "tuple" != Value.type "tuple") = false := by decide +kernel
        rw [e]
        exact hq
end

/-! ### the rule -/
def rSrt (K : PySem.W.Frag) : List V → Hp → VK → Prop := fun vs H Q => ∃ (a : Addr) (xs : List V) (ds es : List Dat) (ps : List PyData), vs = [.ref a] ∧ (SqL K H a xs ∨ SqT K H a xs) ∧ DpAll K H xs ps ∧ Dat.pys ds = some ps ∧ srtD ds = some es ∧ ds.length = xs.length ∧
  ∀ (tr : List (Dat × V)) (p : Addr), tr.Perm (ds.zip xs) → tr.map (·.1) = es → H p = none → Q (.ref p) (upd H p (.lst (tr.map (·.2))))
theorem vals_get {xs : List V} {us : List Value} (r : Vals xs us) : ∀ t ∈ xs.zip us, RelV t.1 t.2 := by
  induction r with
  | nil => intro t h; cases h
  | cons h _ ih =>
    intro t ht
    rcases List.mem_cons.mp ht with e | ht
    · subst e; exact h
    · exact ih t ht
theorem vals_map {tr : List ((Dat × V) × Value)} (h : ∀ t ∈ tr, RelV t.1.2 t.2) : Vals (tr.map fun t => t.1.2) (tr.map (·.2)) := by
  induction tr with
  | nil => exact .nil
  | cons t tr ih => exact .cons (h t List.mem_cons_self) (ih fun u hu => h u (List.mem_cons_of_mem _ hu))
theorem srtD_short {ds es : List Dat} (h : srtD ds = some es) (hl : ds.length < 2) : es = ds := by
  unfold srtD at h
  rw [if_pos hl] at h
  split at h
  · exact (Option.some.inj h).symm
  · cases h
theorem srtD_long {ds es : List Dat} (h : srtD ds = some es) (hl : ¬ ds.length < 2) : es = isortD ds ∧ (ds.all Dat.isI || ds.all Dat.headI || ds.all Dat.headT) = true ∧ (∀ d ∈ ds, d.shp = true) ∧ ∀ x ∈ ds, ∀ y ∈ ds, Dat.like x y = true := by
  unfold srtD at h
  rw [if_neg hl] at h
  split at h
  · rename_i hc
    obtain ⟨hc, h3⟩ := Bool.and_eq_true_iff.mp hc
    obtain ⟨h1, h2⟩ := Bool.and_eq_true_iff.mp hc
    exact ⟨(Option.some.inj h).symm, h1, all_of h2, fun x hx y hy => all_of (all_of h3 x hx) y hy⟩
  · cases h
theorem map_fst_zip' {α β : Type} : ∀ {l : List α} {m : List β}, l.length = m.length → (l.zip m).map (·.1) = l
  | [], [], _ => rfl
  | a :: l, b :: m, h => by
    rw [List.zip_cons_cons, List.map_cons, map_fst_zip' (by simpa using h)]
theorem map_snd_zip' {α β : Type} : ∀ {l : List α} {m : List β}, l.length = m.length → (l.zip m).map (·.2) = m
  | [], [], _ => rfl
  | a :: l, b :: m, h => by
    rw [List.zip_cons_cons, List.map_cons, map_snd_zip' (by simpa using h)]
section
variable {X : Cx}
theorem cr_srt (hu : X.A.units + 64 + 2 < cLine) : CallR X (.builtin "sorted") (rSrt X.K) := by
  intro pins s σ H vs us Q I r h
  obtain ⟨a, xs, ds, es, ps, rfl, hs, hD, hp, hsrt, hlen, q⟩ := h
  rw [Vals.ref1 r]
  have main : ∀ (its : List Value), Vals xs its → xs.length ≤ sizeLine →
      (∀ (R : Value → Shared → Prop), (2 ≤ its.length → ∀ (h1 : Heap) (b : Addr), h1.get? b = some (seqObj "list" its.toArray 0) → (∀ c o, s.heap.get? c = some o → c ≠ b ∧ h1.get? c = some o) → SrtO.SortableO X.prog X.w X.A.in1.in1 { s with heap := h1 } b its fun u v => lexB (keyV s.heap u) (keyV s.heap v)) →
        (∀ out : List Value, SrtO.Srtd (fun u v => lexB (keyV s.heap u) (keyV s.heap v)) out → SrtO.Stb (fun u v => lexB (keyV s.heap u) (keyV s.heap v)) out its → R (.ref (s.heap.objs.size + 1)) { s with heap := sortedAll s.heap its out.toArray }) →
        wpAny (model X.prog X.w) X.A (call (.builtin "sorted") [.ref a]) R X.xe s) → wpAny (model X.prog X.w) X.A (call (.builtin "sorted") [.ref a]) (EP X pins σ Q) X.xe s := by
    intro its rv hz run
    obtain ⟨as, hr⟩ := Dp.readsAll I ps xs its hD rv
    have hl2 : its.length = ds.length := by rw [hlen]; exact rv.length.symm
    refine run _ (fun h2 h1 b _ hk => ?_) fun out h1 h2 => ?_
    · obtain ⟨_, k1, k2, k3⟩ := srtD_long hsrt (by omega)
      exact nest_sortable hp hr (by show X.A.units + 1 + 1 + 64 < cLine; omega) h2 hk k1 k2 k3
    · obtain ⟨ep, he'⟩ := sortedAll_at s.heap its out.toArray
      obtain ⟨tr, p1, p2⟩ := perm_lift (f := fun t : (Dat × V) × Value => t.2) h2.perm.symm (l' := (ds.zip xs).zip its) (map_snd_zip' (by rw [List.length_zip]; omega))
      have hm1 : ((ds.zip xs).zip its).map (fun t => t.1) = ds.zip xs := map_fst_zip' (by rw [List.length_zip]; omega)
      have pz : (tr.map fun t => t.1).Perm (ds.zip xs) := by
        have := p1.map fun t => t.1
        rw [hm1] at this
        exact this
      have hkey : ∀ t ∈ (ds.zip xs).zip its, 2 ≤ its.length → keyV s.heap t.2 = t.1.1.enc := fun t ht h2' => by
        obtain ⟨_, _, k2, _⟩ := srtD_long hsrt (by omega)
        have km := key_of hp hr k2
        obtain ⟨i, hi, e⟩ := List.mem_iff_getElem.mp ht
        have hi2 : i < its.length := by
          rw [List.length_zip] at hi
          omega
        have hi3 : i < ds.length := by omega
        have hi4 : i < xs.length := by omega
        rw [List.getElem_zip, List.getElem_zip] at e
        subst e
        have := congrArg (fun l => l[i]?) km
        simp only [List.getElem?_map, List.getElem?_eq_getElem hi2, List.getElem?_eq_getElem hi3, Option.map_some] at this
        exact Option.some.inj this
      have hes : (tr.map fun t => t.1).map (·.1) = es := by
        have pd : ((tr.map fun t => t.1).map (·.1)).Perm ds := by
          have := pz.map (·.1)
          rw [map_fst_zip' hlen] at this
          exact this
        by_cases hlt : ds.length < 2
        · rw [srtD_short hsrt hlt]
          match ds, hlt, pd with
          | [], _, pd => exact pd.eq_nil
          | [d], _, pd => exact List.perm_singleton.mp pd
        · obtain ⟨e1, _, k2, k3⟩ := srtD_long hsrt hlt
          rw [e1]
          refine isortD_one k3 pd ?_
          rw [List.map_map]
          refine List.pairwise_map.mpr ?_
          have h1' : (tr.map fun t => t.2).Pairwise fun x y => lexB (keyV s.heap y) (keyV s.heap x) = false := by rw [p2]; exact h1
          refine (List.pairwise_map.mp h1').imp_of_mem fun {t u} ht hu' h => ?_
          have e2 := hkey t (p1.mem_iff.mp ht) (by omega)
          have e3 := hkey u (p1.mem_iff.mp hu') (by omega)
          rw [e2, e3] at h
          exact h
      have hrel : ∀ t ∈ tr, RelV t.1.2 t.2 := fun t ht => by
        have ht := p1.mem_iff.mp ht
        have : (t.1.2, t.2) ∈ xs.zip its := by
          obtain ⟨i, hi, e⟩ := List.mem_iff_getElem.mp ht
          have hi2 : i < (xs.zip its).length := by
            rw [List.length_zip, List.length_zip] at hi
            rw [List.length_zip]
            omega
          rw [List.getElem_zip, List.getElem_zip] at e
          subst e
          refine List.mem_iff_getElem.mpr ⟨i, hi2, ?_⟩
          rw [List.getElem_zip]
        exact vals_get rv _ this
      have hv := vals_map hrel
      have hmm : ((tr.map fun t => t.1).map (·.2)) = tr.map fun t => t.1.2 := by rw [List.map_map]; rfl
      have hvals : Vals ((tr.map fun t => t.1).map (·.2)) out := by
        rw [hmm, ← p2]
        exact hv
      have hlen2 : ((tr.map fun t => t.1).map (·.2)).length ≤ sizeLine := by
        rw [List.length_map, pz.length_eq, List.length_zip]
        omega
      exact ⟨.ref _, upd H (s.heap.objs.size + 1) (.lst ((tr.map fun t => t.1).map (·.2))), I.laid (t' := s.toks) (fun _ _ => sortedAll_old) (Nat.le_succ _) ⟨hlen2, out, ep, hvals, he'⟩, rfl, q _ _ pz hes (I.hok.fresh (Nat.le_succ _))⟩
  rcases hs with hs | hs
  · obtain ⟨its, rv, hl, hz⟩ := I.list hs
    exact main its rv hz fun R k1 k2 => SrtO.sorted_ord (swo_key (keyV s.heap)) hl.isList (by rw [← rv.length]; exact hz) k1 k2
  · obtain ⟨its, rv, hl, hz⟩ := I.tuple hs
    exact main its rv hz fun R k1 k2 => sorted_tup (swo_key (keyV s.heap)) (show s.heap.IsTuple a its.toArray from hl) (by rw [← rv.length]; exact hz) k1 k2
end
theorem srt_pys : ∀ {ds : List Dat}, (∀ d ∈ ds, d.shp = true) → ∃ ps, Dat.pys ds = some ps
  | [], _ => ⟨[], rfl⟩
  | d :: ds, h => by
    obtain ⟨ps, e⟩ := srt_pys (ds := ds) fun x hx => h x (List.mem_cons_of_mem _ hx)
    have hd := h d List.mem_cons_self
    unfold Dat.shp at hd
    cases e2 : d.py with
    | none => rw [e2] at hd; cases hd
    | some p =>
      refine ⟨p :: ps, ?_⟩
      unfold Dat.pys
      rw [e2, e]
      rfl
theorem reps_perm {K : PySem.W.Frag} {S : Hp} {A : List Addr} {tr : List (Dat × V)} (h : ∀ t ∈ tr, Rep K S A t.1 t.2) : Reps K S A (tr.map (·.1)) (tr.map (·.2)) := by
  induction tr with
  | nil => exact .nil
  | cons t tr ih => exact .cons (h t List.mem_cons_self) (ih fun u hu => h u (List.mem_cons_of_mem _ hu))
theorem reps_zip {K : PySem.W.Frag} {S : Hp} {A : List Addr} : ∀ {ds : List Dat} {xs : List V}, Reps K S A ds xs → ∀ t ∈ ds.zip xs, Rep K S A t.1 t.2
  | _, _, .nil, t, h => by cases h
  | _, _, .cons r q, t, h => by
    rcases List.mem_cons.mp h with e | h
    · subst e; exact r
    · exact reps_zip q t h
theorem srt_py {ds es : List Dat} (h : srtD ds = some es) : ∃ ps, Dat.pys ds = some ps := by
  by_cases hl : ds.length < 2
  · unfold srtD at h
    rw [if_pos hl] at h
    split at h
    · exact ⟨_, by assumption⟩
    · cases h
  · exact srt_pys (srtD_long h hl).2.2.1
section
variable {X : Cx} {b : Bas} {cf : CallF} {Γ : Gam} {M : Mem} {R : Dat → Mem → Prop} {e : Expr} {pos p : Pos} {ie : Ex}
theorem seqD_at {σ : L2.St} {S : Hp} {A : List Addr} {H : Hp} {d : Dat} {ds : List Dat} {v : V} (h : SeqD M d ds) (st : Stt X.K b σ S A H Γ M) (r : Rep X.K S A d v) : ∃ a xs, v = .ref a ∧ (SqL X.K H a xs ∨ SqT X.K H a xs) ∧ Reps X.K S A ds xs := by
  cases h with
  | l i =>
    obtain ⟨a, xs, ev, g, q⟩ := i.at st r
    exact ⟨a, xs, ev, .inl g, q⟩
  | t =>
    obtain ⟨a, xs, ev, g, q⟩ := (IsT.tup _).at st r
    exact ⟨a, xs, ev, .inr g, q⟩
theorem A_srt (hu : X.A.units + 64 + 2 < cLine) (hg : Gl X "sorted") (hm : X.mg "sorted" = none) (h : AE X b e Γ M fun d M1 => ∃ ds es, sq M1 d = some ds ∧ srtD ds = some es ∧ R (.lst es) M1) (he : starEach [e] X.env = (false, eval e X.env) :: starEach [] X.env := by rfl) : AE X b (.Call (.Name "sorted" p) [e] [] pos) Γ M R :=
  A_blt (cr_srt hu) hg hm (by decide +kernel) (L_cons (h.imp fun d M1 ⟨ds, es, h1, h2, q⟩ => L_nil fun σ S A H vs Q st r1 p => by
    obtain ⟨v, ev, r⟩ := r1.one
    subst ev
    obtain ⟨a, xs, ev, g, rr⟩ := seqD_at (sq_ok h1) st r
    subst ev
    obtain ⟨ps, hp⟩ := srt_py h2
    refine ⟨a, xs, ds, es, ps, rfl, g, rr.dp st.sub hp, hp, h2, rr.length, fun tr x pm hes hx => ?_⟩
    obtain ⟨s2, st2⟩ := st.lay (o := .lst (tr.map (·.2))) hx
    have rt := reps_perm fun t ht => reps_zip rr t (pm.mem_iff.mp ht)
    rw [hes] at rt
    exact (p.after s2).here st2 (.lst upd_same (rt.mono s2.s s2.a)) q) he) (by decide) (by decide) he
theorem A_srtC (hu : X.A.units + 64 + 2 < cLine) (hg : Gl X "sorted") (hm : X.mg "sorted" = none) (h : AE X b e Γ M fun d M1 => ∃ ds es, sq M1 d = some ds ∧ srtD ds = some es ∧ R (.ptr M1.length) (M1 ++ [.lst es])) (he : starEach [e] X.env = (false, eval e X.env) :: starEach [] X.env := by rfl) : AE X b (.Call (.Name "sorted" p) [e] [] pos) Γ M R :=
  A_blt (cr_srt hu) hg hm (by decide +kernel) (L_cons (h.imp fun d M1 ⟨ds, es, h1, h2, q⟩ => L_nil fun σ S A H vs Q st r1 p => by
    obtain ⟨v, ev, r⟩ := r1.one
    subst ev
    obtain ⟨a, xs, ev, g, rr⟩ := seqD_at (sq_ok h1) st r
    subst ev
    obtain ⟨ps, hp⟩ := srt_py h2
    refine ⟨a, xs, ds, es, ps, rfl, g, rr.dp st.sub hp, hp, h2, rr.length, fun tr x pm hes hx => ?_⟩
    have rt := reps_perm fun t ht => reps_zip rr t (pm.mem_iff.mp ht)
    rw [hes] at rt
    obtain ⟨s2, st2⟩ := st.layCell (o := .lst (tr.map (·.2))) (c := .lst es) hx ⟨_, upd_same, rt.mono (Same.refl _) (List.prefix_append _ _)⟩
    refine (p.after s2).here st2 (.ptr ?_) q
    rw [← st.len, List.getElem?_append_right (Nat.le_refl _), Nat.sub_self] <;> rfl) he) (by decide) (by decide) he
theorem SE.srt (hu : X.A.units + 64 + 2 < cLine) (hg : Gl X "sorted") (hm : X.mg "sorted" = none) (ha : SE X cf e ie) (he : starEach [e] X.env = (false, eval e X.env) :: starEach [] X.env := by rfl) : SE X cf (.Call (.Name "sorted" p) [e] [] pos) (.un .srt ie) := SE.un1 .srt (fun b Γ M R h => A_srt hu hg hm (h.imp fun d M ⟨r, e, q⟩ => by
  obtain ⟨ds, e1, e2⟩ := Option.bind_eq_some_iff.mp e
  obtain ⟨es, e3, e4⟩ := Option.map_eq_some_iff.mp e2
  subst e4
  exact ⟨ds, es, e1, e3, q⟩) he) ha
theorem SE.srtC (hu : X.A.units + 64 + 2 < cLine) (hg : Gl X "sorted") (hm : X.mg "sorted" = none) (ha : SE X cf e ie) (he : starEach [e] X.env = (false, eval e X.env) :: starEach [] X.env := by rfl) : SE X cf (.Call (.Name "sorted" p) [e] [] pos) (.un .srtC ie) := SE.un1 .srtC (fun b Γ M R h => A_srtC hu hg hm (h.imp fun d M ⟨r, e, q⟩ => by
  obtain ⟨ds, e1, e2⟩ := Option.bind_eq_some_iff.mp e
  obtain ⟨es, e3, e4⟩ := Option.map_eq_some_iff.mp e2
  subst e4
  exact ⟨ds, es, e1, e3, q⟩) he) ha
end
end Ab
end

section
set_option Elab.async false
set_option linter.all false
set_option maxRecDepth 100000
set_option maxHeartbeats 4000000
/-! Ab25: running the small language by hand: one equation a form. -/
namespace Ab
open PySem L2
section
variable {α β : Type} {cf : CallF} {wf : Nat} {Γ : Gam} {M M' : Mem}
@[simp] theorem bind_ok {a : α} {f : α → Mem → Rs β} : (Rs.ok a M).bind f = f a M := rfl
@[simp] theorem asB_bl {k : Bool} : asB (.ok (.bl k) M) = .ok k M := rfl
@[simp] theorem ofO_some {a : α} : ofO (some (a, M)) = .ok a M := rfl
@[simp] theorem at_ok {a : α} : (Rs.ok a M).at Γ = .ok a M := rfl
def varR : Option (Option Dat) → Mem → Rs Dat
  | some (some d), M => .ok d M
  | _, _ => .no
@[simp] theorem varR_ok {d : Dat} : varR (some (some d)) M = .ok d M := rfl
@[simp] theorem e_var {i : Nat} : evE cf (.var i) Γ M = varR Γ[i]? M := by
  show (match Γ[i]? with | some (some d) => Rs.ok d M | _ => .no) = _
  unfold varR
  cases Γ[i]? with
  | none => rfl
  | some o => cases o <;> rfl
@[simp] theorem e_dat {d : Dat} : evE cf (.dat d) Γ M = .ok d M := rfl
@[simp] theorem e_un {f : B1} {e : Ex} : evE cf (.un f e) Γ M = (evE cf e Γ M).bind fun d M => ofO (un1 f d M) := rfl
@[simp] theorem e_bin {f : B2} {a c : Ex} : evE cf (.bin f a c) Γ M = (evE cf a Γ M).bind fun d M => (evE cf c Γ M).bind fun e M => ofO (bin2 f d e M) := rfl
def mthR (f : M1) (d e : Dat) (M : Mem) : Rs Dat := ofO (mth1 f d e M)
@[simp] theorem e_mth {f : M1} {a c : Ex} : evE cf (.mth f a c) Γ M = (evE cf a Γ M).bind fun d M => if isCl M d then (evE cf c Γ M).bind fun e M => mthR f d e M else .no := rfl
def andR (cf : CallF) (c : Ex) (Γ : Gam) (k : Bool) (M : Mem) : Rs Dat := match k with
  | true => evE cf c Γ M
  | false => .ok (.bl false) M
def orR (cf : CallF) (c : Ex) (Γ : Gam) (k : Bool) (M : Mem) : Rs Dat := match k with
  | true => .ok (.bl true) M
  | false => evE cf c Γ M
def iteR (cf : CallF) (a e : Ex) (Γ : Gam) (k : Bool) (M : Mem) : Rs Dat := match k with
  | true => evE cf a Γ M
  | false => evE cf e Γ M
@[simp] theorem andR_t {c : Ex} : andR cf c Γ true M = evE cf c Γ M := rfl
@[simp] theorem andR_f {c : Ex} : andR cf c Γ false M = .ok (.bl false) M := rfl
@[simp] theorem orR_t {c : Ex} : orR cf c Γ true M = .ok (.bl true) M := rfl
@[simp] theorem orR_f {c : Ex} : orR cf c Γ false M = evE cf c Γ M := rfl
@[simp] theorem iteR_t {a e : Ex} : iteR cf a e Γ true M = evE cf a Γ M := rfl
@[simp] theorem iteR_f {a e : Ex} : iteR cf a e Γ false M = evE cf e Γ M := rfl
@[simp] theorem e_and {a c : Ex} : evE cf (.and a c) Γ M = (asB (evE cf a Γ M)).bind (andR cf c Γ) := rfl
@[simp] theorem e_or {a c : Ex} : evE cf (.or a c) Γ M = (asB (evE cf a Γ M)).bind (orR cf c Γ) := rfl
@[simp] theorem e_ite {c a e : Ex} : evE cf (.ite c a e) Γ M = (asB (evE cf c Γ M)).bind (iteR cf a e Γ) := rfl
def orLR (cf : CallF) (c : Ex) (Γ : Gam) (d : Dat) (M : Mem) : Option (List Dat) → Rs Dat
  | some [] => evE cf c Γ M
  | some (_ :: _) => .ok d M
  | none => .no
@[simp] theorem e_orL {a c : Ex} : evE cf (.orL a c) Γ M = (evE cf a Γ M).bind fun d M => orLR cf c Γ d M (rd M d) := by
  show ((evE cf a Γ M).bind fun d M => match rd M d with | some [] => evE cf c Γ M | some (_ :: _) => .ok d M | none => .no) = _
  congr 1
@[simp] theorem orLR_nil {c : Ex} {d : Dat} : orLR cf c Γ d M (some []) = evE cf c Γ M := rfl
@[simp] theorem orLR_cons {c : Ex} {d x : Dat} {xs : List Dat} : orLR cf c Γ d M (some (x :: xs)) = .ok d M := rfl
def okLen (f : List Dat → Rs Dat) (ds : List Dat) : Rs Dat := if ds.length ≤ sizeLine then f ds else .no
theorem okLen_ok {f : List Dat → Rs Dat} {ds : List Dat} (h : ds.length ≤ 1000) : okLen f ds = f ds := by
  unfold okLen
  rw [if_pos (by rw [sizeLine_eq]; omega)]
@[simp] theorem e_tup {es : Exs} : evE cf (.tup es) Γ M = (evA cf es Γ M).bind fun ds M => okLen (fun ds => .ok (.tup ds) M) ds := rfl
@[simp] theorem e_lst {es : Exs} : evE cf (.lst es) Γ M = (evA cf es Γ M).bind fun ds M => okLen (fun ds => .ok (.lst ds) M) ds := rfl
@[simp] theorem e_lstC {es : Exs} : evE cf (.lstC es) Γ M = (evA cf es Γ M).bind fun ds M => okLen (fun ds => .ok (.ptr M.length) (M ++ [.lst ds])) ds := rfl
@[simp] theorem okLen_0 {f : List Dat → Rs Dat} : okLen f [] = f [] := okLen_ok (by simp)
@[simp] theorem okLen_1 {f : List Dat → Rs Dat} {a : Dat} : okLen f [a] = f [a] := okLen_ok (by simp)
@[simp] theorem okLen_2 {f : List Dat → Rs Dat} {a b : Dat} : okLen f [a, b] = f [a, b] := okLen_ok (by simp)
@[simp] theorem okLen_3 {f : List Dat → Rs Dat} {a b c : Dat} : okLen f [a, b, c] = f [a, b, c] := okLen_ok (by simp)
@[simp] theorem okLen_4 {f : List Dat → Rs Dat} {a b c d : Dat} : okLen f [a, b, c, d] = f [a, b, c, d] := okLen_ok (by simp)
@[simp] theorem okLen_7 {f : List Dat → Rs Dat} {a b c d e g h : Dat} : okLen f [a, b, c, d, e, g, h] = f [a, b, c, d, e, g, h] := okLen_ok (by simp)
def ofX (x : Option Dat) (M : Mem) : Rs Dat := match x with
  | some x => .ok x M
  | none => .no
@[simp] theorem ofX_some {x : Dat} : ofX (some x) M = .ok x M := rfl
@[simp] theorem e_sl {a : Ex} {lo hi : Exo} : evE cf (.sl a lo hi) Γ M = (evE cf a Γ M).bind fun d M => (evO cf lo Γ M).bind fun l M => (evO cf hi Γ M).bind fun u M => ofX (cutX M d l u) M := rfl
@[simp] theorem o_none : evO cf .none Γ M = .ok none M := rfl
def oInt (d : Dat) (M : Mem) : Rs (Option Int) := match d with
  | .int i => .ok (some i) M
  | _ => .no
@[simp] theorem oInt_int {i : Int} : oInt (.int i) M = .ok (some i) M := rfl
@[simp] theorem o_some {e : Ex} : evO cf (.some e) Γ M = (evE cf e Γ M).bind oInt := by
  show ((evE cf e Γ M).bind fun d M => match d with | .int i => .ok (some i) M | _ => .no) = _
  congr 1
@[simp] theorem a_nil : evA cf .nil Γ M = .ok [] M := rfl
@[simp] theorem a_cons {e : Ex} {es : Exs} : evA cf (.cons e es) Γ M = (evE cf e Γ M).bind fun d M => (evA cf es Γ M).bind fun ds M => .ok (d :: ds) M := rfl
@[simp] theorem e_call {w : Cw} {j : Nat} {es : Exs} : evE cf (.call w j es) Γ M = (evA cf es Γ M).bind fun ds M => (callW cf w j ds M).at Γ := rfl
/-! comprehensions -/
def lcT (cf : CallF) (t : Tgt) (vs : List Nat) (cond e : Ex) (Γ : Gam) (d : Dat) (M : Mem) : Rs (Option Dat) := match putT t d (wipeG Γ vs) with
  | some Γ2 => (asB (evE cf cond Γ2 M)).bind fun k M => match k with
    | true => (evE cf e Γ2 M).bind fun y M => .ok (some y) M
    | false => .ok none M
  | none => .no
def lcR (cf : CallF) (g : Gd) (t : Tgt) (vs : List Nat) (cond e : Ex) (Γ : Gam) (ds acc : List Dat) (M : Mem) : Rs (List Dat) := lcGo g (lcT cf t vs cond e Γ) ds acc M
def lcE (c : Bool) (acc : List Dat) (M : Mem) : Rs Dat := if c then .ok (.ptr M.length) (M ++ [.lst acc]) else .ok (.lst acc) M
@[simp] theorem lcE_f {acc : List Dat} : lcE false acc M = .ok (.lst acc) M := rfl
@[simp] theorem lcE_t {acc : List Dat} : lcE true acc M = .ok (.ptr M.length) (M ++ [.lst acc]) := rfl
def lcI (cf : CallF) (c : Bool) (t : Tgt) (vs : List Nat) (cond e : Ex) (Γ : Gam) (x : List Dat × Gd) (M : Mem) : Rs Dat := if x.1.length ≤ sizeLine ∧ gdOk M x.2 = true then (lcR cf x.2 t vs cond e Γ x.1 [] M).bind (lcE c) else .no
@[simp] theorem e_lc {c : Bool} {t : Tgt} {vs : List Nat} {it : Ir} {cond e : Ex} : evE cf (.lc c t vs it cond e) Γ M = (evI cf it Γ M).bind (lcI cf c t vs cond e Γ) := rfl
theorem lcI_ok {c : Bool} {t : Tgt} {vs : List Nat} {cond e : Ex} {ds : List Dat} {g : Gd} (h : ds.length ≤ 1000) (hg : gdOk M g = true) : lcI cf c t vs cond e Γ (ds, g) M = (lcR cf g t vs cond e Γ ds [] M).bind (lcE c) := by
  unfold lcI
  rw [if_pos ⟨by show ds.length ≤ _; rw [sizeLine_eq]; omega, hg⟩]
@[simp] theorem lcR_nil {g : Gd} {t : Tgt} {vs : List Nat} {cond e : Ex} {acc : List Dat} : lcR cf g t vs cond e Γ [] acc M = .ok acc M := rfl
/-- a comprehension that keeps every item and leaves the memory -/
theorem lcR_map {g : Gd} {t : Tgt} {vs : List Nat} {e : Ex} {f : Dat → Dat} : ∀ {ds acc : List Dat} {M : Mem}, gdOk M g = true → (∀ d ∈ ds, ∃ Γ2, putT t d (wipeG Γ vs) = some Γ2 ∧ evE cf e Γ2 M = .ok (f d) M) →
    lcR cf g t vs (.dat (.bl true)) e Γ ds acc M = .ok (acc ++ ds.map f) M
  | [], acc, M, _, _ => by rw [lcR_nil, List.map_nil, List.append_nil]
  | d :: ds, acc, M, hg, h => by
    obtain ⟨Γ2, h1, h2⟩ := h d List.mem_cons_self
    have ih := lcR_map (acc := acc ++ [f d]) hg fun x hx => h x (List.mem_cons_of_mem _ hx)
    have hs : lcT cf t vs (.dat (.bl true)) e Γ d M = .ok (some (f d)) M := by
      unfold lcT
      rw [h1]
      show ((evE cf e Γ2 M).bind fun y M => Rs.ok (some y) M) = _
      rw [h2]
      rfl
    unfold lcR at ih ⊢
    unfold lcGo
    rw [hs]
    show (if gdOk M g = true then lcGo g _ ds (acc ++ [f d]) M else .no) = _
    rw [if_pos hg, ih, List.map_cons, List.append_assoc, List.singleton_append]
/-- .. with a test -/
theorem lcR_filter {g : Gd} {t : Tgt} {vs : List Nat} {c e : Ex} {p : Dat → Bool} {f : Dat → Dat} : ∀ {ds acc : List Dat} {M : Mem}, gdOk M g = true → (∀ d ∈ ds, ∃ Γ2, putT t d (wipeG Γ vs) = some Γ2 ∧ evE cf c Γ2 M = .ok (.bl (p d)) M ∧ evE cf e Γ2 M = .ok (f d) M) →
    lcR cf g t vs c e Γ ds acc M = .ok (acc ++ (ds.filter p).map f) M
  | [], acc, M, _, _ => by rw [lcR_nil, List.filter_nil, List.map_nil, List.append_nil]
  | d :: ds, acc, M, hg, h => by
    obtain ⟨Γ2, h1, h2, h3⟩ := h d List.mem_cons_self
    have ih := fun acc => lcR_filter (acc := acc) hg fun x hx => h x (List.mem_cons_of_mem _ hx)
    have hs : lcT cf t vs c e Γ d M = .ok (if p d then some (f d) else none) M := by
      unfold lcT
      rw [h1]
      show ((asB (evE cf c Γ2 M)).bind fun k M => match k with | true => (evE cf e Γ2 M).bind fun y M => Rs.ok (some y) M | false => .ok none M) = _
      rw [h2]
      show (match p d with | true => (evE cf e Γ2 M).bind fun y M => Rs.ok (some y) M | false => .ok none M) = _
      cases p d with
      | true => show ((evE cf e Γ2 M).bind fun y M => Rs.ok (some y) M) = _; rw [h3]; rfl
      | false => rfl
    unfold lcR at ih ⊢
    unfold lcGo
    rw [hs]
    cases hp : p d with
    | true =>
      show (if gdOk M g = true then lcGo g _ ds (acc ++ [f d]) M else .no) = _
      rw [if_pos hg, ih, List.filter_cons_of_pos hp, List.map_cons, List.append_assoc, List.singleton_append]
    | false =>
      show (if gdOk M g = true then lcGo g _ ds acc M else .no) = _
      rw [if_pos hg, ih, List.filter_cons_of_neg (by rw [hp]; exact Bool.false_ne_true)]
/-! walks -/
def ofRd (o : Option (List Dat)) (d : Dat) (M : Mem) : Rs (List Dat × Gd) := match o with
  | some ds => .ok (ds, [(d, ds)]) M
  | none => .no
@[simp] theorem ofRd_some {ds : List Dat} {d : Dat} : ofRd (some ds) d M = .ok (ds, [(d, ds)]) M := rfl
def anyR (d : Dat) (M : Mem) : Rs (List Dat × Gd) := match d with
  | .tup ds => .ok (ds, []) M
  | d => ofRd (rd M d) d M
@[simp] theorem anyR_tup {ds : List Dat} : anyR (.tup ds) M = .ok (ds, []) M := rfl
@[simp] theorem anyR_lst {ds : List Dat} : anyR (.lst ds) M = .ok (ds, [(.lst ds, ds)]) M := rfl
@[simp] theorem anyR_rol {ds : List Dat} : anyR (.rol ds) M = .ok (ds, [(.rol ds, ds)]) M := rfl
@[simp] theorem i_any {e : Ex} : evI cf (.any e) Γ M = (evE cf e Γ M).bind anyR := by
  show ((evE cf e Γ M).bind fun d M => match d with
    | .tup ds => Rs.ok (ds, ([] : Gd)) M
    | d => match rd M d with
      | some ds => .ok (ds, [(d, ds)]) M
      | none => .no) = _
  congr 1
def rng1R (d : Dat) (M : Mem) : Rs (List Dat × Gd) := match d with
  | .int n => if isR62 n then .ok ((List.range n.toNat).map fun i => .int (i : Nat), []) M else .no
  | _ => .no
@[simp] theorem i_rng1 {e : Ex} : evI cf (.rng1 e) Γ M = (evE cf e Γ M).bind rng1R := by
  show ((evE cf e Γ M).bind fun d M => match d with
    | .int n => if isR62 n then Rs.ok ((List.range n.toNat).map fun i => Dat.int (i : Nat), ([] : Gd)) M else .no
    | _ => .no) = _
  congr 1
theorem rng1R_ok {n : Nat} (h : n ≤ 1000000) : rng1R (.int n) M = .ok ((List.range n).map fun i => .int (i : Nat), []) M := by
  unfold rng1R
  have : isR62 (n : Int) = true := by
    unfold isR62
    simp
    omega
  simp only [this, if_true, Int.toNat_natCast]
def zipR (d d' : Dat) (M : Mem) : Rs (List Dat × Gd) := match d, d' with
  | .tup ds, .tup es => .ok (List.zipWith pairD ds es, []) M
  | d, d' => match rd M d, rd M d' with
    | some ds, some es => .ok (List.zipWith pairD ds es, [(d, ds), (d', es)]) M
    | _, _ => .no
@[simp] theorem zipR_tup {ds es : List Dat} : zipR (.tup ds) (.tup es) M = .ok (List.zipWith pairD ds es, []) M := rfl
@[simp] theorem zipR_lst {ds es : List Dat} : zipR (.lst ds) (.lst es) M = .ok (List.zipWith pairD ds es, [(.lst ds, ds), (.lst es, es)]) M := rfl
@[simp] theorem i_zip {e e' : Ex} : evI cf (.zip e e') Γ M = (evE cf e Γ M).bind fun d M => (evE cf e' Γ M).bind fun d' M => zipR d d' M := rfl
@[simp] theorem i_enum {e : Ex} : evI cf (.enum e) Γ M = (evE cf e Γ M).bind fun d M => match rd M d with
    | some ds => .ok (enumD ds, [(d, ds)]) M
    | none => .no := rfl
/-! statements -/
@[simp] theorem s_expr {e : Ex} : evS wf cf (.expr e) Γ M = (evE cf e Γ M).bind fun _ M => .ok (.nx Γ) M := rfl
@[simp] theorem s_set {i : Nat} {e : Ex} : evS wf cf (.set i e) Γ M = (evE cf e Γ M).bind fun d M => .ok (.nx (Γ.set i (some d))) M := rfl
@[simp] theorem s_par2 {i j : Nat} {e e' : Ex} : evS wf cf (.par2 i j e e') Γ M = (evE cf e Γ M).bind fun d M => (evE cf e' Γ M).bind fun d' M => .ok (.nx ((Γ.set i (some d)).set j (some d'))) M := rfl
@[simp] theorem s_asg {t : Tg} {e : Ex} : evS wf cf (.asg t e) Γ M = (evE cf e Γ M).bind fun d M => (evG cf t d Γ M).bind fun Γ M => .ok (.nx Γ) M := rfl
def ifR (wf : Nat) (cf : CallF) (s s' : Sms) (Γ : Gam) (k : Bool) (M : Mem) : Rs Fl := match k with
  | true => evSs wf cf s Γ M
  | false => evSs wf cf s' Γ M
@[simp] theorem ifR_t {s s' : Sms} : ifR wf cf s s' Γ true M = evSs wf cf s Γ M := rfl
@[simp] theorem ifR_f {s s' : Sms} : ifR wf cf s s' Γ false M = evSs wf cf s' Γ M := rfl
@[simp] theorem s_iff {c : Ex} {s s' : Sms} : evS wf cf (.iff c s s') Γ M = (asB (evE cf c Γ M)).bind (ifR wf cf s s' Γ) := rfl
def whR (wf : Nat) (cf : CallF) (c : Ex) (s : Sms) (n : Nat) (Γ : Gam) (M : Mem) : Rs Fl := whGo (fun Γ M => asB (evE cf c Γ M)) (evSs wf cf s) n Γ M
@[simp] theorem s_whil {c : Ex} {s : Sms} : evS wf cf (.whil c s) Γ M = whR wf cf c s wf Γ M := rfl
theorem wh_stop {c : Ex} {s : Sms} {n : Nat} (h : evE cf c Γ M = .ok (.bl false) M') : whR wf cf c s (n + 1) Γ M = .ok (.nx Γ) M' := by
  unfold whR whGo
  rw [h]
  rfl
theorem wh_go {c : Ex} {s : Sms} {n : Nat} {Γ2 : Gam} {M2 : Mem} (h : evE cf c Γ M = .ok (.bl true) M') (h2 : evSs wf cf s Γ M' = .ok (.nx Γ2) M2) : whR wf cf c s (n + 1) Γ M = whR wf cf c s n Γ2 M2 := by
  unfold whR
  rw [whGo]
  simp only [h, asB_bl, h2]
def forT (wf : Nat) (cf : CallF) (t : Tg) (s : Sms) (d : Dat) (Γ : Gam) (M : Mem) : Rs Fl := (evG cf t d Γ M).bind fun Γ M => evSs wf cf s Γ M
def forR (wf : Nat) (cf : CallF) (g : Gd) (t : Tg) (s : Sms) (ds : List Dat) (Γ : Gam) (M : Mem) : Rs Fl := forGo g (forT wf cf t s) ds Γ M
def forI (wf : Nat) (cf : CallF) (t : Tg) (s : Sms) (Γ : Gam) (x : List Dat × Gd) (M : Mem) : Rs Fl := if gdOk M x.2 then forR wf cf x.2 t s x.1 Γ M else .no
@[simp] theorem s_for {t : Tg} {it : Ir} {s : Sms} : evS wf cf (.forr t it s) Γ M = (evI cf it Γ M).bind (forI wf cf t s Γ) := rfl
theorem forI_ok {t : Tg} {s : Sms} {ds : List Dat} {g : Gd} (h : gdOk M g = true) : forI wf cf t s Γ (ds, g) M = forR wf cf g t s ds Γ M := by
  unfold forI
  rw [if_pos h]
@[simp] theorem for_nil {g : Gd} {t : Tg} {s : Sms} : forR wf cf g t s [] Γ M = .ok (.nx Γ) M := rfl
theorem for_go {g : Gd} {t : Tg} {s : Sms} {d : Dat} {ds : List Dat} {Γ1 Γ2 : Gam} {M1 M2 : Mem} (h1 : evG cf t d Γ M = .ok Γ1 M1) (h2 : evSs wf cf s Γ1 M1 = .ok (.nx Γ2) M2) (hg : gdOk M2 g = true) : forR wf cf g t s (d :: ds) Γ M = forR wf cf g t s ds Γ2 M2 := by
  unfold forR
  rw [forGo]
  have e : forT wf cf t s d Γ M = .ok (.nx Γ2) M2 := by
    unfold forT
    rw [h1]
    exact h2
  simp only [e, hg, if_true]
@[simp] theorem s_ret {e : Ex} : evS wf cf (.ret e) Γ M = (evE cf e Γ M).bind fun d M => .ok (.rt d) M := rfl
@[simp] theorem s_pass : evS wf cf .pass Γ M = .ok (.nx Γ) M := rfl
def nxR (wf : Nat) (cf : CallF) (ss : Sms) (f : Fl) (M : Mem) : Rs Fl := match f with
  | .nx Γ => evSs wf cf ss Γ M
  | f => .ok f M
@[simp] theorem nxR_nx {ss : Sms} : nxR wf cf ss (.nx Γ) M = evSs wf cf ss Γ M := rfl
@[simp] theorem nxR_rt {ss : Sms} {d : Dat} : nxR wf cf ss (.rt d) M = .ok (.rt d) M := rfl
@[simp] theorem ss_nil : evSs wf cf .nil Γ M = .ok (.nx Γ) M := rfl
@[simp] theorem ss_cons {s : Sm} {ss : Sms} : evSs wf cf (.cons s ss) Γ M = (evS wf cf s Γ M).bind (nxR wf cf ss) := by
  show ((evS wf cf s Γ M).bind fun f M => match f with | .nx Γ => evSs wf cf ss Γ M | f => .ok f M) = _
  congr 1
@[simp] theorem g_name {i : Nat} {d : Dat} : evG cf (.name i) d Γ M = .ok (Γ.set i (some d)) M := rfl
/-! operations -/
@[simp] theorem u_neg {i : Int} : un1 .neg (.int i) M = some (.int (-i), M) := rfl
@[simp] theorem u_not {k : Bool} : un1 .notB (.bl k) M = some (.bl (!k), M) := rfl
@[simp] theorem u_abs {i : Int} : un1 .abs (.int i) M = some (.int i.natAbs, M) := by
  show some (Dat.int (if i < 0 then -i else i), M) = _
  congr 3
  split <;> omega
@[simp] theorem u_int {i : Int} : un1 .int (.int i) M = some (.int i, M) := rfl
@[simp] theorem u_intb {k : Bool} : un1 .int (.bl k) M = some (.int (if k then 1 else 0), M) := rfl
@[simp] theorem u_len {d : Dat} : un1 .len d M = (lenD M d).map fun (n : Nat) => (.int n, M) := by cases d <;> rfl
@[simp] theorem len_tup {ds : List Dat} : lenD M (.tup ds) = some ds.length := rfl
@[simp] theorem len_lst {ds : List Dat} : lenD M (.lst ds) = some ds.length := rfl
@[simp] theorem len_rol {ds : List Dat} : lenD M (.rol ds) = some ds.length := rfl
@[simp] theorem u_list {d : Dat} : un1 .list d M = (sq M d).map fun ds => (.lst ds, M) := by cases d <;> rfl
@[simp] theorem u_listC {d : Dat} : un1 .listC d M = (sq M d).map fun ds => (.ptr M.length, M ++ [.lst ds]) := by cases d <;> rfl
@[simp] theorem u_tuple {d : Dat} : un1 .tuple d M = (sq M d).map fun ds => (.tup ds, M) := by cases d <;> rfl
@[simp] theorem sq_tup {ds : List Dat} : sq M (.tup ds) = some ds := rfl
@[simp] theorem sq_lst {ds : List Dat} : sq M (.lst ds) = some ds := rfl
@[simp] theorem sq_rol {ds : List Dat} : sq M (.rol ds) = some ds := rfl
@[simp] theorem rd_lst {ds : List Dat} : rd M (.lst ds) = some ds := rfl
@[simp] theorem rd_rol {ds : List Dat} : rd M (.rol ds) = some ds := rfl
@[simp] theorem rdL_lst {ds : List Dat} : rdL M (.lst ds) = some ds := rfl
@[simp] theorem u_srt {d : Dat} : un1 .srt d M = (sq M d).bind fun ds => (srtD ds).map fun es => (.lst es, M) := by cases d <;> rfl
@[simp] theorem u_isi {ts : List Ty} {d : Dat} : un1 (.isi ts) d M = (isiD M ts d).map fun k => (.bl k, M) := by cases d <;> rfl
theorem intsD_map : ∀ {ns : List Int}, intsD (ns.map .int) = some ns
  | [] => rfl
  | n :: ns => by
    rw [List.map_cons]
    unfold intsD
    rw [intsD_map]
    rfl
theorem boolsD_map : ∀ {ns : List Bool}, boolsD (ns.map .bl) = some ns
  | [] => rfl
  | n :: ns => by
    rw [List.map_cons]
    unfold boolsD
    rw [boolsD_map]
    rfl
@[simp] theorem u_sum {ns : List Int} : un1 .sum (.lst (ns.map .int)) M = some (.int ns.sum, M) := by
  show ((intsD (ns.map .int)).map fun ns => (Dat.int ns.sum, M)) = _
  rw [intsD_map]
  rfl
@[simp] theorem u_all {ns : List Bool} : un1 .all (.lst (ns.map .bl)) M = some (.bl (ns.all id), M) := by
  show ((boolsD (ns.map .bl)).map fun ns => (Dat.bl (ns.all id), M)) = _
  rw [boolsD_map]
  rfl
@[simp] theorem b_add {i j : Int} : bin2 (.op .Add) (.int i) (.int j) M = some (.int (i + j), M) := rfl
@[simp] theorem b_sub {i j : Int} : bin2 (.op .Sub) (.int i) (.int j) M = some (.int (i - j), M) := rfl
theorem b_mul {i j : Int} (h : mulOk i j = true) : bin2 (.op .Mult) (.int i) (.int j) M = some (.int (i * j), M) := by
  show (if mulOk i j = true then some (Dat.int (i * j)) else none).map _ = _
  rw [if_pos h]
  rfl
theorem b_div {i j : Int} (h0 : 0 < j) (h : divOk j = true) : bin2 (.op .FloorDiv) (.int i) (.int j) M = some (.int (i / j), M) := by
  show (if divOk j = true then (if 0 < j then some (Dat.int (i / j)) else if j ≠ 0 then some (Dat.int (i.fdiv j)) else none) else none).map _ = _
  rw [if_pos h, if_pos h0]
  rfl
theorem b_mod {i j : Int} (h : 0 < j) : bin2 (.op .Mod) (.int i) (.int j) M = some (.int (i % j), M) := by
  show (if 0 < j then some (Dat.int (i % j)) else if j ≠ 0 then some (Dat.int (i.fmod j)) else none).map _ = _
  rw [if_pos h]
  rfl
@[simp] theorem b_lt {i j : Int} : bin2 (.cmp .Lt) (.int i) (.int j) M = some (.bl (decide (i < j)), M) := rfl
@[simp] theorem b_le {i j : Int} : bin2 (.cmp .LtE) (.int i) (.int j) M = some (.bl (decide (i ≤ j)), M) := rfl
@[simp] theorem b_gt {i j : Int} : bin2 (.cmp .Gt) (.int i) (.int j) M = some (.bl (decide (j < i)), M) := rfl
@[simp] theorem b_ge {i j : Int} : bin2 (.cmp .GtE) (.int i) (.int j) M = some (.bl (decide (j ≤ i)), M) := rfl
@[simp] theorem b_eq {i j : Int} : bin2 (.cmp .Eq) (.int i) (.int j) M = some (.bl (decide (i = j)), M) := rfl
@[simp] theorem b_ne {i j : Int} : bin2 (.cmp .NotEq) (.int i) (.int j) M = some (.bl (!decide (i = j)), M) := rfl
@[simp] theorem b_eqv {d e : Dat} : bin2 .eqv d e M = (eqvD M d e).map fun k => (.bl k, M) := by cases d <;> cases e <;> rfl
@[simp] theorem b_neqv {d e : Dat} : bin2 .neqv d e M = (eqvD M d e).map fun k => (.bl (!k), M) := by cases d <;> cases e <;> rfl
@[simp] theorem b_ix {d e : Dat} : bin2 .ix d e M = (itemD M d e).map fun x => (x, M) := by cases d <;> cases e <;> rfl
@[simp] theorem b_catL {xs ys : List Dat} (h : xs.length + ys.length ≤ 1000) : bin2 .catL (.lst xs) (.lst ys) M = some (.lst (xs ++ ys), M) := by
  show (if xs.length + ys.length ≤ sizeLine then some (Dat.lst (xs ++ ys), M) else none) = _
  rw [if_pos (by rw [sizeLine_eq]; omega)]
@[simp] theorem it_t0 {a : Dat} {as : List Dat} : itemD M (.tup (a :: as)) (.int 0) = some a := by
  unfold itemD
  simp [sq, atI, ixN]
@[simp] theorem it_t1 {a b : Dat} {as : List Dat} : itemD M (.tup (a :: b :: as)) (.int 1) = some b := by
  show (atI (a :: b :: as) 1) = some b
  have h : ixN (a :: b :: as).length 1 = some 1 := by
    unfold ixN
    rw [if_pos (by decide), if_pos (by simp only [List.length_cons]; omega)]
    rfl
  unfold atI
  rw [h]
  rfl
@[simp] theorem map_some' {γ : Type} {x : α} {f : α → γ} : (some x).map f = some (f x) := rfl
/-! calls -/
/-- a call that leaves the memory -/
def Fz (cf : CallF) (j : Nat) (ds : List Dat) (d : Dat) : Prop := ∀ M, callW cf .fz j ds M = .ok d M
theorem Fz.of {j : Nat} {ds : List Dat} {d : Dat} {M1 : Mem} (hn : Dat.nps ds = true) (h : cf j ds [] = .ok d M1) (hd : d.np = true) : Fz cf j ds d := fun M => by
  show callN backF (cf j) ds M = _
  unfold callN
  rw [if_pos hn, h]
  cases d <;> first | rfl | (show (if Dat.np _ = true then _ else _) = _; rw [if_pos hd]) | cases hd
theorem Fz.ofL {j k : Nat} {ds xs : List Dat} {M1 : Mem} (hn : Dat.nps ds = true) (h : cf j ds [] = .ok (.ptr k) M1) (hM : M1[k]? = some (.lst xs)) (hx : Dat.nps xs = true) : Fz cf j ds (.lst xs) := fun M => by
  show callN backF (cf j) ds M = _
  unfold callN
  rw [if_pos hn, h]
  show (match M1[k]? with | some (.lst ds) => if Dat.nps ds then Rs.ok (Dat.lst ds) M else .no | _ => .no) = _
  rw [hM]
  show (if Dat.nps xs then Rs.ok (Dat.lst xs) M else .no) = _
  rw [if_pos hx]
theorem run_of {T : List Df} {k j : Nat} {f : Df} {ds : List Dat} {d : Dat} (hT : T[j]? = some f) (hl : ds.length = f.pars) (h : evSs wf (runF wf T k) f.body (ds.map some ++ List.replicate (f.slots - ds.length) none) M = .ok (.rt d) M') : runF wf T (k + 1) j ds M = .ok d M' := by
  show (match T[j]? with | some f => if ds.length = f.pars then callD wf (runF wf T k) f ds M else .no | none => .no) = _
  rw [hT]
  show (if ds.length = f.pars then callD wf (runF wf T k) f ds M else .no) = _
  rw [if_pos hl]
  unfold callD
  rw [h]
  rfl
end
end Ab
end

section
set_option Elab.async false
set_option linter.all false
set_option maxRecDepth 100000
set_option maxHeartbeats 4000000
namespace Ab
open PySem
abbrev L : List (Str × List Str) := [(("is_number" : Str), ([("thing" : Str)] : List Str)), (("is_long" : Str), ([("thing" : Str), ("length" : Str)] : List Str)), (("are_numbers" : Str), ([("thing" : Str)] : List Str)), (("tupled" : Str), ([("value" : Str)] : List Str)), (("common" : Str), ([("one" : Str), ("other" : Str)] : List Str)), (("cut_down" : Str), ([("over_it" : Str), ("under" : Str)] : List Str)), (("is_fraction" : Str), ([("thing" : Str)] : List Str)), (("taken" : Str), ([("one" : Str), ("other" : Str)] : List Str)), (("is_levels_in" : Str), ([("thing" : Str)] : List Str)), (("sure_levels" : Str), ([("value" : Str)] : List Str)), (("least_in" : Str), ([("levels" : Str)] : List Str)), (("lengths_in" : Str), ([("levels" : Str)] : List Str)), (("rank_in" : Str), ([("levels" : Str)] : List Str)), (("is_levels" : Str), ([("thing" : Str)] : List Str)), (("levels_least" : Str), ([("levels" : Str)] : List Str)), (("levels_ends" : Str), ([("levels" : Str)] : List Str)), (("levels_rank" : Str), ([("levels" : Str)] : List Str)), (("lots_at" : Str), ([("levels" : Str), ("number" : Str)] : List Str)), (("lots_up_to" : Str), ([("levels" : Str), ("number" : Str)] : List Str)), (("_law_box" : Str), ([("script" : Str), ("k" : Str)] : List Str)), (("_law_take" : Str), ([("tin" : Str), ("below_so" : Str)] : List Str)), (("_law_cells" : Str), ([("script" : Str), ("most_so" : Str)] : List Str)), (("_law_lists" : Str), ([("matter" : Str)] : List Str)), (("_law_same" : Str), ([("got" : Str), ("due" : Str)] : List Str)), (("_law_common" : Str), ([("one_so" : Str), ("two" : Str)] : List Str)), (("_law_cut" : Str), ([("over_so" : Str), ("under_so" : Str)] : List Str)), (("_law_plus" : Str), ([("one_so" : Str), ("two" : Str)] : List Str)), (("_law_flat" : Str), ([("rows_so" : Str)] : List Str)), (("_law_less" : Str), ([("one_so" : Str), ("two" : Str)] : List Str)), (("_law_in_order" : Str), ([("rows_so" : Str)] : List Str)), (("_law_drawn" : Str), ([("tin" : Str), ("height_so" : Str), ("depth_so" : Str)] : List Str)), (("_law_ends" : Str), ([("levels_so" : Str)] : List Str)), (("_law_lots" : Str), ([("levels_so" : Str), ("number_so" : Str)] : List Str)), (("law" : Str), ([("script" : Str)] : List Str))]
abbrev N_is_number : List Str := ["thing"]
def ir_is_number : Sms := (.cons (.ret (.and (.un (.isi [.int]) (.var 0)) (.un .notB (.un (.isi [.bool]) (.var 0)))))
  .nil)
abbrev N_is_long : List Str := ["thing", "length"]
def ir_is_long : Sms := (.cons (.ret (.and (.un (.isi [.tuple]) (.var 0)) (.bin (.cmp .Eq) (.un .len (.var 0)) (.var 1))))
  .nil)
abbrev N_are_numbers : List Str := ["thing", "own"]
def ir_are_numbers : Sms := (.cons (.ret (.and (.un (.isi [.tuple]) (.var 0)) (.un .all (.lc false (.one 1) [1] (.any (.var 0)) (.dat (.bl true)) (.call .fz 0 (.cons (.var 1) .nil))))))
  .nil)
abbrev N_tupled : List Str := ["value", "own"]
def ir_tupled : Sms := (.cons (.ret (.ite (.un (.isi [.list, .tuple]) (.var 0)) (.un .tuple (.lc false (.one 1) [1] (.any (.var 0)) (.dat (.bl true)) (.call .fz 3 (.cons (.var 1) .nil)))) (.var 0)))
  .nil)
abbrev N_common : List Str := ["one", "other"]
def ir_common : Sms := (.cons (.par2 0 1 (.un .abs (.var 0)) (.un .abs (.var 1)))
  (.cons (.whil (.bin (.cmp .NotEq) (.var 1) (.dat (.int 0))) (.cons (.par2 0 1 (.var 1) (.bin (.op .Mod) (.var 0) (.var 1)))
  .nil))
  (.cons (.ret (.var 0))
  .nil)))
abbrev N_cut_down : List Str := ["over_it", "under", "shared"]
def ir_cut_down : Sms := (.cons (.set 2 (.call .fz 4 (.cons (.var 0) (.cons (.var 1) .nil))))
  (.cons (.set 2 (.ite (.bin (.cmp .Gt) (.var 1) (.dat (.int 0))) (.var 2) (.un .neg (.var 2))))
  (.cons (.ret (.tup (.cons (.bin (.op .FloorDiv) (.var 0) (.var 2)) (.cons (.bin (.op .FloorDiv) (.var 1) (.var 2)) .nil))))
  .nil)))
abbrev N_is_fraction : List Str := ["thing"]
def ir_is_fraction : Sms := (.cons (.ret (.and (.call .fz 1 (.cons (.var 0) (.cons (.dat (.int 2)) .nil))) (.and (.call .fz 2 (.cons (.var 0) .nil)) (.and (.bin (.cmp .Gt) (.bin .ix (.var 0) (.dat (.int 1))) (.dat (.int 0))) (.bin (.cmp .Eq) (.call .fz 4 (.cons (.bin .ix (.var 0) (.dat (.int 0))) (.cons (.bin .ix (.var 0) (.dat (.int 1))) .nil))) (.dat (.int 1)))))))
  .nil)
abbrev N_taken : List Str := ["one", "other"]
def ir_taken : Sms := (.cons (.ret (.call .fz 5 (.cons (.bin (.op .Sub) (.bin (.op .Mult) (.bin .ix (.var 0) (.dat (.int 0))) (.bin .ix (.var 1) (.dat (.int 1)))) (.bin (.op .Mult) (.bin .ix (.var 1) (.dat (.int 0))) (.bin .ix (.var 0) (.dat (.int 1))))) (.cons (.bin (.op .Mult) (.bin .ix (.var 0) (.dat (.int 1))) (.bin .ix (.var 1) (.dat (.int 1)))) .nil))))
  .nil)
abbrev N_is_levels_in : List Str := ["thing", "gaps", "own", "gap"]
def ir_is_levels_in : Sms := (.cons (.iff (.or (.un .notB (.call .fz 1 (.cons (.var 0) (.cons (.dat (.int 2)) .nil)))) (.or (.un .notB (.call .fz 6 (.cons (.bin .ix (.var 0) (.dat (.int 0))) .nil))) (.or (.un .notB (.un (.isi [.tuple]) (.bin .ix (.var 0) (.dat (.int 1))))) (.bin (.cmp .Eq) (.un .len (.bin .ix (.var 0) (.dat (.int 1)))) (.dat (.int 1)))))) (.cons (.ret (.dat (.bl false)))
  .nil) .nil)
  (.cons (.iff (.or (.un .notB (.un .all (.lc false (.one 2) [2] (.any (.bin .ix (.var 0) (.dat (.int 1)))) (.dat (.bl true)) (.call .fz 8 (.cons (.var 2) .nil))))) (.bin .neqv (.un .list (.bin .ix (.var 0) (.dat (.int 1)))) (.un .srt (.bin .ix (.var 0) (.dat (.int 1)))))) (.cons (.ret (.dat (.bl false)))
  .nil) .nil)
  (.cons (.set 1 (.lc false (.one 2) [2] (.any (.bin .ix (.var 0) (.dat (.int 1)))) (.dat (.bl true)) (.call .fz 7 (.cons (.bin .ix (.var 0) (.dat (.int 0))) (.cons (.bin .ix (.var 2) (.dat (.int 0))) .nil)))))
  (.cons (.ret (.un .all (.lc false (.one 3) [3] (.any (.var 1)) (.dat (.bl true)) (.and (.bin (.cmp .Eq) (.bin .ix (.var 3) (.dat (.int 1))) (.dat (.int 1))) (.bin (.cmp .Gt) (.bin .ix (.var 3) (.dat (.int 0))) (.dat (.int 0)))))))
  .nil))))
abbrev N_sure_levels : List Str := ["value", "own"]
def ir_sure_levels : Sms := (.cons (.set 1 (.call .fz 3 (.cons (.var 0) .nil)))
  (.cons (.iff (.un .notB (.call .fz 8 (.cons (.var 1) .nil))) (.cons .stuck
  .nil) .nil)
  (.cons (.ret (.var 1))
  .nil)))
abbrev N_least_in : List Str := ["levels", "found", "own", "its"]
def ir_least_in : Sms := (.cons (.set 1 (.bin .ix (.var 0) (.dat (.int 0))))
  (.cons (.forr (.name 2) (.any (.bin .ix (.var 0) (.dat (.int 1)))) (.cons (.set 3 (.call .fz 10 (.cons (.var 2) .nil)))
  (.cons (.iff (.bin (.cmp .Lt) (.bin .ix (.call .fz 7 (.cons (.var 3) (.cons (.var 1) .nil))) (.dat (.int 0))) (.dat (.int 0))) (.cons (.set 1 (.var 3))
  .nil) .nil)
  .nil)))
  (.cons (.ret (.var 1))
  .nil)))
abbrev N_lengths_in : List Str := ["levels", "own"]
def ir_lengths_in : Sms := (.cons (.ret (.un .sum (.lc false (.one 1) [1] (.any (.bin .ix (.var 0) (.dat (.int 1)))) (.dat (.bl true)) (.bin (.op .Add) (.bin .ix (.call .fz 7 (.cons (.bin .ix (.var 0) (.dat (.int 0))) (.cons (.bin .ix (.var 1) (.dat (.int 0))) .nil))) (.dat (.int 0))) (.call .fz 11 (.cons (.var 1) .nil))))))
  .nil)
abbrev N_rank_in : List Str := ["levels"]
def ir_rank_in : Sms := (.cons (.ret (.bin (.op .Sub) (.call .fz 11 (.cons (.var 0) .nil)) (.bin .ix (.call .fz 7 (.cons (.bin .ix (.var 0) (.dat (.int 0))) (.cons (.call .fz 10 (.cons (.var 0) .nil)) .nil))) (.dat (.int 0)))))
  .nil)
abbrev N_is_levels : List Str := ["thing"]
def ir_is_levels : Sms := (.cons (.ret (.call .fz 8 (.cons (.var 0) .nil)))
  .nil)
abbrev N_levels_least : List Str := ["levels"]
def ir_levels_least : Sms := (.cons (.ret (.call .fz 10 (.cons (.call .fz 9 (.cons (.var 0) .nil)) .nil)))
  .nil)
abbrev N_levels_ends : List Str := ["levels", "own", "rows", "found", "its"]
def ir_levels_ends : Sms := (.cons (.set 1 (.call .fz 9 (.cons (.var 0) .nil)))
  (.cons (.par2 2 3 (.lstC (.cons (.var 1) .nil)) (.dat (.int 0)))
  (.cons (.whil (.bin .neqv (.var 2) (.lst .nil)) (.cons (.set 4 (.un .pop (.var 2)))
  (.cons (.expr (.mth .extend (.var 2) (.bin .ix (.var 4) (.dat (.int 1)))))
  (.cons (.aug 3 false (.un .int (.bin .eqv (.bin .ix (.var 4) (.dat (.int 1))) (.tup .nil))))
  .nil))))
  (.cons (.ret (.var 3))
  .nil))))
abbrev N_levels_rank : List Str := ["levels"]
def ir_levels_rank : Sms := (.cons (.ret (.call .fz 12 (.cons (.call .fz 9 (.cons (.var 0) .nil)) .nil)))
  .nil)
abbrev N_lots_at : List Str := ["levels", "number", "own", "told"]
def ir_lots_at : Sms := (.cons (.par2 2 3 (.call .fz 9 (.cons (.var 0) .nil)) (.call .fz 3 (.cons (.var 1) .nil)))
  (.cons (.iff (.un .notB (.call .fz 6 (.cons (.var 3) .nil))) (.cons .stuck
  .nil) .nil)
  (.cons (.ret (.call .fz 18 (.cons (.var 2) (.cons (.var 3) .nil))))
  .nil)))
abbrev N_lots_up_to : List Str := ["levels", "number", "own"]
def ir_lots_up_to : Sms := (.cons (.iff (.bin (.cmp .LtE) (.bin .ix (.call .fz 7 (.cons (.bin .ix (.var 0) (.dat (.int 0))) (.cons (.var 1) .nil))) (.dat (.int 0))) (.dat (.int 0))) (.cons (.ret (.dat (.int 1)))
  .nil) .nil)
  (.cons (.ret (.un .sum (.lc false (.one 2) [2] (.any (.bin .ix (.var 0) (.dat (.int 1)))) (.dat (.bl true)) (.call .fz 18 (.cons (.var 2) (.cons (.var 1) .nil))))))
  .nil))
abbrev N__law_box : List Str := ["script", "k", "bit_so"]
def ir__law_box : Sms := (.cons (.set 2 (.ite (.bin (.cmp .Lt) (.var 1) (.un .len (.var 0))) (.bin .ix (.var 0) (.var 1)) (.dat (.int 0))))
  (.cons (.ret (.lstC (.cons (.bin (.op .Mult) (.un .abs (.var 2)) (.un .int (.bin (.cmp .GtE) (.un .abs (.var 2)) (.bin (.op .Pow) (.dat (.int 10)) (.dat (.int 18)))))) (.cons (.bin (.op .Add) (.bin (.op .Add) (.bin (.op .Mod) (.un .int (.var 2)) (.dat (.int 2305843009213693951))) (.bin (.op .Mult) (.dat (.int 39373)) (.var 1))) (.dat (.int 248220))) (.cons (.dat (.int 0)) .nil)))))
  .nil))
abbrev N__law_take : List Str := ["tin", "below_so", "drawn_so", "once_so", "wide_so", "twice_so"]
def ir__law_take : Sms := (.cons (.iff (.bin (.cmp .Gt) (.bin .ix (.var 0) (.dat (.int 0))) (.dat (.int 0))) (.cons (.set 2 (.bin (.op .Mod) (.un .int (.bin .ix (.var 0) (.dat (.int 0)))) (.var 1)))
  (.cons (.asg (.sub (.var 0) (.dat (.int 0))) (.bin (.op .FloorDiv) (.bin .ix (.var 0) (.dat (.int 0))) (.var 1)))
  (.cons (.ret (.var 2))
  .nil))) .nil)
  (.cons (.asg (.sub (.var 0) (.dat (.int 2))) (.bin (.op .Add) (.bin .ix (.var 0) (.dat (.int 2))) (.dat (.int 1))))
  (.cons (.set 3 (.bin (.op .Mod) (.un .int (.bin (.op .Mult) (.bin (.op .Add) (.bin .ix (.var 0) (.dat (.int 1))) (.bin (.op .Mult) (.dat (.int 48271)) (.bin .ix (.var 0) (.dat (.int 2))))) (.bin (.op .Add) (.dat (.int 39373)) (.bin .ix (.var 0) (.dat (.int 2)))))) (.dat (.int 2147483647))))
  (.cons (.set 4 (.bin (.op .Add) (.bin (.op .Mod) (.un .int (.var 3)) (.dat (.int 40009))) (.dat (.int 7))))
  (.cons (.set 5 (.bin (.op .Mod) (.un .int (.bin (.op .Mult) (.bin (.op .Add) (.bin (.op .Add) (.var 3) (.bin .ix (.var 0) (.dat (.int 2)))) (.bin (.op .FloorDiv) (.bin .ix (.var 0) (.dat (.int 1))) (.dat (.int 1000003)))) (.var 4))) (.dat (.int 2147483629))))
  (.cons (.ret (.bin (.op .Mod) (.un .int (.bin (.op .FloorDiv) (.bin (.op .Mod) (.un .int (.bin (.op .Add) (.bin (.op .Mult) (.var 5) (.dat (.int 48271))) (.var 3))) (.dat (.int 2147483587))) (.dat (.int 64)))) (.var 1)))
  .nil))))))
abbrev N__law_cells : List Str := ["script", "most_so", "cells_so", "k", "bit_so", "at_so"]
def ir__law_cells : Sms := (.cons (.set 2 (.orL (.un .listC (.sl (.var 0) .none (.some (.var 1)))) (.lstC (.cons (.dat (.int 0)) .nil))))
  (.cons (.forr (.tup (.cons (.name 3) (.cons (.name 4) .nil))) (.enum (.sl (.var 0) (.some (.var 1)) (.some (.dat (.int 63))))) (.cons (.set 5 (.bin (.op .Mod) (.un .int (.var 3)) (.var 1)))
  (.cons (.asg (.sub (.var 2) (.var 5)) (.bin (.op .Add) (.bin .ix (.var 2) (.var 5)) (.bin (.op .Mult) (.var 4) (.bin (.op .Add) (.var 3) (.dat (.int 2))))))
  .nil)))
  (.cons (.ret (.var 2))
  .nil)))
abbrev N__law_lists : List Str := ["matter", "bit"]
def ir__law_lists : Sms := (.cons (.ret (.ite (.un (.isi [.list, .tuple]) (.var 0)) (.lc true (.one 1) [1] (.any (.var 0)) (.dat (.bl true)) (.call .fz 22 (.cons (.var 1) .nil))) (.var 0)))
  .nil)
abbrev N__law_same : List Str := ["got", "due", "mine", "its"]
def ir__law_same : Sms := (.cons (.iff (.un (.isi [.list, .tuple]) (.var 1)) (.cons (.iff (.or (.bin .neqv (.un (.isi [.list]) (.var 0)) (.un (.isi [.list]) (.var 1))) (.bin .neqv (.un (.isi [.tuple]) (.var 0)) (.un (.isi [.tuple]) (.var 1)))) (.cons (.ret (.dat (.bl false)))
  .nil) .nil)
  (.cons (.ret (.and (.bin (.cmp .Eq) (.un .len (.var 0)) (.un .len (.var 1))) (.un .all (.lc false (.tup [2, 3]) [2, 3] (.zip (.var 0) (.var 1)) (.dat (.bl true)) (.call .fz 23 (.cons (.var 2) (.cons (.var 3) .nil)))))))
  .nil)) .nil)
  (.cons (.iff (.un .isN (.var 1)) (.cons (.ret (.un .isN (.var 0)))
  .nil) .nil)
  (.cons (.iff (.un (.isi [.bool, .str]) (.var 1)) (.cons (.ret (.and (.bin .eqv (.un (.isi [.bool]) (.var 0)) (.un (.isi [.bool]) (.var 1))) (.and (.bin .eqv (.un (.isi [.str]) (.var 0)) (.un (.isi [.str]) (.var 1))) (.bin .eqv (.var 0) (.var 1)))))
  .nil) .nil)
  (.cons (.ret (.and (.un (.isi [.int]) (.var 0)) (.and (.un .notB (.un (.isi [.bool]) (.var 0))) (.bin .eqv (.var 0) (.var 1)))))
  .nil))))
abbrev N__law_common : List Str := ["one_so", "two", "near", "far"]
def ir__law_common : Sms := (.cons (.par2 2 3 (.un .abs (.var 0)) (.un .abs (.var 1)))
  (.cons (.whil (.bin (.cmp .NotEq) (.var 3) (.dat (.int 0))) (.cons (.par2 2 3 (.var 3) (.bin (.op .Mod) (.var 2) (.var 3)))
  .nil))
  (.cons (.ret (.var 2))
  .nil)))
abbrev N__law_cut : List Str := ["over_so", "under_so", "both_so"]
def ir__law_cut : Sms := (.cons (.set 2 (.call .fz 24 (.cons (.var 0) (.cons (.var 1) .nil))))
  (.cons (.set 2 (.ite (.bin (.cmp .Gt) (.var 1) (.dat (.int 0))) (.var 2) (.bin (.op .Sub) (.dat (.int 0)) (.var 2))))
  (.cons (.ret (.tup (.cons (.bin (.op .FloorDiv) (.var 0) (.var 2)) (.cons (.bin (.op .FloorDiv) (.var 1) (.var 2)) .nil))))
  .nil)))
abbrev N__law_plus : List Str := ["one_so", "two"]
def ir__law_plus : Sms := (.cons (.ret (.call .fz 25 (.cons (.bin (.op .Add) (.bin (.op .Mult) (.bin .ix (.var 0) (.dat (.int 0))) (.bin .ix (.var 1) (.dat (.int 1)))) (.bin (.op .Mult) (.bin .ix (.var 1) (.dat (.int 0))) (.bin .ix (.var 0) (.dat (.int 1))))) (.cons (.bin (.op .Mult) (.bin .ix (.var 0) (.dat (.int 1))) (.bin .ix (.var 1) (.dat (.int 1)))) .nil))))
  .nil)
abbrev N__law_flat : List Str := ["rows_so", "found", "own"]
def ir__law_flat : Sms := (.cons (.set 1 (.lstC .nil))
  (.cons (.forr (.name 2) (.any (.var 0)) (.cons (.expr (.mth .extend (.var 1) (.var 2)))
  .nil))
  (.cons (.ret (.var 1))
  .nil)))
abbrev N__law_less : List Str := ["one_so", "two"]
def ir__law_less : Sms := (.cons (.ret (.bin (.cmp .Lt) (.bin (.op .Mult) (.bin .ix (.var 0) (.dat (.int 0))) (.bin .ix (.var 1) (.dat (.int 1)))) (.bin (.op .Mult) (.bin .ix (.var 1) (.dat (.int 0))) (.bin .ix (.var 0) (.dat (.int 1))))))
  .nil)
abbrev N__law_in_order : List Str := ["rows_so", "found", "own", "its"]
def ir__law_in_order : Sms := (.cons (.set 1 (.lst .nil))
  (.cons (.forr (.name 2) (.any (.var 0)) (.cons (.set 1 (.bin .catL (.bin .catL (.lc false (.one 3) [3] (.any (.var 1)) (.un .notB (.call .fz 28 (.cons (.var 2) (.cons (.var 3) .nil)))) (.var 3)) (.lst (.cons (.var 2) .nil))) (.lc false (.one 3) [3] (.any (.var 1)) (.call .fz 28 (.cons (.var 2) (.cons (.var 3) .nil))) (.var 3))))
  .nil))
  (.cons (.ret (.un .tuple (.var 1)))
  .nil)))
abbrev N__law_drawn : List Str := ["tin", "height_so", "depth_so", "rows_so", "k"]
def ir__law_drawn : Sms := (.cons (.iff (.or (.bin (.cmp .Eq) (.var 2) (.dat (.int 0))) (.bin (.cmp .Eq) (.call .hp 20 (.cons (.var 0) (.cons (.dat (.int 3)) .nil))) (.dat (.int 0)))) (.cons (.ret (.tup (.cons (.var 1) (.cons (.tup .nil) .nil))))
  .nil) .nil)
  (.cons (.set 3 (.lc false (.one 4) [4] (.rng1 (.bin (.op .Add) (.dat (.int 2)) (.call .hp 20 (.cons (.var 0) (.cons (.dat (.int 2)) .nil))))) (.dat (.bl true)) (.call .hp 30 (.cons (.var 0) (.cons (.call .fz 26 (.cons (.var 1) (.cons (.tup (.cons (.bin (.op .Sub) (.bin (.op .Sub) (.dat (.int 0)) (.dat (.int 1))) (.call .hp 20 (.cons (.var 0) (.cons (.dat (.int 3)) .nil)))) (.cons (.dat (.int 1)) .nil))) .nil))) (.cons (.bin (.op .Sub) (.var 2) (.dat (.int 1))) .nil))))))
  (.cons (.ret (.tup (.cons (.var 1) (.cons (.un .tuple (.un .srt (.var 3))) .nil))))
  .nil)))
abbrev N__law_ends : List Str := ["levels_so", "own"]
def ir__law_ends : Sms := (.cons (.ret (.ite (.bin .eqv (.bin .ix (.var 0) (.dat (.int 1))) (.tup .nil)) (.lstC (.cons (.bin .ix (.var 0) (.dat (.int 0))) .nil)) (.call .cl 27 (.cons (.lc false (.one 1) [1] (.any (.bin .ix (.var 0) (.dat (.int 1)))) (.dat (.bl true)) (.call .fz 31 (.cons (.var 1) .nil))) .nil))))
  .nil)
abbrev N__law_lots : List Str := ["levels_so", "number_so", "own"]
def ir__law_lots : Sms := (.cons (.iff (.un .notB (.call .fz 28 (.cons (.var 1) (.cons (.bin .ix (.var 0) (.dat (.int 0))) .nil)))) (.cons (.ret (.dat (.int 1)))
  .nil) .nil)
  (.cons (.ret (.un .sum (.lc false (.one 2) [2] (.any (.bin .ix (.var 0) (.dat (.int 1)))) (.dat (.bl true)) (.call .fz 32 (.cons (.var 2) (.cons (.var 1) .nil))))))
  .nil))
abbrev N_law : List Str := ["script", "tin", "lap", "top_so", "own", "ends_so", "least_so", "steps_so", "rank_so", "got", "turn", "number_so", "low_so", "things_so", "twins_so", "k", "its"]
def ir_law : Sms := (.cons (.set 1 (.call .cl 19 (.cons (.call .fz 21 (.cons (.var 0) (.cons (.dat (.int 1)) .nil))) (.cons (.dat (.int 0)) .nil))))
  (.cons (.forr (.name 2) (.rng1 (.dat (.int 6))) (.cons (.set 3 (.call .fz 25 (.cons (.bin (.op .Sub) (.call .hp 20 (.cons (.var 1) (.cons (.dat (.int 21)) .nil))) (.dat (.int 10))) (.cons (.bin (.op .Add) (.dat (.int 1)) (.call .hp 20 (.cons (.var 1) (.cons (.dat (.int 8)) .nil)))) .nil))))
  (.cons (.set 4 (.call .hp 30 (.cons (.var 1) (.cons (.var 3) (.cons (.dat (.int 4)) .nil)))))
  (.cons (.set 5 (.call .fz 29 (.cons (.call .fz 31 (.cons (.var 4) .nil)) .nil)))
  (.cons (.set 6 (.bin .ix (.var 5) (.dat (.int 0))))
  (.cons (.set 7 (.bin (.op .FloorDiv) (.bin (.op .Sub) (.bin (.op .Mult) (.bin .ix (.var 3) (.dat (.int 0))) (.bin .ix (.var 6) (.dat (.int 1)))) (.bin (.op .Mult) (.bin .ix (.var 6) (.dat (.int 0))) (.bin .ix (.var 3) (.dat (.int 1))))) (.bin (.op .Mult) (.bin .ix (.var 3) (.dat (.int 1))) (.bin .ix (.var 6) (.dat (.int 1))))))
  (.cons (.set 8 (.un .sum (.lc false (.one 15) [15] (.rng1 (.bin (.op .Add) (.var 7) (.dat (.int 1)))) (.dat (.bl true)) (.bin (.op .Sub) (.call .fz 32 (.cons (.var 4) (.cons (.call .fz 26 (.cons (.var 6) (.cons (.tup (.cons (.var 15) (.cons (.dat (.int 1)) .nil))) .nil))) .nil))) (.dat (.int 1))))))
  (.cons (.set 9 (.lst (.cons (.call .fz 13 (.cons (.var 4) .nil)) (.cons (.call .fz 14 (.cons (.call .fz 22 (.cons (.var 4) .nil)) .nil)) (.cons (.call .fz 15 (.cons (.var 4) .nil)) (.cons (.call .fz 16 (.cons (.call .fz 22 (.cons (.var 4) .nil)) .nil)) .nil))))))
  (.cons (.iff (.un .notB (.call .fz 23 (.cons (.var 9) (.cons (.lst (.cons (.dat (.bl true)) (.cons (.var 6) (.cons (.un .len (.var 5)) (.cons (.var 8) .nil))))) .nil)))) (.cons (.ret (.dat (.bl false)))
  .nil) .nil)
  (.cons (.forr (.name 10) (.rng1 (.dat (.int 4))) (.cons (.set 11 (.call .fz 26 (.cons (.var 3) (.cons (.call .fz 25 (.cons (.bin (.op .Sub) (.call .hp 20 (.cons (.var 1) (.cons (.dat (.int 17)) .nil))) (.dat (.int 13))) (.cons (.bin (.op .Add) (.dat (.int 1)) (.call .hp 20 (.cons (.var 1) (.cons (.dat (.int 2)) .nil)))) .nil))) .nil))))
  (.cons (.iff (.un .notB (.call .fz 23 (.cons (.lst (.cons (.call .fz 17 (.cons (.var 4) (.cons (.un .list (.var 11)) .nil))) (.cons (.call .fz 17 (.cons (.call .fz 22 (.cons (.var 4) .nil)) (.cons (.var 11) .nil))) .nil))) (.cons (.bin .repL (.lst (.cons (.call .fz 32 (.cons (.var 4) (.cons (.var 11) .nil))) .nil)) (.dat (.int 2))) .nil)))) (.cons (.ret (.dat (.bl false)))
  .nil) .nil)
  .nil)))
  (.cons (.set 12 (.call .fz 26 (.cons (.var 3) (.cons (.tup (.cons (.un .neg (.dat (.int 1))) (.cons (.dat (.int 1)) .nil))) .nil))))
  (.cons (.set 13 (.lst (.cons (.tup (.cons (.var 3) (.cons (.tup (.cons (.tup (.cons (.var 12) (.cons (.tup .nil) .nil))) .nil)) .nil))) (.cons (.tup (.cons (.var 3) (.cons (.tup (.cons (.tup (.cons (.var 3) (.cons (.tup .nil) .nil))) (.cons (.tup (.cons (.var 12) (.cons (.tup .nil) .nil))) .nil))) .nil))) (.cons (.tup (.cons (.var 3) (.cons (.tup (.cons (.tup (.cons (.var 12) (.cons (.tup .nil) .nil))) (.cons (.tup (.cons (.call .fz 26 (.cons (.var 3) (.cons (.tup (.cons (.un .neg (.dat (.int 1))) (.cons (.dat (.int 2)) .nil))) .nil))) (.cons (.tup .nil) .nil))) .nil))) .nil))) .nil)))))
  (.cons (.set 13 (.bin .catL (.var 13) (.lst (.cons (.un .list (.var 4)) (.cons (.tup (.cons (.un .list (.var 3)) (.cons (.tup .nil) .nil))) (.cons (.tup (.cons (.var 3) (.cons (.lst .nil) .nil))) (.cons (.tup (.cons (.var 3) .nil)) (.cons (.dat .non) (.cons (.dat (.int 0)) (.cons (.tup (.cons (.var 3) (.cons (.tup (.cons (.tup (.cons (.var 12) (.cons (.tup .nil) .nil))) (.cons (.tup (.cons (.call .fz 26 (.cons (.var 12) (.cons (.tup (.cons (.un .neg (.dat (.int 1))) (.cons (.dat (.int 1)) .nil))) .nil))) (.cons (.tup .nil) .nil))) .nil))) .nil))) .nil))))))))))
  (.cons (.set 13 (.bin .catL (.var 13) (.lst (.cons (.tup (.cons (.bin .ix (.var 3) (.dat (.int 0))) (.cons (.tup .nil) .nil))) (.cons (.tup (.cons (.tup (.cons (.dat (.int 2)) (.cons (.dat (.int 4)) .nil))) (.cons (.tup .nil) .nil))) (.cons (.tup (.cons (.tup (.cons (.dat (.int 1)) (.cons (.un .neg (.dat (.int 2))) .nil))) (.cons (.tup .nil) .nil))) (.cons (.tup (.cons (.tup (.cons (.dat (.bl true)) (.cons (.dat (.int 1)) .nil))) (.cons (.tup .nil) .nil))) .nil)))))))
  (.cons (.iff (.un .notB (.call .fz 23 (.cons (.lc false (.one 16) [16] (.any (.var 13)) (.dat (.bl true)) (.call .fz 13 (.cons (.var 16) .nil))) (.cons (.bin .repL (.lst (.cons (.dat (.bl false)) .nil)) (.dat (.int 14))) .nil)))) (.cons (.ret (.dat (.bl false)))
  .nil) .nil)
  (.cons (.set 14 (.tup (.cons (.var 3) (.cons (.tup (.cons (.tup (.cons (.var 12) (.cons (.tup .nil) .nil))) (.cons (.tup (.cons (.var 12) (.cons (.tup .nil) .nil))) .nil))) .nil))))
  (.cons (.iff (.un .notB (.call .fz 23 (.cons (.lst (.cons (.call .fz 13 (.cons (.var 14) .nil)) (.cons (.call .fz 16 (.cons (.var 14) .nil)) (.cons (.call .fz 15 (.cons (.var 14) .nil)) .nil)))) (.cons (.lst (.cons (.dat (.bl true)) (.cons (.dat (.int 1)) (.cons (.dat (.int 2)) .nil)))) .nil)))) (.cons (.ret (.dat (.bl false)))
  .nil) .nil)
  .nil)))))))))))))))))
  (.cons (.ret (.call .fz 23 (.cons (.lst (.cons (.call .fz 16 (.cons (.tup (.cons (.tup (.cons (.dat (.int 0)) (.cons (.dat (.int 1)) .nil))) (.cons (.tup .nil) .nil))) .nil)) (.cons (.call .fz 17 (.cons (.tup (.cons (.tup (.cons (.dat (.int 0)) (.cons (.dat (.int 1)) .nil))) (.cons (.tup .nil) .nil))) (.cons (.tup (.cons (.un .neg (.dat (.int 1))) (.cons (.dat (.int 2)) .nil))) .nil))) (.cons (.call .fz 14 (.cons (.tup (.cons (.tup (.cons (.dat (.int 1)) (.cons (.dat (.int 1)) .nil))) (.cons (.tup (.cons (.tup (.cons (.tup (.cons (.un .neg (.dat (.int 2))) (.cons (.dat (.int 1)) .nil))) (.cons (.tup .nil) .nil))) (.cons (.tup (.cons (.tup (.cons (.dat (.int 0)) (.cons (.dat (.int 1)) .nil))) (.cons (.tup .nil) .nil))) .nil))) .nil))) .nil)) .nil)))) (.cons (.lst (.cons (.dat (.int 0)) (.cons (.dat (.int 0)) (.cons (.tup (.cons (.un .neg (.dat (.int 2))) (.cons (.dat (.int 1)) .nil))) .nil)))) .nil))))
  .nil)))
def T : List Df := [⟨1, 1, ir_is_number⟩, ⟨2, 2, ir_is_long⟩, ⟨2, 1, ir_are_numbers⟩, ⟨2, 1, ir_tupled⟩, ⟨2, 2, ir_common⟩, ⟨3, 2, ir_cut_down⟩, ⟨1, 1, ir_is_fraction⟩, ⟨2, 2, ir_taken⟩, ⟨4, 1, ir_is_levels_in⟩, ⟨2, 1, ir_sure_levels⟩, ⟨4, 1, ir_least_in⟩, ⟨2, 1, ir_lengths_in⟩, ⟨1, 1, ir_rank_in⟩, ⟨1, 1, ir_is_levels⟩, ⟨1, 1, ir_levels_least⟩, ⟨5, 1, ir_levels_ends⟩, ⟨1, 1, ir_levels_rank⟩, ⟨4, 2, ir_lots_at⟩, ⟨3, 2, ir_lots_up_to⟩, ⟨3, 2, ir__law_box⟩, ⟨6, 2, ir__law_take⟩, ⟨6, 2, ir__law_cells⟩, ⟨2, 1, ir__law_lists⟩, ⟨4, 2, ir__law_same⟩, ⟨4, 2, ir__law_common⟩, ⟨3, 2, ir__law_cut⟩, ⟨2, 2, ir__law_plus⟩, ⟨3, 1, ir__law_flat⟩, ⟨2, 2, ir__law_less⟩, ⟨4, 1, ir__law_in_order⟩, ⟨5, 3, ir__law_drawn⟩, ⟨2, 1, ir__law_ends⟩, ⟨3, 2, ir__law_lots⟩, ⟨17, 1, ir_law⟩]
end Ab
end

section
set_option Elab.async false
set_option linter.all false
set_option maxRecDepth 100000
set_option maxHeartbeats 4000000
namespace Ab
open PySem PySem.Spec PyProof.Rows L2
def top (i : Nat) : Stmt := PySem.Challenge.pw_plumbtrees_k67_whole_levels_by_themselve.main.body.getD i (.Pass ⟨0, 0, 0, 0⟩)
structure Txt (mg : Str → Option Value) : Prop where
  b_abs : mg "abs" = none
  b_all : mg "all" = none
  b_bool : mg "bool" = none
  b_enumerate : mg "enumerate" = none
  b_int : mg "int" = none
  b_isinstance : mg "isinstance" = none
  b_len : mg "len" = none
  b_list : mg "list" = none
  b_range : mg "range" = none
  b_sorted : mg "sorted" = none
  b_str : mg "str" = none
  b_sum : mg "sum" = none
  b_tuple : mg "tuple" = none
  b_zip : mg "zip" = none
theorem nd_is_number : N_is_number.Nodup := by decide +kernel
theorem sc_is_number : FnScope N_is_number ["thing"] (defScope (top 3)) := ⟨rfl, rfl, rfl, by decide +kernel, rfl, by decide +kernel, by decide +kernel⟩
theorem nd_is_long : N_is_long.Nodup := by decide +kernel
theorem sc_is_long : FnScope N_is_long ["thing", "length"] (defScope (top 4)) := ⟨rfl, rfl, rfl, by decide +kernel, rfl, by decide +kernel, by decide +kernel⟩
theorem nd_are_numbers : N_are_numbers.Nodup := by decide +kernel
theorem sc_are_numbers : FnScope N_are_numbers ["thing"] (defScope (top 5)) := ⟨rfl, rfl, rfl, by decide +kernel, rfl, by decide +kernel, by decide +kernel⟩
theorem nd_tupled : N_tupled.Nodup := by decide +kernel
theorem sc_tupled : FnScope N_tupled ["value"] (defScope (top 6)) := ⟨rfl, rfl, rfl, by decide +kernel, rfl, by decide +kernel, by decide +kernel⟩
theorem nd_common : N_common.Nodup := by decide +kernel
theorem sc_common : FnScope N_common ["one", "other"] (defScope (top 7)) := ⟨rfl, rfl, rfl, by decide +kernel, rfl, by decide +kernel, by decide +kernel⟩
theorem nd_cut_down : N_cut_down.Nodup := by decide +kernel
theorem sc_cut_down : FnScope N_cut_down ["over_it", "under"] (defScope (top 8)) := ⟨rfl, rfl, rfl, by decide +kernel, rfl, by decide +kernel, by decide +kernel⟩
theorem nd_is_fraction : N_is_fraction.Nodup := by decide +kernel
theorem sc_is_fraction : FnScope N_is_fraction ["thing"] (defScope (top 9)) := ⟨rfl, rfl, rfl, by decide +kernel, rfl, by decide +kernel, by decide +kernel⟩
theorem nd_taken : N_taken.Nodup := by decide +kernel
theorem sc_taken : FnScope N_taken ["one", "other"] (defScope (top 10)) := ⟨rfl, rfl, rfl, by decide +kernel, rfl, by decide +kernel, by decide +kernel⟩
theorem nd_is_levels_in : N_is_levels_in.Nodup := by decide +kernel
theorem sc_is_levels_in : FnScope N_is_levels_in ["thing"] (defScope (top 12)) := ⟨rfl, rfl, rfl, by decide +kernel, rfl, by decide +kernel, by decide +kernel⟩
theorem nd_sure_levels : N_sure_levels.Nodup := by decide +kernel
theorem sc_sure_levels : FnScope N_sure_levels ["value"] (defScope (top 13)) := ⟨rfl, rfl, rfl, by decide +kernel, rfl, by decide +kernel, by decide +kernel⟩
theorem nd_least_in : N_least_in.Nodup := by decide +kernel
theorem sc_least_in : FnScope N_least_in ["levels"] (defScope (top 14)) := ⟨rfl, rfl, rfl, by decide +kernel, rfl, by decide +kernel, by decide +kernel⟩
theorem nd_lengths_in : N_lengths_in.Nodup := by decide +kernel
theorem sc_lengths_in : FnScope N_lengths_in ["levels"] (defScope (top 15)) := ⟨rfl, rfl, rfl, by decide +kernel, rfl, by decide +kernel, by decide +kernel⟩
theorem nd_rank_in : N_rank_in.Nodup := by decide +kernel
theorem sc_rank_in : FnScope N_rank_in ["levels"] (defScope (top 16)) := ⟨rfl, rfl, rfl, by decide +kernel, rfl, by decide +kernel, by decide +kernel⟩
theorem nd_is_levels : N_is_levels.Nodup := by decide +kernel
theorem sc_is_levels : FnScope N_is_levels ["thing"] (defScope (top 17)) := ⟨rfl, rfl, rfl, by decide +kernel, rfl, by decide +kernel, by decide +kernel⟩
theorem nd_levels_least : N_levels_least.Nodup := by decide +kernel
theorem sc_levels_least : FnScope N_levels_least ["levels"] (defScope (top 18)) := ⟨rfl, rfl, rfl, by decide +kernel, rfl, by decide +kernel, by decide +kernel⟩
theorem nd_levels_ends : N_levels_ends.Nodup := by decide +kernel
theorem sc_levels_ends : FnScope N_levels_ends ["levels"] (defScope (top 19)) := ⟨rfl, rfl, rfl, by decide +kernel, rfl, by decide +kernel, by decide +kernel⟩
theorem nd_levels_rank : N_levels_rank.Nodup := by decide +kernel
theorem sc_levels_rank : FnScope N_levels_rank ["levels"] (defScope (top 20)) := ⟨rfl, rfl, rfl, by decide +kernel, rfl, by decide +kernel, by decide +kernel⟩
theorem nd_lots_at : N_lots_at.Nodup := by decide +kernel
theorem sc_lots_at : FnScope N_lots_at ["levels", "number"] (defScope (top 21)) := ⟨rfl, rfl, rfl, by decide +kernel, rfl, by decide +kernel, by decide +kernel⟩
theorem nd_lots_up_to : N_lots_up_to.Nodup := by decide +kernel
theorem sc_lots_up_to : FnScope N_lots_up_to ["levels", "number"] (defScope (top 22)) := ⟨rfl, rfl, rfl, by decide +kernel, rfl, by decide +kernel, by decide +kernel⟩
theorem nd__law_box : N__law_box.Nodup := by decide +kernel
theorem sc__law_box : FnScope N__law_box ["script", "k"] (defScope (top 24)) := ⟨rfl, rfl, rfl, by decide +kernel, rfl, by decide +kernel, by decide +kernel⟩
theorem nd__law_take : N__law_take.Nodup := by decide +kernel
theorem sc__law_take : FnScope N__law_take ["tin", "below_so"] (defScope (top 25)) := ⟨rfl, rfl, rfl, by decide +kernel, rfl, by decide +kernel, by decide +kernel⟩
theorem nd__law_cells : N__law_cells.Nodup := by decide +kernel
theorem sc__law_cells : FnScope N__law_cells ["script", "most_so"] (defScope (top 26)) := ⟨rfl, rfl, rfl, by decide +kernel, rfl, by decide +kernel, by decide +kernel⟩
theorem nd__law_lists : N__law_lists.Nodup := by decide +kernel
theorem sc__law_lists : FnScope N__law_lists ["matter"] (defScope (top 27)) := ⟨rfl, rfl, rfl, by decide +kernel, rfl, by decide +kernel, by decide +kernel⟩
theorem nd__law_same : N__law_same.Nodup := by decide +kernel
theorem sc__law_same : FnScope N__law_same ["got", "due"] (defScope (top 28)) := ⟨rfl, rfl, rfl, by decide +kernel, rfl, by decide +kernel, by decide +kernel⟩
theorem nd__law_common : N__law_common.Nodup := by decide +kernel
theorem sc__law_common : FnScope N__law_common ["one_so", "two"] (defScope (top 29)) := ⟨rfl, rfl, rfl, by decide +kernel, rfl, by decide +kernel, by decide +kernel⟩
theorem nd__law_cut : N__law_cut.Nodup := by decide +kernel
theorem sc__law_cut : FnScope N__law_cut ["over_so", "under_so"] (defScope (top 30)) := ⟨rfl, rfl, rfl, by decide +kernel, rfl, by decide +kernel, by decide +kernel⟩
theorem nd__law_plus : N__law_plus.Nodup := by decide +kernel
theorem sc__law_plus : FnScope N__law_plus ["one_so", "two"] (defScope (top 31)) := ⟨rfl, rfl, rfl, by decide +kernel, rfl, by decide +kernel, by decide +kernel⟩
theorem nd__law_flat : N__law_flat.Nodup := by decide +kernel
theorem sc__law_flat : FnScope N__law_flat ["rows_so"] (defScope (top 32)) := ⟨rfl, rfl, rfl, by decide +kernel, rfl, by decide +kernel, by decide +kernel⟩
theorem nd__law_less : N__law_less.Nodup := by decide +kernel
theorem sc__law_less : FnScope N__law_less ["one_so", "two"] (defScope (top 33)) := ⟨rfl, rfl, rfl, by decide +kernel, rfl, by decide +kernel, by decide +kernel⟩
theorem nd__law_in_order : N__law_in_order.Nodup := by decide +kernel
theorem sc__law_in_order : FnScope N__law_in_order ["rows_so"] (defScope (top 34)) := ⟨rfl, rfl, rfl, by decide +kernel, rfl, by decide +kernel, by decide +kernel⟩
theorem nd__law_drawn : N__law_drawn.Nodup := by decide +kernel
theorem sc__law_drawn : FnScope N__law_drawn ["tin", "height_so", "depth_so"] (defScope (top 35)) := ⟨rfl, rfl, rfl, by decide +kernel, rfl, by decide +kernel, by decide +kernel⟩
theorem nd__law_ends : N__law_ends.Nodup := by decide +kernel
theorem sc__law_ends : FnScope N__law_ends ["levels_so"] (defScope (top 36)) := ⟨rfl, rfl, rfl, by decide +kernel, rfl, by decide +kernel, by decide +kernel⟩
theorem nd__law_lots : N__law_lots.Nodup := by decide +kernel
theorem sc__law_lots : FnScope N__law_lots ["levels_so", "number_so"] (defScope (top 37)) := ⟨rfl, rfl, rfl, by decide +kernel, rfl, by decide +kernel, by decide +kernel⟩
theorem nd_law : N_law.Nodup := by decide +kernel
theorem sc_law : FnScope N_law ["script"] (defScope (top 38)) := ⟨rfl, rfl, rfl, by decide +kernel, rfl, by decide +kernel, by decide +kernel⟩
section
variable {P : Program} {w : World} {K : PySem.W.Frag} {mg : Str → Option Value} {base : Heap} {wf : Nat}
theorem b_is_number (T : Txt mg) : BodyOk P w K mg base wf L "is_number" (top 3) ["thing"] ⟨1, 1, ir_is_number⟩ := ⟨N_is_number, sc_is_number, rfl, fun cf k hF f cdv A outer s H E hr => have hu := hr.units
  have hu2 := hu66 hr
  (SSs.cons (SS.ret (SE.and (SE.isi .int rfl T.b_isinstance rfl T.b_int (SE.var 0 rfl (.inl rfl))) (SE.one (SE.notB (SE.isi .bool rfl T.b_isinstance rfl T.b_bool (SE.var 0 rfl (.inl rfl)))))))
  SSs.nil)⟩
theorem b_is_long (T : Txt mg) : BodyOk P w K mg base wf L "is_long" (top 4) ["thing", "length"] ⟨2, 2, ir_is_long⟩ := ⟨N_is_long, sc_is_long, rfl, fun cf k hF f cdv A outer s H E hr => have hu := hr.units
  have hu2 := hu66 hr
  (SSs.cons (SS.ret (SE.and (SE.isi .tuple rfl T.b_isinstance rfl T.b_tuple (SE.var 0 rfl (.inl rfl))) (SE.one (SE.cmp (SE.len rfl T.b_len (SE.var 0 rfl (.inl rfl))) (SE.var 1 rfl (.inl rfl))))))
  SSs.nil)⟩
theorem b_are_numbers (T : Txt mg) : BodyOk P w K mg base wf L "are_numbers" (top 5) ["thing"] ⟨2, 1, ir_are_numbers⟩ := ⟨N_are_numbers, sc_are_numbers, rfl, fun cf k hF f cdv A outer s H E hr => have hu := hr.units
  have hu2 := hu66 hr
  (SSs.cons (SS.ret (SE.and (SE.isi .tuple rfl T.b_isinstance rfl T.b_tuple (SE.var 0 rfl (.inl rfl))) (SE.one (SE.all rfl rfl T.b_all (SE.lc (t := (.one 1)) (own := [("own", 1)]) rfl nd_are_numbers (blk_of rfl) (fun _ _ _ _ _ => (pg_name nd_are_numbers (i := 1) rfl (.inl rfl))) rfl (by decide) (SI.any (SE.var 0 rfl (.inl rfl))) rfl (fun _ _ _ _ _ => (SE.call (hF 0 "is_number" ["thing"] rfl) hr rfl (SA.cons (SE.var 1 rfl (.inl rfl)) SA.nil))))))))
  SSs.nil)⟩
theorem b_tupled (T : Txt mg) : BodyOk P w K mg base wf L "tupled" (top 6) ["value"] ⟨2, 1, ir_tupled⟩ := ⟨N_tupled, sc_tupled, rfl, fun cf k hF f cdv A outer s H E hr => have hu := hr.units
  have hu2 := hu66 hr
  (SSs.cons (SS.ret (SE.ite (ST.val (SE.isi2 .list .tuple rfl T.b_isinstance rfl T.b_list rfl T.b_tuple (SE.var 0 rfl (.inl rfl)))) (SE.tuple rfl T.b_tuple (SE.lc (t := (.one 1)) (own := [("own", 1)]) rfl nd_tupled (blk_of rfl) (fun _ _ _ _ _ => (pg_name nd_tupled (i := 1) rfl (.inl rfl))) rfl (by decide) (SI.any (SE.var 0 rfl (.inl rfl))) rfl (fun _ _ _ _ _ => (SE.call (hF 3 "tupled" ["value"] rfl) hr rfl (SA.cons (SE.var 1 rfl (.inl rfl)) SA.nil))))) (SE.var 0 rfl (.inl rfl))))
  SSs.nil)⟩
theorem b_common (T : Txt mg) : BodyOk P w K mg base wf L "common" (top 7) ["one", "other"] ⟨2, 2, ir_common⟩ := ⟨N_common, sc_common, rfl, fun cf k hF f cdv A outer s H E hr => have hu := hr.units
  have hu2 := hu66 hr
  (SSs.cons (SS.par2 0 1 rfl nd_common rfl rfl (by decide) rfl rfl (SE.abs rfl T.b_abs (SE.var 0 rfl (.inl rfl))) (SE.abs rfl T.b_abs (SE.var 1 rfl (.inl rfl))))
  (SSs.cons (SS.whil (passes_of rfl) (ST.cmp (SE.var 1 rfl (.inl rfl)) SE.int) (SSs.cons (SS.par2 0 1 rfl nd_common rfl rfl (by decide) rfl rfl (SE.var 1 rfl (.inl rfl)) (SE.bin (SE.var 0 rfl (.inl rfl)) (SE.var 1 rfl (.inl rfl))))
  SSs.nil))
  (SSs.cons (SS.ret (SE.var 0 rfl (.inl rfl)))
  SSs.nil)))⟩
theorem b_cut_down (T : Txt mg) : BodyOk P w K mg base wf L "cut_down" (top 8) ["over_it", "under"] ⟨3, 2, ir_cut_down⟩ := ⟨N_cut_down, sc_cut_down, rfl, fun cf k hF f cdv A outer s H E hr => have hu := hr.units
  have hu2 := hu66 hr
  (SSs.cons (SS.set 2 nd_cut_down rfl (.inl rfl) (SE.call (hF 4 "common" ["one", "other"] rfl) hr rfl (SA.cons (SE.var 0 rfl (.inl rfl)) (SA.cons (SE.var 1 rfl (.inl rfl)) SA.nil))))
  (SSs.cons (SS.set 2 nd_cut_down rfl (.inl rfl) (SE.ite (ST.cmp (SE.var 1 rfl (.inl rfl)) SE.int) (SE.var 2 rfl (.inl rfl)) (SE.neg (SE.var 2 rfl (.inl rfl)))))
  (SSs.cons (SS.ret (SE.tup (SA.cons (SE.bin (SE.var 0 rfl (.inl rfl)) (SE.var 2 rfl (.inl rfl))) (SA.cons (SE.bin (SE.var 1 rfl (.inl rfl)) (SE.var 2 rfl (.inl rfl))) SA.nil))))
  SSs.nil)))⟩
theorem b_is_fraction (T : Txt mg) : BodyOk P w K mg base wf L "is_fraction" (top 9) ["thing"] ⟨1, 1, ir_is_fraction⟩ := ⟨N_is_fraction, sc_is_fraction, rfl, fun cf k hF f cdv A outer s H E hr => have hu := hr.units
  have hu2 := hu66 hr
  (SSs.cons (SS.ret (SE.and (SE.call (hF 1 "is_long" ["thing", "length"] rfl) hr rfl (SA.cons (SE.var 0 rfl (.inl rfl)) (SA.cons SE.int SA.nil))) (SE.and (SE.call (hF 2 "are_numbers" ["thing"] rfl) hr rfl (SA.cons (SE.var 0 rfl (.inl rfl)) SA.nil)) (SE.and (SE.cmp (SE.ix (SE.var 0 rfl (.inl rfl)) SE.int) SE.int) (SE.one (SE.cmp (SE.call (hF 4 "common" ["one", "other"] rfl) hr rfl (SA.cons (SE.ix (SE.var 0 rfl (.inl rfl)) SE.int) (SA.cons (SE.ix (SE.var 0 rfl (.inl rfl)) SE.int) SA.nil))) SE.int))))))
  SSs.nil)⟩
theorem b_taken (T : Txt mg) : BodyOk P w K mg base wf L "taken" (top 10) ["one", "other"] ⟨2, 2, ir_taken⟩ := ⟨N_taken, sc_taken, rfl, fun cf k hF f cdv A outer s H E hr => have hu := hr.units
  have hu2 := hu66 hr
  (SSs.cons (SS.ret (SE.call (hF 5 "cut_down" ["over_it", "under"] rfl) hr rfl (SA.cons (SE.bin (SE.bin (SE.ix (SE.var 0 rfl (.inl rfl)) SE.int) (SE.ix (SE.var 1 rfl (.inl rfl)) SE.int)) (SE.bin (SE.ix (SE.var 1 rfl (.inl rfl)) SE.int) (SE.ix (SE.var 0 rfl (.inl rfl)) SE.int))) (SA.cons (SE.bin (SE.ix (SE.var 0 rfl (.inl rfl)) SE.int) (SE.ix (SE.var 1 rfl (.inl rfl)) SE.int)) SA.nil))))
  SSs.nil)⟩
theorem b_is_levels_in (T : Txt mg) : BodyOk P w K mg base wf L "is_levels_in" (top 12) ["thing"] ⟨4, 1, ir_is_levels_in⟩ := ⟨N_is_levels_in, sc_is_levels_in, rfl, fun cf k hF f cdv A outer s H E hr => have hu := hr.units
  have hu2 := hu66 hr
  (SSs.cons (SS.iff (ST.sw (SW.or (ST.notB (ST.val (SE.call (hF 1 "is_long" ["thing", "length"] rfl) hr rfl (SA.cons (SE.var 0 rfl (.inr (.inl rfl))) (SA.cons SE.int SA.nil))))) (SW.or (ST.notB (ST.val (SE.call (hF 6 "is_fraction" ["thing"] rfl) hr rfl (SA.cons (SE.ix (SE.var 0 rfl (.inr (.inl rfl))) SE.int) SA.nil)))) (SW.or (ST.notB (ST.val (SE.isi .tuple rfl T.b_isinstance rfl T.b_tuple (SE.ix (SE.var 0 rfl (.inr (.inl rfl))) SE.int)))) (SW.or1 (ST.cmp (SE.len rfl T.b_len (SE.ix (SE.var 0 rfl (.inr (.inl rfl))) SE.int)) SE.int)))))) (SSs.cons (SS.ret SE.bl)
  SSs.nil) SSs.nil)
  (SSs.cons (SS.iff (ST.sw (SW.or (ST.notB (ST.val (SE.all rfl rfl T.b_all (SE.lc (t := (.one 2)) (own := [("own", 2)]) rfl nd_is_levels_in (blk_of rfl) (fun _ _ _ _ _ => (pg_name nd_is_levels_in (i := 2) rfl (.inl rfl))) rfl (by decide) (SI.any (SE.ix (SE.var 0 rfl (.inr (.inl rfl))) SE.int)) rfl (fun _ _ _ _ _ => (SE.call (hF 8 "is_levels_in" ["thing"] rfl) hr rfl (SA.cons (SE.var 2 rfl (.inl rfl)) SA.nil))))))) (SW.or1 (ST.neqv hu (SE.list rfl T.b_list (SE.ix (SE.var 0 rfl (.inr (.inl rfl))) SE.int)) (SE.srt hu2 rfl T.b_sorted (SE.ix (SE.var 0 rfl (.inr (.inl rfl))) SE.int)))))) (SSs.cons (SS.ret SE.bl)
  SSs.nil) SSs.nil)
  (SSs.cons (by first | exact SS.setLc 1 (.one 2) (own := [("own", 2)]) rfl nd_is_levels_in rfl rfl (blk_of rfl) (fun _ _ _ _ _ => (pg_name nd_is_levels_in (i := 2) rfl (.inl rfl))) rfl (by decide) (SI.any (SE.ix (SE.var 0 rfl (.inr (.inl rfl))) SE.int)) rfl (fun _ _ _ _ _ => (SE.call (hF 7 "taken" ["one", "other"] rfl) hr rfl (SA.cons (SE.ix (SE.var 0 rfl (.inr (.inl rfl))) SE.int) (SA.cons (SE.ix (SE.var 2 rfl (.inl rfl)) SE.int) SA.nil)))) | exact SS.set 1 nd_is_levels_in rfl (.inl rfl) (SE.lc (t := (.one 2)) (own := [("own", 2)]) rfl nd_is_levels_in (blk_of rfl) (fun _ _ _ _ _ => (pg_name nd_is_levels_in (i := 2) rfl (.inl rfl))) rfl (by decide) (SI.any (SE.ix (SE.var 0 rfl (.inr (.inl rfl))) SE.int)) rfl (fun _ _ _ _ _ => (SE.call (hF 7 "taken" ["one", "other"] rfl) hr rfl (SA.cons (SE.ix (SE.var 0 rfl (.inr (.inl rfl))) SE.int) (SA.cons (SE.ix (SE.var 2 rfl (.inl rfl)) SE.int) SA.nil))))))
  (SSs.cons (SS.ret (SE.all rfl rfl T.b_all (SE.lc (t := (.one 3)) (own := [("gap", 3)]) rfl nd_is_levels_in (blk_of rfl) (fun _ _ _ _ _ => (pg_name nd_is_levels_in (i := 3) rfl (.inl rfl))) rfl (by decide) (SI.any (SE.var 1 rfl (.inl rfl))) rfl (fun _ _ _ _ _ => (SE.and (SE.cmp (SE.ix (SE.var 3 rfl (.inl rfl)) SE.int) SE.int) (SE.one (SE.cmp (SE.ix (SE.var 3 rfl (.inl rfl)) SE.int) SE.int)))))))
  SSs.nil))))⟩
theorem b_sure_levels (T : Txt mg) : BodyOk P w K mg base wf L "sure_levels" (top 13) ["value"] ⟨2, 1, ir_sure_levels⟩ := ⟨N_sure_levels, sc_sure_levels, rfl, fun cf k hF f cdv A outer s H E hr => have hu := hr.units
  have hu2 := hu66 hr
  (SSs.cons (SS.set 1 nd_sure_levels rfl (.inl rfl) (SE.call (hF 3 "tupled" ["value"] rfl) hr rfl (SA.cons (SE.var 0 rfl (.inl rfl)) SA.nil)))
  (SSs.cons (SS.iff (ST.notB (ST.val (SE.call (hF 8 "is_levels_in" ["thing"] rfl) hr rfl (SA.cons (SE.var 1 rfl (.inl rfl)) SA.nil)))) (SSs.cons SS.stuck
  SSs.nil) SSs.nil)
  (SSs.cons (SS.ret (SE.var 1 rfl (.inl rfl)))
  SSs.nil)))⟩
theorem b_least_in (T : Txt mg) : BodyOk P w K mg base wf L "least_in" (top 14) ["levels"] ⟨4, 1, ir_least_in⟩ := ⟨N_least_in, sc_least_in, rfl, fun cf k hF f cdv A outer s H E hr => have hu := hr.units
  have hu2 := hu66 hr
  (SSs.cons (SS.set 1 nd_least_in rfl (.inl rfl) (SE.ix (SE.var 0 rfl (.inl rfl)) SE.int))
  (SSs.cons (SS.forr (passes_of rfl) rfl (SI.any (SE.ix (SE.var 0 rfl (.inl rfl)) SE.int)) (SG.name 2 nd_least_in rfl (.inl rfl)) (SSs.cons (SS.set 3 nd_least_in rfl (.inl rfl) (SE.call (hF 10 "least_in" ["levels"] rfl) hr rfl (SA.cons (SE.var 2 rfl (.inl rfl)) SA.nil)))
  (SSs.cons (SS.iff (ST.cmp (SE.ix (SE.call (hF 7 "taken" ["one", "other"] rfl) hr rfl (SA.cons (SE.var 3 rfl (.inl rfl)) (SA.cons (SE.var 1 rfl (.inl rfl)) SA.nil))) SE.int) SE.int) (SSs.cons (SS.set 1 nd_least_in rfl (.inl rfl) (SE.var 3 rfl (.inl rfl)))
  SSs.nil) SSs.nil)
  SSs.nil)))
  (SSs.cons (SS.ret (SE.var 1 rfl (.inl rfl)))
  SSs.nil)))⟩
theorem b_lengths_in (T : Txt mg) : BodyOk P w K mg base wf L "lengths_in" (top 15) ["levels"] ⟨2, 1, ir_lengths_in⟩ := ⟨N_lengths_in, sc_lengths_in, rfl, fun cf k hF f cdv A outer s H E hr => have hu := hr.units
  have hu2 := hu66 hr
  (SSs.cons (SS.ret (SE.sum rfl rfl T.b_sum (SE.lc (t := (.one 1)) (own := [("own", 1)]) rfl nd_lengths_in (blk_of rfl) (fun _ _ _ _ _ => (pg_name nd_lengths_in (i := 1) rfl (.inl rfl))) rfl (by decide) (SI.any (SE.ix (SE.var 0 rfl (.inr (.inl rfl))) SE.int)) rfl (fun _ _ _ _ _ => (SE.bin (SE.ix (SE.call (hF 7 "taken" ["one", "other"] rfl) hr rfl (SA.cons (SE.ix (SE.var 0 rfl (.inr (.inl rfl))) SE.int) (SA.cons (SE.ix (SE.var 1 rfl (.inl rfl)) SE.int) SA.nil))) SE.int) (SE.call (hF 11 "lengths_in" ["levels"] rfl) hr rfl (SA.cons (SE.var 1 rfl (.inl rfl)) SA.nil)))))))
  SSs.nil)⟩
theorem b_rank_in (T : Txt mg) : BodyOk P w K mg base wf L "rank_in" (top 16) ["levels"] ⟨1, 1, ir_rank_in⟩ := ⟨N_rank_in, sc_rank_in, rfl, fun cf k hF f cdv A outer s H E hr => have hu := hr.units
  have hu2 := hu66 hr
  (SSs.cons (SS.ret (SE.bin (SE.call (hF 11 "lengths_in" ["levels"] rfl) hr rfl (SA.cons (SE.var 0 rfl (.inl rfl)) SA.nil)) (SE.ix (SE.call (hF 7 "taken" ["one", "other"] rfl) hr rfl (SA.cons (SE.ix (SE.var 0 rfl (.inl rfl)) SE.int) (SA.cons (SE.call (hF 10 "least_in" ["levels"] rfl) hr rfl (SA.cons (SE.var 0 rfl (.inl rfl)) SA.nil)) SA.nil))) SE.int)))
  SSs.nil)⟩
theorem b_is_levels (T : Txt mg) : BodyOk P w K mg base wf L "is_levels" (top 17) ["thing"] ⟨1, 1, ir_is_levels⟩ := ⟨N_is_levels, sc_is_levels, rfl, fun cf k hF f cdv A outer s H E hr => have hu := hr.units
  have hu2 := hu66 hr
  (SSs.cons (SS.ret (SE.call (hF 8 "is_levels_in" ["thing"] rfl) hr rfl (SA.cons (SE.var 0 rfl (.inl rfl)) SA.nil)))
  SSs.nil)⟩
theorem b_levels_least (T : Txt mg) : BodyOk P w K mg base wf L "levels_least" (top 18) ["levels"] ⟨1, 1, ir_levels_least⟩ := ⟨N_levels_least, sc_levels_least, rfl, fun cf k hF f cdv A outer s H E hr => have hu := hr.units
  have hu2 := hu66 hr
  (SSs.cons (SS.ret (SE.call (hF 10 "least_in" ["levels"] rfl) hr rfl (SA.cons (SE.call (hF 9 "sure_levels" ["value"] rfl) hr rfl (SA.cons (SE.var 0 rfl (.inl rfl)) SA.nil)) SA.nil)))
  SSs.nil)⟩
theorem b_levels_ends (T : Txt mg) : BodyOk P w K mg base wf L "levels_ends" (top 19) ["levels"] ⟨5, 1, ir_levels_ends⟩ := ⟨N_levels_ends, sc_levels_ends, rfl, fun cf k hF f cdv A outer s H E hr => have hu := hr.units
  have hu2 := hu66 hr
  (SSs.cons (SS.set 1 nd_levels_ends rfl (.inl rfl) (SE.call (hF 9 "sure_levels" ["value"] rfl) hr rfl (SA.cons (SE.var 0 rfl (.inl rfl)) SA.nil)))
  (SSs.cons (SS.par2 2 3 rfl nd_levels_ends rfl rfl (by decide) rfl rfl (SE.lstC (SA.cons (SE.var 1 rfl (.inl rfl)) SA.nil)) SE.int)
  (SSs.cons (SS.whil (passes_of rfl) (ST.neqv hu (SE.var 2 rfl (.inl rfl)) (SE.lst SA.nil)) (SSs.cons (SS.set 4 nd_levels_ends rfl (.inl rfl) (SE.pop (SE.var 2 rfl (.inl rfl))))
  (SSs.cons (SS.expr (SE.extend (SE.var 2 rfl (.inl rfl)) (SE.ix (SE.var 4 rfl (.inl rfl)) SE.int)))
  (SSs.cons (SS.add 3 nd_levels_ends rfl (.inl rfl) (SE.intC rfl T.b_int (SE.eqv hu (SE.ix (SE.var 4 rfl (.inl rfl)) SE.int) (SE.tup SA.nil))))
  SSs.nil))))
  (SSs.cons (SS.ret (SE.var 3 rfl (.inl rfl)))
  SSs.nil))))⟩
theorem b_levels_rank (T : Txt mg) : BodyOk P w K mg base wf L "levels_rank" (top 20) ["levels"] ⟨1, 1, ir_levels_rank⟩ := ⟨N_levels_rank, sc_levels_rank, rfl, fun cf k hF f cdv A outer s H E hr => have hu := hr.units
  have hu2 := hu66 hr
  (SSs.cons (SS.ret (SE.call (hF 12 "rank_in" ["levels"] rfl) hr rfl (SA.cons (SE.call (hF 9 "sure_levels" ["value"] rfl) hr rfl (SA.cons (SE.var 0 rfl (.inl rfl)) SA.nil)) SA.nil)))
  SSs.nil)⟩
theorem b_lots_at (T : Txt mg) : BodyOk P w K mg base wf L "lots_at" (top 21) ["levels", "number"] ⟨4, 2, ir_lots_at⟩ := ⟨N_lots_at, sc_lots_at, rfl, fun cf k hF f cdv A outer s H E hr => have hu := hr.units
  have hu2 := hu66 hr
  (SSs.cons (SS.par2 2 3 rfl nd_lots_at rfl rfl (by decide) rfl rfl (SE.call (hF 9 "sure_levels" ["value"] rfl) hr rfl (SA.cons (SE.var 0 rfl (.inl rfl)) SA.nil)) (SE.call (hF 3 "tupled" ["value"] rfl) hr rfl (SA.cons (SE.var 1 rfl (.inl rfl)) SA.nil)))
  (SSs.cons (SS.iff (ST.notB (ST.val (SE.call (hF 6 "is_fraction" ["thing"] rfl) hr rfl (SA.cons (SE.var 3 rfl (.inl rfl)) SA.nil)))) (SSs.cons SS.stuck
  SSs.nil) SSs.nil)
  (SSs.cons (SS.ret (SE.call (hF 18 "lots_up_to" ["levels", "number"] rfl) hr rfl (SA.cons (SE.var 2 rfl (.inl rfl)) (SA.cons (SE.var 3 rfl (.inl rfl)) SA.nil))))
  SSs.nil)))⟩
theorem b_lots_up_to (T : Txt mg) : BodyOk P w K mg base wf L "lots_up_to" (top 22) ["levels", "number"] ⟨3, 2, ir_lots_up_to⟩ := ⟨N_lots_up_to, sc_lots_up_to, rfl, fun cf k hF f cdv A outer s H E hr => have hu := hr.units
  have hu2 := hu66 hr
  (SSs.cons (SS.iff (ST.cmp (SE.ix (SE.call (hF 7 "taken" ["one", "other"] rfl) hr rfl (SA.cons (SE.ix (SE.var 0 rfl (.inl rfl)) SE.int) (SA.cons (SE.var 1 rfl (.inr (.inl rfl))) SA.nil))) SE.int) SE.int) (SSs.cons (SS.ret SE.int)
  SSs.nil) SSs.nil)
  (SSs.cons (SS.ret (SE.sum rfl rfl T.b_sum (SE.lc (t := (.one 2)) (own := [("own", 2)]) rfl nd_lots_up_to (blk_of rfl) (fun _ _ _ _ _ => (pg_name nd_lots_up_to (i := 2) rfl (.inl rfl))) rfl (by decide) (SI.any (SE.ix (SE.var 0 rfl (.inl rfl)) SE.int)) rfl (fun _ _ _ _ _ => (SE.call (hF 18 "lots_up_to" ["levels", "number"] rfl) hr rfl (SA.cons (SE.var 2 rfl (.inl rfl)) (SA.cons (SE.var 1 rfl (.inr (.inl rfl))) SA.nil)))))))
  SSs.nil))⟩
theorem b__law_box (T : Txt mg) : BodyOk P w K mg base wf L "_law_box" (top 24) ["script", "k"] ⟨3, 2, ir__law_box⟩ := ⟨N__law_box, sc__law_box, rfl, fun cf k hF f cdv A outer s H E hr => have hu := hr.units
  have hu2 := hu66 hr
  (SSs.cons (SS.set 2 nd__law_box rfl (.inl rfl) (SE.ite (ST.cmp (SE.var 1 rfl (.inl rfl)) (SE.len rfl T.b_len (SE.var 0 rfl (.inl rfl)))) (SE.ix (SE.var 0 rfl (.inl rfl)) (SE.var 1 rfl (.inl rfl))) SE.int))
  (SSs.cons (SS.ret (SE.lstC (SA.cons (SE.bin (SE.abs rfl T.b_abs (SE.var 2 rfl (.inl rfl))) (SE.intC rfl T.b_int (SE.cmp (SE.abs rfl T.b_abs (SE.var 2 rfl (.inl rfl))) (SE.bin SE.int SE.int)))) (SA.cons (SE.bin (SE.bin (SE.bin (SE.intC rfl T.b_int (SE.var 2 rfl (.inl rfl))) SE.int) (SE.bin SE.int (SE.var 1 rfl (.inl rfl)))) SE.int) (SA.cons SE.int SA.nil)))))
  SSs.nil))⟩
theorem b__law_take (T : Txt mg) : BodyOk P w K mg base wf L "_law_take" (top 25) ["tin", "below_so"] ⟨6, 2, ir__law_take⟩ := ⟨N__law_take, sc__law_take, rfl, fun cf k hF f cdv A outer s H E hr => have hu := hr.units
  have hu2 := hu66 hr
  (SSs.cons (SS.iff (ST.cmp (SE.ix (SE.var 0 rfl (.inl rfl)) SE.int) SE.int) (SSs.cons (SS.set 2 nd__law_take rfl (.inl rfl) (SE.bin (SE.intC rfl T.b_int (SE.ix (SE.var 0 rfl (.inl rfl)) SE.int)) (SE.var 1 rfl (.inl rfl))))
  (SSs.cons (SS.asg (SE.bin (SE.ix (SE.var 0 rfl (.inl rfl)) SE.int) (SE.var 1 rfl (.inl rfl))) (SG.sub (SE.var 0 rfl (.inl rfl)) SE.int))
  (SSs.cons (SS.ret (SE.var 2 rfl (.inl rfl)))
  SSs.nil))) SSs.nil)
  (SSs.cons (SS.asg (SE.bin (SE.ix (SE.var 0 rfl (.inl rfl)) SE.int) SE.int) (SG.sub (SE.var 0 rfl (.inl rfl)) SE.int))
  (SSs.cons (SS.set 3 nd__law_take rfl (.inl rfl) (SE.bin (SE.intC rfl T.b_int (SE.bin (SE.bin (SE.ix (SE.var 0 rfl (.inl rfl)) SE.int) (SE.bin SE.int (SE.ix (SE.var 0 rfl (.inl rfl)) SE.int))) (SE.bin SE.int (SE.ix (SE.var 0 rfl (.inl rfl)) SE.int)))) SE.int))
  (SSs.cons (SS.set 4 nd__law_take rfl (.inl rfl) (SE.bin (SE.bin (SE.intC rfl T.b_int (SE.var 3 rfl (.inl rfl))) SE.int) SE.int))
  (SSs.cons (SS.set 5 nd__law_take rfl (.inl rfl) (SE.bin (SE.intC rfl T.b_int (SE.bin (SE.bin (SE.bin (SE.var 3 rfl (.inl rfl)) (SE.ix (SE.var 0 rfl (.inl rfl)) SE.int)) (SE.bin (SE.ix (SE.var 0 rfl (.inl rfl)) SE.int) SE.int)) (SE.var 4 rfl (.inl rfl)))) SE.int))
  (SSs.cons (SS.ret (SE.bin (SE.intC rfl T.b_int (SE.bin (SE.bin (SE.intC rfl T.b_int (SE.bin (SE.bin (SE.var 5 rfl (.inl rfl)) SE.int) (SE.var 3 rfl (.inl rfl)))) SE.int) SE.int)) (SE.var 1 rfl (.inl rfl))))
  SSs.nil))))))⟩
theorem b__law_cells (T : Txt mg) : BodyOk P w K mg base wf L "_law_cells" (top 26) ["script", "most_so"] ⟨6, 2, ir__law_cells⟩ := ⟨N__law_cells, sc__law_cells, rfl, fun cf k hF f cdv A outer s H E hr => have hu := hr.units
  have hu2 := hu66 hr
  (SSs.cons (SS.set 2 nd__law_cells rfl (.inl rfl) (SE.orL (SE.listC rfl T.b_list (SE.sl (SE.var 0 rfl (.inl rfl)) SO.none (SO.some (SE.var 1 rfl (.inl rfl))))) (SE.one (SE.lstC (SA.cons SE.int SA.nil)))))
  (SSs.cons (SS.forr (passes_of rfl) rfl (SI.enum rfl T.b_enumerate (SE.sl (SE.var 0 rfl (.inl rfl)) (SO.some (SE.var 1 rfl (.inl rfl))) (SO.some SE.int))) (SG.tup rfl (SGs.cons (SG.name 3 nd__law_cells rfl (.inl rfl)) (SGs.cons (SG.name 4 nd__law_cells rfl (.inl rfl)) SGs.nil))) (SSs.cons (SS.set 5 nd__law_cells rfl (.inl rfl) (SE.bin (SE.intC rfl T.b_int (SE.var 3 rfl (.inl rfl))) (SE.var 1 rfl (.inl rfl))))
  (SSs.cons (SS.asg (SE.bin (SE.ix (SE.var 2 rfl (.inl rfl)) (SE.var 5 rfl (.inl rfl))) (SE.bin (SE.var 4 rfl (.inl rfl)) (SE.bin (SE.var 3 rfl (.inl rfl)) SE.int))) (SG.sub (SE.var 2 rfl (.inl rfl)) (SE.var 5 rfl (.inl rfl))))
  SSs.nil)))
  (SSs.cons (SS.ret (SE.var 2 rfl (.inl rfl)))
  SSs.nil)))⟩
theorem b__law_lists (T : Txt mg) : BodyOk P w K mg base wf L "_law_lists" (top 27) ["matter"] ⟨2, 1, ir__law_lists⟩ := ⟨N__law_lists, sc__law_lists, rfl, fun cf k hF f cdv A outer s H E hr => have hu := hr.units
  have hu2 := hu66 hr
  (SSs.cons (SS.ret (SE.ite (ST.val (SE.isi2 .list .tuple rfl T.b_isinstance rfl T.b_list rfl T.b_tuple (SE.var 0 rfl (.inl rfl)))) (SE.lcC (t := (.one 1)) (own := [("bit", 1)]) rfl nd__law_lists (blk_of rfl) (fun _ _ _ _ _ => (pg_name nd__law_lists (i := 1) rfl (.inl rfl))) rfl (by decide) (SI.any (SE.var 0 rfl (.inl rfl))) rfl (fun _ _ _ _ _ => (SE.call (hF 22 "_law_lists" ["matter"] rfl) hr rfl (SA.cons (SE.var 1 rfl (.inl rfl)) SA.nil)))) (SE.var 0 rfl (.inl rfl))))
  SSs.nil)⟩
theorem b__law_same (T : Txt mg) : BodyOk P w K mg base wf L "_law_same" (top 28) ["got", "due"] ⟨4, 2, ir__law_same⟩ := ⟨N__law_same, sc__law_same, rfl, fun cf k hF f cdv A outer s H E hr => have hu := hr.units
  have hu2 := hu66 hr
  (SSs.cons (SS.iff (ST.val (SE.isi2 .list .tuple rfl T.b_isinstance rfl T.b_list rfl T.b_tuple (SE.var 1 rfl (.inl rfl)))) (SSs.cons (SS.iff (ST.sw (SW.or (ST.neqv hu (SE.isi .list rfl T.b_isinstance rfl T.b_list (SE.var 0 rfl (.inl rfl))) (SE.isi .list rfl T.b_isinstance rfl T.b_list (SE.var 1 rfl (.inl rfl)))) (SW.or1 (ST.neqv hu (SE.isi .tuple rfl T.b_isinstance rfl T.b_tuple (SE.var 0 rfl (.inl rfl))) (SE.isi .tuple rfl T.b_isinstance rfl T.b_tuple (SE.var 1 rfl (.inl rfl))))))) (SSs.cons (SS.ret SE.bl)
  SSs.nil) SSs.nil)
  (SSs.cons (SS.ret (SE.and (SE.cmp (SE.len rfl T.b_len (SE.var 0 rfl (.inl rfl))) (SE.len rfl T.b_len (SE.var 1 rfl (.inl rfl)))) (SE.one (SE.all rfl rfl T.b_all (SE.lc (t := (.tup [2, 3])) (own := [("mine", 2), ("its", 3)]) rfl nd__law_same (blk_of rfl) (fun _ _ _ _ _ => pg_tup rfl (pgs_cons (pg_name nd__law_same (i := 2) rfl (.inl rfl)) (pgs_cons (pg_name nd__law_same (i := 3) rfl (.inl rfl)) pgs_nil))) rfl (by decide) (SI.zip rfl T.b_zip (SE.var 0 rfl (.inl rfl)) (SE.var 1 rfl (.inl rfl))) rfl (fun _ _ _ _ _ => (SE.call (hF 23 "_law_same" ["got", "due"] rfl) hr rfl (SA.cons (SE.var 2 rfl (.inl rfl)) (SA.cons (SE.var 3 rfl (.inl rfl)) SA.nil)))))))))
  SSs.nil)) SSs.nil)
  (SSs.cons (SS.iff (ST.isN (SE.var 1 rfl (.inl rfl))) (SSs.cons (SS.ret (SE.isN (SE.var 0 rfl (.inl rfl))))
  SSs.nil) SSs.nil)
  (SSs.cons (SS.iff (ST.val (SE.isi2 .bool .str rfl T.b_isinstance rfl T.b_bool rfl T.b_str (SE.var 1 rfl (.inl rfl)))) (SSs.cons (SS.ret (SE.and (SE.eqv hu (SE.isi .bool rfl T.b_isinstance rfl T.b_bool (SE.var 0 rfl (.inl rfl))) (SE.isi .bool rfl T.b_isinstance rfl T.b_bool (SE.var 1 rfl (.inl rfl)))) (SE.and (SE.eqv hu (SE.isi .str rfl T.b_isinstance rfl T.b_str (SE.var 0 rfl (.inl rfl))) (SE.isi .str rfl T.b_isinstance rfl T.b_str (SE.var 1 rfl (.inl rfl)))) (SE.one (SE.eqv hu (SE.var 0 rfl (.inl rfl)) (SE.var 1 rfl (.inl rfl)))))))
  SSs.nil) SSs.nil)
  (SSs.cons (SS.ret (SE.and (SE.isi .int rfl T.b_isinstance rfl T.b_int (SE.var 0 rfl (.inl rfl))) (SE.and (SE.notB (SE.isi .bool rfl T.b_isinstance rfl T.b_bool (SE.var 0 rfl (.inl rfl)))) (SE.one (SE.eqv hu (SE.var 0 rfl (.inl rfl)) (SE.var 1 rfl (.inl rfl)))))))
  SSs.nil))))⟩
theorem b__law_common (T : Txt mg) : BodyOk P w K mg base wf L "_law_common" (top 29) ["one_so", "two"] ⟨4, 2, ir__law_common⟩ := ⟨N__law_common, sc__law_common, rfl, fun cf k hF f cdv A outer s H E hr => have hu := hr.units
  have hu2 := hu66 hr
  (SSs.cons (SS.par2 2 3 rfl nd__law_common rfl rfl (by decide) rfl rfl (SE.abs rfl T.b_abs (SE.var 0 rfl (.inl rfl))) (SE.abs rfl T.b_abs (SE.var 1 rfl (.inl rfl))))
  (SSs.cons (SS.whil (passes_of rfl) (ST.cmp (SE.var 3 rfl (.inl rfl)) SE.int) (SSs.cons (SS.par2 2 3 rfl nd__law_common rfl rfl (by decide) rfl rfl (SE.var 3 rfl (.inl rfl)) (SE.bin (SE.var 2 rfl (.inl rfl)) (SE.var 3 rfl (.inl rfl))))
  SSs.nil))
  (SSs.cons (SS.ret (SE.var 2 rfl (.inl rfl)))
  SSs.nil)))⟩
theorem b__law_cut (T : Txt mg) : BodyOk P w K mg base wf L "_law_cut" (top 30) ["over_so", "under_so"] ⟨3, 2, ir__law_cut⟩ := ⟨N__law_cut, sc__law_cut, rfl, fun cf k hF f cdv A outer s H E hr => have hu := hr.units
  have hu2 := hu66 hr
  (SSs.cons (SS.set 2 nd__law_cut rfl (.inl rfl) (SE.call (hF 24 "_law_common" ["one_so", "two"] rfl) hr rfl (SA.cons (SE.var 0 rfl (.inl rfl)) (SA.cons (SE.var 1 rfl (.inl rfl)) SA.nil))))
  (SSs.cons (SS.set 2 nd__law_cut rfl (.inl rfl) (SE.ite (ST.cmp (SE.var 1 rfl (.inl rfl)) SE.int) (SE.var 2 rfl (.inl rfl)) (SE.bin SE.int (SE.var 2 rfl (.inl rfl)))))
  (SSs.cons (SS.ret (SE.tup (SA.cons (SE.bin (SE.var 0 rfl (.inl rfl)) (SE.var 2 rfl (.inl rfl))) (SA.cons (SE.bin (SE.var 1 rfl (.inl rfl)) (SE.var 2 rfl (.inl rfl))) SA.nil))))
  SSs.nil)))⟩
theorem b__law_plus (T : Txt mg) : BodyOk P w K mg base wf L "_law_plus" (top 31) ["one_so", "two"] ⟨2, 2, ir__law_plus⟩ := ⟨N__law_plus, sc__law_plus, rfl, fun cf k hF f cdv A outer s H E hr => have hu := hr.units
  have hu2 := hu66 hr
  (SSs.cons (SS.ret (SE.call (hF 25 "_law_cut" ["over_so", "under_so"] rfl) hr rfl (SA.cons (SE.bin (SE.bin (SE.ix (SE.var 0 rfl (.inl rfl)) SE.int) (SE.ix (SE.var 1 rfl (.inl rfl)) SE.int)) (SE.bin (SE.ix (SE.var 1 rfl (.inl rfl)) SE.int) (SE.ix (SE.var 0 rfl (.inl rfl)) SE.int))) (SA.cons (SE.bin (SE.ix (SE.var 0 rfl (.inl rfl)) SE.int) (SE.ix (SE.var 1 rfl (.inl rfl)) SE.int)) SA.nil))))
  SSs.nil)⟩
theorem b__law_flat (T : Txt mg) : BodyOk P w K mg base wf L "_law_flat" (top 32) ["rows_so"] ⟨3, 1, ir__law_flat⟩ := ⟨N__law_flat, sc__law_flat, rfl, fun cf k hF f cdv A outer s H E hr => have hu := hr.units
  have hu2 := hu66 hr
  (SSs.cons (SS.set 1 nd__law_flat rfl (.inl rfl) (SE.lstC SA.nil))
  (SSs.cons (SS.forr (passes_of rfl) rfl (SI.any (SE.var 0 rfl (.inl rfl))) (SG.name 2 nd__law_flat rfl (.inl rfl)) (SSs.cons (SS.expr (SE.extend (SE.var 1 rfl (.inl rfl)) (SE.var 2 rfl (.inl rfl))))
  SSs.nil))
  (SSs.cons (SS.ret (SE.var 1 rfl (.inl rfl)))
  SSs.nil)))⟩
theorem b__law_less (T : Txt mg) : BodyOk P w K mg base wf L "_law_less" (top 33) ["one_so", "two"] ⟨2, 2, ir__law_less⟩ := ⟨N__law_less, sc__law_less, rfl, fun cf k hF f cdv A outer s H E hr => have hu := hr.units
  have hu2 := hu66 hr
  (SSs.cons (SS.ret (SE.cmp (SE.bin (SE.ix (SE.var 0 rfl (.inl rfl)) SE.int) (SE.ix (SE.var 1 rfl (.inl rfl)) SE.int)) (SE.bin (SE.ix (SE.var 1 rfl (.inl rfl)) SE.int) (SE.ix (SE.var 0 rfl (.inl rfl)) SE.int))))
  SSs.nil)⟩
theorem b__law_in_order (T : Txt mg) : BodyOk P w K mg base wf L "_law_in_order" (top 34) ["rows_so"] ⟨4, 1, ir__law_in_order⟩ := ⟨N__law_in_order, sc__law_in_order, rfl, fun cf k hF f cdv A outer s H E hr => have hu := hr.units
  have hu2 := hu66 hr
  (SSs.cons (SS.set 1 nd__law_in_order rfl (.inl rfl) (SE.lst SA.nil))
  (SSs.cons (SS.forr (passes_of rfl) rfl (SI.any (SE.var 0 rfl (.inl rfl))) (SG.name 2 nd__law_in_order rfl (.inr rfl)) (SSs.cons (SS.set 1 nd__law_in_order rfl (.inl rfl) (SE.catL (SE.catL (SE.lc (t := (.one 3)) (own := [("its", 3)]) rfl nd__law_in_order (blk_of rfl) (fun _ _ _ _ _ => (pg_name nd__law_in_order (i := 3) rfl (.inl rfl))) rfl (by decide) (SI.any (SE.var 1 rfl (.inl rfl))) (fun _ _ _ _ _ => (ST.notB (ST.val (SE.call (hF 28 "_law_less" ["one_so", "two"] rfl) hr rfl (SA.cons (SE.var 2 rfl (.inr (.inl rfl))) (SA.cons (SE.var 3 rfl (.inl rfl)) SA.nil)))))) (fun _ _ _ _ _ => (SE.var 3 rfl (.inl rfl)))) (SE.lst (SA.cons (SE.var 2 rfl (.inr (.inl rfl))) SA.nil))) (SE.lc (t := (.one 3)) (own := [("its", 3)]) rfl nd__law_in_order (blk_of rfl) (fun _ _ _ _ _ => (pg_name nd__law_in_order (i := 3) rfl (.inl rfl))) rfl (by decide) (SI.any (SE.var 1 rfl (.inl rfl))) (fun _ _ _ _ _ => (ST.val (SE.call (hF 28 "_law_less" ["one_so", "two"] rfl) hr rfl (SA.cons (SE.var 2 rfl (.inr (.inl rfl))) (SA.cons (SE.var 3 rfl (.inl rfl)) SA.nil))))) (fun _ _ _ _ _ => (SE.var 3 rfl (.inl rfl))))))
  SSs.nil))
  (SSs.cons (SS.ret (SE.tuple rfl T.b_tuple (SE.var 1 rfl (.inl rfl))))
  SSs.nil)))⟩
theorem b__law_drawn (T : Txt mg) : BodyOk P w K mg base wf L "_law_drawn" (top 35) ["tin", "height_so", "depth_so"] ⟨5, 3, ir__law_drawn⟩ := ⟨N__law_drawn, sc__law_drawn, rfl, fun cf k hF f cdv A outer s H E hr => have hu := hr.units
  have hu2 := hu66 hr
  (SSs.cons (SS.iff (ST.sw (SW.or (ST.cmp (SE.var 2 rfl (.inr (.inl rfl))) SE.int) (SW.or1 (ST.cmp (SE.call (hF 20 "_law_take" ["tin", "below_so"] rfl) hr rfl (SA.cons (SE.var 0 rfl (.inr (.inl rfl))) (SA.cons SE.int SA.nil))) SE.int)))) (SSs.cons (SS.ret (SE.tup (SA.cons (SE.var 1 rfl (.inr (.inl rfl))) (SA.cons (SE.tup SA.nil) SA.nil))))
  SSs.nil) SSs.nil)
  (SSs.cons (by first | exact SS.setLc 3 (.one 4) (own := [("k", 4)]) rfl nd__law_drawn rfl rfl (blk_of rfl) (fun _ _ _ _ _ => (pg_name nd__law_drawn (i := 4) rfl (.inl rfl))) rfl (by decide) (SI.rng1 rfl T.b_range (SE.bin SE.int (SE.call (hF 20 "_law_take" ["tin", "below_so"] rfl) hr rfl (SA.cons (SE.var 0 rfl (.inr (.inl rfl))) (SA.cons SE.int SA.nil))))) rfl (fun _ _ _ _ _ => (SE.call (hF 30 "_law_drawn" ["tin", "height_so", "depth_so"] rfl) hr rfl (SA.cons (SE.var 0 rfl (.inr (.inl rfl))) (SA.cons (SE.call (hF 26 "_law_plus" ["one_so", "two"] rfl) hr rfl (SA.cons (SE.var 1 rfl (.inr (.inl rfl))) (SA.cons (SE.tup (SA.cons (SE.bin (SE.bin SE.int SE.int) (SE.call (hF 20 "_law_take" ["tin", "below_so"] rfl) hr rfl (SA.cons (SE.var 0 rfl (.inr (.inl rfl))) (SA.cons SE.int SA.nil)))) (SA.cons SE.int SA.nil))) SA.nil))) (SA.cons (SE.bin (SE.var 2 rfl (.inr (.inl rfl))) SE.int) SA.nil))))) | exact SS.set 3 nd__law_drawn rfl (.inl rfl) (SE.lc (t := (.one 4)) (own := [("k", 4)]) rfl nd__law_drawn (blk_of rfl) (fun _ _ _ _ _ => (pg_name nd__law_drawn (i := 4) rfl (.inl rfl))) rfl (by decide) (SI.rng1 rfl T.b_range (SE.bin SE.int (SE.call (hF 20 "_law_take" ["tin", "below_so"] rfl) hr rfl (SA.cons (SE.var 0 rfl (.inr (.inl rfl))) (SA.cons SE.int SA.nil))))) rfl (fun _ _ _ _ _ => (SE.call (hF 30 "_law_drawn" ["tin", "height_so", "depth_so"] rfl) hr rfl (SA.cons (SE.var 0 rfl (.inr (.inl rfl))) (SA.cons (SE.call (hF 26 "_law_plus" ["one_so", "two"] rfl) hr rfl (SA.cons (SE.var 1 rfl (.inr (.inl rfl))) (SA.cons (SE.tup (SA.cons (SE.bin (SE.bin SE.int SE.int) (SE.call (hF 20 "_law_take" ["tin", "below_so"] rfl) hr rfl (SA.cons (SE.var 0 rfl (.inr (.inl rfl))) (SA.cons SE.int SA.nil)))) (SA.cons SE.int SA.nil))) SA.nil))) (SA.cons (SE.bin (SE.var 2 rfl (.inr (.inl rfl))) SE.int) SA.nil)))))))
  (SSs.cons (SS.ret (SE.tup (SA.cons (SE.var 1 rfl (.inr (.inl rfl))) (SA.cons (SE.tuple rfl T.b_tuple (SE.srt hu2 rfl T.b_sorted (SE.var 3 rfl (.inl rfl)))) SA.nil))))
  SSs.nil)))⟩
theorem b__law_ends (T : Txt mg) : BodyOk P w K mg base wf L "_law_ends" (top 36) ["levels_so"] ⟨2, 1, ir__law_ends⟩ := ⟨N__law_ends, sc__law_ends, rfl, fun cf k hF f cdv A outer s H E hr => have hu := hr.units
  have hu2 := hu66 hr
  (SSs.cons (SS.ret (SE.ite (ST.eqv hu (SE.ix (SE.var 0 rfl (.inl rfl)) SE.int) (SE.tup SA.nil)) (SE.lstC (SA.cons (SE.ix (SE.var 0 rfl (.inl rfl)) SE.int) SA.nil)) (SE.call (hF 27 "_law_flat" ["rows_so"] rfl) hr rfl (SA.cons (SE.lc (t := (.one 1)) (own := [("own", 1)]) rfl nd__law_ends (blk_of rfl) (fun _ _ _ _ _ => (pg_name nd__law_ends (i := 1) rfl (.inl rfl))) rfl (by decide) (SI.any (SE.ix (SE.var 0 rfl (.inl rfl)) SE.int)) rfl (fun _ _ _ _ _ => (SE.call (hF 31 "_law_ends" ["levels_so"] rfl) hr rfl (SA.cons (SE.var 1 rfl (.inl rfl)) SA.nil)))) SA.nil))))
  SSs.nil)⟩
theorem b__law_lots (T : Txt mg) : BodyOk P w K mg base wf L "_law_lots" (top 37) ["levels_so", "number_so"] ⟨3, 2, ir__law_lots⟩ := ⟨N__law_lots, sc__law_lots, rfl, fun cf k hF f cdv A outer s H E hr => have hu := hr.units
  have hu2 := hu66 hr
  (SSs.cons (SS.iff (ST.notB (ST.val (SE.call (hF 28 "_law_less" ["one_so", "two"] rfl) hr rfl (SA.cons (SE.var 1 rfl (.inr (.inl rfl))) (SA.cons (SE.ix (SE.var 0 rfl (.inl rfl)) SE.int) SA.nil))))) (SSs.cons (SS.ret SE.int)
  SSs.nil) SSs.nil)
  (SSs.cons (SS.ret (SE.sum rfl rfl T.b_sum (SE.lc (t := (.one 2)) (own := [("own", 2)]) rfl nd__law_lots (blk_of rfl) (fun _ _ _ _ _ => (pg_name nd__law_lots (i := 2) rfl (.inl rfl))) rfl (by decide) (SI.any (SE.ix (SE.var 0 rfl (.inl rfl)) SE.int)) rfl (fun _ _ _ _ _ => (SE.call (hF 32 "_law_lots" ["levels_so", "number_so"] rfl) hr rfl (SA.cons (SE.var 2 rfl (.inl rfl)) (SA.cons (SE.var 1 rfl (.inr (.inl rfl))) SA.nil)))))))
  SSs.nil))⟩
theorem b_law (T : Txt mg) : BodyOk P w K mg base wf L "law" (top 38) ["script"] ⟨17, 1, ir_law⟩ := ⟨N_law, sc_law, rfl, fun cf k hF f cdv A outer s H E hr => have hu := hr.units
  have hu2 := hu66 hr
  (SSs.cons (SS.set 1 nd_law rfl (.inl rfl) (SE.call (hF 19 "_law_box" ["script", "k"] rfl) hr rfl (SA.cons (SE.call (hF 21 "_law_cells" ["script", "most_so"] rfl) hr rfl (SA.cons (SE.var 0 rfl (.inl rfl)) (SA.cons SE.int SA.nil))) (SA.cons SE.int SA.nil))))
  (SSs.cons (SS.forr (passes_of rfl) rfl (SI.rng1 rfl T.b_range SE.int) (SG.name 2 nd_law rfl (.inl rfl)) (SSs.cons (SS.set 3 nd_law rfl (.inl rfl) (SE.call (hF 25 "_law_cut" ["over_so", "under_so"] rfl) hr rfl (SA.cons (SE.bin (SE.call (hF 20 "_law_take" ["tin", "below_so"] rfl) hr rfl (SA.cons (SE.var 1 rfl (.inl rfl)) (SA.cons SE.int SA.nil))) SE.int) (SA.cons (SE.bin SE.int (SE.call (hF 20 "_law_take" ["tin", "below_so"] rfl) hr rfl (SA.cons (SE.var 1 rfl (.inl rfl)) (SA.cons SE.int SA.nil)))) SA.nil))))
  (SSs.cons (SS.set 4 nd_law rfl (.inr rfl) (SE.call (hF 30 "_law_drawn" ["tin", "height_so", "depth_so"] rfl) hr rfl (SA.cons (SE.var 1 rfl (.inl rfl)) (SA.cons (SE.var 3 rfl (.inl rfl)) (SA.cons SE.int SA.nil)))))
  (SSs.cons (SS.set 5 nd_law rfl (.inl rfl) (SE.call (hF 29 "_law_in_order" ["rows_so"] rfl) hr rfl (SA.cons (SE.call (hF 31 "_law_ends" ["levels_so"] rfl) hr rfl (SA.cons (SE.var 4 rfl (.inr (.inl rfl))) SA.nil)) SA.nil)))
  (SSs.cons (SS.set 6 nd_law rfl (.inr rfl) (SE.ix (SE.var 5 rfl (.inl rfl)) SE.int))
  (SSs.cons (SS.set 7 nd_law rfl (.inl rfl) (SE.bin (SE.bin (SE.bin (SE.ix (SE.var 3 rfl (.inl rfl)) SE.int) (SE.ix (SE.var 6 rfl (.inr (.inl rfl))) SE.int)) (SE.bin (SE.ix (SE.var 6 rfl (.inr (.inl rfl))) SE.int) (SE.ix (SE.var 3 rfl (.inl rfl)) SE.int))) (SE.bin (SE.ix (SE.var 3 rfl (.inl rfl)) SE.int) (SE.ix (SE.var 6 rfl (.inr (.inl rfl))) SE.int))))
  (SSs.cons (SS.set 8 nd_law rfl (.inl rfl) (SE.sum rfl rfl T.b_sum (SE.lc (t := (.one 15)) (own := [("k", 15)]) rfl nd_law (blk_of rfl) (fun _ _ _ _ _ => (pg_name nd_law (i := 15) rfl (.inl rfl))) rfl (by decide) (SI.rng1 rfl T.b_range (SE.bin (SE.var 7 rfl (.inl rfl)) SE.int)) rfl (fun _ _ _ _ _ => (SE.bin (SE.call (hF 32 "_law_lots" ["levels_so", "number_so"] rfl) hr rfl (SA.cons (SE.var 4 rfl (.inr (.inl rfl))) (SA.cons (SE.call (hF 26 "_law_plus" ["one_so", "two"] rfl) hr rfl (SA.cons (SE.var 6 rfl (.inr (.inl rfl))) (SA.cons (SE.tup (SA.cons (SE.var 15 rfl (.inl rfl)) (SA.cons SE.int SA.nil))) SA.nil))) SA.nil))) SE.int)))))
  (SSs.cons (SS.set 9 nd_law rfl (.inl rfl) (SE.lst (SA.cons (SE.call (hF 13 "is_levels" ["thing"] rfl) hr rfl (SA.cons (SE.var 4 rfl (.inr (.inl rfl))) SA.nil)) (SA.cons (SE.kw (hF 14 "levels_least" ["levels"] rfl) hr rfl (SK.cons (SE.call (hF 22 "_law_lists" ["matter"] rfl) hr rfl (SA.cons (SE.var 4 rfl (.inr (.inl rfl))) SA.nil)) SK.nil)) (SA.cons (SE.kw (hF 15 "levels_ends" ["levels"] rfl) hr rfl (SK.cons (SE.var 4 rfl (.inr (.inl rfl))) SK.nil)) (SA.cons (SE.kw (hF 16 "levels_rank" ["levels"] rfl) hr rfl (SK.cons (SE.call (hF 22 "_law_lists" ["matter"] rfl) hr rfl (SA.cons (SE.var 4 rfl (.inr (.inl rfl))) SA.nil)) SK.nil)) SA.nil))))))
  (SSs.cons (SS.iff (ST.notB (ST.val (SE.call (hF 23 "_law_same" ["got", "due"] rfl) hr rfl (SA.cons (SE.var 9 rfl (.inl rfl)) (SA.cons (SE.lst (SA.cons SE.bl (SA.cons (SE.var 6 rfl (.inr (.inl rfl))) (SA.cons (SE.len rfl T.b_len (SE.var 5 rfl (.inl rfl))) (SA.cons (SE.var 8 rfl (.inl rfl)) SA.nil))))) SA.nil))))) (SSs.cons (SS.ret SE.bl)
  SSs.nil) SSs.nil)
  (SSs.cons (SS.forr (passes_of rfl) rfl (SI.rng1 rfl T.b_range SE.int) (SG.name 10 nd_law rfl (.inl rfl)) (SSs.cons (SS.set 11 nd_law rfl (.inl rfl) (SE.call (hF 26 "_law_plus" ["one_so", "two"] rfl) hr rfl (SA.cons (SE.var 3 rfl (.inl rfl)) (SA.cons (SE.call (hF 25 "_law_cut" ["over_so", "under_so"] rfl) hr rfl (SA.cons (SE.bin (SE.call (hF 20 "_law_take" ["tin", "below_so"] rfl) hr rfl (SA.cons (SE.var 1 rfl (.inl rfl)) (SA.cons SE.int SA.nil))) SE.int) (SA.cons (SE.bin SE.int (SE.call (hF 20 "_law_take" ["tin", "below_so"] rfl) hr rfl (SA.cons (SE.var 1 rfl (.inl rfl)) (SA.cons SE.int SA.nil)))) SA.nil))) SA.nil))))
  (SSs.cons (SS.iff (ST.notB (ST.val (SE.call (hF 23 "_law_same" ["got", "due"] rfl) hr rfl (SA.cons (SE.lst (SA.cons (SE.kw (hF 17 "lots_at" ["levels", "number"] rfl) hr rfl (SK.cons (SE.var 4 rfl (.inr (.inl rfl))) (SK.cons (SE.list rfl T.b_list (SE.var 11 rfl (.inl rfl))) SK.nil))) (SA.cons (SE.call (hF 17 "lots_at" ["levels", "number"] rfl) hr rfl (SA.cons (SE.call (hF 22 "_law_lists" ["matter"] rfl) hr rfl (SA.cons (SE.var 4 rfl (.inr (.inl rfl))) SA.nil)) (SA.cons (SE.var 11 rfl (.inl rfl)) SA.nil))) SA.nil))) (SA.cons (SE.repL (SE.lst (SA.cons (SE.call (hF 32 "_law_lots" ["levels_so", "number_so"] rfl) hr rfl (SA.cons (SE.var 4 rfl (.inr (.inl rfl))) (SA.cons (SE.var 11 rfl (.inl rfl)) SA.nil))) SA.nil)) SE.int) SA.nil))))) (SSs.cons (SS.ret SE.bl)
  SSs.nil) SSs.nil)
  SSs.nil)))
  (SSs.cons (SS.set 12 nd_law rfl (.inl rfl) (SE.call (hF 26 "_law_plus" ["one_so", "two"] rfl) hr rfl (SA.cons (SE.var 3 rfl (.inl rfl)) (SA.cons (SE.tup (SA.cons (SE.neg SE.int) (SA.cons SE.int SA.nil))) SA.nil))))
  (SSs.cons (SS.set 13 nd_law rfl (.inl rfl) (SE.lst (SA.cons (SE.tup (SA.cons (SE.var 3 rfl (.inl rfl)) (SA.cons (SE.tup (SA.cons (SE.tup (SA.cons (SE.var 12 rfl (.inl rfl)) (SA.cons (SE.tup SA.nil) SA.nil))) SA.nil)) SA.nil))) (SA.cons (SE.tup (SA.cons (SE.var 3 rfl (.inl rfl)) (SA.cons (SE.tup (SA.cons (SE.tup (SA.cons (SE.var 3 rfl (.inl rfl)) (SA.cons (SE.tup SA.nil) SA.nil))) (SA.cons (SE.tup (SA.cons (SE.var 12 rfl (.inl rfl)) (SA.cons (SE.tup SA.nil) SA.nil))) SA.nil))) SA.nil))) (SA.cons (SE.tup (SA.cons (SE.var 3 rfl (.inl rfl)) (SA.cons (SE.tup (SA.cons (SE.tup (SA.cons (SE.var 12 rfl (.inl rfl)) (SA.cons (SE.tup SA.nil) SA.nil))) (SA.cons (SE.tup (SA.cons (SE.call (hF 26 "_law_plus" ["one_so", "two"] rfl) hr rfl (SA.cons (SE.var 3 rfl (.inl rfl)) (SA.cons (SE.tup (SA.cons (SE.neg SE.int) (SA.cons SE.int SA.nil))) SA.nil))) (SA.cons (SE.tup SA.nil) SA.nil))) SA.nil))) SA.nil))) SA.nil)))))
  (SSs.cons (SS.set 13 nd_law rfl (.inl rfl) (SE.catL (SE.var 13 rfl (.inl rfl)) (SE.lst (SA.cons (SE.list rfl T.b_list (SE.var 4 rfl (.inr (.inl rfl)))) (SA.cons (SE.tup (SA.cons (SE.list rfl T.b_list (SE.var 3 rfl (.inl rfl))) (SA.cons (SE.tup SA.nil) SA.nil))) (SA.cons (SE.tup (SA.cons (SE.var 3 rfl (.inl rfl)) (SA.cons (SE.lst SA.nil) SA.nil))) (SA.cons (SE.tup (SA.cons (SE.var 3 rfl (.inl rfl)) SA.nil)) (SA.cons SE.non (SA.cons SE.int (SA.cons (SE.tup (SA.cons (SE.var 3 rfl (.inl rfl)) (SA.cons (SE.tup (SA.cons (SE.tup (SA.cons (SE.var 12 rfl (.inl rfl)) (SA.cons (SE.tup SA.nil) SA.nil))) (SA.cons (SE.tup (SA.cons (SE.call (hF 26 "_law_plus" ["one_so", "two"] rfl) hr rfl (SA.cons (SE.var 12 rfl (.inl rfl)) (SA.cons (SE.tup (SA.cons (SE.neg SE.int) (SA.cons SE.int SA.nil))) SA.nil))) (SA.cons (SE.tup SA.nil) SA.nil))) SA.nil))) SA.nil))) SA.nil))))))))))
  (SSs.cons (SS.set 13 nd_law rfl (.inl rfl) (SE.catL (SE.var 13 rfl (.inl rfl)) (SE.lst (SA.cons (SE.tup (SA.cons (SE.ix (SE.var 3 rfl (.inl rfl)) SE.int) (SA.cons (SE.tup SA.nil) SA.nil))) (SA.cons (SE.tup (SA.cons (SE.tup (SA.cons SE.int (SA.cons SE.int SA.nil))) (SA.cons (SE.tup SA.nil) SA.nil))) (SA.cons (SE.tup (SA.cons (SE.tup (SA.cons SE.int (SA.cons (SE.neg SE.int) SA.nil))) (SA.cons (SE.tup SA.nil) SA.nil))) (SA.cons (SE.tup (SA.cons (SE.tup (SA.cons SE.bl (SA.cons SE.int SA.nil))) (SA.cons (SE.tup SA.nil) SA.nil))) SA.nil)))))))
  (SSs.cons (SS.iff (ST.notB (ST.val (SE.call (hF 23 "_law_same" ["got", "due"] rfl) hr rfl (SA.cons (SE.lc (t := (.one 16)) (own := [("its", 16)]) rfl nd_law (blk_of rfl) (fun _ _ _ _ _ => (pg_name nd_law (i := 16) rfl (.inl rfl))) rfl (by decide) (SI.any (SE.var 13 rfl (.inl rfl))) rfl (fun _ _ _ _ _ => (SE.kw (hF 13 "is_levels" ["thing"] rfl) hr rfl (SK.cons (SE.var 16 rfl (.inl rfl)) SK.nil)))) (SA.cons (SE.repL (SE.lst (SA.cons SE.bl SA.nil)) SE.int) SA.nil))))) (SSs.cons (SS.ret SE.bl)
  SSs.nil) SSs.nil)
  (SSs.cons (SS.set 14 nd_law rfl (.inl rfl) (SE.tup (SA.cons (SE.var 3 rfl (.inl rfl)) (SA.cons (SE.tup (SA.cons (SE.tup (SA.cons (SE.var 12 rfl (.inl rfl)) (SA.cons (SE.tup SA.nil) SA.nil))) (SA.cons (SE.tup (SA.cons (SE.var 12 rfl (.inl rfl)) (SA.cons (SE.tup SA.nil) SA.nil))) SA.nil))) SA.nil))))
  (SSs.cons (SS.iff (ST.notB (ST.val (SE.call (hF 23 "_law_same" ["got", "due"] rfl) hr rfl (SA.cons (SE.lst (SA.cons (SE.call (hF 13 "is_levels" ["thing"] rfl) hr rfl (SA.cons (SE.var 14 rfl (.inl rfl)) SA.nil)) (SA.cons (SE.call (hF 16 "levels_rank" ["levels"] rfl) hr rfl (SA.cons (SE.var 14 rfl (.inl rfl)) SA.nil)) (SA.cons (SE.call (hF 15 "levels_ends" ["levels"] rfl) hr rfl (SA.cons (SE.var 14 rfl (.inl rfl)) SA.nil)) SA.nil)))) (SA.cons (SE.lst (SA.cons SE.bl (SA.cons SE.int (SA.cons SE.int SA.nil)))) SA.nil))))) (SSs.cons (SS.ret SE.bl)
  SSs.nil) SSs.nil)
  SSs.nil)))))))))))))))))
  (SSs.cons (SS.ret (SE.call (hF 23 "_law_same" ["got", "due"] rfl) hr rfl (SA.cons (SE.lst (SA.cons (SE.call (hF 16 "levels_rank" ["levels"] rfl) hr rfl (SA.cons (SE.tup (SA.cons (SE.tup (SA.cons SE.int (SA.cons SE.int SA.nil))) (SA.cons (SE.tup SA.nil) SA.nil))) SA.nil)) (SA.cons (SE.call (hF 17 "lots_at" ["levels", "number"] rfl) hr rfl (SA.cons (SE.tup (SA.cons (SE.tup (SA.cons SE.int (SA.cons SE.int SA.nil))) (SA.cons (SE.tup SA.nil) SA.nil))) (SA.cons (SE.tup (SA.cons (SE.neg SE.int) (SA.cons SE.int SA.nil))) SA.nil))) (SA.cons (SE.call (hF 14 "levels_least" ["levels"] rfl) hr rfl (SA.cons (SE.tup (SA.cons (SE.tup (SA.cons SE.int (SA.cons SE.int SA.nil))) (SA.cons (SE.tup (SA.cons (SE.tup (SA.cons (SE.tup (SA.cons (SE.neg SE.int) (SA.cons SE.int SA.nil))) (SA.cons (SE.tup SA.nil) SA.nil))) (SA.cons (SE.tup (SA.cons (SE.tup (SA.cons SE.int (SA.cons SE.int SA.nil))) (SA.cons (SE.tup SA.nil) SA.nil))) SA.nil))) SA.nil))) SA.nil)) SA.nil)))) (SA.cons (SE.lst (SA.cons SE.int (SA.cons SE.int (SA.cons (SE.tup (SA.cons (SE.neg SE.int) (SA.cons SE.int SA.nil))) SA.nil)))) SA.nil))))
  SSs.nil)))⟩
end
theorem all_mk {l : PySem.W.OpenLaw} {w : World} {K : PySem.W.Frag} {h : Heap} {mg : Str → Option Value} {fa : Addr} {wf kk : Nat} {f0 f1 f2 f3 f4 f5 f6 f7 f8 f9 f10 f11 f12 f13 f14 f15 f16 f17 f18 f19 f20 f21 f22 f23 f24 f25 f26 f27 f28 f29 f30 f31 f32 f33 : Addr} (X : K.In h) (G : h.Ns mainGlobals mg) (hfa : mg "law" = some (.ref fa))
  {od0 an0 od1 an1 od2 an2 od3 an3 od4 an4 od5 an5 od6 an6 od7 an7 od8 an8 od9 an9 od10 an10 od11 an11 od12 an12 od13 an13 od14 an14 od15 an15 od16 an16 od17 an17 od18 an18 od19 an19 od20 an20 od21 an21 od22 an22 od23 an23 od24 an24 od25 an25 od26 an26 od27 an27 od28 an28 od29 an29 od30 an30 od31 an31 od32 an32 od33 an33 : Option Addr} {sl0 sl1 sl2 sl3 sl4 sl5 sl6 sl7 sl8 sl9 sl10 sl11 sl12 sl13 sl14 sl15 sl16 sl17 sl18 sl19 sl20 sl21 sl22 sl23 sl24 sl25 sl26 sl27 sl28 sl29 sl30 sl31 sl32 sl33 : Array (Option Value)} {oc0 kV0 dc0 pm0 cd0 ct0 oc1 kV1 dc1 pm1 cd1 ct1 oc2 kV2 dc2 pm2 cd2 ct2 oc3 kV3 dc3 pm3 cd3 ct3 oc4 kV4 dc4 pm4 cd4 ct4 oc5 kV5 dc5 pm5 cd5 ct5 oc6 kV6 dc6 pm6 cd6 ct6 oc7 kV7 dc7 pm7 cd7 ct7 oc8 kV8 dc8 pm8 cd8 ct8 oc9 kV9 dc9 pm9 cd9 ct9 oc10 kV10 dc10 pm10 cd10 ct10 oc11 kV11 dc11 pm11 cd11 ct11 oc12 kV12 dc12 pm12 cd12 ct12 oc13 kV13 dc13 pm13 cd13 ct13 oc14 kV14 dc14 pm14 cd14 ct14 oc15 kV15 dc15 pm15 cd15 ct15 oc16 kV16 dc16 pm16 cd16 ct16 oc17 kV17 dc17 pm17 cd17 ct17 oc18 kV18 dc18 pm18 cd18 ct18 oc19 kV19 dc19 pm19 cd19 ct19 oc20 kV20 dc20 pm20 cd20 ct20 oc21 kV21 dc21 pm21 cd21 ct21 oc22 kV22 dc22 pm22 cd22 ct22 oc23 kV23 dc23 pm23 cd23 ct23 oc24 kV24 dc24 pm24 cd24 ct24 oc25 kV25 dc25 pm25 cd25 ct25 oc26 kV26 dc26 pm26 cd26 ct26 oc27 kV27 dc27 pm27 cd27 ct27 oc28 kV28 dc28 pm28 cd28 ct28 oc29 kV29 dc29 pm29 cd29 ct29 oc30 kV30 dc30 pm30 cd30 ct30 oc31 kV31 dc31 pm31 cd31 ct31 oc32 kV32 dc32 pm32 cd32 ct32 oc33 kV33 dc33 pm33 cd33 ct33 : Value}
  (a0 : PySem.W.nsIn K mainGlobals "is_number" = some (some (.ref f0))) (l0 : K.lookup f0 = some ⟨oc0, od0, .func (PySem.W.fnOf "is_number" "is_number" (defArgs (top 3)) (defBody (top 3)) (defScope (top 3)) .none kV0 dc0 pm0 an0 cd0 ct0), sl0⟩) (c0 : PySem.W.codeIn K cd0 "is_number" = true) (k0 : PySem.W.keepIn K (.ref f0) = true)
  (a1 : PySem.W.nsIn K mainGlobals "is_long" = some (some (.ref f1))) (l1 : K.lookup f1 = some ⟨oc1, od1, .func (PySem.W.fnOf "is_long" "is_long" (defArgs (top 4)) (defBody (top 4)) (defScope (top 4)) .none kV1 dc1 pm1 an1 cd1 ct1), sl1⟩) (c1 : PySem.W.codeIn K cd1 "is_long" = true) (k1 : PySem.W.keepIn K (.ref f1) = true)
  (a2 : PySem.W.nsIn K mainGlobals "are_numbers" = some (some (.ref f2))) (l2 : K.lookup f2 = some ⟨oc2, od2, .func (PySem.W.fnOf "are_numbers" "are_numbers" (defArgs (top 5)) (defBody (top 5)) (defScope (top 5)) .none kV2 dc2 pm2 an2 cd2 ct2), sl2⟩) (c2 : PySem.W.codeIn K cd2 "are_numbers" = true) (k2 : PySem.W.keepIn K (.ref f2) = true)
  (a3 : PySem.W.nsIn K mainGlobals "tupled" = some (some (.ref f3))) (l3 : K.lookup f3 = some ⟨oc3, od3, .func (PySem.W.fnOf "tupled" "tupled" (defArgs (top 6)) (defBody (top 6)) (defScope (top 6)) .none kV3 dc3 pm3 an3 cd3 ct3), sl3⟩) (c3 : PySem.W.codeIn K cd3 "tupled" = true) (k3 : PySem.W.keepIn K (.ref f3) = true)
  (a4 : PySem.W.nsIn K mainGlobals "common" = some (some (.ref f4))) (l4 : K.lookup f4 = some ⟨oc4, od4, .func (PySem.W.fnOf "common" "common" (defArgs (top 7)) (defBody (top 7)) (defScope (top 7)) .none kV4 dc4 pm4 an4 cd4 ct4), sl4⟩) (c4 : PySem.W.codeIn K cd4 "common" = true) (k4 : PySem.W.keepIn K (.ref f4) = true)
  (a5 : PySem.W.nsIn K mainGlobals "cut_down" = some (some (.ref f5))) (l5 : K.lookup f5 = some ⟨oc5, od5, .func (PySem.W.fnOf "cut_down" "cut_down" (defArgs (top 8)) (defBody (top 8)) (defScope (top 8)) .none kV5 dc5 pm5 an5 cd5 ct5), sl5⟩) (c5 : PySem.W.codeIn K cd5 "cut_down" = true) (k5 : PySem.W.keepIn K (.ref f5) = true)
  (a6 : PySem.W.nsIn K mainGlobals "is_fraction" = some (some (.ref f6))) (l6 : K.lookup f6 = some ⟨oc6, od6, .func (PySem.W.fnOf "is_fraction" "is_fraction" (defArgs (top 9)) (defBody (top 9)) (defScope (top 9)) .none kV6 dc6 pm6 an6 cd6 ct6), sl6⟩) (c6 : PySem.W.codeIn K cd6 "is_fraction" = true) (k6 : PySem.W.keepIn K (.ref f6) = true)
  (a7 : PySem.W.nsIn K mainGlobals "taken" = some (some (.ref f7))) (l7 : K.lookup f7 = some ⟨oc7, od7, .func (PySem.W.fnOf "taken" "taken" (defArgs (top 10)) (defBody (top 10)) (defScope (top 10)) .none kV7 dc7 pm7 an7 cd7 ct7), sl7⟩) (c7 : PySem.W.codeIn K cd7 "taken" = true) (k7 : PySem.W.keepIn K (.ref f7) = true)
  (a8 : PySem.W.nsIn K mainGlobals "is_levels_in" = some (some (.ref f8))) (l8 : K.lookup f8 = some ⟨oc8, od8, .func (PySem.W.fnOf "is_levels_in" "is_levels_in" (defArgs (top 12)) (defBody (top 12)) (defScope (top 12)) .none kV8 dc8 pm8 an8 cd8 ct8), sl8⟩) (c8 : PySem.W.codeIn K cd8 "is_levels_in" = true) (k8 : PySem.W.keepIn K (.ref f8) = true)
  (a9 : PySem.W.nsIn K mainGlobals "sure_levels" = some (some (.ref f9))) (l9 : K.lookup f9 = some ⟨oc9, od9, .func (PySem.W.fnOf "sure_levels" "sure_levels" (defArgs (top 13)) (defBody (top 13)) (defScope (top 13)) .none kV9 dc9 pm9 an9 cd9 ct9), sl9⟩) (c9 : PySem.W.codeIn K cd9 "sure_levels" = true) (k9 : PySem.W.keepIn K (.ref f9) = true)
  (a10 : PySem.W.nsIn K mainGlobals "least_in" = some (some (.ref f10))) (l10 : K.lookup f10 = some ⟨oc10, od10, .func (PySem.W.fnOf "least_in" "least_in" (defArgs (top 14)) (defBody (top 14)) (defScope (top 14)) .none kV10 dc10 pm10 an10 cd10 ct10), sl10⟩) (c10 : PySem.W.codeIn K cd10 "least_in" = true) (k10 : PySem.W.keepIn K (.ref f10) = true)
  (a11 : PySem.W.nsIn K mainGlobals "lengths_in" = some (some (.ref f11))) (l11 : K.lookup f11 = some ⟨oc11, od11, .func (PySem.W.fnOf "lengths_in" "lengths_in" (defArgs (top 15)) (defBody (top 15)) (defScope (top 15)) .none kV11 dc11 pm11 an11 cd11 ct11), sl11⟩) (c11 : PySem.W.codeIn K cd11 "lengths_in" = true) (k11 : PySem.W.keepIn K (.ref f11) = true)
  (a12 : PySem.W.nsIn K mainGlobals "rank_in" = some (some (.ref f12))) (l12 : K.lookup f12 = some ⟨oc12, od12, .func (PySem.W.fnOf "rank_in" "rank_in" (defArgs (top 16)) (defBody (top 16)) (defScope (top 16)) .none kV12 dc12 pm12 an12 cd12 ct12), sl12⟩) (c12 : PySem.W.codeIn K cd12 "rank_in" = true) (k12 : PySem.W.keepIn K (.ref f12) = true)
  (a13 : PySem.W.nsIn K mainGlobals "is_levels" = some (some (.ref f13))) (l13 : K.lookup f13 = some ⟨oc13, od13, .func (PySem.W.fnOf "is_levels" "is_levels" (defArgs (top 17)) (defBody (top 17)) (defScope (top 17)) .none kV13 dc13 pm13 an13 cd13 ct13), sl13⟩) (c13 : PySem.W.codeIn K cd13 "is_levels" = true) (k13 : PySem.W.keepIn K (.ref f13) = true)
  (a14 : PySem.W.nsIn K mainGlobals "levels_least" = some (some (.ref f14))) (l14 : K.lookup f14 = some ⟨oc14, od14, .func (PySem.W.fnOf "levels_least" "levels_least" (defArgs (top 18)) (defBody (top 18)) (defScope (top 18)) .none kV14 dc14 pm14 an14 cd14 ct14), sl14⟩) (c14 : PySem.W.codeIn K cd14 "levels_least" = true) (k14 : PySem.W.keepIn K (.ref f14) = true)
  (a15 : PySem.W.nsIn K mainGlobals "levels_ends" = some (some (.ref f15))) (l15 : K.lookup f15 = some ⟨oc15, od15, .func (PySem.W.fnOf "levels_ends" "levels_ends" (defArgs (top 19)) (defBody (top 19)) (defScope (top 19)) .none kV15 dc15 pm15 an15 cd15 ct15), sl15⟩) (c15 : PySem.W.codeIn K cd15 "levels_ends" = true) (k15 : PySem.W.keepIn K (.ref f15) = true)
  (a16 : PySem.W.nsIn K mainGlobals "levels_rank" = some (some (.ref f16))) (l16 : K.lookup f16 = some ⟨oc16, od16, .func (PySem.W.fnOf "levels_rank" "levels_rank" (defArgs (top 20)) (defBody (top 20)) (defScope (top 20)) .none kV16 dc16 pm16 an16 cd16 ct16), sl16⟩) (c16 : PySem.W.codeIn K cd16 "levels_rank" = true) (k16 : PySem.W.keepIn K (.ref f16) = true)
  (a17 : PySem.W.nsIn K mainGlobals "lots_at" = some (some (.ref f17))) (l17 : K.lookup f17 = some ⟨oc17, od17, .func (PySem.W.fnOf "lots_at" "lots_at" (defArgs (top 21)) (defBody (top 21)) (defScope (top 21)) .none kV17 dc17 pm17 an17 cd17 ct17), sl17⟩) (c17 : PySem.W.codeIn K cd17 "lots_at" = true) (k17 : PySem.W.keepIn K (.ref f17) = true)
  (a18 : PySem.W.nsIn K mainGlobals "lots_up_to" = some (some (.ref f18))) (l18 : K.lookup f18 = some ⟨oc18, od18, .func (PySem.W.fnOf "lots_up_to" "lots_up_to" (defArgs (top 22)) (defBody (top 22)) (defScope (top 22)) .none kV18 dc18 pm18 an18 cd18 ct18), sl18⟩) (c18 : PySem.W.codeIn K cd18 "lots_up_to" = true) (k18 : PySem.W.keepIn K (.ref f18) = true)
  (a19 : PySem.W.nsIn K mainGlobals "_law_box" = some (some (.ref f19))) (l19 : K.lookup f19 = some ⟨oc19, od19, .func (PySem.W.fnOf "_law_box" "_law_box" (defArgs (top 24)) (defBody (top 24)) (defScope (top 24)) .none kV19 dc19 pm19 an19 cd19 ct19), sl19⟩) (c19 : PySem.W.codeIn K cd19 "_law_box" = true) (k19 : PySem.W.keepIn K (.ref f19) = true)
  (a20 : PySem.W.nsIn K mainGlobals "_law_take" = some (some (.ref f20))) (l20 : K.lookup f20 = some ⟨oc20, od20, .func (PySem.W.fnOf "_law_take" "_law_take" (defArgs (top 25)) (defBody (top 25)) (defScope (top 25)) .none kV20 dc20 pm20 an20 cd20 ct20), sl20⟩) (c20 : PySem.W.codeIn K cd20 "_law_take" = true) (k20 : PySem.W.keepIn K (.ref f20) = true)
  (a21 : PySem.W.nsIn K mainGlobals "_law_cells" = some (some (.ref f21))) (l21 : K.lookup f21 = some ⟨oc21, od21, .func (PySem.W.fnOf "_law_cells" "_law_cells" (defArgs (top 26)) (defBody (top 26)) (defScope (top 26)) .none kV21 dc21 pm21 an21 cd21 ct21), sl21⟩) (c21 : PySem.W.codeIn K cd21 "_law_cells" = true) (k21 : PySem.W.keepIn K (.ref f21) = true)
  (a22 : PySem.W.nsIn K mainGlobals "_law_lists" = some (some (.ref f22))) (l22 : K.lookup f22 = some ⟨oc22, od22, .func (PySem.W.fnOf "_law_lists" "_law_lists" (defArgs (top 27)) (defBody (top 27)) (defScope (top 27)) .none kV22 dc22 pm22 an22 cd22 ct22), sl22⟩) (c22 : PySem.W.codeIn K cd22 "_law_lists" = true) (k22 : PySem.W.keepIn K (.ref f22) = true)
  (a23 : PySem.W.nsIn K mainGlobals "_law_same" = some (some (.ref f23))) (l23 : K.lookup f23 = some ⟨oc23, od23, .func (PySem.W.fnOf "_law_same" "_law_same" (defArgs (top 28)) (defBody (top 28)) (defScope (top 28)) .none kV23 dc23 pm23 an23 cd23 ct23), sl23⟩) (c23 : PySem.W.codeIn K cd23 "_law_same" = true) (k23 : PySem.W.keepIn K (.ref f23) = true)
  (a24 : PySem.W.nsIn K mainGlobals "_law_common" = some (some (.ref f24))) (l24 : K.lookup f24 = some ⟨oc24, od24, .func (PySem.W.fnOf "_law_common" "_law_common" (defArgs (top 29)) (defBody (top 29)) (defScope (top 29)) .none kV24 dc24 pm24 an24 cd24 ct24), sl24⟩) (c24 : PySem.W.codeIn K cd24 "_law_common" = true) (k24 : PySem.W.keepIn K (.ref f24) = true)
  (a25 : PySem.W.nsIn K mainGlobals "_law_cut" = some (some (.ref f25))) (l25 : K.lookup f25 = some ⟨oc25, od25, .func (PySem.W.fnOf "_law_cut" "_law_cut" (defArgs (top 30)) (defBody (top 30)) (defScope (top 30)) .none kV25 dc25 pm25 an25 cd25 ct25), sl25⟩) (c25 : PySem.W.codeIn K cd25 "_law_cut" = true) (k25 : PySem.W.keepIn K (.ref f25) = true)
  (a26 : PySem.W.nsIn K mainGlobals "_law_plus" = some (some (.ref f26))) (l26 : K.lookup f26 = some ⟨oc26, od26, .func (PySem.W.fnOf "_law_plus" "_law_plus" (defArgs (top 31)) (defBody (top 31)) (defScope (top 31)) .none kV26 dc26 pm26 an26 cd26 ct26), sl26⟩) (c26 : PySem.W.codeIn K cd26 "_law_plus" = true) (k26 : PySem.W.keepIn K (.ref f26) = true)
  (a27 : PySem.W.nsIn K mainGlobals "_law_flat" = some (some (.ref f27))) (l27 : K.lookup f27 = some ⟨oc27, od27, .func (PySem.W.fnOf "_law_flat" "_law_flat" (defArgs (top 32)) (defBody (top 32)) (defScope (top 32)) .none kV27 dc27 pm27 an27 cd27 ct27), sl27⟩) (c27 : PySem.W.codeIn K cd27 "_law_flat" = true) (k27 : PySem.W.keepIn K (.ref f27) = true)
  (a28 : PySem.W.nsIn K mainGlobals "_law_less" = some (some (.ref f28))) (l28 : K.lookup f28 = some ⟨oc28, od28, .func (PySem.W.fnOf "_law_less" "_law_less" (defArgs (top 33)) (defBody (top 33)) (defScope (top 33)) .none kV28 dc28 pm28 an28 cd28 ct28), sl28⟩) (c28 : PySem.W.codeIn K cd28 "_law_less" = true) (k28 : PySem.W.keepIn K (.ref f28) = true)
  (a29 : PySem.W.nsIn K mainGlobals "_law_in_order" = some (some (.ref f29))) (l29 : K.lookup f29 = some ⟨oc29, od29, .func (PySem.W.fnOf "_law_in_order" "_law_in_order" (defArgs (top 34)) (defBody (top 34)) (defScope (top 34)) .none kV29 dc29 pm29 an29 cd29 ct29), sl29⟩) (c29 : PySem.W.codeIn K cd29 "_law_in_order" = true) (k29 : PySem.W.keepIn K (.ref f29) = true)
  (a30 : PySem.W.nsIn K mainGlobals "_law_drawn" = some (some (.ref f30))) (l30 : K.lookup f30 = some ⟨oc30, od30, .func (PySem.W.fnOf "_law_drawn" "_law_drawn" (defArgs (top 35)) (defBody (top 35)) (defScope (top 35)) .none kV30 dc30 pm30 an30 cd30 ct30), sl30⟩) (c30 : PySem.W.codeIn K cd30 "_law_drawn" = true) (k30 : PySem.W.keepIn K (.ref f30) = true)
  (a31 : PySem.W.nsIn K mainGlobals "_law_ends" = some (some (.ref f31))) (l31 : K.lookup f31 = some ⟨oc31, od31, .func (PySem.W.fnOf "_law_ends" "_law_ends" (defArgs (top 36)) (defBody (top 36)) (defScope (top 36)) .none kV31 dc31 pm31 an31 cd31 ct31), sl31⟩) (c31 : PySem.W.codeIn K cd31 "_law_ends" = true) (k31 : PySem.W.keepIn K (.ref f31) = true)
  (a32 : PySem.W.nsIn K mainGlobals "_law_lots" = some (some (.ref f32))) (l32 : K.lookup f32 = some ⟨oc32, od32, .func (PySem.W.fnOf "_law_lots" "_law_lots" (defArgs (top 37)) (defBody (top 37)) (defScope (top 37)) .none kV32 dc32 pm32 an32 cd32 ct32), sl32⟩) (c32 : PySem.W.codeIn K cd32 "_law_lots" = true) (k32 : PySem.W.keepIn K (.ref f32) = true)
  (a33 : PySem.W.nsIn K mainGlobals "law" = some (some (.ref f33))) (l33 : K.lookup f33 = some ⟨oc33, od33, .func (PySem.W.fnOf "law" "law" (defArgs (top 38)) (defBody (top 38)) (defScope (top 38)) .none kV33 dc33 pm33 an33 cd33 ct33), sl33⟩) (c33 : PySem.W.codeIn K cd33 "law" = true) (k33 : PySem.W.keepIn K (.ref f33) = true)
  (z_abs : PySem.W.nsIn K mainGlobals "abs" = some none) (z_all : PySem.W.nsIn K mainGlobals "all" = some none) (z_bool : PySem.W.nsIn K mainGlobals "bool" = some none) (z_enumerate : PySem.W.nsIn K mainGlobals "enumerate" = some none) (z_int : PySem.W.nsIn K mainGlobals "int" = some none) (z_isinstance : PySem.W.nsIn K mainGlobals "isinstance" = some none) (z_len : PySem.W.nsIn K mainGlobals "len" = some none) (z_list : PySem.W.nsIn K mainGlobals "list" = some none) (z_range : PySem.W.nsIn K mainGlobals "range" = some none) (z_sorted : PySem.W.nsIn K mainGlobals "sorted" = some none) (z_str : PySem.W.nsIn K mainGlobals "str" = some none) (z_sum : PySem.W.nsIn K mainGlobals "sum" = some none) (z_tuple : PySem.W.nsIn K mainGlobals "tuple" = some none) (z_zip : PySem.W.nsIn K mainGlobals "zip" = some none) :
  ∃ fd : FuncData, (∀ (s : Shared) (v : Value), BindsTo s fd ⟨[v], []⟩ [("script", v)]) ∧ ∀ base : Heap, K.In base → base.Ns mainGlobals mg → FnOk l.prog w K mg base (L2.CX l.prog w) (kk + 1) fa fd ["script"] (SpD K 1 (runF wf T (kk + 1) 33)) := by
  have e := hfa.symm.trans (PySem.W.mg_of X G a33)
  cases e
  have T0 : Txt mg := ⟨PySem.W.mg_none_of X G z_abs, PySem.W.mg_none_of X G z_all, PySem.W.mg_none_of X G z_bool, PySem.W.mg_none_of X G z_enumerate, PySem.W.mg_none_of X G z_int, PySem.W.mg_none_of X G z_isinstance, PySem.W.mg_none_of X G z_len, PySem.W.mg_none_of X G z_list, PySem.W.mg_none_of X G z_range, PySem.W.mg_none_of X G z_sorted, PySem.W.mg_none_of X G z_str, PySem.W.mg_none_of X G z_sum, PySem.W.mg_none_of X G z_tuple, PySem.W.mg_none_of X G z_zip⟩
  have D0 : DefOk K mg "is_number" (top 3) ["thing"] := .mk' X G a0 l0 c0 k0 (fun us hl => match us, hl with | [_], _ => rfl) (fun us hl => match us, hl with | [_], _ => rfl)
  have D1 : DefOk K mg "is_long" (top 4) ["thing", "length"] := .mk' X G a1 l1 c1 k1 (fun us hl => match us, hl with | [_, _], _ => rfl) (fun us hl => match us, hl with | [_, _], _ => rfl)
  have D2 : DefOk K mg "are_numbers" (top 5) ["thing"] := .mk' X G a2 l2 c2 k2 (fun us hl => match us, hl with | [_], _ => rfl) (fun us hl => match us, hl with | [_], _ => rfl)
  have D3 : DefOk K mg "tupled" (top 6) ["value"] := .mk' X G a3 l3 c3 k3 (fun us hl => match us, hl with | [_], _ => rfl) (fun us hl => match us, hl with | [_], _ => rfl)
  have D4 : DefOk K mg "common" (top 7) ["one", "other"] := .mk' X G a4 l4 c4 k4 (fun us hl => match us, hl with | [_, _], _ => rfl) (fun us hl => match us, hl with | [_, _], _ => rfl)
  have D5 : DefOk K mg "cut_down" (top 8) ["over_it", "under"] := .mk' X G a5 l5 c5 k5 (fun us hl => match us, hl with | [_, _], _ => rfl) (fun us hl => match us, hl with | [_, _], _ => rfl)
  have D6 : DefOk K mg "is_fraction" (top 9) ["thing"] := .mk' X G a6 l6 c6 k6 (fun us hl => match us, hl with | [_], _ => rfl) (fun us hl => match us, hl with | [_], _ => rfl)
  have D7 : DefOk K mg "taken" (top 10) ["one", "other"] := .mk' X G a7 l7 c7 k7 (fun us hl => match us, hl with | [_, _], _ => rfl) (fun us hl => match us, hl with | [_, _], _ => rfl)
  have D8 : DefOk K mg "is_levels_in" (top 12) ["thing"] := .mk' X G a8 l8 c8 k8 (fun us hl => match us, hl with | [_], _ => rfl) (fun us hl => match us, hl with | [_], _ => rfl)
  have D9 : DefOk K mg "sure_levels" (top 13) ["value"] := .mk' X G a9 l9 c9 k9 (fun us hl => match us, hl with | [_], _ => rfl) (fun us hl => match us, hl with | [_], _ => rfl)
  have D10 : DefOk K mg "least_in" (top 14) ["levels"] := .mk' X G a10 l10 c10 k10 (fun us hl => match us, hl with | [_], _ => rfl) (fun us hl => match us, hl with | [_], _ => rfl)
  have D11 : DefOk K mg "lengths_in" (top 15) ["levels"] := .mk' X G a11 l11 c11 k11 (fun us hl => match us, hl with | [_], _ => rfl) (fun us hl => match us, hl with | [_], _ => rfl)
  have D12 : DefOk K mg "rank_in" (top 16) ["levels"] := .mk' X G a12 l12 c12 k12 (fun us hl => match us, hl with | [_], _ => rfl) (fun us hl => match us, hl with | [_], _ => rfl)
  have D13 : DefOk K mg "is_levels" (top 17) ["thing"] := .mk' X G a13 l13 c13 k13 (fun us hl => match us, hl with | [_], _ => rfl) (fun us hl => match us, hl with | [_], _ => rfl)
  have D14 : DefOk K mg "levels_least" (top 18) ["levels"] := .mk' X G a14 l14 c14 k14 (fun us hl => match us, hl with | [_], _ => rfl) (fun us hl => match us, hl with | [_], _ => rfl)
  have D15 : DefOk K mg "levels_ends" (top 19) ["levels"] := .mk' X G a15 l15 c15 k15 (fun us hl => match us, hl with | [_], _ => rfl) (fun us hl => match us, hl with | [_], _ => rfl)
  have D16 : DefOk K mg "levels_rank" (top 20) ["levels"] := .mk' X G a16 l16 c16 k16 (fun us hl => match us, hl with | [_], _ => rfl) (fun us hl => match us, hl with | [_], _ => rfl)
  have D17 : DefOk K mg "lots_at" (top 21) ["levels", "number"] := .mk' X G a17 l17 c17 k17 (fun us hl => match us, hl with | [_, _], _ => rfl) (fun us hl => match us, hl with | [_, _], _ => rfl)
  have D18 : DefOk K mg "lots_up_to" (top 22) ["levels", "number"] := .mk' X G a18 l18 c18 k18 (fun us hl => match us, hl with | [_, _], _ => rfl) (fun us hl => match us, hl with | [_, _], _ => rfl)
  have D19 : DefOk K mg "_law_box" (top 24) ["script", "k"] := .mk' X G a19 l19 c19 k19 (fun us hl => match us, hl with | [_, _], _ => rfl) (fun us hl => match us, hl with | [_, _], _ => rfl)
  have D20 : DefOk K mg "_law_take" (top 25) ["tin", "below_so"] := .mk' X G a20 l20 c20 k20 (fun us hl => match us, hl with | [_, _], _ => rfl) (fun us hl => match us, hl with | [_, _], _ => rfl)
  have D21 : DefOk K mg "_law_cells" (top 26) ["script", "most_so"] := .mk' X G a21 l21 c21 k21 (fun us hl => match us, hl with | [_, _], _ => rfl) (fun us hl => match us, hl with | [_, _], _ => rfl)
  have D22 : DefOk K mg "_law_lists" (top 27) ["matter"] := .mk' X G a22 l22 c22 k22 (fun us hl => match us, hl with | [_], _ => rfl) (fun us hl => match us, hl with | [_], _ => rfl)
  have D23 : DefOk K mg "_law_same" (top 28) ["got", "due"] := .mk' X G a23 l23 c23 k23 (fun us hl => match us, hl with | [_, _], _ => rfl) (fun us hl => match us, hl with | [_, _], _ => rfl)
  have D24 : DefOk K mg "_law_common" (top 29) ["one_so", "two"] := .mk' X G a24 l24 c24 k24 (fun us hl => match us, hl with | [_, _], _ => rfl) (fun us hl => match us, hl with | [_, _], _ => rfl)
  have D25 : DefOk K mg "_law_cut" (top 30) ["over_so", "under_so"] := .mk' X G a25 l25 c25 k25 (fun us hl => match us, hl with | [_, _], _ => rfl) (fun us hl => match us, hl with | [_, _], _ => rfl)
  have D26 : DefOk K mg "_law_plus" (top 31) ["one_so", "two"] := .mk' X G a26 l26 c26 k26 (fun us hl => match us, hl with | [_, _], _ => rfl) (fun us hl => match us, hl with | [_, _], _ => rfl)
  have D27 : DefOk K mg "_law_flat" (top 32) ["rows_so"] := .mk' X G a27 l27 c27 k27 (fun us hl => match us, hl with | [_], _ => rfl) (fun us hl => match us, hl with | [_], _ => rfl)
  have D28 : DefOk K mg "_law_less" (top 33) ["one_so", "two"] := .mk' X G a28 l28 c28 k28 (fun us hl => match us, hl with | [_, _], _ => rfl) (fun us hl => match us, hl with | [_, _], _ => rfl)
  have D29 : DefOk K mg "_law_in_order" (top 34) ["rows_so"] := .mk' X G a29 l29 c29 k29 (fun us hl => match us, hl with | [_], _ => rfl) (fun us hl => match us, hl with | [_], _ => rfl)
  have D30 : DefOk K mg "_law_drawn" (top 35) ["tin", "height_so", "depth_so"] := .mk' X G a30 l30 c30 k30 (fun us hl => match us, hl with | [_, _, _], _ => rfl) (fun us hl => match us, hl with | [_, _, _], _ => rfl)
  have D31 : DefOk K mg "_law_ends" (top 36) ["levels_so"] := .mk' X G a31 l31 c31 k31 (fun us hl => match us, hl with | [_], _ => rfl) (fun us hl => match us, hl with | [_], _ => rfl)
  have D32 : DefOk K mg "_law_lots" (top 37) ["levels_so", "number_so"] := .mk' X G a32 l32 c32 k32 (fun us hl => match us, hl with | [_, _], _ => rfl) (fun us hl => match us, hl with | [_, _], _ => rfl)
  have D33 : DefOk K mg "law" (top 38) ["script"] := .mk' X G a33 l33 c33 k33 (fun us hl => match us, hl with | [_], _ => rfl) (fun us hl => match us, hl with | [_], _ => rfl)
  have B : ∀ base : Heap, ∀ (j : Nat) (x : Str) (ps : List Str), L[j]? = some (x, ps) → ∃ st d, T[j]? = some d ∧ DefOk K mg x st ps ∧ BodyOk l.prog w K mg base wf L x st ps d := fun base j x ps hj => by
    match j, hj with
    | 0, hj => cases hj; exact ⟨_, _, rfl, D0, b_is_number T0⟩
    | 1, hj => cases hj; exact ⟨_, _, rfl, D1, b_is_long T0⟩
    | 2, hj => cases hj; exact ⟨_, _, rfl, D2, b_are_numbers T0⟩
    | 3, hj => cases hj; exact ⟨_, _, rfl, D3, b_tupled T0⟩
    | 4, hj => cases hj; exact ⟨_, _, rfl, D4, b_common T0⟩
    | 5, hj => cases hj; exact ⟨_, _, rfl, D5, b_cut_down T0⟩
    | 6, hj => cases hj; exact ⟨_, _, rfl, D6, b_is_fraction T0⟩
    | 7, hj => cases hj; exact ⟨_, _, rfl, D7, b_taken T0⟩
    | 8, hj => cases hj; exact ⟨_, _, rfl, D8, b_is_levels_in T0⟩
    | 9, hj => cases hj; exact ⟨_, _, rfl, D9, b_sure_levels T0⟩
    | 10, hj => cases hj; exact ⟨_, _, rfl, D10, b_least_in T0⟩
    | 11, hj => cases hj; exact ⟨_, _, rfl, D11, b_lengths_in T0⟩
    | 12, hj => cases hj; exact ⟨_, _, rfl, D12, b_rank_in T0⟩
    | 13, hj => cases hj; exact ⟨_, _, rfl, D13, b_is_levels T0⟩
    | 14, hj => cases hj; exact ⟨_, _, rfl, D14, b_levels_least T0⟩
    | 15, hj => cases hj; exact ⟨_, _, rfl, D15, b_levels_ends T0⟩
    | 16, hj => cases hj; exact ⟨_, _, rfl, D16, b_levels_rank T0⟩
    | 17, hj => cases hj; exact ⟨_, _, rfl, D17, b_lots_at T0⟩
    | 18, hj => cases hj; exact ⟨_, _, rfl, D18, b_lots_up_to T0⟩
    | 19, hj => cases hj; exact ⟨_, _, rfl, D19, b__law_box T0⟩
    | 20, hj => cases hj; exact ⟨_, _, rfl, D20, b__law_take T0⟩
    | 21, hj => cases hj; exact ⟨_, _, rfl, D21, b__law_cells T0⟩
    | 22, hj => cases hj; exact ⟨_, _, rfl, D22, b__law_lists T0⟩
    | 23, hj => cases hj; exact ⟨_, _, rfl, D23, b__law_same T0⟩
    | 24, hj => cases hj; exact ⟨_, _, rfl, D24, b__law_common T0⟩
    | 25, hj => cases hj; exact ⟨_, _, rfl, D25, b__law_cut T0⟩
    | 26, hj => cases hj; exact ⟨_, _, rfl, D26, b__law_plus T0⟩
    | 27, hj => cases hj; exact ⟨_, _, rfl, D27, b__law_flat T0⟩
    | 28, hj => cases hj; exact ⟨_, _, rfl, D28, b__law_less T0⟩
    | 29, hj => cases hj; exact ⟨_, _, rfl, D29, b__law_in_order T0⟩
    | 30, hj => cases hj; exact ⟨_, _, rfl, D30, b__law_drawn T0⟩
    | 31, hj => cases hj; exact ⟨_, _, rfl, D31, b__law_ends T0⟩
    | 32, hj => cases hj; exact ⟨_, _, rfl, D32, b__law_lots T0⟩
    | 33, hj => cases hj; exact ⟨_, _, rfl, D33, b_law T0⟩
    | n + 34, hj => cases hj
  exact ⟨_, fun s v => .of_eq rfl, fun base _ _ => law_fn (B base) kk rfl (fun_mk (st := top 38) l33 c33 k33) (b_law T0)⟩
end Ab
end

section
set_option linter.all false
set_option maxRecDepth 100000
set_option maxHeartbeats 1000000
namespace Ab
open PySem L2
def lawW : Nat := 10000000
def lawK : Nat := 40
abbrev F (k : Nat) : CallF := runF lawW T k
/-- small enough for every product -/
def Sm_ (i : Int) : Prop := -1000000 ≤ i ∧ i ≤ 1000000
theorem mul_ok {i j : Int} (h : Sm_ i) : mulOk i j = true := by
  unfold mulOk
  rw [Bool.or_eq_true]
  left
  unfold Sm_ at h
  simp
  left
  omega
theorem mul_ok2 {i j : Int} (h : Sm_ j) : mulOk i j = true := by
  unfold mulOk
  rw [Bool.or_eq_true]
  left
  unfold Sm_ at h
  simp
  right
  omega
theorem div_ok {j : Int} (h : Sm_ j) : divOk j = true := by
  unfold divOk
  unfold Sm_ at h
  have h2 : j.natAbs < 2 ^ 20 := by omega
  have : j.natAbs.log2 < 21 := by
    by_cases h0 : j.natAbs = 0
    · rw [h0]; decide
    · have := (Nat.log2_lt h0).mpr h2
      omega
  simp
  omega
theorem wh_common {cf : CallF} (n : Nat) : ∀ (b a : Nat) (m : Nat) (M : Mem), b ≤ n → b < m →
    whR lawW cf (.bin (.cmp .NotEq) (.var 1) (.dat (.int 0))) (.cons (.par2 0 1 (.var 1) (.bin (.op .Mod) (.var 0) (.var 1))) .nil) m [some (.int a), some (.int b)] M = .ok (.nx [some (.int (Nat.gcd a b)), some (.int 0)]) M := by
  induction n with
  | zero =>
    intro b a m M h1 h2
    obtain rfl : b = 0 := by omega
    obtain ⟨m, rfl⟩ : ∃ m', m = m' + 1 := ⟨m - 1, by omega⟩
    rw [wh_stop (M' := M) (by simp)]
    simp
  | succ n ih =>
    intro b a m M h1 h2
    obtain ⟨m, rfl⟩ : ∃ m', m = m' + 1 := ⟨m - 1, by omega⟩
    by_cases hb : b = 0
    · subst hb
      rw [wh_stop (M' := M) (by simp)]
      simp
    · have hp : (0 : Int) < b := by omega
      have hlt := Nat.mod_lt a (Nat.pos_of_ne_zero hb)
      rw [wh_go (M' := M) (Γ2 := [some (.int b), some (.int (a % b : Nat))]) (M2 := M) (by simp [hb]) (by simp [b_mod hp]), ih (a % b) b m M (by omega) (by omega)]
      rw [Nat.gcd_comm b, ← Nat.gcd_rec, Nat.gcd_comm]
theorem r_common {k : Nat} {a b : Int} (h : Sm_ b) : Fz (F (k + 1)) 4 [.int a, .int b] (.int (Int.gcd a b)) := by
  have hb : b.natAbs < lawW := by
    unfold Sm_ at h
    show b.natAbs < 10000000
    omega
  refine Fz.of (M1 := []) rfl (run_of rfl rfl ?_) rfl
  show evSs lawW (F k) ir_common [some (.int a), some (.int b)] [] = _
  unfold ir_common
  simp [wh_common b.natAbs b.natAbs a.natAbs lawW [] (Nat.le_refl _) hb, Int.gcd]
theorem wh_common2 {cf : CallF} (x y : Option Dat) (n : Nat) : ∀ (b a : Nat) (m : Nat) (M : Mem), b ≤ n → b < m →
    whR lawW cf (.bin (.cmp .NotEq) (.var 3) (.dat (.int 0))) (.cons (.par2 2 3 (.var 3) (.bin (.op .Mod) (.var 2) (.var 3))) .nil) m [x, y, some (.int a), some (.int b)] M = .ok (.nx [x, y, some (.int (Nat.gcd a b)), some (.int 0)]) M := by
  induction n with
  | zero =>
    intro b a m M h1 h2
    obtain rfl : b = 0 := by omega
    obtain ⟨m, rfl⟩ : ∃ m', m = m' + 1 := ⟨m - 1, by omega⟩
    rw [wh_stop (M' := M) (by simp)]
    simp
  | succ n ih =>
    intro b a m M h1 h2
    obtain ⟨m, rfl⟩ : ∃ m', m = m' + 1 := ⟨m - 1, by omega⟩
    by_cases hb : b = 0
    · subst hb
      rw [wh_stop (M' := M) (by simp)]
      simp
    · have hp : (0 : Int) < b := by omega
      have hlt := Nat.mod_lt a (Nat.pos_of_ne_zero hb)
      rw [wh_go (M' := M) (Γ2 := [x, y, some (.int b), some (.int (a % b : Nat))]) (M2 := M) (by simp [hb]) (by simp [b_mod hp]), ih (a % b) b m M (by omega) (by omega)]
      rw [Nat.gcd_comm b, ← Nat.gcd_rec, Nat.gcd_comm]
theorem r_common2 {k : Nat} {a b : Int} (h : Sm_ b) : Fz (F (k + 1)) 24 [.int a, .int b] (.int (Int.gcd a b)) := by
  have hb : b.natAbs < lawW := by
    unfold Sm_ at h
    show b.natAbs < 10000000
    omega
  refine Fz.of (M1 := []) rfl (run_of rfl rfl ?_) rfl
  show evSs lawW (F k) ir__law_common [some (.int a), some (.int b), none, none] [] = _
  unfold ir__law_common
  simp [wh_common2 _ _ b.natAbs b.natAbs a.natAbs lawW [] (Nat.le_refl _) hb, Int.gcd]
/-- a fraction as data -/
def fr (p : Int × Int) : Dat := .tup [.int p.1, .int p.2]
def cutI (a b : Int) : Int × Int := (a / Int.gcd a b, b / Int.gcd a b)
theorem gcd_pos' {a b : Int} (h : 0 < b) : (0 : Int) < Int.gcd a b := by
  have : Int.gcd a b ≠ 0 := fun z => by
    rw [Int.gcd_eq_zero_iff] at z
    omega
  omega
theorem gcd_le {a b : Int} (h : 0 < b) (hb : b ≤ 1000000) : Sm_ (Int.gcd a b) := by
  have h1 : Int.gcd a b ∣ b.natAbs := Int.gcd_dvd_natAbs_right a b
  have h2 := Nat.le_of_dvd (by omega) h1
  unfold Sm_
  omega
theorem r_cut {k : Nat} {a b : Int} (h : 0 < b) (hb : b ≤ 1000000) : Fz (F (k + 2)) 5 [.int a, .int b] (fr (cutI a b)) := by
  have hs : Sm_ b := ⟨by omega, hb⟩
  refine Fz.of (M1 := []) rfl (run_of rfl rfl ?_) rfl
  show evSs lawW (F (k + 1)) ir_cut_down [some (.int a), some (.int b), none] [] = _
  unfold ir_cut_down
  simp [r_common (k := k) (a := a) hs [], h, b_div (gcd_pos' (a := a) h) (div_ok (gcd_le h hb)), fr, cutI]
theorem r_cut2 {k : Nat} {a b : Int} (h : 0 < b) (hb : b ≤ 1000000) : Fz (F (k + 2)) 25 [.int a, .int b] (fr (cutI a b)) := by
  have hs : Sm_ b := ⟨by omega, hb⟩
  refine Fz.of (M1 := []) rfl (run_of rfl rfl ?_) rfl
  show evSs lawW (F (k + 1)) ir__law_cut [some (.int a), some (.int b), none] [] = _
  unfold ir__law_cut
  simp [r_common2 (k := k) (a := a) hs [], h, b_div (gcd_pos' (a := a) h) (div_ok (gcd_le h hb)), fr, cutI]
theorem Sm_mul {a b : Int} (h : -1000 ≤ a ∧ a ≤ 1000) (k : 0 < b ∧ b ≤ 1000) : -1000000 ≤ a * b ∧ a * b ≤ 1000000 := by
  constructor
  · have := Int.mul_le_mul_of_nonneg_right h.1 (Int.le_of_lt k.1)
    have h2 : -1000 * b ≥ -1000 * 1000 := by omega
    omega
  · have := Int.mul_le_mul_of_nonneg_right h.2 (Int.le_of_lt k.1)
    have h2 : 1000 * b ≤ 1000 * 1000 := by omega
    omega
/-- what numbers of fractions here are -/
def Nm (p : Int × Int) : Prop := (-1000 ≤ p.1 ∧ p.1 ≤ 1000) ∧ 0 < p.2 ∧ p.2 ≤ 1000
theorem Nm.sm {p : Int × Int} (h : Nm p) : Sm_ p.1 ∧ Sm_ p.2 := by
  unfold Nm at h
  unfold Sm_
  omega
theorem r_taken {k : Nat} {p q : Int × Int} (hp : Nm p) (hq : Nm q) : Fz (F (k + 3)) 7 [fr p, fr q] (fr (cutI (p.1 * q.2 - q.1 * p.2) (p.2 * q.2))) := by
  have h1 := Int.mul_pos hp.2.1 hq.2.1
  have h2 : p.2 * q.2 ≤ 1000000 := (Sm_mul (a := p.2) (b := q.2) ⟨by have := hp.2.1; omega, hp.2.2⟩ hq.2).2
  refine Fz.of (M1 := []) rfl (run_of rfl rfl ?_) rfl
  show evSs lawW (F (k + 2)) ir_taken [some (fr p), some (fr q)] [] = _
  unfold ir_taken
  simp [fr, b_mul (mul_ok hp.sm.1), b_mul (mul_ok hq.sm.1), b_mul (mul_ok hp.sm.2)]
  rw [r_cut (k := k) h1 h2 []]
  simp [fr]
theorem r_plus {k : Nat} {p q : Int × Int} (hp : Nm p) (hq : Nm q) : Fz (F (k + 3)) 26 [fr p, fr q] (fr (cutI (p.1 * q.2 + q.1 * p.2) (p.2 * q.2))) := by
  have h1 := Int.mul_pos hp.2.1 hq.2.1
  have h2 : p.2 * q.2 ≤ 1000000 := (Sm_mul (a := p.2) (b := q.2) ⟨by have := hp.2.1; omega, hp.2.2⟩ hq.2).2
  refine Fz.of (M1 := []) rfl (run_of rfl rfl ?_) rfl
  show evSs lawW (F (k + 2)) ir__law_plus [some (fr p), some (fr q)] [] = _
  unfold ir__law_plus
  simp [fr, b_mul (mul_ok hp.sm.1), b_mul (mul_ok hq.sm.1), b_mul (mul_ok hp.sm.2)]
  rw [r_cut2 (k := k) h1 h2 []]
  simp [fr]
theorem r_less {k : Nat} {p q : Int × Int} (hp : Nm p) (hq : Nm q) : Fz (F (k + 1)) 28 [fr p, fr q] (.bl (decide (p.1 * q.2 < q.1 * p.2))) := by
  refine Fz.of (M1 := []) rfl (run_of rfl rfl ?_) rfl
  show evSs lawW (F k) ir__law_less [some (fr p), some (fr q)] [] = _
  unfold ir__law_less
  simp [fr, b_mul (mul_ok hp.sm.1), b_mul (mul_ok hq.sm.1)]
end Ab
end

section
set_option linter.all false
set_option maxRecDepth 100000
set_option maxHeartbeats 1000000
namespace Ab
open PySem L2
/-! ### what values are -/
@[simp] theorem isi_int {M : Mem} {ts : List Ty} {i : Int} : isiD M ts (.int i) = some (Ty.int.any ts) := rfl
@[simp] theorem isi_bl {M : Mem} {ts : List Ty} {i : Bool} : isiD M ts (.bl i) = some (Ty.bool.any ts) := rfl
@[simp] theorem isi_non {M : Mem} {ts : List Ty} : isiD M ts .non = some (Ty.non.any ts) := rfl
@[simp] theorem isi_tup {M : Mem} {ts : List Ty} {ds : List Dat} : isiD M ts (.tup ds) = some (Ty.tuple.any ts) := rfl
@[simp] theorem isi_lst {M : Mem} {ts : List Ty} {ds : List Dat} : isiD M ts (.lst ds) = some (Ty.list.any ts) := rfl
@[simp] theorem ty_any {t u : Ty} : t.any [u] = t.isa u := by unfold Ty.any Ty.any; rw [Bool.or_false]
@[simp] theorem ty_any2 {t u v : Ty} : t.any [u, v] = (t.isa u || t.isa v) := by unfold Ty.any; rw [ty_any]
@[simp] theorem isa_1 : Ty.int.isa .int = true := rfl
@[simp] theorem isa_2 : Ty.int.isa .bool = false := rfl
@[simp] theorem isa_3 : Ty.bool.isa .int = true := rfl
@[simp] theorem isa_4 : Ty.bool.isa .bool = true := rfl
@[simp] theorem isa_5 : Ty.tuple.isa .tuple = true := rfl
@[simp] theorem isa_6 : Ty.list.isa .list = true := rfl
@[simp] theorem isa_7 : Ty.tuple.isa .list = false := rfl
@[simp] theorem isa_8 : Ty.list.isa .tuple = false := rfl
@[simp] theorem isa_9 : Ty.int.isa .tuple = false := rfl
@[simp] theorem isa_10 : Ty.int.isa .list = false := rfl
@[simp] theorem isa_11 : Ty.int.isa .str = false := rfl
@[simp] theorem isa_12 : Ty.bool.isa .tuple = false := rfl
@[simp] theorem isa_13 : Ty.bool.isa .list = false := rfl
@[simp] theorem isa_14 : Ty.bool.isa .str = false := rfl
@[simp] theorem isa_15 : Ty.non.isa .tuple = false := rfl
@[simp] theorem isa_16 : Ty.non.isa .list = false := rfl
@[simp] theorem isa_17 : Ty.non.isa .int = false := rfl
@[simp] theorem isa_18 : Ty.tuple.isa .int = false := rfl
@[simp] theorem isa_19 : Ty.list.isa .int = false := rfl
@[simp] theorem isa_20 : Ty.tuple.isa .bool = false := rfl
@[simp] theorem isa_21 : Ty.list.isa .bool = false := rfl
@[simp] theorem u_isN {d : Dat} {M : Mem} : un1 .isN d M = (match d with | .oth _ => none | d => some (.bl d.isN, M)) := by cases d <;> rfl
@[simp] theorem eqv_int {M : Mem} {i j : Int} : eqvD M (.int i) (.int j) = some (decide (i = j)) := by
  show some (i == j) = _
  congr 1
@[simp] theorem eqv_bl {M : Mem} {i j : Bool} : eqvD M (.bl i) (.bl j) = some (i == j) := rfl
mutual
def plain : Dat → Bool
  | .non => true
  | .bl _ => true
  | .int _ => true
  | .tup ds => decide (ds.length ≤ 1000) && plains ds
  | .lst ds => decide (ds.length ≤ 1000) && plains ds
  | _ => false
def plains : List Dat → Bool
  | [] => true
  | d :: ds => plain d && plains ds
end
mutual
def dep : Dat → Nat
  | .tup ds => deps ds + 1
  | .lst ds => deps ds + 1
  | _ => 0
def deps : List Dat → Nat
  | [] => 0
  | d :: ds => max (dep d) (deps ds)
end
theorem plains_mem : ∀ {ds : List Dat}, plains ds = true → ∀ d ∈ ds, plain d = true
  | d :: ds, h, x, hx => by
    obtain ⟨h1, h2⟩ := Bool.and_eq_true_iff.mp (show (plain d && plains ds) = true from h)
    rcases List.mem_cons.mp hx with e | hx
    · rw [e]; exact h1
    · exact plains_mem h2 x hx
theorem deps_mem : ∀ {ds : List Dat}, ∀ d ∈ ds, dep d ≤ deps ds
  | d :: ds, x, hx => by
    show dep x ≤ max (dep d) (deps ds)
    rcases List.mem_cons.mp hx with e | hx
    · rw [e]; omega
    · have := deps_mem (ds := ds) x hx
      omega
mutual
theorem plain_np : ∀ {d : Dat}, plain d = true → d.np = true
  | .non, _ => rfl
  | .bl _, _ => rfl
  | .int _, _ => rfl
  | .tup ds, h => plains_np (Bool.and_eq_true_iff.mp (show (decide (ds.length ≤ 1000) && plains ds) = true from h)).2
  | .lst ds, h => plains_np (Bool.and_eq_true_iff.mp (show (decide (ds.length ≤ 1000) && plains ds) = true from h)).2
theorem plains_np : ∀ {ds : List Dat}, plains ds = true → Dat.nps ds = true
  | [], _ => rfl
  | d :: ds, h => by
    obtain ⟨h1, h2⟩ := Bool.and_eq_true_iff.mp (show (plain d && plains ds) = true from h)
    show (d.np && Dat.nps ds) = true
    rw [plain_np h1, plains_np h2]
    rfl
end
mutual
def tupD : Dat → Dat
  | .tup ds => .tup (tupDs ds)
  | .lst ds => .tup (tupDs ds)
  | d => d
def tupDs : List Dat → List Dat
  | [] => []
  | d :: ds => tupD d :: tupDs ds
end
mutual
def lstD : Dat → Dat
  | .tup ds => .lst (lstDs ds)
  | .lst ds => .lst (lstDs ds)
  | d => d
def lstDs : List Dat → List Dat
  | [] => []
  | d :: ds => lstD d :: lstDs ds
end
theorem tupDs_map : ∀ ds, tupDs ds = ds.map tupD
  | [] => rfl
  | d :: ds => by rw [List.map_cons, ← tupDs_map ds]; rfl
theorem lstDs_map : ∀ ds, lstDs ds = ds.map lstD
  | [] => rfl
  | d :: ds => by rw [List.map_cons, ← lstDs_map ds]; rfl
mutual
theorem plain_tupD : ∀ {d : Dat}, plain d = true → plain (tupD d) = true
  | .non, _ => rfl
  | .bl _, _ => rfl
  | .int _, _ => rfl
  | .tup ds, h => by
    obtain ⟨h1, h2⟩ := Bool.and_eq_true_iff.mp (show (decide (ds.length ≤ 1000) && plains ds) = true from h)
    show (decide ((tupDs ds).length ≤ 1000) && plains (tupDs ds)) = true
    rw [plains_tupD h2, tupDs_map, List.length_map, h1]
    rfl
  | .lst ds, h => by
    obtain ⟨h1, h2⟩ := Bool.and_eq_true_iff.mp (show (decide (ds.length ≤ 1000) && plains ds) = true from h)
    show (decide ((tupDs ds).length ≤ 1000) && plains (tupDs ds)) = true
    rw [plains_tupD h2, tupDs_map, List.length_map, h1]
    rfl
theorem plains_tupD : ∀ {ds : List Dat}, plains ds = true → plains (tupDs ds) = true
  | [], _ => rfl
  | d :: ds, h => by
    obtain ⟨h1, h2⟩ := Bool.and_eq_true_iff.mp (show (plain d && plains ds) = true from h)
    show (plain (tupD d) && plains (tupDs ds)) = true
    rw [plain_tupD h1, plains_tupD h2]
    rfl
end
mutual
theorem plain_lstD : ∀ {d : Dat}, plain d = true → plain (lstD d) = true
  | .non, _ => rfl
  | .bl _, _ => rfl
  | .int _, _ => rfl
  | .tup ds, h => by
    obtain ⟨h1, h2⟩ := Bool.and_eq_true_iff.mp (show (decide (ds.length ≤ 1000) && plains ds) = true from h)
    show (decide ((lstDs ds).length ≤ 1000) && plains (lstDs ds)) = true
    rw [plains_lstD h2, lstDs_map, List.length_map, h1]
    rfl
  | .lst ds, h => by
    obtain ⟨h1, h2⟩ := Bool.and_eq_true_iff.mp (show (decide (ds.length ≤ 1000) && plains ds) = true from h)
    show (decide ((lstDs ds).length ≤ 1000) && plains (lstDs ds)) = true
    rw [plains_lstD h2, lstDs_map, List.length_map, h1]
    rfl
theorem plains_lstD : ∀ {ds : List Dat}, plains ds = true → plains (lstDs ds) = true
  | [], _ => rfl
  | d :: ds, h => by
    obtain ⟨h1, h2⟩ := Bool.and_eq_true_iff.mp (show (plain d && plains ds) = true from h)
    show (plain (lstD d) && plains (lstDs ds)) = true
    rw [plain_lstD h1, plains_lstD h2]
    rfl
end
/-! ### the defs about values -/
theorem nps1 {d : Dat} (h : d.np = true) : Dat.nps [d] = true := by
  show (d.np && true) = true
  rw [h]
  rfl
theorem nps2 {d e : Dat} (h : d.np = true) (h2 : e.np = true) : Dat.nps [d, e] = true := by
  show (d.np && (e.np && true)) = true
  rw [h, h2]
  rfl
theorem len_ok {ds : List Dat} (h : plain (.tup ds) = true) : ds.length ≤ 1000 ∧ plains ds = true := by
  obtain ⟨h1, h2⟩ := Bool.and_eq_true_iff.mp (show (decide (ds.length ≤ 1000) && plains ds) = true from h)
  exact ⟨of_decide_eq_true h1, h2⟩
theorem lc_of {cf : CallF} {c : Bool} {t : Tgt} {vs : List Nat} {e : Ex} {Γ : Gam} {ds : List Dat} {g : Gd} {M : Mem} {f : Dat → Dat} (hl : ds.length ≤ 1000) (hg : gdOk M g = true) (h : ∀ d ∈ ds, ∃ Γ2, putT t d (wipeG Γ vs) = some Γ2 ∧ evE cf e Γ2 M = .ok (f d) M) :
    lcI cf c t vs (.dat (.bl true)) e Γ (ds, g) M = lcE c (ds.map f) M := by
  rw [lcI_ok hl hg, lcR_map hg h]
  rfl
mutual
theorem r_tupled : ∀ (d : Dat) (k : Nat), plain d = true → dep d < k → Fz (F k) 3 [d] (tupD d)
  | .non, k + 1, h, _ => by
    refine Fz.of (M1 := []) rfl (run_of rfl rfl ?_) rfl
    show evSs lawW (F k) ir_tupled [some .non, none] [] = _
    unfold ir_tupled
    simp [tupD]
  | .bl b, k + 1, h, _ => by
    refine Fz.of (M1 := []) rfl (run_of rfl rfl ?_) rfl
    show evSs lawW (F k) ir_tupled [some (.bl b), none] [] = _
    unfold ir_tupled
    simp [tupD]
  | .int b, k + 1, h, _ => by
    refine Fz.of (M1 := []) rfl (run_of rfl rfl ?_) rfl
    show evSs lawW (F k) ir_tupled [some (.int b), none] [] = _
    unfold ir_tupled
    simp [tupD]
  | .tup ds, k + 1, h, hk => by
    refine Fz.of (M1 := []) (nps1 (plain_np h)) (run_of rfl rfl ?_) (plain_np (plain_tupD h))
    obtain ⟨hl, hp⟩ := len_ok h
    have hk : deps ds + 1 < k + 1 := hk
    have ih := r_tupleds ds k hp (by omega)
    show evSs lawW (F k) ir_tupled [some (.tup ds), none] [] = _
    unfold ir_tupled
    simp
    rw [lc_of (f := tupD) hl rfl fun d hd => ⟨_, rfl, by simp [wipeG, ih d hd []]⟩]
    simp [tupD, tupDs_map]
  | .lst ds, k + 1, h, hk => by
    refine Fz.of (M1 := []) (nps1 (plain_np h)) (run_of rfl rfl ?_) (plain_np (plain_tupD h))
    obtain ⟨hl, hp⟩ := len_ok (ds := ds) h
    have hk : deps ds + 1 < k + 1 := hk
    have ih := r_tupleds ds k hp (by omega)
    show evSs lawW (F k) ir_tupled [some (.lst ds), none] [] = _
    unfold ir_tupled
    simp
    rw [lc_of (f := tupD) hl rfl fun d hd => ⟨_, rfl, by simp [wipeG, ih d hd []]⟩]
    simp [tupD, tupDs_map]
theorem r_tupleds : ∀ (ds : List Dat) (k : Nat), plains ds = true → deps ds < k → ∀ d ∈ ds, Fz (F k) 3 [d] (tupD d)
  | [], _, _, _, d, hd => by cases hd
  | d :: ds, k, h, hk, x, hx => by
    obtain ⟨h1, h2⟩ := Bool.and_eq_true_iff.mp (show (plain d && plains ds) = true from h)
    have hk : max (dep d) (deps ds) < k := hk
    by_cases e : x = d
    · rw [e]; exact r_tupled d k h1 (by omega)
    · exact r_tupleds ds k h2 (by omega) x ((List.mem_cons.mp hx).resolve_left e)
end
mutual
theorem r_lists : ∀ (d : Dat) (k : Nat), plain d = true → dep d < k → Fz (F k) 22 [d] (lstD d)
  | .non, k + 1, h, _ => by
    refine Fz.of (M1 := []) rfl (run_of rfl rfl ?_) rfl
    show evSs lawW (F k) ir__law_lists [some .non, none] [] = _
    unfold ir__law_lists
    simp [lstD]
  | .bl b, k + 1, h, _ => by
    refine Fz.of (M1 := []) rfl (run_of rfl rfl ?_) rfl
    show evSs lawW (F k) ir__law_lists [some (.bl b), none] [] = _
    unfold ir__law_lists
    simp [lstD]
  | .int b, k + 1, h, _ => by
    refine Fz.of (M1 := []) rfl (run_of rfl rfl ?_) rfl
    show evSs lawW (F k) ir__law_lists [some (.int b), none] [] = _
    unfold ir__law_lists
    simp [lstD]
  | .tup ds, k + 1, h, hk => by
    obtain ⟨hl, hp⟩ := len_ok h
    have hk : deps ds + 1 < k + 1 := hk
    have ih := r_listss ds k hp (by omega)
    refine Fz.ofL (k := 0) (xs := lstDs ds) (M1 := [.lst (lstDs ds)]) (nps1 (plain_np h)) (run_of rfl rfl ?_) rfl (plains_np (plains_lstD hp))
    show evSs lawW (F k) ir__law_lists [some (.tup ds), none] [] = _
    unfold ir__law_lists
    simp
    rw [lc_of (f := lstD) hl rfl fun d hd => ⟨_, rfl, by simp [wipeG, ih d hd []]⟩]
    simp [lstDs_map]
  | .lst ds, k + 1, h, hk => by
    obtain ⟨hl, hp⟩ := len_ok (ds := ds) h
    have hk : deps ds + 1 < k + 1 := hk
    have ih := r_listss ds k hp (by omega)
    refine Fz.ofL (k := 0) (xs := lstDs ds) (M1 := [.lst (lstDs ds)]) (nps1 (plain_np h)) (run_of rfl rfl ?_) rfl (plains_np (plains_lstD hp))
    show evSs lawW (F k) ir__law_lists [some (.lst ds), none] [] = _
    unfold ir__law_lists
    simp
    rw [lc_of (f := lstD) hl rfl fun d hd => ⟨_, rfl, by simp [wipeG, ih d hd []]⟩]
    simp [lstDs_map]
theorem r_listss : ∀ (ds : List Dat) (k : Nat), plains ds = true → deps ds < k → ∀ d ∈ ds, Fz (F k) 22 [d] (lstD d)
  | [], _, _, _, d, hd => by cases hd
  | d :: ds, k, h, hk, x, hx => by
    obtain ⟨h1, h2⟩ := Bool.and_eq_true_iff.mp (show (plain d && plains ds) = true from h)
    have hk : max (dep d) (deps ds) < k := hk
    by_cases e : x = d
    · rw [e]; exact r_lists d k h1 (by omega)
    · exact r_listss ds k h2 (by omega) x ((List.mem_cons.mp hx).resolve_left e)
end
theorem zip_self : ∀ (ds : List Dat), List.zipWith pairD ds ds = ds.map fun d => pairD d d
  | [] => rfl
  | d :: ds => by rw [List.zipWith_cons_cons, List.map_cons, zip_self ds]
theorem all_bl (n : Nat) : (List.replicate n true).all id = true := by
  induction n with
  | zero => rfl
  | succ n ih => rw [List.replicate_succ, List.all_cons, ih]; rfl
theorem all_same {ds : List Dat} {M : Mem} : un1 .all (.lst (ds.map fun _ => Dat.bl true)) M = some (.bl true, M) := by
  have : (ds.map fun _ => Dat.bl true) = (List.replicate ds.length true).map .bl := by
    induction ds with
    | nil => rfl
    | cons d ds ih => rw [List.map_cons, ih]; rfl
  rw [this, u_all, all_bl]
mutual
theorem r_same : ∀ (d : Dat) (k : Nat), plain d = true → dep d < k → Fz (F k) 23 [d, d] (.bl true)
  | .non, k + 1, h, _ => by
    refine Fz.of (M1 := []) rfl (run_of rfl rfl ?_) rfl
    show evSs lawW (F k) ir__law_same [some .non, some .non, none, none] [] = _
    unfold ir__law_same
    simp [Dat.isN]
  | .bl b, k + 1, h, _ => by
    refine Fz.of (M1 := []) rfl (run_of rfl rfl ?_) rfl
    show evSs lawW (F k) ir__law_same [some (.bl b), some (.bl b), none, none] [] = _
    unfold ir__law_same
    simp [Dat.isN]
  | .int b, k + 1, h, _ => by
    refine Fz.of (M1 := []) rfl (run_of rfl rfl ?_) rfl
    show evSs lawW (F k) ir__law_same [some (.int b), some (.int b), none, none] [] = _
    unfold ir__law_same
    simp [Dat.isN]
  | .tup ds, k + 1, h, hk => by
    obtain ⟨hl, hp⟩ := len_ok h
    have hk : deps ds + 1 < k + 1 := hk
    have ih := r_sames ds k hp (by omega)
    refine Fz.of (M1 := []) (nps2 (plain_np h) (plain_np h)) (run_of rfl rfl ?_) rfl
    show evSs lawW (F k) ir__law_same [some (.tup ds), some (.tup ds), none, none] [] = _
    unfold ir__law_same
    simp [zip_self]
    rw [lc_of (f := fun _ => .bl true) (by simpa using hl) rfl fun d hd => ?_]
    · simp [all_same, Function.comp_def]
    · obtain ⟨x, hx, e⟩ := List.mem_map.mp hd
      subst e
      exact ⟨_, rfl, by simp [wipeG, putAll, ih x hx []]⟩
  | .lst ds, k + 1, h, hk => by
    obtain ⟨hl, hp⟩ := len_ok (ds := ds) h
    have hk : deps ds + 1 < k + 1 := hk
    have ih := r_sames ds k hp (by omega)
    refine Fz.of (M1 := []) (nps2 (plain_np h) (plain_np h)) (run_of rfl rfl ?_) rfl
    show evSs lawW (F k) ir__law_same [some (.lst ds), some (.lst ds), none, none] [] = _
    unfold ir__law_same
    simp [zip_self]
    rw [lc_of (f := fun _ => .bl true) (by simpa using hl) rfl fun d hd => ?_]
    · simp [all_same, Function.comp_def]
    · obtain ⟨x, hx, e⟩ := List.mem_map.mp hd
      subst e
      exact ⟨_, rfl, by simp [wipeG, putAll, ih x hx []]⟩
theorem r_sames : ∀ (ds : List Dat) (k : Nat), plains ds = true → deps ds < k → ∀ d ∈ ds, Fz (F k) 23 [d, d] (.bl true)
  | [], _, _, _, d, hd => by cases hd
  | d :: ds, k, h, hk, x, hx => by
    obtain ⟨h1, h2⟩ := Bool.and_eq_true_iff.mp (show (plain d && plains ds) = true from h)
    have hk : max (dep d) (deps ds) < k := hk
    by_cases e : x = d
    · rw [e]; exact r_same d k h1 (by omega)
    · exact r_sames ds k h2 (by omega) x ((List.mem_cons.mp hx).resolve_left e)
end
end Ab
end

section
set_option linter.all false
set_option maxRecDepth 100000
set_option maxHeartbeats 1000000
namespace Ab
open PySem L2
mutual
inductive Lv where
  | mk (n : Int) (ks : Lvs)
inductive Lvs where
  | nil
  | cons (t : Lv) (ts : Lvs)
end
def Lv.n : Lv → Int
  | .mk n _ => n
def Lv.ks : Lv → Lvs
  | .mk _ ks => ks
def Lvs.len : Lvs → Nat
  | .nil => 0
  | .cons _ ts => ts.len + 1
mutual
def Lv.D (q : Int) : Lv → Dat
  | .mk n ks => .tup [fr (n, q), .tup (Lvs.D q ks)]
def Lvs.D (q : Int) : Lvs → List Dat
  | .nil => []
  | .cons t ts => Lv.D q t :: Lvs.D q ts
end
mutual
def Lv.dp : Lv → Nat
  | .mk _ ks => Lvs.dp ks
def Lvs.dp : Lvs → Nat
  | .nil => 0
  | .cons t ts => max (Lv.dp t + 1) (Lvs.dp ts)
end
mutual
def Lv.ok (q : Int) : Lv → Prop
  | .mk n ks => (-500 ≤ n ∧ n ≤ 500) ∧ Int.gcd n q = 1 ∧ ks.len ≠ 1 ∧ ks.len ≤ 3 ∧ isortD (Lvs.D q ks) = Lvs.D q ks ∧ Lvs.ok q n ks
def Lvs.ok (q : Int) (n : Int) : Lvs → Prop
  | .nil => True
  | .cons t ts => (∃ j : Int, 0 < j ∧ n = t.n + j * q) ∧ Lv.ok q t ∧ Lvs.ok q n ts
end
theorem D_len {q : Int} : ∀ ks : Lvs, (Lvs.D q ks).length = ks.len
  | .nil => rfl
  | .cons t ts => congrArg (· + 1) (D_len ts)
/-! plain, deep, like, shaped -/
@[simp] theorem plain_fr {p : Int × Int} : plain (fr p) = true := rfl
@[simp] theorem dep_fr {p : Int × Int} : dep (fr p) = 1 := rfl
mutual
theorem D_plain {q : Int} : ∀ {t : Lv}, t.ok q → plain (t.D q) = true
  | .mk n ks, h => by
    obtain ⟨_, _, _, h4, _, h6⟩ := h
    have hl := D_len (q := q) ks
    show (decide ((2 : Nat) ≤ 1000) && (plain (fr (n, q)) && (((decide ((Lvs.D q ks).length ≤ 1000)) && plains (Lvs.D q ks)) && true))) = true
    rw [D_plains h6, decide_eq_true (show (Lvs.D q ks).length ≤ 1000 by omega)]
    rfl
theorem D_plains {q n : Int} : ∀ {ts : Lvs}, ts.ok q n → plains (ts.D q) = true
  | .nil, _ => rfl
  | .cons t ts, h => by
    show (plain (t.D q) && plains (ts.D q)) = true
    rw [D_plain h.2.1, D_plains h.2.2]
    rfl
end
mutual
theorem D_dep {q : Int} : ∀ (t : Lv), dep (t.D q) ≤ 2 * t.dp + 2
  | .mk n ks => by
    have := D_deps (q := q) ks
    show max 1 (max (deps (Lvs.D q ks) + 1) 0) + 1 ≤ 2 * ks.dp + 2
    omega
theorem D_deps {q : Int} : ∀ (ts : Lvs), deps (ts.D q) ≤ 2 * ts.dp
  | .nil => Nat.le_refl _
  | .cons t ts => by
    have h1 := D_dep (q := q) t
    have h2 := D_deps (q := q) ts
    show max (dep (t.D q)) (deps (ts.D q)) ≤ 2 * max (t.dp + 1) ts.dp
    omega
end
mutual
theorem D_like {q : Int} : ∀ (t u : Lv), Dat.like (t.D q) (u.D q) = true
  | .mk n ks, .mk m ls => by
    show (Dat.like (fr (n, q)) (fr (m, q)) && (Dat.likes (Lvs.D q ks) (Lvs.D q ls) && true)) = true
    rw [D_likes ks ls]
    rfl
theorem D_likes {q : Int} : ∀ (ts us : Lvs), Dat.likes (ts.D q) (us.D q) = true
  | .nil, .nil => rfl
  | .nil, .cons _ _ => rfl
  | .cons _ _, .nil => rfl
  | .cons t ts, .cons u us => by
    show (Dat.like (t.D q) (u.D q) && Dat.likes (ts.D q) (us.D q)) = true
    rw [D_like t u, D_likes ts us]
    rfl
end
mutual
theorem D_py {q : Int} : ∀ (t : Lv), ∃ p, (t.D q).py = some p ∧ p.canLay0 = true ∧ p.depth ≤ 2 * t.dp + 2 ∧ PyData.eqv p p = true
  | .mk n ks => by
    obtain ⟨ps, h1, h2, h3, h4⟩ := D_pys (q := q) ks
    refine ⟨.tuple [.tuple [.int n, .int q], .tuple ps], ?_, ?_, ?_, ?_⟩
    · show (Dat.pys [fr (n, q), .tup (Lvs.D q ks)]).map PyData.tuple = _
      have e : Dat.pys [fr (n, q), .tup (Lvs.D q ks)] = some [.tuple [.int n, .int q], .tuple ps] := by
        unfold Dat.pys
        show (match (Dat.pys [.int n, .int q]).map PyData.tuple with | some p => (Dat.pys [Dat.tup (Lvs.D q ks)]).map (p :: ·) | none => none) = _
        have e2 : Dat.pys [.tup (Lvs.D q ks)] = some [.tuple ps] := by
          unfold Dat.pys
          show (match (Dat.pys (Lvs.D q ks)).map PyData.tuple with | some p => (Dat.pys []).map (p :: ·) | none => none) = _
          rw [h1]
          rfl
        rw [e2]
        rfl
      rw [e]
      rfl
    · show ((true && (true && true)) && ((PyData.canLayAll0 ps) && true)) = true
      rw [h2]
      rfl
    · show max (max 0 (max 0 0) + 1) (max (PyData.depthAll ps + 1) 0) + 1 ≤ 2 * ks.dp + 2
      omega
    · show ((((n == n) && ((q == q) && true))) && (PyData.eqvAll ps ps && true)) = true
      rw [h4]
      simp
theorem D_pys {q : Int} : ∀ (ts : Lvs), ∃ p, Dat.pys (ts.D q) = some p ∧ PyData.canLayAll0 p = true ∧ PyData.depthAll p ≤ 2 * ts.dp ∧ PyData.eqvAll p p = true
  | .nil => ⟨[], rfl, rfl, Nat.le_refl _, rfl⟩
  | .cons t ts => by
    obtain ⟨p, h1, h2, h3, h4⟩ := D_py (q := q) t
    obtain ⟨ps, k1, k2, k3, k4⟩ := D_pys (q := q) ts
    refine ⟨p :: ps, ?_, ?_, ?_, ?_⟩
    · show (match (t.D q).py with | some p => (Dat.pys (ts.D q)).map (p :: ·) | none => none) = _
      rw [h1, k1]
      rfl
    · show (p.canLay0 && PyData.canLayAll0 ps) = true
      rw [h2, k2]
      rfl
    · show max p.depth (PyData.depthAll ps) ≤ 2 * max (t.dp + 1) ts.dp
      omega
    · show (PyData.eqv p p && PyData.eqvAll ps ps) = true
      rw [h4, k4]
      rfl
end
theorem D_shp {q : Int} (t : Lv) (h : t.dp ≤ 20) : (t.D q).shp = true := by
  obtain ⟨p, h1, h2, h3, _⟩ := D_py (q := q) t
  unfold Dat.shp
  rw [h1]
  show (p.canLay0 && decide (p.depth ≤ 64)) = true
  rw [h2, decide_eq_true (by omega)]
  rfl
def Lvs.mem (t : Lv) : Lvs → Prop
  | .nil => False
  | .cons u us => t = u ∨ us.mem t
theorem D_mem {q : Int} : ∀ {ts : Lvs} {d : Dat}, d ∈ ts.D q → ∃ t, ts.mem t ∧ d = t.D q
  | .nil, d, h => by cases h
  | .cons t ts, d, h => by
    rcases List.mem_cons.mp h with e | h
    · exact ⟨t, .inl rfl, e⟩
    · obtain ⟨u, h1, h2⟩ := D_mem h
      exact ⟨u, .inr h1, h2⟩
theorem mem_D {q : Int} : ∀ {ts : Lvs} {t : Lv}, ts.mem t → t.D q ∈ ts.D q
  | .cons u ts, t, h => by
    rcases h with e | h
    · rw [e]; exact List.mem_cons_self
    · exact List.mem_cons_of_mem _ (mem_D h)
theorem mem_dp : ∀ {ts : Lvs} {t : Lv}, ts.mem t → t.dp + 1 ≤ ts.dp
  | .cons u ts, t, h => by
    show t.dp + 1 ≤ max (u.dp + 1) ts.dp
    rcases h with e | h
    · rw [e]; omega
    · have := mem_dp h
      omega
theorem mem_ok {q n : Int} : ∀ {ts : Lvs} {t : Lv}, ts.ok q n → ts.mem t → (∃ j : Int, 0 < j ∧ n = t.n + j * q) ∧ t.ok q
  | .cons u ts, t, h, hm => by
    rcases hm with e | hm
    · rw [e]; exact ⟨h.1, h.2.1⟩
    · exact mem_ok h.2.2 hm
theorem D_headT {q : Int} (t : Lv) : (t.D q).headT = true := by cases t; rfl
theorem D_srt {q : Int} (ts : Lvs) (h : ts.dp ≤ 20) : srtD (ts.D q) = some (isortD (ts.D q)) := by
  unfold srtD
  by_cases hl : (ts.D q).length < 2
  · rw [if_pos hl]
    obtain ⟨p, h1, _⟩ := D_pys (q := q) ts
    rw [h1]
    match ts, hl with
    | .nil, _ => rfl
    | .cons t .nil, _ => rfl
    | .cons t (.cons u us), hl => exact absurd hl (by show ¬ (Lvs.D q us).length + 1 + 1 < 2; omega)
  · rw [if_neg hl, if_pos]
    rw [Bool.and_eq_true, Bool.and_eq_true, Bool.or_eq_true]
    refine ⟨⟨.inr (List.all_eq_true.mpr fun d hd => ?_), List.all_eq_true.mpr fun d hd => ?_⟩, List.all_eq_true.mpr fun d hd => List.all_eq_true.mpr fun e he => ?_⟩
    · obtain ⟨t, _, e⟩ := D_mem hd
      rw [e]; exact D_headT t
    · obtain ⟨t, hm, e⟩ := D_mem hd
      rw [e]; exact D_shp t (by have := mem_dp hm; omega)
    · obtain ⟨t, _, e1⟩ := D_mem hd
      obtain ⟨u, _, e2⟩ := D_mem he
      rw [e1, e2]; exact D_like t u
theorem D_eqvL {q : Int} (ts : Lvs) (h : ts.dp ≤ 20) {M : Mem} : eqvD M (.lst (ts.D q)) (.lst (ts.D q)) = some true := by
  obtain ⟨p, h1, h2, h3, h4⟩ := D_pys (q := q) ts
  have e : pyD M (.lst (ts.D q)) = some (.list p) := by
    show (Dat.pys (ts.D q)).map PyData.list = _
    rw [h1]
    rfl
  unfold eqvD
  rw [e]
  show (if SeqAt.shaped (.list p) && SeqAt.shaped (.list p) then some (PyData.eqv (.list p) (.list p)) else none) = _
  have s : SeqAt.shaped (.list p) = true := by
    show (PyData.canLayAll0 p && decide (PyData.depthAll p + 1 ≤ 64)) = true
    rw [h2, decide_eq_true (by omega)]
    rfl
  rw [s]
  show some (PyData.eqvAll p p) = _
  rw [h4]
end Ab
end

section
set_option linter.all false
set_option maxRecDepth 100000
set_option maxHeartbeats 1000000
namespace Ab
open PySem L2
@[simp] theorem all_2 {a b : Bool} {M : Mem} : un1 .all (.lst [.bl a, .bl b]) M = some (.bl (a && (b && true)), M) := rfl
@[simp] theorem it_fr0 {p : Int × Int} {M : Mem} : itemD M (fr p) (.int 0) = some (.int p.1) := it_t0
@[simp] theorem it_fr1 {p : Int × Int} {M : Mem} : itemD M (fr p) (.int 1) = some (.int p.2) := it_t1
theorem r_long2 {k : Nat} {a b : Dat} (h : Dat.nps [a, b] = true) : Fz (F (k + 1)) 1 [.tup [a, b], .int 2] (.bl true) := by
  refine Fz.of (M1 := []) (nps2 h rfl) (run_of rfl rfl ?_) rfl
  show evSs lawW (F k) ir_is_long [some (.tup [a, b]), some (.int 2)] [] = _
  unfold ir_is_long
  simp
theorem r_num {k : Nat} {i : Int} : Fz (F (k + 1)) 0 [.int i] (.bl true) := by
  refine Fz.of (M1 := []) rfl (run_of rfl rfl ?_) rfl
  show evSs lawW (F k) ir_is_number [some (.int i)] [] = _
  unfold ir_is_number
  simp
theorem r_nums {k : Nat} {p : Int × Int} : Fz (F (k + 2)) 2 [fr p] (.bl true) := by
  refine Fz.of (M1 := []) rfl (run_of rfl rfl ?_) rfl
  show evSs lawW (F (k + 1)) ir_are_numbers [some (fr p), none] [] = _
  unfold ir_are_numbers
  simp [fr]
  rw [lc_of (f := fun _ => .bl true) (by simp) rfl fun d hd => ?_]
  · simp [all_same]
  · simp at hd
    rcases hd with e | e <;> (subst e; exact ⟨_, rfl, by simp [wipeG, r_num (k := k) []]⟩)
theorem r_isfr {k : Nat} {p : Int × Int} (hs : Sm_ p.2) (h : 0 < p.2) (hg : Int.gcd p.1 p.2 = 1) : Fz (F (k + 3)) 6 [fr p] (.bl true) := by
  refine Fz.of (M1 := []) rfl (run_of rfl rfl ?_) rfl
  show evSs lawW (F (k + 2)) ir_is_fraction [some (fr p)] [] = _
  unfold ir_is_fraction
  have h2 := r_nums (k := k) (p := p) []
  have h3 := r_common (k := k + 1) (a := p.1) (b := p.2) hs []
  have h1 := r_long2 (k := k + 1) (a := .int p.1) (b := .int p.2) rfl []
  have h1' : callW (F (k + 2)) .fz 1 [fr p, .int 2] [] = .ok (.bl true) [] := h1
  simp [h1', h2, h3, h, hg]
theorem gap_cut {q j n m : Int} (hq : 0 < q) (h : n = m + j * q) : cutI (n * q - m * q) (q * q) = (j, 1) := by
  have hqq : 0 < q * q := Int.mul_pos hq hq
  have e : n * q - m * q = j * (q * q) := by rw [h, Int.add_mul, Int.mul_assoc]; omega
  unfold cutI
  rw [e]
  have g : Int.gcd (j * (q * q)) (q * q) = (q * q).natAbs := Int.gcd_mul_left_left j (q * q)
  rw [g]
  have g2 : ((q * q).natAbs : Int) = q * q := by omega
  rw [g2, Int.mul_ediv_cancel _ (by omega), Int.ediv_self (by omega)]
/-- q is small -/
def Qm (q : Int) : Prop := 0 < q ∧ q ≤ 1000
theorem ok_nm {q : Int} {t : Lv} (hq : Qm q) (h : t.ok q) : Nm (t.n, q) := by
  cases t with
  | mk n ks => exact ⟨⟨by have := h.1; show -1000 ≤ n; omega, by have := h.1; show n ≤ 1000; omega⟩, hq⟩
theorem D_eq {q : Int} (t : Lv) : t.D q = .tup [fr (t.n, q), .tup (t.ks.D q)] := by cases t; rfl
theorem D_np {q : Int} {t : Lv} (h : t.ok q) : (t.D q).np = true := plain_np (D_plain h)
mutual
theorem r_islev {q : Int} (hq : Qm q) : ∀ (t : Lv) (k : Nat), t.ok q → t.dp ≤ 20 → t.dp + 4 ≤ k → Fz (F (k + 1)) 8 [t.D q] (.bl true)
  | .mk n ks, k, h, hd, hk => by
    have hok := h
    obtain ⟨h1, h2, h3, h4, h5, h6⟩ := h
    have hd : ks.dp ≤ 20 := hd
    have hk : ks.dp + 4 ≤ k := hk
    have hnm : Nm (n, q) := ok_nm hq hok
    obtain ⟨k, rfl⟩ : ∃ k', k = k' + 4 := ⟨k - 4, by omega⟩
    have hl : (Lvs.D q ks).length = ks.len := D_len ks
    have ih : ∀ d ∈ Lvs.D q ks, Fz (F (k + 4)) 8 [d] (.bl true) := r_islevs hq ks n (k + 4) h6 hd hk
    refine Fz.of (M1 := []) (nps1 (D_np hok)) (run_of rfl rfl ?_) rfl
    show evSs lawW (F (k + 4)) ir_is_levels_in [some (.tup [fr (n, q), .tup (Lvs.D q ks)]), none, none, none] [] = _
    unfold ir_is_levels_in
    have e1 := r_long2 (k := k + 3) (a := fr (n, q)) (b := .tup (Lvs.D q ks)) (by
      show (true && (Dat.nps (Lvs.D q ks) && true)) = true
      rw [plains_np (D_plains h6)]
      rfl) []
    have e2 := r_isfr (k := k + 1) (p := (n, q)) hnm.sm.2 hq.1 h2 []
    have h3' : ¬ ((Lvs.D q ks).length : Int) = 1 := by omega
    have e3 : lcI (F (k + 4)) false (.one 2) [2] (.dat (.bl true)) (.call .fz 8 (.cons (.var 2) .nil)) [some (.tup [fr (n, q), .tup (Lvs.D q ks)]), none, none, none] (Lvs.D q ks, []) [] = .ok (.lst ((Lvs.D q ks).map fun _ => .bl true)) [] :=
      lc_of (by omega) rfl fun d hd => ⟨_, rfl, by simp [wipeG, ih d hd []]⟩
    have e4 : ∀ Γ2 : Gam, True := fun _ => trivial
    have e5 := D_srt (q := q) ks hd
    rw [h5] at e5
    have e6 := D_eqvL (q := q) ks hd (M := [])
    obtain ⟨gp, hgp⟩ : ∃ gp : Dat → Dat, ∀ u : Lv, gp (u.D q) = fr ((n - u.n) / q, 1) := ⟨fun d => match d with
      | .tup (.tup [.int m, _] :: _) => fr ((n - m) / q, 1)
      | d => d, fun u => by cases u; rfl⟩
    have e7 : ∀ d ∈ Lvs.D q ks, ∃ Γ2, putT (.one 2) d (wipeG [some (.tup [fr (n, q), .tup (Lvs.D q ks)]), none, none, none] [2]) = some Γ2 ∧ evE (F (k + 4)) (.call .fz 7 (.cons (.bin .ix (.var 0) (.dat (.int 0))) (.cons (.bin .ix (.var 2) (.dat (.int 0))) .nil))) Γ2 [] = .ok (gp d) [] := fun d hdm => by
      obtain ⟨u, hu, e⟩ := D_mem hdm
      obtain ⟨⟨j, hj, hn⟩, hok2⟩ := mem_ok h6 hu
      subst e
      have ht := r_taken (k := k + 1) hnm (ok_nm hq hok2) []
      have hg := gap_cut hq.1 hn
      refine ⟨_, rfl, ?_⟩
      have : (n - u.n) / q = j := by
        rw [show n - u.n = j * q by omega]
        exact Int.mul_ediv_cancel _ (by have := hq.1; omega)
      rw [hgp, D_eq u, this]
      simp [wipeG, ht, hg]
    have e8 : lcI (F (k + 4)) false (.one 2) [2] (.dat (.bl true)) (.call .fz 7 (.cons (.bin .ix (.var 0) (.dat (.int 0))) (.cons (.bin .ix (.var 2) (.dat (.int 0))) .nil))) [some (.tup [fr (n, q), .tup (Lvs.D q ks)]), none, none, none] (Lvs.D q ks, []) [] = .ok (.lst ((Lvs.D q ks).map gp)) [] := lc_of (by omega) rfl e7
    have e9 : lcI (F (k + 4)) false (.one 3) [3] (.dat (.bl true)) (.and (.bin (.cmp .Eq) (.bin .ix (.var 3) (.dat (.int 1))) (.dat (.int 1))) (.bin (.cmp .Gt) (.bin .ix (.var 3) (.dat (.int 0))) (.dat (.int 0)))) [some (.tup [fr (n, q), .tup (Lvs.D q ks)]), some (.lst ((Lvs.D q ks).map gp)), none, none] ((Lvs.D q ks).map gp, [(.lst ((Lvs.D q ks).map gp), (Lvs.D q ks).map gp)]) [] = .ok (.lst (((Lvs.D q ks).map gp).map fun _ => .bl true)) [] :=
      lc_of (by rw [List.length_map]; omega) rfl fun d hdm => by
        obtain ⟨x, hx, e⟩ := List.mem_map.mp hdm
        obtain ⟨u, hu, e'⟩ := D_mem hx
        obtain ⟨⟨j, hj, hn⟩, hok2⟩ := mem_ok h6 hu
        subst e e'
        refine ⟨_, rfl, ?_⟩
        have : (n - u.n) / q = j := by
          rw [show n - u.n = j * q by omega]
          exact Int.mul_ediv_cancel _ (by have := hq.1; omega)
        rw [hgp, this]
        simp [wipeG, hj]
    simp [e1, e2, h3', e3, all_same, e5, e6, e8, e9, Function.comp_def]
theorem r_islevs {q : Int} (hq : Qm q) : ∀ (ts : Lvs) (n : Int) (k : Nat), ts.ok q n → ts.dp ≤ 20 → ts.dp + 4 ≤ k → ∀ d ∈ ts.D q, Fz (F k) 8 [d] (.bl true)
  | .nil, _, _, _, _, _, d, hm => by cases hm
  | .cons t ts, n, k, h, hd, hk, d, hm => by
    have hd : max (t.dp + 1) ts.dp ≤ 20 := hd
    have hk : max (t.dp + 1) ts.dp + 4 ≤ k := hk
    by_cases e : d = t.D q
    · rw [e]
      obtain ⟨k, rfl⟩ : ∃ k', k = k' + 1 := ⟨k - 1, by omega⟩
      exact r_islev hq t k h.2.1 (by omega) (by omega)
    · exact r_islevs hq ts n k h.2.2 (by omega) (by omega) d ((List.mem_cons.mp hm).resolve_left e)
end
end Ab
end

section
set_option linter.all false
set_option maxRecDepth 100000
set_option maxHeartbeats 1000000
namespace Ab
open PySem L2
theorem cut_sign {a b : Int} (hb : 0 < b) : ((cutI a b).1 < 0 ↔ a < 0) ∧ ((cutI a b).1 ≤ 0 ↔ a ≤ 0) := by
  have g := gcd_pos' (a := a) hb
  have hd : (Int.gcd a b : Int) ∣ a := Int.gcd_dvd_left a b
  obtain ⟨c, hc⟩ := hd
  show (a / (Int.gcd a b : Int) < 0 ↔ a < 0) ∧ (a / (Int.gcd a b : Int) ≤ 0 ↔ a ≤ 0)
  generalize (Int.gcd a b : Int) = G at g hc
  subst hc
  rw [Int.mul_ediv_cancel_left _ (by omega)]
  have h1 : G * c < 0 ↔ c < 0 := by
    constructor
    · intro h
      apply Int.not_le.mp
      intro hc
      have := Int.mul_nonneg (Int.le_of_lt g) hc
      omega
    · intro h
      exact Int.mul_neg_of_pos_of_neg g h
  have h2 : G * c ≤ 0 ↔ c ≤ 0 := by
    constructor
    · intro h
      apply Int.not_lt.mp
      intro hc
      have := Int.mul_pos g hc
      omega
    · intro h
      exact Int.mul_nonpos_of_nonneg_of_nonpos (Int.le_of_lt g) h
  exact ⟨h1.symm, h2.symm⟩
/-! ### what the numbers are -/
mutual
def Lv.least : Lv → Int
  | .mk n ks => Lvs.least n ks
def Lvs.least (x : Int) : Lvs → Int
  | .nil => x
  | .cons t ts => Lvs.least (if t.least < x then t.least else x) ts
end
mutual
def Lv.leng (q : Int) : Lv → Int
  | .mk n ks => (Lvs.leng q n ks).sum
def Lvs.leng (q n : Int) : Lvs → List Int
  | .nil => []
  | .cons t ts => ((n - t.n) / q + t.leng q) :: Lvs.leng q n ts
end
mutual
def Lv.cnt : Lv → Int
  | .mk _ ks => Lvs.cnt ks
def Lvs.cnt : Lvs → Int
  | .nil => 1
  | .cons t .nil => t.cnt
  | .cons t ts => t.cnt + Lvs.cnt ts
end
mutual
def Lv.lots (q : Int) (p : Int × Int) : Lv → Int
  | .mk n ks => if n * p.2 ≤ p.1 * q then 1 else (Lvs.lots q p ks).sum
def Lvs.lots (q : Int) (p : Int × Int) : Lvs → List Int
  | .nil => []
  | .cons t ts => t.lots q p :: Lvs.lots q p ts
end
theorem gap_div {q j n m : Int} (hq : 0 < q) (h : n = m + j * q) : (n - m) / q = j := by
  rw [show n - m = j * q by omega]
  exact Int.mul_ediv_cancel _ (by omega)
theorem lcsR_ok {cf : CallF} {g : Gd} {t : Tgt} {vs : List Nat} {e : Ex} {Γ : Gam} : ∀ {ds es acc : List Dat} {M : Mem}, gdOk M g = true → ds.length = es.length → (∀ (i : Nat) (d x : Dat), ds[i]? = some d → es[i]? = some x → ∃ Γ2, putT t d (wipeG Γ vs) = some Γ2 ∧ evE cf e Γ2 M = .ok x M) →
    lcR cf g t vs (.dat (.bl true)) e Γ ds acc M = .ok (acc ++ es) M
  | [], [], acc, M, _, _, _ => by rw [lcR_nil, List.append_nil]
  | d :: ds, x :: es, acc, M, hg, hl, h => by
    obtain ⟨Γ2, h1, h2⟩ := h 0 d x rfl rfl
    have ih := lcsR_ok (acc := acc ++ [x]) hg (by simpa using hl) fun i d' x' k1 k2 => h (i + 1) d' x' (by simpa using k1) (by simpa using k2)
    have hs : lcT cf t vs (.dat (.bl true)) e Γ d M = .ok (some x) M := by
      unfold lcT
      rw [h1]
      show ((evE cf e Γ2 M).bind fun y M => Rs.ok (some y) M) = _
      rw [h2]
      rfl
    unfold lcR at ih ⊢
    unfold lcGo
    rw [hs]
    show (if gdOk M g = true then lcGo g _ ds (acc ++ [x]) M else .no) = _
    rw [if_pos hg, ih, List.append_assoc, List.singleton_append]
theorem lcs_ok {cf : CallF} {c : Bool} {t : Tgt} {vs : List Nat} {e : Ex} {Γ : Gam} {ds es : List Dat} {g : Gd} {M : Mem} (hl : ds.length ≤ 1000) (hg : gdOk M g = true) (he : ds.length = es.length) (h : ∀ (i : Nat) (d x : Dat), ds[i]? = some d → es[i]? = some x → ∃ Γ2, putT t d (wipeG Γ vs) = some Γ2 ∧ evE cf e Γ2 M = .ok x M) :
    lcI cf c t vs (.dat (.bl true)) e Γ (ds, g) M = lcE c es M := by
  rw [lcI_ok hl hg, lcsR_ok hg he h]
  rfl
theorem leng_len {q n : Int} : ∀ ts : Lvs, (Lvs.leng q n ts).length = ts.len
  | .nil => rfl
  | .cons t ts => congrArg (· + 1) (leng_len ts)
theorem lots_len {q : Int} {p : Int × Int} : ∀ ts : Lvs, (Lvs.lots q p ts).length = ts.len
  | .nil => rfl
  | .cons t ts => congrArg (· + 1) (lots_len ts)
theorem leng_at {q n : Int} : ∀ {ts : Lvs} {i : Nat} {d : Dat} {x : Int}, (ts.D q)[i]? = some d → (Lvs.leng q n ts)[i]? = some x → ∃ t, ts.mem t ∧ d = t.D q ∧ x = (n - t.n) / q + t.leng q
  | .nil, i, d, x, h, _ => by cases i <;> cases h
  | .cons t ts, 0, d, x, h, k => ⟨t, .inl rfl, (Option.some.inj h).symm, (Option.some.inj k).symm⟩
  | .cons t ts, i + 1, d, x, h, k => by
    obtain ⟨u, h1, h2, h3⟩ := leng_at (ts := ts) (i := i) (d := d) (x := x) h k
    exact ⟨u, .inr h1, h2, h3⟩
theorem lots_at' {q : Int} {p : Int × Int} : ∀ {ts : Lvs} {i : Nat} {d : Dat} {x : Int}, (ts.D q)[i]? = some d → (Lvs.lots q p ts)[i]? = some x → ∃ t, ts.mem t ∧ d = t.D q ∧ x = t.lots q p
  | .nil, i, d, x, h, _ => by cases i <;> cases h
  | .cons t ts, 0, d, x, h, k => ⟨t, .inl rfl, (Option.some.inj h).symm, (Option.some.inj k).symm⟩
  | .cons t ts, i + 1, d, x, h, k => by
    obtain ⟨u, h1, h2, h3⟩ := lots_at' (ts := ts) (i := i) (d := d) (x := x) h k
    exact ⟨u, .inr h1, h2, h3⟩
theorem get_int {ns : List Int} {i : Nat} {x : Dat} (h : (ns.map Dat.int)[i]? = some x) : ∃ n, ns[i]? = some n ∧ x = .int n := by
  rw [List.getElem?_map] at h
  obtain ⟨n, h1, h2⟩ := Option.map_eq_some_iff.mp h
  exact ⟨n, h1, h2.symm⟩
/-- the lengths -/
theorem r_leng {q : Int} (hq : Qm q) : ∀ (m : Nat) (t : Lv) (k : Nat), t.dp ≤ m → t.ok q → t.dp + 4 ≤ k → Fz (F (k + 1)) 11 [t.D q] (.int (t.leng q))
  | m, .mk n ks, k, hm, h, hk => by
    have hok := h
    obtain ⟨h1, h2, h3, h4, h5, h6⟩ := h
    have hk : ks.dp + 4 ≤ k := hk
    have hm : ks.dp ≤ m := hm
    have hnm : Nm (n, q) := ok_nm hq hok
    obtain ⟨k, rfl⟩ : ∃ k', k = k' + 4 := ⟨k - 4, by omega⟩
    have hl : (Lvs.D q ks).length = ks.len := D_len ks
    refine Fz.of (M1 := []) (nps1 (D_np hok)) (run_of rfl rfl ?_) rfl
    show evSs lawW (F (k + 4)) ir_lengths_in [some (.tup [fr (n, q), .tup (Lvs.D q ks)]), none] [] = _
    unfold ir_lengths_in
    have e : lcI (F (k + 4)) false (.one 1) [1] (.dat (.bl true)) (.bin (.op .Add) (.bin .ix (.call .fz 7 (.cons (.bin .ix (.var 0) (.dat (.int 0))) (.cons (.bin .ix (.var 1) (.dat (.int 0))) .nil))) (.dat (.int 0))) (.call .fz 11 (.cons (.var 1) .nil))) [some (.tup [fr (n, q), .tup (Lvs.D q ks)]), none] (Lvs.D q ks, []) [] = .ok (.lst ((Lvs.leng q n ks).map .int)) [] :=
      lcs_ok (by omega) rfl (by rw [List.length_map, leng_len, hl]) fun i d x hd hx => by
        obtain ⟨y, hy, ex⟩ := get_int hx
        obtain ⟨u, hu, ed, ey⟩ := leng_at hd hy
        obtain ⟨⟨j, hj, hn⟩, hok2⟩ := mem_ok h6 hu
        subst ed ex ey
        have hdu := mem_dp hu
        have ht := r_taken (k := k + 1) hnm (ok_nm hq hok2) []
        have hg := gap_cut hq.1 hn
        have ih : Fz (F (k + 4)) 11 [u.D q] (.int (u.leng q)) := match m with
          | 0 => absurd hdu (by omega)
          | m + 1 => r_leng hq m u (k + 3) (by omega) hok2 (by omega)
        have ih := ih []
        refine ⟨_, rfl, ?_⟩
        rw [D_eq u] at ih ⊢
        rw [gap_div hq.1 hn]
        simp [wipeG, ht, hg, ih]
    simp [e]
    rfl
/-- lots -/
theorem r_lots {q : Int} (hq : Qm q) {p : Int × Int} (hp : Nm p) : ∀ (m : Nat) (t : Lv) (k : Nat), t.dp ≤ m → t.ok q → t.dp + 4 ≤ k → Fz (F (k + 1)) 18 [t.D q, fr p] (.int (t.lots q p))
  | m, .mk n ks, k, hm, h, hk => by
    have hok := h
    obtain ⟨h1, h2, h3, h4, h5, h6⟩ := h
    have hk : ks.dp + 4 ≤ k := hk
    have hm : ks.dp ≤ m := hm
    have hnm : Nm (n, q) := ok_nm hq hok
    obtain ⟨k, rfl⟩ : ∃ k', k = k' + 4 := ⟨k - 4, by omega⟩
    have hl : (Lvs.D q ks).length = ks.len := D_len ks
    refine Fz.of (M1 := []) (nps2 (D_np hok) rfl) (run_of rfl rfl ?_) rfl
    show evSs lawW (F (k + 4)) ir_lots_up_to [some (.tup [fr (n, q), .tup (Lvs.D q ks)]), some (fr p), none] [] = _
    unfold ir_lots_up_to
    have ht := r_taken (k := k + 1) hnm hp []
    have hs := (cut_sign (a := n * p.2 - p.1 * q) (b := q * p.2) (Int.mul_pos hq.1 hp.2.1)).2
    by_cases hc : n * p.2 ≤ p.1 * q
    · have hc2 : (cutI (n * p.2 - p.1 * q) (q * p.2)).1 ≤ 0 := hs.mpr (by omega)
      have : Lv.lots q p (.mk n ks) = 1 := by
        show (if n * p.2 ≤ p.1 * q then (1 : Int) else _) = 1
        rw [if_pos hc]
      rw [this]
      simp [ht, hc2]
    · have hc2 : ¬ (cutI (n * p.2 - p.1 * q) (q * p.2)).1 ≤ 0 := fun z => hc (by have := hs.mp z; omega)
      have : Lv.lots q p (.mk n ks) = (Lvs.lots q p ks).sum := by
        show (if n * p.2 ≤ p.1 * q then (1 : Int) else _) = _
        rw [if_neg hc]
      rw [this]
      have e : lcI (F (k + 4)) false (.one 2) [2] (.dat (.bl true)) (.call .fz 18 (.cons (.var 2) (.cons (.var 1) .nil))) [some (.tup [fr (n, q), .tup (Lvs.D q ks)]), some (fr p), none] (Lvs.D q ks, []) [] = .ok (.lst ((Lvs.lots q p ks).map .int)) [] :=
        lcs_ok (by omega) rfl (by rw [List.length_map, lots_len, hl]) fun i d x hd hx => by
          obtain ⟨y, hy, ex⟩ := get_int hx
          obtain ⟨u, hu, ed, ey⟩ := lots_at' hd hy
          obtain ⟨_, hok2⟩ := mem_ok h6 hu
          subst ed ex ey
          have hdu := mem_dp hu
          have ih : Fz (F (k + 4)) 18 [u.D q, fr p] (.int (u.lots q p)) := match m with
            | 0 => absurd hdu (by omega)
            | m + 1 => r_lots hq hp m u (k + 3) (by omega) hok2 (by omega)
          exact ⟨_, rfl, by simp [wipeG, ih []]⟩
      simp [ht, hc2, e]
/-- the law's own lots -/
theorem r_lots2 {q : Int} (hq : Qm q) {p : Int × Int} (hp : Nm p) : ∀ (m : Nat) (t : Lv) (k : Nat), t.dp ≤ m → t.ok q → t.dp + 4 ≤ k → Fz (F (k + 1)) 32 [t.D q, fr p] (.int (t.lots q p))
  | m, .mk n ks, k, hm, h, hk => by
    have hok := h
    obtain ⟨h1, h2, h3, h4, h5, h6⟩ := h
    have hk : ks.dp + 4 ≤ k := hk
    have hm : ks.dp ≤ m := hm
    have hnm : Nm (n, q) := ok_nm hq hok
    obtain ⟨k, rfl⟩ : ∃ k', k = k' + 4 := ⟨k - 4, by omega⟩
    have hl : (Lvs.D q ks).length = ks.len := D_len ks
    refine Fz.of (M1 := []) (nps2 (D_np hok) rfl) (run_of rfl rfl ?_) rfl
    show evSs lawW (F (k + 4)) ir__law_lots [some (.tup [fr (n, q), .tup (Lvs.D q ks)]), some (fr p), none] [] = _
    unfold ir__law_lots
    have ht := r_less (k := k + 3) hp hnm []
    by_cases hc : n * p.2 ≤ p.1 * q
    · have : Lv.lots q p (.mk n ks) = 1 := by
        show (if n * p.2 ≤ p.1 * q then (1 : Int) else _) = 1
        rw [if_pos hc]
      rw [this]
      have hc2 : ¬ p.1 * q < n * p.2 := by omega
      simp [ht, hc2]
    · have : Lv.lots q p (.mk n ks) = (Lvs.lots q p ks).sum := by
        show (if n * p.2 ≤ p.1 * q then (1 : Int) else _) = _
        rw [if_neg hc]
      rw [this]
      have hc2 : p.1 * q < n * p.2 := by omega
      have e : lcI (F (k + 4)) false (.one 2) [2] (.dat (.bl true)) (.call .fz 32 (.cons (.var 2) (.cons (.var 1) .nil))) [some (.tup [fr (n, q), .tup (Lvs.D q ks)]), some (fr p), none] (Lvs.D q ks, []) [] = .ok (.lst ((Lvs.lots q p ks).map .int)) [] :=
        lcs_ok (by omega) rfl (by rw [List.length_map, lots_len, hl]) fun i d x hd hx => by
          obtain ⟨y, hy, ex⟩ := get_int hx
          obtain ⟨u, hu, ed, ey⟩ := lots_at' hd hy
          obtain ⟨_, hok2⟩ := mem_ok h6 hu
          subst ed ex ey
          have hdu := mem_dp hu
          have ih : Fz (F (k + 4)) 32 [u.D q, fr p] (.int (u.lots q p)) := match m with
            | 0 => absurd hdu (by omega)
            | m + 1 => r_lots2 hq hp m u (k + 3) (by omega) hok2 (by omega)
          exact ⟨_, rfl, by simp [wipeG, ih []]⟩
      simp [ht, hc2, e]
end Ab
end

section
set_option linter.all false
set_option maxRecDepth 100000
set_option maxHeartbeats 1000000
namespace Ab
open PySem L2
mutual
theorem least_bd {q : Int} : ∀ {t : Lv}, t.ok q → -500 ≤ t.least ∧ t.least ≤ 500
  | .mk n ks, h => leasts_bd h.1 h.2.2.2.2.2
theorem leasts_bd {q n x : Int} (hx : -500 ≤ x ∧ x ≤ 500) : ∀ {ts : Lvs}, ts.ok q n → -500 ≤ ts.least x ∧ ts.least x ≤ 500
  | .nil, _ => hx
  | .cons t ts, h => by
    have h1 := least_bd h.2.1
    show -500 ≤ Lvs.least (if t.least < x then t.least else x) ts ∧ Lvs.least (if t.least < x then t.least else x) ts ≤ 500
    refine leasts_bd (n := n) ?_ h.2.2
    split <;> omega
end
theorem sign_mul {q a b : Int} (hq : 0 < q) : (a * q - b * q < 0 ↔ a < b) := by
  rw [← Int.sub_mul]
  constructor
  · intro h
    apply Int.not_le.mp
    intro hc
    have := Int.mul_nonneg (a := a - b) (b := q) (by omega) (by omega)
    omega
  · intro h
    exact Int.mul_neg_of_neg_of_pos (by omega) hq
abbrev leastBody : Sms := .cons (.set 3 (.call .fz 10 (.cons (.var 2) .nil))) (.cons (.iff (.bin (.cmp .Lt) (.bin .ix (.call .fz 7 (.cons (.var 3) (.cons (.var 1) .nil))) (.dat (.int 0))) (.dat (.int 0))) (.cons (.set 1 (.var 3)) .nil) .nil) .nil)
mutual
theorem r_least {q : Int} (hq : Qm q) : ∀ (t : Lv) (k : Nat), t.ok q → t.dp + 4 ≤ k → Fz (F (k + 1)) 10 [t.D q] (fr (t.least, q))
  | .mk n ks, k, h, hk => by
    have hok := h
    obtain ⟨h1, h2, h3, h4, h5, h6⟩ := h
    have hk : ks.dp + 4 ≤ k := hk
    refine Fz.of (M1 := []) (nps1 (D_np hok)) (run_of rfl rfl ?_) rfl
    show evSs lawW (F k) ir_least_in [some (.tup [fr (n, q), .tup (Lvs.D q ks)]), none, none, none] [] = _
    unfold ir_least_in
    obtain ⟨o1, o2, e⟩ := r_leasts hq ks k n n (some (.tup [fr (n, q), .tup (Lvs.D q ks)])) none none h6 h1 hk
    simp [forI_ok (show gdOk [] [] = true from rfl), e]
    rfl
theorem r_leasts {q : Int} (hq : Qm q) : ∀ (ts : Lvs) (k : Nat) (n x : Int) (L o1 o2 : Option Dat), ts.ok q n → (-500 ≤ x ∧ x ≤ 500) → ts.dp + 4 ≤ k → ∃ o1' o2', forR lawW (F k) [] (.name 2) leastBody (ts.D q) [L, some (fr (x, q)), o1, o2] [] = .ok (.nx [L, some (fr (ts.least x, q)), o1', o2']) []
  | .nil, k, n, x, L, o1, o2, _, _, _ => ⟨o1, o2, rfl⟩
  | .cons t ts, k, n, x, L, o1, o2, h, hx, hk => by
    have hk : max (t.dp + 1) ts.dp + 4 ≤ k := hk
    have hb := least_bd h.2.1
    obtain ⟨k, rfl⟩ : ∃ k', k = k' + 4 := ⟨k - 4, by omega⟩
    have ih1 := r_least hq t (k + 3) h.2.1 (by omega) []
    have nm1 : Nm (t.least, q) := ⟨by show -1000 ≤ t.least ∧ t.least ≤ 1000; omega, hq⟩
    have nm2 : Nm (x, q) := ⟨by show -1000 ≤ x ∧ x ≤ 1000; omega, hq⟩
    have ht := r_taken (k := k + 1) nm1 nm2 []
    have hs := (cut_sign (a := t.least * q - x * q) (b := q * q) (Int.mul_pos hq.1 hq.1)).1.trans (sign_mul hq.1)
    have step : evSs lawW (F (k + 4)) leastBody [L, some (fr (x, q)), some (t.D q), o2] [] = .ok (.nx [L, some (fr (if t.least < x then t.least else x, q)), some (t.D q), some (fr (t.least, q))]) [] := by
      by_cases hc : t.least < x
      · have hc2 := hs.mpr hc
        rw [if_pos hc]
        simp [ih1, ht, hc2]
      · have hc2 : ¬ (cutI (t.least * q - x * q) (q * q)).1 < 0 := fun z => hc (hs.mp z)
        rw [if_neg hc]
        simp [ih1, ht, hc2]
    obtain ⟨p1, p2, e⟩ := r_leasts hq ts (k + 4) n (if t.least < x then t.least else x) L (some (t.D q)) (some (fr (t.least, q))) h.2.2 (by split <;> omega) (by omega)
    refine ⟨p1, p2, ?_⟩
    have : Lvs.D q (.cons t ts) = t.D q :: ts.D q := rfl
    rw [this, for_go (Γ1 := [L, some (fr (x, q)), some (t.D q), o2]) (M1 := []) (by simp) step rfl, e]
    rfl
end
mutual
theorem ok_cong {q : Int} : ∀ {t : Lv}, t.ok q → ∃ j : Int, 0 ≤ j ∧ t.n = t.least + j * q
  | .mk n ks, h => oks_cong (x := n) h.2.2.2.2.2 ⟨0, by omega, by show n = n + 0 * q; omega⟩
theorem oks_cong {q n x : Int} : ∀ {ts : Lvs}, ts.ok q n → (∃ j : Int, 0 ≤ j ∧ n = x + j * q) → ∃ j : Int, 0 ≤ j ∧ n = ts.least x + j * q
  | .nil, _, hx => hx
  | .cons t ts, h, hx => by
    obtain ⟨⟨i, hi, hn⟩, hok, hs⟩ := h
    obtain ⟨j, hj, e⟩ := ok_cong hok
    refine oks_cong (ts := ts) hs ?_
    split
    · exact ⟨i + j, by omega, by rw [hn, e, Int.add_mul]; omega⟩
    · exact hx
end
theorem r_rank {q : Int} (hq : Qm q) (t : Lv) (k : Nat) (h : t.ok q) (hk : t.dp + 5 ≤ k) : Fz (F (k + 1)) 12 [t.D q] (.int (t.leng q - (t.n - t.least) / q)) := by
  obtain ⟨k, rfl⟩ : ∃ k', k = k' + 5 := ⟨k - 5, by omega⟩
  refine Fz.of (M1 := []) (nps1 (D_np h)) (run_of rfl rfl ?_) rfl
  show evSs lawW (F (k + 5)) ir_rank_in [some (t.D q)] [] = _
  unfold ir_rank_in
  have e1 := r_leng hq t.dp t (k + 4) (Nat.le_refl _) h (by omega) []
  have e2 := r_least hq t (k + 4) h (by omega) []
  have hb := least_bd h
  have nm1 : Nm (t.least, q) := ⟨by show -1000 ≤ t.least ∧ t.least ≤ 1000; omega, hq⟩
  have e3 := r_taken (k := k + 2) (ok_nm hq h) nm1 []
  obtain ⟨j, hj, hn⟩ := ok_cong h
  have e4 := gap_cut hq.1 hn
  have e5 := gap_div hq.1 hn
  rw [D_eq t] at e1 e2 ⊢
  simp [e1, e2, e3, e4, e5]
theorem r_islevels {q : Int} (hq : Qm q) (t : Lv) (k : Nat) (h : t.ok q) (hd : t.dp ≤ 20) (hk : t.dp + 5 ≤ k) : Fz (F (k + 1)) 13 [t.D q] (.bl true) := by
  obtain ⟨k, rfl⟩ : ∃ k', k = k' + 1 := ⟨k - 1, by omega⟩
  refine Fz.of (M1 := []) (nps1 (D_np h)) (run_of rfl rfl ?_) rfl
  show evSs lawW (F (k + 1)) ir_is_levels [some (t.D q)] [] = _
  unfold ir_is_levels
  simp [r_islev hq t k h hd (by omega) []]
mutual
theorem tupD_D {q : Int} : ∀ (t : Lv), tupD (t.D q) = t.D q
  | .mk n ks => by
    show Dat.tup [fr (n, q), .tup (tupDs (Lvs.D q ks))] = Dat.tup [fr (n, q), .tup (Lvs.D q ks)]
    rw [tupDs_D ks]
theorem tupDs_D {q : Int} : ∀ (ts : Lvs), tupDs (ts.D q) = ts.D q
  | .nil => rfl
  | .cons t ts => by
    show tupD (t.D q) :: tupDs (ts.D q) = t.D q :: ts.D q
    rw [tupD_D t, tupDs_D ts]
end
mutual
theorem tup_lst : ∀ (d : Dat), tupD (lstD d) = tupD d
  | .non => rfl
  | .bl _ => rfl
  | .int _ => rfl
  | .str _ => rfl
  | .tup ds => congrArg Dat.tup (tup_lsts ds)
  | .lst ds => congrArg Dat.tup (tup_lsts ds)
  | .rol _ => rfl
  | .ptr _ => rfl
  | .oth _ => rfl
theorem tup_lsts : ∀ (ds : List Dat), tupDs (lstDs ds) = tupDs ds
  | [] => rfl
  | d :: ds => by
    show tupD (lstD d) :: tupDs (lstDs ds) = tupD d :: tupDs ds
    rw [tup_lst d, tup_lsts ds]
end
mutual
theorem dep_lst : ∀ (d : Dat), dep (lstD d) = dep d
  | .non => rfl
  | .bl _ => rfl
  | .int _ => rfl
  | .str _ => rfl
  | .tup ds => congrArg (· + 1) (dep_lsts ds)
  | .lst ds => congrArg (· + 1) (dep_lsts ds)
  | .rol _ => rfl
  | .ptr _ => rfl
  | .oth _ => rfl
theorem dep_lsts : ∀ (ds : List Dat), deps (lstDs ds) = deps ds
  | [] => rfl
  | d :: ds => by
    show max (dep (lstD d)) (deps (lstDs ds)) = max (dep d) (deps ds)
    rw [dep_lst d, dep_lsts ds]
end
/-- what is handed in: the tree, or its lists -/
def TellsT (q : Int) (t : Lv) (d : Dat) : Prop := plain d = true ∧ dep d ≤ 2 * t.dp + 2 ∧ tupD d = t.D q
theorem gives_D {q : Int} {t : Lv} (h : t.ok q) : TellsT q t (t.D q) := ⟨D_plain h, D_dep t, tupD_D t⟩
theorem gives_L {q : Int} {t : Lv} (h : t.ok q) : TellsT q t (lstD (t.D q)) := ⟨plain_lstD (D_plain h), by rw [dep_lst]; exact D_dep t, by rw [tup_lst, tupD_D]⟩
theorem r_sure {q : Int} (hq : Qm q) (t : Lv) (d : Dat) (k : Nat) (h : t.ok q) (hd : t.dp ≤ 20) (g : TellsT q t d) (hk : 2 * t.dp + 5 ≤ k) : Fz (F (k + 1)) 9 [d] (t.D q) := by
  obtain ⟨k, rfl⟩ : ∃ k', k = k' + 1 := ⟨k - 1, by omega⟩
  obtain ⟨g1, g2, g3⟩ := g
  refine Fz.of (M1 := []) (nps1 (plain_np g1)) (run_of rfl rfl ?_) (D_np h)
  show evSs lawW (F (k + 1)) ir_sure_levels [some d, none] [] = _
  unfold ir_sure_levels
  have e1 := r_tupled d (k + 1) g1 (by omega) []
  rw [g3] at e1
  simp [e1, r_islev hq t k h hd (by omega) []]
theorem r_lleast {q : Int} (hq : Qm q) (t : Lv) (d : Dat) (k : Nat) (h : t.ok q) (hd : t.dp ≤ 20) (g : TellsT q t d) (hk : 2 * t.dp + 6 ≤ k) : Fz (F (k + 1)) 14 [d] (fr (t.least, q)) := by
  obtain ⟨k, rfl⟩ : ∃ k', k = k' + 1 := ⟨k - 1, by omega⟩
  refine Fz.of (M1 := []) (nps1 (plain_np g.1)) (run_of rfl rfl ?_) rfl
  show evSs lawW (F (k + 1)) ir_levels_least [some d] [] = _
  unfold ir_levels_least
  simp [r_sure hq t d k h hd g (by omega) [], r_least hq t k h (by omega) []]
theorem r_lrank {q : Int} (hq : Qm q) (t : Lv) (d : Dat) (k : Nat) (h : t.ok q) (hd : t.dp ≤ 20) (g : TellsT q t d) (hk : 2 * t.dp + 6 ≤ k) : Fz (F (k + 1)) 16 [d] (.int (t.leng q - (t.n - t.least) / q)) := by
  obtain ⟨k, rfl⟩ : ∃ k', k = k' + 1 := ⟨k - 1, by omega⟩
  refine Fz.of (M1 := []) (nps1 (plain_np g.1)) (run_of rfl rfl ?_) rfl
  show evSs lawW (F (k + 1)) ir_levels_rank [some d] [] = _
  unfold ir_levels_rank
  simp [r_sure hq t d k h hd g (by omega) [], r_rank hq t k h (by omega) []]
theorem r_lots_at {q : Int} (hq : Qm q) (t : Lv) (d e : Dat) (p : Int × Int) (k : Nat) (h : t.ok q) (hd : t.dp ≤ 20) (g : TellsT q t d) (hk : 2 * t.dp + 6 ≤ k) (hp : Nm p) (hg : Int.gcd p.1 p.2 = 1) (he : e = fr p ∨ e = lstD (fr p)) : Fz (F (k + 1)) 17 [d, e] (.int (t.lots q p)) := by
  obtain ⟨k, rfl⟩ : ∃ k', k = k' + 3 := ⟨k - 3, by omega⟩
  have pe : plain e = true := by rcases he with e | e <;> (rw [e]; rfl)
  have de : dep e < k + 3 := by rcases he with e | e <;> (rw [e]; show 1 < k + 3; omega)
  have te : tupD e = fr p := by rcases he with e | e <;> (rw [e]; rfl)
  refine Fz.of (M1 := []) (nps2 (plain_np g.1) (plain_np pe)) (run_of rfl rfl ?_) rfl
  show evSs lawW (F (k + 3)) ir_lots_at [some d, some e, none, none] [] = _
  unfold ir_lots_at
  have e1 := r_tupled e (k + 3) pe de []
  rw [te] at e1
  simp [r_sure hq t d (k + 2) h hd g (by omega) [], e1, r_isfr (k := k) (p := p) hp.sm.2 hp.2.1 hg [], r_lots hq hp t.dp t (k + 2) (Nat.le_refl _) h (by omega) []]
end Ab
end

section
set_option linter.all false
set_option maxRecDepth 100000
set_option maxHeartbeats 1000000
namespace Ab
open PySem L2
mutual
def Lv.ec : Lv → Int
  | .mk _ ks => if ks.len = 0 then 1 else Lvs.ec ks
def Lvs.ec : Lvs → Int
  | .nil => 0
  | .cons t ts => t.ec + Lvs.ec ts
end
mutual
def Lv.sz : Lv → Nat
  | .mk _ ks => Lvs.sz ks + 1
def Lvs.sz : Lvs → Nat
  | .nil => 0
  | .cons t ts => t.sz + Lvs.sz ts
end
def sB : Nat → Nat
  | 0 => 1
  | m + 1 => 1 + 3 * sB m
mutual
theorem sz_le {q : Int} : ∀ {t : Lv} (m : Nat), t.ok q → t.dp ≤ m → t.sz ≤ sB m
  | .mk n .nil, m, _, _ => by
    show 0 + 1 ≤ sB m
    cases m <;> simp [sB]
  | .mk n (.cons t ts), 0, _, h => by
    have : max (t.dp + 1) ts.dp ≤ 0 := h
    omega
  | .mk n (.cons t ts), m + 1, h, hd => by
    have h4 : ts.len + 1 ≤ 3 := h.2.2.2.1
    have := szs_le (ts := .cons t ts) m h.2.2.2.2.2 hd
    have h5 : (Lvs.cons t ts).len * sB m ≤ 3 * sB m := Nat.mul_le_mul_right _ h4
    show (Lvs.cons t ts).sz + 1 ≤ 1 + 3 * sB m
    omega
theorem szs_le {q n : Int} : ∀ {ts : Lvs} (m : Nat), ts.ok q n → ts.dp ≤ m + 1 → ts.sz ≤ ts.len * sB m
  | .nil, _, _, _ => by
    show 0 ≤ 0 * _
    omega
  | .cons t ts, m, h, hd => by
    have hd : max (t.dp + 1) ts.dp ≤ m + 1 := hd
    have h1 := sz_le (t := t) m h.2.1 (by omega)
    have h2 := szs_le (ts := ts) m h.2.2 (by omega)
    show t.sz + ts.sz ≤ (ts.len + 1) * sB m
    rw [Nat.add_mul, Nat.one_mul]
    omega
end
def sumE : List Lv → Int
  | [] => 0
  | t :: ts => t.ec + sumE ts
def sumS : List Lv → Nat
  | [] => 0
  | t :: ts => t.sz + sumS ts
def Lvs.l : Lvs → List Lv
  | .nil => []
  | .cons t ts => t :: ts.l
theorem l_D {q : Int} : ∀ ts : Lvs, ts.l.map (Lv.D q) = ts.D q
  | .nil => rfl
  | .cons t ts => congrArg (t.D q :: ·) (l_D ts)
theorem l_sumE : ∀ ts : Lvs, sumE ts.l = ts.ec
  | .nil => rfl
  | .cons t ts => congrArg (t.ec + ·) (l_sumE ts)
theorem l_sumS : ∀ ts : Lvs, sumS ts.l = ts.sz
  | .nil => rfl
  | .cons t ts => congrArg (t.sz + ·) (l_sumS ts)
theorem sumE_app : ∀ a b : List Lv, sumE (a ++ b) = sumE a + sumE b
  | [], b => by show sumE b = 0 + sumE b; omega
  | t :: a, b => by
    show t.ec + sumE (a ++ b) = t.ec + sumE a + sumE b
    rw [sumE_app a b]
    omega
theorem sumS_app : ∀ a b : List Lv, sumS (a ++ b) = sumS a + sumS b
  | [], b => by show sumS b = 0 + sumS b; omega
  | t :: a, b => by
    show t.sz + sumS (a ++ b) = t.sz + sumS a + sumS b
    rw [sumS_app a b]
    omega
theorem len_sumS : ∀ a : List Lv, a.length ≤ sumS a
  | [] => Nat.le_refl _
  | .mk n ks :: a => by
    have := len_sumS a
    show a.length + 1 ≤ (ks.sz + 1) + sumS a
    omega
theorem l_mem : ∀ {ts : Lvs} {t : Lv}, t ∈ ts.l → ts.mem t
  | .cons u ts, t, h => by
    rcases List.mem_cons.mp h with e | h
    · exact .inl e
    · exact .inr (l_mem h)
theorem st_pys {q : Int} : ∀ {S : List Lv}, (∀ t ∈ S, t.dp ≤ 20) → ∃ p, Dat.pys (S.map (Lv.D q)) = some p ∧ PyData.canLayAll0 p = true ∧ PyData.depthAll p ≤ 42 ∧ p.length = S.length
  | [], _ => ⟨[], rfl, rfl, by decide, rfl⟩
  | t :: S, h => by
    obtain ⟨p, h1, h2, h3, _⟩ := D_py (q := q) t
    obtain ⟨ps, k1, k2, k3, k4⟩ := st_pys (q := q) (S := S) fun u hu => h u (List.mem_cons_of_mem _ hu)
    have := h t List.mem_cons_self
    refine ⟨p :: ps, ?_, ?_, ?_, by rw [List.length_cons, List.length_cons, k4]⟩
    · show (match (t.D q).py with | some p => (Dat.pys (S.map (Lv.D q))).map (p :: ·) | none => none) = _
      rw [h1, k1]
      rfl
    · show (p.canLay0 && PyData.canLayAll0 ps) = true
      rw [h2, k2]
      rfl
    · show max p.depth (PyData.depthAll ps) ≤ 42
      omega
theorem eqv_nil {p : List PyData} : PyData.eqvAll p [] = decide (p.length = 0) := by cases p <;> rfl
theorem shaped_L {p : List PyData} (h1 : PyData.canLayAll0 p = true) (h2 : PyData.depthAll p ≤ 42) : SeqAt.shaped (.list p) = true ∧ SeqAt.shaped (.tuple p) = true := by
  constructor
  · show (PyData.canLayAll0 p && decide (PyData.depthAll p + 1 ≤ 64)) = true
    rw [h1, decide_eq_true (by omega)]
    rfl
  · show (PyData.canLayAll0 p && decide (PyData.depthAll p + 1 ≤ 64)) = true
    rw [h1, decide_eq_true (by omega)]
    rfl
theorem st_nil {q : Int} {S : List Lv} {M : Mem} {k : Nat} (h : ∀ t ∈ S, t.dp ≤ 20) (hM : M[k]? = some (.lst (S.map (Lv.D q)))) : eqvD M (.ptr k) (.lst []) = some (decide (S.length = 0)) := by
  obtain ⟨p, h1, h2, h3, h4⟩ := st_pys (q := q) h
  have e : pyD M (.ptr k) = some (.list p) := by
    show (match M[k]? with | some (.lst ds) => (Dat.pys ds).map PyData.list | _ => none) = _
    rw [hM]
    show (Dat.pys (S.map (Lv.D q))).map PyData.list = _
    rw [h1]
    rfl
  unfold eqvD
  rw [e]
  show (if SeqAt.shaped (.list p) && SeqAt.shaped (.list []) then some (PyData.eqv (.list p) (.list [])) else none) = _
  rw [(shaped_L h2 h3).1]
  show some (PyData.eqvAll p []) = _
  rw [eqv_nil, h4]
theorem tup_nil {q : Int} {ks : Lvs} {M : Mem} (h : ks.dp ≤ 20) : eqvD M (.tup (ks.D q)) (.tup []) = some (decide (ks.len = 0)) := by
  obtain ⟨p, h1, h2, h3, h4⟩ := st_pys (q := q) (S := ks.l) fun t ht => by
    have := mem_dp (l_mem ht)
    omega
  rw [l_D] at h1
  have e : pyD M (.tup (ks.D q)) = some (.tuple p) := by
    show (Dat.pys (ks.D q)).map PyData.tuple = _
    rw [h1]
    rfl
  unfold eqvD
  rw [e]
  show (if SeqAt.shaped (.tuple p) && SeqAt.shaped (.tuple []) then some (PyData.eqv (.tuple p) (.tuple [])) else none) = _
  rw [(shaped_L h2 h3).2]
  show some (PyData.eqvAll p []) = _
  rw [eqv_nil, h4]
  have : ks.l.length = ks.len := by
    rw [← D_len (q := q), ← l_D, List.length_map]
  rw [this]
theorem s_aug {wf : Nat} {cf : CallF} {i : Nat} {neg : Bool} {e : Ex} {Γ : Gam} {M M' : Mem} {n j : Int} (h : Γ[i]? = some (some (.int n))) (h2 : evE cf e Γ M = .ok (.int j) M') : evS wf cf (.aug i neg e) Γ M = .ok (.nx (Γ.set i (some (.int (if neg then n - j else n + j))))) M' := by
  show (match Γ[i]? with
    | some (some (.int n)) => (evE cf e Γ M).bind fun d M => match d with
      | .int j => Rs.ok (Fl.nx (Γ.set i (some (.int (if neg then n - j else n + j))))) M
      | _ => .no
    | _ => .no) = _
  rw [h]
  show ((evE cf e Γ M).bind fun d M => match d with
      | .int j => Rs.ok (Fl.nx (Γ.set i (some (.int (if neg then n - j else n + j))))) M
      | _ => .no) = _
  rw [h2]
  rfl
abbrev endsBody : Sms := .cons (.set 4 (.un .pop (.var 2))) (.cons (.expr (.mth .extend (.var 2) (.bin .ix (.var 4) (.dat (.int 1))))) (.cons (.aug 3 false (.un .int (.bin .eqv (.bin .ix (.var 4) (.dat (.int 1))) (.tup .nil)))) .nil))
theorem pop_last {ds : List Dat} {y : Dat} : popD (.ptr 0) [.lst (ds ++ [y])] = some (y, [.lst ds]) := by
  show (match (ds ++ [y])[(ds ++ [y]).length - 1]? with | some y' => some (y', [Cel.lst (ds ++ [y]).dropLast]) | none => none) = _
  have e : (ds ++ [y])[(ds ++ [y]).length - 1]? = some y := by simp
  rw [e]
  simp
theorem ends_loop {q : Int} {cf : CallF} : ∀ (m : Nat) (S : List Lv) (x : Int) (a b o : Option Dat), (∀ t ∈ S, t.dp ≤ 20 ∧ t.ok q) → sumS S < m → m ≤ 10000000 →
    ∃ o', whR lawW cf (.bin .neqv (.var 2) (.lst .nil)) endsBody m [a, b, some (.ptr 0), some (.int x), o] [.lst (S.map (Lv.D q))] = .ok (.nx [a, b, some (.ptr 0), some (.int (x + sumE S)), o']) [.lst []]
  | 0, S, x, a, b, o, _, h, _ => absurd h (by omega)
  | m + 1, S, x, a, b, o, hS, h, hm => by
    have hn := fun M k h => st_nil (q := q) (S := S) (M := M) (k := k) (fun t ht => (hS t ht).1) h
    rcases List.eq_nil_or_concat S with e | ⟨S', t, e⟩
    · subst e
      refine ⟨o, ?_⟩
      rw [wh_stop (M' := [.lst []])]
      · simp [sumE]
      · simp [hn [.lst []] 0 rfl]
    · subst e
      rw [List.concat_eq_append] at *
      cases t with
      | mk n ks =>
        obtain ⟨hd, hok⟩ := hS (.mk n ks) (by simp)
        have hd : ks.dp ≤ 20 := hd
        have ht := tup_nil (q := q) (ks := ks) (M := [.lst ((S' ++ ks.l).map (Lv.D q))]) hd
        have hs : sumS (S' ++ [Lv.mk n ks]) = sumS S' + (ks.sz + 1 + 0) := sumS_app _ _
        have hle : sumS (S' ++ ks.l) < m := by
          rw [sumS_app, l_sumS]
          omega
        obtain ⟨o', ih⟩ := ends_loop m (S' ++ ks.l) (x + (if ks.len = 0 then 1 else 0)) a b (some (.tup [fr (n, q), .tup (ks.D q)])) (fun t ht => by
          rcases List.mem_append.mp ht with ht | ht
          · exact hS t (by simp [ht])
          · have := mem_dp (l_mem ht)
            exact ⟨by omega, (mem_ok hok.2.2.2.2.2 (l_mem ht)).2⟩) hle (by omega)
        refine ⟨o', ?_⟩
        have hx : x + (if ks.len = 0 then 1 else 0) + sumE (S' ++ ks.l) = x + sumE (S' ++ [Lv.mk n ks]) := by
          rw [sumE_app, sumE_app, l_sumE]
          show _ = x + (sumE S' + ((if ks.len = 0 then 1 else Lvs.ec ks) + 0))
          by_cases hk : ks.len = 0
          · rw [if_pos hk, if_pos hk]
            cases ks with
            | nil => show x + 1 + (sumE S' + 0) = _; omega
            | cons _ _ => cases hk
          · rw [if_neg hk, if_neg hk]; omega
        rw [hx] at ih
        rw [wh_go (M' := [.lst ((S' ++ [Lv.mk n ks]).map (Lv.D q))]) (Γ2 := [a, b, some (.ptr 0), some (.int (x + (if ks.len = 0 then 1 else 0))), some (.tup [fr (n, q), .tup (ks.D q)])]) (M2 := [.lst ((S' ++ ks.l).map (Lv.D q))]) ?_ ?_]
        · exact ih
        · have := hn [.lst ((S' ++ [Lv.mk n ks]).map (Lv.D q))] 0 rfl
          simp at this
          simp [this]
        · have hpop : popD (.ptr 0) [.lst ((S' ++ [Lv.mk n ks]).map (Lv.D q))] = some (.tup [fr (n, q), .tup (ks.D q)], [.lst (S'.map (Lv.D q))]) := by
            rw [List.map_append]
            exact pop_last
          have hl1 := len_sumS (S' ++ ks.l)
          have hext : extD (.ptr 0) (.tup (ks.D q)) [.lst (S'.map (Lv.D q))] = some [.lst ((S' ++ ks.l).map (Lv.D q))] := by
            show (if (S'.map (Lv.D q)).length + (ks.D q).length ≤ sizeLine then some [Cel.lst (S'.map (Lv.D q) ++ ks.D q)] else none) = _
            rw [if_pos, List.map_append, l_D]
            rw [← l_D, List.length_map, List.length_map, sizeLine_eq]
            rw [List.length_append] at hl1
            omega
          have e1 : evS lawW cf (.set 4 (.un .pop (.var 2))) [a, b, some (.ptr 0), some (.int x), o] [.lst ((S' ++ [Lv.mk n ks]).map (Lv.D q))] = .ok (.nx [a, b, some (.ptr 0), some (.int x), some (.tup [fr (n, q), .tup (ks.D q)])]) [.lst (S'.map (Lv.D q))] := by
            have : un1 .pop (.ptr 0) [.lst ((S' ++ [Lv.mk n ks]).map (Lv.D q))] = some (.tup [fr (n, q), .tup (ks.D q)], [.lst (S'.map (Lv.D q))]) := hpop
            simp only [s_set, e_un, e_var, List.getElem?_cons_succ, List.getElem?_cons_zero, varR_ok, bind_ok, this, ofO_some]
            rfl
          have e2 : evS lawW cf (.expr (.mth .extend (.var 2) (.bin .ix (.var 4) (.dat (.int 1))))) [a, b, some (.ptr 0), some (.int x), some (.tup [fr (n, q), .tup (ks.D q)])] [.lst (S'.map (Lv.D q))] = .ok (.nx [a, b, some (.ptr 0), some (.int x), some (.tup [fr (n, q), .tup (ks.D q)])]) [.lst ((S' ++ ks.l).map (Lv.D q))] := by
            have hc : isCl [.lst (S'.map (Lv.D q))] (.ptr 0) = true := rfl
            have hm : mthR .extend (.ptr 0) (.tup (ks.D q)) [.lst (S'.map (Lv.D q))] = .ok .non [.lst ((S' ++ ks.l).map (Lv.D q))] := by
              show ofO ((extD (.ptr 0) (.tup (ks.D q)) [.lst (S'.map (Lv.D q))]).map _) = _
              rw [hext]
              rfl
            simp only [s_expr, e_mth, e_var, List.getElem?_cons_succ, List.getElem?_cons_zero, varR_ok, bind_ok, hc, if_true, e_bin, e_dat, b_ix, it_t1, map_some', ofO_some, hm]
          have e3 : evE cf (.un .int (.bin .eqv (.bin .ix (.var 4) (.dat (.int 1))) (.tup .nil))) [a, b, some (.ptr 0), some (.int x), some (.tup [fr (n, q), .tup (ks.D q)])] [.lst ((S' ++ ks.l).map (Lv.D q))] = .ok (.int (if ks.len = 0 then 1 else 0)) [.lst ((S' ++ ks.l).map (Lv.D q))] := by
            simp only [e_un, e_bin, e_var, List.getElem?_cons_succ, List.getElem?_cons_zero, varR_ok, bind_ok, e_dat, b_ix, it_t1, map_some', ofO_some, e_tup, a_nil, okLen_0, b_eqv, ht, u_intb]
            by_cases hk : ks.len = 0 <;> simp [hk]
          rw [ss_cons, e1, bind_ok, nxR_nx, ss_cons, e2, bind_ok, nxR_nx, ss_cons, s_aug (n := x) rfl e3, bind_ok, nxR_nx, ss_nil]
          rfl
theorem r_lends {q : Int} (hq : Qm q) (t : Lv) (d : Dat) (k : Nat) (h : t.ok q) (hd : t.dp ≤ 4) (g : TellsT q t d) (hk : 2 * t.dp + 6 ≤ k) : Fz (F (k + 1)) 15 [d] (.int t.ec) := by
  obtain ⟨k, rfl⟩ : ∃ k', k = k' + 1 := ⟨k - 1, by omega⟩
  have hsz := sz_le (t := t) 4 h hd
  have hB : sB 4 = 121 := by decide
  obtain ⟨o', e⟩ := ends_loop (q := q) (cf := F (k + 1)) lawW [t] 0 (some d) (some (t.D q)) none (fun u hu => by
    rw [List.mem_singleton.mp hu]
    exact ⟨by omega, h⟩) (by
      show t.sz + 0 < 10000000
      omega) (Nat.le_refl _)
  have e0 : (0 : Int) + sumE [t] = t.ec := by show 0 + (t.ec + 0) = t.ec; omega
  rw [e0] at e
  refine Fz.of (M1 := [.lst []]) (nps1 (plain_np g.1)) (run_of rfl rfl ?_) rfl
  show evSs lawW (F (k + 1)) ir_levels_ends [some d, none, none, none, none] [] = _
  unfold ir_levels_ends
  have e1 := r_sure hq t d k h (by omega) g (by omega) []
  simp [e1]
  have e : whR lawW (F (k + 1)) (.bin .neqv (.var 2) (.lst .nil)) endsBody lawW [some d, some (t.D q), some (.ptr 0), some (.int 0), none] [.lst [t.D q]] = _ := e
  rw [e]
  simp
end Ab
end

section
set_option linter.all false
set_option maxRecDepth 100000
set_option maxHeartbeats 1000000
namespace Ab
open PySem L2
mutual
def Lv.ends : Lv → List Int
  | .mk n ks => if ks.len = 0 then [n] else (Lvs.ends ks).flatten
def Lvs.ends : Lvs → List (List Int)
  | .nil => []
  | .cons t ts => t.ends :: Lvs.ends ts
end
abbrev frs_ (q : Int) (xs : List Int) : List Dat := xs.map fun x => fr (x, q)
/-- a call whose result is a list of ours -/
def Cl_ (cf : CallF) (j : Nat) (ds xs : List Dat) : Prop := ∀ M, callW cf .cl j ds M = .ok (.ptr M.length) (M ++ [.lst xs])
theorem Cl_.of {cf : CallF} {j k : Nat} {ds xs : List Dat} {M1 : Mem} (hn : Dat.nps ds = true) (h : cf j ds [] = .ok (.ptr k) M1) (hM : M1[k]? = some (.lst xs)) (hx : Dat.nps xs = true) : Cl_ cf j ds xs := fun M => by
  show callN backC (cf j) ds M = _
  unfold callN
  rw [if_pos hn, h]
  show (match M1[k]? with | some (.lst ds) => if Dat.nps ds then Rs.ok (Dat.ptr M.length) (M ++ [Cel.lst ds]) else .no | _ => .no) = _
  rw [hM]
  show (if Dat.nps xs then Rs.ok (Dat.ptr M.length) (M ++ [Cel.lst xs]) else .no) = _
  rw [if_pos hx]
theorem frs_np {q : Int} : ∀ xs : List Int, Dat.nps (frs_ q xs) = true
  | [] => rfl
  | x :: xs => by
    show ((fr (x, q)).np && Dat.nps (frs_ q xs)) = true
    rw [frs_np xs]
    rfl
def lls (q : Int) (xss : List (List Int)) : List Dat := xss.map fun xs => Dat.lst (frs_ q xs)
theorem lls_np {q : Int} : ∀ xss : List (List Int), Dat.nps (lls q xss) = true
  | [] => rfl
  | xs :: xss => by
    show (Dat.nps (frs_ q xs) && Dat.nps (lls q xss)) = true
    rw [lls_np xss, frs_np xs]
    rfl
theorem frs_len {q : Int} (xs : List Int) : (frs_ q xs).length = xs.length := List.length_map _
theorem flat_loop {q : Int} {cf : CallF} : ∀ (xss : List (List Int)) (acc : List Int) (a o : Option Dat), acc.length + xss.flatten.length ≤ 1000000 →
    ∃ o', forR lawW cf [(.lst ds, ds)] (.name 2) (.cons (.expr (.mth .extend (.var 1) (.var 2))) .nil) (lls q xss) [a, some (.ptr 0), o] [.lst (frs_ q acc)] = .ok (.nx [a, some (.ptr 0), o']) [.lst (frs_ q (acc ++ xss.flatten))]
  | [], acc, a, o, _ => ⟨o, by rw [List.flatten_nil, List.append_nil]; rfl⟩
  | xs :: xss, acc, a, o, h => by
    rw [List.flatten_cons, List.length_append] at h
    obtain ⟨o', ih⟩ := flat_loop (ds := ds) (q := q) (cf := cf) xss (acc ++ xs) a (some (.lst (frs_ q xs))) (by rw [List.length_append]; omega)
    refine ⟨o', ?_⟩
    have hext : mthR .extend (.ptr 0) (.lst (frs_ q xs)) [.lst (frs_ q acc)] = .ok .non [.lst (frs_ q (acc ++ xs))] := by
      show ofO ((if (frs_ q acc).length + (frs_ q xs).length ≤ sizeLine then some [Cel.lst (frs_ q acc ++ frs_ q xs)] else none).map _) = _
      rw [if_pos (by rw [frs_len, frs_len, sizeLine_eq]; omega), ← List.map_append]
      rfl
    have hc : isCl [.lst (frs_ q acc)] (.ptr 0) = true := rfl
    have hl : lls q (xs :: xss) = .lst (frs_ q xs) :: lls q xss := rfl
    rw [hl, for_go (Γ1 := [a, some (.ptr 0), some (.lst (frs_ q xs))]) (M1 := [.lst (frs_ q acc)]) (Γ2 := [a, some (.ptr 0), some (.lst (frs_ q xs))]) (M2 := [.lst (frs_ q (acc ++ xs))]) (by simp) ?_ rfl, ih, List.flatten_cons, List.append_assoc]
    simp only [ss_cons, s_expr, e_mth, e_var, List.getElem?_cons_succ, List.getElem?_cons_zero, varR_ok, bind_ok, hc, if_true, hext, nxR_nx, ss_nil]
theorem r_flat {q : Int} {k : Nat} (xss : List (List Int)) (h : xss.flatten.length ≤ 100000) : Cl_ (F (k + 1)) 27 [.lst (lls q xss)] (frs_ q xss.flatten) := by
  obtain ⟨o', e⟩ := flat_loop (ds := lls q xss) (q := q) (cf := F k) xss [] (some (.lst (lls q xss))) none (by show 0 + _ ≤ 1000000; omega)
  refine Cl_.of (k := 0) (M1 := [.lst (frs_ q xss.flatten)]) (nps1 (lls_np xss)) (run_of rfl rfl ?_) rfl (frs_np _)
  show evSs lawW (F k) ir__law_flat [some (.lst (lls q xss)), none, none] [] = _
  unfold ir__law_flat
  simp [forI_ok (show gdOk [Cel.lst []] [(Dat.lst (lls q xss), lls q xss)] = true from rfl)]
  have e : forR lawW (F k) [(.lst (lls q xss), lls q xss)] (.name 2) (.cons (.expr (.mth .extend (.var 1) (.var 2))) .nil) (lls q xss) [some (.lst (lls q xss)), some (.ptr 0), none] [.lst []] = _ := e
  rw [e]
  simp
theorem ends_at {q : Int} : ∀ {ts : Lvs} {i : Nat} {d : Dat} {x : List Int}, (ts.D q)[i]? = some d → (Lvs.ends ts)[i]? = some x → ∃ t, ts.mem t ∧ d = t.D q ∧ x = t.ends
  | .nil, i, d, x, h, _ => by cases i <;> cases h
  | .cons t ts, 0, d, x, h, k => ⟨t, .inl rfl, (Option.some.inj h).symm, (Option.some.inj k).symm⟩
  | .cons t ts, i + 1, d, x, h, k => by
    obtain ⟨u, h1, h2, h3⟩ := ends_at (ts := ts) (i := i) (d := d) (x := x) h k
    exact ⟨u, .inr h1, h2, h3⟩
theorem ends_len : ∀ ts : Lvs, (Lvs.ends ts).length = ts.len
  | .nil => rfl
  | .cons t ts => congrArg (· + 1) (ends_len ts)
mutual
theorem ends_sz : ∀ t : Lv, t.ends.length ≤ t.sz
  | .mk n ks => by
    have := endss_sz ks
    show (if ks.len = 0 then [n] else (Lvs.ends ks).flatten).length ≤ ks.sz + 1
    split
    · show 1 ≤ _; omega
    · omega
theorem endss_sz : ∀ ts : Lvs, (Lvs.ends ts).flatten.length ≤ ts.sz
  | .nil => Nat.le_refl _
  | .cons t ts => by
    have h1 := ends_sz t
    have h2 := endss_sz ts
    show (t.ends ++ (Lvs.ends ts).flatten).length ≤ t.sz + ts.sz
    rw [List.length_append]
    omega
end
mutual
theorem ends_ec : ∀ t : Lv, (t.ends.length : Int) = t.ec
  | .mk n ks => by
    have := endss_ec ks
    show ((if ks.len = 0 then [n] else (Lvs.ends ks).flatten).length : Int) = if ks.len = 0 then 1 else Lvs.ec ks
    split
    · rfl
    · exact this
theorem endss_ec : ∀ ts : Lvs, ((Lvs.ends ts).flatten.length : Int) = ts.ec
  | .nil => rfl
  | .cons t ts => by
    have h1 := ends_ec t
    have h2 := endss_ec ts
    show ((t.ends ++ (Lvs.ends ts).flatten).length : Int) = t.ec + ts.ec
    rw [List.length_append]
    omega
end
theorem r_ends {q : Int} : ∀ (m : Nat) (t : Lv) (k : Nat), t.dp ≤ m → m ≤ 4 → t.ok q → t.dp + 2 ≤ k → Fz (F (k + 1)) 31 [t.D q] (.lst (frs_ q t.ends))
  | m, .mk n ks, k, hm, hm4, h, hk => by
    have hok := h
    obtain ⟨h1, h2, h3, h4, h5, h6⟩ := h
    have hk : ks.dp + 2 ≤ k := hk
    have hm : ks.dp ≤ m := hm
    obtain ⟨k, rfl⟩ : ∃ k', k = k' + 2 := ⟨k - 2, by omega⟩
    have hl : (Lvs.D q ks).length = ks.len := D_len ks
    have hsz := sz_le (t := .mk n ks) 4 hok (by show ks.dp ≤ 4; omega)
    have hB : sB 4 = 121 := by decide
    have ht := tup_nil (q := q) (ks := ks) (M := []) (by omega)
    by_cases hz : ks.len = 0
    · have he : Lv.ends (.mk n ks) = [n] := by
        show (if ks.len = 0 then [n] else _) = _
        rw [if_pos hz]
      rw [he]
      refine Fz.ofL (k := 0) (M1 := [.lst [fr (n, q)]]) (nps1 (D_np hok)) (run_of rfl rfl ?_) rfl rfl
      show evSs lawW (F (k + 2)) ir__law_ends [some (.tup [fr (n, q), .tup (Lvs.D q ks)]), none] [] = _
      unfold ir__law_ends
      simp [ht, hz]
    · have he : Lv.ends (.mk n ks) = (Lvs.ends ks).flatten := by
        show (if ks.len = 0 then [n] else _) = _
        rw [if_neg hz]
      have hsz2 := endss_sz ks
      have hsz : ks.sz + 1 ≤ sB 4 := hsz
      rw [he]
      refine Fz.ofL (k := 0) (M1 := [.lst (frs_ q (Lvs.ends ks).flatten)]) (nps1 (D_np hok)) (run_of rfl rfl ?_) rfl (frs_np _)
      show evSs lawW (F (k + 2)) ir__law_ends [some (.tup [fr (n, q), .tup (Lvs.D q ks)]), none] [] = _
      unfold ir__law_ends
      have e : lcI (F (k + 2)) false (.one 1) [1] (.dat (.bl true)) (.call .fz 31 (.cons (.var 1) .nil)) [some (.tup [fr (n, q), .tup (Lvs.D q ks)]), none] (Lvs.D q ks, []) [] = .ok (.lst (lls q (Lvs.ends ks))) [] :=
        lcs_ok (by omega) rfl (by unfold lls; rw [List.length_map, ends_len, hl]) fun i d x hd hx => by
          unfold lls at hx
          rw [List.getElem?_map] at hx
          obtain ⟨y, hy, ex⟩ := Option.map_eq_some_iff.mp hx
          obtain ⟨u, hu, ed, ey⟩ := ends_at hd hy
          obtain ⟨_, hok2⟩ := mem_ok h6 hu
          subst ed ex ey
          have hdu := mem_dp hu
          have ih : Fz (F (k + 2)) 31 [u.D q] (.lst (frs_ q u.ends)) := match m with
            | 0 => absurd hdu (by omega)
            | m + 1 => r_ends m u (k + 1) (by omega) (by omega) hok2 (by omega)
          exact ⟨_, rfl, by simp [wipeG, ih []]⟩
      have ef := r_flat (q := q) (k := k + 1) (Lvs.ends ks) (by omega) []
      simp [ht, hz, e, ef]
/-! in order -/
def insL (acc : List Int) (x : Int) : List Int := (acc.filter fun y => !decide (x < y)) ++ [x] ++ acc.filter fun y => decide (x < y)
theorem insL_perm (acc : List Int) (x : Int) : (insL acc x).Perm (x :: acc) := by
  unfold insL
  rw [List.append_assoc]
  have h := List.filter_append_perm (fun y => decide (x < y)) acc
  refine List.perm_middle.trans (List.Perm.cons x ?_)
  exact List.perm_append_comm.trans h
theorem insL_srt {acc : List Int} {x : Int} (h : acc.Pairwise (· ≤ ·)) : (insL acc x).Pairwise (· ≤ ·) := by
  unfold insL
  rw [List.append_assoc]
  refine List.pairwise_append.mpr ⟨h.filter _, List.pairwise_cons.mpr ⟨fun y hy => ?_, h.filter _⟩, fun a ha b hb => ?_⟩
  · have := (List.mem_filter.mp hy).2
    simp at this
    omega
  · have h1 := (List.mem_filter.mp ha).2
    simp at h1
    rcases List.mem_cons.mp hb with e | hb
    · omega
    · have h2 := (List.mem_filter.mp hb).2
      simp at h2
      omega
def inoL (xs : List Int) : List Int := xs.foldl insL []
theorem ino_both : ∀ (xs acc : List Int), acc.Pairwise (· ≤ ·) → (xs.foldl insL acc).Pairwise (· ≤ ·) ∧ (xs.foldl insL acc).Perm (xs ++ acc)
  | [], acc, h => ⟨h, List.Perm.refl _⟩
  | x :: xs, acc, h => by
    obtain ⟨h1, h2⟩ := ino_both xs (insL acc x) (insL_srt h)
    refine ⟨h1, h2.trans ?_⟩
    exact ((insL_perm acc x).append_left xs).trans (List.perm_middle)
theorem frs_filter {q : Int} {p : Int → Bool} {P : Dat → Bool} (h : ∀ x, P (fr (x, q)) = p x) : ∀ xs : List Int, (frs_ q xs).filter P = frs_ q (xs.filter p)
  | [] => rfl
  | x :: xs => by
    show (fr (x, q) :: frs_ q xs).filter P = _
    cases hp : p x with
    | true => rw [List.filter_cons_of_pos (by rw [h, hp]), List.filter_cons_of_pos hp, frs_filter h xs]; rfl
    | false => rw [List.filter_cons_of_neg (by rw [h, hp]; exact Bool.false_ne_true), List.filter_cons_of_neg (by rw [hp]; exact Bool.false_ne_true), frs_filter h xs]
theorem lt_mul {q a b : Int} (hq : 0 < q) : (a * q < b * q ↔ a < b) := by
  have := sign_mul (a := a) (b := b) hq
  omega
theorem ino_loop {q : Int} (hq : Qm q) {k : Nat} : ∀ (xs acc : List Int) (a o1 o2 : Option Dat) (g : Dat × List Dat), gdOk1 [] g = true → (∀ x ∈ xs ++ acc, -500 ≤ x ∧ x ≤ 500) → xs.length + acc.length ≤ 900 →
    ∃ o1' o2', forR lawW (F (k + 1)) [g] (.name 2) (.cons (.set 1 (.bin .catL (.bin .catL (.lc false (.one 3) [3] (.any (.var 1)) (.un .notB (.call .fz 28 (.cons (.var 2) (.cons (.var 3) .nil)))) (.var 3)) (.lst (.cons (.var 2) .nil))) (.lc false (.one 3) [3] (.any (.var 1)) (.call .fz 28 (.cons (.var 2) (.cons (.var 3) .nil))) (.var 3)))) .nil) (frs_ q xs) [a, some (.lst (frs_ q acc)), o1, o2] [] = .ok (.nx [a, some (.lst (frs_ q (xs.foldl insL acc))), o1', o2']) []
  | [], acc, a, o1, o2, g, _, _, _ => ⟨o1, o2, rfl⟩
  | x :: xs, acc, a, o1, o2, g, hg, hb, hl => by
    have hp := insL_perm acc x
    have hpl := hp.length_eq
    rw [List.length_cons] at hl hpl
    obtain ⟨p1, p2, ih⟩ := ino_loop hq (k := k) xs (insL acc x) a (some (fr (x, q))) o2 g hg (fun y hy => by
      rcases List.mem_append.mp hy with hy | hy
      · exact hb y (by simp [hy])
      · rcases List.mem_cons.mp (hp.mem_iff.mp hy) with e | hy
        · exact hb y (by simp [e])
        · exact hb y (by simp [hy])) (by omega)
    refine ⟨p1, p2, ?_⟩
    have hx := hb x (by simp)
    have nmx : Nm (x, q) := ⟨by show -1000 ≤ x ∧ x ≤ 1000; omega, hq⟩
    have less : ∀ y ∈ acc, callW (F (k + 1)) .fz 28 [fr (x, q), fr (y, q)] [] = .ok (.bl (decide (x < y))) [] := fun y hy => by
      have hy := hb y (by simp [hy])
      have nmy : Nm (y, q) := ⟨by show -1000 ≤ y ∧ y ≤ 1000; omega, hq⟩
      have := r_less (k := k) nmx nmy []
      rw [this]
      have h2 := lt_mul (a := x) (b := y) hq.1
      simp [h2]
    obtain ⟨P, hP⟩ : ∃ P : Dat → Bool, ∀ y : Int, P (fr (y, q)) = decide (x < y) := ⟨fun d => match d with
      | .tup (.int y :: _) => decide (x < y)
      | _ => false, fun y => rfl⟩
    have hlen : (frs_ q acc).length ≤ 1000 := by rw [frs_len]; omega
    have gd : gdOk [] [(Dat.lst (frs_ q acc), frs_ q acc)] = true := rfl
    have e1 : lcI (F (k + 1)) false (.one 3) [3] (.un .notB (.call .fz 28 (.cons (.var 2) (.cons (.var 3) .nil)))) (.var 3) [a, some (.lst (frs_ q acc)), some (fr (x, q)), o2] (frs_ q acc, [(Dat.lst (frs_ q acc), frs_ q acc)]) [] = .ok (.lst (frs_ q (acc.filter fun y => !decide (x < y)))) [] := by
      rw [lcI_ok hlen gd, lcR_filter (p := fun d => !P d) (f := fun d => d) gd fun d hd => ?_]
      · rw [frs_filter (p := fun y => !decide (x < y)) (fun y => by rw [hP])]
        simp
      · obtain ⟨y, hy, ed⟩ := List.mem_map.mp hd
        subst ed
        exact ⟨_, rfl, by simp [wipeG, less y hy, hP], by simp [wipeG]⟩
    have e2 : lcI (F (k + 1)) false (.one 3) [3] (.call .fz 28 (.cons (.var 2) (.cons (.var 3) .nil))) (.var 3) [a, some (.lst (frs_ q acc)), some (fr (x, q)), o2] (frs_ q acc, [(Dat.lst (frs_ q acc), frs_ q acc)]) [] = .ok (.lst (frs_ q (acc.filter fun y => decide (x < y)))) [] := by
      rw [lcI_ok hlen gd, lcR_filter (p := P) (f := fun d => d) gd fun d hd => ?_]
      · rw [frs_filter (p := fun y => decide (x < y)) (fun y => hP y)]
        simp
      · obtain ⟨y, hy, ed⟩ := List.mem_map.mp hd
        subst ed
        exact ⟨_, rfl, by simp [wipeG, less y hy, hP], by simp [wipeG]⟩
    have l1 : (acc.filter fun y => !decide (x < y)).length ≤ acc.length := List.length_filter_le _ _
    have l2 : (acc.filter fun y => decide (x < y)).length ≤ acc.length := List.length_filter_le _ _
    have hc : frs_ q (x :: xs) = fr (x, q) :: frs_ q xs := rfl
    rw [hc, for_go (Γ1 := [a, some (.lst (frs_ q acc)), some (fr (x, q)), o2]) (M1 := []) (Γ2 := [a, some (.lst (frs_ q (insL acc x))), some (fr (x, q)), o2]) (M2 := []) (by simp) ?_ (by show (gdOk1 [] g && true) = true; rw [hg]; rfl), ih]
    · rfl
    · have c1 : bin2 .catL (.lst (frs_ q (acc.filter fun y => !decide (x < y)))) (.lst [fr (x, q)]) [] = some (.lst (frs_ q (acc.filter fun y => !decide (x < y)) ++ [fr (x, q)]), []) := b_catL (by rw [frs_len]; show _ + 1 ≤ 1000; omega)
      have hpl2 := hpl
      unfold insL at hpl2
      rw [List.length_append, List.length_append] at hpl2
      have hpl3 : ([x] : List Int).length = 1 := rfl
      have c2 : bin2 .catL (.lst (frs_ q (acc.filter fun y => !decide (x < y)) ++ [fr (x, q)])) (.lst (frs_ q (acc.filter fun y => decide (x < y)))) [] = some (.lst ((frs_ q (acc.filter fun y => !decide (x < y)) ++ [fr (x, q)]) ++ frs_ q (acc.filter fun y => decide (x < y))), []) := b_catL (by rw [List.length_append, frs_len, frs_len]; show _ + 1 + _ ≤ 1000; omega)
      have hi : frs_ q (acc.filter fun y => !decide (x < y)) ++ [fr (x, q)] ++ frs_ q (acc.filter fun y => decide (x < y)) = frs_ q (insL acc x) := by
        simp [insL]
      rw [hi] at c2
      simp only [ss_cons, s_set, e_bin, e_lc, i_any, e_var, List.getElem?_cons_succ, List.getElem?_cons_zero, varR_ok, bind_ok, anyR_lst, e1, e2, e_lst, a_cons, a_nil, okLen_1, c1, c2, ofO_some, nxR_nx, ss_nil]
      rfl
theorem r_ino {q : Int} (hq : Qm q) {k : Nat} (xs : List Int) (hb : ∀ x ∈ xs, -500 ≤ x ∧ x ≤ 500) (hl : xs.length ≤ 900) : Fz (F (k + 2)) 29 [.lst (frs_ q xs)] (.tup (frs_ q (inoL xs))) := by
  obtain ⟨o1, o2, e⟩ := ino_loop hq (k := k) xs [] (some (.lst (frs_ q xs))) none none (Dat.lst (frs_ q xs), frs_ q xs) rfl (fun x hx => hb x (by simpa using hx)) (by simpa using hl)
  refine Fz.of (M1 := []) (nps1 (frs_np xs)) (run_of rfl rfl ?_) (frs_np _)
  show evSs lawW (F (k + 1)) ir__law_in_order [some (.lst (frs_ q xs)), none, none, none] [] = _
  unfold ir__law_in_order
  simp [forI_ok (show gdOk [] [(Dat.lst (frs_ q xs), frs_ q xs)] = true from rfl)]
  have e : forR lawW (F (k + 1)) [(Dat.lst (frs_ q xs), frs_ q xs)] (.name 2) _ (frs_ q xs) [some (.lst (frs_ q xs)), some (.lst []), none, none] [] = _ := e
  rw [e]
  simp
  rfl
end Ab
end

section
set_option linter.all false
set_option maxRecDepth 100000
set_option maxHeartbeats 1000000
namespace Ab
open PySem L2
theorem least_le_n {q : Int} (hq : 0 < q) {t : Lv} (h : t.ok q) : t.least ≤ t.n := by
  obtain ⟨j, hj, e⟩ := ok_cong h
  have := Int.mul_nonneg hj (Int.le_of_lt hq)
  omega
mutual
theorem least_ends {q : Int} (hq : 0 < q) : ∀ {t : Lv}, t.ok q → t.least ∈ t.ends ∧ ∀ x ∈ t.ends, t.least ≤ x ∧ x ≤ 500
  | .mk n ks, h => by
    have hok := h
    obtain ⟨h1, h2, h3, h4, h5, h6⟩ := h
    show Lvs.least n ks ∈ (if ks.len = 0 then [n] else (Lvs.ends ks).flatten) ∧ ∀ x ∈ (if ks.len = 0 then [n] else (Lvs.ends ks).flatten), Lvs.least n ks ≤ x ∧ x ≤ 500
    obtain ⟨e1, e2, e3⟩ := leasts_ends hq (x := n) h6
    by_cases hz : ks.len = 0
    · rw [if_pos hz]
      cases ks with
      | nil =>
        refine ⟨List.mem_singleton.mpr rfl, fun x hx => ?_⟩
        rw [List.mem_singleton.mp hx]
        exact ⟨Int.le_refl _, h1.2⟩
      | cons _ _ => cases hz
    · rw [if_neg hz]
      refine ⟨?_, e3⟩
      rcases e1 with ⟨e, hall⟩ | e
      · exfalso
        cases ks with
        | nil => exact hz rfl
        | cons t ts =>
          obtain ⟨⟨j, hj, hn⟩, hok2, _⟩ := h6
          have := hall t (.inl rfl)
          have h7 := least_le_n hq hok2
          have := Int.mul_pos hj hq
          omega
      · exact e
theorem leasts_ends {q n x : Int} (hq : 0 < q) : ∀ {ts : Lvs}, ts.ok q n → ((ts.least x = x ∧ ∀ t, ts.mem t → x ≤ t.least) ∨ ts.least x ∈ (Lvs.ends ts).flatten) ∧ ts.least x ≤ x ∧ ∀ y ∈ (Lvs.ends ts).flatten, ts.least x ≤ y ∧ y ≤ 500
  | .nil, _ => ⟨.inl ⟨rfl, fun t h => h.elim⟩, Int.le_refl _, fun y h => by cases h⟩
  | .cons t ts, h => by
    obtain ⟨k1, k2⟩ := least_ends hq h.2.1
    show ((Lvs.least (if t.least < x then t.least else x) ts = x ∧ ∀ u, (Lvs.cons t ts).mem u → x ≤ u.least) ∨ Lvs.least (if t.least < x then t.least else x) ts ∈ t.ends ++ (Lvs.ends ts).flatten) ∧ Lvs.least (if t.least < x then t.least else x) ts ≤ x ∧ ∀ y ∈ t.ends ++ (Lvs.ends ts).flatten, Lvs.least (if t.least < x then t.least else x) ts ≤ y ∧ y ≤ 500
    by_cases c : t.least < x
    · rw [if_pos c]
      obtain ⟨e1, e2, e3⟩ := leasts_ends hq (ts := ts) (x := t.least) h.2.2
      refine ⟨.inr ?_, by omega, fun y hy => ?_⟩
      · rcases e1 with ⟨e, _⟩ | e
        · rw [e]; exact List.mem_append_left _ k1
        · exact List.mem_append_right _ e
      · rcases List.mem_append.mp hy with hy | hy
        · have := k2 y hy; omega
        · exact e3 y hy
    · rw [if_neg c]
      obtain ⟨e1, e2, e3⟩ := leasts_ends hq (ts := ts) (x := x) h.2.2
      refine ⟨?_, e2, fun y hy => ?_⟩
      · rcases e1 with ⟨e, hall⟩ | e
        · refine .inl ⟨e, fun u hu => ?_⟩
          rcases hu with hu | hu
          · rw [hu]; omega
          · exact hall u hu
        · exact .inr (List.mem_append_right _ e)
      · rcases List.mem_append.mp hy with hy | hy
        · have := k2 y hy; omega
        · exact e3 y hy
end
theorem ino_head {q : Int} (hq : 0 < q) {t : Lv} (h : t.ok q) : ∃ r, inoL t.ends = t.least :: r ∧ (inoL t.ends).length = t.ends.length := by
  obtain ⟨h1, h2⟩ := least_ends hq h
  obtain ⟨s1, s2⟩ := ino_both t.ends [] List.Pairwise.nil
  rw [List.append_nil] at s2
  have hm : t.least ∈ inoL t.ends := s2.mem_iff.mpr h1
  have hs : (inoL t.ends).Pairwise (· ≤ ·) := s1
  cases hc : inoL t.ends with
  | nil => rw [hc] at hm; cases hm
  | cons a r =>
    rw [hc] at hm hs
    have ha : a ∈ t.ends := s2.mem_iff.mp (show a ∈ inoL t.ends by rw [hc]; exact List.mem_cons_self)
    have h3 := (h2 a ha).1
    have h4 : a ≤ t.least := by
      rcases List.mem_cons.mp hm with e | hm
      · omega
      · exact (List.pairwise_cons.mp hs).1 _ hm
    have e : a = t.least := by omega
    refine ⟨r, by rw [e], ?_⟩
    rw [← hc]
    exact s2.length_eq
/-! ranks -/
def sumTo (f : Nat → Int) : Nat → Int
  | 0 => 0
  | n + 1 => sumTo f n + f n
theorem sumTo_const {f : Nat → Int} {a n : Nat} (h : ∀ k, a ≤ k → k < n → f k = 1) (ha : a ≤ n) : sumTo f n = sumTo f a + ((n : Int) - a) := by
  induction n with
  | zero =>
    obtain rfl : a = 0 := by omega
    show sumTo f 0 = sumTo f 0 + 0
    omega
  | succ n ih =>
    by_cases e : a = n + 1
    · subst e; omega
    · show sumTo f n + f n = _
      rw [ih (fun k h1 h2 => h k h1 (by omega)) (by omega), h n (by omega) (by omega)]
      omega
theorem sumTo_congr {f g : Nat → Int} {n : Nat} (h : ∀ k, k < n → f k = g k) : sumTo f n = sumTo g n := by
  induction n with
  | zero => rfl
  | succ n ih =>
    show sumTo f n + f n = sumTo g n + g n
    rw [ih fun k hk => h k (by omega), h n (by omega)]
theorem sumTo_add {f g : Nat → Int} {n : Nat} : sumTo (fun k => f k + g k) n = sumTo f n + sumTo g n := by
  induction n with
  | zero => rfl
  | succ n ih =>
    show sumTo (fun k => f k + g k) n + (f n + g n) = (sumTo f n + f n) + (sumTo g n + g n)
    rw [ih]
    omega
theorem sumTo_zero {n : Nat} : sumTo (fun _ => 0) n = 0 := by
  induction n with
  | zero => rfl
  | succ n ih => show sumTo (fun _ => 0) n + 0 = 0; omega
theorem lots_mk {q x n : Int} (hq : 0 < q) {ks : Lvs} : Lv.lots q (x, q) (.mk n ks) = if n ≤ x then 1 else (Lvs.lots q (x, q) ks).sum := by
  show (if n * q ≤ x * q then (1 : Int) else _) = _
  have h := lt_mul (a := x) (b := n) hq
  by_cases c : n ≤ x
  · rw [if_pos c, if_pos (by omega)]
  · rw [if_neg c, if_neg (by omega)]
mutual
theorem lots_sum {q : Int} (hq : 0 < q) {L : Int} : ∀ (t : Lv) (h N : Nat), t.ok q → t.n = L + h * q → L ≤ t.least → h < N → sumTo (fun k => t.lots q (L + k * q, q)) N = t.leng q + ((N : Int) - h)
  | .mk n ks, h, N, hok, hn, hL, hN => by
    have hn : n = L + h * q := hn
    obtain ⟨_, _, _, _, _, h6⟩ := hok
    have e1 : ∀ k, h ≤ k → k < N → (fun k : Nat => Lv.lots q (L + k * q, q) (.mk n ks)) k = 1 := fun k h1 _ => by
      show Lv.lots q (L + k * q, q) (.mk n ks) = 1
      rw [lots_mk hq, if_pos]
      have : (h : Int) * q ≤ k * q := Int.mul_le_mul_of_nonneg_right (by omega) (by omega)
      omega
    rw [sumTo_const e1 (by omega)]
    have e2 : sumTo (fun k => Lv.lots q (L + k * q, q) (.mk n ks)) h = sumTo (fun k => (Lvs.lots q (L + k * q, q) ks).sum) h := sumTo_congr fun k hk => by
      rw [lots_mk hq, if_neg]
      have : (k : Int) * q < h * q := (lt_mul hq).mpr (by omega)
      omega
    rw [e2, lots_sums hq ks h n h6 hn (fun t ht => ?_)]
    · rfl
    · obtain ⟨_, e, _⟩ := leasts_ends hq (x := n) h6
      have hL : L ≤ Lvs.least n ks := hL
      have := mem_least hq (x := n) h6 ht
      omega
theorem lots_sums {q : Int} (hq : 0 < q) {L : Int} : ∀ (ts : Lvs) (h : Nat) (n : Int), ts.ok q n → n = L + h * q → (∀ t, ts.mem t → L ≤ t.least) → sumTo (fun k => (Lvs.lots q (L + k * q, q) ts).sum) h = (Lvs.leng q n ts).sum
  | .nil, h, n, _, _, _ => by
    show sumTo (fun _ => 0) h = 0
    exact sumTo_zero
  | .cons t ts, h, n, hok, hn, hL => by
    obtain ⟨⟨j, hj, hnj⟩, hok2, hs⟩ := hok
    have ih := lots_sums hq ts h n hs hn fun u hu => hL u (.inr hu)
    have hLt := hL t (.inl rfl)
    have hle := least_le_n hq hok2
    have hjh : j ≤ h := by
      apply Int.not_lt.mp
      intro c
      have : (h : Int) * q < j * q := (lt_mul hq).mpr c
      omega
    obtain ⟨h', hh⟩ : ∃ h' : Nat, (h' : Int) = h - j := ⟨((h : Int) - j).toNat, by omega⟩
    have et : t.n = L + h' * q := by
      rw [hh, Int.sub_mul]
      omega
    have ih2 := lots_sum hq t h' h hok2 et hLt (by omega)
    have e : (fun k : Nat => (Lvs.lots q (L + k * q, q) (.cons t ts)).sum) = fun k : Nat => t.lots q (L + k * q, q) + (Lvs.lots q (L + k * q, q) ts).sum := by
      funext k
      show (t.lots q (L + k * q, q) :: Lvs.lots q (L + k * q, q) ts).sum = _
      rw [List.sum_cons]
    rw [e, sumTo_add, ih, ih2]
    show _ = (((n - t.n) / q + t.leng q) :: Lvs.leng q n ts).sum
    rw [List.sum_cons, gap_div hq hnj]
    omega
theorem mem_least {q n x : Int} (hq : 0 < q) : ∀ {ts : Lvs} {t : Lv}, ts.ok q n → ts.mem t → ts.least x ≤ t.least
  | .cons u ts, t, h, hm => by
    show Lvs.least (if u.least < x then u.least else x) ts ≤ t.least
    obtain ⟨_, e2, _⟩ := leasts_ends hq (ts := ts) (x := if u.least < x then u.least else x) h.2.2
    rcases hm with e | hm
    · subst e
      split at e2 <;> rename_i c
      · rw [if_pos c]; omega
      · rw [if_neg c]; omega
    · exact mem_least hq h.2.2 hm
end
theorem rank_sum {q : Int} (hq : 0 < q) {t : Lv} (h : t.ok q) {s : Nat} (hs : t.n = t.least + s * q) : sumTo (fun k => t.lots q (t.least + k * q, q) - 1) (s + 1) = t.leng q - s := by
  have h1 := lots_sum hq t s (s + 1) h hs (Int.le_refl _) (by omega)
  have h2 : sumTo (fun k => t.lots q (t.least + k * q, q)) (s + 1) = sumTo (fun k => (t.lots q (t.least + k * q, q) - 1) + 1) (s + 1) := sumTo_congr fun k _ => by omega
  have h3 : sumTo (fun _ => (1 : Int)) (s + 1) = s + 1 := by
    have := sumTo_const (f := fun _ => (1 : Int)) (a := 0) (n := s + 1) (fun _ _ _ => rfl) (by omega)
    rw [this]
    show (0 : Int) + (((s + 1 : Nat) : Int) - ((0 : Nat) : Int)) = s + 1
    omega
  rw [h2, sumTo_add, h3] at h1
  omega
theorem sum_range (f : Nat → Int) : ∀ n : Nat, ((List.range n).map f).sum = sumTo f n
  | 0 => rfl
  | n + 1 => by
    rw [List.range_succ, List.map_append, List.sum_append, sum_range f n]
    show sumTo f n + (f n + 0) = sumTo f n + f n
    omega
end Ab
end

section
set_option linter.all false
set_option maxRecDepth 100000
set_option maxHeartbeats 1000000
namespace Ab
open PySem L2
/-- the counter's cell -/
abbrev tn (a b c : Int) : Mem := [.lst [.int a, .int b, .int c]]
@[simp] theorem it_p0 {x y z : Dat} : itemD [.lst [x, y, z]] (.ptr 0) (.int 0) = some x := by simp [itemD, sq, rd, rdL, atI, ixN]
@[simp] theorem it_p1 {x y z : Dat} : itemD [.lst [x, y, z]] (.ptr 0) (.int 1) = some y := by simp [itemD, sq, rd, rdL, atI, ixN]
@[simp] theorem it_p2 {x y z : Dat} : itemD [.lst [x, y, z]] (.ptr 0) (.int 2) = some z := by simp [itemD, sq, rd, rdL, atI, ixN]
theorem g_sub0 {cf : CallF} {x y z d : Dat} {Γ : Gam} (h : Γ[0]? = some (some (.ptr 0))) : evG cf (.sub (.var 0) (.dat (.int 0))) d Γ [.lst [x, y, z]] = .ok Γ [.lst [d, y, z]] := by
  show ((evE cf (.var 0) Γ [.lst [x, y, z]]).bind _) = _
  rw [e_var, h]
  rfl
theorem g_sub2 {cf : CallF} {x y z d : Dat} {Γ : Gam} (h : Γ[0]? = some (some (.ptr 0))) : evG cf (.sub (.var 0) (.dat (.int 2))) d Γ [.lst [x, y, z]] = .ok Γ [.lst [x, y, d]] := by
  show ((evE cf (.var 0) Γ [.lst [x, y, z]]).bind _) = _
  rw [e_var, h]
  rfl
theorem r_take {k : Nat} {a b c m : Int} (hm : 0 < m ∧ m ≤ 1000) (hc : 0 ≤ c ∧ c ≤ 900000) : ∃ a' b' c' v : Int, callW (F (k + 1)) .hp 20 [.ptr 0, .int m] (tn a b c) = .ok (.int v) (tn a' b' c') ∧ (0 ≤ v ∧ v < m) ∧ 0 ≤ c' ∧ c' ≤ c + 1 := by
  have hs : Sm_ m := ⟨by omega, by omega⟩
  have mo := fun x : Int => Int.emod_nonneg x (show m ≠ 0 by omega)
  have ml := fun x : Int => Int.emod_lt_of_pos x hm.1
  by_cases ha : 0 < a
  · refine ⟨a / m, b, c, a % m, ?_, ⟨mo a, ml a⟩, hc.1, by omega⟩
    show F (k + 1) 20 [.ptr 0, .int m] (tn a b c) = _
    refine run_of rfl rfl ?_
    show evSs lawW (F k) ir__law_take [some (.ptr 0), some (.int m), none, none, none, none] (tn a b c) = _
    unfold ir__law_take
    simp [ha, b_mod hm.1, b_div hm.1 (div_ok hs), g_sub0]
  · have e1 := b_mul (M := tn a b (c + 1)) (i := 48271) (j := c + 1) (mul_ok ⟨by decide, by decide⟩)
    have e2 := b_mul (M := tn a b (c + 1)) (i := b + 48271 * (c + 1)) (j := 39373 + (c + 1)) (mul_ok2 ⟨by omega, by omega⟩)
    have e3 := b_mod (M := tn a b (c + 1)) (i := (b + 48271 * (c + 1)) * (39373 + (c + 1))) (j := 2147483647) (by decide)
    generalize hon : ((b + 48271 * (c + 1)) * (39373 + (c + 1))) % 2147483647 = once at e3
    have e4 := b_mod (M := tn a b (c + 1)) (i := once) (j := 40009) (by decide)
    have w1 := Int.emod_nonneg once (show (40009 : Int) ≠ 0 by decide)
    have w2 := Int.emod_lt_of_pos once (show (0 : Int) < 40009 by decide)
    generalize hw : once % 40009 = wd at e4 w1 w2
    have e5 := b_div (M := tn a b (c + 1)) (i := b) (j := 1000003) (by decide) (by decide)
    have e6 := b_mul (M := tn a b (c + 1)) (i := once + (c + 1) + b / 1000003) (j := wd + 7) (mul_ok2 ⟨by omega, by omega⟩)
    have e7 := b_mod (M := tn a b (c + 1)) (i := (once + (c + 1) + b / 1000003) * (wd + 7)) (j := 2147483629) (by decide)
    generalize htw : ((once + (c + 1) + b / 1000003) * (wd + 7)) % 2147483629 = tw at e7
    have e8 := b_mul (M := tn a b (c + 1)) (i := tw) (j := 48271) (mul_ok2 ⟨by decide, by decide⟩)
    have e9 := b_mod (M := tn a b (c + 1)) (i := tw * 48271 + once) (j := 2147483587) (by decide)
    generalize hz : (tw * 48271 + once) % 2147483587 = z at e9
    have e10 := b_div (M := tn a b (c + 1)) (i := z) (j := 64) (by decide) (by decide)
    have e11 := b_mod (M := tn a b (c + 1)) (i := z / 64) (j := m) hm.1
    refine ⟨a, b, c + 1, (z / 64) % m, ?_, ⟨mo _, ml _⟩, by omega, by omega⟩
    show F (k + 1) 20 [.ptr 0, .int m] (tn a b c) = _
    refine run_of rfl rfl ?_
    show evSs lawW (F k) ir__law_take [some (.ptr 0), some (.int m), none, none, none, none] (tn a b c) = _
    unfold ir__law_take
    simp [ha, g_sub2, e1, e2, e3, e4, e5, e6, e7, e8, e9, e10, e11]
/-! drawn trees -/
def toL : List Lv → Lvs
  | [] => .nil
  | t :: ts => .cons t (toL ts)
theorem toL_D {q : Int} : ∀ ts : List Lv, (toL ts).D q = ts.map (Lv.D q)
  | [] => rfl
  | t :: ts => congrArg (t.D q :: ·) (toL_D ts)
theorem toL_len : ∀ ts : List Lv, (toL ts).len = ts.length
  | [] => rfl
  | t :: ts => congrArg (· + 1) (toL_len ts)
theorem toL_ok {q n : Int} : ∀ {ts : List Lv}, (∀ t ∈ ts, (∃ j : Int, 0 < j ∧ n = t.n + j * q) ∧ t.ok q) → (toL ts).ok q n
  | [], _ => trivial
  | t :: ts, h => ⟨(h t List.mem_cons_self).1, (h t List.mem_cons_self).2, toL_ok fun u hu => h u (List.mem_cons_of_mem _ hu)⟩
theorem toL_dp {d : Nat} : ∀ {ts : List Lv}, (∀ t ∈ ts, t.dp ≤ d) → (toL ts).dp ≤ d + 1
  | [], _ => Nat.zero_le _
  | t :: ts, h => by
    have h1 := h t List.mem_cons_self
    have h2 := toL_dp (ts := ts) fun u hu => h u (List.mem_cons_of_mem _ hu)
    show max (t.dp + 1) (toL ts).dp ≤ d + 1
    omega
theorem sort_trees {q : Int} (ts : List Lv) (h : ∀ t ∈ ts, t.dp ≤ 19) : ∃ us : List Lv, us.Perm ts ∧ srtD (ts.map (Lv.D q)) = some (us.map (Lv.D q)) ∧ isortD (us.map (Lv.D q)) = us.map (Lv.D q) := by
  have hs : srtD ((toL ts).D q) = some (isortD ((toL ts).D q)) := D_srt _ (by have := toL_dp h; omega)
  rw [toL_D] at hs
  have hl : ∀ x ∈ ts.map (Lv.D q), ∀ y ∈ ts.map (Lv.D q), Dat.like x y = true := fun x hx y hy => by
    obtain ⟨t, _, e1⟩ := List.mem_map.mp hx
    obtain ⟨u, _, e2⟩ := List.mem_map.mp hy
    rw [← e1, ← e2]
    exact D_like t u
  have pm := isortD_perm (ts.map (Lv.D q))
  obtain ⟨us, h1, h2⟩ := perm_lift (f := Lv.D q) pm.symm (l' := ts) rfl
  refine ⟨us, h1, by rw [h2]; exact hs, ?_⟩
  rw [h2]
  refine (isortD_one (fun x hx y hy => hl x (pm.mem_iff.mp hx) y (pm.mem_iff.mp hy)) (List.Perm.refl _) (isortD_srt hl)).symm
def tk : Nat → Int
  | 0 => 0
  | d + 1 => 5 + 3 * tk d
theorem tk_nn : ∀ d, 0 ≤ tk d
  | 0 => Int.le_refl _
  | d + 1 => by
    have := tk_nn d
    show 0 ≤ 5 + 3 * tk d
    omega
theorem gcd_step {n q j : Int} (h : Int.gcd n q = 1) : Int.gcd (n - j * q) q = 1 := by
  have := Int.gcd_sub_mul_right_left q n j
  rw [Int.gcd_comm, Int.gcd_comm n] at *
  simpa [Int.mul_comm] using this.trans h
theorem cut_one {n q : Int} (h : Int.gcd n q = 1) : cutI n q = (n, q) := by
  unfold cutI
  rw [h]
  simp
theorem r_plus_whole {q n j : Int} {k : Nat} (hn : Nm (n, q)) (hj : -1000 ≤ j ∧ j ≤ 1000) (hg : Int.gcd (n + j * q) q = 1) : Fz (F (k + 3)) 26 [fr (n, q), fr (j, 1)] (fr (n + j * q, q)) := by
  have nj : Nm (j, 1) := ⟨by show -1000 ≤ j ∧ j ≤ 1000; omega, show (0 : Int) < 1 ∧ (1 : Int) ≤ 1000 by decide⟩
  have := r_plus (k := k) hn nj
  simp only [Int.mul_one] at this
  rw [cut_one hg] at this
  exact this
end Ab
end

section
set_option linter.all false
set_option maxRecDepth 100000
set_option maxHeartbeats 1000000
namespace Ab
open PySem L2
theorem lcR_step {cf : CallF} {g : Gd} {t : Tgt} {vs : List Nat} {e : Ex} {Γ Γ2 : Gam} {d y : Dat} {ds acc : List Dat} {M M' : Mem} (h1 : putT t d (wipeG Γ vs) = some Γ2) (h2 : evE cf e Γ2 M = .ok y M') (hg : gdOk M' g = true) :
    lcR cf g t vs (.dat (.bl true)) e Γ (d :: ds) acc M = lcR cf g t vs (.dat (.bl true)) e Γ ds (acc ++ [y]) M' := by
  have hs : lcT cf t vs (.dat (.bl true)) e Γ d M = .ok (some y) M' := by
    unfold lcT
    rw [h1]
    show ((evE cf e Γ2 M).bind fun y M => Rs.ok (some y) M) = _
    rw [h2]
    rfl
  unfold lcR
  rw [lcGo, hs]
  show (if gdOk M' g = true then lcGo g _ ds (acc ++ [y]) M' else .no) = _
  rw [if_pos hg]
abbrev drawnElt : Ex := .call .hp 30 (.cons (.var 0) (.cons (.call .fz 26 (.cons (.var 1) (.cons (.tup (.cons (.bin (.op .Sub) (.bin (.op .Sub) (.dat (.int 0)) (.dat (.int 1))) (.call .hp 20 (.cons (.var 0) (.cons (.dat (.int 3)) .nil)))) (.cons (.dat (.int 1)) .nil))) .nil))) (.cons (.bin (.op .Sub) (.var 2) (.dat (.int 1))) .nil)))
/-- what a drawn tree is -/
def DrawnAt (q n : Int) (d k : Nat) : Prop := ∀ a b c : Int, (0 ≤ c ∧ c + tk d ≤ 900000) → ∃ (t : Lv) (a' b' c' : Int), callW (F k) .hp 30 [.ptr 0, fr (n, q), .int d] (tn a b c) = .ok (t.D q) (tn a' b' c') ∧ t.ok q ∧ t.n = n ∧ t.dp ≤ d ∧ 0 ≤ c' ∧ c' ≤ c + tk d
theorem drawn_loop {q n : Int} {d k : Nat} (hq : Qm q) (hn : -500 ≤ n ∧ n ≤ 500) (hg : Int.gcd n q = 1) (ih : ∀ j : Int, 1 ≤ j → j ≤ 3 → DrawnAt q (n - j * q) d (k + 3)) : ∀ (ds : List Dat) (acc : List Lv) (o : Option Dat) (a b c : Int), 0 ≤ c → c + ds.length * (1 + tk d) ≤ 900000 →
    ∃ (ts : List Lv) (a' b' c' : Int), lcR (F (k + 3)) [] (.one 4) [4] (.dat (.bl true)) drawnElt [some (.ptr 0), some (fr (n, q)), some (.int ((d + 1 : Nat) : Int)), none, o] ds (acc.map (Lv.D q)) (tn a b c) = .ok ((acc ++ ts).map (Lv.D q)) (tn a' b' c') ∧ ts.length = ds.length ∧ (∀ t ∈ ts, ((∃ j : Int, 0 < j ∧ n = t.n + j * q) ∧ t.ok q) ∧ t.dp ≤ d) ∧ 0 ≤ c' ∧ c' ≤ c + ds.length * (1 + tk d)
  | [], acc, o, a, b, c, hc, hc2 => ⟨[], a, b, c, (by rw [List.append_nil]; rfl), rfl, (fun t h => by cases h), hc, (by show c ≤ c + ((0 : Nat) : Int) * (1 + tk d); simp)⟩
  | x :: ds, acc, o, a, b, c, hc, hc2 => by
    have ht := tk_nn d
    rw [List.length_cons] at hc2
    have hmul : ((ds.length + 1 : Nat) : Int) * (1 + tk d) = ds.length * (1 + tk d) + (1 + tk d) := by
      rw [show ((ds.length + 1 : Nat) : Int) = (ds.length : Int) + 1 by omega, Int.add_mul, Int.one_mul]
    have hnn : 0 ≤ (ds.length : Int) * (1 + tk d) := Int.mul_nonneg (by omega) (by omega)
    rw [hmul] at hc2
    obtain ⟨a1, b1, c1, v, e1, hv, hc1, hc1'⟩ := r_take (k := k + 2) (a := a) (b := b) (c := c) (m := 3) (by decide) (by omega)
    obtain ⟨t, a2, b2, c2, e2, hok, htn, htd, hc2a, hc2b⟩ := ih (1 + v) (by omega) (by omega) a1 b1 c1 (by omega)
    have hj : n + (0 - 1 - v) * q = n - (1 + v) * q := by
      rw [show (0 - 1 - v : Int) = -(1 + v) by omega, Int.neg_mul]
      omega
    have e3 := r_plus_whole (k := k) (q := q) (n := n) (j := 0 - 1 - v) ⟨by show -1000 ≤ n ∧ n ≤ 1000; omega, hq⟩ (by omega) (by rw [hj]; exact gcd_step hg) (tn a1 b1 c1)
    rw [hj] at e3
    have step : evE (F (k + 3)) drawnElt [some (.ptr 0), some (fr (n, q)), some (.int ((d + 1 : Nat) : Int)), none, some x] (tn a b c) = .ok (t.D q) (tn a2 b2 c2) := by
      have hd : ((d + 1 : Nat) : Int) - 1 = d := by omega
      have e3' : callW (F (k + 3)) .fz 26 [fr (n, q), .tup [.int (0 - 1 - v), .int 1]] (tn a1 b1 c1) = .ok (fr (n - (1 + v) * q, q)) (tn a1 b1 c1) := e3
      simp only [e_call, a_cons, a_nil, e_var, List.getElem?_cons_succ, List.getElem?_cons_zero, varR_ok, bind_ok, e_tup, e_bin, e_dat, b_sub, ofO_some, e1, at_ok, okLen_2, e3', hd, e2]
    obtain ⟨ts, a3, b3, c3, e4, hl, hall, h3a, h3b⟩ := drawn_loop hq hn hg ih ds (acc ++ [t]) o a2 b2 c2 hc2a (by omega)
    refine ⟨t :: ts, a3, b3, c3, ?_, by rw [List.length_cons, List.length_cons, hl], fun u hu => ?_, h3a, by rw [List.length_cons, hmul]; omega⟩
    · rw [lcR_step (Γ2 := [some (.ptr 0), some (fr (n, q)), some (.int ((d + 1 : Nat) : Int)), none, some x]) rfl step rfl]
      rw [List.map_append] at e4
      have e5 : acc ++ t :: ts = acc ++ [t] ++ ts := by rw [List.append_assoc]; rfl
      rw [e5]
      exact e4
    · rcases List.mem_cons.mp hu with e | hu
      · rw [e]
        exact ⟨⟨⟨1 + v, by omega, by rw [htn]; omega⟩, hok⟩, htd⟩
      · exact hall u hu
theorem leaf_ok {q n : Int} (hn : -500 ≤ n ∧ n ≤ 500) (hg : Int.gcd n q = 1) : (Lv.mk n .nil).ok q := ⟨hn, hg, (by show (0 : Nat) ≠ 1; decide), Nat.zero_le _, rfl, trivial⟩
theorem r_drawn {q : Int} (hq : 0 < q ∧ q ≤ 8) : ∀ (d k : Nat) (n : Int), d ≤ 4 → d + 3 ≤ k → (-500 + 30 * (d : Int) ≤ n ∧ n ≤ 500) → Int.gcd n q = 1 → DrawnAt q n d (k + 1)
  | 0, k, n, hd, hk, hn, hg, a, b, c, hc => by
    refine ⟨.mk n .nil, a, b, c, ?_, leaf_ok (by omega) hg, rfl, Nat.le_refl _, hc.1, by show c ≤ c + 0; omega⟩
    show F (k + 1) 30 [.ptr 0, fr (n, q), .int (0 : Nat)] (tn a b c) = _
    refine run_of rfl rfl ?_
    show evSs lawW (F k) ir__law_drawn [some (.ptr 0), some (fr (n, q)), some (.int 0), none, none] (tn a b c) = _
    unfold ir__law_drawn
    simp
    rfl
  | d + 1, k, n, hd, hk, hn, hg, a, b, c, hc => by
    have ht := tk_nn d
    have htk : tk (d + 1) = 5 + 3 * tk d := rfl
    rw [htk] at hc ⊢
    obtain ⟨k, rfl⟩ : ∃ k', k = k' + 3 := ⟨k - 3, by omega⟩
    have hq2 : Qm q := ⟨hq.1, by omega⟩
    have hd0 : ¬ (((d + 1 : Nat) : Int) = 0) := by omega
    have hd0' : ¬ ((d : Int) + 1 = 0) := by omega
    obtain ⟨a1, b1, c1, v, e1, hv, hc1, hc1'⟩ := r_take (k := k + 2) (a := a) (b := b) (c := c) (m := 3) (by decide) (by omega)
    by_cases hv0 : v = 0
    · subst hv0
      refine ⟨.mk n .nil, a1, b1, c1, ?_, leaf_ok (by omega) hg, rfl, Nat.zero_le _, hc1, by omega⟩
      show F (k + 3 + 1) 30 [.ptr 0, fr (n, q), .int (d + 1 : Nat)] (tn a b c) = _
      refine run_of rfl rfl ?_
      show evSs lawW (F (k + 3)) ir__law_drawn [some (.ptr 0), some (fr (n, q)), some (.int (d + 1 : Nat)), none, none] (tn a b c) = _
      unfold ir__law_drawn
      simp [hd0', e1]
      rfl
    · obtain ⟨a2, b2, c2, w, e2, hw, hc2, hc2'⟩ := r_take (k := k + 2) (a := a1) (b := b1) (c := c1) (m := 2) (by decide) (by omega)
      obtain ⟨xs, hxs, hxl⟩ : ∃ xs : List Dat, rng1R (.int (2 + w)) (tn a2 b2 c2) = .ok (xs, []) (tn a2 b2 c2) ∧ (xs.length = 2 ∨ xs.length = 3) := by
        have : w = 0 ∨ w = 1 := by omega
        rcases this with e | e <;> subst e
        · exact ⟨_, rfl, .inl rfl⟩
        · exact ⟨_, rfl, .inr rfl⟩
      have ih : ∀ j : Int, 1 ≤ j → j ≤ 3 → DrawnAt q (n - j * q) d (k + 3) := fun j h1 h2 => by
        have hjq : j * q ≤ 24 := by
          have h5 : j * q ≤ 3 * q := Int.mul_le_mul_of_nonneg_right h2 (by omega)
          omega
        have hjq0 : 0 ≤ j * q := Int.mul_nonneg (by omega) (by omega)
        exact r_drawn hq d (k + 2) (n - j * q) (by omega) (by omega) (by omega) (gcd_step hg)
      have hxl' : (xs.length : Int) * (1 + tk d) ≤ 3 * (1 + tk d) := Int.mul_le_mul_of_nonneg_right (by omega) (by omega)
      obtain ⟨ts, a3, b3, c3, e3, hl, hall, h3a, h3b⟩ := drawn_loop (k := k) hq2 (by omega) hg ih xs [] none a2 b2 c2 hc2 (by omega)
      obtain ⟨us, pm, hs, hi⟩ := sort_trees (q := q) ts fun t ht => by have := (hall t ht).2; omega
      have hul : us.length = ts.length := pm.length_eq
      have hmem : ∀ u ∈ us, u ∈ ts := fun u hu => pm.mem_iff.mp hu
      refine ⟨.mk n (toL us), a3, b3, c3, ?_, ⟨by omega, hg, by rw [toL_len]; omega, by rw [toL_len]; omega, by rw [toL_D]; exact hi, toL_ok fun u hu => (hall u (hmem u hu)).1⟩, rfl, toL_dp fun u hu => (hall u (hmem u hu)).2, h3a, by omega⟩
      show F (k + 3 + 1) 30 [.ptr 0, fr (n, q), .int (d + 1 : Nat)] (tn a b c) = _
      refine run_of rfl rfl ?_
      show evSs lawW (F (k + 3)) ir__law_drawn [some (.ptr 0), some (fr (n, q)), some (.int (d + 1 : Nat)), none, none] (tn a b c) = _
      have e4 : lcI (F (k + 3)) false (.one 4) [4] (.dat (.bl true)) drawnElt [some (.ptr 0), some (fr (n, q)), some (.int ((d + 1 : Nat) : Int)), none, none] (xs, []) (tn a2 b2 c2) = .ok (.lst (ts.map (Lv.D q))) (tn a3 b3 c3) := by
        rw [lcI_ok (by omega) rfl]
        have e3 : lcR (F (k + 3)) [] (.one 4) [4] (.dat (.bl true)) drawnElt [some (.ptr 0), some (fr (n, q)), some (.int ((d + 1 : Nat) : Int)), none, none] xs [] (tn a2 b2 c2) = _ := e3
        rw [e3]
        rfl
      unfold ir__law_drawn
      have hcond : evE (F (k + 3)) (.or (.bin (.cmp .Eq) (.var 2) (.dat (.int 0))) (.bin (.cmp .Eq) (.call .hp 20 (.cons (.var 0) (.cons (.dat (.int 3)) .nil))) (.dat (.int 0)))) [some (.ptr 0), some (fr (n, q)), some (.int ((d + 1 : Nat) : Int)), none, none] (tn a b c) = .ok (.bl false) (tn a1 b1 c1) := by
        simp [hd0', e1, hv0]
      have hrange : evI (F (k + 3)) (.rng1 (.bin (.op .Add) (.dat (.int 2)) (.call .hp 20 (.cons (.var 0) (.cons (.dat (.int 2)) .nil))))) [some (.ptr 0), some (fr (n, q)), some (.int ((d + 1 : Nat) : Int)), none, none] (tn a1 b1 c1) = .ok (xs, []) (tn a2 b2 c2) := by
        simp [e2, hxs]
      rw [ss_cons, s_iff, hcond, asB_bl, bind_ok, ifR_f, ss_nil, bind_ok, nxR_nx, ss_cons, s_set, e_lc, hrange, bind_ok, e4, bind_ok, bind_ok, nxR_nx]
      simp [hs]
      show Dat.tup [fr (n, q), .tup (us.map (Lv.D q))] = .tup [fr (n, q), .tup ((toL us).D q)]
      rw [toL_D]
end Ab
end

section
set_option linter.all false
set_option maxRecDepth 100000
set_option maxHeartbeats 1000000
namespace Ab
open PySem L2
/-! things that are no levels -/
theorem r_longF {k : Nat} {d : Dat} (hp : d.np = true) (h : ∀ M, isiD M [.tuple] d = some false) : Fz (F (k + 1)) 1 [d, .int 2] (.bl false) := by
  refine Fz.of (M1 := []) (nps2 hp rfl) (run_of rfl rfl ?_) rfl
  show evSs lawW (F k) ir_is_long [some d, some (.int 2)] [] = _
  unfold ir_is_long
  simp [h []]
theorem r_long1 {k : Nat} {d : Dat} (hp : d.np = true) : Fz (F (k + 1)) 1 [.tup [d], .int 2] (.bl false) := by
  refine Fz.of (M1 := []) (nps2 (nps1 hp) rfl) (run_of rfl rfl ?_) rfl
  show evSs lawW (F k) ir_is_long [some (.tup [d]), some (.int 2)] [] = _
  unfold ir_is_long
  simp
theorem bad_long {k : Nat} {d : Dat} (hp : d.np = true) (h : callW (F (k + 1)) .fz 1 [d, .int 2] [] = .ok (.bl false) []) : Fz (F (k + 2)) 8 [d] (.bl false) := by
  refine Fz.of (M1 := []) (nps1 hp) (run_of rfl rfl ?_) rfl
  show evSs lawW (F (k + 1)) ir_is_levels_in [some d, none, none, none] [] = _
  unfold ir_is_levels_in
  simp [h]
theorem bad_frac {k : Nat} {a b : Dat} (ha : a.np = true) (hb : b.np = true) (h : callW (F (k + 3)) .fz 6 [a] [] = .ok (.bl false) []) : Fz (F (k + 4)) 8 [.tup [a, b]] (.bl false) := by
  have hn : Dat.nps [a, b] = true := nps2 ha hb
  refine Fz.of (M1 := []) (nps1 hn) (run_of rfl rfl ?_) rfl
  show evSs lawW (F (k + 3)) ir_is_levels_in [some (.tup [a, b]), none, none, none] [] = _
  unfold ir_is_levels_in
  have e1 := r_long2 (k := k + 2) hn []
  simp [e1, h]
theorem frac_long {k : Nat} {d : Dat} (hp : d.np = true) (h : callW (F (k + 2)) .fz 1 [d, .int 2] [] = .ok (.bl false) []) : Fz (F (k + 3)) 6 [d] (.bl false) := by
  refine Fz.of (M1 := []) (nps1 hp) (run_of rfl rfl ?_) rfl
  show evSs lawW (F (k + 2)) ir_is_fraction [some d] [] = _
  unfold ir_is_fraction
  simp [h]
theorem frac_gcd {k : Nat} : Fz (F (k + 3)) 6 [fr (2, 4)] (.bl false) := by
  refine Fz.of (M1 := []) rfl (run_of rfl rfl ?_) rfl
  show evSs lawW (F (k + 2)) ir_is_fraction [some (fr (2, 4))] [] = _
  unfold ir_is_fraction
  have h1 : callW (F (k + 2)) .fz 1 [fr (2, 4), .int 2] [] = .ok (.bl true) [] := r_long2 (k := k + 1) (a := .int 2) (b := .int 4) rfl []
  have h2 := r_nums (k := k) (p := (2, 4)) []
  have h3 := r_common (k := k + 1) (a := 2) (b := 4) (by constructor <;> decide) []
  have h4 : ((Int.gcd 2 4 : Nat) : Int) = 2 := by decide
  rw [h4] at h3
  simp [h1, h2, h3]
theorem frac_neg {k : Nat} : Fz (F (k + 3)) 6 [fr (1, -2)] (.bl false) := by
  refine Fz.of (M1 := []) rfl (run_of rfl rfl ?_) rfl
  show evSs lawW (F (k + 2)) ir_is_fraction [some (fr (1, -2))] [] = _
  unfold ir_is_fraction
  have h1 : callW (F (k + 2)) .fz 1 [fr (1, -2), .int 2] [] = .ok (.bl true) [] := r_long2 (k := k + 1) (a := .int 1) (b := .int (-2)) rfl []
  have h2 := r_nums (k := k) (p := (1, -2)) []
  simp [h1, h2]
theorem r_numT {k : Nat} : Fz (F (k + 1)) 0 [.bl true] (.bl false) := by
  refine Fz.of (M1 := []) rfl (run_of rfl rfl ?_) rfl
  show evSs lawW (F k) ir_is_number [some (.bl true)] [] = _
  unfold ir_is_number
  simp
theorem frac_tr {k : Nat} : Fz (F (k + 3)) 6 [.tup [.bl true, .int 1]] (.bl false) := by
  refine Fz.of (M1 := []) rfl (run_of rfl rfl ?_) rfl
  show evSs lawW (F (k + 2)) ir_is_fraction [some (.tup [.bl true, .int 1])] [] = _
  unfold ir_is_fraction
  have h1 := r_long2 (k := k + 1) (a := .bl true) (b := .int 1) rfl []
  have h2 : Fz (F (k + 2)) 2 [.tup [.bl true, .int 1]] (.bl false) := by
    refine Fz.of (M1 := []) rfl (run_of rfl rfl ?_) rfl
    show evSs lawW (F (k + 1)) ir_are_numbers [some (.tup [.bl true, .int 1]), none] [] = _
    unfold ir_are_numbers
    simp
    rw [lcs_ok (ds := [.bl true, .int 1]) (es := [.bl false, .bl true]) (by simp) rfl rfl fun i d x hd hx => ?_]
    · simp
    · match i, hd, hx with
      | 0, hd, hx => cases hd; cases hx; exact ⟨_, rfl, by simp [wipeG, r_numT (k := k) []]⟩
      | 1, hd, hx => cases hd; cases hx; exact ⟨_, rfl, by simp [wipeG, r_num (k := k) []]⟩
  simp [h1, h2 []]
theorem bad_list {k : Nat} {p : Int × Int} (hs : Sm_ p.2) (h : 0 < p.2) (hg : Int.gcd p.1 p.2 = 1) : Fz (F (k + 4)) 8 [.tup [fr p, .lst []]] (.bl false) := by
  refine Fz.of (M1 := []) rfl (run_of rfl rfl ?_) rfl
  show evSs lawW (F (k + 3)) ir_is_levels_in [some (.tup [fr p, .lst []]), none, none, none] [] = _
  unfold ir_is_levels_in
  have e1 := r_long2 (k := k + 2) (a := fr p) (b := .lst []) rfl []
  have e2 := r_isfr (k := k) hs h hg []
  simp [e1, e2]
theorem bad_one {k : Nat} {p : Int × Int} {d : Dat} (hd : d.np = true) (hs : Sm_ p.2) (h : 0 < p.2) (hg : Int.gcd p.1 p.2 = 1) : Fz (F (k + 4)) 8 [.tup [fr p, .tup [d]]] (.bl false) := by
  have hn : Dat.nps [fr p, .tup [d]] = true := nps2 rfl (nps1 hd)
  refine Fz.of (M1 := []) (nps1 hn) (run_of rfl rfl ?_) rfl
  show evSs lawW (F (k + 3)) ir_is_levels_in [some (.tup [fr p, .tup [d]]), none, none, none] [] = _
  unfold ir_is_levels_in
  have e1 := r_long2 (k := k + 2) hn []
  have e2 := r_isfr (k := k) hs h hg []
  simp [e1, e2]
/-- a leaf -/
abbrev lf (p : Int × Int) : Dat := .tup [fr p, .tup []]
theorem r_leaf {k : Nat} {p : Int × Int} (hn : -500 ≤ p.1 ∧ p.1 ≤ 500) (hq : Qm p.2) (hg : Int.gcd p.1 p.2 = 1) : Fz (F (k + 5)) 8 [lf p] (.bl true) :=
  r_islev (q := p.2) hq (.mk p.1 .nil) (k + 4) (leaf_ok hn hg) (Nat.zero_le _) (by show 0 + 4 ≤ k + 4; omega)
theorem srt_two {p r : Int × Int} : srtD [lf p, lf r] = some (if Dat.lt (lf r) (lf p) then [lf r, lf p] else [lf p, lf r]) := rfl
theorem eqv_two {p r p' r' : Int × Int} : eqvD [] (.lst [lf p, lf r]) (.lst [lf p', lf r']) = some (((p.1 == p'.1) && ((p.2 == p'.2) && true)) && (true && true) && ((((r.1 == r'.1) && ((r.2 == r'.2) && true)) && (true && true)) && true)) := rfl
theorem lt_leaf {p r : Int × Int} (h : r.1 < p.1) : Dat.lt (lf r) (lf p) = true := by
  have e : Dat.cmp (lf r) (lf p) = .lt := by
    show (match (match (if r.1 < p.1 then Ordering.lt else if r.1 = p.1 then .eq else .gt) with | .eq => Dat.cmps [.int r.2] [.int p.2] | o => o) with | .eq => Dat.cmps [.tup []] [.tup []] | o => o) = .lt
    rw [if_pos h]
  unfold Dat.lt
  rw [e]
/-- two leaves in the wrong order -/
theorem bad_two {k : Nat} {p a b : Int × Int} (hs : Sm_ p.2) (h : 0 < p.2) (hg : Int.gcd p.1 p.2 = 1) (ha : -500 ≤ a.1 ∧ a.1 ≤ 500) (hb : -500 ≤ b.1 ∧ b.1 ≤ 500) (qa : Qm a.2) (qb : Qm b.2) (ga : Int.gcd a.1 a.2 = 1) (gb : Int.gcd b.1 b.2 = 1) (hab : b.1 < a.1) : Fz (F (k + 6)) 8 [.tup [fr p, .tup [lf a, lf b]]] (.bl false) := by
  refine Fz.of (M1 := []) rfl (run_of rfl rfl ?_) rfl
  show evSs lawW (F (k + 5)) ir_is_levels_in [some (.tup [fr p, .tup [lf a, lf b]]), none, none, none] [] = _
  unfold ir_is_levels_in
  have e1 := r_long2 (k := k + 4) (a := fr p) (b := .tup [lf a, lf b]) rfl []
  have e2 := r_isfr (k := k + 2) hs h hg []
  have e3 : lcI (F (k + 5)) false (.one 2) [2] (.dat (.bl true)) (.call .fz 8 (.cons (.var 2) .nil)) [some (.tup [fr p, .tup [lf a, lf b]]), none, none, none] ([lf a, lf b], []) [] = .ok (.lst ([lf a, lf b].map fun _ => .bl true)) [] :=
    lc_of (by simp) rfl fun d hd => by
      simp at hd
      rcases hd with e | e <;> subst e
      · exact ⟨_, rfl, by simp [wipeG, r_leaf (k := k) ha qa ga []]⟩
      · exact ⟨_, rfl, by simp [wipeG, r_leaf (k := k) hb qb gb []]⟩
  have e4 : srtD [lf a, lf b] = some [lf b, lf a] := by rw [srt_two, if_pos (lt_leaf hab)]
  have e5 : eqvD [] (.lst [lf a, lf b]) (.lst [lf b, lf a]) = some false := by
    rw [eqv_two]
    have : (a.1 == b.1) = false := beq_eq_false_iff_ne.mpr (by omega)
    rw [this]
    simp
  simp [e1, e2, e3, e4, e5]
theorem half {n q : Int} (hq : 0 < q) : cutI (n * (cutI (n * 2 + -1 * q) (q * 2)).2 - (cutI (n * 2 + -1 * q) (q * 2)).1 * q) (q * (cutI (n * 2 + -1 * q) (q * 2)).2) = (1, 2) := by
  have hq2 : 0 < q * 2 := by omega
  have g := gcd_pos' (a := n * 2 + -1 * q) hq2
  have d1 : (Int.gcd (n * 2 + -1 * q) (q * 2) : Int) ∣ n * 2 + -1 * q := Int.gcd_dvd_left _ _
  have d2 : (Int.gcd (n * 2 + -1 * q) (q * 2) : Int) ∣ q * 2 := Int.gcd_dvd_right _ _
  unfold cutI
  show ((n * (q * 2 / _) - (n * 2 + -1 * q) / _ * q) / _, _) = _
  generalize (Int.gcd (n * 2 + -1 * q) (q * 2) : Int) = G at g d1 d2 ⊢
  obtain ⟨x, hx⟩ := d1
  obtain ⟨y, hy⟩ := d2
  rw [hx, hy, Int.mul_ediv_cancel_left _ (by omega), Int.mul_ediv_cancel_left _ (by omega)]
  have hw : 2 * (n * y - x * q) = q * y := by
    have : G * (2 * (n * y - x * q)) = G * (q * y) := by
      have e1 : G * (2 * (n * y - x * q)) = 2 * n * (G * y) - 2 * (G * x) * q := by
        rw [Int.mul_sub, Int.mul_sub]
        have a1 : G * (2 * (n * y)) = 2 * n * (G * y) := by
          rw [Int.mul_left_comm, Int.mul_assoc, Int.mul_left_comm G n y]
        have a2 : G * (2 * (x * q)) = 2 * (G * x) * q := by
          rw [Int.mul_left_comm, Int.mul_assoc, Int.mul_assoc]
        rw [a1, a2]
      have e2 : G * (q * y) = q * (G * y) := Int.mul_left_comm G q y
      rw [e1, e2, ← hx, ← hy]
      have b1 : 2 * n * (q * 2) = 4 * (n * q) := by
        rw [Int.mul_assoc, Int.mul_comm q 2, Int.mul_left_comm n 2 q]
        omega
      have b2 : 2 * (n * 2 + -1 * q) * q = 4 * (n * q) - 2 * (q * q) := by
        rw [Int.mul_add, Int.add_mul]
        have c1 : 2 * (n * 2) * q = 4 * (n * q) := by
          rw [Int.mul_assoc, Int.mul_assoc, Int.mul_comm 2 q, ← Int.mul_assoc n q 2]
          omega
        have c2 : 2 * (-1 * q) * q = -(2 * (q * q)) := by
          rw [Int.mul_assoc, Int.mul_assoc]
          omega
        rw [c1, c2]
        omega
      have b3 : q * (q * 2) = 2 * (q * q) := by
        rw [← Int.mul_assoc]
        omega
      rw [b1, b2, b3]
      omega
    exact Int.eq_of_mul_eq_mul_left (by omega) this
  have hyp : 0 < y := by
    have : 0 < G * y := by omega
    exact Int.pos_of_mul_pos_right this (by omega) 
  have hqy := Int.mul_pos hq hyp
  generalize hW : n * y - x * q = W at hw
  have hWp : 0 < W := by omega
  have e : q * y = W * 2 := by omega
  rw [e]
  have gg : Int.gcd W (W * 2) = W.natAbs := by
    have := Int.gcd_mul_left W 1 2
    simpa using this
  have g2 : ((W.natAbs : Nat) : Int) = W := by omega
  rw [gg, g2, Int.ediv_self (by omega), Int.mul_ediv_cancel_left _ (by omega)]
end Ab
end

section
set_option linter.all false
set_option maxRecDepth 100000
set_option maxHeartbeats 1000000
namespace Ab
open PySem L2
theorem cut_gcd {a b : Int} (hb : 0 < b) : Int.gcd (cutI a b).1 (cutI a b).2 = 1 := by
  have g : 0 < Int.gcd a b := by
    have := gcd_pos' (a := a) hb
    omega
  exact Int.gcd_ediv_gcd_ediv_gcd g
theorem cut_pos {a b : Int} (hb : 0 < b) : 0 < (cutI a b).2 ∧ (cutI a b).2 ≤ b := by
  have g := gcd_pos' (a := a) hb
  have d2 : (Int.gcd a b : Int) ∣ b := Int.gcd_dvd_right _ _
  show 0 < b / _ ∧ b / _ ≤ b
  generalize (Int.gcd a b : Int) = G at g d2 ⊢
  obtain ⟨y, hy⟩ := d2
  subst hy
  rw [Int.mul_ediv_cancel_left _ (by omega)]
  have hyp : 0 < y := Int.pos_of_mul_pos_right hb (by omega)
  refine ⟨hyp, ?_⟩
  have := Int.mul_le_mul_of_nonneg_right (show (1 : Int) ≤ G by omega) (Int.le_of_lt hyp)
  omega
theorem cut_abs {a b c : Int} (hb : 0 < b) (h : -c ≤ a ∧ a ≤ c) (hc : 0 ≤ c) : -c ≤ (cutI a b).1 ∧ (cutI a b).1 ≤ c := by
  have g := gcd_pos' (a := a) hb
  show -c ≤ a / _ ∧ a / _ ≤ c
  generalize (Int.gcd a b : Int) = G at g ⊢
  constructor
  · apply Int.le_ediv_of_mul_le g
    have : -c * G ≤ -c * 1 := Int.mul_le_mul_of_nonpos_left (by omega) (by omega)
    omega
  · apply Int.ediv_le_of_le_mul g
    have : c * 1 ≤ c * G := Int.mul_le_mul_of_nonneg_left (by omega) hc
    omega
theorem bad_half {k : Nat} {n q m : Int} (hm : m = n - q) (hq : 0 < q ∧ q ≤ 8) (hn : -100 ≤ n ∧ n ≤ 100) (hg : Int.gcd n q = 1) : Fz (F (k + 6)) 8 [.tup [fr (n, q), .tup [lf (m, q), lf (cutI (n * 2 + -1 * q) (q * 2))]]] (.bl false) := by
  obtain ⟨p2, hp2⟩ : ∃ p2, cutI (n * 2 + -1 * q) (q * 2) = p2 := ⟨_, rfl⟩
  have b1 := cut_pos (a := n * 2 + -1 * q) (b := q * 2) (by omega)
  have b2 := cut_abs (a := n * 2 + -1 * q) (b := q * 2) (c := 300) (by omega) (by omega) (by omega)
  have b3 := cut_gcd (a := n * 2 + -1 * q) (b := q * 2) (by omega)
  have b4 := half (n := n) hq.1
  rw [hp2] at b1 b2 b3 b4 ⊢
  have hQ : Qm q := ⟨hq.1, by omega⟩
  have hnm : Nm (n, q) := ⟨by show -1000 ≤ n ∧ n ≤ 1000; omega, hQ⟩
  have gl : Int.gcd m q = 1 := by
    have := gcd_step (j := 1) hg
    rw [Int.one_mul] at this
    rw [hm]
    exact this
  have nml : Nm (m, q) := ⟨by show -1000 ≤ m ∧ m ≤ 1000; omega, hQ⟩
  have nm2 : Nm p2 := ⟨by omega, by omega⟩
  refine Fz.of (M1 := []) rfl (run_of rfl rfl ?_) rfl
  show evSs lawW (F (k + 5)) ir_is_levels_in [some (.tup [fr (n, q), .tup [lf (m, q), lf p2]]), none, none, none] [] = _
  unfold ir_is_levels_in
  have e1 := r_long2 (k := k + 4) (a := fr (n, q)) (b := .tup [lf (m, q), lf p2]) rfl []
  have e2 := r_isfr (k := k + 2) (p := (n, q)) hnm.sm.2 hq.1 hg []
  have e3 : lcI (F (k + 5)) false (.one 2) [2] (.dat (.bl true)) (.call .fz 8 (.cons (.var 2) .nil)) [some (.tup [fr (n, q), .tup [lf (m, q), lf p2]]), none, none, none] ([lf (m, q), lf p2], []) [] = .ok (.lst ([lf (m, q), lf p2].map fun _ => .bl true)) [] :=
    lc_of (by simp) rfl fun d hd => by
      simp only [List.mem_cons, List.mem_singleton, List.not_mem_nil, or_false] at hd
      rcases hd with e | e <;> subst e
      · exact ⟨_, rfl, by simp [wipeG, r_leaf (k := k) (p := (m, q)) (by show -500 ≤ m ∧ m ≤ 500; omega) hQ gl []]⟩
      · exact ⟨_, rfl, by simp [wipeG, r_leaf (k := k) (p := p2) (by omega) ⟨b1.1, by omega⟩ b3 []]⟩
  obtain ⟨es, bb, e4, e5⟩ : ∃ es bb, srtD [lf (m, q), lf p2] = some es ∧ eqvD [] (.lst [lf (m, q), lf p2]) (.lst es) = some bb := by
    rw [srt_two]
    by_cases c : Dat.lt (lf p2) (lf (m, q)) = true
    · rw [if_pos c]; exact ⟨_, _, rfl, eqv_two⟩
    · rw [if_neg c]; exact ⟨_, _, rfl, eqv_two⟩
  cases bb with
  | false => simp [e1, e2, e3, e4, e5]
  | true =>
    have t1 := r_taken (k := k + 2) hnm nml []
    have t1' := gap_cut (q := q) (j := 1) (n := n) (m := m) hq.1 (by rw [Int.one_mul]; omega)
    have t2 := r_taken (k := k + 2) hnm nm2 []
    have e6 : lcI (F (k + 5)) false (.one 2) [2] (.dat (.bl true)) (.call .fz 7 (.cons (.bin .ix (.var 0) (.dat (.int 0))) (.cons (.bin .ix (.var 2) (.dat (.int 0))) .nil))) [some (.tup [fr (n, q), .tup [lf (m, q), lf p2]]), none, none, none] ([lf (m, q), lf p2], []) [] = .ok (.lst [fr (1, 1), fr (1, 2)]) [] :=
      lcs_ok (ds := [lf (m, q), lf p2]) (es := [fr (1, 1), fr (1, 2)]) (by simp) rfl rfl fun i d x hd hx => by
        match i, hd, hx with
        | 0, hd, hx => cases hd; cases hx; exact ⟨_, rfl, by simp [wipeG, t1, t1']⟩
        | 1, hd, hx => cases hd; cases hx; exact ⟨_, rfl, by simp [wipeG, t2, b4]⟩
    have e7 : lcI (F (k + 5)) false (.one 3) [3] (.dat (.bl true)) (.and (.bin (.cmp .Eq) (.bin .ix (.var 3) (.dat (.int 1))) (.dat (.int 1))) (.bin (.cmp .Gt) (.bin .ix (.var 3) (.dat (.int 0))) (.dat (.int 0)))) [some (.tup [fr (n, q), .tup [lf (m, q), lf p2]]), some (.lst [fr (1, 1), fr (1, 2)]), none, none] ([fr (1, 1), fr (1, 2)], [(.lst [fr (1, 1), fr (1, 2)], [fr (1, 1), fr (1, 2)])]) [] = .ok (.lst [.bl true, .bl false]) [] :=
      lcs_ok (ds := [fr (1, 1), fr (1, 2)]) (es := [.bl true, .bl false]) (by simp) rfl rfl fun i d x hd hx => by
        match i, hd, hx with
        | 0, hd, hx => cases hd; cases hx; exact ⟨_, rfl, by simp [wipeG]⟩
        | 1, hd, hx => cases hd; cases hx; exact ⟨_, rfl, by simp [wipeG]⟩
    simp [e1, e2, e3, e4, e5, e6, e7]
theorem r_lev {k : Nat} {d : Dat} {b : Bool} (hp : d.np = true) (h : Fz (F k) 8 [d] (.bl b)) : Fz (F (k + 1)) 13 [d] (.bl b) := by
  refine Fz.of (M1 := []) (nps1 hp) (run_of rfl rfl ?_) rfl
  show evSs lawW (F k) ir_is_levels [some d] [] = _
  unfold ir_is_levels
  simp [h []]
/-! the script -/
theorem cut_map {ns : List Int} {lo hi : Option Int} : ∃ ms : List Int, cutD (ns.map Dat.int) lo hi = ms.map .int ∧ ms.length ≤ ns.length := by
  unfold cutD
  rw [← List.map_drop, ← List.map_take]
  exact ⟨_, rfl, by rw [List.length_take, List.length_drop]; omega⟩
theorem g_tup2 {cf : CallF} {i j : Nat} {a b : Dat} {Γ : Gam} {M : Mem} : evG cf (.tup (.cons (.name i) (.cons (.name j) .nil))) (.tup [a, b]) Γ M = .ok ((Γ.set i (some a)).set j (some b)) M := rfl
end Ab
end

section
set_option linter.all false
set_option maxRecDepth 100000
set_option maxHeartbeats 1000000
namespace Ab
open PySem L2
@[simp] theorem it_q0 {x : Dat} {r : Mem} : itemD (.lst [x] :: r) (.ptr 0) (.int 0) = some x := by simp [itemD, sq, rd, rdL, atI, ixN]
@[simp] theorem it_l0 {M : Mem} {x : Dat} : itemD M (.lst [x]) (.int 0) = some x := by simp [itemD, sq, rd, rdL, atI, ixN]
theorem g_subv {cf : CallF} {x d : Dat} {Γ : Gam} (h2 : Γ[2]? = some (some (.ptr 0))) (h5 : Γ[5]? = some (some (.int 0))) : evG cf (.sub (.var 2) (.var 5)) d Γ [.lst [x]] = .ok Γ [.lst [d]] := by
  show ((evE cf (.var 2) Γ [.lst [x]]).bind fun a M => (evE cf (.var 5) Γ M).bind fun y M => _) = _
  rw [e_var, h2, varR_ok, bind_ok, e_var, h5]
  rfl
def prs (ps : List (Nat × Int)) : List Dat := ps.map fun p => pairD (.int (p.1 : Nat)) (.int p.2)
theorem enum_prs (ms : List Int) : ∃ ps : List (Nat × Int), enumD (ms.map .int) = prs ps ∧ ∀ p ∈ ps, p.1 < ms.length := by
  refine ⟨(List.range ms.length).zip ms, ?_, fun p hp => ?_⟩
  · unfold enumD prs
    rw [List.length_map, List.zipWith_map, List.zip, List.map_zipWith]
  · have := (List.of_mem_zip hp).1
    simpa using this
abbrev cellsBody : Sms := .cons (.set 5 (.bin (.op .Mod) (.un .int (.var 3)) (.var 1))) (.cons (.asg (.sub (.var 2) (.var 5)) (.bin (.op .Add) (.bin .ix (.var 2) (.var 5)) (.bin (.op .Mult) (.var 4) (.bin (.op .Add) (.var 3) (.dat (.int 2)))))) .nil)
theorem cells_loop {cf : CallF} {l : List Dat} : ∀ (ps : List (Nat × Int)) (x : Int) (s o3 o4 o5 : Option Dat), (∀ p ∈ ps, p.1 < 1000) →
    ∃ (x' : Int) (o3' o4' o5' : Option Dat), forR lawW cf [(.lst l, l)] (.tup (.cons (.name 3) (.cons (.name 4) .nil))) cellsBody (prs ps) [s, some (.int 1), some (.ptr 0), o3, o4, o5] [.lst [.int x]] = .ok (.nx [s, some (.int 1), some (.ptr 0), o3', o4', o5']) [.lst [.int x']]
  | [], x, s, o3, o4, o5, _ => ⟨x, o3, o4, o5, rfl⟩
  | p :: ps, x, s, o3, o4, o5, h => by
    have hp := h p List.mem_cons_self
    obtain ⟨x', a, b, c, ih⟩ := cells_loop (cf := cf) (l := l) ps (x + p.2 * ((p.1 : Int) + 2)) s (some (.int (p.1 : Nat))) (some (.int p.2)) (some (.int 0)) fun q hq => h q (List.mem_cons_of_mem _ hq)
    refine ⟨x', a, b, c, ?_⟩
    have hc : prs (p :: ps) = pairD (.int (p.1 : Nat)) (.int p.2) :: prs ps := rfl
    have e1 := b_mul (M := [.lst [.int x]]) (i := p.2) (j := (p.1 : Int) + 2) (mul_ok2 ⟨by omega, by omega⟩)
    have e0 := b_mod (M := [.lst [.int x]]) (i := (p.1 : Int)) (j := 1) (by decide)
    rw [Int.emod_one] at e0
    rw [hc, for_go (Γ1 := [s, some (.int 1), some (.ptr 0), some (.int (p.1 : Nat)), some (.int p.2), o5]) (M1 := [.lst [.int x]]) (Γ2 := [s, some (.int 1), some (.ptr 0), some (.int (p.1 : Nat)), some (.int p.2), some (.int 0)]) (M2 := [.lst [.int (x + p.2 * ((p.1 : Int) + 2))]]) g_tup2 ?_ rfl, ih]
    simp [e0, e1, g_subv]
theorem r_cells {k : Nat} (ns : List Int) (hl : ns.length ≤ 63) : ∃ x : Int, Fz (F (k + 1)) 21 [.rol (ns.map .int), .int 1] (.lst [.int x]) := by
  have hnp : ∀ ms : List Int, Dat.nps (ms.map .int) = true := fun ms => by
    induction ms with
    | nil => rfl
    | cons m ms ih => exact ih
  have hn2 : Dat.nps [.rol (ns.map .int), .int 1] = true := by
    show (Dat.nps (ns.map .int) && (true && true)) = true
    rw [hnp]
    rfl
  obtain ⟨ms, hms, hml⟩ := cut_map (ns := ns) (lo := some 1) (hi := some 63)
  cases ns with
  | nil =>
    have hms0 : ms = [] := List.length_eq_zero_iff.mp (by simpa using hml)
    subst hms0
    refine ⟨0, Fz.ofL (k := 1) (M1 := [.lst [], .lst [.int 0]]) hn2 (run_of rfl rfl ?_) rfl rfl⟩
    show evSs lawW (F k) ir__law_cells [some (.rol []), some (.int 1), none, none, none, none] [] = _
    have c1 : ∀ M : Mem, cutX M (.rol []) none (some 1) = some (.lst []) := fun M => rfl
    have c2 : ∀ M : Mem, cutX M (.rol []) (some 1) (some 63) = some (.lst []) := fun M => rfl
    unfold ir__law_cells
    simp [c1, c2, rd, rdL, orLR_nil]
    rw [forI_ok rfl]
    simp [enumD]
  | cons n ns =>
    have c0 : cutD ((n :: ns).map Dat.int) none (some 1) = [.int n] := by
      unfold cutD
      rw [HT.sIx_none, show (some (1 : Int)) = some (((1 : Nat) : Int)) from rfl, HT.sIx_nat]
      simp
    obtain ⟨ps, hps, hpl⟩ := enum_prs ms
    obtain ⟨x', a, b, c, e⟩ := cells_loop (cf := F k) (l := ms.map .int) ps n (some (.rol ((n :: ns).map .int))) none none none fun p hp => by
      have := hpl p hp
      omega
    refine ⟨x', Fz.ofL (k := 0) (M1 := [.lst [.int x']]) hn2 (run_of rfl rfl ?_) rfl rfl⟩
    show evSs lawW (F k) ir__law_cells [some (.rol ((n :: ns).map .int)), some (.int 1), none, none, none, none] [] = _
    have c1 : ∀ M : Mem, cutX M (.rol ((n :: ns).map .int)) none (some 1) = some (.lst [.int n]) := fun M => by
      show some (Dat.lst (cutD _ none (some 1))) = _
      rw [c0]
    have c2 : ∀ M : Mem, cutX M (.rol ((n :: ns).map .int)) (some 1) (some 63) = some (.lst (ms.map .int)) := fun M => by
      show some (Dat.lst (cutD _ (some 1) (some 63))) = _
      rw [hms]
    have o1 : evE (F k) (.orL (.un .listC (.sl (.var 0) .none (.some (.var 1)))) (.lstC (.cons (.dat (.int 0)) .nil))) [some (.rol ((n :: ns).map .int)), some (.int 1), none, none, none, none] [] = .ok (.ptr 0) [.lst [.int n]] := by
      simp only [e_orL, e_un, e_sl, e_var, List.getElem?_cons_zero, List.getElem?_cons_succ, varR_ok, bind_ok, o_none, o_some, oInt_int, c1, ofX_some, u_listC, sq_lst, map_some', ofO_some]
      rfl
    have o2 : evI (F k) (.enum (.sl (.var 0) (.some (.var 1)) (.some (.dat (.int 63))))) [some (.rol ((n :: ns).map .int)), some (.int 1), some (.ptr 0), none, none, none] [.lst [.int n]] = .ok (prs ps, [(.lst (ms.map .int), ms.map .int)]) [.lst [.int n]] := by
      simp only [i_enum, e_sl, e_var, List.getElem?_cons_zero, List.getElem?_cons_succ, varR_ok, bind_ok, o_some, oInt_int, e_dat, c2, ofX_some, rd_lst, hps]
    unfold ir__law_cells
    rw [ss_cons, s_set, o1, bind_ok, bind_ok, nxR_nx, ss_cons, s_for]
    have o2' : evI (F k) (.enum (.sl (.var 0) (.some (.var 1)) (.some (.dat (.int 63))))) ([some (.rol ((n :: ns).map .int)), some (.int 1), none, none, none, none].set 2 (some (.ptr 0))) [.lst [.int n]] = _ := o2
    rw [o2', bind_ok, forI_ok rfl]
    have e : forR lawW (F k) [(.lst (ms.map .int), ms.map .int)] (.tup (.cons (.name 3) (.cons (.name 4) .nil))) cellsBody (prs ps) ([some (.rol ((n :: ns).map .int)), some (.int 1), none, none, none, none].set 2 (some (.ptr 0))) [.lst [.int n]] = _ := e
    rw [e]
    simp
theorem b_op {M : Mem} {o : Operator} {d e : Dat} : bin2 (.op o) d e M = (binD o d e).map fun x => (x, M) := by cases d <;> cases e <;> rfl
theorem b_pow {M : Mem} {i j : Int} (h : 0 ≤ j ∧ j ≤ 1000000 ∧ i.natAbs < 2 ^ 64) : bin2 (.op .Pow) (.int i) (.int j) M = some (.int (i ^ j.toNat), M) := by
  rw [b_op]
  have : binD .Pow (.int i) (.int j) = some (.int (i ^ j.toNat)) := by
    unfold binD
    exact if_pos h
  rw [this]
  rfl
theorem b_pow18 {P : Int} (h : P = 10 ^ (18 : Int).toNat) (M : Mem) : bin2 (.op .Pow) (.int 10) (.int 18) M = some (.int P, M) := by
  rw [h]
  exact b_pow ⟨by decide, by decide, by decide⟩
theorem sm01 (c : Prop) [Decidable c] : Sm_ (if c then 1 else 0) := by
  by_cases h : c
  · rw [if_pos h]; exact ⟨by decide, by decide⟩
  · rw [if_neg h]; exact ⟨by decide, by decide⟩
theorem e_mulS {cf : CallF} {e f : Ex} {Γ : Gam} {i j : Int} (h : Sm_ j) (h1 : evE cf e Γ [] = .ok (.int i) []) (h2 : evE cf f Γ [] = .ok (.int j) []) : evE cf (.bin (.op .Mult) e f) Γ [] = .ok (.int (i * j)) [] := by
  rw [e_bin, h1, bind_ok, h2, bind_ok, b_mul (mul_ok2 h)]
  rfl
theorem box_a {cf : CallF} (x P : Int) (hP : ∀ M, bin2 (.op .Pow) (.int 10) (.int 18) M = some (.int P, M)) (o1 o2 : Option Dat) : ∃ a : Int, evE cf (.bin (.op .Mult) (.un .abs (.var 2)) (.un .int (.bin (.cmp .GtE) (.un .abs (.var 2)) (.bin (.op .Pow) (.dat (.int 10)) (.dat (.int 18)))))) [o1, o2, some (.int x)] [] = .ok (.int a) [] := by
  have h1 : evE cf (.un .abs (.var 2)) [o1, o2, some (.int x)] [] = .ok (.int x.natAbs) [] := by
    rw [e_un, e_var]
    show ofO (un1 .abs (.int x) []) = _
    rw [u_abs]
    rfl
  have h2 : evE cf (.bin (.op .Pow) (.dat (.int 10)) (.dat (.int 18))) [o1, o2, some (.int x)] [] = .ok (.int P) [] := by
    rw [e_bin, e_dat, bind_ok, e_dat, bind_ok, hP]
    rfl
  have h3 : evE cf (.un .int (.bin (.cmp .GtE) (.un .abs (.var 2)) (.bin (.op .Pow) (.dat (.int 10)) (.dat (.int 18))))) [o1, o2, some (.int x)] [] = .ok (.int (if decide (P ≤ (x.natAbs : Int)) = true then 1 else 0)) [] := by
    rw [e_un, e_bin, h1, bind_ok, h2, bind_ok, b_ge]
    rfl
  exact ⟨_, e_mulS (sm01 _) h1 h3⟩
theorem box_b {cf : CallF} (x K L N : Int) (hK : 0 < K) (hL : Sm_ L) (o1 : Option Dat) : ∃ b : Int, evE cf (.bin (.op .Add) (.bin (.op .Add) (.bin (.op .Mod) (.un .int (.var 2)) (.dat (.int K))) (.bin (.op .Mult) (.dat (.int L)) (.var 1))) (.dat (.int N))) [o1, some (.int 0), some (.int x)] [] = .ok (.int b) [] := by
  have e2 := b_mod (M := []) (i := x) (j := K) hK
  have e3 := b_mul (M := []) (i := L) (j := 0) (mul_ok hL)
  refine ⟨x % K + L * 0 + N, ?_⟩
  simp only [e_bin, e_un, e_var, List.getElem?_cons_zero, List.getElem?_cons_succ, varR_ok, bind_ok, ofO_some, e_dat, u_int, e2, e3, b_add]
theorem r_box {k : Nat} (x : Int) : ∃ a b : Int, Cl_ (F (k + 1)) 19 [.lst [.int x], .int 0] [.int a, .int b, .int 0] := by
  obtain ⟨P, hP⟩ : ∃ P : Int, P = 10 ^ (18 : Int).toNat := ⟨_, rfl⟩
  obtain ⟨a, ha⟩ := box_a (cf := F k) x P (b_pow18 hP) (some (.lst [.int x])) (some (.int 0))
  obtain ⟨b, hb⟩ := box_b (cf := F k) x 2305843009213693951 39373 248220 (by decide) ⟨by decide, by decide⟩ (some (.lst [.int x]))
  refine ⟨a, b, Cl_.of (k := 0) (M1 := [.lst [.int a, .int b, .int 0]]) rfl (run_of rfl rfl ?_) rfl rfl⟩
  show evSs lawW (F k) ir__law_box [some (.lst [.int x]), some (.int 0), none] [] = _
  unfold ir__law_box
  have lt01 : decide ((0 : Int) < ((([Dat.int x].length : Nat)) : Int)) = true := rfl
  have s1 : evS lawW (F k) (.set 2 (.ite (.bin (.cmp .Lt) (.var 1) (.un .len (.var 0))) (.bin .ix (.var 0) (.var 1)) (.dat (.int 0)))) [some (.lst [.int x]), some (.int 0), none] [] = .ok (.nx [some (.lst [.int x]), some (.int 0), some (.int x)]) [] := by
    simp only [s_set, e_ite, e_bin, e_un, e_var, List.getElem?_cons_zero, List.getElem?_cons_succ, varR_ok, bind_ok, u_len, len_lst, map_some', ofO_some, b_lt, asB_bl, lt01, iteR_t, b_ix, it_l0]
    rfl
  rw [ss_cons, s1, bind_ok, nxR_nx, ss_cons, s_ret, e_lstC, a_cons, ha, bind_ok, a_cons, hb, bind_ok, a_cons, e_dat, bind_ok, a_nil, bind_ok, bind_ok, bind_ok, bind_ok, okLen_3, bind_ok, bind_ok, nxR_rt]
  rfl
end Ab
end

section
set_option linter.all false
set_option maxRecDepth 100000
set_option maxHeartbeats 1000000
namespace Ab
open PySem L2
def eL0 : Ex := (.call .fz 25 (.cons (.bin (.op .Sub) (.call .hp 20 (.cons (.var 1) (.cons (.dat (.int 21)) .nil))) (.dat (.int 10))) (.cons (.bin (.op .Add) (.dat (.int 1)) (.call .hp 20 (.cons (.var 1) (.cons (.dat (.int 8)) .nil)))) .nil)))
def eL1 : Ex := (.call .hp 30 (.cons (.var 1) (.cons (.var 3) (.cons (.dat (.int 4)) .nil))))
def eL2 : Ex := (.call .fz 29 (.cons (.call .fz 31 (.cons (.var 4) .nil)) .nil))
def eL3 : Ex := (.bin .ix (.var 5) (.dat (.int 0)))
def eL4 : Ex := (.bin (.op .FloorDiv) (.bin (.op .Sub) (.bin (.op .Mult) (.bin .ix (.var 3) (.dat (.int 0))) (.bin .ix (.var 6) (.dat (.int 1)))) (.bin (.op .Mult) (.bin .ix (.var 6) (.dat (.int 0))) (.bin .ix (.var 3) (.dat (.int 1))))) (.bin (.op .Mult) (.bin .ix (.var 3) (.dat (.int 1))) (.bin .ix (.var 6) (.dat (.int 1)))))
def eL5 : Ex := (.un .sum (.lc false (.one 15) [15] (.rng1 (.bin (.op .Add) (.var 7) (.dat (.int 1)))) (.dat (.bl true)) (.bin (.op .Sub) (.call .fz 32 (.cons (.var 4) (.cons (.call .fz 26 (.cons (.var 6) (.cons (.tup (.cons (.var 15) (.cons (.dat (.int 1)) .nil))) .nil))) .nil))) (.dat (.int 1)))))
def eL6 : Ex := (.lst (.cons (.call .fz 13 (.cons (.var 4) .nil)) (.cons (.call .fz 14 (.cons (.call .fz 22 (.cons (.var 4) .nil)) .nil)) (.cons (.call .fz 15 (.cons (.var 4) .nil)) (.cons (.call .fz 16 (.cons (.call .fz 22 (.cons (.var 4) .nil)) .nil)) .nil)))))
def eL7 : Ex := (.un .notB (.call .fz 23 (.cons (.var 9) (.cons (.lst (.cons (.dat (.bl true)) (.cons (.var 6) (.cons (.un .len (.var 5)) (.cons (.var 8) .nil))))) .nil))))
def eL8 : Ex := (.call .fz 26 (.cons (.var 3) (.cons (.call .fz 25 (.cons (.bin (.op .Sub) (.call .hp 20 (.cons (.var 1) (.cons (.dat (.int 17)) .nil))) (.dat (.int 13))) (.cons (.bin (.op .Add) (.dat (.int 1)) (.call .hp 20 (.cons (.var 1) (.cons (.dat (.int 2)) .nil)))) .nil))) .nil)))
def eL9 : Ex := (.un .notB (.call .fz 23 (.cons (.lst (.cons (.call .fz 17 (.cons (.var 4) (.cons (.un .list (.var 11)) .nil))) (.cons (.call .fz 17 (.cons (.call .fz 22 (.cons (.var 4) .nil)) (.cons (.var 11) .nil))) .nil))) (.cons (.bin .repL (.lst (.cons (.call .fz 32 (.cons (.var 4) (.cons (.var 11) .nil))) .nil)) (.dat (.int 2))) .nil))))
def turnBody : Sms := (.cons (.set 11 eL8) (.cons (.iff eL9 (.cons (.ret (.dat (.bl false))) .nil) .nil) .nil))
def eL10 : Ex := (.call .fz 26 (.cons (.var 3) (.cons (.tup (.cons (.un .neg (.dat (.int 1))) (.cons (.dat (.int 1)) .nil))) .nil)))
def eL11 : Ex := (.lst (.cons (.tup (.cons (.var 3) (.cons (.tup (.cons (.tup (.cons (.var 12) (.cons (.tup .nil) .nil))) .nil)) .nil))) (.cons (.tup (.cons (.var 3) (.cons (.tup (.cons (.tup (.cons (.var 3) (.cons (.tup .nil) .nil))) (.cons (.tup (.cons (.var 12) (.cons (.tup .nil) .nil))) .nil))) .nil))) (.cons (.tup (.cons (.var 3) (.cons (.tup (.cons (.tup (.cons (.var 12) (.cons (.tup .nil) .nil))) (.cons (.tup (.cons (.call .fz 26 (.cons (.var 3) (.cons (.tup (.cons (.un .neg (.dat (.int 1))) (.cons (.dat (.int 2)) .nil))) .nil))) (.cons (.tup .nil) .nil))) .nil))) .nil))) .nil))))
def eL12 : Ex := (.bin .catL (.var 13) (.lst (.cons (.un .list (.var 4)) (.cons (.tup (.cons (.un .list (.var 3)) (.cons (.tup .nil) .nil))) (.cons (.tup (.cons (.var 3) (.cons (.lst .nil) .nil))) (.cons (.tup (.cons (.var 3) .nil)) (.cons (.dat .non) (.cons (.dat (.int 0)) (.cons (.tup (.cons (.var 3) (.cons (.tup (.cons (.tup (.cons (.var 12) (.cons (.tup .nil) .nil))) (.cons (.tup (.cons (.call .fz 26 (.cons (.var 12) (.cons (.tup (.cons (.un .neg (.dat (.int 1))) (.cons (.dat (.int 1)) .nil))) .nil))) (.cons (.tup .nil) .nil))) .nil))) .nil))) .nil)))))))))
def eL13 : Ex := (.bin .catL (.var 13) (.lst (.cons (.tup (.cons (.bin .ix (.var 3) (.dat (.int 0))) (.cons (.tup .nil) .nil))) (.cons (.tup (.cons (.tup (.cons (.dat (.int 2)) (.cons (.dat (.int 4)) .nil))) (.cons (.tup .nil) .nil))) (.cons (.tup (.cons (.tup (.cons (.dat (.int 1)) (.cons (.un .neg (.dat (.int 2))) .nil))) (.cons (.tup .nil) .nil))) (.cons (.tup (.cons (.tup (.cons (.dat (.bl true)) (.cons (.dat (.int 1)) .nil))) (.cons (.tup .nil) .nil))) .nil))))))
def eL14 : Ex := (.un .notB (.call .fz 23 (.cons (.lc false (.one 16) [16] (.any (.var 13)) (.dat (.bl true)) (.call .fz 13 (.cons (.var 16) .nil))) (.cons (.bin .repL (.lst (.cons (.dat (.bl false)) .nil)) (.dat (.int 14))) .nil))))
def eL15 : Ex := (.tup (.cons (.var 3) (.cons (.tup (.cons (.tup (.cons (.var 12) (.cons (.tup .nil) .nil))) (.cons (.tup (.cons (.var 12) (.cons (.tup .nil) .nil))) .nil))) .nil)))
def eL16 : Ex := (.un .notB (.call .fz 23 (.cons (.lst (.cons (.call .fz 13 (.cons (.var 14) .nil)) (.cons (.call .fz 16 (.cons (.var 14) .nil)) (.cons (.call .fz 15 (.cons (.var 14) .nil)) .nil)))) (.cons (.lst (.cons (.dat (.bl true)) (.cons (.dat (.int 1)) (.cons (.dat (.int 2)) .nil)))) .nil))))
def lapBody : Sms := (.cons (.set 3 eL0) (.cons (.set 4 eL1) (.cons (.set 5 eL2) (.cons (.set 6 eL3) (.cons (.set 7 eL4) (.cons (.set 8 eL5) (.cons (.set 9 eL6) (.cons (.iff eL7 (.cons (.ret (.dat (.bl false))) .nil) .nil) (.cons (.forr (.name 10) (.rng1 (.dat (.int 4))) turnBody) (.cons (.set 12 eL10) (.cons (.set 13 eL11) (.cons (.set 13 eL12) (.cons (.set 13 eL13) (.cons (.iff eL14 (.cons (.ret (.dat (.bl false))) .nil) .nil) (.cons (.set 14 eL15) (.cons (.iff eL16 (.cons (.ret (.dat (.bl false))) .nil) .nil) .nil))))))))))))))))
def eL_box : Ex := (.call .cl 19 (.cons (.call .fz 21 (.cons (.var 0) (.cons (.dat (.int 1)) .nil))) (.cons (.dat (.int 0)) .nil)))
def eL_ret : Ex := (.call .fz 23 (.cons (.lst (.cons (.call .fz 16 (.cons (.tup (.cons (.tup (.cons (.dat (.int 0)) (.cons (.dat (.int 1)) .nil))) (.cons (.tup .nil) .nil))) .nil)) (.cons (.call .fz 17 (.cons (.tup (.cons (.tup (.cons (.dat (.int 0)) (.cons (.dat (.int 1)) .nil))) (.cons (.tup .nil) .nil))) (.cons (.tup (.cons (.un .neg (.dat (.int 1))) (.cons (.dat (.int 2)) .nil))) .nil))) (.cons (.call .fz 14 (.cons (.tup (.cons (.tup (.cons (.dat (.int 1)) (.cons (.dat (.int 1)) .nil))) (.cons (.tup (.cons (.tup (.cons (.tup (.cons (.un .neg (.dat (.int 2))) (.cons (.dat (.int 1)) .nil))) (.cons (.tup .nil) .nil))) (.cons (.tup (.cons (.tup (.cons (.dat (.int 0)) (.cons (.dat (.int 1)) .nil))) (.cons (.tup .nil) .nil))) .nil))) .nil))) .nil)) .nil)))) (.cons (.lst (.cons (.dat (.int 0)) (.cons (.dat (.int 0)) (.cons (.tup (.cons (.un .neg (.dat (.int 2))) (.cons (.dat (.int 1)) .nil))) .nil)))) .nil)))
theorem law_is : ir_law = .cons (.set 1 eL_box) (.cons (.forr (.name 2) (.rng1 (.dat (.int 6))) lapBody) (.cons (.ret eL_ret) .nil)) := rfl
abbrev Gm (s lap top own ends least steps rank got turn number low things twins k it : Option Dat) : Gam := [s, some (.ptr 0), lap, top, own, ends, least, steps, rank, got, turn, number, low, things, twins, k, it]
theorem b_repL {M : Mem} {d : Dat} {k : Int} (h : repOk 1 k = true) : bin2 .repL (.lst [d]) (.int k) M = some (.lst (List.replicate k.toNat [d]).flatten, M) := by
  show (if repOk 1 k then some (Dat.lst (List.replicate k.toNat [d]).flatten, M) else none) = _
  rw [if_pos h]
theorem lap0 {Γ : Gam} (h1 : Γ[1]? = some (some (.ptr 0))) {a b c : Int} (hc : 0 ≤ c ∧ c ≤ 800000) :
    ∃ n q a' b' c' : Int, evE (F 40) eL0 Γ (tn a b c) = .ok (fr (n, q)) (tn a' b' c') ∧ (-10 ≤ n ∧ n ≤ 10) ∧ (0 < q ∧ q ≤ 8) ∧ Int.gcd n q = 1 ∧ 0 ≤ c' ∧ c' ≤ c + 2 := by
  obtain ⟨a1, b1, c1, v, e1, hv, hc1, hc1'⟩ := r_take (k := 39) (a := a) (b := b) (c := c) (m := 21) (by decide) (by omega)
  obtain ⟨a2, b2, c2, w, e2, hw, hc2, hc2'⟩ := r_take (k := 39) (a := a1) (b := b1) (c := c1) (m := 8) (by decide) (by omega)
  have e3 := r_cut2 (k := 38) (a := v - 10) (b := 1 + w) (by omega) (by omega) (tn a2 b2 c2)
  have g1 := cut_gcd (a := v - 10) (b := 1 + w) (by omega)
  have g2 := cut_pos (a := v - 10) (b := 1 + w) (by omega)
  have g3 := cut_abs (a := v - 10) (b := 1 + w) (c := 10) (by omega) (by omega) (by omega)
  refine ⟨(cutI (v - 10) (1 + w)).1, (cutI (v - 10) (1 + w)).2, a2, b2, c2, ?_, g3, by omega, g1, hc2, by omega⟩
  unfold eL0
  simp only [e_call, a_cons, a_nil, e_bin, e_var, h1, varR_ok, bind_ok, e_dat, e1, at_ok, b_sub, b_add, ofO_some, e2, e3]
theorem lap1 {Γ : Gam} {n q : Int} (h1 : Γ[1]? = some (some (.ptr 0))) (h3 : Γ[3]? = some (some (fr (n, q)))) {a b c : Int} (hc : 0 ≤ c ∧ c ≤ 800000) (hn : -10 ≤ n ∧ n ≤ 10) (hq : 0 < q ∧ q ≤ 8) (hg : Int.gcd n q = 1) :
    ∃ (t : Lv) (a' b' c' : Int), evE (F 40) eL1 Γ (tn a b c) = .ok (t.D q) (tn a' b' c') ∧ t.ok q ∧ t.n = n ∧ t.dp ≤ 4 ∧ 0 ≤ c' ∧ c' ≤ c + 1000 := by
  have h4 : tk 4 = 200 := rfl
  obtain ⟨t, a', b', c', e, h⟩ := r_drawn hq 4 39 n (by decide) (by decide) (by omega) hg a b c (by omega)
  refine ⟨t, a', b', c', ?_, h.1, h.2.1, h.2.2.1, h.2.2.2.1, by omega⟩
  have e' : callW (F 40) .hp 30 [.ptr 0, fr (n, q), .int 4] (tn a b c) = .ok (t.D q) (tn a' b' c') := e
  unfold eL1
  simp only [e_call, a_cons, a_nil, e_var, h1, h3, varR_ok, bind_ok, e_dat, at_ok, e']
theorem lap2 {Γ : Gam} {q : Int} {t : Lv} {M : Mem} (hq : Qm q) (h4 : Γ[4]? = some (some (t.D q))) (ht : t.ok q) (hd : t.dp ≤ 4) : evE (F 40) eL2 Γ M = .ok (.tup (frs_ q (inoL t.ends))) M := by
  have e1 := r_ends (q := q) 4 t 39 hd (by decide) ht (by omega) M
  have hz := sz_le 4 ht hd
  have hB : sB 4 = 121 := by decide
  have hz2 := ends_sz t
  have e2 := r_ino (k := 38) hq t.ends (fun x hx => by
    have h1 := (least_ends hq.1 ht).2 x hx
    have h2 := least_bd ht
    omega) (by omega) M
  unfold eL2
  simp only [e_call, a_cons, a_nil, e_var, h4, varR_ok, bind_ok, at_ok, e1, e2]
theorem lap3 {Γ : Gam} {q : Int} {t : Lv} {M : Mem} (hq : Qm q) (h5 : Γ[5]? = some (some (.tup (frs_ q (inoL t.ends))))) (ht : t.ok q) : evE (F 40) eL3 Γ M = .ok (fr (t.least, q)) M := by
  obtain ⟨r, hr, _⟩ := ino_head hq.1 ht
  rw [hr] at h5
  unfold eL3
  simp only [e_bin, e_var, h5, varR_ok, bind_ok, e_dat, b_ix, frs_, List.map_cons, it_t0, map_some', ofO_some]
theorem lap4 {Γ : Gam} {n q l s : Int} {M : Mem} (hq : 0 < q ∧ q ≤ 8) (hn : -10 ≤ n ∧ n ≤ 10) (hl : -500 ≤ l ∧ l ≤ 500) (hs : n = l + s * q) (h3 : Γ[3]? = some (some (fr (n, q)))) (h6 : Γ[6]? = some (some (fr (l, q)))) : evE (F 40) eL4 Γ M = .ok (.int s) M := by
  have m1 := b_mul (M := M) (i := n) (j := q) (mul_ok2 ⟨by omega, by omega⟩)
  have m2 := b_mul (M := M) (i := l) (j := q) (mul_ok2 ⟨by omega, by omega⟩)
  have m3 := b_mul (M := M) (i := q) (j := q) (mul_ok2 ⟨by omega, by omega⟩)
  have hqq : 0 < q * q ∧ q * q ≤ 64 := ⟨Int.mul_pos hq.1 hq.1, Int.mul_le_mul hq.2 hq.2 (by omega) (by omega)⟩
  have d1 := b_div (M := M) (i := n * q - l * q) (j := q * q) hqq.1 (div_ok ⟨by omega, by omega⟩)
  have e1 : (n * q - l * q) / (q * q) = s := by
    have : n * q - l * q = s * (q * q) := by
      rw [hs, Int.add_mul, Int.mul_assoc]
      omega
    rw [this]
    exact Int.mul_ediv_cancel _ (by omega)
  rw [e1] at d1
  unfold eL4
  simp only [e_bin, e_var, h3, h6, varR_ok, bind_ok, e_dat, b_ix, it_fr0, it_fr1, map_some', ofO_some, m1, m2, m3, b_sub, d1]
end Ab
end

section
set_option linter.all false
set_option maxRecDepth 100000
set_option maxHeartbeats 1000000
namespace Ab
open PySem L2
theorem step_of {q : Int} (hq : 0 < q ∧ q ≤ 8) {t : Lv} (ht : t.ok q) (hn : -10 ≤ t.n ∧ t.n ≤ 10) : ∃ s : Nat, t.n = t.least + (s : Int) * q ∧ s ≤ 510 := by
  obtain ⟨j, hj, e⟩ := ok_cong ht
  obtain ⟨s, rfl⟩ : ∃ s : Nat, j = (s : Int) := ⟨j.toNat, by omega⟩
  have hb := least_bd ht
  have : (s : Int) * 1 ≤ s * q := Int.mul_le_mul_of_nonneg_left (by omega) (by omega)
  exact ⟨s, e, by omega⟩
theorem gcd_back {q : Int} {t : Lv} (ht : t.ok q) {s : Nat} (hs : t.n = t.least + (s : Int) * q) (k : Nat) : Int.gcd (t.least + (k : Int) * q) q = 1 := by
  have hg : Int.gcd t.n q = 1 := by
    cases t with
    | mk n ks => exact ht.2.1
  have := gcd_step (j := (s : Int) - k) hg
  have e : t.n - ((s : Int) - k) * q = t.least + (k : Int) * q := by
    rw [hs, Int.sub_mul]
    omega
  rw [e] at this
  exact this
theorem lap5 {q : Int} {t : Lv} {M : Mem} {s0 lap top ends rank got turn number low things twins k it : Option Dat} {s : Nat} (hq : 0 < q ∧ q ≤ 8) (ht : t.ok q) (hd : t.dp ≤ 4) (hs : t.n = t.least + (s : Int) * q) (hsl : s ≤ 510) :
    evE (F 40) eL5 (Gm s0 lap top (some (t.D q)) ends (some (fr (t.least, q))) (some (.int s)) rank got turn number low things twins k it) M = .ok (.int (t.leng q - s)) M := by
  have hQ : Qm q := ⟨hq.1, by omega⟩
  have hr := rank_sum hq.1 ht hs
  have hrg := rng1R_ok (M := M) (n := s + 1) (by omega)
  have hb := least_bd ht
  have e1 : lcI (F 40) false (.one 15) [15] (.dat (.bl true)) (.bin (.op .Sub) (.call .fz 32 (.cons (.var 4) (.cons (.call .fz 26 (.cons (.var 6) (.cons (.tup (.cons (.var 15) (.cons (.dat (.int 1)) .nil))) .nil))) .nil))) (.dat (.int 1))) (Gm s0 lap top (some (t.D q)) ends (some (fr (t.least, q))) (some (.int s)) rank got turn number low things twins k it) ((List.range (s + 1)).map fun i => .int (i : Nat), []) M = .ok (.lst (((List.range (s + 1)).map fun (k : Nat) => t.lots q (t.least + (k : Int) * q, q) - 1).map .int)) M :=
    lcs_ok (by rw [List.length_map, List.length_range]; omega) rfl (by rw [List.length_map, List.length_map, List.length_map]) fun i d x hd' hx => by
      rw [List.getElem?_map] at hd' hx
      rw [List.getElem?_map] at hx
      by_cases hi : i < s + 1
      · rw [List.getElem?_range hi] at hd' hx
        cases hd'
        cases hx
        refine ⟨_, rfl, ?_⟩
        have hki : (i : Int) * q ≤ s * q := Int.mul_le_mul_of_nonneg_right (by omega) (by omega)
        have hk0 : 0 ≤ (i : Int) * q := Int.mul_nonneg (by omega) (by omega)
        have hn : -500 ≤ t.n ∧ t.n ≤ 500 := by
          cases t with
          | mk n ks => exact ht.1
        have e2 := r_plus_whole (k := 37) (q := q) (n := t.least) (j := (i : Int)) ⟨by show -1000 ≤ t.least ∧ t.least ≤ 1000; omega, hQ⟩ (by omega) (gcd_back ht hs i) M
        have e2' : callW (F 40) .fz 26 [fr (t.least, q), .tup [.int (i : Nat), .int 1]] M = .ok (fr (t.least + (i : Int) * q, q)) M := e2
        have e3 := r_lots2 (k := 39) (p := (t.least + (i : Int) * q, q)) hQ ⟨by show -1000 ≤ t.least + (i : Int) * q ∧ t.least + (i : Int) * q ≤ 1000; omega, hQ⟩ 4 t hd ht (by omega) M
        simp only [wipeG, List.foldl, List.set_cons_succ, List.set_cons_zero, e_bin, e_call, a_cons, a_nil, e_var, List.getElem?_cons_succ, List.getElem?_cons_zero, varR_ok, bind_ok, e_tup, e_dat, okLen_2, at_ok, e2', e3, b_sub, ofO_some]
      · have : (List.range (s + 1))[i]? = none := by
          rw [List.getElem?_eq_none]
          rw [List.length_range]
          omega
        rw [this] at hd'
        cases hd'
  have hrg' : rng1R (.int ((s : Int) + 1)) M = .ok ((List.range (s + 1)).map fun i => .int (i : Nat), []) M := hrg
  unfold eL5
  rw [e_un, e_lc, i_rng1]
  have e0 : evE (F 40) (.bin (.op .Add) (.var 7) (.dat (.int 1))) (Gm s0 lap top (some (t.D q)) ends (some (fr (t.least, q))) (some (.int s)) rank got turn number low things twins k it) M = .ok (.int ((s : Int) + 1)) M := by
    simp only [e_bin, e_var, List.getElem?_cons_succ, List.getElem?_cons_zero, varR_ok, bind_ok, e_dat, b_add, ofO_some]
  rw [e0, bind_ok, hrg', bind_ok, e1, bind_ok, u_sum, ofO_some, sum_range, hr]
theorem lap6 {Γ : Gam} {q : Int} {t : Lv} {M : Mem} {s : Nat} (hq : 0 < q ∧ q ≤ 8) (h4 : Γ[4]? = some (some (t.D q))) (ht : t.ok q) (hd : t.dp ≤ 4) (hs : t.n = t.least + (s : Int) * q) : evE (F 40) eL6 Γ M = .ok (.lst [.bl true, fr (t.least, q), .int t.ec, .int (t.leng q - s)]) M := by
  have hQ : Qm q := ⟨hq.1, by omega⟩
  have hdep := D_dep (q := q) t
  have e1 := r_islevels hQ t 39 ht (by omega) (by omega) M
  have e2 := r_lists (t.D q) 40 (D_plain ht) (by omega) M
  have e3 := r_lleast hQ t (lstD (t.D q)) 39 ht (by omega) (gives_L ht) (by omega) M
  have e4 := r_lends hQ t (t.D q) 39 ht hd (gives_D ht) (by omega) M
  have e5 := r_lrank hQ t (lstD (t.D q)) 39 ht (by omega) (gives_L ht) (by omega) M
  rw [gap_div hq.1 hs] at e5
  unfold eL6
  simp only [e_lst, e_call, a_cons, a_nil, e_var, h4, varR_ok, bind_ok, at_ok, e1, e2, e3, e4, e5, okLen_4]
theorem lap7 {Γ : Gam} {q : Int} {t : Lv} {M : Mem} {s : Nat} (hq : 0 < q) (ht : t.ok q) (h5 : Γ[5]? = some (some (.tup (frs_ q (inoL t.ends))))) (h6 : Γ[6]? = some (some (fr (t.least, q)))) (h8 : Γ[8]? = some (some (.int (t.leng q - s)))) (h9 : Γ[9]? = some (some (.lst [.bl true, fr (t.least, q), .int t.ec, .int (t.leng q - s)]))) : evE (F 40) eL7 Γ M = .ok (.bl false) M := by
  obtain ⟨r, hr, hlen⟩ := ino_head hq ht
  have hec := ends_ec t
  have hl : ((frs_ q (inoL t.ends)).length : Int) = t.ec := by
    rw [frs_len, hlen, hec]
  have e1 := r_same (.lst [.bl true, fr (t.least, q), .int t.ec, .int (t.leng q - s)]) 40 rfl (by show (2 : Nat) < 40; decide) M
  unfold eL7
  simp only [e_un, e_call, a_cons, a_nil, e_var, h5, h6, h8, h9, varR_ok, bind_ok, e_lst, e_dat, u_len, len_tup, map_some', ofO_some, hl, okLen_4, e1, at_ok, u_not, Bool.not_true]
theorem mul_bd {a b A B : Int} (ha : -A ≤ a ∧ a ≤ A) (hb : 0 ≤ b ∧ b ≤ B) (hA : 0 ≤ A) : -(A * B) ≤ a * b ∧ a * b ≤ A * B := by
  have h1 : a * b ≤ A * b := Int.mul_le_mul_of_nonneg_right ha.2 hb.1
  have h2 : A * b ≤ A * B := Int.mul_le_mul_of_nonneg_left hb.2 hA
  have h3 : -A * b ≤ a * b := Int.mul_le_mul_of_nonneg_right ha.1 hb.1
  rw [Int.neg_mul] at h3
  exact ⟨by omega, by omega⟩
theorem turn8 {Γ : Gam} {n q : Int} (h1 : Γ[1]? = some (some (.ptr 0))) (h3 : Γ[3]? = some (some (fr (n, q)))) {a b c : Int} (hc : 0 ≤ c ∧ c ≤ 800000) (hn : -10 ≤ n ∧ n ≤ 10) (hq : 0 < q ∧ q ≤ 8) :
    ∃ (x : Int × Int) (a' b' c' : Int), evE (F 40) eL8 Γ (tn a b c) = .ok (fr x) (tn a' b' c') ∧ Nm x ∧ Int.gcd x.1 x.2 = 1 ∧ 0 ≤ c' ∧ c' ≤ c + 2 := by
  obtain ⟨a1, b1, c1, v, e1, hv, hc1, hc1'⟩ := r_take (k := 39) (a := a) (b := b) (c := c) (m := 17) (by decide) (by omega)
  obtain ⟨a2, b2, c2, w, e2, hw, hc2, hc2'⟩ := r_take (k := 39) (a := a1) (b := b1) (c := c1) (m := 2) (by decide) (by omega)
  have e3 := r_cut2 (k := 38) (a := v - 13) (b := 1 + w) (by omega) (by omega) (tn a2 b2 c2)
  have g2 := cut_pos (a := v - 13) (b := 1 + w) (by omega)
  have g3 := cut_abs (a := v - 13) (b := 1 + w) (c := 13) (by omega) (by omega) (by omega)
  obtain ⟨y, hy⟩ : ∃ y, cutI (v - 13) (1 + w) = y := ⟨_, rfl⟩
  rw [hy] at e3 g2 g3
  have m1 := mul_bd (a := n) (b := y.2) (A := 10) (B := 2) hn (by omega) (by decide)
  have m2 := mul_bd (a := y.1) (b := q) (A := 13) (B := 8) g3 (by omega) (by decide)
  have m3 : 0 < q * y.2 := Int.mul_pos hq.1 g2.1
  have m4 := mul_bd (a := q) (b := y.2) (A := 8) (B := 2) (by omega) (by omega) (by decide)
  have e4 := r_plus (k := 37) (p := (n, q)) (q := y) ⟨by show -1000 ≤ n ∧ n ≤ 1000; omega, by show 0 < q ∧ q ≤ 1000; omega⟩ ⟨by omega, by omega⟩ (tn a2 b2 c2)
  have k1 := cut_gcd (a := n * y.2 + y.1 * q) (b := q * y.2) m3
  have k2 := cut_pos (a := n * y.2 + y.1 * q) (b := q * y.2) m3
  have k3 := cut_abs (a := n * y.2 + y.1 * q) (b := q * y.2) (c := 200) m3 (by omega) (by omega)
  refine ⟨cutI (n * y.2 + y.1 * q) (q * y.2), a2, b2, c2, ?_, ⟨by omega, by omega⟩, k1, hc2, by omega⟩
  unfold eL8
  simp only [e_call, a_cons, a_nil, e_bin, e_var, h1, h3, varR_ok, bind_ok, e_dat, e1, at_ok, b_sub, b_add, ofO_some, e2, e3, e4]
theorem turn9 {Γ : Gam} {q : Int} {t : Lv} {x : Int × Int} {M : Mem} (hq : 0 < q ∧ q ≤ 8) (h4 : Γ[4]? = some (some (t.D q))) (h11 : Γ[11]? = some (some (fr x))) (ht : t.ok q) (hd : t.dp ≤ 4) (hx : Nm x) (hg : Int.gcd x.1 x.2 = 1) : evE (F 40) eL9 Γ M = .ok (.bl false) M := by
  have hQ : Qm q := ⟨hq.1, by omega⟩
  have hdep := D_dep (q := q) t
  have e1 := r_lots_at hQ t (t.D q) (lstD (fr x)) x 39 ht (by omega) (gives_D ht) (by omega) hx hg (.inr rfl) M
  have e2 := r_lists (t.D q) 40 (D_plain ht) (by omega) M
  have e3 := r_lots_at hQ t (lstD (t.D q)) (fr x) x 39 ht (by omega) (gives_L ht) (by omega) hx hg (.inl rfl) M
  have e4 := r_lots2 (k := 39) (p := x) hQ hx 4 t hd ht (by omega) M
  have e5 := r_same (.lst [.int (t.lots q x), .int (t.lots q x)]) 40 rfl (by show (1 : Nat) < 40; decide) M
  have e6 : sq M (fr x) = some [.int x.1, .int x.2] := rfl
  have e7 : lstD (fr x) = .lst [.int x.1, .int x.2] := rfl
  have e8 : ∀ d : Dat, (List.replicate (2 : Int).toNat [d]).flatten = [d, d] := fun d => rfl
  rw [e7] at e1
  unfold eL9
  simp only [e_un, e_call, a_cons, a_nil, e_var, h4, h11, varR_ok, bind_ok, e_lst, u_list, e6, map_some', ofO_some, e1, at_ok, e2, e3, okLen_2, e_bin, e4, okLen_1, e_dat, b_repL (show repOk 1 2 = true by decide), e8, e5, u_not, Bool.not_true]
theorem turns {q n : Int} {t : Lv} (hq : 0 < q ∧ q ≤ 8) (hn : -10 ≤ n ∧ n ≤ 10) (ht : t.ok q) (hd : t.dp ≤ 4) {s0 lap ends least steps rank got low things twins k it : Option Dat} : ∀ (ds : List Dat) (turn number : Option Dat) (a b c : Int), 0 ≤ c → c + 2 * ds.length ≤ 700000 →
    ∃ (turn' number' : Option Dat) (a' b' c' : Int), forR lawW (F 40) [] (.name 10) turnBody ds (Gm s0 lap (some (fr (n, q))) (some (t.D q)) ends least steps rank got turn number low things twins k it) (tn a b c) = .ok (.nx (Gm s0 lap (some (fr (n, q))) (some (t.D q)) ends least steps rank got turn' number' low things twins k it)) (tn a' b' c') ∧ 0 ≤ c' ∧ c' ≤ c + 2 * ds.length
  | [], turn, number, a, b, c, hc, _ => ⟨turn, number, a, b, c, rfl, hc, by show c ≤ c + 2 * ((0 : Nat) : Int); omega⟩
  | d :: ds, turn, number, a, b, c, hc, hc2 => by
    rw [List.length_cons] at hc2
    obtain ⟨x, a1, b1, c1, e1, hx, hg, h1, h2⟩ := turn8 (Γ := Gm s0 lap (some (fr (n, q))) (some (t.D q)) ends least steps rank got (some d) number low things twins k it) rfl rfl (a := a) (b := b) (c := c) (by omega) hn hq
    have e2 := turn9 (Γ := Gm s0 lap (some (fr (n, q))) (some (t.D q)) ends least steps rank got (some d) (some (fr x)) low things twins k it) (M := tn a1 b1 c1) hq rfl rfl ht hd hx hg
    obtain ⟨tu, nu, a2, b2, c2, e3, h3, h4⟩ := turns hq hn ht hd (s0 := s0) (lap := lap) (ends := ends) (least := least) (steps := steps) (rank := rank) (got := got) (low := low) (things := things) (twins := twins) (k := k) (it := it) ds (some d) (some (fr x)) a1 b1 c1 h1 (by omega)
    refine ⟨tu, nu, a2, b2, c2, ?_, h3, by rw [List.length_cons]; omega⟩
    rw [for_go (Γ1 := Gm s0 lap (some (fr (n, q))) (some (t.D q)) ends least steps rank got (some d) number low things twins k it) (M1 := tn a b c) (Γ2 := Gm s0 lap (some (fr (n, q))) (some (t.D q)) ends least steps rank got (some d) (some (fr x)) low things twins k it) (M2 := tn a1 b1 c1) rfl ?_ rfl, e3]
    unfold turnBody
    rw [ss_cons, s_set, e1, bind_ok, bind_ok, nxR_nx, ss_cons, s_iff]
    have e2' : evE (F 40) eL9 ((Gm s0 lap (some (fr (n, q))) (some (t.D q)) ends least steps rank got (some d) number low things twins k it).set 11 (some (fr x))) (tn a1 b1 c1) = _ := e2
    rw [e2', asB_bl, bind_ok, ifR_f, ss_nil, bind_ok, nxR_nx, ss_nil]
    rfl
end Ab
end

section
set_option linter.all false
set_option maxRecDepth 100000
set_option maxHeartbeats 1000000
namespace Ab
open PySem L2
theorem lap10 {Γ : Gam} {n q m : Int} {M : Mem} (hm : m = n - q) (h3 : Γ[3]? = some (some (fr (n, q)))) (hn : -10 ≤ n ∧ n ≤ 10) (hq : 0 < q ∧ q ≤ 8) (hg : Int.gcd n q = 1) : evE (F 40) eL10 Γ M = .ok (fr (m, q)) M := by
  have hj : n + -1 * q = m := by omega
  have e2 := r_plus_whole (k := 37) (q := q) (n := n) (j := -1) ⟨by show -1000 ≤ n ∧ n ≤ 1000; omega, by show 0 < q ∧ q ≤ 1000; omega⟩ (by omega) (by
    have := gcd_step (j := 1) hg
    rw [Int.one_mul] at this
    rw [hj, hm]
    exact this) M
  rw [hj] at e2
  have e2' : callW (F 40) .fz 26 [fr (n, q), .tup [.int (-1), .int 1]] M = .ok (fr (m, q)) M := e2
  unfold eL10
  simp only [e_call, a_cons, a_nil, e_var, h3, varR_ok, bind_ok, e_un, e_dat, u_neg, ofO_some, e_tup, okLen_2, at_ok, e2']
abbrev th1 (n q m : Int) : List Dat := [.tup [fr (n, q), .tup [lf (m, q)]], .tup [fr (n, q), .tup [lf (n, q), lf (m, q)]], .tup [fr (n, q), .tup [lf (m, q), lf (cutI (n * 2 + -1 * q) (q * 2))]]]
abbrev th2 (n q m : Int) (ks : List Dat) : List Dat := [.lst [fr (n, q), .tup ks], .tup [.lst [.int n, .int q], .tup []], .tup [fr (n, q), .lst []], .tup [fr (n, q)], .non, .int 0, .tup [fr (n, q), .tup [lf (m, q), lf (m + -1 * q, q)]]]
abbrev th3 (n : Int) : List Dat := [.tup [.int n, .tup []], .tup [fr (2, 4), .tup []], .tup [fr (1, -2), .tup []], .tup [.tup [.bl true, .int 1], .tup []]]
theorem lap11 {Γ : Gam} {n q m : Int} {M : Mem} (h3 : Γ[3]? = some (some (fr (n, q)))) (h12 : Γ[12]? = some (some (fr (m, q)))) (hn : -10 ≤ n ∧ n ≤ 10) (hq : 0 < q ∧ q ≤ 8) : evE (F 40) eL11 Γ M = .ok (.lst (th1 n q m)) M := by
  have e1 := r_plus (k := 37) (p := (n, q)) (q := (-1, 2)) ⟨by show -1000 ≤ n ∧ n ≤ 1000; omega, by show 0 < q ∧ q ≤ 1000; omega⟩ ⟨by show (-1000 : Int) ≤ -1 ∧ (-1 : Int) ≤ 1000; omega, by show (0 : Int) < 2 ∧ (2 : Int) ≤ 1000; omega⟩ M
  have e1' : callW (F 40) .fz 26 [fr (n, q), .tup [.int (-1), .int 2]] M = .ok (fr (cutI (n * 2 + -1 * q) (q * 2))) M := e1
  unfold eL11
  simp only [e_lst, e_tup, e_call, a_cons, a_nil, e_var, h3, h12, varR_ok, bind_ok, e_un, e_dat, u_neg, ofO_some, okLen_0, okLen_1, okLen_2, okLen_3, at_ok, e1']
theorem lap12 {Γ : Gam} {n q m : Int} {t : Lv} {M : Mem} (h3 : Γ[3]? = some (some (fr (n, q)))) (h4 : Γ[4]? = some (some (t.D q))) (h12 : Γ[12]? = some (some (fr (m, q)))) (h13 : Γ[13]? = some (some (.lst (th1 n q m)))) (htn : t.n = n) (hn : -10 ≤ n ∧ n ≤ 10) (hq : 0 < q ∧ q ≤ 8) (hm : m = n - q) (hg : Int.gcd n q = 1) : evE (F 40) eL12 Γ M = .ok (.lst (th1 n q m ++ th2 n q m (t.ks.D q))) M := by
  have e2 := r_plus_whole (k := 37) (q := q) (n := m) (j := -1) ⟨by show -1000 ≤ m ∧ m ≤ 1000; omega, by show 0 < q ∧ q ≤ 1000; omega⟩ (by omega) (by
    have := gcd_step (j := 2) hg
    have e : m + -1 * q = n - 2 * q := by omega
    rw [e]
    exact this) M
  have e2' : callW (F 40) .fz 26 [fr (m, q), .tup [.int (-1), .int 1]] M = .ok (fr (m + -1 * q, q)) M := e2
  have e3 : sq M (t.D q) = some [fr (n, q), .tup (t.ks.D q)] := by rw [D_eq, htn]; rfl
  have e4 : sq M (fr (n, q)) = some [.int n, .int q] := rfl
  unfold eL12
  rw [e_bin, e_var, h13, varR_ok, bind_ok]
  simp only [e_lst, e_tup, e_call, a_cons, a_nil, e_var, h3, h4, h12, varR_ok, bind_ok, e_un, e_dat, u_list, e3, e4, map_some', u_neg, ofO_some, okLen_0, okLen_1, okLen_2, okLen_7, at_ok, e2']
  have hl : (th1 n q m).length + (th2 n q m (t.ks.D q)).length ≤ 1000 := show (10 : Nat) ≤ 1000 by decide
  rw [show ∀ M, bin2 .catL (.lst (th1 n q m)) (.lst (th2 n q m (t.ks.D q))) M = some (.lst (th1 n q m ++ th2 n q m (t.ks.D q)), M) from fun M => b_catL hl]
  rfl
theorem lap13 {Γ : Gam} {n q m : Int} {ks : List Dat} {M : Mem} (h3 : Γ[3]? = some (some (fr (n, q)))) (h13 : Γ[13]? = some (some (.lst (th1 n q m ++ th2 n q m ks)))) : evE (F 40) eL13 Γ M = .ok (.lst (th1 n q m ++ th2 n q m ks ++ th3 n)) M := by
  unfold eL13
  rw [e_bin, e_var, h13, varR_ok, bind_ok]
  simp only [e_lst, e_tup, a_cons, a_nil, e_bin, e_var, h3, varR_ok, bind_ok, e_un, e_dat, b_ix, it_fr0, map_some', u_neg, ofO_some, okLen_0, okLen_2, okLen_4]
  have hl : (th1 n q m ++ th2 n q m ks).length + (th3 n).length ≤ 1000 := show (14 : Nat) ≤ 1000 by decide
  show ofO (bin2 .catL (.lst (th1 n q m ++ th2 n q m ks)) (.lst (th3 n)) M) = _
  rw [b_catL hl]
  rfl
theorem thing_bad {n q m : Int} {ks : List Dat} (hks : Dat.nps ks = true) (hm : m = n - q) (hn : -10 ≤ n ∧ n ≤ 10) (hq : 0 < q ∧ q ≤ 8) (hg : Int.gcd n q = 1) : ∀ d ∈ th1 n q m ++ th2 n q m ks ++ th3 n, Fz (F 40) 13 [d] (.bl false) := by
  have hsq : Sm_ q := ⟨by omega, by omega⟩
  have hQ : Qm q := ⟨hq.1, by omega⟩
  have gm : Int.gcd m q = 1 := by
    have := gcd_step (j := 1) hg
    rw [Int.one_mul] at this
    rw [hm]
    exact this
  have gm2 : Int.gcd (m + -1 * q) q = 1 := by
    have := gcd_step (j := 2) hg
    have e : m + -1 * q = n - 2 * q := by omega
    rw [e]
    exact this
  intro d hd
  simp only [List.mem_append, List.mem_cons, List.not_mem_nil, or_false] at hd
  rcases hd with ((e | e | e) | e | e | e | e | e | e | e) | e | e | e | e <;> subst e
  · exact r_lev (k := 39) rfl (bad_one (k := 35) rfl hsq hq.1 hg)
  · exact r_lev (k := 39) rfl (bad_two (k := 33) hsq hq.1 hg (by show -500 ≤ n ∧ n ≤ 500; omega) (by show -500 ≤ m ∧ m ≤ 500; omega) hQ hQ hg gm (by show m < n; omega))
  · exact r_lev (k := 39) rfl (bad_half (k := 33) hm hq (by omega) hg)
  · have hp : (Dat.lst [fr (n, q), .tup ks]).np = true := by
      show (true && (Dat.nps ks && true)) = true
      rw [hks]
      rfl
    exact r_lev (k := 39) hp (bad_long (k := 37) hp (r_longF hp (fun M => rfl) []))
  · exact r_lev (k := 39) rfl (bad_frac (k := 35) rfl rfl (frac_long (k := 35) rfl (r_longF rfl (fun M => rfl) []) []))
  · exact r_lev (k := 39) rfl (bad_list (k := 35) hsq hq.1 hg)
  · exact r_lev (k := 39) rfl (bad_long (k := 37) rfl (r_long1 rfl []))
  · exact r_lev (k := 39) rfl (bad_long (k := 37) rfl (r_longF rfl (fun M => rfl) []))
  · exact r_lev (k := 39) rfl (bad_long (k := 37) rfl (r_longF rfl (fun M => rfl) []))
  · exact r_lev (k := 39) rfl (bad_two (k := 33) hsq hq.1 hg (by show -500 ≤ m ∧ m ≤ 500; omega) (by show -500 ≤ m + -1 * q ∧ m + -1 * q ≤ 500; omega) hQ hQ gm gm2 (by show m + -1 * q < m; omega))
  · exact r_lev (k := 39) rfl (bad_frac (k := 35) rfl rfl (frac_long (k := 35) rfl (r_longF rfl (fun M => rfl) []) []))
  · exact r_lev (k := 39) rfl (bad_frac (k := 35) rfl rfl (frac_gcd (k := 35) []))
  · exact r_lev (k := 39) rfl (bad_frac (k := 35) rfl rfl (frac_neg (k := 35) []))
  · exact r_lev (k := 39) rfl (bad_frac (k := 35) rfl rfl (frac_tr (k := 35) []))
theorem lap14 {s0 lap top own ends least steps rank got turn number low twins k it : Option Dat} {n q m : Int} {ks : List Dat} {M : Mem} (hks : Dat.nps ks = true) (hm : m = n - q) (hn : -10 ≤ n ∧ n ≤ 10) (hq : 0 < q ∧ q ≤ 8) (hg : Int.gcd n q = 1) : evE (F 40) eL14 (Gm s0 lap top own ends least steps rank got turn number low (some (.lst (th1 n q m ++ th2 n q m ks ++ th3 n))) twins k it) M = .ok (.bl false) M := by
  have hb := thing_bad hks hm hn hq hg
  have e1 : lcI (F 40) false (.one 16) [16] (.dat (.bl true)) (.call .fz 13 (.cons (.var 16) .nil)) (Gm s0 lap top own ends least steps rank got turn number low (some (.lst (th1 n q m ++ th2 n q m ks ++ th3 n))) twins k it) (th1 n q m ++ th2 n q m ks ++ th3 n, [(.lst (th1 n q m ++ th2 n q m ks ++ th3 n), th1 n q m ++ th2 n q m ks ++ th3 n)]) M = .ok (.lst ((th1 n q m ++ th2 n q m ks ++ th3 n).map fun _ => .bl false)) M :=
    lc_of (show (14 : Nat) ≤ 1000 by decide) rfl fun d hd => ⟨_, rfl, by
      simp only [wipeG, List.foldl, List.set_cons_succ, List.set_cons_zero, e_call, a_cons, a_nil, e_var, List.getElem?_cons_succ, List.getElem?_cons_zero, varR_ok, bind_ok, hb d hd M, at_ok]⟩
  have e2 : ((th1 n q m ++ th2 n q m ks ++ th3 n).map fun _ => Dat.bl false) = List.replicate 14 (.bl false) := rfl
  have e3 : (List.replicate (14 : Int).toNat [Dat.bl false]).flatten = List.replicate 14 (.bl false) := rfl
  have e5 := r_same (.lst (List.replicate 14 (.bl false))) 40 rfl (by decide) M
  rw [e2] at e1
  unfold eL14
  rw [e_un, e_call, a_cons, e_lc, i_any, e_var]
  simp only [List.getElem?_cons_succ, List.getElem?_cons_zero, varR_ok, bind_ok, anyR_lst]
  rw [e1, bind_ok]
  simp only [a_cons, a_nil, e_bin, e_lst, e_dat, bind_ok, okLen_1, b_repL (show repOk 1 14 = true by decide), e3, ofO_some, e5, at_ok, u_not, Bool.not_false, Bool.not_true]
def twn (n m : Int) : Lv := .mk n (.cons (.mk m .nil) (.cons (.mk m .nil) .nil))
theorem twn_D {n q m : Int} : (twn n m).D q = .tup [fr (n, q), .tup [lf (m, q), lf (m, q)]] := rfl
theorem twn_ok {n q m : Int} (hm : m = n - q) (hn : -10 ≤ n ∧ n ≤ 10) (hq : 0 < q ∧ q ≤ 8) (hg : Int.gcd n q = 1) : (twn n m).ok q := by
  have gm : Int.gcd m q = 1 := by
    have := gcd_step (j := 1) hg
    rw [Int.one_mul] at this
    rw [hm]
    exact this
  have lk : (Lv.mk m .nil).ok q := leaf_ok (by omega) gm
  have st : isortD [lf (m, q), lf (m, q)] = [lf (m, q), lf (m, q)] := by
    show (if Dat.lt (lf (m, q)) (lf (m, q)) then [lf (m, q), lf (m, q)] else [lf (m, q), lf (m, q)]) = _
    split <;> rfl
  exact ⟨by omega, hg, (by show (2 : Nat) ≠ 1; decide), (by show (2 : Nat) ≤ 3; decide), st, ⟨1, by decide, by show n = m + 1 * q; omega⟩, lk, ⟨1, by decide, by show n = m + 1 * q; omega⟩, lk, trivial⟩
theorem lap15 {Γ : Gam} {n q m : Int} {M : Mem} (h3 : Γ[3]? = some (some (fr (n, q)))) (h12 : Γ[12]? = some (some (fr (m, q)))) : evE (F 40) eL15 Γ M = .ok ((twn n m).D q) M := by
  unfold eL15
  simp only [e_tup, a_cons, a_nil, e_var, h3, h12, varR_ok, bind_ok, okLen_0, okLen_2, twn_D]
theorem lap16 {Γ : Gam} {n q m : Int} {M : Mem} (h14 : Γ[14]? = some (some ((twn n m).D q))) (hm : m = n - q) (hn : -10 ≤ n ∧ n ≤ 10) (hq : 0 < q ∧ q ≤ 8) (hg : Int.gcd n q = 1) : evE (F 40) eL16 Γ M = .ok (.bl false) M := by
  have hQ : Qm q := ⟨hq.1, by omega⟩
  have ok := twn_ok hm hn hq hg
  have hd : (twn n m).dp = 1 := rfl
  have e1 := r_islevels hQ (twn n m) 39 ok (by omega) (by omega) M
  have e2 := r_lrank hQ (twn n m) _ 39 ok (by omega) (gives_D ok) (by omega) M
  have e3 := r_lends hQ (twn n m) _ 39 ok (by omega) (gives_D ok) (by omega) M
  have hl : (twn n m).least = m := by
    show (if m < (if m < n then m else n) then m else (if m < n then m else n)) = m
    rw [if_pos (show m < n by omega)]
    split <;> rfl
  have hr : (twn n m).leng q - ((twn n m).n - (twn n m).least) / q = 1 := by
    rw [hl]
    show ((n - m) / q + 0 + ((n - m) / q + 0 + 0)) - (n - m) / q = 1
    rw [show n - m = q by omega, Int.ediv_self (by omega)]
    decide
  have hec : (twn n m).ec = 2 := rfl
  rw [hr] at e2
  rw [hec] at e3
  have e5 := r_same (.lst [.bl true, .int 1, .int 2]) 40 rfl (by decide) M
  unfold eL16
  simp only [e_un, e_call, a_cons, a_nil, e_var, h14, varR_ok, bind_ok, e_lst, at_ok, e1, e2, e3, e_dat, okLen_3, e5, ofO_some, u_not, Bool.not_true]
theorem r_ret {Γ : Gam} {M : Mem} : evE (F 40) eL_ret Γ M = .ok (.bl true) M := by
  have hQ : Qm 1 := ⟨by decide, by decide⟩
  have ok1 : (Lv.mk 0 .nil).ok 1 := leaf_ok (by decide) (by decide)
  have ok2 : (Lv.mk (-2) .nil).ok 1 := leaf_ok (by decide) (by decide)
  have ok3 : (Lv.mk 1 (.cons (.mk (-2) .nil) (.cons (.mk 0 .nil) .nil))).ok 1 := ⟨by decide, by decide, (by show (2 : Nat) ≠ 1; decide), (by show (2 : Nat) ≤ 3; decide), rfl, ⟨3, by decide, by decide⟩, ok2, ⟨1, by decide, by decide⟩, ok1, trivial⟩
  have e1 := r_lrank hQ _ _ 39 ok1 (by decide) (gives_D ok1) (by decide) M
  have e2 := r_lots_at hQ _ _ (fr (-1, 2)) (-1, 2) 39 ok1 (by decide) (gives_D ok1) (by decide) ⟨by decide, by decide⟩ (by decide) (.inl rfl) M
  have e3 := r_lleast hQ _ _ 39 ok3 (by decide) (gives_D ok3) (by decide) M
  have e1' : callW (F 40) .fz 16 [.tup [.tup [.int 0, .int 1], .tup []]] M = .ok (.int 0) M := e1
  have e2' : callW (F 40) .fz 17 [.tup [.tup [.int 0, .int 1], .tup []], .tup [.int (-1), .int 2]] M = .ok (.int 0) M := e2
  have e3' : callW (F 40) .fz 14 [.tup [.tup [.int 1, .int 1], .tup [.tup [.tup [.int (-2), .int 1], .tup []], .tup [.tup [.int 0, .int 1], .tup []]]]] M = .ok (.tup [.int (-2), .int 1]) M := e3
  have e5 := r_same (.lst [.int 0, .int 0, .tup [.int (-2), .int 1]]) 40 rfl (by decide) M
  unfold eL_ret
  simp only [e_call, a_cons, a_nil, e_tup, e_lst, e_un, e_dat, bind_ok, u_neg, ofO_some, okLen_0, okLen_2, okLen_3, e1', e2', e3', at_ok, e5]
end Ab
end

section
set_option linter.all false
set_option maxRecDepth 100000
set_option maxHeartbeats 1000000
namespace Ab
open PySem L2
theorem rng1R_4 {M : Mem} : ∃ ds, rng1R (.int 4) M = .ok (ds, []) M ∧ ds.length = 4 := ⟨_, rfl, rfl⟩
theorem rng1R_6 {M : Mem} : ∃ ds, rng1R (.int 6) M = .ok (ds, []) M ∧ ds.length = 6 := ⟨_, rfl, rfl⟩
theorem ss_step {wf : Nat} {cf : CallF} {i : Nat} {e : Ex} {ss : Sms} {Γ : Gam} {M M' : Mem} {d : Dat} (h : evE cf e Γ M = .ok d M') : evSs wf cf (.cons (.set i e) ss) Γ M = evSs wf cf ss (Γ.set i (some d)) M' := by
  rw [ss_cons, s_set, h]
  rfl
theorem ss_skip {wf : Nat} {cf : CallF} {e : Ex} {s ss : Sms} {Γ : Gam} {M M' : Mem} (h : evE cf e Γ M = .ok (.bl false) M') : evSs wf cf (.cons (.iff e s .nil) ss) Γ M = evSs wf cf ss Γ M' := by
  rw [ss_cons, s_iff, h]
  rfl
theorem ss_for {wf : Nat} {cf : CallF} {t : Tg} {it : Ir} {s ss : Sms} {Γ Γ2 : Gam} {M M2 : Mem} {ds : List Dat} (h : evI cf it Γ M = .ok (ds, []) M) (h2 : forR wf cf [] t s ds Γ M = .ok (.nx Γ2) M2) : evSs wf cf (.cons (.forr t it s) ss) Γ M = evSs wf cf ss Γ2 M2 := by
  rw [ss_cons, s_for, h, bind_ok, forI_ok rfl, h2]
  rfl
theorem lap_go {s0 lap top own ends least steps rank got turn number low things twins k it : Option Dat} {a b c : Int} (hc : 0 ≤ c ∧ c ≤ 600000) :
    ∃ (top' own' ends' least' steps' rank' got' turn' number' low' things' twins' : Option Dat) (a' b' c' : Int), evSs lawW (F 40) lapBody (Gm s0 lap top own ends least steps rank got turn number low things twins k it) (tn a b c) = .ok (.nx (Gm s0 lap top' own' ends' least' steps' rank' got' turn' number' low' things' twins' k it)) (tn a' b' c') ∧ 0 ≤ c' ∧ c' ≤ c + 1100 := by
  obtain ⟨n, q, a1, b1, c1, e0, hn, hq, hg, p1, p2⟩ := lap0 (Γ := Gm s0 lap top own ends least steps rank got turn number low things twins k it) rfl (a := a) (b := b) (c := c) (by omega)
  obtain ⟨t, a2, b2, c2, e1, ht, htn, hd, p3, p4⟩ := lap1 (Γ := Gm s0 lap (some (fr (n, q))) own ends least steps rank got turn number low things twins k it) rfl rfl (a := a1) (b := b1) (c := c1) (by omega) hn hq hg
  have hQ : Qm q := ⟨hq.1, by omega⟩
  obtain ⟨s, hs, hsl⟩ := step_of hq ht (by omega)
  have hb := least_bd ht
  have e2 := lap2 (Γ := Gm s0 lap (some (fr (n, q))) (some (t.D q)) ends least steps rank got turn number low things twins k it) (M := tn a2 b2 c2) hQ rfl ht hd
  have e3 := lap3 (Γ := Gm s0 lap (some (fr (n, q))) (some (t.D q)) (some (.tup (frs_ q (inoL t.ends)))) least steps rank got turn number low things twins k it) (M := tn a2 b2 c2) hQ rfl ht
  have e4 := lap4 (Γ := Gm s0 lap (some (fr (n, q))) (some (t.D q)) (some (.tup (frs_ q (inoL t.ends)))) (some (fr (t.least, q))) steps rank got turn number low things twins k it) (M := tn a2 b2 c2) (n := n) (q := q) (l := t.least) (s := (s : Int)) hq hn hb (by omega) rfl rfl
  have e5 := lap5 (s0 := s0) (lap := lap) (top := some (fr (n, q))) (ends := some (.tup (frs_ q (inoL t.ends)))) (rank := rank) (got := got) (turn := turn) (number := number) (low := low) (things := things) (twins := twins) (k := k) (it := it) (M := tn a2 b2 c2) hq ht hd hs hsl
  have e6 := lap6 (Γ := Gm s0 lap (some (fr (n, q))) (some (t.D q)) (some (.tup (frs_ q (inoL t.ends)))) (some (fr (t.least, q))) (some (.int (s : Int))) (some (.int (t.leng q - s))) got turn number low things twins k it) (M := tn a2 b2 c2) hq rfl ht hd hs
  have e7 := lap7 (Γ := Gm s0 lap (some (fr (n, q))) (some (t.D q)) (some (.tup (frs_ q (inoL t.ends)))) (some (fr (t.least, q))) (some (.int (s : Int))) (some (.int (t.leng q - s))) (some (.lst [.bl true, fr (t.least, q), .int t.ec, .int (t.leng q - s)])) turn number low things twins k it) (M := tn a2 b2 c2) hq.1 ht rfl rfl rfl rfl
  obtain ⟨ds, r4, r4l⟩ := rng1R_4 (M := tn a2 b2 c2)
  obtain ⟨turn', number', a3, b3, c3, e8, p5, p6⟩ := turns (s0 := s0) (lap := lap) (ends := some (.tup (frs_ q (inoL t.ends)))) (least := some (fr (t.least, q))) (steps := some (.int (s : Int))) (rank := some (.int (t.leng q - s))) (got := some (.lst [.bl true, fr (t.least, q), .int t.ec, .int (t.leng q - s)])) (low := low) (things := things) (twins := twins) (k := k) (it := it) hq hn ht hd ds turn number a2 b2 c2 p3 (by rw [r4l]; omega)
  rw [r4l] at p6
  obtain ⟨m, hm⟩ : ∃ m, m = n - q := ⟨_, rfl⟩
  have hks : Dat.nps (t.ks.D q) = true := plains_np (by
    have := D_plain ht
    rw [D_eq] at this
    have h2 := (len_ok this).2
    have h3 := plains_mem h2 (.tup (t.ks.D q)) (by simp)
    exact (len_ok h3).2)
  have e10 := lap10 (Γ := Gm s0 lap (some (fr (n, q))) (some (t.D q)) (some (.tup (frs_ q (inoL t.ends)))) (some (fr (t.least, q))) (some (.int (s : Int))) (some (.int (t.leng q - s))) (some (.lst [.bl true, fr (t.least, q), .int t.ec, .int (t.leng q - s)])) turn' number' low things twins k it) (M := tn a3 b3 c3) hm rfl hn hq hg
  have e11 := lap11 (Γ := Gm s0 lap (some (fr (n, q))) (some (t.D q)) (some (.tup (frs_ q (inoL t.ends)))) (some (fr (t.least, q))) (some (.int (s : Int))) (some (.int (t.leng q - s))) (some (.lst [.bl true, fr (t.least, q), .int t.ec, .int (t.leng q - s)])) turn' number' (some (fr (m, q))) things twins k it) (M := tn a3 b3 c3) rfl rfl hn hq
  have e12 := lap12 (Γ := Gm s0 lap (some (fr (n, q))) (some (t.D q)) (some (.tup (frs_ q (inoL t.ends)))) (some (fr (t.least, q))) (some (.int (s : Int))) (some (.int (t.leng q - s))) (some (.lst [.bl true, fr (t.least, q), .int t.ec, .int (t.leng q - s)])) turn' number' (some (fr (m, q))) (some (.lst (th1 n q m))) twins k it) (M := tn a3 b3 c3) (t := t) rfl rfl rfl rfl htn hn hq hm hg
  have e13 := lap13 (Γ := Gm s0 lap (some (fr (n, q))) (some (t.D q)) (some (.tup (frs_ q (inoL t.ends)))) (some (fr (t.least, q))) (some (.int (s : Int))) (some (.int (t.leng q - s))) (some (.lst [.bl true, fr (t.least, q), .int t.ec, .int (t.leng q - s)])) turn' number' (some (fr (m, q))) (some (.lst (th1 n q m ++ th2 n q m (t.ks.D q)))) twins k it) (M := tn a3 b3 c3) (n := n) (q := q) rfl rfl
  have e14 := lap14 (s0 := s0) (lap := lap) (top := some (fr (n, q))) (own := some (t.D q)) (ends := some (.tup (frs_ q (inoL t.ends)))) (least := some (fr (t.least, q))) (steps := some (.int (s : Int))) (rank := some (.int (t.leng q - s))) (got := some (.lst [.bl true, fr (t.least, q), .int t.ec, .int (t.leng q - s)])) (turn := turn') (number := number') (low := some (fr (m, q))) (twins := twins) (k := k) (it := it) (M := tn a3 b3 c3) hks hm hn hq hg
  have e15 := lap15 (Γ := Gm s0 lap (some (fr (n, q))) (some (t.D q)) (some (.tup (frs_ q (inoL t.ends)))) (some (fr (t.least, q))) (some (.int (s : Int))) (some (.int (t.leng q - s))) (some (.lst [.bl true, fr (t.least, q), .int t.ec, .int (t.leng q - s)])) turn' number' (some (fr (m, q))) (some (.lst (th1 n q m ++ th2 n q m (t.ks.D q) ++ th3 n))) twins k it) (M := tn a3 b3 c3) (n := n) (q := q) (m := m) rfl rfl
  have e16 := lap16 (Γ := Gm s0 lap (some (fr (n, q))) (some (t.D q)) (some (.tup (frs_ q (inoL t.ends)))) (some (fr (t.least, q))) (some (.int (s : Int))) (some (.int (t.leng q - s))) (some (.lst [.bl true, fr (t.least, q), .int t.ec, .int (t.leng q - s)])) turn' number' (some (fr (m, q))) (some (.lst (th1 n q m ++ th2 n q m (t.ks.D q) ++ th3 n))) (some ((twn n m).D q)) k it) (M := tn a3 b3 c3) (n := n) (q := q) (m := m) rfl hm hn hq hg
  refine ⟨some (fr (n, q)), some (t.D q), some (.tup (frs_ q (inoL t.ends))), some (fr (t.least, q)), some (.int (s : Int)), some (.int (t.leng q - s)), some (.lst [.bl true, fr (t.least, q), .int t.ec, .int (t.leng q - s)]), turn', number', some (fr (m, q)), some (.lst (th1 n q m ++ th2 n q m (t.ks.D q) ++ th3 n)), some ((twn n m).D q), a3, b3, c3, ?_, p5, by omega⟩
  unfold lapBody
  refine (ss_step e0).trans ?_
  refine (ss_step e1).trans ?_
  refine (ss_step e2).trans ?_
  refine (ss_step e3).trans ?_
  refine (ss_step e4).trans ?_
  refine (ss_step e5).trans ?_
  refine (ss_step e6).trans ?_
  refine (ss_skip e7).trans ?_
  refine (ss_for (it := .rng1 (.dat (.int 4))) (by rw [i_rng1, e_dat, bind_ok]; exact r4) e8).trans ?_
  refine (ss_step e10).trans ?_
  refine (ss_step e11).trans ?_
  refine (ss_step e12).trans ?_
  refine (ss_step e13).trans ?_
  refine (ss_skip e14).trans ?_
  refine (ss_step e15).trans ?_
  refine (ss_skip e16).trans ?_
  rw [ss_nil]
theorem laps_go {s0 k it : Option Dat} : ∀ (ds : List Dat) (lap top own ends least steps rank got turn number low things twins : Option Dat) (a b c : Int), 0 ≤ c → c + 1100 * ds.length ≤ 500000 →
    ∃ (lap' top' own' ends' least' steps' rank' got' turn' number' low' things' twins' : Option Dat) (a' b' c' : Int), forR lawW (F 40) [] (.name 2) lapBody ds (Gm s0 lap top own ends least steps rank got turn number low things twins k it) (tn a b c) = .ok (.nx (Gm s0 lap' top' own' ends' least' steps' rank' got' turn' number' low' things' twins' k it)) (tn a' b' c')
  | [], lap, top, own, ends, least, steps, rank, got, turn, number, low, things, twins, a, b, c, _, _ => ⟨lap, top, own, ends, least, steps, rank, got, turn, number, low, things, twins, a, b, c, rfl⟩
  | d :: ds, lap, top, own, ends, least, steps, rank, got, turn, number, low, things, twins, a, b, c, hc, hc2 => by
    rw [List.length_cons] at hc2
    obtain ⟨x3, x4, x5, x6, x7, x8, x9, x10, x11, x12, x13, x14, a1, b1, c1, e1, h1, h2⟩ := lap_go (s0 := s0) (lap := some d) (top := top) (own := own) (ends := ends) (least := least) (steps := steps) (rank := rank) (got := got) (turn := turn) (number := number) (low := low) (things := things) (twins := twins) (k := k) (it := it) (a := a) (b := b) (c := c) (by omega)
    obtain ⟨y2, y3, y4, y5, y6, y7, y8, y9, y10, y11, y12, y13, y14, a2, b2, c2, e2⟩ := laps_go (s0 := s0) (k := k) (it := it) ds (some d) x3 x4 x5 x6 x7 x8 x9 x10 x11 x12 x13 x14 a1 b1 c1 h1 (by omega)
    refine ⟨y2, y3, y4, y5, y6, y7, y8, y9, y10, y11, y12, y13, y14, a2, b2, c2, ?_⟩
    rw [for_go (Γ1 := Gm s0 (some d) top own ends least steps rank got turn number low things twins k it) (M1 := tn a b c) rfl e1 rfl, e2]
theorem law_runs (ns : List Int) (h : ns.length ≤ 63) : ∃ M, runF lawW T (lawK + 1) 33 [.rol (ns.map .int)] [] = .ok (.bl true) M := by
  obtain ⟨x, hx⟩ := r_cells (k := 39) ns h
  obtain ⟨a, b, hab⟩ := r_box (k := 39) x
  obtain ⟨ds, r6, r6l⟩ := rng1R_6 (M := tn a b 0)
  obtain ⟨y2, y3, y4, y5, y6, y7, y8, y9, y10, y11, y12, y13, y14, a2, b2, c2, e2⟩ := laps_go (s0 := some (.rol (ns.map .int))) (k := none) (it := none) ds none none none none none none none none none none none none none a b 0 (by decide) (by rw [r6l]; decide)
  refine ⟨tn a2 b2 c2, run_of rfl rfl ?_⟩
  show evSs lawW (F 40) ir_law [some (.rol (ns.map .int)), none, none, none, none, none, none, none, none, none, none, none, none, none, none, none, none] [] = _
  rw [law_is]
  have e1 : evE (F 40) eL_box [some (.rol (ns.map .int)), none, none, none, none, none, none, none, none, none, none, none, none, none, none, none, none] [] = .ok (.ptr 0) (tn a b 0) := by
    have h1 := hx []
    have h2 := hab []
    unfold eL_box
    simp only [e_call, a_cons, a_nil, e_var, List.getElem?_cons_zero, varR_ok, bind_ok, e_dat, h1, at_ok, h2]
    rfl
  refine (ss_step e1).trans ?_
  refine (ss_for (it := .rng1 (.dat (.int 6))) (by rw [i_rng1, e_dat, bind_ok]; exact r6) e2).trans ?_
  rw [ss_cons, s_ret, r_ret]
  rfl
end Ab
end

section
set_option Elab.async false
set_option linter.all false
set_option maxRecDepth 100000
set_option maxHeartbeats 4000000
open PySem PySem.W PyProof.Rows
set_option maxHeartbeats 0 in
theorem PySem.Challenge.cw_plumbtrees_k67_whole_levels_by_themselve_holds : PySem.Challenge.rw_plumbtrees_k67_whole_levels_by_themselve.Holds := by
  w_on; o_law; k_head; (case hw => w_witness2)
  k_fill
  refine Ab.walk (l := PySem.Challenge.rw_plumbtrees_k67_whole_levels_by_themselve) (k := Ab.lawK + 1) (F0 := Ab.runF Ab.lawW Ab.T (Ab.lawK + 1) 33) rfl rfl ⟨rfl, by decide, by decide⟩ Ab.law_runs (fun w h Y => PySem.W.kIn_of Y) ?F
  case F =>
    intro w mg fa h KX G hmg
    refine' Ab.all_mk (wf := Ab.lawW) (kk := Ab.lawK) KX G hmg ?a0 ?l0 ?c0 ?k0 ?a1 ?l1 ?c1 ?k1 ?a2 ?l2 ?c2 ?k2 ?a3 ?l3 ?c3 ?k3 ?a4 ?l4 ?c4 ?k4 ?a5 ?l5 ?c5 ?k5 ?a6 ?l6 ?c6 ?k6 ?a7 ?l7 ?c7 ?k7 ?a8 ?l8 ?c8 ?k8 ?a9 ?l9 ?c9 ?k9 ?a10 ?l10 ?c10 ?k10 ?a11 ?l11 ?c11 ?k11 ?a12 ?l12 ?c12 ?k12 ?a13 ?l13 ?c13 ?k13 ?a14 ?l14 ?c14 ?k14 ?a15 ?l15 ?c15 ?k15 ?a16 ?l16 ?c16 ?k16 ?a17 ?l17 ?c17 ?k17 ?a18 ?l18 ?c18 ?k18 ?a19 ?l19 ?c19 ?k19 ?a20 ?l20 ?c20 ?k20 ?a21 ?l21 ?c21 ?k21 ?a22 ?l22 ?c22 ?k22 ?a23 ?l23 ?c23 ?k23 ?a24 ?l24 ?c24 ?k24 ?a25 ?l25 ?c25 ?k25 ?a26 ?l26 ?c26 ?k26 ?a27 ?l27 ?c27 ?k27 ?a28 ?l28 ?c28 ?k28 ?a29 ?l29 ?c29 ?k29 ?a30 ?l30 ?c30 ?k30 ?a31 ?l31 ?c31 ?k31 ?a32 ?l32 ?c32 ?k32 ?a33 ?l33 ?c33 ?k33 ?z_abs ?z_all ?z_bool ?z_enumerate ?z_int ?z_isinstance ?z_len ?z_list ?z_range ?z_sorted ?z_str ?z_sum ?z_tuple ?z_zip
    (case a0 => k_is); (case l0 => k_is); (case c0 => k_is); (case k0 => k_is)
    (case a1 => k_is); (case l1 => k_is); (case c1 => k_is); (case k1 => k_is)
    (case a2 => k_is); (case l2 => k_is); (case c2 => k_is); (case k2 => k_is)
    (case a3 => k_is); (case l3 => k_is); (case c3 => k_is); (case k3 => k_is)
    (case a4 => k_is); (case l4 => k_is); (case c4 => k_is); (case k4 => k_is)
    (case a5 => k_is); (case l5 => k_is); (case c5 => k_is); (case k5 => k_is)
    (case a6 => k_is); (case l6 => k_is); (case c6 => k_is); (case k6 => k_is)
    (case a7 => k_is); (case l7 => k_is); (case c7 => k_is); (case k7 => k_is)
    (case a8 => k_is); (case l8 => k_is); (case c8 => k_is); (case k8 => k_is)
    (case a9 => k_is); (case l9 => k_is); (case c9 => k_is); (case k9 => k_is)
    (case a10 => k_is); (case l10 => k_is); (case c10 => k_is); (case k10 => k_is)
    (case a11 => k_is); (case l11 => k_is); (case c11 => k_is); (case k11 => k_is)
    (case a12 => k_is); (case l12 => k_is); (case c12 => k_is); (case k12 => k_is)
    (case a13 => k_is); (case l13 => k_is); (case c13 => k_is); (case k13 => k_is)
    (case a14 => k_is); (case l14 => k_is); (case c14 => k_is); (case k14 => k_is)
    (case a15 => k_is); (case l15 => k_is); (case c15 => k_is); (case k15 => k_is)
    (case a16 => k_is); (case l16 => k_is); (case c16 => k_is); (case k16 => k_is)
    (case a17 => k_is); (case l17 => k_is); (case c17 => k_is); (case k17 => k_is)
    (case a18 => k_is); (case l18 => k_is); (case c18 => k_is); (case k18 => k_is)
    (case a19 => k_is); (case l19 => k_is); (case c19 => k_is); (case k19 => k_is)
    (case a20 => k_is); (case l20 => k_is); (case c20 => k_is); (case k20 => k_is)
    (case a21 => k_is); (case l21 => k_is); (case c21 => k_is); (case k21 => k_is)
    (case a22 => k_is); (case l22 => k_is); (case c22 => k_is); (case k22 => k_is)
    (case a23 => k_is); (case l23 => k_is); (case c23 => k_is); (case k23 => k_is)
    (case a24 => k_is); (case l24 => k_is); (case c24 => k_is); (case k24 => k_is)
    (case a25 => k_is); (case l25 => k_is); (case c25 => k_is); (case k25 => k_is)
    (case a26 => k_is); (case l26 => k_is); (case c26 => k_is); (case k26 => k_is)
    (case a27 => k_is); (case l27 => k_is); (case c27 => k_is); (case k27 => k_is)
    (case a28 => k_is); (case l28 => k_is); (case c28 => k_is); (case k28 => k_is)
    (case a29 => k_is); (case l29 => k_is); (case c29 => k_is); (case k29 => k_is)
    (case a30 => k_is); (case l30 => k_is); (case c30 => k_is); (case k30 => k_is)
    (case a31 => k_is); (case l31 => k_is); (case c31 => k_is); (case k31 => k_is)
    (case a32 => k_is); (case l32 => k_is); (case c32 => k_is); (case k32 => k_is)
    (case a33 => k_is); (case l33 => k_is); (case c33 => k_is); (case k33 => k_is)
    (case z_abs => k_is)
    (case z_all => k_is)
    (case z_bool => k_is)
    (case z_enumerate => k_is)
    (case z_int => k_is)
    (case z_isinstance => k_is)
    (case z_len => k_is)
    (case z_list => k_is)
    (case z_range => k_is)
    (case z_sorted => k_is)
    (case z_str => k_is)
    (case z_sum => k_is)
    (case z_tuple => k_is)
    (case z_zip => k_is)
end
