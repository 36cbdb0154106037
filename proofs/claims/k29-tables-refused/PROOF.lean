import PyProof.Rows.All
import Wide.All
import OpenK.AllK
import Wide.FinOn
import HandS.ForMost
import HandS.ForExc
import HandS.Walk
import HandS.Flow
import HandS.IsInst
import HandS.Wide
import HandS.TupAny
import HandS.TupMul
import HandS.Zip
import HandS.Rev
import HandS.Conv
import HandS.Style
import HandS.ExcOwn
import HandS.WordsExc
import HandS.TryMany
import HandS.ExcIs
import HandS.SortRule
import HandS.SortInts
import KE.GoesMore
import KE.GoesEnum
import OpenK.KMore
import HandS.HeadHook1
import HandS.Deep
import HandS.DictComp
import HandS.SetFor
import HandS.Strs
import HandS.Ends
import HandS.TupLe
import PySem.Challenge.RW_plumbtrees_k29_whole_tables_refused
section
set_option Elab.async false
set_option linter.all false
set_option maxRecDepth 100000
set_option maxHeartbeats 4000000
/-! Ab: an abstract machine over the hand layer. Values are data (Dat); lists that are still changed are cells (Cel) of a small memory; all heap reasoning is hidden in Stt, Step. -/
namespace Ab
open PySem L2

inductive Dat where
  | non
  | bl (b : Bool)
  | int (i : Int)
  | str (x : Str)
  | tup (ds : List Dat)
  | lst (ds : List Dat)
  | rol (ds : List Dat)
  | ptr (k : Nat)
  | oth (v : V)
  | fn (x : Str)

inductive Cel where
  | lst (ds : List Dat)
  | dK (kvs : List (Key × Dat))
  | dT (kvs : List (List Key × Dat))
  | dead

abbrev Gam := List (Option Dat)
abbrev Mem := List Cel

/-! ### data in a heap -/
mutual
inductive Rep (K : PySem.W.Frag) (S : Hp) (A : List Addr) : Dat → V → Prop
  | non : Rep K S A .non .non
  | bl (b : Bool) : Rep K S A (.bl b) (.bl b)
  | int (i : Int) : Rep K S A (.int i) (.int i)
  | str (x : Str) : Rep K S A (.str x) (.str x)
  | tup {a : Addr} {xs : List V} {ds : List Dat} : SqT K S a xs → Reps K S A ds xs → Rep K S A (.tup ds) (.ref a)
  | lst {a : Addr} {xs : List V} {ds : List Dat} : S a = some (.lst xs) → Reps K S A ds xs → Rep K S A (.lst ds) (.ref a)
  | rol {a : Addr} {xs : List V} {ds : List Dat} : SqL K S a xs → Reps K S A ds xs → Rep K S A (.rol ds) (.ref a)
  | ptr {k : Nat} {a : Addr} : A[k]? = some a → Rep K S A (.ptr k) (.ref a)
  | oth (v : V) : Rep K S A (.oth v) v
  | fn {x : Str} {f : Addr} : PySem.W.nsIn K mainGlobals x = some (some (.ref f)) → Rep K S A (.fn x) (.ref f)
inductive Reps (K : PySem.W.Frag) (S : Hp) (A : List Addr) : List Dat → List V → Prop
  | nil : Reps K S A [] []
  | cons {d : Dat} {v : V} {ds : List Dat} {vs : List V} : Rep K S A d v → Reps K S A ds vs → Reps K S A (d :: ds) (v :: vs)
end

theorem Same.trd {H H' : Hp} {a : Addr} {u : HO} (e : Same H H') (h : Rd H a u) : Rd H' a u := by
  rcases h with h | ⟨o, h⟩
  · exact Or.inl (e a _ h)
  · exact Or.inr ⟨o, e a _ h⟩
theorem Same.sqt {K : PySem.W.Frag} {H H' : Hp} {a : Addr} {xs : List V} (e : Same H H') (h : SqT K H a xs) : SqT K H' a xs := by
  rcases h with h | h
  · exact Or.inl (Same.trd e h)
  · exact Or.inr h
theorem Same.sql {K : PySem.W.Frag} {H H' : Hp} {a : Addr} {xs : List V} (e : Same H H') (h : SqL K H a xs) : SqL K H' a xs := by
  rcases h with h | h
  · exact Or.inl (Same.trd e h)
  · exact Or.inr h

theorem pre_get {α : Type} {A A' : List α} {k : Nat} {a : α} (p : A <+: A') (h : A[k]? = some a) : A'[k]? = some a := by
  obtain ⟨T, rfl⟩ := p
  have hk : k < A.length := (List.getElem?_eq_some_iff.mp h).1
  rw [List.getElem?_append_left hk]
  exact h

mutual
theorem Rep.mono {K : PySem.W.Frag} {S S' : Hp} {A A' : List Addr} (e : Same S S') (p : A <+: A') : ∀ {d : Dat} {v : V}, Rep K S A d v → Rep K S' A' d v
  | _, _, .non => .non
  | _, _, .bl b => .bl b
  | _, _, .int i => .int i
  | _, _, .str x => .str x
  | _, _, .tup h r => .tup (Same.sqt e h) (Reps.mono e p r)
  | _, _, .lst h r => .lst (e _ _ h) (Reps.mono e p r)
  | _, _, .rol h r => .rol (Same.sql e h) (Reps.mono e p r)
  | _, _, .ptr h => .ptr (pre_get p h)
  | _, _, .oth v => .oth v
  | _, _, .fn h => .fn h
theorem Reps.mono {K : PySem.W.Frag} {S S' : Hp} {A A' : List Addr} (e : Same S S') (p : A <+: A') : ∀ {ds : List Dat} {vs : List V}, Reps K S A ds vs → Reps K S' A' ds vs
  | _, _, .nil => .nil
  | _, _, .cons r t => .cons (Rep.mono e p r) (Reps.mono e p t)
end

section
variable {K : PySem.W.Frag} {S : Hp} {A : List Addr}
theorem Reps.length : ∀ {ds : List Dat} {vs : List V}, Reps K S A ds vs → ds.length = vs.length
  | _, _, .nil => rfl
  | _, _, .cons _ t => congrArg (· + 1) (Reps.length t)
theorem Reps.get : ∀ {ds : List Dat} {vs : List V} {i : Nat} {v : V}, Reps K S A ds vs → vs[i]? = some v → ∃ d, ds[i]? = some d ∧ Rep K S A d v
  | _, _, i, v, .nil, e => by simp at e
  | _, _, 0, v, .cons r _, e => by
    have e' := Option.some.inj e
    subst e'
    exact ⟨_, rfl, r⟩
  | _, _, i + 1, v, .cons _ t, e => by
    obtain ⟨d, h1, h2⟩ := Reps.get (i := i) (v := v) t (by simpa using e)
    exact ⟨d, by simpa using h1, h2⟩
theorem Reps.getD : ∀ {ds : List Dat} {vs : List V} {i : Nat} {d : Dat}, Reps K S A ds vs → ds[i]? = some d → ∃ v, vs[i]? = some v ∧ Rep K S A d v
  | _, _, i, v, .nil, e => by simp at e
  | _, _, 0, v, .cons r _, e => by
    have e' := Option.some.inj e
    subst e'
    exact ⟨_, rfl, r⟩
  | _, _, i + 1, v, .cons _ t, e => by
    obtain ⟨d, h1, h2⟩ := Reps.getD (i := i) (d := v) t (by simpa using e)
    exact ⟨d, by simpa using h1, h2⟩
theorem Reps.append : ∀ {ds es : List Dat} {vs us : List V}, Reps K S A ds vs → Reps K S A es us → Reps K S A (ds ++ es) (vs ++ us)
  | _, _, _, _, .nil, s => s
  | _, _, _, _, .cons r t, s => .cons r (Reps.append t s)
theorem Reps.set {d : Dat} {v : V} (r : Rep K S A d v) : ∀ {ds : List Dat} {vs : List V} (i : Nat), Reps K S A ds vs → Reps K S A (ds.set i d) (vs.set i v)
  | _, _, _, .nil => .nil
  | _, _, 0, .cons _ t => .cons r t
  | _, _, i + 1, .cons q t => .cons q (Reps.set r i t)
theorem Reps.take : ∀ {ds : List Dat} {vs : List V} (n : Nat), Reps K S A ds vs → Reps K S A (ds.take n) (vs.take n)
  | _, _, 0, _ => .nil
  | _, _, _ + 1, .nil => .nil
  | _, _, n + 1, .cons r t => .cons r (Reps.take n t)
theorem Reps.drop : ∀ {ds : List Dat} {vs : List V} (n : Nat), Reps K S A ds vs → Reps K S A (ds.drop n) (vs.drop n)
  | _, _, 0, r => r
  | _, _, _ + 1, .nil => .nil
  | _, _, n + 1, .cons _ t => Reps.drop n t
theorem Reps.dropLast : ∀ {ds : List Dat} {vs : List V}, Reps K S A ds vs → Reps K S A ds.dropLast vs.dropLast
  | _, _, .nil => .nil
  | _, _, .cons _ .nil => .nil
  | _, _, .cons r (.cons q t) => .cons r (Reps.dropLast (.cons q t))
theorem Reps.eraseIdx : ∀ {ds : List Dat} {vs : List V} (i : Nat), Reps K S A ds vs → Reps K S A (ds.eraseIdx i) (vs.eraseIdx i)
  | _, _, _, .nil => .nil
  | _, _, 0, .cons _ t => t
  | _, _, i + 1, .cons r t => .cons r (Reps.eraseIdx i t)
theorem Reps.reverse {ds : List Dat} {vs : List V} (h : Reps K S A ds vs) : Reps K S A ds.reverse vs.reverse := by
  have key : ∀ {ds : List Dat} {vs : List V}, Reps K S A ds vs → Reps K S A ds.reverse vs.reverse := by
    intro ds
    induction ds with
    | nil => intro vs h; cases h; exact .nil
    | cons d ds ih =>
      intro vs h
      cases h with
      | cons r t =>
        rw [List.reverse_cons, List.reverse_cons]
        exact (ih t).append (.cons r .nil)
  exact key h
theorem Reps.rep {ds : List Dat} {vs : List V} (h : Reps K S A ds vs) : ∀ n : Nat, Reps K S A (List.replicate n ds).flatten (List.replicate n vs).flatten
  | 0 => .nil
  | n + 1 => by
    rw [List.replicate_succ, List.replicate_succ, List.flatten_cons, List.flatten_cons]
    exact h.append (Reps.rep h n)
theorem Reps.ints : ∀ {ns : List Int} {vs : List V}, Reps K S A (ns.map Dat.int) vs → vs = ns.map V.int
  | [], vs, h => by cases h; rfl
  | n :: ns, vs, h => by
    cases h with
    | cons r t =>
      cases r
      rw [Reps.ints t]
      rfl
theorem Reps.of_ints : ∀ (ns : List Int), Reps K S A (ns.map Dat.int) (ns.map V.int)
  | [] => .nil
  | n :: ns => .cons (.int n) (Reps.of_ints ns)
theorem Reps.strs : ∀ {ns : List Str} {vs : List V}, Reps K S A (ns.map Dat.str) vs → vs = ns.map V.str
  | [], vs, h => by cases h; rfl
  | n :: ns, vs, h => by
    cases h with
    | cons r t =>
      cases r
      rw [Reps.strs t]
      rfl
theorem Reps.of_strs : ∀ (ns : List Str), Reps K S A (ns.map Dat.str) (ns.map V.str)
  | [] => .nil
  | n :: ns => .cons (.str n) (Reps.of_strs ns)
theorem Reps.bls : ∀ {ns : List Bool} {vs : List V}, Reps K S A (ns.map Dat.bl) vs → vs = ns.map V.bl
  | [], vs, h => by cases h; rfl
  | n :: ns, vs, h => by
    cases h with
    | cons r t =>
      cases r
      rw [Reps.bls t]
      rfl
end

/-! ### no cells in a datum -/
mutual
def Dat.np : Dat → Bool
  | .tup ds => Dat.nps ds
  | .lst ds => Dat.nps ds
  | .rol ds => Dat.nps ds
  | .ptr _ => false
  | _ => true
def Dat.nps : List Dat → Bool
  | [] => true
  | d :: ds => d.np && Dat.nps ds
end
mutual
theorem Rep.free {K : PySem.W.Frag} {S : Hp} {A B : List Addr} : ∀ {d : Dat} {v : V}, d.np = true → Rep K S A d v → Rep K S B d v
  | _, _, _, .non => .non
  | _, _, _, .bl b => .bl b
  | _, _, _, .int i => .int i
  | _, _, _, .str x => .str x
  | _, _, n, .tup h r => .tup h (Reps.free (by simpa [Dat.np] using n) r)
  | _, _, n, .lst h r => .lst h (Reps.free (by simpa [Dat.np] using n) r)
  | _, _, n, .rol h r => .rol h (Reps.free (by simpa [Dat.np] using n) r)
  | _, _, n, .ptr h => by simp [Dat.np] at n
  | _, _, _, .oth v => .oth v
  | _, _, _, .fn h => .fn h
theorem Reps.free {K : PySem.W.Frag} {S : Hp} {A B : List Addr} : ∀ {ds : List Dat} {vs : List V}, Dat.nps ds = true → Reps K S A ds vs → Reps K S B ds vs
  | _, _, _, .nil => .nil
  | _, _, n, .cons r t => by
    simp only [Dat.nps, Bool.and_eq_true] at n
    exact .cons (Rep.free n.1 r) (Reps.free n.2 t)
end
theorem nps_append : ∀ (a b : List Dat), Dat.nps (a ++ b) = (Dat.nps a && Dat.nps b)
  | [], b => by simp [Dat.nps]
  | d :: a, b => by simp [Dat.nps, nps_append a b, Bool.and_assoc]
theorem nps_iff : ∀ (a : List Dat), Dat.nps a = true ↔ ∀ d ∈ a, d.np = true
  | [] => by simp [Dat.nps]
  | d :: a => by simp [Dat.nps, nps_iff a]
theorem nps_map {α : Type} {f : α → Dat} (h : ∀ x, (f x).np = true) (l : List α) : Dat.nps (l.map f) = true := by
  rw [nps_iff]
  intro d hd
  obtain ⟨x, _, rfl⟩ := List.mem_map.mp hd
  exact h x
theorem nps_sub {a b : List Dat} (h : ∀ d ∈ a, d ∈ b) (n : Dat.nps b = true) : Dat.nps a = true := by
  rw [nps_iff] at *
  exact fun d hd => n d (h d hd)
end Ab
end

section
set_option Elab.async false
set_option linter.all false
set_option maxRecDepth 100000
set_option maxHeartbeats 4000000
namespace Ab
open PySem L2

/-! ### steps between states: what is stable stays, what is no cell stays, what is new is new -/
structure Step (S : Hp) (A : List Addr) (H : Hp) (S' : Hp) (A' : List Addr) (H' : Hp) : Prop where
  s : Same S S'
  a : A <+: A'
  keep : ∀ x o, H x = some o → x ∉ A → H' x = some o
  newS : ∀ x o, S' x = some o → S x = some o ∨ H x = none ∨ x ∈ A
  newA : ∀ x, x ∈ A' → x ∈ A ∨ H x = none
  dom : ∀ x o, H x = some o → ∃ o', H' x = some o'
theorem Step.refl (S : Hp) (A : List Addr) (H : Hp) : Step S A H S A H :=
  ⟨Same.refl S, List.prefix_rfl, fun _ _ h _ => h, fun _ _ h => .inl h, fun _ h => .inl h, fun _ o h => ⟨o, h⟩⟩
theorem none_back {H H' : Hp} (dom : ∀ x o, H x = some o → ∃ o', H' x = some o') {x : Addr} (h : H' x = none) : H x = none := by
  cases e : H x with
  | none => rfl
  | some o =>
    obtain ⟨o', q⟩ := dom x o e
    rw [h] at q
    cases q
theorem Step.trans {S S1 S2 : Hp} {A A1 A2 : List Addr} {H H1 H2 : Hp} (a : Step S A H S1 A1 H1) (b : Step S1 A1 H1 S2 A2 H2) : Step S A H S2 A2 H2 where
  s := a.s.trans b.s
  a := a.a.trans b.a
  keep := fun x o h n => b.keep x o (a.keep x o h n) fun m => by
    rcases a.newA x m with q | q
    · exact n q
    · rw [h] at q; cases q
  newS := fun x o h => by
    rcases b.newS x o h with q | q | q
    · exact a.newS x o q
    · exact .inr (.inl (none_back a.dom q))
    · rcases a.newA x q with q | q
      · exact .inr (.inr q)
      · exact .inr (.inl q)
  newA := fun x h => by
    rcases b.newA x h with q | q
    · exact a.newA x q
    · exact .inr (none_back a.dom q)
  dom := fun x o h => by
    obtain ⟨o', q⟩ := a.dom x o h
    exact b.dom x o' q

/-! ### cells -/
def RepKV {κ : Type} (K : PySem.W.Frag) (S : Hp) (A : List Addr) (kvs : List (κ × Dat)) (ws : List (κ × V)) : Prop :=
  Paired (fun (p : κ × Dat) (q : κ × V) => p.1 = q.1 ∧ Rep K S A p.2 q.2) kvs ws
def CellAt (K : PySem.W.Frag) (S : Hp) (A : List Addr) (H : Hp) (x : Addr) : Cel → Prop
  | .lst ds => ∃ xs, H x = some (.lst xs) ∧ Reps K S A ds xs
  | .dK kvs => ∃ ws, H x = some (.dK ws) ∧ RepKV K S A kvs ws
  | .dT kvs => ∃ ws, H x = some (.dT ws) ∧ RepKV K S A kvs ws
  | .dead => ∃ o, H x = some o
theorem RepKV.mono {κ : Type} {K : PySem.W.Frag} {S S' : Hp} {A A' : List Addr} (e : Same S S') (p : A <+: A') {kvs : List (κ × Dat)} {ws : List (κ × V)} (h : RepKV K S A kvs ws) : RepKV K S' A' kvs ws :=
  Paired.mapP h fun _ _ q => ⟨q.1, q.2.mono e p⟩
theorem CellAt.lives {K : PySem.W.Frag} {S : Hp} {A : List Addr} {H : Hp} {x : Addr} {c : Cel} (h : CellAt K S A H x c) : ∃ o, H x = some o := by
  cases c with
  | lst ds => obtain ⟨xs, h, _⟩ := h; exact ⟨_, h⟩
  | dK kvs => obtain ⟨xs, h, _⟩ := h; exact ⟨_, h⟩
  | dT kvs => obtain ⟨xs, h, _⟩ := h; exact ⟨_, h⟩
  | dead => exact h
theorem CellAt.mono {K : PySem.W.Frag} {S S' : Hp} {A A' : List Addr} {H H' : Hp} {x : Addr} {c : Cel} (e : Same S S') (p : A <+: A') (hx : ∀ o, H x = some o → H' x = some o) (h : CellAt K S A H x c) : CellAt K S' A' H' x c := by
  cases c with
  | lst ds => obtain ⟨xs, h, r⟩ := h; exact ⟨xs, hx _ h, r.mono e p⟩
  | dK kvs => obtain ⟨xs, h, r⟩ := h; exact ⟨xs, hx _ h, r.mono e p⟩
  | dT kvs => obtain ⟨xs, h, r⟩ := h; exact ⟨xs, hx _ h, r.mono e p⟩
  | dead => obtain ⟨o, h⟩ := h; exact ⟨o, hx _ h⟩

/-! ### the base (the def's entry) and the state -/
structure Bas where
  S : Hp
  A : List Addr
  H : Hp
def Envs (K : PySem.W.Frag) (S : Hp) (A : List Addr) (σ : L2.St) (Γ : Gam) : Prop :=
  σ.length = Γ.length ∧ ∀ (i : Nat) (d : Dat), Γ[i]? = some (some d) → ∃ v, σ[i]? = some (some v) ∧ Rep K S A d v
structure Stt (K : PySem.W.Frag) (b : Bas) (σ : L2.St) (S : Hp) (A : List Addr) (H : Hp) (Γ : Gam) (M : Mem) : Prop where
  base : Step b.S b.A b.H S A H
  sub : Same S H
  nd : A.Nodup
  len : A.length = M.length
  own : ∀ (k : Nat) (x : Addr) (c : Cel), A[k]? = some x → M[k]? = some c → c ≠ .dead → S x = none
  cell : ∀ (k : Nat) (x : Addr) (c : Cel), A[k]? = some x → M[k]? = some c → CellAt K S A H x c
  env : Envs K S A σ Γ

section
variable {K : PySem.W.Frag} {b : Bas} {σ σ' : L2.St} {S S' : Hp} {A A' : List Addr} {H H' : Hp} {Γ Γ' : Gam} {M M' : Mem}
theorem Envs.mono (e : Same S S') (p : A <+: A') (h : Envs K S A σ Γ) : Envs K S' A' σ Γ :=
  ⟨h.1, fun i d q => by
    obtain ⟨v, h1, h2⟩ := h.2 i d q
    exact ⟨v, h1, h2.mono e p⟩⟩
theorem Envs.set {i : Nat} {d : Dat} {v : V} (h : Envs K S A σ Γ) (r : Rep K S A d v) : Envs K S A (σ.set i (some v)) (Γ.set i (some d)) := by
  refine ⟨by rw [List.length_set, List.length_set]; exact h.1, fun j e q => ?_⟩
  by_cases hj : i = j
  · subst hj
    have hi : i < Γ.length := by
      have := (List.getElem?_eq_some_iff.mp q).1
      rw [List.length_set] at this
      exact this
    rw [List.getElem?_set_self hi] at q
    have e' := Option.some.inj (Option.some.inj q)
    subst e'
    exact ⟨v, List.getElem?_set_self (by rw [h.1]; exact hi), r⟩
  · rw [List.getElem?_set_ne hj] at q
    obtain ⟨v', h1, h2⟩ := h.2 j e q
    exact ⟨v', by rw [List.getElem?_set_ne hj]; exact h1, h2⟩
/-- fewer slots known -/
def Fewer (Γ Γ' : Gam) : Prop := Γ'.length = Γ.length ∧ ∀ (i : Nat) (d : Dat), Γ'[i]? = some (some d) → Γ[i]? = some (some d)
theorem Envs.fewer (f : Fewer Γ Γ') (h : Envs K S A σ Γ) : Envs K S A σ Γ' := ⟨h.1.trans f.1.symm, fun i d q => h.2 i d (f.2 i d q)⟩
theorem Stt.fewer (f : Fewer Γ Γ') (h : Stt K b σ S A H Γ M) : Stt K b σ S A H Γ' M := ⟨h.base, h.sub, h.nd, h.len, h.own, h.cell, h.env.fewer f⟩
theorem Stt.withEnv (h : Stt K b σ S A H Γ M) (e : Envs K S A σ' Γ') : Stt K b σ' S A H Γ' M := ⟨h.base, h.sub, h.nd, h.len, h.own, h.cell, e⟩
theorem Stt.set {i : Nat} {d : Dat} {v : V} (h : Stt K b σ S A H Γ M) (r : Rep K S A d v) : Stt K b (σ.set i (some v)) S A H (Γ.set i (some d)) M := h.withEnv (h.env.set r)
theorem Stt.liveA (h : Stt K b σ S A H Γ M) {x : Addr} (hx : x ∈ A) : ∃ o, H x = some o := by
  obtain ⟨k, hk, e⟩ := List.mem_iff_getElem.mp hx
  have hM : k < M.length := by rw [← h.len]; exact hk
  exact (h.cell k x M[k] (by rw [List.getElem?_eq_getElem hk, e]) (List.getElem?_eq_getElem hM)).lives
theorem Stt.notA (h : Stt K b σ S A H Γ M) {p : Addr} (hp : H p = none) : p ∉ A := fun m => by
  obtain ⟨o, e⟩ := h.liveA m
  rw [hp] at e
  cases e
theorem Stt.freshS (h : Stt K b σ S A H Γ M) {p : Addr} (hp : H p = none) : S p = none := by
  cases e : S p with
  | none => rfl
  | some o =>
    have := h.sub p o e
    rw [hp] at this
    cases this
/-- a new object, stable from now on -/
theorem Stt.lay {p : Addr} {o : HO} (h : Stt K b σ S A H Γ M) (hp : H p = none) : Step S A H (upd S p o) A (upd H p o) ∧ Stt K b σ (upd S p o) A (upd H p o) Γ M := by
  have nA := h.notA hp
  have fS := h.freshS hp
  have sS : Same S (upd S p o) := fun x u e => by
    rw [upd_ne (ne_of_none e fS)]
    exact e
  have sH : ∀ x u, H x = some u → (upd H p o) x = some u := fun x u e => by
    rw [upd_ne (ne_of_none e hp)]
    exact e
  have st : Step S A H (upd S p o) A (upd H p o) := ⟨sS, List.prefix_rfl, fun x u e _ => sH x u e, fun x u e => by
    by_cases hx : x = p
    · subst hx
      exact .inr (.inl hp)
    · rw [upd_ne hx] at e
      exact .inl e, fun x hx => .inl hx, fun x u e => ⟨u, sH x u e⟩⟩
  refine ⟨st, h.base.trans st, fun x u e => ?_, h.nd, h.len, fun k x c h1 h2 h3 => ?_, fun k x c h1 h2 => (h.cell k x c h1 h2).mono sS List.prefix_rfl (sH x), h.env.mono sS List.prefix_rfl⟩
  · by_cases hx : x = p
    · subst hx
      rw [upd_same] at e
      rw [upd_same]
      exact e
    · rw [upd_ne hx] at e
      rw [upd_ne hx]
      exact h.sub x u e
  · have hx : x ≠ p := fun z => nA (z ▸ List.mem_of_getElem? h1)
    rw [upd_ne hx]
    exact h.own k x c h1 h2 h3
/-- a new object that stays ours: one more cell -/
theorem Stt.layCell {p : Addr} {o : HO} {c : Cel} (h : Stt K b σ S A H Γ M) (hp : H p = none) (hc : CellAt K S (A ++ [p]) (upd H p o) p c) :
    Step S A H S (A ++ [p]) (upd H p o) ∧ Stt K b σ S (A ++ [p]) (upd H p o) Γ (M ++ [c]) := by
  have nA := h.notA hp
  have fS := h.freshS hp
  have sH : ∀ x u, H x = some u → (upd H p o) x = some u := fun x u e => by
    rw [upd_ne (ne_of_none e hp)]
    exact e
  have pr : A <+: A ++ [p] := List.prefix_append _ _
  have st : Step S A H S (A ++ [p]) (upd H p o) := ⟨Same.refl S, pr, fun x u e _ => sH x u e, fun x u e => .inl e, fun x hx => by
    rcases List.mem_append.mp hx with q | q
    · exact .inl q
    · have e : x = p := by simpa using q
      subst e
      exact .inr hp, fun x u e => ⟨u, sH x u e⟩⟩
  refine ⟨st, h.base.trans st, fun x u e => sH x u (h.sub x u e), ?_, ?_, fun k x c' h1 h2 h3 => ?_, fun k x c' h1 h2 => ?_, h.env.mono (Same.refl S) pr⟩
  · rw [List.nodup_append]
    refine ⟨h.nd, by simp, fun a ha b hb => ?_⟩
    have e : b = p := by simpa using hb
    subst e
    exact fun z => nA (z ▸ ha)
  · rw [List.length_append, List.length_append, h.len]
    rfl
  · by_cases hk : k < A.length
    · rw [List.getElem?_append_left hk] at h1
      rw [List.getElem?_append_left (by rw [← h.len]; exact hk)] at h2
      exact h.own k x c' h1 h2 h3
    · rw [List.getElem?_append_right (by omega)] at h1
      have hk0 : k - A.length = 0 := by
        have := (List.getElem?_eq_some_iff.mp h1).1
        simp at this
        omega
      rw [hk0] at h1
      have e : p = x := Option.some.inj h1
      subst e
      exact fS
  · by_cases hk : k < A.length
    · rw [List.getElem?_append_left hk] at h1
      rw [List.getElem?_append_left (by rw [← h.len]; exact hk)] at h2
      exact (h.cell k x c' h1 h2).mono (Same.refl S) pr (sH x)
    · rw [List.getElem?_append_right (by omega)] at h1
      have hk0 : k - A.length = 0 := by
        have := (List.getElem?_eq_some_iff.mp h1).1
        simp at this
        omega
      rw [hk0] at h1
      have e : p = x := Option.some.inj h1
      subst e
      rw [List.getElem?_append_right (by rw [← h.len]; omega), ← h.len, hk0] at h2
      have e2 : c = c' := Option.some.inj h2
      subst e2
      exact hc
/-- a cell is written -/
theorem Stt.write {k : Nat} {x : Addr} {o : HO} {c c0 : Cel} (h : Stt K b σ S A H Γ M) (hA : A[k]? = some x) (hM : M[k]? = some c0) (hl : c0 ≠ .dead) (hc : CellAt K S A (upd H x o) x c) :
    Step S A H S A (upd H x o) ∧ Stt K b σ S A (upd H x o) Γ (M.set k c) := by
  have hS : S x = none := h.own k x c0 hA hM hl
  obtain ⟨u0, hH⟩ := (h.cell k x c0 hA hM).lives
  have st : Step S A H S A (upd H x o) := ⟨Same.refl S, List.prefix_rfl, fun y u e n => by
    have ne : y ≠ x := fun z => n (by rw [z]; exact List.mem_of_getElem? hA)
    rw [upd_ne ne]
    exact e, fun y u e => .inl e, fun y hy => .inl hy, fun y u e => by
    by_cases hy : y = x
    · subst hy
      exact ⟨_, upd_same⟩
    · exact ⟨u, by rw [upd_ne hy]; exact e⟩⟩
  have hk : k < M.length := (List.getElem?_eq_some_iff.mp hM).1
  refine ⟨st, h.base.trans st, fun y u e => ?_, h.nd, by rw [List.length_set]; exact h.len, fun j y c' h1 h2 h3 => ?_, fun j y c' h1 h2 => ?_, h.env⟩
  · rw [upd_ne (ne_of_none e hS)]
    exact h.sub y u e
  · by_cases hj : k = j
    · subst hj
      have e : x = y := Option.some.inj (hA.symm.trans h1)
      subst e
      exact hS
    · rw [List.getElem?_set_ne hj] at h2
      exact h.own j y c' h1 h2 h3
  · by_cases hj : k = j
    · subst hj
      have e : x = y := Option.some.inj (hA.symm.trans h1)
      subst e
      rw [List.getElem?_set_self hk] at h2
      have e2 : c = c' := Option.some.inj h2
      subst e2
      exact hc
    · rw [List.getElem?_set_ne hj] at h2
      have hne : y ≠ x := fun z => by
        subst z
        exact hj (nd_ix h.nd hA h1)
      exact (h.cell j y c' h1 h2).mono (Same.refl S) List.prefix_rfl fun u e => by
        rw [upd_ne hne]
        exact e
/-- the replacing of a cell's pointer by what it holds -/
def Dat.frz (k : Nat) (ds : List Dat) : Dat → Dat
  | .ptr j => if j = k then .lst ds else .ptr j
  | d => d
def frzG (k : Nat) (ds : List Dat) (Γ : Gam) : Gam := Γ.map (Option.map (Dat.frz k ds))
/-- a list cell is given up: it is a stable list from now on -/
theorem Stt.freeze {k : Nat} {ds : List Dat} (h : Stt K b σ S A H Γ M) (hM : M[k]? = some (.lst ds)) :
    ∃ x xs, A[k]? = some x ∧ H x = some (.lst xs) ∧ Reps K S A ds xs ∧ Step S A H (upd S x (.lst xs)) A H ∧ Stt K b σ (upd S x (.lst xs)) A H (frzG k ds Γ) (M.set k .dead) ∧ Rep K (upd S x (.lst xs)) A (.lst ds) (.ref x) := by
  have hk : k < M.length := (List.getElem?_eq_some_iff.mp hM).1
  have hkA : k < A.length := by rw [h.len]; exact hk
  have hA : A[k]? = some A[k] := List.getElem?_eq_getElem hkA
  obtain ⟨xs, hx, hr⟩ := h.cell k _ _ hA hM
  have hS : S A[k] = none := h.own k _ _ hA hM (fun z => nomatch z)
  have sS : Same S (upd S A[k] (.lst xs)) := fun y u e => by
    rw [upd_ne (ne_of_none e hS)]
    exact e
  have st : Step S A H (upd S A[k] (.lst xs)) A H := ⟨sS, List.prefix_rfl, fun y u e _ => e, fun y u e => by
    by_cases hy : y = A[k]
    · subst hy
      exact .inr (.inr (List.mem_of_getElem? hA))
    · rw [upd_ne hy] at e
      exact .inl e, fun y hy => .inl hy, fun y u e => ⟨u, e⟩⟩
  have rr : Rep K (upd S A[k] (.lst xs)) A (.lst ds) (.ref A[k]) := .lst upd_same (hr.mono sS List.prefix_rfl)
  refine ⟨A[k], xs, hA, hx, hr, st, ⟨h.base.trans st, fun y u e => ?_, h.nd, by rw [List.length_set]; exact h.len, fun j y c h1 h2 h3 => ?_, fun j y c h1 h2 => ?_, ?_⟩, rr⟩
  · by_cases hy : y = A[k]
    · subst hy
      rw [upd_same] at e
      exact hx.trans e
    · rw [upd_ne hy] at e
      exact h.sub y u e
  · by_cases hj : k = j
    · subst hj
      rw [List.getElem?_set_self hk] at h2
      exact absurd (Option.some.inj h2).symm h3
    · rw [List.getElem?_set_ne hj] at h2
      have hne : y ≠ A[k] := fun z => by
        subst z
        exact hj (nd_ix h.nd hA h1)
      rw [upd_ne hne]
      exact h.own j y c h1 h2 h3
  · by_cases hj : k = j
    · subst hj
      rw [List.getElem?_set_self hk] at h2
      have e2 := Option.some.inj h2
      subst e2
      have e : A[k] = y := Option.some.inj (hA.symm.trans h1)
      subst e
      exact ⟨_, hx⟩
    · rw [List.getElem?_set_ne hj] at h2
      exact (h.cell j y c h1 h2).mono sS List.prefix_rfl fun _ e => e
  · refine ⟨by unfold frzG; rw [List.length_map]; exact h.env.1, fun i d q => ?_⟩
    unfold frzG at q
    rw [List.getElem?_map] at q
    cases hg : Γ[i]? with
    | none => rw [hg] at q; cases q
    | some od =>
      rw [hg] at q
      cases od with
      | none => cases q
      | some d0 =>
        have q' : Dat.frz k ds d0 = d := Option.some.inj (Option.some.inj q)
        obtain ⟨v, h1, h2⟩ := h.env.2 i d0 hg
        refine ⟨v, h1, ?_⟩
        subst q'
        have base : Rep K (upd S A[k] (.lst xs)) A d0 v := h2.mono sS List.prefix_rfl
        cases d0 with
        | ptr j =>
          show Rep K (upd S A[k] (HO.lst xs)) A (if j = k then Dat.lst ds else Dat.ptr j) v
          by_cases hj : j = k
          · rw [if_pos hj]
            subst hj
            cases h2 with
            | ptr z =>
              have e := Option.some.inj (hA.symm.trans z)
              subst e
              exact rr
          · rw [if_neg hj]
            exact base
        | non => exact base
        | bl b => exact base
        | int i => exact base
        | str i => exact base
        | tup i => exact base
        | lst i => exact base
        | rol i => exact base
        | oth i => exact base
        | fn i => exact base
end
end Ab
end

section
set_option Elab.async false
set_option linter.all false
set_option maxRecDepth 100000
set_option maxHeartbeats 4000000
namespace Ab
open PySem L2

/-! ### what is wanted behind a reading, by data -/
def Post (K : PySem.W.Frag) (b : Bas) (σ : L2.St) (S : Hp) (A : List Addr) (H : Hp) (Γ : Gam) (R : Dat → Mem → Prop) (Q : VK) : Prop :=
  ∀ v d M' S' A' H', Step S A H S' A' H' → Stt K b σ S' A' H' Γ M' → Rep K S' A' d v → R d M' → Q v H'
def EV (K : PySem.W.Frag) (b : Bas) (te : TE) (Γ : Gam) (M : Mem) (R : Dat → Mem → Prop) : Prop :=
  ∀ σ S A H Q, Stt K b σ S A H Γ M → Post K b σ S A H Γ R Q → te σ H Q
def PostT (K : PySem.W.Frag) (b : Bas) (σ : L2.St) (S : Hp) (A : List Addr) (H : Hp) (Γ : Gam) (R : Bool → Mem → Prop) (Q : Bool → Hp → Prop) : Prop :=
  ∀ c M' S' A' H', Step S A H S' A' H' → Stt K b σ S' A' H' Γ M' → R c M' → Q c H'
def ET (K : PySem.W.Frag) (b : Bas) (tt : TT) (Γ : Gam) (M : Mem) (R : Bool → Mem → Prop) : Prop :=
  ∀ σ S A H Q, Stt K b σ S A H Γ M → PostT K b σ S A H Γ R Q → tt σ H Q
def PostA (K : PySem.W.Frag) (b : Bas) (σ : L2.St) (S : Hp) (A : List Addr) (H : Hp) (Γ : Gam) (R : List Dat → Mem → Prop) (Q : List V → Hp → Prop) : Prop :=
  ∀ vs ds M' S' A' H', Step S A H S' A' H' → Stt K b σ S' A' H' Γ M' → Reps K S' A' ds vs → R ds M' → Q vs H'
def EA (K : PySem.W.Frag) (b : Bas) (ta : TA) (Γ : Gam) (M : Mem) (R : List Dat → Mem → Prop) : Prop :=
  ∀ σ S A H Q, Stt K b σ S A H Γ M → PostA K b σ S A H Γ R Q → ta σ H Q
def PostO (K : PySem.W.Frag) (b : Bas) (σ : L2.St) (S : Hp) (A : List Addr) (H : Hp) (Γ : Gam) (R : Option Int → Mem → Prop) (Q : Option Int → Hp → Prop) : Prop :=
  ∀ o M' S' A' H', Step S A H S' A' H' → Stt K b σ S' A' H' Γ M' → R o M' → Q o H'
def EO (K : PySem.W.Frag) (b : Bas) (to : TO) (Γ : Gam) (M : Mem) (R : Option Int → Mem → Prop) : Prop :=
  ∀ σ S A H Q, Stt K b σ S A H Γ M → PostO K b σ S A H Γ R Q → to σ H Q

/-! ### the weakest readings -/
def tW (X : Cx) (e : Expr) : TE := fun σ H Q => ∀ pins s, Inv X pins σ H s → wpAny (model X.prog X.w) X.A (eval e X.env) (EP X pins σ Q) X.xe s
theorem pe_tW {X : Cx} {e : Expr} : PE X e (tW X e) := ⟨fun pins s _ _ _ I h => h pins s I⟩
def tWT (X : Cx) (e : Expr) : TT := fun σ H Q => ∀ pins s, Inv X pins σ H s → wpAny (model X.prog X.w) X.A (isTrue e X.env (eval e X.env)) (TP X pins σ Q) X.xe s
theorem pt_tW {X : Cx} {e : Expr} : PT X e (tWT X e) := ⟨fun pins s _ _ _ I h => h pins s I⟩
def tWW (X : Cx) (e : Expr) : TT := fun σ H Q => ∀ whole pins s, Inv X pins σ H s → wpAny (model X.prog X.w) X.A (isTrue e X.env whole) (TP X pins σ Q) X.xe s
theorem pw_tW {X : Cx} {e : Expr} : PW X e (tWW X e) := ⟨fun wh pins s _ _ _ I h => h wh pins s I⟩
def tWA (X : Cx) (es : List Expr) : TA := fun σ H Q => ∀ pos pins s, Inv X pins σ H s → wpAny (model X.prog X.w) X.A (spliced (backTo pos (starEach es X.env))) (AP X pins σ Q) X.xe s
theorem pa_tW {X : Cx} {es : List Expr} : PA X es (tWA X es) := ⟨fun pos pins s _ _ _ I h => h pos pins s I⟩
def tWS (X : Cx) (st : Stmt) : TS := fun D σ H => ∀ pins s, Inv X pins σ H s → wpAny (model X.prog X.w) X.A (exec st X.env) (SP X pins D) X.xe s
theorem ps_tW {X : Cx} {st : Stmt} : PS X st (tWS X st) := ⟨fun pins s _ _ _ I h => h pins s I⟩
def tWSs (X : Cx) (st : List Stmt) : TS := fun D σ H => ∀ pins s, Inv X pins σ H s → wpAny (model X.prog X.w) X.A (execs st X.env) (SP X pins D) X.xe s
theorem pss_tW {X : Cx} {st : List Stmt} : PSs X st (tWSs X st) := ⟨fun pins s _ _ _ I h => h pins s I⟩

/-! ### the judgements by data -/
def AE (X : Cx) (b : Bas) (e : Expr) (Γ : Gam) (M : Mem) (R : Dat → Mem → Prop) : Prop := EV X.K b (tW X e) Γ M R
def AT (X : Cx) (b : Bas) (e : Expr) (Γ : Gam) (M : Mem) (R : Bool → Mem → Prop) : Prop := ET X.K b (tWT X e) Γ M R
def AW (X : Cx) (b : Bas) (e : Expr) (Γ : Gam) (M : Mem) (R : Bool → Mem → Prop) : Prop := ET X.K b (tWW X e) Γ M R
def AA (X : Cx) (b : Bas) (es : List Expr) (Γ : Gam) (M : Mem) (R : List Dat → Mem → Prop) : Prop := EA X.K b (tWA X es) Γ M R
theorem AE.of {X : Cx} {b : Bas} {e : Expr} {t : TE} {Γ : Gam} {M : Mem} {R : Dat → Mem → Prop} (hp : PE X e t) (h : EV X.K b t Γ M R) : AE X b e Γ M R :=
  fun σ S A H Q st p pins s I => hp.run pins s σ H Q I (h σ S A H Q st p)
theorem AT.of {X : Cx} {b : Bas} {e : Expr} {t : TT} {Γ : Gam} {M : Mem} {R : Bool → Mem → Prop} (hp : PT X e t) (h : ET X.K b t Γ M R) : AT X b e Γ M R :=
  fun σ S A H Q st p pins s I => hp.run pins s σ H Q I (h σ S A H Q st p)
theorem AW.of {X : Cx} {b : Bas} {e : Expr} {t : TT} {Γ : Gam} {M : Mem} {R : Bool → Mem → Prop} (hp : PW X e t) (h : ET X.K b t Γ M R) : AW X b e Γ M R :=
  fun σ S A H Q st p wh pins s I => hp.run wh pins s σ H Q I (h σ S A H Q st p)
theorem AA.of {X : Cx} {b : Bas} {es : List Expr} {t : TA} {Γ : Gam} {M : Mem} {R : List Dat → Mem → Prop} (hp : PA X es t) (h : EA X.K b t Γ M R) : AA X b es Γ M R :=
  fun σ S A H Q st p pos pins s I => hp.run pos pins s σ H Q I (h σ S A H Q st p)

section
variable {K : PySem.W.Frag} {b : Bas} {σ : L2.St} {S : Hp} {A : List Addr} {H : Hp} {Γ : Gam} {M : Mem} {R R' : Dat → Mem → Prop} {Q : VK}
theorem Post.here {v : V} {d : Dat} (p : Post K b σ S A H Γ R Q) (st : Stt K b σ S A H Γ M) (r : Rep K S A d v) (h : R d M) : Q v H := p v d M S A H (Step.refl _ _ _) st r h
theorem Post.after {S' : Hp} {A' : List Addr} {H' : Hp} (p : Post K b σ S A H Γ R Q) (t : Step S A H S' A' H') : Post K b σ S' A' H' Γ R Q :=
  fun v d M' S2 A2 H2 s2 st r h => p v d M' S2 A2 H2 (t.trans s2) st r h
theorem Post.imp (p : Post K b σ S A H Γ R Q) (h : ∀ d M, R' d M → R d M) : Post K b σ S A H Γ R' Q := fun v d M' S2 A2 H2 s2 st r q => p v d M' S2 A2 H2 s2 st r (h d M' q)
theorem EV.imp {te : TE} (e : EV K b te Γ M R') (h : ∀ d M, R' d M → R d M) : EV K b te Γ M R := fun σ S A H Q st p => e σ S A H Q st (p.imp h)
end
theorem AE.imp {X : Cx} {b : Bas} {e : Expr} {Γ : Gam} {M : Mem} {R R' : Dat → Mem → Prop} (a : AE X b e Γ M R') (h : ∀ d M, R' d M → R d M) : AE X b e Γ M R := EV.imp a h
theorem AT.imp {X : Cx} {b : Bas} {e : Expr} {Γ : Gam} {M : Mem} {R R' : Bool → Mem → Prop} (a : AT X b e Γ M R') (h : ∀ d M, R' d M → R d M) : AT X b e Γ M R := fun σ S A H Q st p => a σ S A H Q st fun c M' S' A' H' s1 t1 q => p c M' S' A' H' s1 t1 (h _ _ q)
theorem AA.imp {X : Cx} {b : Bas} {e : List Expr} {Γ : Gam} {M : Mem} {R R' : List Dat → Mem → Prop} (a : AA X b e Γ M R') (h : ∀ d M, R' d M → R d M) : AA X b e Γ M R := fun σ S A H Q st p => a σ S A H Q st fun c ds M' S' A' H' s1 t1 r q => p c ds M' S' A' H' s1 t1 r (h _ _ q)

/-! ### names, constants -/
section
variable {X : Cx} {b : Bas} {Γ : Gam} {M : Mem} {R : Dat → Mem → Prop} {e a c : Expr} {es : List Expr} {pos : Pos}
theorem A_var (i : Nat) {d : Dat} {x : Str} (hN : X.N[i]? = some x) (hv : Vis X.env.scope x) (hΓ : Γ[i]? = some (some d)) (h : R d M)
    (hd : (x == ("__debug__" : Str)) = false := by decide) (hcd : (x == ("__classdict__" : Str)) = false := by decide) : AE X b (.Name x pos) Γ M R :=
  AE.of (pe_var hN hv hd hcd) fun σ S A H Q st p => by
    obtain ⟨v, h1, h2⟩ := st.env.2 i d hΓ
    exact ⟨v, h1, p.here st h2 h⟩
theorem A_int {i : Int} {j : Nat} (h : R (.int i) M) : AE X b (.Constant (.int i) j pos) Γ M R := AE.of pe_int fun σ S A H Q st p => p.here st (.int i) h
theorem A_bl {i : Bool} {j : Nat} (h : R (.bl i) M) : AE X b (.Constant (.bool i) j pos) Γ M R := AE.of pe_bl fun σ S A H Q st p => p.here st (.bl i) h
theorem A_non {j : Nat} (h : R .non M) : AE X b (.Constant .none j pos) Γ M R := AE.of pe_non fun σ S A H Q st p => p.here st .non h
theorem A_str {i : Str} {j : Nat} (h : R (.str i) M) : AE X b (.Constant (.str i) j pos) Γ M R := AE.of pe_str fun σ S A H Q st p => p.here st (.str i) h
/-- a global of the module, whatever it is -/
theorem A_glob {x : Str} {v : V} {u : Value} {d : Dat} (hg : Gl X x) (hm : X.mg x = some u) (r : RelV v u) (hd : ∀ S A, Rep X.K S A d v) (h : R d M) (hdb : (x == ("__debug__" : Str)) = false := by decide) : AE X b (.Name x pos) Γ M R :=
  AE.of (pe_glob hg hm r hdb) fun σ S A H Q st p => p.here st (hd S A) h
theorem A_bltn {x : Str} {v : V} {u : Value} (hg : Gl X x) (hm : X.mg x = none) (hv : bootBuiltins x = some u) (r : RelV v u) (h : R (.oth v) M) (hn : x ≠ "__name__" := by decide) (hdb : (x == ("__debug__" : Str)) = false := by decide) : AE X b (.Name x pos) Γ M R :=
  AE.of (pe_bltn hg hm hv r hn hdb) fun σ S A H Q st p => p.here st (.oth v) h

/-! ### operators -/
/-- a two-place operation of data -/
def OpD (K : PySem.W.Frag) (b : Bas) (r : R2) (d1 d2 : Dat) (Γ : Gam) (M : Mem) (R : Dat → Mem → Prop) : Prop :=
  ∀ σ S A H v1 v2 Q, Stt K b σ S A H Γ M → Rep K S A d1 v1 → Rep K S A d2 v2 → Post K b σ S A H Γ R Q → r v1 v2 H Q
theorem E_op {K : PySem.W.Frag} {r : R2} {ta tb : TE} (h : EV K b ta Γ M fun d1 M1 => EV K b tb Γ M1 fun d2 M2 => OpD K b r d1 d2 Γ M2 R) : EV K b (tOp r ta tb) Γ M R := fun σ S A H Q st p =>
  h σ S A H _ st fun v1 d1 M1 S1 A1 H1 s1 st1 r1 h1 => h1 σ S1 A1 H1 _ st1 fun v2 d2 M2 S2 A2 H2 s2 st2 r2 h2 => h2 σ S2 A2 H2 v1 v2 Q st2 (r1.mono s2.s s2.a) r2 (p.after (s1.trans s2))
theorem A_op {op : Operator} {r : R2} (ho : OpR X (binaryOp op) r) (h : AE X b a Γ M fun d1 M1 => AE X b c Γ M1 fun d2 M2 => OpD X.K b r d1 d2 Γ M2 R) : AE X b (.BinOp a op c pos) Γ M R :=
  AE.of (pe_op ho pe_tW pe_tW) (E_op h)
theorem A_cmp {op : CmpOp} {r : R2} (ho : OpR X (compareOp op) r) (hm : behindInMarks op c = false) (h : AE X b a Γ M fun d1 M1 => AE X b c Γ M1 fun d2 M2 => OpD X.K b r d1 d2 Γ M2 R) : AE X b (.Compare a [op] [c] pos) Γ M R :=
  AE.of (pe_cmpR ho pe_tW pe_tW hm) (E_op h)
theorem T_cmp {op : CmpOp} {r : R2} {R : Bool → Mem → Prop} (ho : OpR X (compareOp op) r) (hm : behindInMarks op c = false) (h : AE X b a Γ M fun d1 M1 => AE X b c Γ M1 fun d2 M2 => OpD X.K b r d1 d2 Γ M2 fun d M3 => ∃ k, d = .bl k ∧ R k M3) : AT X b (.Compare a [op] [c] pos) Γ M R :=
  AT.of (pt_cmpR ho pe_tW pe_tW hm) fun σ S A H Q st p => E_op h σ S A H _ st fun v d M' S' A' H' s1 st1 r1 ⟨k, e, hR⟩ => by
    subst e
    cases r1
    exact ⟨k, rfl, p k M' S' A' H' s1 st1 hR⟩
def UnD (K : PySem.W.Frag) (b : Bas) (r : V → Hp → VK → Prop) (d1 : Dat) (Γ : Gam) (M : Mem) (R : Dat → Mem → Prop) : Prop :=
  ∀ σ S A H v1 Q, Stt K b σ S A H Γ M → Rep K S A d1 v1 → Post K b σ S A H Γ R Q → r v1 H Q
theorem A_un {op : UnaryOp} {r : V → Hp → VK → Prop} (ho : UnR X (unaryOp op) r) (h : AE X b a Γ M fun d1 M1 => UnD X.K b r d1 Γ M1 R) : AE X b (.UnaryOp op a pos) Γ M R :=
  AE.of (pe_un ho pe_tW) fun σ S A H Q st p => h σ S A H _ st fun v1 d1 M1 S1 A1 H1 s1 st1 r1 h1 => h1 σ S1 A1 H1 v1 Q st1 r1 (p.after s1)

variable {K : PySem.W.Frag} {i j : Int}
theorem opd_I0 {g : Int → Int → V} {d : Dat} (hd : ∀ S A, Rep K S A d (g i j)) (h : R d M) : OpD K b (rI0 g) (.int i) (.int j) Γ M R := fun σ S A H v1 v2 Q st r1 r2 p => by
  cases r1; cases r2
  exact ⟨i, j, rfl, rfl, p.here st (hd S A) h⟩
theorem opd_I {C : Int → Int → Prop} {g : Int → Int → V} {d : Dat} (hC : C i j) (hd : ∀ S A, Rep K S A d (g i j)) (h : R d M) : OpD K b (rI C g) (.int i) (.int j) Γ M R := fun σ S A H v1 v2 Q st r1 r2 p => by
  cases r1; cases r2
  exact ⟨i, j, rfl, rfl, hC, p.here st (hd S A) h⟩
theorem A_add (h : AE X b a Γ M fun d1 M1 => AE X b c Γ M1 fun d2 M2 => ∃ i j, d1 = .int i ∧ d2 = .int j ∧ R (.int (i + j)) M2) : AE X b (.BinOp a .Add c pos) Γ M R :=
  A_op op_add (h.imp fun d1 M1 h => h.imp fun d2 M2 ⟨i, j, e1, e2, q⟩ => by subst e1 e2; exact opd_I0 (fun _ _ => .int _) q)
theorem A_sub (h : AE X b a Γ M fun d1 M1 => AE X b c Γ M1 fun d2 M2 => ∃ i j, d1 = .int i ∧ d2 = .int j ∧ R (.int (i - j)) M2) : AE X b (.BinOp a .Sub c pos) Γ M R :=
  A_op op_sub (h.imp fun d1 M1 h => h.imp fun d2 M2 ⟨i, j, e1, e2, q⟩ => by subst e1 e2; exact opd_I0 (fun _ _ => .int _) q)
end
end Ab
end

section
set_option Elab.async false
set_option linter.all false
set_option maxRecDepth 100000
set_option maxHeartbeats 4000000
namespace Ab
open PySem L2

/-! ### what may be read as a list, as a tuple -/
inductive IsL (M : Mem) : Dat → List Dat → Prop
  | lst (ds : List Dat) : IsL M (.lst ds) ds
  | ptr {k : Nat} {ds : List Dat} : M[k]? = some (.lst ds) → IsL M (.ptr k) ds
/-- .. also the script -/
inductive IsR (M : Mem) : Dat → List Dat → Prop
  | l {d : Dat} {ds : List Dat} : IsL M d ds → IsR M d ds
  | rol (ds : List Dat) : IsR M (.rol ds) ds
inductive IsT : Dat → List Dat → Prop
  | tup (ds : List Dat) : IsT (.tup ds) ds
section
variable {K : PySem.W.Frag} {b : Bas} {σ : L2.St} {S : Hp} {A : List Addr} {H : Hp} {Γ : Gam} {M : Mem} {d : Dat} {ds : List Dat} {v : V}
theorem IsL.at (i : IsL M d ds) (st : Stt K b σ S A H Γ M) (r : Rep K S A d v) : ∃ a xs, v = .ref a ∧ H a = some (.lst xs) ∧ Reps K S A ds xs := by
  cases i with
  | lst _ =>
    cases r with
    | lst h q => exact ⟨_, _, rfl, st.sub _ _ h, q⟩
  | ptr hM =>
    cases r with
    | ptr hA =>
      obtain ⟨xs, h, q⟩ := st.cell _ _ _ hA hM
      exact ⟨_, xs, rfl, h, q⟩
theorem IsR.at (i : IsR M d ds) (st : Stt K b σ S A H Γ M) (r : Rep K S A d v) : ∃ a xs, v = .ref a ∧ SqL K H a xs ∧ Reps K S A ds xs := by
  cases i with
  | l i =>
    obtain ⟨a, xs, e, h, q⟩ := i.at st r
    exact ⟨a, xs, e, SqL.of h, q⟩
  | rol _ =>
    cases r with
    | rol h q => exact ⟨_, _, rfl, Same.sql st.sub h, q⟩
theorem IsT.at (i : IsT d ds) (st : Stt K b σ S A H Γ M) (r : Rep K S A d v) : ∃ a xs, v = .ref a ∧ SqT K H a xs ∧ Reps K S A ds xs := by
  cases i with
  | tup _ =>
    cases r with
    | tup h q => exact ⟨_, _, rfl, Same.sqt st.sub h, q⟩
theorem atI_rep {xs : List V} {i : Int} (r : Reps K S A ds xs) (h : atI ds i = some d) : ∃ v, atI xs i = some v ∧ Rep K S A d v := by
  unfold atI at *
  rw [← r.length]
  cases e : ixN ds.length i with
  | none => rw [e] at h; cases h
  | some j =>
    rw [e] at h
    exact r.getD (i := j) h
theorem cut_rep {xs : List V} (lo hi : Option Int) (r : Reps K S A ds xs) : Reps K S A ((ds.drop (HT.sIx ds.length 0 lo)).take (HT.sIx ds.length ds.length hi - HT.sIx ds.length 0 lo)) (cutV xs lo hi) := by
  unfold cutV
  rw [← r.length]
  exact (r.drop _).take _
end
/-- a slice -/
def cutD (ds : List Dat) (lo hi : Option Int) : List Dat := (ds.drop (HT.sIx ds.length 0 lo)).take (HT.sIx ds.length ds.length hi - HT.sIx ds.length 0 lo)

section
variable {X : Cx} {b : Bas} {Γ : Gam} {M : Mem} {R : Dat → Mem → Prop} {RT : Bool → Mem → Prop} {e a c : Expr} {es rest : List Expr} {pos : Pos}

/-! ### tests: and, or, not; as values too -/
theorem T_val (h : AE X b e Γ M fun d M1 => ∃ k, d = .bl k ∧ RT k M1) (he : ∀ whole, isTrue e X.env whole = (do let v ← whole; standAt e.pos; holding [v] (truthy v)) := by intro _; rfl) : AT X b e Γ M RT :=
  AT.of (pt_val pe_tW he) fun σ S A H Q st p => h σ S A H _ st fun v d M' S' A' H' s1 st1 r1 ⟨k, e, q⟩ => by
    subst e
    cases r1
    exact ⟨k, rfl, p k M' S' A' H' s1 st1 q⟩
theorem T_not (h : AT X b e Γ M fun k M1 => RT (!k) M1) : AT X b (.UnaryOp .Not e pos) Γ M RT :=
  AT.of (pt_not pt_tW) fun σ S A H Q st p => h σ S A H _ st fun k M' S' A' H' s1 st1 q => p (!k) M' S' A' H' s1 st1 q
theorem ET_and {K : PySem.W.Frag} {t u : TT} (h : ET K b t Γ M fun k M1 => (k = true → ET K b u Γ M1 RT) ∧ (k = false → RT false M1)) : ET K b (tAnd t u) Γ M RT := fun σ S A H Q st p =>
  h σ S A H _ st fun k M1 S1 A1 H1 s1 st1 ⟨q1, q2⟩ => by
    cases k with
    | true => exact q1 rfl σ S1 A1 H1 Q st1 fun c M' S' A' H' s2 st2 q => p c M' S' A' H' (s1.trans s2) st2 q
    | false => exact p false M1 S1 A1 H1 s1 st1 (q2 rfl)
theorem ET_or {K : PySem.W.Frag} {t u : TT} (h : ET K b t Γ M fun k M1 => (k = true → RT true M1) ∧ (k = false → ET K b u Γ M1 RT)) : ET K b (tOr t u) Γ M RT := fun σ S A H Q st p =>
  h σ S A H _ st fun k M1 S1 A1 H1 s1 st1 ⟨q1, q2⟩ => by
    cases k with
    | false => exact q2 rfl σ S1 A1 H1 Q st1 fun c M' S' A' H' s2 st2 q => p c M' S' A' H' (s1.trans s2) st2 q
    | true => exact p true M1 S1 A1 H1 s1 st1 (q1 rfl)
/-- a and b; three and more: the tail is again one -/
theorem W_and (h : AT X b a Γ M fun k M1 => (k = true → AW X b (.BoolOp .And (c :: rest) pos) Γ M1 RT) ∧ (k = false → RT false M1)) : AW X b (.BoolOp .And (a :: c :: rest) pos) Γ M RT :=
  AW.of (pw_and pt_tW pw_tW) (ET_and h)
theorem W_or (h : AT X b a Γ M fun k M1 => (k = true → RT true M1) ∧ (k = false → AW X b (.BoolOp .Or (c :: rest) pos) Γ M1 RT)) : AW X b (.BoolOp .Or (a :: c :: rest) pos) Γ M RT :=
  AW.of (pw_or pt_tW pw_tW) (ET_or h)
theorem W_and1 (h : AT X b a Γ M RT) : AW X b (.BoolOp .And [a] pos) Γ M RT := AW.of (pw_and1 pt_tW) h
theorem W_or1 (h : AT X b a Γ M RT) : AW X b (.BoolOp .Or [a] pos) Γ M RT := AW.of (pw_or1 pt_tW) h
theorem T_W (h : AW X b e Γ M RT) : AT X b e Γ M RT := AT.of pw_tW.pt h
/-- as values (truth values all) -/
theorem A_and (h : AE X b a Γ M fun d M1 => ∃ k, d = .bl k ∧ (k = true → AE X b (.BoolOp .And (c :: rest) pos) Γ M1 R) ∧ (k = false → R (.bl false) M1)) : AE X b (.BoolOp .And (a :: c :: rest) pos) Γ M R :=
  AE.of (pe_and pe_tW pe_tW) fun σ S A H Q st p => h σ S A H _ st fun v d M1 S1 A1 H1 s1 st1 r1 ⟨k, e, q1, q2⟩ => by
    subst e
    cases r1
    refine ⟨k, rfl, ?_⟩
    cases k with
    | true => exact q1 rfl σ S1 A1 H1 Q st1 (p.after s1)
    | false => exact (p.after s1).here st1 (.bl false) (q2 rfl)
theorem A_or (h : AE X b a Γ M fun d M1 => ∃ k, d = .bl k ∧ (k = true → R (.bl true) M1) ∧ (k = false → AE X b (.BoolOp .Or (c :: rest) pos) Γ M1 R)) : AE X b (.BoolOp .Or (a :: c :: rest) pos) Γ M R :=
  AE.of (pe_or pe_tW pe_tW) fun σ S A H Q st p => h σ S A H _ st fun v d M1 S1 A1 H1 s1 st1 r1 ⟨k, e, q1, q2⟩ => by
    subst e
    cases r1
    refine ⟨k, rfl, ?_⟩
    cases k with
    | false => exact q2 rfl σ S1 A1 H1 Q st1 (p.after s1)
    | true => exact (p.after s1).here st1 (.bl true) (q1 rfl)
theorem A_one {op : BoolOp} (h : AE X b a Γ M R) : AE X b (.BoolOp op [a] pos) Γ M R := AE.of (pe_one pe_tW) h
theorem A_not (h : AE X b a Γ M fun d M1 => ∃ k, d = .bl k ∧ R (.bl (!k)) M1) : AE X b (.UnaryOp .Not a pos) Γ M R :=
  AE.of (pe_not pe_tW) fun σ S A H Q st p => h σ S A H _ st fun v d M1 S1 A1 H1 s1 st1 r1 ⟨k, e, q⟩ => by
    subst e
    cases r1
    exact ⟨k, rfl, (p.after s1).here st1 (.bl _) q⟩
theorem A_ifExp {f : Expr} (h : AT X b f Γ M fun k M1 => (k = true → AE X b a Γ M1 R) ∧ (k = false → AE X b c Γ M1 R)) : AE X b (.IfExp f a c pos) Γ M R :=
  AE.of (pe_ifExp pt_tW pe_tW pe_tW) fun σ S A H Q st p => h σ S A H _ st fun k M1 S1 A1 H1 s1 st1 ⟨q1, q2⟩ => by
    cases k with
    | true => exact q1 rfl σ S1 A1 H1 Q st1 (p.after s1)
    | false => exact q2 rfl σ S1 A1 H1 Q st1 (p.after s1)
/-- x or y by truth, x a list that is read -/
theorem A_orL (h : AE X b a Γ M fun d M1 => ∃ ds, IsR M1 d ds ∧ (ds ≠ [] → R d M1) ∧ (ds = [] → AE X b (.BoolOp .Or (c :: rest) pos) Γ M1 R)) : AE X b (.BoolOp .Or (a :: c :: rest) pos) Γ M R :=
  AE.of (pe_orT pe_tW pe_tW) fun σ S A H Q st p => h σ S A H _ st fun v d M1 S1 A1 H1 s1 st1 r1 ⟨ds, i, q1, q2⟩ => by
    obtain ⟨x, xs, ev, hx, hr⟩ := i.at st1 r1
    subst ev
    refine ⟨!xs.isEmpty, .inl ⟨xs, hx, rfl⟩, ?_⟩
    have hl := hr.length
    cases ds with
    | nil =>
      cases xs with
      | nil => exact q2 rfl σ S1 A1 H1 Q st1 (p.after s1)
      | cons _ _ => cases hl
    | cons d0 dr =>
      cases xs with
      | nil => cases hl
      | cons _ _ => exact (p.after s1).here st1 r1 (q1 (fun z => nomatch z))

/-! ### arguments -/
theorem L_nil {R : List Dat → Mem → Prop} (h : R [] M) : AA X b [] Γ M R := AA.of pa_nil fun σ S A H Q st p => p [] [] M S A H (Step.refl _ _ _) st .nil h
theorem L_cons {R : List Dat → Mem → Prop} (h : AE X b e Γ M fun d M1 => AA X b es Γ M1 fun ds M2 => R (d :: ds) M2) (hs : starEach (e :: es) X.env = (false, eval e X.env) :: starEach es X.env := by rfl) : AA X b (e :: es) Γ M R :=
  AA.of (pa_cons pe_tW pa_tW hs) fun σ S A H Q st p => h σ S A H _ st fun v d M1 S1 A1 H1 s1 st1 r1 q1 => q1 σ S1 A1 H1 _ st1 fun vs ds M2 S2 A2 H2 s2 st2 r2 q2 =>
    p (v :: vs) (d :: ds) M2 S2 A2 H2 (s1.trans s2) st2 (.cons (r1.mono s2.s s2.a) r2) q2

/-! ### displays -/
theorem A_tup {k : Nat} (h : AA X b es Γ M fun ds M1 => ds.length ≤ sizeLine ∧ R (.tup ds) M1) : AE X b (.Tuple es k pos) Γ M R :=
  AE.of (pe_tup pa_tW) fun σ S A H Q st p => h σ S A H _ st fun vs ds M1 S1 A1 H1 s1 st1 r1 ⟨z, q⟩ => ⟨by rw [← r1.length]; exact z, fun x hx => by
    obtain ⟨s2, st2⟩ := st1.lay (o := .tup vs) hx
    exact (p.after (s1.trans s2)).here st2 (.tup (SqT.of upd_same) (r1.mono s2.s s2.a)) q⟩
theorem A_lst (h : AA X b es Γ M fun ds M1 => ds.length ≤ sizeLine ∧ R (.lst ds) M1) : AE X b (.List es pos) Γ M R :=
  AE.of (pe_lst pa_tW) fun σ S A H Q st p => h σ S A H _ st fun vs ds M1 S1 A1 H1 s1 st1 r1 ⟨z, q⟩ => ⟨by rw [← r1.length]; exact z, fun x hx => by
    obtain ⟨s2, st2⟩ := st1.lay (o := .lst vs) hx
    exact (p.after (s1.trans s2)).here st2 (.lst upd_same (r1.mono s2.s s2.a)) q⟩
/-- .. a list that stays ours -/
theorem A_lstC (h : AA X b es Γ M fun ds M1 => ds.length ≤ sizeLine ∧ R (.ptr M1.length) (M1 ++ [.lst ds])) : AE X b (.List es pos) Γ M R :=
  AE.of (pe_lst pa_tW) fun σ S A H Q st p => h σ S A H _ st fun vs ds M1 S1 A1 H1 s1 st1 r1 ⟨z, q⟩ => ⟨by rw [← r1.length]; exact z, fun x hx => by
    obtain ⟨s2, st2⟩ := st1.layCell (o := .lst vs) (c := .lst ds) hx ⟨vs, upd_same, r1.mono (Same.refl _) (List.prefix_append _ _)⟩
    refine (p.after (s1.trans s2)).here st2 (.ptr ?_) q
    rw [← st1.len, List.getElem?_append_right (Nat.le_refl _), Nat.sub_self] <;> rfl⟩
end
end Ab
end

section
set_option Elab.async false
set_option linter.all false
set_option maxRecDepth 100000
set_option maxHeartbeats 4000000
namespace Ab
open PySem L2

/-! ### operators that make no object -/
def CMulX (i j : Int) : Prop := CMul i j ∨ CMulW i j
theorem CMulX.ok {i j : Int} (h : CMulX i j) : IntMulOk i j := h.elim CMul.ok CMulW.ok
def CDivX (_ j : Int) : Prop := j ≠ 0 ∧ j.natAbs.log2 < 9000
theorem op_mulX {X : Cx} : OpR X (binaryOp .Mult) (rI CMulX fun i j => .int (i * j)) := opI fun _ _ _ _ _ _ _ hc q => PyProof.Rows.mul_int q hc.ok
theorem op_fdivX {X : Cx} : OpR X (binaryOp .FloorDiv) (rI CDivX fun i j => .int (i.fdiv j)) := opI fun i j _ _ _ _ _ hc q =>
  PyProof.Rows.floordiv_int hc.1 q (.inl (PyProof.noPylong_of_log2 hc.2))
inductive BinD : Operator → Dat → Dat → Dat → Prop
  | add (i j : Int) : BinD .Add (.int i) (.int j) (.int (i + j))
  | sub (i j : Int) : BinD .Sub (.int i) (.int j) (.int (i - j))
  | mul {i j : Int} (h : CMulX i j) : BinD .Mult (.int i) (.int j) (.int (i * j))
  | fdiv {i j : Int} (h : CDivW i j) : BinD .FloorDiv (.int i) (.int j) (.int (i / j))
  | fdivX {i j : Int} (h : CDivX i j) : BinD .FloorDiv (.int i) (.int j) (.int (i.fdiv j))
  | mod {i j : Int} (h : 0 < j) : BinD .Mod (.int i) (.int j) (.int (i % j))
  | modX {i j : Int} (h : j ≠ 0) : BinD .Mod (.int i) (.int j) (.int (i.fmod j))
  | pow {i j : Int} (h : CPow i j) : BinD .Pow (.int i) (.int j) (.int (i ^ j.toNat))
  | addS {x y : Str} (h : x.length + y.length ≤ sizeLine) : BinD .Add (.str x) (.str y) (.str (x ++ y))
inductive CmpD : CmpOp → Dat → Dat → Bool → Prop
  | lt (i j : Int) : CmpD .Lt (.int i) (.int j) (decide (i < j))
  | le (i j : Int) : CmpD .LtE (.int i) (.int j) (decide (i ≤ j))
  | gt (i j : Int) : CmpD .Gt (.int i) (.int j) (decide (j < i))
  | ge (i j : Int) : CmpD .GtE (.int i) (.int j) (decide (j ≤ i))
  | eqI (i j : Int) : CmpD .Eq (.int i) (.int j) (decide (i = j))
  | neI (i j : Int) : CmpD .NotEq (.int i) (.int j) (!decide (i = j))
  | eqS (x y : Str) : CmpD .Eq (.str x) (.str y) (decide (x = y))
  | neS (x y : Str) : CmpD .NotEq (.str x) (.str y) (!decide (x = y))
  | eqB (x y : Bool) : CmpD .Eq (.bl x) (.bl y) (decide (x = y))
  | neB (x y : Bool) : CmpD .NotEq (.bl x) (.bl y) (!decide (x = y))

section
variable {X : Cx} {b : Bas} {Γ : Gam} {M : Mem} {R : Dat → Mem → Prop} {RT : Bool → Mem → Prop} {e a c e1 e2 e3 : Expr} {es rest : List Expr} {pos : Pos} {K : PySem.W.Frag}
theorem binD_run {op : Operator} {d1 d2 d : Dat} (h : BinD op d1 d2 d) (hR : R d M) : ∃ r, OpR X (binaryOp op) r ∧ OpD X.K b r d1 d2 Γ M R := by
  cases h with
  | add i j => exact ⟨_, op_add, opd_I0 (fun _ _ => .int _) hR⟩
  | sub i j => exact ⟨_, op_sub, opd_I0 (fun _ _ => .int _) hR⟩
  | mul h => exact ⟨_, op_mulX, opd_I h (fun _ _ => .int _) hR⟩
  | fdiv h => exact ⟨_, op_fdivW, opd_I h (fun _ _ => .int _) hR⟩
  | fdivX h => exact ⟨_, op_fdivX, opd_I h (fun _ _ => .int _) hR⟩
  | mod h => exact ⟨_, op_mod, opd_I h (fun _ _ => .int _) hR⟩
  | modX h => exact ⟨_, op_modN, opd_I h (fun _ _ => .int _) hR⟩
  | pow h => exact ⟨_, op_pow, opd_I h (fun _ _ => .int _) hR⟩
  | addS h => exact ⟨_, op_add_str, fun σ S A H v1 v2 Q st r1 r2 p => by
      cases r1; cases r2
      exact ⟨_, _, rfl, rfl, h, p.here st (.str _) hR⟩⟩
/-- the rule may be chosen when both operands are known -/
theorem bin_late {op : Operator} (h : AE X b a Γ M fun d1 M1 => AE X b c Γ M1 fun d2 M2 => ∃ r, OpR X (binaryOp op) r ∧ OpD X.K b r d1 d2 Γ M2 R) : AE X b (.BinOp a op c pos) Γ M R := fun σ S A H Q st p pins s I => by
  refine wpAny_BinOp (thn (pe_tW.run pins s σ H (fun x H1 => ∀ s1, Inv X pins σ H1 s1 → ∀ v, RelV x v → wpAny (model X.prog X.w) X.A (eval c X.env) (fun u s₂ => wpAny (model X.prog X.w) X.A (binaryOp op v u) (EP X pins σ Q) X.xe s₂) X.xe s1) I (h σ S A H _ st fun v1 d1 M1 S1 A1 H1 s1 st1 r1 h1 => ?_)) fun v s1 ⟨x, H1, I1, r1, q1⟩ => q1 s1 I1 v r1)
  intro sa Ia va rva
  refine thn (pe_tW.run pins sa σ H1 (fun y H2 => ∀ s2, Inv X pins σ H2 s2 → ∀ u, RelV y u → wpAny (model X.prog X.w) X.A (binaryOp op va u) (EP X pins σ Q) X.xe s2) Ia (h1 σ S1 A1 H1 _ st1 fun v2 d2 M2 S2 A2 H2 s2 st2 r2 h2 => ?_)) fun v s1 ⟨x, H1, I1, r1, q1⟩ => q1 s1 I1 v r1
  intro sb Ib vb rvb
  obtain ⟨r, ho, hd⟩ := h2
  exact ho pins sb σ H2 v1 v2 va vb Q Ib rva rvb (hd σ S2 A2 H2 v1 v2 Q st2 (r1.mono s2.s s2.a) r2 (p.after (s1.trans s2)))
theorem A_bin {op : Operator} (h : AE X b a Γ M fun d1 M1 => AE X b c Γ M1 fun d2 M2 => ∃ d, BinD op d1 d2 d ∧ R d M2) : AE X b (.BinOp a op c pos) Γ M R :=
  bin_late (h.imp fun d1 M1 h1 => h1.imp fun d2 M2 ⟨d, hb, hr⟩ => binD_run hb hr)
theorem A_neg (h : AE X b a Γ M fun d M1 => ∃ i, d = .int i ∧ R (.int (-i)) M1) : AE X b (.UnaryOp .USub a pos) Γ M R :=
  A_un un_neg (h.imp fun d M1 ⟨i, e, q⟩ => by
    subst e
    exact fun σ S A H v1 Q st r1 p => by
      cases r1
      exact ⟨i, rfl, p.here st (.int _) q⟩)
/-- a list and a list: a new list -/
theorem opd_cat {d1 d2 : Dat} {xs ys : List Dat} (h1 : IsL M d1 xs) (h2 : IsL M d2 ys) (hz : xs.length + ys.length ≤ sizeLine) (hR : R (.lst (xs ++ ys)) M) : OpD K b rCat d1 d2 Γ M R := fun σ S A H v1 v2 Q st r1 r2 p => by
  obtain ⟨a1, us, e1, g1, q1⟩ := h1.at st r1
  obtain ⟨a2, ws, e2, g2, q2⟩ := h2.at st r2
  subst e1 e2
  refine ⟨a1, a2, us, ws, rfl, rfl, g1, g2, by rw [← q1.length, ← q2.length]; exact hz, fun x hx => ?_⟩
  obtain ⟨s2, st2⟩ := st.lay (o := .lst (us ++ ws)) hx
  exact (p.after s2).here st2 (.lst upd_same ((q1.append q2).mono s2.s s2.a)) hR
theorem opd_catC {d1 d2 : Dat} {xs ys : List Dat} (h1 : IsL M d1 xs) (h2 : IsL M d2 ys) (hz : xs.length + ys.length ≤ sizeLine) (hR : R (.ptr M.length) (M ++ [.lst (xs ++ ys)])) : OpD K b rCat d1 d2 Γ M R := fun σ S A H v1 v2 Q st r1 r2 p => by
  obtain ⟨a1, us, e1, g1, q1⟩ := h1.at st r1
  obtain ⟨a2, ws, e2, g2, q2⟩ := h2.at st r2
  subst e1 e2
  refine ⟨a1, a2, us, ws, rfl, rfl, g1, g2, by rw [← q1.length, ← q2.length]; exact hz, fun x hx => ?_⟩
  obtain ⟨s2, st2⟩ := st.layCell (o := .lst (us ++ ws)) (c := .lst (xs ++ ys)) hx ⟨_, upd_same, (q1.append q2).mono (Same.refl _) (List.prefix_append _ _)⟩
  refine (p.after s2).here st2 (.ptr ?_) hR
  rw [← st.len, List.getElem?_append_right (Nat.le_refl _), Nat.sub_self] <;> rfl
theorem A_cat (h : AE X b a Γ M fun d1 M1 => AE X b c Γ M1 fun d2 M2 => ∃ xs ys, IsL M2 d1 xs ∧ IsL M2 d2 ys ∧ xs.length + ys.length ≤ sizeLine ∧ R (.lst (xs ++ ys)) M2) : AE X b (.BinOp a .Add c pos) Γ M R :=
  A_op op_cat (h.imp fun d1 M1 h1 => h1.imp fun d2 M2 ⟨xs, ys, i1, i2, hz, q⟩ => opd_cat i1 i2 hz q)
theorem A_catC (h : AE X b a Γ M fun d1 M1 => AE X b c Γ M1 fun d2 M2 => ∃ xs ys, IsL M2 d1 xs ∧ IsL M2 d2 ys ∧ xs.length + ys.length ≤ sizeLine ∧ R (.ptr M2.length) (M2 ++ [.lst (xs ++ ys)])) : AE X b (.BinOp a .Add c pos) Γ M R :=
  A_op op_cat (h.imp fun d1 M1 h1 => h1.imp fun d2 M2 ⟨xs, ys, i1, i2, hz, q⟩ => opd_catC i1 i2 hz q)
/-- tuples -/
theorem A_catT (h : AE X b a Γ M fun d1 M1 => AE X b c Γ M1 fun d2 M2 => ∃ xs ys, d1 = .tup xs ∧ d2 = .tup ys ∧ xs.length + ys.length ≤ sizeLine ∧ R (.tup (xs ++ ys)) M2) : AE X b (.BinOp a .Add c pos) Γ M R :=
  A_op op_catA (h.imp fun d1 M1 h1 => h1.imp fun d2 M2 ⟨xs, ys, e1, e2, hz, q⟩ => by
    subst e1 e2
    exact fun σ S A H v1 v2 Q st r1 r2 p => by
      have R1 := r1
      have R2 := r2
      obtain ⟨a1, us, e1, g1, q1⟩ := (IsT.tup xs).at st r1
      obtain ⟨a2, ws, e2, g2, q2⟩ := (IsT.tup ys).at st r2
      subst e1 e2
      refine ⟨a1, a2, us, ws, rfl, rfl, g1, g2, by rw [← q1.length, ← q2.length]; exact hz, fun z => ?_, fun z1 z2 => ?_, fun z1 z2 x hx => ?_⟩
      · subst z
        have : xs = [] := by have := q1.length; simpa using this
        subst this
        exact p.here st R2 q
      · subst z2
        have : ys = [] := by have := q2.length; simpa using this
        subst this
        rw [List.append_nil] at q
        exact p.here st R1 q
      · obtain ⟨s2, st2⟩ := st.lay (o := .tup (us ++ ws)) hx
        exact (p.after s2).here st2 (.tup (SqT.of upd_same) ((q1.append q2).mono s2.s s2.a)) q)
/-- a list so many times -/
theorem A_rep (h : AE X b a Γ M fun d1 M1 => AE X b c Γ M1 fun d2 M2 => ∃ xs k, IsL M2 d1 xs ∧ d2 = .int k ∧ -(2 ^ 63) ≤ k ∧ k < 2 ^ 63 ∧ xs.length * k.toNat ≤ sizeLine ∧ R (.lst (List.replicate k.toNat xs).flatten) M2) : AE X b (.BinOp a .Mult c pos) Γ M R :=
  A_op op_rep (h.imp fun d1 M1 h1 => h1.imp fun d2 M2 ⟨xs, k, i1, e2, h3, h4, h5, q⟩ => by
    subst e2
    exact fun σ S A H v1 v2 Q st r1 r2 p => by
      obtain ⟨a1, us, e1, g1, q1⟩ := i1.at st r1
      subst e1
      cases r2
      refine ⟨a1, k, us, rfl, rfl, g1, h3, h4, by rw [← q1.length]; exact h5, fun x hx => ?_⟩
      obtain ⟨s2, st2⟩ := st.lay (o := .lst (List.replicate k.toNat us).flatten) hx
      exact (p.after s2).here st2 (.lst upd_same ((q1.rep _).mono s2.s s2.a)) q)
theorem A_repC (h : AE X b a Γ M fun d1 M1 => AE X b c Γ M1 fun d2 M2 => ∃ xs k, IsL M2 d1 xs ∧ d2 = .int k ∧ -(2 ^ 63) ≤ k ∧ k < 2 ^ 63 ∧ xs.length * k.toNat ≤ sizeLine ∧ R (.ptr M2.length) (M2 ++ [.lst (List.replicate k.toNat xs).flatten])) : AE X b (.BinOp a .Mult c pos) Γ M R :=
  A_op op_rep (h.imp fun d1 M1 h1 => h1.imp fun d2 M2 ⟨xs, k, i1, e2, h3, h4, h5, q⟩ => by
    subst e2
    exact fun σ S A H v1 v2 Q st r1 r2 p => by
      obtain ⟨a1, us, e1, g1, q1⟩ := i1.at st r1
      subst e1
      cases r2
      refine ⟨a1, k, us, rfl, rfl, g1, h3, h4, by rw [← q1.length]; exact h5, fun x hx => ?_⟩
      obtain ⟨s2, st2⟩ := st.layCell (o := .lst (List.replicate k.toNat us).flatten) (c := .lst (List.replicate k.toNat xs).flatten) hx ⟨_, upd_same, (q1.rep _).mono (Same.refl _) (List.prefix_append _ _)⟩
      refine (p.after s2).here st2 (.ptr ?_) q
      rw [← st.len, List.getElem?_append_right (Nat.le_refl _), Nat.sub_self] <;> rfl)

/-! ### comparisons -/
theorem cmpD_run {op : CmpOp} {d1 d2 : Dat} {k : Bool} (h : CmpD op d1 d2 k) (hR : R (.bl k) M) : ∃ r, OpR X (compareOp op) r ∧ OpD X.K b r d1 d2 Γ M R := by
  have sc : ∀ {x y : V} (σ : L2.St) (S : Hp) (A : List Addr) (H : Hp) (Q : VK), scal x y = true → Stt X.K b σ S A H Γ M → Post X.K b σ S A H Γ (fun d M' => d = .bl (decide (x = y)) ∧ M' = M) Q → rEq x y H Q := fun σ S A H Q h st p => ⟨h, p.here st (.bl _) ⟨rfl, rfl⟩⟩
  cases h with
  | lt i j => exact ⟨_, op_lt, opd_I0 (fun _ _ => .bl _) hR⟩
  | le i j => exact ⟨_, op_le, opd_I0 (fun _ _ => .bl _) hR⟩
  | gt i j => exact ⟨_, op_gt, opd_I0 (fun _ _ => .bl _) hR⟩
  | ge i j => exact ⟨_, op_ge, opd_I0 (fun _ _ => .bl _) hR⟩
  | eqI i j => exact ⟨_, op_eq, fun σ S A H v1 v2 Q st r1 r2 p => by
      cases r1; cases r2
      exact ⟨rfl, p.here st (.bl _) (by rw [show decide (V.int i = V.int j) = decide (i = j) by simp]; exact hR)⟩⟩
  | neI i j => exact ⟨_, op_ne, fun σ S A H v1 v2 Q st r1 r2 p => by
      cases r1; cases r2
      exact ⟨rfl, p.here st (.bl _) (by rw [show decide (V.int i = V.int j) = decide (i = j) by simp]; exact hR)⟩⟩
  | eqS i j => exact ⟨_, op_eq, fun σ S A H v1 v2 Q st r1 r2 p => by
      cases r1; cases r2
      exact ⟨rfl, p.here st (.bl _) (by rw [show decide (V.str i = V.str j) = decide (i = j) by simp]; exact hR)⟩⟩
  | neS i j => exact ⟨_, op_ne, fun σ S A H v1 v2 Q st r1 r2 p => by
      cases r1; cases r2
      exact ⟨rfl, p.here st (.bl _) (by rw [show decide (V.str i = V.str j) = decide (i = j) by simp]; exact hR)⟩⟩
  | eqB i j => exact ⟨_, op_eq, fun σ S A H v1 v2 Q st r1 r2 p => by
      cases r1; cases r2
      exact ⟨rfl, p.here st (.bl _) (by rw [show decide (V.bl i = V.bl j) = decide (i = j) by simp]; exact hR)⟩⟩
  | neB i j => exact ⟨_, op_ne, fun σ S A H v1 v2 Q st r1 r2 p => by
      cases r1; cases r2
      exact ⟨rfl, p.here st (.bl _) (by rw [show decide (V.bl i = V.bl j) = decide (i = j) by simp]; exact hR)⟩⟩
theorem late_op {f : Value → Value → Sem Value} (h : AE X b a Γ M fun d1 M1 => AE X b c Γ M1 fun d2 M2 => ∃ r, OpR X f r ∧ OpD X.K b r d1 d2 Γ M2 R) {σ : L2.St} {S : Hp} {A : List Addr} {H : Hp} {Q : VK} {pins s} (st : Stt X.K b σ S A H Γ M) (p : Post X.K b σ S A H Γ R Q) (I : Inv X pins σ H s) :
    wpAny (model X.prog X.w) X.A (eval a X.env) (fun v s₁ => wpAny (model X.prog X.w) X.A (eval c X.env) (fun u s₂ => wpAny (model X.prog X.w) X.A (f v u) (EP X pins σ Q) X.xe s₂) X.xe s₁) X.xe s := by
  refine thn (pe_tW.run pins s σ H (fun x H1 => ∀ s1, Inv X pins σ H1 s1 → ∀ v, RelV x v → wpAny (model X.prog X.w) X.A (eval c X.env) (fun u s₂ => wpAny (model X.prog X.w) X.A (f v u) (EP X pins σ Q) X.xe s₂) X.xe s1) I (h σ S A H _ st fun v1 d1 M1 S1 A1 H1 s1 st1 r1 h1 => ?_)) fun v s1 ⟨x, H1, I1, r1, q1⟩ => q1 s1 I1 v r1
  intro sa Ia va rva
  refine thn (pe_tW.run pins sa σ H1 (fun y H2 => ∀ s2, Inv X pins σ H2 s2 → ∀ u, RelV y u → wpAny (model X.prog X.w) X.A (f va u) (EP X pins σ Q) X.xe s2) Ia (h1 σ S1 A1 H1 _ st1 fun v2 d2 M2 S2 A2 H2 s2 st2 r2 h2 => ?_)) fun v s1 ⟨x, H1, I1, r1, q1⟩ => q1 s1 I1 v r1
  intro sb Ib vb rvb
  obtain ⟨r, ho, hd⟩ := h2
  exact ho pins sb σ H2 v1 v2 va vb Q Ib rva rvb (hd σ S2 A2 H2 v1 v2 Q st2 (r1.mono s2.s s2.a) r2 (p.after (s1.trans s2)))
theorem A_cmpD {op : CmpOp} (h : AE X b a Γ M fun d1 M1 => AE X b c Γ M1 fun d2 M2 => ∃ k, CmpD op d1 d2 k ∧ R (.bl k) M2) (hm : behindInMarks op c = false := by exact nomark _) : AE X b (.Compare a [op] [c] pos) Γ M R := fun σ S A H Q st p pins s I =>
  wpAny_Compare1 (late_op (h.imp fun d1 M1 h1 => h1.imp fun d2 M2 ⟨k, hk, q⟩ => cmpD_run hk q) st p I) hm
theorem T_of {R' : Dat → Mem → Prop} {op : CmpOp} (h : AE X b (.Compare a [op] [c] pos) Γ M fun d M1 => ∃ k, d = .bl k ∧ RT k M1) (he : ∀ whole, isTrue (.Compare a [op] [c] pos) X.env whole = (do let v ← whole; standAt (Expr.Compare a [op] [c] pos).pos; holding [v] (truthy v)) := by intro _; rfl) : AT X b (.Compare a [op] [c] pos) Γ M RT := T_val h he
theorem T_cmpD {op : CmpOp} (h : AE X b a Γ M fun d1 M1 => AE X b c Γ M1 fun d2 M2 => ∃ k, CmpD op d1 d2 k ∧ RT k M2) (hm : behindInMarks op c = false := by exact nomark _) : AT X b (.Compare a [op] [c] pos) Γ M RT := fun σ S A H Q st p pins s I => by
  refine wpAny_isTrue_Compare1 (thn (late_op (R := fun d M2 => ∃ k, d = .bl k ∧ RT k M2) (Q := fun v H' => ∃ k, v = .bl k ∧ Q k H') (h.imp fun d1 M1 h1 => h1.imp fun d2 M2 ⟨k, hk, q⟩ => cmpD_run hk ⟨k, rfl, q⟩) st (fun v d M' S' A' H' s1 st1 r1 ⟨k, e, q⟩ => by
    subst e
    cases r1
    exact ⟨k, rfl, p k M' S' A' H' s1 st1 q⟩) I) fun v s1 h1 => thn h1 fun u s2 h2 => thn h2 fun c s3 ⟨x, H1, I1, r1, q1⟩ => ?_) hm
  obtain ⟨d, rfl, q⟩ := q1
  cases r1
  exact wpAny_truthy_bool ⟨H1, I1, q⟩
/-- is None -/
theorem T_isN {j : Nat} {p2 : Pos} (h : AE X b a Γ M fun d M1 => ∃ k, (∀ S A v, Rep X.K S A d v → decide (v = .non) = k) ∧ RT k M1) : AT X b (.Compare a [.Is] [.Constant .none j p2] pos) Γ M RT :=
  AT.of (pt_cmpR op_isN pe_tW pe_non (nomark _)) fun σ S A H Q st p => h σ S A H _ st fun v d M' S' A' H' s1 st1 r1 ⟨k, hk, q⟩ => ⟨rfl, k, by rw [hk _ _ _ r1], p k M' S' A' H' s1 st1 q⟩
theorem T_notN {j : Nat} {p2 : Pos} (h : AE X b a Γ M fun d M1 => ∃ k, (∀ S A v, Rep X.K S A d v → decide (v = .non) = k) ∧ RT (!k) M1) : AT X b (.Compare a [.IsNot] [.Constant .none j p2] pos) Γ M RT :=
  AT.of (pt_cmpR op_notN pe_tW pe_non (nomark _)) fun σ S A H Q st p => h σ S A H _ st fun v d M' S' A' H' s1 st1 r1 ⟨k, hk, q⟩ => ⟨rfl, !k, by rw [hk _ _ _ r1], p (!k) M' S' A' H' s1 st1 q⟩
theorem A_isN {j : Nat} {p2 : Pos} (h : AE X b a Γ M fun d M1 => ∃ k, (∀ S A v, Rep X.K S A d v → decide (v = .non) = k) ∧ R (.bl k) M1) : AE X b (.Compare a [.Is] [.Constant .none j p2] pos) Γ M R :=
  AE.of (pe_cmpR op_isN pe_tW pe_non (nomark _)) fun σ S A H Q st p => h σ S A H _ st fun v d M' S' A' H' s1 st1 r1 ⟨k, hk, q⟩ => ⟨rfl, by rw [hk _ _ _ r1]; exact (p.after s1).here st1 (.bl k) q⟩
/-- whether a datum is None -/
def Dat.isN : Dat → Bool
  | .non => true
  | _ => false
theorem isN_rep {S : Hp} {A : List Addr} {d : Dat} {v : V} (h : ∀ u, d ≠ .oth u) (r : Rep K S A d v) : decide (v = .non) = d.isN := by
  cases r <;> first | rfl | exact absurd rfl (h _)
end
end Ab
end

section
set_option Elab.async false
set_option linter.all false
set_option maxRecDepth 100000
set_option maxHeartbeats 4000000
namespace Ab
open PySem L2
section
variable {X : Cx} {b : Bas} {Γ : Gam} {M : Mem} {R : Dat → Mem → Prop} {RT : Bool → Mem → Prop} {e a c e1 e2 e3 : Expr} {es rest : List Expr} {pos : Pos} {K : PySem.W.Frag}

/-! ### subscripts, slices -/
/-- the item of a list, a tuple, a text -/
inductive ItemD (M : Mem) : Dat → Dat → Dat → Prop
  | l {d v : Dat} {ds : List Dat} {i : Int} : IsR M d ds → atI ds i = some v → ItemD M d (.int i) v
  | t {ds : List Dat} {v : Dat} {i : Int} : atI ds i = some v → ItemD M (.tup ds) (.int i) v
  | s {z : Str} {i : Int} {k : Nat} : z.length ≤ sizeLine → atI z.cps.toList i = some k → ItemD M (.str z) (.int i) (.str ⟨#[k]⟩)
theorem A_ix (h : AE X b a Γ M fun d1 M1 => AE X b c Γ M1 fun d2 M2 => ∃ d, ItemD M2 d1 d2 d ∧ R d M2) (hs : PlainIx c := by exact fun _ _ => rfl) : AE X b (.Subscript a c pos) Γ M R :=
  AE.of (pe_ix ix_seq pe_tW pe_tW hs) (E_op (h.imp fun d1 M1 h1 => h1.imp fun d2 M2 ⟨d, hi, q⟩ => fun σ S A H v1 v2 Q st r1 r2 p => by
    cases hi with
    | l i z =>
      obtain ⟨x, us, ev, g, q1⟩ := i.at st r1
      subst ev
      cases r2
      obtain ⟨v, hv, rv⟩ := atI_rep q1 z
      exact .inl ⟨x, us, _, v, rfl, rfl, g, hv, p.here st rv q⟩
    | t z =>
      obtain ⟨x, us, ev, g, q1⟩ := (IsT.tup _).at st r1
      subst ev
      cases r2
      obtain ⟨v, hv, rv⟩ := atI_rep q1 z
      exact .inr (.inl ⟨x, us, _, v, rfl, rfl, g, hv, p.here st rv q⟩)
    | s z1 z2 =>
      cases r1
      cases r2
      exact .inr (.inr ⟨_, _, _, rfl, rfl, z1, z2, p.here st (.str _) q⟩)))
def AO (X : Cx) (b : Bas) (e : Option Expr) (Γ : Gam) (M : Mem) (R : Option Int → Mem → Prop) : Prop := ∃ t, PO X e t ∧ EO X.K b t Γ M R
theorem O_none {R : Option Int → Mem → Prop} (h : R none M) : AO X b none Γ M R := ⟨_, po_none, fun σ S A H Q st p => p none M S A H (Step.refl _ _ _) st h⟩
theorem O_some {R : Option Int → Mem → Prop} (h : AE X b e Γ M fun d M1 => ∃ i, d = .int i ∧ R (some i) M1) : AO X b (some e) Γ M R :=
  ⟨_, po_some pe_tW, fun σ S A H Q st p => h σ S A H _ st fun v d M' S' A' H' s1 st1 r1 ⟨i, ed, q⟩ => by
    subst ed
    cases r1
    exact ⟨i, rfl, p (some i) M' S' A' H' s1 st1 q⟩⟩
theorem AO.imp {R R' : Option Int → Mem → Prop} {e : Option Expr} (a : AO X b e Γ M R') (h : ∀ d M, R' d M → R d M) : AO X b e Γ M R := by
  obtain ⟨t, hp, ht⟩ := a
  exact ⟨t, hp, fun σ S A H Q st p => ht σ S A H Q st fun c M' S' A' H' s1 t1 q => p c M' S' A' H' s1 t1 (h _ _ q)⟩
/-- the weakest reading of an optional part -/
def tWO (X : Cx) (e : Option Expr) : TO := fun σ H Q => ∃ t, PO X e t ∧ t σ H Q
theorem po_tW {e : Option Expr} : PO X e (tWO X e) := ⟨fun pins s σ H Q I ⟨t, hp, h⟩ => hp.run pins s σ H Q I h⟩
inductive SliD (M : Mem) : Dat → Option Int → Option Int → Dat → Prop
  | l {d : Dat} {ds : List Dat} {lo hi : Option Int} : IsR M d ds → SliD M d lo hi (.lst (cutD ds lo hi))
  | t {ds : List Dat} {lo hi : Option Int} : SliD M (.tup ds) lo hi (.tup (cutD ds lo hi))
  | s {z : Str} {lo hi : Option Int} : z.length ≤ sizeLine → SliD M (.str z) lo hi (.str (cutS z lo hi))
theorem cutD_whole {ds : List Dat} {lo hi : Option Int} (h : HT.sIx ds.length 0 lo = 0 ∧ HT.sIx ds.length ds.length hi = ds.length) : cutD ds lo hi = ds := by
  unfold cutD
  rw [h.1, h.2]
  simp
theorem A_sl {p2 : Pos} {lo hi : Option Expr} (h : AE X b a Γ M fun d M1 => AO X b lo Γ M1 fun l M2 => AO X b hi Γ M2 fun u M3 => ∃ d', SliD M3 d l u d' ∧ R d' M3) : AE X b (.Subscript a (.Slice lo hi none p2) pos) Γ M R :=
  AE.of (pe_slice (sl_list.or (sl_tupA.or sl_str)) pe_tW po_tW po_tW) fun σ S A H Q st p => h σ S A H _ st fun v d M1 S1 A1 H1 s1 st1 r1 h1 => by
    obtain ⟨tl, hpl, hl⟩ := h1
    refine ⟨tl, hpl, hl σ S1 A1 H1 _ st1 fun l M2 S2 A2 H2 s2 st2 h2 => ?_⟩
    obtain ⟨th, hph, hh⟩ := h2
    refine ⟨th, hph, hh σ S2 A2 H2 _ st2 fun u M3 S3 A3 H3 s3 st3 h3 => ?_⟩
    obtain ⟨d', hd, q⟩ := h3
    have r3 := (r1.mono s2.s s2.a).mono s3.s s3.a
    have p3 := p.after ((s1.trans s2).trans s3)
    cases hd with
    | l i =>
      obtain ⟨x, us, ev, g, q1⟩ := i.at st3 r3
      subst ev
      refine .inl ⟨x, us, rfl, g, fun y hy => ?_⟩
      obtain ⟨s4, st4⟩ := st3.lay (o := .lst (cutV us l u)) hy
      exact (p3.after s4).here st4 (.lst upd_same ((cut_rep l u q1).mono s4.s s4.a)) q
    | t =>
      obtain ⟨x, us, ev, g, q1⟩ := (IsT.tup _).at st3 r3
      subst ev
      refine .inr (.inl ⟨x, us, rfl, g, fun hw => ?_, fun hw y hy => ?_⟩)
      · rw [← q1.length] at hw
        rw [cutD_whole hw] at q
        exact p3.here st3 r3 q
      · obtain ⟨s4, st4⟩ := st3.lay (o := .tup (cutV us l u)) hy
        exact (p3.after s4).here st4 (.tup (SqT.of upd_same) ((cut_rep l u q1).mono s4.s s4.a)) q
    | s z =>
      cases r3
      exact .inr (.inr ⟨_, rfl, z, p3.here st3 (.str _) q⟩)
/-- a list's slice that stays ours -/
theorem A_slC {p2 : Pos} {lo hi : Option Expr} (h : AE X b a Γ M fun d M1 => AO X b lo Γ M1 fun l M2 => AO X b hi Γ M2 fun u M3 => ∃ ds, IsR M3 d ds ∧ R (.ptr M3.length) (M3 ++ [.lst (cutD ds l u)])) : AE X b (.Subscript a (.Slice lo hi none p2) pos) Γ M R :=
  AE.of (pe_slice sl_list pe_tW po_tW po_tW) fun σ S A H Q st p => h σ S A H _ st fun v d M1 S1 A1 H1 s1 st1 r1 h1 => by
    obtain ⟨tl, hpl, hl⟩ := h1
    refine ⟨tl, hpl, hl σ S1 A1 H1 _ st1 fun l M2 S2 A2 H2 s2 st2 h2 => ?_⟩
    obtain ⟨th, hph, hh⟩ := h2
    refine ⟨th, hph, hh σ S2 A2 H2 _ st2 fun u M3 S3 A3 H3 s3 st3 h3 => ?_⟩
    obtain ⟨ds, i, q⟩ := h3
    have r3 := (r1.mono s2.s s2.a).mono s3.s s3.a
    have p3 := p.after ((s1.trans s2).trans s3)
    obtain ⟨x, us, ev, g, q1⟩ := i.at st3 r3
    subst ev
    refine ⟨x, us, rfl, g, fun y hy => ?_⟩
    obtain ⟨s4, st4⟩ := st3.layCell (o := .lst (cutV us l u)) (c := .lst (cutD ds l u)) hy ⟨_, upd_same, (cut_rep l u q1).mono (Same.refl _) (List.prefix_append _ _)⟩
    refine (p3.after s4).here st4 (.ptr ?_) q
    rw [← st3.len, List.getElem?_append_right (Nat.le_refl _), Nat.sub_self] <;> rfl

/-! ### chains of comparisons of ints -/
inductive CmpI : CmpOp → Int → Int → Bool → Prop
  | lt (i j : Int) : CmpI .Lt i j (decide (i < j))
  | le (i j : Int) : CmpI .LtE i j (decide (i ≤ j))
  | gt (i j : Int) : CmpI .Gt i j (decide (j < i))
  | ge (i j : Int) : CmpI .GtE i j (decide (j ≤ i))
  | eq (i j : Int) : CmpI .Eq i j (decide (i = j))
def rCI (op : CmpOp) : R2 := fun x y H Q => ∃ i j k, x = .int i ∧ y = .int j ∧ CmpI op i j k ∧ Q (.bl k) H
theorem op_CI {op : CmpOp} : OpR X (compareOp op) (rCI op) := by
  intro pins s σ H x y v u Q I rx ry h
  obtain ⟨i, j, k, e1, e2, hk, q⟩ := h
  subst e1 e2
  cases hk with
  | lt => exact op_lt pins s σ H _ _ v u Q I rx ry ⟨i, j, rfl, rfl, q⟩
  | le => exact op_le pins s σ H _ _ v u Q I rx ry ⟨i, j, rfl, rfl, q⟩
  | gt => exact op_gt pins s σ H _ _ v u Q I rx ry ⟨i, j, rfl, rfl, q⟩
  | ge => exact op_ge pins s σ H _ _ v u Q I rx ry ⟨i, j, rfl, rfl, q⟩
  | eq => exact op_eq pins s σ H _ _ v u Q I rx ry ⟨rfl, by rw [show decide (V.int i = V.int j) = decide (i = j) by simp]; exact q⟩
theorem pe_chain3 {op op' op'' : CmpOp} {ta tb tc td : TE} {e0 : Expr} (ha : PE X e0 ta) (hb : PE X e1 tb) (hc : PE X e2 tc) (hd : PE X e3 td)
    (hm : lastMarks [op, op', op''] [e1, e2, e3] = false := by with_unfolding_all rfl) : PE X (.Compare e0 [op, op', op''] [e1, e2, e3] pos)
      (fun σ H Q => ta σ H fun x H1 => tb σ H1 fun y H2 => rCI op x y H2 fun z H3 => ∃ k, z = .bl k ∧ (if k = true then tc σ H3 fun w H4 => rCI op' y w H4 fun z2 H5 => ∃ k2, z2 = .bl k2 ∧ (if k2 = true then td σ H5 fun w2 H6 => rCI op'' w w2 H6 Q else Q (.bl false) H5) else Q (.bl false) H3)) := by
  refine ⟨fun pins s σ H Q I h => ?_⟩
  refine PyProof.Rows.Compare_chain (thn (ha.run pins s σ H _ I h) fun v s1 ⟨x, H1, I1, r1, q1⟩ => PyProof.Rows.chain_link (thn (hb.run pins s1 σ H1 _ I1 q1) fun u s2 ⟨y, H2, I2, r2, q2⟩ =>
    thn (op_CI pins s2 σ H2 x y v u _ I2 r1 r2 q2) fun d s3 ⟨z, H3, I3, r3, k, e, q3⟩ => ?_)) hm
  subst e
  cases r3
  refine wpAny_truthy_bool ?_
  cases k with
  | false => exact iteF ⟨.bl false, H3, I3, rfl, q3⟩
  | true =>
    refine iteT (PyProof.Rows.chain_link (thn (hc.run pins s3 σ H3 _ I3 q3) fun w s4 ⟨z', H4, I4, r4, q4⟩ => thn (op_CI pins s4 σ H4 y z' u w _ I4 r2 r4 q4) fun d s5 ⟨z2, H5, I5, r5, k2, e2, q5⟩ => ?_))
    subst e2
    cases r5
    refine wpAny_truthy_bool ?_
    cases k2 with
    | false => exact iteF ⟨.bl false, H5, I5, rfl, q5⟩
    | true => exact iteT (PyProof.Rows.chain_last (thn (hd.run pins s5 σ H5 _ I5 q5) fun w2 s6 ⟨z3, H6, I6, r6, q6⟩ => op_CI pins s6 σ H6 z' z3 w w2 Q I6 r4 r6 q6))
theorem A_chain {op op' : CmpOp} (h : AE X b a Γ M fun d1 M1 => AE X b e1 Γ M1 fun d2 M2 => ∃ i j k, d1 = .int i ∧ d2 = .int j ∧ CmpI op i j k ∧ (k = true → AE X b e2 Γ M2 fun d3 M3 => ∃ l k', d3 = .int l ∧ CmpI op' j l k' ∧ R (.bl k') M3) ∧ (k = false → R (.bl false) M2))
    (hm : lastMarks [op, op'] [e1, e2] = false := by with_unfolding_all rfl) : AE X b (.Compare a [op, op'] [e1, e2] pos) Γ M R :=
  AE.of (pe_chain op_CI op_CI pe_tW pe_tW pe_tW hm) fun σ S A H Q st p => h σ S A H _ st fun v1 d1 M1 S1 A1 H1 s1 st1 r1 h1 => h1 σ S1 A1 H1 _ st1 fun v2 d2 M2 S2 A2 H2 s2 st2 r2 h2 => by
    obtain ⟨i, j, k, z1, z2, hk, y1, y2⟩ := h2
    subst z1 z2
    cases r1
    cases r2
    refine ⟨i, j, k, rfl, rfl, hk, k, rfl, ?_⟩
    cases k with
    | false => exact iteF ((p.after (s1.trans s2)).here st2 (.bl _) (y2 rfl))
    | true => exact iteT (y1 rfl σ S2 A2 H2 _ st2 fun v3 d3 M3 S3 A3 H3 s3 st3 r3 h3 => by
        obtain ⟨l, k', z3, hk', q⟩ := h3
        subst z3
        cases r3
        exact ⟨j, l, k', rfl, rfl, hk', ((p.after (s1.trans s2)).after s3).here st3 (.bl _) q⟩)
theorem T_chain {op op' : CmpOp} (h : AE X b a Γ M fun d1 M1 => AE X b e1 Γ M1 fun d2 M2 => ∃ i j k, d1 = .int i ∧ d2 = .int j ∧ CmpI op i j k ∧ (k = true → AE X b e2 Γ M2 fun d3 M3 => ∃ l k', d3 = .int l ∧ CmpI op' j l k' ∧ RT k' M3) ∧ (k = false → RT false M2))
    (hm : lastMarks [op, op'] [e1, e2] = false := by with_unfolding_all rfl) : AT X b (.Compare a [op, op'] [e1, e2] pos) Γ M RT :=
  AT.of (pt_chain op_CI op_CI pe_tW pe_tW pe_tW hm) fun σ S A H Q st p => h σ S A H _ st fun v1 d1 M1 S1 A1 H1 s1 st1 r1 h1 => h1 σ S1 A1 H1 _ st1 fun v2 d2 M2 S2 A2 H2 s2 st2 r2 h2 => by
    obtain ⟨i, j, k, z1, z2, hk, y1, y2⟩ := h2
    subst z1 z2
    cases r1
    cases r2
    refine ⟨i, j, k, rfl, rfl, hk, k, rfl, ?_⟩
    cases k with
    | false => exact iteF ⟨false, rfl, p false M2 S2 A2 H2 (s1.trans s2) st2 (y2 rfl)⟩
    | true => exact iteT (y1 rfl σ S2 A2 H2 _ st2 fun v3 d3 M3 S3 A3 H3 s3 st3 r3 h3 => by
        obtain ⟨l, k', z3, hk', q⟩ := h3
        subst z3
        cases r3
        exact ⟨j, l, k', rfl, rfl, hk', k', rfl, p k' M3 S3 A3 H3 ((s1.trans s2).trans s3) st3 q⟩)
theorem A_chain3 {op op' op'' : CmpOp} (h : AE X b a Γ M fun d1 M1 => AE X b e1 Γ M1 fun d2 M2 => ∃ i j k, d1 = .int i ∧ d2 = .int j ∧ CmpI op i j k ∧ (k = false → R (.bl false) M2) ∧ (k = true → AE X b e2 Γ M2 fun d3 M3 => ∃ l k', d3 = .int l ∧ CmpI op' j l k' ∧ (k' = false → R (.bl false) M3) ∧
      (k' = true → AE X b e3 Γ M3 fun d4 M4 => ∃ n k'', d4 = .int n ∧ CmpI op'' l n k'' ∧ R (.bl k'') M4)))
    (hm : lastMarks [op, op', op''] [e1, e2, e3] = false := by with_unfolding_all rfl) : AE X b (.Compare a [op, op', op''] [e1, e2, e3] pos) Γ M R :=
  AE.of (pe_chain3 pe_tW pe_tW pe_tW pe_tW hm) fun σ S A H Q st p => h σ S A H _ st fun v1 d1 M1 S1 A1 H1 s1 st1 r1 h1 => h1 σ S1 A1 H1 _ st1 fun v2 d2 M2 S2 A2 H2 s2 st2 r2 h2 => by
    obtain ⟨i, j, k, z1, z2, hk, y2, y1⟩ := h2
    subst z1 z2
    cases r1
    cases r2
    refine ⟨i, j, k, rfl, rfl, hk, k, rfl, ?_⟩
    cases k with
    | false => exact iteF ((p.after (s1.trans s2)).here st2 (.bl _) (y2 rfl))
    | true => exact iteT (y1 rfl σ S2 A2 H2 _ st2 fun v3 d3 M3 S3 A3 H3 s3 st3 r3 h3 => by
        obtain ⟨l, k', z3, hk', x2, x1⟩ := h3
        subst z3
        cases r3
        refine ⟨j, l, k', rfl, rfl, hk', k', rfl, ?_⟩
        cases k' with
        | false => exact iteF (((p.after (s1.trans s2)).after s3).here st3 (.bl _) (x2 rfl))
        | true => exact iteT (x1 rfl σ S3 A3 H3 _ st3 fun v4 d4 M4 S4 A4 H4 s4 st4 r4 h4 => by
            obtain ⟨n, k'', z4, hk'', q⟩ := h4
            subst z4
            cases r4
            exact ⟨l, n, k'', rfl, rfl, hk'', (((p.after (s1.trans s2)).after s3).after s4).here st4 (.bl _) q⟩))

/-! ### a built-in called by its name -/
def CallD (K : PySem.W.Frag) (b : Bas) (r : List V → Hp → VK → Prop) (ds : List Dat) (Γ : Gam) (M : Mem) (R : Dat → Mem → Prop) : Prop :=
  ∀ σ S A H vs Q, Stt K b σ S A H Γ M → Reps K S A ds vs → Post K b σ S A H Γ R Q → r vs H Q
theorem A_blt {id : String} {x : Str} {r : List V → Hp → VK → Prop} {p : Pos} (hc : CallR X (.builtin id) r) (hg : Gl X x) (hm : X.mg x = none) (hv : bootBuiltins x = some (.builtin id)) (h : AA X b (e :: es) Γ M fun ds M1 => CallD X.K b r ds Γ M1 R)
    (hn : x ≠ "__name__" := by decide) (hdb : (x == ("__debug__" : Str)) = false := by decide) (he : starEach (e :: es) X.env = (false, eval e X.env) :: starEach es X.env := by rfl) (hpl : (backTo pos (starEach es X.env)).any (·.1) = false := by rfl) : AE X b (.Call (.Name x p) (e :: es) [] pos) Γ M R :=
  AE.of (pe_callB hc hg hm hv pa_tW hn hdb he hpl) fun σ S A H Q st p => h σ S A H _ st fun vs ds M1 S1 A1 H1 s1 st1 r1 q => q σ S1 A1 H1 vs Q st1 r1 (p.after s1)
theorem A_ty {T : String} {x : Str} {r : List V → Hp → VK → Prop} {p : Pos} (hc : CallR X (.type T) r) (hg : Gl X x) (hm : X.mg x = none) (hv : bootBuiltins x = some (.type T)) (h : AA X b (e :: es) Γ M fun ds M1 => CallD X.K b r ds Γ M1 R)
    (hn : x ≠ "__name__" := by decide) (hdb : (x == ("__debug__" : Str)) = false := by decide) (he : starEach (e :: es) X.env = (false, eval e X.env) :: starEach es X.env := by rfl) (hpl : (backTo pos (starEach es X.env)).any (·.1) = false := by rfl) : AE X b (.Call (.Name x p) (e :: es) [] pos) Γ M R :=
  AE.of (pe_callTy hc hg hm hv pa_tW hn hdb he hpl) fun σ S A H Q st p => h σ S A H _ st fun vs ds M1 S1 A1 H1 s1 st1 r1 q => q σ S1 A1 H1 vs Q st1 r1 (p.after s1)
theorem Reps.one {S : Hp} {A : List Addr} {d : Dat} {vs : List V} (h : Reps K S A [d] vs) : ∃ v, vs = [v] ∧ Rep K S A d v := by
  cases h with
  | cons r t => cases t; exact ⟨_, rfl, r⟩
theorem Reps.two {S : Hp} {A : List Addr} {d d' : Dat} {vs : List V} (h : Reps K S A [d, d'] vs) : ∃ v v', vs = [v, v'] ∧ Rep K S A d v ∧ Rep K S A d' v' := by
  cases h with
  | cons r t =>
    cases t with
    | cons r' t' => cases t'; exact ⟨_, _, rfl, r, r'⟩

/-! ### len, abs, int, str .. of data -/
inductive LenD (M : Mem) : Dat → Nat → Prop
  | l {d : Dat} {ds : List Dat} : IsR M d ds → LenD M d ds.length
  | t (ds : List Dat) : LenD M (.tup ds) ds.length
  | s {z : Str} : z.length ≤ sizeLine → LenD M (.str z) z.length
theorem A_len {p : Pos} (hg : Gl X "len") (hm : X.mg "len" = none) (h : AE X b e Γ M fun d M1 => ∃ n : Nat, LenD M1 d n ∧ R (.int n) M1) (he : starEach [e] X.env = (false, eval e X.env) :: starEach [] X.env := by rfl) : AE X b (.Call (.Name "len" p) [e] [] pos) Γ M R :=
  A_blt call_len hg hm PySem.boot_len (L_cons (h.imp fun d M1 ⟨n, hn, q⟩ => L_nil fun σ S A H vs Q st r1 p => by
    obtain ⟨v, ev, r⟩ := r1.one
    subst ev
    cases hn with
    | l i =>
      obtain ⟨x, us, e1, g, q1⟩ := i.at st r
      subst e1
      exact ⟨_, _, rfl, .inl ⟨us, g, rfl⟩, p.here st (.int _) (by rw [← q1.length]; exact q)⟩
    | t ds =>
      obtain ⟨x, us, e1, g, q1⟩ := (IsT.tup _).at st r
      subst e1
      exact ⟨_, _, rfl, .inr ⟨us, g, rfl⟩, p.here st (.int _) (by rw [← q1.length]; exact q)⟩
    | s z =>
      cases r
      exact ⟨_, _, rfl, ⟨z, rfl⟩, p.here st (.int _) q⟩) he) (by decide) (by decide) he
theorem A_abs {p : Pos} (hg : Gl X "abs") (hm : X.mg "abs" = none) (h : AE X b e Γ M fun d M1 => ∃ i : Int, d = .int i ∧ R (.int (if i < 0 then -i else i)) M1) (he : starEach [e] X.env = (false, eval e X.env) :: starEach [] X.env := by rfl) : AE X b (.Call (.Name "abs" p) [e] [] pos) Γ M R :=
  A_blt call_abs hg hm (by decide +kernel) (L_cons (h.imp fun d M1 ⟨n, hn, q⟩ => L_nil fun σ S A H vs Q st r1 p => by
    obtain ⟨v, ev, r⟩ := r1.one
    subst ev hn
    cases r
    exact ⟨_, rfl, p.here st (.int _) q⟩) he) (by decide) (by decide) he
inductive IntD : Dat → Int → Prop
  | i (n : Int) : IntD (.int n) n
  | b (k : Bool) : IntD (.bl k) (if k then 1 else 0)
theorem A_intC {p : Pos} (hg : Gl X "int") (hm : X.mg "int" = none) (h : AE X b e Γ M fun d M1 => ∃ i : Int, IntD d i ∧ R (.int i) M1) (he : starEach [e] X.env = (false, eval e X.env) :: starEach [] X.env := by rfl) : AE X b (.Call (.Name "int" p) [e] [] pos) Γ M R :=
  A_ty call_int1 hg hm (by decide +kernel) (L_cons (h.imp fun d M1 ⟨n, hn, q⟩ => L_nil fun σ S A H vs Q st r1 p => by
    obtain ⟨v, ev, r⟩ := r1.one
    subst ev
    cases hn with
    | i n => cases r; exact .inl ⟨_, rfl, p.here st (.int _) q⟩
    | b k => cases r; exact .inr ⟨_, rfl, p.here st (.int _) q⟩) he) (by decide) (by decide) he
theorem A_max2 {p : Pos} (hc : X.calm = true) (hg : Gl X "max") (hm : X.mg "max" = none) (h : AE X b e1 Γ M fun d1 M1 => AE X b e2 Γ M1 fun d2 M2 => ∃ i j : Int, d1 = .int i ∧ d2 = .int j ∧ R (.int (if j > i then j else i)) M2)
    (he : starEach [e1, e2] X.env = (false, eval e1 X.env) :: starEach [e2] X.env := by rfl) (he2 : starEach [e2] X.env = (false, eval e2 X.env) :: starEach [] X.env := by rfl) (hpl : (backTo pos (starEach [e2] X.env)).any (·.1) = false := by rfl) : AE X b (.Call (.Name "max" p) [e1, e2] [] pos) Γ M R :=
  A_blt (call_max2 hc) hg hm (by decide +kernel) (L_cons (h.imp fun d M1 h1 => L_cons (h1.imp fun d2 M2 ⟨i, j, z1, z2, q⟩ => L_nil fun σ S A H vs Q st r1 p => by
    obtain ⟨v, v', ev, r, r'⟩ := r1.two
    subst ev z1 z2
    cases r
    cases r'
    exact ⟨_, _, rfl, p.here st (.int _) q⟩) he2) he) (by decide) (by decide) he hpl
theorem A_min2 {p : Pos} (hc : X.calm = true) (hg : Gl X "min") (hm : X.mg "min" = none) (h : AE X b e1 Γ M fun d1 M1 => AE X b e2 Γ M1 fun d2 M2 => ∃ i j : Int, d1 = .int i ∧ d2 = .int j ∧ R (.int (if j < i then j else i)) M2)
    (he : starEach [e1, e2] X.env = (false, eval e1 X.env) :: starEach [e2] X.env := by rfl) (he2 : starEach [e2] X.env = (false, eval e2 X.env) :: starEach [] X.env := by rfl) (hpl : (backTo pos (starEach [e2] X.env)).any (·.1) = false := by rfl) : AE X b (.Call (.Name "min" p) [e1, e2] [] pos) Γ M R :=
  A_blt (call_min2 hc) hg hm (by decide +kernel) (L_cons (h.imp fun d M1 h1 => L_cons (h1.imp fun d2 M2 ⟨i, j, z1, z2, q⟩ => L_nil fun σ S A H vs Q st r1 p => by
    obtain ⟨v, v', ev, r, r'⟩ := r1.two
    subst ev z1 z2
    cases r
    cases r'
    exact ⟨_, _, rfl, p.here st (.int _) q⟩) he2) he) (by decide) (by decide) he hpl
/-- list(x) -/
inductive SeqD (M : Mem) : Dat → List Dat → Prop
  | l {d : Dat} {ds : List Dat} : IsR M d ds → SeqD M d ds
  | t (ds : List Dat) : SeqD M (.tup ds) ds
theorem SeqD.at {b : Bas} {σ : L2.St} {S : Hp} {A : List Addr} {H : Hp} {d : Dat} {ds : List Dat} {v : V} (i : SeqD M d ds) (st : Stt K b σ S A H Γ M) (r : Rep K S A d v) : ∃ a xs, v = .ref a ∧ (SqL K H a xs ∨ SqT K H a xs) ∧ Reps K S A ds xs := by
  cases i with
  | l i =>
    obtain ⟨x, us, e1, g, q1⟩ := i.at st r
    exact ⟨x, us, e1, .inl g, q1⟩
  | t =>
    obtain ⟨x, us, e1, g, q1⟩ := (IsT.tup _).at st r
    exact ⟨x, us, e1, .inr g, q1⟩
theorem A_list {p : Pos} (hg : Gl X "list") (hm : X.mg "list" = none) (h : AE X b e Γ M fun d M1 => ∃ ds, SeqD M1 d ds ∧ R (.lst ds) M1) (he : starEach [e] X.env = (false, eval e X.env) :: starEach [] X.env := by rfl) : AE X b (.Call (.Name "list" p) [e] [] pos) Γ M R :=
  A_ty call_list_of hg hm PyProof.Rows.boot_list (L_cons (h.imp fun d M1 ⟨ds, hn, q⟩ => L_nil fun σ S A H vs Q st r1 p => by
    obtain ⟨v, ev, r⟩ := r1.one
    subst ev
    obtain ⟨x, us, e1, g, q1⟩ := hn.at st r
    subst e1
    refine ⟨x, us, rfl, g, fun y hy => ?_⟩
    obtain ⟨s4, st4⟩ := st.lay (o := .lst us) hy
    exact (p.after s4).here st4 (.lst upd_same (q1.mono s4.s s4.a)) q) he) (by decide) (by decide) he
theorem A_listC {p : Pos} (hg : Gl X "list") (hm : X.mg "list" = none) (h : AE X b e Γ M fun d M1 => ∃ ds, SeqD M1 d ds ∧ R (.ptr M1.length) (M1 ++ [.lst ds])) (he : starEach [e] X.env = (false, eval e X.env) :: starEach [] X.env := by rfl) : AE X b (.Call (.Name "list" p) [e] [] pos) Γ M R :=
  A_ty call_list_of hg hm PyProof.Rows.boot_list (L_cons (h.imp fun d M1 ⟨ds, hn, q⟩ => L_nil fun σ S A H vs Q st r1 p => by
    obtain ⟨v, ev, r⟩ := r1.one
    subst ev
    obtain ⟨x, us, e1, g, q1⟩ := hn.at st r
    subst e1
    refine ⟨x, us, rfl, g, fun y hy => ?_⟩
    obtain ⟨s4, st4⟩ := st.layCell (o := .lst us) (c := .lst ds) hy ⟨_, upd_same, q1.mono (Same.refl _) (List.prefix_append _ _)⟩
    refine (p.after s4).here st4 (.ptr ?_) q
    rw [← st.len, List.getElem?_append_right (Nat.le_refl _), Nat.sub_self] <;> rfl) he) (by decide) (by decide) he
theorem A_tuple {p : Pos} (hg : Gl X "tuple") (hm : X.mg "tuple" = none) (h : AE X b e Γ M fun d M1 => ∃ ds, SeqD M1 d ds ∧ R (.tup ds) M1) (he : starEach [e] X.env = (false, eval e X.env) :: starEach [] X.env := by rfl) : AE X b (.Call (.Name "tuple" p) [e] [] pos) Γ M R :=
  A_ty call_tuple_of hg hm PyProof.Rows.boot_tuple (L_cons (h.imp fun d M1 ⟨ds, hn, q⟩ => L_nil fun σ S A H vs Q st r1 p => by
    obtain ⟨v, ev, r⟩ := r1.one
    subst ev
    cases hn with
    | l i =>
      obtain ⟨x, us, e1, g, q1⟩ := i.at st r
      subst e1
      refine ⟨x, us, rfl, .inl ⟨g, fun y hy => ?_⟩⟩
      obtain ⟨s4, st4⟩ := st.lay (o := .tup us) hy
      exact (p.after s4).here st4 (.tup (SqT.of upd_same) (q1.mono s4.s s4.a)) q
    | t =>
      obtain ⟨x, us, e1, g, q1⟩ := (IsT.tup _).at st r
      subst e1
      exact ⟨x, us, rfl, .inr ⟨g, p.here st r q⟩⟩) he) (by decide) (by decide) he
/-- sum, all, any of a list -/
theorem A_sum {p : Pos} (hc : X.calm = true) (hg : Gl X "sum") (hm : X.mg "sum" = none) (h : AE X b e Γ M fun d M1 => ∃ ns : List Int, IsR M1 d (ns.map .int) ∧ R (.int ns.sum) M1) (he : starEach [e] X.env = (false, eval e X.env) :: starEach [] X.env := by rfl) : AE X b (.Call (.Name "sum" p) [e] [] pos) Γ M R :=
  A_blt (cr_sum hc) hg hm (by decide +kernel) (L_cons (h.imp fun d M1 ⟨ds, hn, q⟩ => L_nil fun σ S A H vs Q st r1 p => by
    obtain ⟨v, ev, r⟩ := r1.one
    subst ev
    obtain ⟨x, us, e1, g, q1⟩ := hn.at st r
    subst e1
    have e2 := q1.ints
    subst e2
    exact ⟨x, ds, rfl, g, p.here st (.int _) q⟩) he) (by decide) (by decide) he
theorem A_all {p : Pos} (hc : X.calm = true) (hg : Gl X "all") (hm : X.mg "all" = none) (h : AE X b e Γ M fun d M1 => ∃ ns : List Bool, IsR M1 d (ns.map .bl) ∧ R (.bl (ns.all id)) M1) (he : starEach [e] X.env = (false, eval e X.env) :: starEach [] X.env := by rfl) : AE X b (.Call (.Name "all" p) [e] [] pos) Γ M R :=
  A_blt (cr_all hc) hg hm (by decide +kernel) (L_cons (h.imp fun d M1 ⟨ds, hn, q⟩ => L_nil fun σ S A H vs Q st r1 p => by
    obtain ⟨v, ev, r⟩ := r1.one
    subst ev
    obtain ⟨x, us, e1, g, q1⟩ := hn.at st r
    subst e1
    have e2 := q1.bls
    subst e2
    exact ⟨x, ds, rfl, g, p.here st (.bl _) q⟩) he) (by decide) (by decide) he
theorem A_any {p : Pos} (hc : X.calm = true) (hg : Gl X "any") (hm : X.mg "any" = none) (h : AE X b e Γ M fun d M1 => ∃ ns : List Bool, IsR M1 d (ns.map .bl) ∧ R (.bl (ns.any id)) M1) (he : starEach [e] X.env = (false, eval e X.env) :: starEach [] X.env := by rfl) : AE X b (.Call (.Name "any" p) [e] [] pos) Γ M R :=
  A_blt (cr_any hc) hg hm (by decide +kernel) (L_cons (h.imp fun d M1 ⟨ds, hn, q⟩ => L_nil fun σ S A H vs Q st r1 p => by
    obtain ⟨v, ev, r⟩ := r1.one
    subst ev
    obtain ⟨x, us, e1, g, q1⟩ := hn.at st r
    subst e1
    have e2 := q1.bls
    subst e2
    exact ⟨x, ds, rfl, g, p.here st (.bl _) q⟩) he) (by decide) (by decide) he
end
end Ab
end

section
set_option Elab.async false
set_option linter.all false
set_option maxRecDepth 100000
set_option maxHeartbeats 4000000
namespace Ab
open PySem L2

/-! ### statements -/
structure AEnds where
  nx : Gam → Mem → Prop
  rt : Dat → Mem → Prop
  bk : Gam → Mem → Prop := fun _ _ => False
  ct : Gam → Mem → Prop := fun _ _ => False
structure RealD (K : PySem.W.Frag) (b : Bas) (S : Hp) (A : List Addr) (H : Hp) (D : AEnds) (D' : Ends) : Prop where
  nx : ∀ σ' S' A' H' Γ' M', Step S A H S' A' H' → Stt K b σ' S' A' H' Γ' M' → D.nx Γ' M' → D'.nx σ' H'
  rt : ∀ σ' S' A' H' Γ' M' v d, Step S A H S' A' H' → Stt K b σ' S' A' H' Γ' M' → Rep K S' A' d v → D.rt d M' → D'.rt v H'
  bk : ∀ σ' S' A' H' Γ' M', Step S A H S' A' H' → Stt K b σ' S' A' H' Γ' M' → D.bk Γ' M' → D'.bk σ' H'
  ct : ∀ σ' S' A' H' Γ' M', Step S A H S' A' H' → Stt K b σ' S' A' H' Γ' M' → D.ct Γ' M' → D'.ct σ' H'
theorem RealD.after {K : PySem.W.Frag} {b : Bas} {S S1 : Hp} {A A1 : List Addr} {H H1 : Hp} {D : AEnds} {D' : Ends} (r : RealD K b S A H D D') (s : Step S A H S1 A1 H1) : RealD K b S1 A1 H1 D D' :=
  ⟨fun σ' S' A' H' Γ' M' s' => r.nx σ' S' A' H' Γ' M' (s.trans s'), fun σ' S' A' H' Γ' M' v d s' => r.rt σ' S' A' H' Γ' M' v d (s.trans s'), fun σ' S' A' H' Γ' M' s' => r.bk σ' S' A' H' Γ' M' (s.trans s'), fun σ' S' A' H' Γ' M' s' => r.ct σ' S' A' H' Γ' M' (s.trans s')⟩
def SV (K : PySem.W.Frag) (b : Bas) (t : TS) (Γ : Gam) (M : Mem) (D : AEnds) : Prop := ∀ σ S A H D', Stt K b σ S A H Γ M → RealD K b S A H D D' → t D' σ H
def AS (X : Cx) (b : Bas) (st : Stmt) (Γ : Gam) (M : Mem) (D : AEnds) : Prop := SV X.K b (tWS X st) Γ M D
def ASs (X : Cx) (b : Bas) (sts : List Stmt) (Γ : Gam) (M : Mem) (D : AEnds) : Prop := SV X.K b (tWSs X sts) Γ M D
theorem AS.of {X : Cx} {b : Bas} {st : Stmt} {t : TS} {Γ : Gam} {M : Mem} {D : AEnds} (hp : PS X st t) (h : SV X.K b t Γ M D) : AS X b st Γ M D := fun σ S A H D' s r pins s' I => hp.run pins s' σ H D' I (h σ S A H D' s r)
theorem ASs.of {X : Cx} {b : Bas} {st : List Stmt} {t : TS} {Γ : Gam} {M : Mem} {D : AEnds} (hp : PSs X st t) (h : SV X.K b t Γ M D) : ASs X b st Γ M D := fun σ S A H D' s r pins s' I => hp.run pins s' σ H D' I (h σ S A H D' s r)

section
variable {X : Cx} {b : Bas} {Γ : Gam} {M : Mem} {D : AEnds} {e a c e1 e2 e3 : Expr} {es rest : List Expr} {pos : Pos} {K : PySem.W.Frag} {st : Stmt} {sts s1 s2 : List Stmt} {t u : TS}
theorem AS.imp {D2 : AEnds} (h : AS X b st Γ M D) (h1 : ∀ Γ M, D.nx Γ M → D2.nx Γ M) (h2 : ∀ Γ M, D.rt Γ M → D2.rt Γ M) (h3 : ∀ Γ M, D.bk Γ M → D2.bk Γ M) (h4 : ∀ Γ M, D.ct Γ M → D2.ct Γ M) : AS X b st Γ M D2 := fun σ S A H D' s r =>
  h σ S A H D' s ⟨fun σ' S' A' H' Γ' M' s' t' q => r.nx σ' S' A' H' Γ' M' s' t' (h1 _ _ q), fun σ' S' A' H' Γ' M' v d s' t' rr q => r.rt σ' S' A' H' Γ' M' v d s' t' rr (h2 _ _ q), fun σ' S' A' H' Γ' M' s' t' q => r.bk σ' S' A' H' Γ' M' s' t' (h3 _ _ q), fun σ' S' A' H' Γ' M' s' t' q => r.ct σ' S' A' H' Γ' M' s' t' (h4 _ _ q)⟩
theorem S_nil (h : D.nx Γ M) : ASs X b [] Γ M D := ASs.of pss_nil fun σ S A H D' s r => r.nx σ S A H Γ M (Step.refl _ _ _) s h
theorem S_cons (h : AS X b st Γ M { D with nx := fun Γ' M' => ASs X b sts Γ' M' D }) : ASs X b (st :: sts) Γ M D :=
  ASs.of (pss_cons ps_tW pss_tW) fun σ S A H D' s r => h σ S A H _ s ⟨fun σ' S' A' H' Γ' M' s' t' q => q σ' S' A' H' D' t' (r.after s'), r.rt, r.bk, r.ct⟩
theorem S_pass (h : D.nx Γ M) : AS X b (.Pass pos) Γ M D := AS.of ps_pass fun σ S A H D' s r => r.nx σ S A H Γ M (Step.refl _ _ _) s h
theorem S_break (h : D.bk Γ M) : AS X b (.Break pos) Γ M D := AS.of ps_break fun σ S A H D' s r => r.bk σ S A H Γ M (Step.refl _ _ _) s h
theorem S_continue (h : D.ct Γ M) : AS X b (.Continue pos) Γ M D := AS.of ps_continue fun σ S A H D' s r => r.ct σ S A H Γ M (Step.refl _ _ _) s h
theorem S_ret (h : AE X b e Γ M fun d M1 => D.rt d M1) : AS X b (.Return (some e) pos) Γ M D := AS.of (ps_ret pe_tW) fun σ S A H D' s r => h σ S A H _ s fun v d M1 S1 A1 H1 s1 st1 r1 q => r.rt σ S1 A1 H1 Γ M1 v d s1 st1 r1 q
theorem S_retN (h : D.rt .non M) : AS X b (.Return none pos) Γ M D := AS.of ps_retN fun σ S A H D' s r => r.rt σ S A H Γ M _ _ (Step.refl _ _ _) s .non h
theorem S_if {b1 b2 : List Stmt} (h : AT X b c Γ M fun k M1 => (k = true → ASs X b b1 Γ M1 D) ∧ (k = false → ASs X b b2 Γ M1 D)) : AS X b (.If c b1 b2 pos) Γ M D :=
  AS.of (ps_if pt_tW pss_tW pss_tW) fun σ S A H D' s r => h σ S A H _ s fun k M1 S1 A1 H1 s1 st1 ⟨q1, q2⟩ => by
    cases k with
    | true => exact q1 rfl σ S1 A1 H1 D' st1 (r.after s1)
    | false => exact q2 rfl σ S1 A1 H1 D' st1 (r.after s1)
theorem S_expr (h : AE X b e Γ M fun _ M1 => D.nx Γ M1) (hs : swapsWith e none pos.line X.env = pure false := by rfl) : AS X b (.Expr e pos) Γ M D :=
  AS.of (ps_expr pe_tW hs) fun σ S A H D' s r => h σ S A H _ s fun v d M1 S1 A1 H1 s1 st1 r1 q => r.nx σ S1 A1 H1 Γ M1 s1 st1 q
theorem S_set (i : Nat) {x : Str} {p2 : Pos} (hN : X.N.Nodup) (hi : X.N[i]? = some x) (hx : Loc X.env.scope x) (h : AE X b e Γ M fun d M1 => D.nx (Γ.set i (some d)) M1) (hs : swapsWith e (some (.Name x p2)) pos.line X.env = pure false := by rfl)
    (hf : X.fn x = true ∨ X.env.scope.names.lookup x = some .local := by first | exact .inl rfl | exact .inr rfl | assumption) : AS X b (.Assign [.Name x p2] e pos) Γ M D :=
  AS.of (ps_set hN hi hx pe_tW hs hf) fun σ S A H D' s r => h σ S A H _ s fun v d M1 S1 A1 H1 s1 st1 r1 q => r.nx _ S1 A1 H1 _ M1 s1 (st1.set r1) q
theorem S_par2 (i j : Nat) {x y : Str} {px py pt p2 : Pos} {kt k2 : Nat} (hc : X.calm = true) (hN : X.N.Nodup) (hi : X.N[i]? = some x) (hj : X.N[j]? = some y) (hij : i ≠ j) (hx : X.env.scope.names.lookup x = some .local) (hy : X.env.scope.names.lookup y = some .local)
    (hw : swappedStores [.Tuple [.Name x px, .Name y py] kt pt] (.Tuple [e1, e2] k2 p2) X.env = pure (some [x, y])) (h : AE X b e1 Γ M fun d1 M1 => AE X b e2 Γ M1 fun d2 M2 => D.nx ((Γ.set i (some d1)).set j (some d2)) M2)
    (ha1 : starEach [e1, e2] X.env = (false, eval e1 X.env) :: starEach [e2] X.env := by rfl) (ha2 : starEach [e2] X.env = (false, eval e2 X.env) :: starEach [] X.env := by rfl)
    (hs : swapsWithSole [.Tuple [.Name x px, .Name y py] kt pt] (.Tuple [e1, e2] k2 p2) pos.line X.env = pure false := by rfl) : AS X b (.Assign [.Tuple [.Name x px, .Name y py] kt pt] (.Tuple [e1, e2] k2 p2) pos) Γ M D :=
  AS.of (ps_par hc hN hi hj hij hx hy (pa_cons pe_tW (pa_cons pe_tW pa_nil ha2) ha1) hw hs) fun σ S A H D' s r => h σ S A H _ s fun v1 d1 M1 S1 A1 H1 s1 st1 r1 q => q σ S1 A1 H1 _ st1 fun v2 d2 M2 S2 A2 H2 s2 st2 r2 q2 =>
    ⟨v1, v2, rfl, r.nx _ S2 A2 H2 _ M2 (s1.trans s2) ((st2.set (r1.mono s2.s s2.a)).set r2) q2⟩
theorem S_par3 (i j l : Nat) {x y z : Str} {px py pz pt p2 : Pos} {kt k2 : Nat} (hc : X.calm = true) (hN : X.N.Nodup) (hi : X.N[i]? = some x) (hj : X.N[j]? = some y) (hl : X.N[l]? = some z) (hij : i ≠ j) (hil : i ≠ l) (hjl : j ≠ l) (hx : X.env.scope.names.lookup x = some .local) (hy : X.env.scope.names.lookup y = some .local) (hz : X.env.scope.names.lookup z = some .local)
    (hw : swappedStores [.Tuple [.Name x px, .Name y py, .Name z pz] kt pt] (.Tuple [e1, e2, e3] k2 p2) X.env = pure (some [x, y, z])) (h : AE X b e1 Γ M fun d1 M1 => AE X b e2 Γ M1 fun d2 M2 => AE X b e3 Γ M2 fun d3 M3 => D.nx (((Γ.set i (some d1)).set j (some d2)).set l (some d3)) M3)
    (ha1 : starEach [e1, e2, e3] X.env = (false, eval e1 X.env) :: starEach [e2, e3] X.env := by rfl) (ha2 : starEach [e2, e3] X.env = (false, eval e2 X.env) :: starEach [e3] X.env := by rfl) (ha3 : starEach [e3] X.env = (false, eval e3 X.env) :: starEach [] X.env := by rfl)
    (hs : swapsWithSole [.Tuple [.Name x px, .Name y py, .Name z pz] kt pt] (.Tuple [e1, e2, e3] k2 p2) pos.line X.env = pure false := by rfl) : AS X b (.Assign [.Tuple [.Name x px, .Name y py, .Name z pz] kt pt] (.Tuple [e1, e2, e3] k2 p2) pos) Γ M D :=
  AS.of (ps_par3 hc hN hi hj hl hij hil hjl hx hy hz (pa_cons pe_tW (pa_cons pe_tW (pa_cons pe_tW pa_nil ha3) ha2) ha1) hw hs) fun σ S A H D' s r => h σ S A H _ s fun v1 d1 M1 S1 A1 H1 s1 st1 r1 q => q σ S1 A1 H1 _ st1 fun v2 d2 M2 S2 A2 H2 s2 st2 r2 q2 => q2 σ S2 A2 H2 _ st2 fun v3 d3 M3 S3 A3 H3 s3 st3 r3 q3 =>
    ⟨v1, v2, v3, rfl, r.nx _ S3 A3 H3 _ M3 ((s1.trans s2).trans s3) (((st3.set ((r1.mono s2.s s2.a).mono s3.s s3.a)).set (r2.mono s3.s s3.a)).set r3) q3⟩

/-! ### targets -/
def GV (K : PySem.W.Frag) (b : Bas) (g : TG) (d : Dat) (Γ : Gam) (M : Mem) (R : Gam → Mem → Prop) : Prop :=
  ∀ σ S A H v Q, Stt K b σ S A H Γ M → Rep K S A d v → (∀ σ' S' A' H' Γ' M', Step S A H S' A' H' → Stt K b σ' S' A' H' Γ' M' → R Γ' M' → Q σ' H') → g v σ H Q
def GVs (K : PySem.W.Frag) (b : Bas) (g : TGs) (ds : List Dat) (Γ : Gam) (M : Mem) (R : Gam → Mem → Prop) : Prop :=
  ∀ σ S A H vs Q, Stt K b σ S A H Γ M → Reps K S A ds vs → (∀ σ' S' A' H' Γ' M', Step S A H S' A' H' → Stt K b σ' S' A' H' Γ' M' → R Γ' M' → Q σ' H') → g vs σ H Q
def AG (X : Cx) (b : Bas) (tg : Expr) (d : Dat) (Γ : Gam) (M : Mem) (R : Gam → Mem → Prop) : Prop := ∃ g, PG X tg g ∧ GV X.K b g d Γ M R
def AGs (X : Cx) (b : Bas) (tgs : List Expr) (ds : List Dat) (Γ : Gam) (M : Mem) (R : Gam → Mem → Prop) : Prop := ∃ g, PGs X tgs g ∧ GVs X.K b g ds Γ M R
variable {R : Gam → Mem → Prop} {d : Dat} {ds : List Dat} {tg : Expr} {tgs : List Expr}
/-- the weakest readings of targets -/
def tWG (X : Cx) (tg : Expr) : TG := fun v σ H Q => ∃ g, PG X tg g ∧ g v σ H Q
theorem pg_tW : PG X tg (tWG X tg) := ⟨fun pins s σ H v u Q I r ⟨g, hg, h⟩ => hg.run pins s σ H v u Q I r h⟩
def tWGs (X : Cx) (tgs : List Expr) : TGs := fun v σ H Q => ∃ g, PGs X tgs g ∧ g v σ H Q
theorem pgs_tW : PGs X tgs (tWGs X tgs) := ⟨fun pins s σ H v u Q I r ⟨g, hg, h⟩ => hg.run pins s σ H v u Q I r h⟩
theorem AG.gv (h : AG X b tg d Γ M R) : GV X.K b (tWG X tg) d Γ M R := fun σ S A H v Q st r k => by
  obtain ⟨g, hg, hv⟩ := h
  exact ⟨g, hg, hv σ S A H v Q st r k⟩
theorem AGs.gv (h : AGs X b tgs ds Γ M R) : GVs X.K b (tWGs X tgs) ds Γ M R := fun σ S A H v Q st r k => by
  obtain ⟨g, hg, hv⟩ := h
  exact ⟨g, hg, hv σ S A H v Q st r k⟩
theorem G_name (i : Nat) {x : Str} (hN : X.N.Nodup) (hi : X.N[i]? = some x) (hx : Loc X.env.scope x) (h : R (Γ.set i (some d)) M) (hf : X.fn x = true ∨ X.env.scope.names.lookup x = some .local := by first | exact .inl rfl | exact .inr rfl | assumption) : AG X b (.Name x pos) d Γ M R :=
  ⟨_, pg_name hN hi hx hf, fun σ S A H v Q st r k => k _ S A H _ M (Step.refl _ _ _) (st.set r) h⟩
theorem G_nil (h : R Γ M) : AGs X b [] [] Γ M R := ⟨_, pgs_nil, fun σ S A H v Q st r k => by
  cases r
  exact ⟨rfl, k σ S A H Γ M (Step.refl _ _ _) st h⟩⟩
theorem G_cons (h : AG X b tg d Γ M fun Γ1 M1 => AGs X b tgs ds Γ1 M1 R) (hs : (assignEach (tg :: tgs) X.env).map (·.2) = assign tg X.env :: (assignEach tgs X.env).map (·.2) := by rfl) : AGs X b (tg :: tgs) (d :: ds) Γ M R :=
  ⟨_, pgs_cons pg_tW pgs_tW hs, fun σ S A H v Q st r k => by
    cases r with
    | cons r1 rr => exact ⟨_, _, rfl, h.gv σ S A H _ _ st r1 fun σ1 S1 A1 H1 Γ1 M1 s1 st1 q => AGs.gv q σ1 S1 A1 H1 _ Q st1 (rr.mono s1.s s1.a) fun σ2 S2 A2 H2 Γ2 M2 s2 st2 q2 => k σ2 S2 A2 H2 Γ2 M2 (s1.trans s2) st2 q2⟩⟩
theorem G_tup {k : Nat} (hc : X.calm = true) (h : AGs X b tgs ds Γ M R) (hn : (assignEach tgs X.env).length = ds.length := by rfl) (hst : (assignEach tgs X.env).findIdx? (·.1) = none := by rfl) : AG X b (.Tuple tgs k pos) (.tup ds) Γ M R :=
  ⟨_, pg_tup hc pgs_tW hn hst, fun σ S A H v Q st r k => by
    obtain ⟨x, us, ev, g, q1⟩ := (IsT.tup ds).at st r
    exact ⟨x, us, ev, g, q1.length.symm, h.gv σ S A H us Q st q1 k⟩⟩
theorem S_asg (h : AE X b e Γ M fun d M1 => AG X b tg d Γ M1 fun Γ' M' => D.nx Γ' M') (hs : swapsWithSole [tg] e pos.line X.env = pure false := by rfl) (hw : swappedStores [tg] e X.env = pure none := by rfl)
    (h1 : (assignEach [tg] X.env).map (·.2) = [assign tg X.env] := by rfl) : AS X b (.Assign [tg] e pos) Γ M D :=
  AS.of (ps_asg pe_tW pg_tW hs hw h1) fun σ S A H D' s r => h σ S A H _ s fun v d M1 S1 A1 H1 s1 st1 r1 q => AG.gv q σ S1 A1 H1 v _ st1 r1 fun σ2 S2 A2 H2 Γ2 M2 s2 st2 q2 => r.nx σ2 S2 A2 H2 Γ2 M2 (s1.trans s2) st2 q2
/-- xs[i] = v, a list that is ours -/
theorem G_subL {o i : Expr} (h : AE X b o Γ M fun d1 M1 => AE X b i Γ M1 fun d2 M2 => ∃ k ds n j, d1 = .ptr k ∧ M2[k]? = some (.lst ds) ∧ d2 = .int n ∧ ixN ds.length n = some j ∧ R Γ (M2.set k (.lst (ds.set j d))))
    (ha : ∀ v, assign (.Subscript o i pos) X.env v = (do
      let ov ← holding [v] (eval o X.env)
      let iv ← holding [v, ov] (eval i X.env)
      standAt pos
      holding [v, ov, iv] (setItem ov iv v)
      release [v, ov, iv] []) := by intro _; rfl) : AG X b (.Subscript o i pos) d Γ M R :=
  ⟨_, pg_sub pe_tW pe_tW set_list ha, fun σ S A H v Q st r k => h σ S A H _ st fun v1 d1 M1 S1 A1 H1 s1 st1 r1 h1 => h1 σ S1 A1 H1 _ st1 fun v2 d2 M2 S2 A2 H2 s2 st2 r2 h2 => by
    obtain ⟨kk, ds, n, j, z1, hM, z2, hj, q⟩ := h2
    subst z1 z2
    cases r2
    cases r1.mono s2.s s2.a with
    | ptr hA =>
      obtain ⟨us, hx, q1⟩ := st2.cell _ _ _ hA hM
      have rv := (r.mono s1.s s1.a).mono s2.s s2.a
      obtain ⟨s3, st3⟩ := st2.write (o := .lst (us.set j v)) (c := .lst (ds.set j d)) hA hM (fun z => nomatch z) ⟨_, upd_same, q1.set rv j⟩
      exact ⟨_, us, n, j, rfl, rfl, hx, by rw [← q1.length]; exact hj, k σ S2 A2 _ Γ _ ((s1.trans s2).trans s3) st3 q⟩⟩

/-! ### x op= e -/
theorem S_aug (i : Nat) {x : Str} {p2 : Pos} {op : Operator} {tip : TIp} {d0 : Dat} (hN : X.N.Nodup) (hi : X.N[i]? = some x) (hx : Loc X.env.scope x) (hΓ : Γ[i]? = some (some d0)) (ho : PIp X op tip)
    (h : AE X b e Γ M fun d M1 => OpD X.K b tip d0 d Γ M1 fun d' M2 => D.nx (Γ.set i (some d')) M2) (hf : X.fn x = true ∨ X.env.scope.names.lookup x = some .local := by first | exact .inl rfl | exact .inr rfl | assumption) : AS X b (.AugAssign (.Name x p2) op e pos) Γ M D :=
  AS.of (ps_aug hN hi hx pe_tW ho hf) fun σ S A H D' s r => by
    obtain ⟨v0, h1, r0⟩ := s.env.2 i d0 hΓ
    exact ⟨v0, h1, h σ S A H _ s fun v d M1 S1 A1 H1 s1 st1 r1 q => q σ S1 A1 H1 v0 v _ st1 (r0.mono s1.s s1.a) r1 fun v2 d2 M2 S2 A2 H2 s2 st2 r2 q2 => r.nx _ S2 A2 H2 _ M2 (s1.trans s2) (st2.set r2) q2⟩
theorem opd_ip {f : Int → Int → Int} {i j : Int} {R : Dat → Mem → Prop} (h : R (.int (f i j)) M) : OpD K b (ipI f) (.int i) (.int j) Γ M R := fun σ S A H v1 v2 Q st r1 r2 p => by
  cases r1; cases r2
  exact ⟨i, j, rfl, rfl, p.here st (.int _) h⟩
theorem S_augAdd (i : Nat) {x : Str} {p2 : Pos} (hN : X.N.Nodup) (hi : X.N[i]? = some x) (hx : Loc X.env.scope x) {n : Int} (hΓ : Γ[i]? = some (some (.int n))) (h : AE X b e Γ M fun d M1 => ∃ j, d = .int j ∧ D.nx (Γ.set i (some (.int (n + j)))) M1)
    (hf : X.fn x = true ∨ X.env.scope.names.lookup x = some .local := by first | exact .inl rfl | exact .inr rfl | assumption) : AS X b (.AugAssign (.Name x p2) .Add e pos) Γ M D :=
  S_aug i hN hi hx hΓ ip_add (h.imp fun d M1 ⟨j, e, q⟩ => by subst e; exact opd_ip q) hf
theorem S_augSub (i : Nat) {x : Str} {p2 : Pos} (hN : X.N.Nodup) (hi : X.N[i]? = some x) (hx : Loc X.env.scope x) {n : Int} (hΓ : Γ[i]? = some (some (.int n))) (h : AE X b e Γ M fun d M1 => ∃ j, d = .int j ∧ D.nx (Γ.set i (some (.int (n - j)))) M1)
    (hf : X.fn x = true ∨ X.env.scope.names.lookup x = some .local := by first | exact .inl rfl | exact .inr rfl | assumption) : AS X b (.AugAssign (.Name x p2) .Sub e pos) Γ M D :=
  S_aug i hN hi hx hΓ ip_sub (h.imp fun d M1 ⟨j, e, q⟩ => by subst e; exact opd_ip q) hf

/-! ### while -/
theorem S_while {body : List Stmt} (hp : PassesOwn (model X.prog X.w) X.A X.env X.xe) (W : Nat → Gam → Mem → Prop) (m0 : Nat) (h0 : W m0 Γ M)
    (hs : ∀ m Γ' M', W m Γ' M' → AT X b c Γ' M' fun k M1 => (k = true → ASs X b body Γ' M1 { D with nx := fun Γ2 M2 => ∃ m', m' < m ∧ W m' Γ2 M2, ct := fun Γ2 M2 => ∃ m', m' < m ∧ W m' Γ2 M2, bk := D.nx }) ∧ (k = false → D.nx Γ' M1)) : AS X b (.While c body [] pos) Γ M D :=
  AS.of (ps_while hp pt_tW pss_tW) fun σ S A H D' s r => by
    refine ⟨fun m σ' H' => ∃ S' A' Γ' M', Step S A H S' A' H' ∧ Stt X.K b σ' S' A' H' Γ' M' ∧ W m Γ' M', ⟨m0, S, A, Γ, M, Step.refl _ _ _, s, h0⟩, ?_⟩
    rintro m σ' H' ⟨S', A', Γ', M', s1, st1, hw⟩
    refine hs m Γ' M' hw σ' S' A' H' _ st1 fun k M1 S2 A2 H2 s2 st2 ⟨q1, q2⟩ => ?_
    cases k with
    | true =>
      refine iteT ⟨fun σ3 H3 => ∃ m', m' < m ∧ ∃ S' A' Γ' M', Step S A H S' A' H3 ∧ Stt X.K b σ3 S' A' H3 Γ' M' ∧ W m' Γ' M', fun σ3 H3 q => q, ?_⟩
      have r2 := r.after (s1.trans s2)
      refine q1 rfl σ' S2 A2 H2 _ st2 ⟨fun σ3 S3 A3 H3 Γ3 M3 s3 t3 q => ?_, r2.rt, fun σ3 S3 A3 H3 Γ3 M3 s3 t3 q => r2.nx σ3 S3 A3 H3 Γ3 M3 s3 t3 q, fun σ3 S3 A3 H3 Γ3 M3 s3 t3 q => ?_⟩
      · obtain ⟨m', hm, w'⟩ := q
        exact ⟨m', hm, S3, A3, Γ3, M3, (s1.trans s2).trans s3, t3, w'⟩
      · obtain ⟨m', hm, w'⟩ := q
        exact ⟨m', hm, S3, A3, Γ3, M3, (s1.trans s2).trans s3, t3, w'⟩
    | false => exact iteF (r.nx σ' S2 A2 H2 Γ' M1 (s1.trans s2) st2 (q2 rfl))
/-- a ghost step: a list cell is given up -/
theorem S_freeze (k : Nat) {ds : List Dat} (hM : M[k]? = some (.lst ds)) (h : ASs X b sts (frzG k ds Γ) (M.set k .dead) D) : ASs X b sts Γ M D := fun σ S A H D' s r => by
  obtain ⟨x, xs, _, _, _, s1, st1, _⟩ := s.freeze hM
  exact h σ _ A H D' st1 (r.after s1)
theorem S_fewer {Γ' : Gam} (f : Fewer Γ Γ') (h : ASs X b sts Γ' M D) : ASs X b sts Γ M D := fun σ S A H D' s r => h σ S A H D' (s.fewer f) r
end
end Ab
end

section
set_option Elab.async false
set_option linter.all false
set_option maxRecDepth 100000
set_option maxHeartbeats 4000000
namespace Ab
open PySem L2

/-! ### an untracked list of ours changes (a comprehension's) -/
theorem Step.other {S S' : Hp} {A A' : List Addr} {H H' : Hp} {p : Addr} {o : HO} (s : Step S A H S' A' H') (hp : H p = none) (hx : ∃ u, H' p = some u) : Step S A H S' A' (upd H' p o) :=
  ⟨s.s, s.a, fun x u e n => by
    rw [upd_ne (ne_of_none e hp)]
    exact s.keep x u e n, s.newS, s.newA, fun x u e => by
    rw [upd_ne (ne_of_none e hp)]
    exact s.dom x u e⟩
theorem Step.otherNew {S S' : Hp} {A A' : List Addr} {H H' : Hp} {p : Addr} {o : HO} (s : Step S A H S' A' H') (hp : H' p = none) : Step S A H S' A' (upd H' p o) :=
  ⟨s.s, s.a, fun x u e n => by
    rw [upd_ne (ne_of_none (s.keep x u e n) hp)]
    exact s.keep x u e n, s.newS, s.newA, fun x u e => by
    obtain ⟨u', q⟩ := s.dom x u e
    exact ⟨u', by rw [upd_ne (ne_of_none q hp)]; exact q⟩⟩
theorem Stt.other {K : PySem.W.Frag} {b : Bas} {σ : L2.St} {S : Hp} {A : List Addr} {H : Hp} {Γ : Gam} {M : Mem} {p : Addr} {o : HO} (h : Stt K b σ S A H Γ M) (hb : b.H p = none) (hS : S p = none) (hA : p ∉ A) (hp : H p = none ∨ ∃ u, H p = some u) : Stt K b σ S A (upd H p o) Γ M := by
  have base : Step b.S b.A b.H S A (upd H p o) := by
    rcases hp with q | q
    · exact h.base.otherNew q
    · exact h.base.other hb q
  exact ⟨base, fun x u e => by
    rw [upd_ne (ne_of_none e hS)]
    exact h.sub x u e, h.nd, h.len, h.own, fun k x c h1 h2 => (h.cell k x c h1 h2).mono (Same.refl S) List.prefix_rfl fun u e => by
    have ne : x ≠ p := fun z => hA (by rw [← z]; exact List.mem_of_getElem? h1)
    rw [upd_ne ne]
    exact e, h.env⟩
/-- an untracked object of ours becomes stable -/
theorem Step.adopt {S S' : Hp} {A A' : List Addr} {H H' : Hp} {p : Addr} {o : HO} (s : Step S A H S' A' H') (hp : H p = none) (hS : S' p = none) : Step S A H (upd S' p o) A' H' :=
  ⟨fun x u e => by
    have e' := s.s x u e
    rw [upd_ne (ne_of_none e' hS)]
    exact e', s.a, s.keep, fun x u e => by
    by_cases hx : x = p
    · subst hx
      exact .inr (.inl hp)
    · rw [upd_ne hx] at e
      exact s.newS x u e, s.newA, s.dom⟩
theorem Stt.adopt {K : PySem.W.Frag} {b : Bas} {σ : L2.St} {S : Hp} {A : List Addr} {H : Hp} {Γ : Gam} {M : Mem} {p : Addr} {o : HO} (h : Stt K b σ S A H Γ M) (hb : b.H p = none) (hS : S p = none) (hA : p ∉ A) (hp : H p = some o) : Stt K b σ (upd S p o) A H Γ M := by
  have sS : Same S (upd S p o) := fun x u e => by
    rw [upd_ne (ne_of_none e hS)]
    exact e
  refine ⟨h.base.adopt hb hS, fun x u e => ?_, h.nd, h.len, fun k x c h1 h2 h3 => ?_, fun k x c h1 h2 => (h.cell k x c h1 h2).mono sS List.prefix_rfl fun _ e => e, h.env.mono sS List.prefix_rfl⟩
  · by_cases hx : x = p
    · subst hx
      rw [upd_same] at e
      exact hp.trans e
    · rw [upd_ne hx] at e
      exact h.sub x u e
  · have ne : x ≠ p := fun z => hA (by rw [← z]; exact List.mem_of_getElem? h1)
    rw [upd_ne ne]
    exact h.own k x c h1 h2 h3
theorem Step.adoptC {S S' : Hp} {A A' : List Addr} {H H' : Hp} {p : Addr} (s : Step S A H S' A' H') (hp : H p = none) : Step S A H S' (A' ++ [p]) H' :=
  ⟨s.s, s.a.trans (List.prefix_append _ _), s.keep, s.newS, fun x hx => by
    rcases List.mem_append.mp hx with q | q
    · exact s.newA x q
    · have e : x = p := by simpa using q
      subst e
      exact .inr hp, s.dom⟩
theorem Stt.adoptC {K : PySem.W.Frag} {b : Bas} {σ : L2.St} {S : Hp} {A : List Addr} {H : Hp} {Γ : Gam} {M : Mem} {p : Addr} {xs : List V} {ds : List Dat} (h : Stt K b σ S A H Γ M) (hb : b.H p = none) (hS : S p = none) (hA : p ∉ A) (hp : H p = some (.lst xs)) (hr : Reps K S A ds xs) :
    Stt K b σ S (A ++ [p]) H Γ (M ++ [.lst ds]) := by
  have pr : A <+: A ++ [p] := List.prefix_append _ _
  have last : ∀ {k : Nat} {x : Addr}, (A ++ [p])[k]? = some x → ¬ k < A.length → k - A.length = 0 ∧ p = x := fun {k x} h1 hk => by
    rw [List.getElem?_append_right (by omega)] at h1
    have hk0 : k - A.length = 0 := by
      have := (List.getElem?_eq_some_iff.mp h1).1
      simp at this
      omega
    rw [hk0] at h1
    exact ⟨hk0, Option.some.inj h1⟩
  refine ⟨h.base.adoptC hb, h.sub, ?_, by rw [List.length_append, List.length_append, h.len] <;> rfl, fun k x c h1 h2 h3 => ?_, fun k x c h1 h2 => ?_, h.env.mono (Same.refl S) pr⟩
  · rw [List.nodup_append]
    refine ⟨h.nd, by simp, fun a ha c hc => ?_⟩
    have e : c = p := by simpa using hc
    subst e
    exact fun z => hA (by rw [← z]; exact ha)
  · by_cases hk : k < A.length
    · rw [List.getElem?_append_left hk] at h1
      rw [List.getElem?_append_left (by rw [← h.len]; exact hk)] at h2
      exact h.own k x c h1 h2 h3
    · obtain ⟨_, e⟩ := last h1 hk
      subst e
      exact hS
  · by_cases hk : k < A.length
    · rw [List.getElem?_append_left hk] at h1
      rw [List.getElem?_append_left (by rw [← h.len]; exact hk)] at h2
      exact (h.cell k x c h1 h2).mono (Same.refl S) pr fun _ e => e
    · obtain ⟨hk0, e⟩ := last h1 hk
      subst e
      rw [List.getElem?_append_right (by rw [← h.len]; omega), ← h.len, hk0] at h2
      have e2 : Cel.lst ds = c := Option.some.inj h2
      subst e2
      exact ⟨xs, hp, hr.mono (Same.refl S) pr⟩

/-! ### what is walked, by data -/
/-- a walked thing gives the data ds, as long as Gm holds of the memory -/
structure Gives (K : PySem.W.Frag) (b : Bas) (S : Hp) (A : List Addr) (H : Hp) (J : It) (ds : List Dat) (Gm : Mem → Prop) : Prop where
  ex : ∃ (G : Hp → Prop) (Y : Nat → Hp → V → Hp → Prop), Walk J ds.length G Y ∧
    (∀ σ S2 A2 H2 Γ2 M2, Step S A H S2 A2 H2 → Stt K b σ S2 A2 H2 Γ2 M2 → Gm M2 → G H2) ∧
    (∀ σ S2 A2 H2 Γ2 M2 i x H3, Step S A H S2 A2 H2 → Stt K b σ S2 A2 H2 Γ2 M2 → Gm M2 → i < ds.length → Y i H2 x H3 → ∃ S3 d, ds[i]? = some d ∧ Step S2 A2 H2 S3 A2 H3 ∧ Stt K b σ S3 A2 H3 Γ2 M2 ∧ Rep K S3 A2 d x)
  stays : ∀ p, H p = none → ∀ (u : List V), True
def IV (K : PySem.W.Frag) (b : Bas) (wi : TI) (Γ : Gam) (M : Mem) (R : List Dat → (Mem → Prop) → Mem → Prop) : Prop :=
  ∀ σ S A H Rw, Stt K b σ S A H Γ M → (∀ J ds Gm M' S' A' H', Step S A H S' A' H' → Stt K b σ S' A' H' Γ M' → Gives K b S' A' H' J ds Gm → R ds Gm M' → Rw J H') → wi σ H Rw
def AI (X : Cx) (b : Bas) (tg iter : Expr) (Γ : Gam) (M : Mem) (R : List Dat → (Mem → Prop) → Mem → Prop) : Prop := ∃ wi, PI X tg iter wi ∧ IV X.K b wi Γ M R

/-! ### lists that are read while their cell stands: by what they hold at each turn -/
def YLst (K : PySem.W.Frag) (a : Addr) : Nat → Hp → V → Hp → Prop := fun i H x H' => H' = H ∧ ∀ xs, SqL K H a xs → xs[i]? = some x
theorem walk_listE {K : PySem.W.Frag} {a : Addr} {n : Nat} : Walk (Itl K a) n (fun H => ∃ xs, SqL K H a xs ∧ xs.length = n) (YLst K a) :=
  ⟨fun i H hi ⟨xs, q, hl⟩ => ⟨xs, xs[i], q, by simp [hl, hi]⟩, fun H ⟨xs, q, hl⟩ => ⟨xs, q, by omega⟩, fun i H x H' hi ⟨xs, q, hl⟩ y => y⟩
section
variable {K : PySem.W.Frag} {b : Bas} {σ : L2.St} {S : Hp} {A : List Addr} {H : Hp} {Γ : Gam} {M : Mem} {d : Dat} {ds : List Dat} {v : V}
/-- what the memory must say for a list to be still read as ds -/
def GmOf : Dat → List Dat → Mem → Prop
  | .ptr k, ds, M => M[k]? = some (.lst ds)
  | _, _, _ => True
theorem gives_list (i : IsR M d ds) (st : Stt K b σ S A H Γ M) (r : Rep K S A d v) : ∃ a, v = .ref a ∧ (∃ xs, SqL K H a xs) ∧ Gives K b S A H (Itl K a) ds (GmOf d ds) := by
  obtain ⟨a, xs, ev, g, q⟩ := i.at st r
  subst ev
  refine ⟨a, rfl, ⟨xs, g⟩, ⟨⟨_, _, walk_listE, fun σ2 S2 A2 H2 Γ2 M2 s2 st2 hG => ?_, fun σ2 S2 A2 H2 Γ2 M2 i' x H3 s2 st2 hG hi hY => ?_⟩, fun _ _ _ => trivial⟩⟩
  all_goals
    have i2 : IsR M2 d ds := by
      cases i with
      | l il =>
        cases il with
        | lst => exact .l (.lst ds)
        | ptr hM => exact .l (.ptr hG)
      | rol => exact .rol ds
    obtain ⟨a2, xs2, ev2, g2, q2⟩ := i2.at st2 (r.mono s2.s s2.a)
    have ea : a = a2 := V.ref.inj ev2
    subst ea
  · exact ⟨xs2, g2, q2.length.symm⟩
  · obtain ⟨e, hx⟩ := hY
    subst e
    obtain ⟨d', h1, h2⟩ := q2.get (hx _ g2)
    exact ⟨S2, d', h1, Step.refl _ _ _, st2, h2⟩
theorem gives_tup (st : Stt K b σ S A H Γ M) (r : Rep K S A (.tup ds) v) : ∃ a, v = .ref a ∧ (∃ xs, SqT K H a xs) ∧ Gives K b S A H (Itt K a) ds (fun _ => True) := by
  obtain ⟨a, xs, ev, g, q⟩ := (IsT.tup ds).at st r
  subst ev
  have hl := q.length
  cases r with
  | tup hS qS =>
    refine ⟨a, rfl, ⟨xs, g⟩, ⟨⟨fun H => SqT K H a _, _, by rw [qS.length]; exact walk_tup, fun σ2 S2 A2 H2 Γ2 M2 s2 st2 hG => Same.sqt st2.sub (Same.sqt s2.s hS), fun σ2 S2 A2 H2 Γ2 M2 i' x H3 s2 st2 hG hi hY => ?_⟩, fun _ _ _ => trivial⟩⟩
    obtain ⟨e, hx⟩ := hY
    subst e
    obtain ⟨d', h1, h2⟩ := (qS.mono s2.s s2.a).get hx
    exact ⟨S2, d', h1, Step.refl _ _ _, st2, h2⟩
theorem gives_fn {J : It} {n : Nat} {f : Nat → V} {g : Nat → Dat} (w : Walk J n (fun _ => True) (YFn f)) (hr : ∀ i S A, Rep K S A (g i) (f i)) : Gives K b S A H J ((List.range n).map g) (fun _ => True) := by
  refine ⟨⟨fun _ => True, YFn f, by rw [List.length_map, List.length_range]; exact w, fun _ _ _ _ _ _ _ _ _ => trivial, fun σ2 S2 A2 H2 Γ2 M2 i x H3 s2 st2 hG hi hY => ?_⟩, fun _ _ _ => trivial⟩
  obtain ⟨e, hx⟩ := hY
  subst e hx
  rw [List.length_map, List.length_range] at hi
  exact ⟨S2, g i, by rw [List.getElem?_map, List.getElem?_range hi]; rfl, Step.refl _ _ _, st2, hr i S2 A2⟩
end

/-! ### the forms of walked things -/
section
variable {X : Cx} {b : Bas} {Γ : Gam} {M : Mem} {e e1 e2 e3 tg : Expr} {pos : Pos} {R : List Dat → (Mem → Prop) → Mem → Prop}
theorem I_list (h : AE X b e Γ M fun d M1 => ∃ ds, IsR M1 d ds ∧ R ds (GmOf d ds) M1) : AI X b tg e Γ M R :=
  ⟨_, pi_list pe_tW, fun σ S A H Rw st k => h σ S A H _ st fun v d M1 S1 A1 H1 s1 st1 r1 ⟨ds, i, q⟩ => by
    obtain ⟨a, ev, hx, g⟩ := gives_list i st1 r1
    exact ⟨a, ev, hx, k _ ds _ M1 S1 A1 H1 s1 st1 g q⟩⟩
theorem I_tup (h : AE X b e Γ M fun d M1 => ∃ ds, d = .tup ds ∧ R ds (fun _ => True) M1) : AI X b tg e Γ M R :=
  ⟨_, pi_tup pe_tW, fun σ S A H Rw st k => h σ S A H _ st fun v d M1 S1 A1 H1 s1 st1 r1 ⟨ds, e, q⟩ => by
    subst e
    obtain ⟨a, ev, hx, g⟩ := gives_tup st1 r1
    exact ⟨a, ev, hx, k _ ds _ M1 S1 A1 H1 s1 st1 g q⟩⟩
theorem I_range1 {p : Pos} (hg : Gl X "range") (hm : X.mg "range" = none) (h : AE X b e Γ M fun d M1 => ∃ n : Int, d = .int n ∧ -(2 ^ 62) ≤ n ∧ n < 2 ^ 62 ∧ R ((List.range n.toNat).map fun i => .int (i : Nat)) (fun _ => True) M1) (hs : starEach [e] X.env = [(false, eval e X.env)] := by rfl) : AI X b tg (.Call (.Name "range" p) [e] [] pos) Γ M R :=
  ⟨_, pi_range1 hg hm (pa_cons pe_tW pa_nil hs) hs, fun σ S A H Rw st k => h σ S A H _ st fun v d M1 S1 A1 H1 s1 st1 r1 ⟨n, e, h1, h2, q⟩ => by
    subst e
    cases r1
    exact ⟨n, rfl, h1, h2, k _ _ _ M1 S1 A1 H1 s1 st1 (gives_fn (n := n.toNat) (f := fun i => .int (0 + (i : Nat))) walk_range fun i S A => by rw [Int.zero_add]; exact .int _) q⟩⟩
theorem I_range2 {p : Pos} (hg : Gl X "range") (hm : X.mg "range" = none) (h : AE X b e1 Γ M fun d1 M1 => AE X b e2 Γ M1 fun d2 M2 => ∃ i j : Int, d1 = .int i ∧ d2 = .int j ∧ (-(2 ^ 62) ≤ i ∧ i < 2 ^ 62 ∧ -(2 ^ 62) ≤ j ∧ j < 2 ^ 62) ∧ R ((List.range (j - i).toNat).map fun k => .int (i + (k : Nat))) (fun _ => True) M2)
    (hs : starEach [e1, e2] X.env = [(false, eval e1 X.env), (false, eval e2 X.env)] := by rfl) (hs2 : starEach [e2] X.env = [(false, eval e2 X.env)] := by rfl) : AI X b tg (.Call (.Name "range" p) [e1, e2] [] pos) Γ M R :=
  ⟨_, pi_range2 hg hm (pa_cons pe_tW (pa_cons pe_tW pa_nil hs2) (by rw [hs, hs2])) hs hs2, fun σ S A H Rw st k => h σ S A H _ st fun v d M1 S1 A1 H1 s1 st1 r1 h1 => h1 σ S1 A1 H1 _ st1 fun v2 d2 M2 S2 A2 H2 s2 st2 r2 h2 => by
    obtain ⟨i, j, z1, z2, z3, q⟩ := h2
    subst z1 z2
    cases r1
    cases r2
    exact ⟨i, j, rfl, z3, k _ _ _ M2 S2 A2 H2 (s1.trans s2) st2 (gives_fn (n := (j - i).toNat) (f := fun m => .int (i + (m : Nat))) walk_range fun m S A => .int _) q⟩⟩
end

/-! ### for -/
section
variable {X : Cx} {b : Bas} {Γ : Gam} {M : Mem} {D : AEnds} {e tg iter : Expr} {pos : Pos} {body : List Stmt}
theorem S_for (hp : PassesOwn (model X.prog X.w) X.A X.env X.xe) (hc : X.calm = true)
    (h : AI X b tg iter Γ M fun ds Gm M1 => ∃ Pv : Nat → Gam → Mem → Prop, Pv 0 Γ M1 ∧ (∀ i Γ' M', i ≤ ds.length → Pv i Γ' M' → Gm M') ∧
      (∀ i d Γ' M', ds[i]? = some d → Pv i Γ' M' → AG X b tg d Γ' M' fun Γ2 M2 => ASs X b body Γ2 M2 { D with nx := Pv (i + 1), ct := Pv (i + 1), bk := D.nx }) ∧ ∀ Γ' M', Pv ds.length Γ' M' → D.nx Γ' M')
    (hs : ∀ x, foldedSetIterable iter X.env x = pure x := by intro _; rfl) : AS X b (.For tg iter body [] pos) Γ M D := by
  obtain ⟨wi, hpi, hwi⟩ := h
  refine AS.of (ps_for hp hc hpi pg_tW pss_tW hs) fun σ S A H D' st r => ?_
  refine hwi σ S A H _ st fun J ds Gm M1 S1 A1 H1 s1 st1 gv hq => ?_
  obtain ⟨Pv, h0, hG, hstep, hd⟩ := hq
  obtain ⟨⟨G, Y, w, wG, wY⟩, _⟩ := gv
  refine for_it w (fun i σ' H' => ∃ S' A' Γ' M', Step S1 A1 H1 S' A' H' ∧ Stt X.K b σ' S' A' H' Γ' M' ∧ Pv i Γ' M') ⟨S1, A1, Γ, M1, Step.refl _ _ _, st1, h0⟩ ?_ ?_ ?_
  · rintro i σ' H' hi ⟨S', A', Γ', M', s', st', pv⟩
    exact wG σ' S' A' H' Γ' M' s' st' (hG i Γ' M' hi pv)
  · rintro i x σ' H' H3 hi ⟨S', A', Γ', M', s', st', pv⟩ hY
    obtain ⟨S3, d, hds, s3, st3, rd⟩ := wY σ' S' A' H' Γ' M' i x H3 s' st' (hG i Γ' M' (Nat.le_of_lt hi) pv) hi hY
    refine (hstep i d Γ' M' hds pv).gv σ' S3 A' H3 x _ st3 rd fun σ4 S4 A4 H4 Γ4 M4 s4 st4 q4 => ?_
    have sAll := (s'.trans s3).trans s4
    have r4 := r.after (s1.trans sAll)
    refine q4 σ4 S4 A4 H4 _ st4 ⟨fun σ5 S5 A5 H5 Γ5 M5 s5 st5 q => ⟨S5, A5, Γ5, M5, sAll.trans s5, st5, q⟩, r4.rt, fun σ5 S5 A5 H5 Γ5 M5 s5 st5 q => r4.nx σ5 S5 A5 H5 Γ5 M5 s5 st5 q, fun σ5 S5 A5 H5 Γ5 M5 s5 st5 q => ⟨S5, A5, Γ5, M5, sAll.trans s5, st5, q⟩⟩
  · rintro σ' H' ⟨S', A', Γ', M', s', st', pv⟩
    exact r.nx σ' S' A' H' Γ' M' (s1.trans s') st' (hd Γ' M' pv)
end

/-! ### list comprehensions -/
def wipeG (Γ : Gam) : List Nat → Gam
  | [] => Γ
  | v :: vs => (wipeG Γ vs).set v none
theorem Envs.none {K : PySem.W.Frag} {S : Hp} {A : List Addr} {σ : L2.St} {Γ : Gam} (h : Envs K S A σ Γ) (i : Nat) : Envs K S A (σ.set i none) (Γ.set i none) := by
  refine ⟨by rw [List.length_set, List.length_set]; exact h.1, fun j e q => ?_⟩
  by_cases hj : i = j
  · subst hj
    by_cases hi : i < Γ.length
    · rw [List.getElem?_set_self hi] at q
      cases q
    · rw [List.getElem?_eq_none (by rw [List.length_set]; omega)] at q
      cases q
  · rw [List.getElem?_set_ne hj] at q
    obtain ⟨v', h1, h2⟩ := h.2 j e q
    exact ⟨v', by rw [List.getElem?_set_ne hj]; exact h1, h2⟩
theorem Envs.wipe {K : PySem.W.Frag} {S : Hp} {A : List Addr} {σ : L2.St} {Γ : Gam} (h : Envs K S A σ Γ) : ∀ vs : List Nat, Envs K S A (wipe σ vs) (wipeG Γ vs)
  | [] => h
  | v :: vs => (Envs.wipe h vs).none v
theorem wipe_set_in {σ : L2.St} {x : Option V} : ∀ {vs : List Nat} {i : Nat}, i ∈ vs → wipe (σ.set i x) vs = wipe σ vs
  | v :: vs, i, hi => by
    unfold wipe
    by_cases hv : i ∈ vs
    · rw [wipe_set_in hv]
    · have e : i = v := by
        rcases List.mem_cons.mp hi with q | q
        · exact q
        · exact absurd q hv
      subst e
      have key : ∀ (us : List Nat) (τ : L2.St), i ∉ us → L2.wipe (τ.set i x) us = (L2.wipe τ us).set i x := by
        intro us
        induction us with
        | nil => intro τ _; rfl
        | cons u us ih =>
          intro τ hu
          simp only [List.mem_cons, not_or] at hu
          unfold L2.wipe
          rw [ih τ hu.2, List.set_comm _ _ hu.1]
      rw [key vs σ hv, List.set_set]
theorem wipe_wipe {σ : L2.St} : ∀ {us vs : List Nat}, (∀ u ∈ us, u ∈ vs) → wipe (wipe σ us) vs = wipe σ vs
  | [], vs, _ => rfl
  | u :: us, vs, h => by
    show wipe ((wipe σ us).set u none) vs = wipe σ vs
    rw [wipe_set_in (h u List.mem_cons_self)]
    exact wipe_wipe fun w hw => h w (List.mem_cons_of_mem _ hw)
/-- a comprehension's target: a name, or some names -/
inductive Tgt where
  | one (i : Nat)
  | tup (is : List Nat)
def gNames : List Nat → TGs
  | [] => gNil
  | i :: is => gCons (gName i) (gNames is)
def Tgt.g (K : PySem.W.Frag) : Tgt → TG
  | .one i => gName i
  | .tup is => gTup K is.length (gNames is)
def Tgt.slots : Tgt → List Nat
  | .one i => [i]
  | .tup is => is
def putAll : List Nat → List Dat → Gam → Gam
  | i :: is, d :: ds, Γ => putAll is ds (Γ.set i (some d))
  | _, _, Γ => Γ
/-- what the slots hold behind the target -/
inductive Tgt.Put : Tgt → Dat → Gam → Gam → Prop
  | one (i : Nat) (d : Dat) (Γ : Gam) : Tgt.Put (.one i) d Γ (Γ.set i (some d))
  | tup {is : List Nat} {ds : List Dat} {Γ : Gam} : ds.length = is.length → Tgt.Put (.tup is) (.tup ds) Γ (putAll is ds Γ)
def setAll : List Nat → List V → L2.St → L2.St
  | i :: is, d :: ds, Γ => setAll is ds (Γ.set i (some d))
  | _, _, Γ => Γ
theorem gNames_run : ∀ {is : List Nat} {vs : List V} {σ : L2.St} {H : Hp} {Q : L2.St → Hp → Prop}, vs.length = is.length → Q (setAll is vs σ) H → gNames is vs σ H Q
  | [], [], σ, H, Q, _, q => ⟨rfl, q⟩
  | i :: is, v :: vs, σ, H, Q, hl, q => ⟨v, vs, rfl, gNames_run (by simpa using hl) q⟩
theorem Envs.setAll {K : PySem.W.Frag} {S : Hp} {A : List Addr} : ∀ {is : List Nat} {ds : List Dat} {vs : List V} {σ : L2.St} {Γ : Gam}, Envs K S A σ Γ → Reps K S A ds vs → Envs K S A (Ab.setAll is vs σ) (putAll is ds Γ)
  | [], _, _, _, _, h, _ => by
    unfold Ab.setAll putAll
    exact h
  | i :: is, _, _, σ, Γ, h, .nil => by
    unfold Ab.setAll putAll
    exact h
  | i :: is, _, _, σ, Γ, h, .cons r t => by
    unfold Ab.setAll putAll
    exact Envs.setAll (h.set r) t
theorem wipe_setAll {us : List Nat} : ∀ {is : List Nat} {vs : List V} {σ : L2.St}, (∀ i ∈ is, i ∈ us) → wipe (setAll is vs σ) us = wipe σ us
  | [], vs, σ, _ => by unfold setAll; rfl
  | i :: is, [], σ, _ => by unfold setAll; rfl
  | i :: is, v :: vs, σ, h => by
    unfold setAll
    rw [wipe_setAll fun j hj => h j (List.mem_cons_of_mem _ hj), wipe_set_in (h i List.mem_cons_self)]
theorem Tgt.run {K : PySem.W.Frag} {b : Bas} {σ : L2.St} {S : Hp} {A : List Addr} {H : Hp} {Γ Γ' : Gam} {M : Mem} {t : Tgt} {d : Dat} {v : V} {vs : List Nat} {Q : L2.St → Hp → Prop} (p : t.Put d Γ Γ') (hs : ∀ i ∈ t.slots, i ∈ vs) (st : Stt K b σ S A H Γ M) (r : Rep K S A d v)
    (h : ∀ σ', Stt K b σ' S A H Γ' M → wipe σ' vs = wipe σ vs → Q σ' H) : t.g K v σ H Q := by
  cases p with
  | one i d Γ => exact h _ (st.set r) (wipe_set_in (hs i (by simp [Tgt.slots])))
  | @tup is ds Γ hl =>
    obtain ⟨a, us, ev, g, q⟩ := (IsT.tup ds).at st r
    subst ev
    refine ⟨a, us, rfl, g, by rw [← q.length]; exact hl, gNames_run (by rw [← q.length]; exact hl) ?_⟩
    exact h _ (st.withEnv (st.env.setAll q)) (wipe_setAll hs)

section
variable {X : Cx} {b : Bas} {Γ : Gam} {M : Mem} {R : Dat → Mem → Prop} {elt tg iter : Expr} {ifs : List Expr} {scope : Scope} {own : List (Str × Nat)} {pos : Pos}
/-- in each context of the block -/
def AEB (X : Cx) (b : Bas) (scope : Scope) (e : Expr) (Γ : Gam) (M : Mem) (R : Dat → Mem → Prop) : Prop := ∀ s H C cl fp, AE (X.blk s H scope (compEnvC scope cl C X.env) fp) b e Γ M R
def ATB (X : Cx) (b : Bas) (scope : Scope) (e : Expr) (Γ : Gam) (M : Mem) (R : Bool → Mem → Prop) : Prop := ∀ s H C cl fp, AT (X.blk s H scope (compEnvC scope cl C X.env) fp) b e Γ M R
/-- the tests: none, or one -/
def AIfs (X : Cx) (b : Bas) (scope : Scope) (ifs : List Expr) (Γ : Gam) (M : Mem) (R : Bool → Mem → Prop) : Prop := match ifs with
  | [] => R true M
  | [c] => ATB X b scope c Γ M R
  | _ => False
def tBlk (X : Cx) (scope : Scope) (e : Expr) : TE := fun σ H Q => ∀ s H0 C cl fp, tW (X.blk s H0 scope (compEnvC scope cl C X.env) fp) e σ H Q
def tBlkT (X : Cx) (scope : Scope) (ifs : List Expr) : TT := match ifs with
  | [c] => fun σ H Q => ∀ s H0 C cl fp, tWT (X.blk s H0 scope (compEnvC scope cl C X.env) fp) c σ H Q
  | [] => tYes
  | _ => fun _ _ _ => False
theorem pts_blk : ∀ {ifs : List Expr} (s : Shared) (H : Hp) (C : Addr) (cl : List (Str × Addr)) (fp : List Addr), PTs (X.blk s H scope (compEnvC scope cl C X.env) fp) ifs (tBlkT X scope ifs)
  | [], s, H, C, cl, fp => pts_nil
  | [c], s, H, C, cl, fp => pts_one ⟨fun pins s' σ H' Q I h => h s H C cl fp pins s' I⟩
  | _ :: _ :: _, s, H, C, cl, fp => ⟨fun pins s' σ H' Q I h => h.elim⟩
theorem aifs_ev : ∀ {ifs : List Expr} {Γ : Gam} {M : Mem} {RT : Bool → Mem → Prop}, AIfs X b scope ifs Γ M RT → ET X.K b (tBlkT X scope ifs) Γ M RT
  | [], Γ, M, RT, h => fun σ S A H Q st p => p true M S A H (Step.refl _ _ _) st h
  | [c], Γ, M, RT, h => fun σ S A H Q st p => fun s H0 C cl fp => h s H0 C cl fp σ S A H Q st p
  | _ :: _ :: _, Γ, M, RT, h => h.elim
/-- the comprehension's reading, its new list still untracked at D -/
theorem lc_run {wi : TI} {t : Tgt} {σ : L2.St} {S : Hp} {A : List Addr} {H : Hp} {Q : VK} {vs : List Nat} {RD : List Dat → Mem → Prop} (st : Stt X.K b σ S A H Γ M) (hsl : ∀ i ∈ t.slots, i ∈ vs)
    (h : IV X.K b wi Γ M fun ds Gm M1 => ∃ Pv : Nat → List Dat → Mem → Prop, Pv 0 [] M1 ∧ (∀ i acc M', i ≤ ds.length → Pv i acc M' → Gm M') ∧
      (∀ i d acc M', ds[i]? = some d → Pv i acc M' → ∃ Γ2, t.Put d (wipeG Γ vs) Γ2 ∧ AIfs X b scope ifs Γ2 M' fun k M2 => (k = true → AEB X b scope elt Γ2 M2 fun y M3 => acc.length < sizeLine ∧ Pv (i + 1) (acc ++ [y]) M3) ∧ (k = false → Pv (i + 1) acc M2)) ∧
      ∀ acc M', Pv ds.length acc M' → RD acc M')
    (hQ : ∀ p acc xs M' S' A' H', H p = none → Step S A H S' A' H' → Stt X.K b σ S' A' H' Γ M' → p ∉ A' → S' p = none → H' p = some (.lst xs) → Reps X.K S' A' acc xs → RD acc M' → Q (.ref p) H')
    (hz : ∀ acc M', RD acc M' → True) : tLc wi (t.g X.K) (tBlkT X scope ifs) (tBlk X scope elt) vs σ H Q := by
  refine h σ S A H _ st fun J ds Gm M1 S1 A1 H1 s1 st1 gv hq p hp => ?_
  obtain ⟨Pv, h0, hG, hstep, hd⟩ := hq
  obtain ⟨⟨G, Y, w, wG, wY⟩, _⟩ := gv
  have hp0 : H p = none := none_back s1.dom hp
  have hb : b.H p = none := none_back st1.base.dom hp
  refine lc_it w (fun i H' => ∃ S' A' M' acc xs, Step S1 A1 H1 S' A' H' ∧ Stt X.K b σ S' A' H' Γ M' ∧ p ∉ A' ∧ S' p = none ∧ H' p = some (.lst xs) ∧ Reps X.K S' A' acc xs ∧ Pv i acc M')
    ⟨S1, A1, M1, [], [], (Step.refl _ _ _).otherNew hp, st1.other hb (st1.freshS hp) (st1.notA hp) (.inl hp), st1.notA hp, st1.freshS hp, upd_same, .nil, h0⟩ ?_ ?_ ?_
  · rintro i H' hi ⟨S', A', M', acc, xs, s', st', n1, n2, hx, hr, pv⟩
    exact wG σ S' A' H' Γ M' s' st' (hG i acc M' hi pv)
  · rintro i x H' H3 hi ⟨S', A', M', acc, xs, s', st', n1, n2, hx, hr, pv⟩ hY
    obtain ⟨S3, d, hds, s3, st3, rd⟩ := wY σ S' A' H' Γ M' i x H3 s' st' (hG i acc M' (Nat.le_of_lt hi) pv) hi hY
    -- p is still apart
    have apart : ∀ {S4 : Hp} {A4 : List Addr} {H4 : Hp} {S5 : Hp} {A5 : List Addr} {H5 : Hp} {u : HO}, Step S4 A4 H4 S5 A5 H5 → p ∉ A4 → S4 p = none → H4 p = some u → p ∉ A5 ∧ S5 p = none ∧ H5 p = some u := fun {S4 A4 H4 S5 A5 H5 u} s m1 m2 m3 => by
      refine ⟨fun z => ?_, ?_, s.keep p u m3 m1⟩
      · rcases s.newA p z with q | q
        · exact m1 q
        · rw [m3] at q; cases q
      · cases e : S5 p with
        | none => rfl
        | some o =>
          rcases s.newS p o e with q | q | q
          · rw [m2] at q; cases q
          · rw [m3] at q; cases q
          · exact absurd q m1
    obtain ⟨k1, k2, k3⟩ := apart s3 n1 n2 hx
    obtain ⟨Γ2, hput, hrun⟩ := hstep i d acc M' hds pv
    have stw : Stt X.K b (wipe σ vs) S3 A' H3 (wipeG Γ vs) M' := st3.withEnv (st3.env.wipe vs)
    refine Tgt.run hput hsl stw rd fun σ4 st4 hw4 => ?_
    refine ⟨by rw [hw4]; exact wipe_wipe fun u hu => hu, ?_⟩
    refine aifs_ev hrun σ4 S3 A' H3 _ st4 fun k M5 S5 A5 H5 s5 st5 ⟨q1, q2⟩ => ?_
    obtain ⟨l1, l2, l3⟩ := apart s5 k1 k2 k3
    have back : ∀ {S6 : Hp} {A6 : List Addr} {H6 : Hp} {M6 : Mem}, Step S3 A' H3 S6 A6 H6 → Stt X.K b σ4 S6 A6 H6 Γ2 M6 → Stt X.K b σ S6 A6 H6 Γ M6 := fun {S6 A6 H6 M6} s t => t.withEnv (st3.env.mono s.s s.a)
    cases k with
    | false =>
      refine iteF ⟨S5, A5, M5, acc, xs, (s'.trans s3).trans s5, back s5 st5, l1, l2, l3, (hr.mono s3.s s3.a).mono s5.s s5.a, q2 rfl⟩
    | true =>
      refine iteT ?_
      intro s0 H0 C cl fp
      refine q1 rfl s0 H0 C cl fp σ4 S5 A5 H5 _ st5 fun y dy M6 S6 A6 H6 s6 st6 r6 q6 => ?_
      obtain ⟨m1, m2, m3⟩ := apart s6 l1 l2 l3
      have hr6 := ((hr.mono s3.s s3.a).mono s5.s s5.a).mono s6.s s6.a
      have sA := ((s'.trans s3).trans s5).trans s6
      have st6' := back (s5.trans s6) st6
      refine ⟨xs, m3, by rw [← hr6.length]; exact q6.1, S6, A6, M6, acc ++ [dy], xs ++ [y], sA.other hp ⟨_, m3⟩, st6'.other hb m2 m1 (.inr ⟨_, m3⟩), m1, m2, upd_same, hr6.append (.cons r6 .nil), q6.2⟩
  · rintro H' ⟨S', A', M', acc, xs, s', st', n1, n2, hx, hr, pv⟩
    exact hQ p acc xs M' S' A' H' hp0 (s1.trans s') st' n1 n2 hx hr (hd acc M' pv)
/-- what a comprehension asks: a word Pv of the turn, of what is made so far, of the memory -/
def LcAsk (X : Cx) (b : Bas) (scope : Scope) (t : Tgt) (vs : List Nat) (ifs : List Expr) (elt : Expr) (Γ : Gam) (RD : List Dat → Mem → Prop) (ds : List Dat) (Gm : Mem → Prop) (M1 : Mem) : Prop :=
  ∃ Pv : Nat → List Dat → Mem → Prop, Pv 0 [] M1 ∧ (∀ i acc M', i ≤ ds.length → Pv i acc M' → Gm M') ∧
    (∀ i d acc M', ds[i]? = some d → Pv i acc M' → ∃ Γ2, t.Put d (wipeG Γ vs) Γ2 ∧ AIfs X b scope ifs Γ2 M' fun k M2 => (k = true → AEB X b scope elt Γ2 M2 fun y M3 => acc.length < sizeLine ∧ Pv (i + 1) (acc ++ [y]) M3) ∧ (k = false → Pv (i + 1) acc M2)) ∧
    ∀ acc M', Pv ds.length acc M' → RD acc M'
theorem EV_lc {wi : TI} {t : Tgt} {vs : List Nat} (hsl : ∀ i ∈ t.slots, i ∈ vs) (h : IV X.K b wi Γ M (LcAsk X b scope t vs ifs elt Γ fun acc M' => R (.lst acc) M')) : EV X.K b (tLc wi (t.g X.K) (tBlkT X scope ifs) (tBlk X scope elt) vs) Γ M R := fun σ S A H Q st p =>
  lc_run st hsl h (fun q acc xs M' S' A' H' hq s' st' n1 n2 hx hr hR =>
    p (.ref q) (.lst acc) M' (upd S' q (.lst xs)) A' H' (s'.adopt hq n2) (st'.adopt (none_back st.base.dom hq) n2 n1 hx) (.lst upd_same (hr.mono (fun x u e => by
      rw [upd_ne (ne_of_none e n2)]
      exact e) List.prefix_rfl)) hR) fun _ _ _ => trivial
theorem EV_lcC {wi : TI} {t : Tgt} {vs : List Nat} (hsl : ∀ i ∈ t.slots, i ∈ vs) (h : IV X.K b wi Γ M (LcAsk X b scope t vs ifs elt Γ fun acc M' => R (.ptr M'.length) (M' ++ [.lst acc]))) : EV X.K b (tLc wi (t.g X.K) (tBlkT X scope ifs) (tBlk X scope elt) vs) Γ M R := fun σ S A H Q st p =>
  lc_run st hsl h (fun q acc xs M' S' A' H' hq s' st' n1 n2 hx hr hR =>
    p (.ref q) (.ptr M'.length) (M' ++ [.lst acc]) S' (A' ++ [q]) H' (s'.adoptC hq) (st'.adoptC (none_back st.base.dom hq) n2 n1 hx hr) (.ptr (by rw [← st'.len, List.getElem?_append_right (Nat.le_refl _), Nat.sub_self] <;> rfl)) hR) fun _ _ _ => trivial
theorem pe_blk : ∀ (s : Shared) (H : Hp) (C : Addr) (cl : List (Str × Addr)) (fp : List Addr), PE (X.blk s H scope (compEnvC scope cl C X.env) fp) elt (tBlk X scope elt) := fun s H C cl fp => ⟨fun pins s' σ H' Q I h => h s H C cl fp pins s' I⟩
/-- as a value; hg: the target's rule, for a name pg_name, for names pg_tup .. -/
theorem A_lc (t : Tgt) (hc : X.calm = true) (hN : X.N.Nodup) (ok : BlkOk X.N X.env.scope scope own) (hg : ∀ (s : Shared) (H : Hp) (C : Addr) (cl : List (Str × Addr)) (fp : List Addr), PG (X.blk s H scope (compEnvC scope cl C X.env) fp) tg (t.g X.K)) (hsl : ∀ i ∈ t.slots, i ∈ own.map (·.2))
    (h : AI X b tg iter Γ M (LcAsk X b scope t (own.map (·.2)) ifs elt Γ fun acc M' => R (.lst acc) M')) (hs : ∀ x, foldedSetIterable iter X.env x = pure x := by intro _; rfl) : AE X b (.ListComp elt [⟨tg, iter, ifs, 0⟩] scope pos) Γ M R := by
  obtain ⟨wi, hpi, hwi⟩ := h
  exact AE.of (pe_lc hc hN hpi ok hg pts_blk pe_blk hs) (EV_lc hsl hwi)
theorem A_lcC (t : Tgt) (hc : X.calm = true) (hN : X.N.Nodup) (ok : BlkOk X.N X.env.scope scope own) (hg : ∀ (s : Shared) (H : Hp) (C : Addr) (cl : List (Str × Addr)) (fp : List Addr), PG (X.blk s H scope (compEnvC scope cl C X.env) fp) tg (t.g X.K)) (hsl : ∀ i ∈ t.slots, i ∈ own.map (·.2))
    (h : AI X b tg iter Γ M (LcAsk X b scope t (own.map (·.2)) ifs elt Γ fun acc M' => R (.ptr M'.length) (M' ++ [.lst acc]))) (hs : ∀ x, foldedSetIterable iter X.env x = pure x := by intro _; rfl) : AE X b (.ListComp elt [⟨tg, iter, ifs, 0⟩] scope pos) Γ M R := by
  obtain ⟨wi, hpi, hwi⟩ := h
  exact AE.of (pe_lc hc hN hpi ok hg pts_blk pe_blk hs) (EV_lcC hsl hwi)
/-- y = [..] on one line, y a plain local -/
theorem S_setLc (i : Nat) (t : Tgt) {y : Str} {py : Pos} {spos : Pos} {D : AEnds} (hc : X.calm = true) (hN : X.N.Nodup) (hy : X.N[i]? = some y) (hyl : X.env.scope.names.lookup y = some .local) (hsw : swapsWith (.ListComp elt [⟨tg, iter, ifs, 0⟩] scope pos) (some (.Name y py)) spos.line X.env = pure true)
    (ok : BlkOk X.N X.env.scope scope own) (hg : ∀ (s : Shared) (H : Hp) (C : Addr) (cl : List (Str × Addr)) (fp : List Addr), PG (X.blk s H scope (compEnvC scope cl C X.env) fp) tg (t.g X.K)) (hsl : ∀ i ∈ t.slots, i ∈ own.map (·.2))
    (h : AI X b tg iter Γ M (LcAsk X b scope t (own.map (·.2)) ifs elt Γ fun acc M' => D.nx (Γ.set i (some (.lst acc))) M')) (hs : ∀ x, foldedSetIterable iter X.env x = pure x := by intro _; rfl) : AS X b (.Assign [.Name y py] (.ListComp elt [⟨tg, iter, ifs, 0⟩] scope pos) spos) Γ M D := by
  obtain ⟨wi, hpi, hwi⟩ := h
  refine AS.of (ps_setLc hc hN hy hyl hsw hpi ok hg pts_blk pe_blk hs) fun σ S A H D' st r => ?_
  exact EV_lc (R := fun d M' => D.nx (Γ.set i (some d)) M') hsl hwi σ S A H _ st fun v d M1 S1 A1 H1 s1 st1 r1 q => r.nx _ S1 A1 H1 _ M1 s1 (st1.set r1) q
theorem S_setLcC (i : Nat) (t : Tgt) {y : Str} {py : Pos} {spos : Pos} {D : AEnds} (hc : X.calm = true) (hN : X.N.Nodup) (hy : X.N[i]? = some y) (hyl : X.env.scope.names.lookup y = some .local) (hsw : swapsWith (.ListComp elt [⟨tg, iter, ifs, 0⟩] scope pos) (some (.Name y py)) spos.line X.env = pure true)
    (ok : BlkOk X.N X.env.scope scope own) (hg : ∀ (s : Shared) (H : Hp) (C : Addr) (cl : List (Str × Addr)) (fp : List Addr), PG (X.blk s H scope (compEnvC scope cl C X.env) fp) tg (t.g X.K)) (hsl : ∀ i ∈ t.slots, i ∈ own.map (·.2))
    (h : AI X b tg iter Γ M (LcAsk X b scope t (own.map (·.2)) ifs elt Γ fun acc M' => D.nx (Γ.set i (some (.ptr M'.length))) (M' ++ [.lst acc]))) (hs : ∀ x, foldedSetIterable iter X.env x = pure x := by intro _; rfl) : AS X b (.Assign [.Name y py] (.ListComp elt [⟨tg, iter, ifs, 0⟩] scope pos) spos) Γ M D := by
  obtain ⟨wi, hpi, hwi⟩ := h
  refine AS.of (ps_setLc hc hN hy hyl hsw hpi ok hg pts_blk pe_blk hs) fun σ S A H D' st r => ?_
  exact EV_lcC (R := fun d M' => D.nx (Γ.set i (some d)) M') hsl hwi σ S A H _ st fun v d M1 S1 A1 H1 s1 st1 r1 q => r.nx _ S1 A1 H1 _ M1 s1 (st1.set r1) q
end
end Ab
end

section
set_option Elab.async false
set_option linter.all false
set_option maxRecDepth 100000
set_option maxHeartbeats 4000000
namespace Ab
open PySem PySem.Spec PyProof.Rows L2

/-! ### exceptions by data: the class, its one field if it has one -/
abbrev Exn := Str × Option (Str × Dat)
def ExnAt (K : PySem.W.Frag) (S' : Hp) (A' : List Addr) (H' : Hp) (x : Exn) (cls : Value) (d : Option Addr) : Prop :=
  PySem.W.nsIn K mainGlobals x.1 = some (some cls) ∧ match x.2 with
    | none => d = none
    | some (f, v) => ∃ dd w, d = some dd ∧ H' dd = some (.xd [(f, w)]) ∧ Rep K S' A' v w
/-! ### results -/
inductive Rs (α : Type) where
  | ok (a : α) (M : Mem)
  | ex (x : Exn) (Γ : Gam) (M : Mem)
  | no
def Rs.bind {α β : Type} (r : Rs α) (f : α → Mem → Rs β) : Rs β := match r with
  | .ok a M => f a M
  | .ex x Γ M => .ex x Γ M
  | .no => .no
/-- told with the slots of the caller -/
def Rs.at {α : Type} (Γ : Gam) (r : Rs α) : Rs α := match r with
  | .ex x _ M => .ex x Γ M
  | r => r
def Good {α : Type} (r : Rs α) (R : α → Mem → Prop) (E : Exn → Gam → Mem → Prop) : Prop := match r with
  | .ok a M => R a M
  | .ex x Γ M => E x Γ M
  | .no => False
theorem Good.imp {α : Type} {r : Rs α} {R R' : α → Mem → Prop} {E E' : Exn → Gam → Mem → Prop} (g : Good r R E) (h : ∀ a M, R a M → R' a M) (h2 : ∀ a Γ M, E a Γ M → E' a Γ M) : Good r R' E' := by
  cases r with
  | ok a M => exact h _ _ g
  | ex x Γ M => exact h2 _ _ _ g
  | no => exact g
theorem Good.bnd {α β : Type} {r : Rs α} {f : α → Mem → Rs β} {R : β → Mem → Prop} {E : Exn → Gam → Mem → Prop} (g : Good (r.bind f) R E) : Good r (fun a M => Good (f a M) R E) E := by
  cases r with
  | ok a M => exact g
  | ex x Γ M => exact g
  | no => exact g
theorem Good.of_at {α : Type} {r : Rs α} {Γ : Gam} {R : α → Mem → Prop} {E : Exn → Gam → Mem → Prop} (g : Good (r.at Γ) R E) : Good r R (fun x _ M => E x Γ M) := by
  cases r with
  | ok a M => exact g
  | ex x Γ M => exact g
  | no => exact g

/-! ### what a def promises: all cells of the caller may be handed on -/
/-- the caller's cells B as M -/
structure Lent (K : PySem.W.Frag) (S : Hp) (B : List Addr) (H : Hp) (M : Mem) : Prop where
  sub : Same S H
  nd : B.Nodup
  len : B.length = M.length
  own : ∀ (k : Nat) (x : Addr) (c : Cel), B[k]? = some x → M[k]? = some c → c ≠ .dead → S x = none
  cell : ∀ (k : Nat) (x : Addr) (c : Cel), B[k]? = some x → M[k]? = some c → CellAt K S B H x c
def SpD (K : PySem.W.Frag) (n : Nat) (F : List Dat → Mem → Rs Dat) : Sp := fun vs H Q E => ∃ (S : Hp) (B : List Addr) (ds : List Dat) (M : Mem),
  Lent K S B H M ∧ Reps K S B ds vs ∧ ds.length = n ∧
  Good (F ds M) (fun d M' => ∀ v S' A' H', Step S B H S' A' H' → Lent K S' A' H' M' → Rep K S' A' d v → Q v H')
    (fun x _ M' => ∀ cls dd S' A' H', Step S B H S' A' H' → Lent K S' A' H' M' → ExnAt K S' A' H' x cls dd → E cls dd H')
theorem Stt.lent {K : PySem.W.Frag} {b : Bas} {σ : L2.St} {S : Hp} {A : List Addr} {H : Hp} {Γ : Gam} {M : Mem} (h : Stt K b σ S A H Γ M) : Lent K S A H M := ⟨h.sub, h.nd, h.len, h.own, h.cell⟩
def startG (N : List Str) (ds : List Dat) : Gam := ds.map some ++ List.replicate (N.length - ds.length) none
def endsOf (R : Dat → Mem → Prop) : AEnds := { nx := fun _ M => R .non M, rt := R }
/-- a wish about exceptions keeps its word by data -/
def ExcW (K : PySem.W.Frag) (b : Bas) (W : WX) (EW : Exn → Gam → Mem → Prop) : Prop :=
  ∀ x cls d σ S A H Γ M, Stt K b σ S A H Γ M → ExnAt K S A H x cls d → EW x Γ M → W cls d σ H
section
variable {K : PySem.W.Frag}
theorem start_envs {S : Hp} {A : List Addr} {N : List Str} {ds : List Dat} {vs : List V} (r : Reps K S A ds vs) : Envs K S A (L2.start N vs) (startG N ds) := by
  have hl := r.length
  refine ⟨by unfold L2.start startG; simp [hl], fun i d q => ?_⟩
  unfold startG at q
  unfold L2.start
  by_cases hi : i < ds.length
  · rw [List.getElem?_append_left (by simpa using hi), List.getElem?_map] at q
    cases e : ds[i]? with
    | none => rw [e] at q; cases q
    | some d0 =>
      rw [e] at q
      have e0 : d0 = d := Option.some.inj (Option.some.inj q)
      subst e0
      obtain ⟨v, h1, h2⟩ := r.getD e
      refine ⟨v, ?_, h2⟩
      rw [List.getElem?_append_left (by rw [List.length_map, ← hl]; exact hi), List.getElem?_map, h1]
      rfl
  · rw [List.getElem?_append_right (by simpa using hi), List.getElem?_replicate] at q
    split at q <;> cases q
variable {P : Program} {w : World} {mg : Str → Option Value} {base : Heap}
/-- THE RULE for a def by data -/
theorem fn_D {x qual : Str} {st : Stmt} {f : Addr} {fd : FuncData} {N ps : List Str} {k n : Nat} {F : List Dat → Mem → Rs Dat} (Fn : Fun K x qual st f fd) (Sc : FnScope N ps (defScope st)) (hn : ps.length = n)
    (hbody : ∀ (cdv : Value) (A : Around) (outer : List Env) (s : Shared) (H : Hp) (E : XK) (b : Bas) (ds : List Dat) (M : Mem) (R : Dat → Mem → Prop) (EF : Exn → Mem → Prop), Room k (A.deeper (envOfC qual (defScope st) s.heap.objs.size f cdv)) → ds.length = n →
      ExcW K b (fun cls d _ H' => E cls d H') (fun x _ => EF x) → Good (F ds M) R (fun x _ => EF x) → ASs (cxOf (L2.CX P w) P w K mg base N qual (defScope st) f cdv A outer s H E) b (defBody st) (startG N ds) M (endsOf R)) :
    FnOk P w K mg base (L2.CX P w) (k + 1) f fd ps (SpD K n F) := by
  refine Fn.okX Sc (fun vs H Q E h => ?_) (fun cdv A outer s H vs Q E hr h => ?_)
  · obtain ⟨S, B, ds, M, _, r, hl, _⟩ := h
    rw [← r.length, hl, hn]
  · obtain ⟨S, B, ds, M, hL, r, hl, hF⟩ := h
    refine ⟨_, pss_tW, ?_⟩
    have st0 : Stt K ⟨S, B, H⟩ (L2.start N vs) S B H (startG N ds) M := ⟨Step.refl _ _ _, hL.sub, hL.nd, hL.len, hL.own, hL.cell, start_envs r⟩
    exact hbody cdv A outer s H E ⟨S, B, H⟩ ds M _ _ hr hl (fun x cls d σ S' A' H' Γ' M' st' hx hq => hq cls d S' A' H' st'.base st'.lent hx) hF (L2.start N vs) S B H _ st0
      ⟨fun σ' S' A' H' Γ' M' s' st' q => q .non S' A' H' s' st'.lent .non, fun σ' S' A' H' Γ' M' v d s' st' rd q => q v S' A' H' s' st'.lent rd, fun _ _ _ _ _ _ _ _ q => q.elim, fun _ _ _ _ _ _ _ _ q => q.elim⟩

/-! ### calls -/
variable {b : Bas} {σ : L2.St} {S : Hp} {A : List Addr} {H : Hp} {Γ : Gam} {M : Mem}
theorem after_all {S' : Hp} {A' : List Addr} {H' : Hp} {M' : Mem} (st : Stt K b σ S A H Γ M) (s : Step S A H S' A' H') (l : Lent K S' A' H' M') : Stt K b σ S' A' H' Γ M' :=
  ⟨st.base.trans s, l.sub, l.nd, l.len, l.own, l.cell, st.env.mono s.s s.a⟩
theorem after_none {S' : Hp} {A' : List Addr} {H' : Hp} {M' : Mem} (st : Stt K b σ S A H Γ M) (s : Step S [] H S' A' H') (l : Lent K S' A' H' M') : Step S A H S' A H' ∧ Stt K b σ S' A H' Γ M := by
  have kp : ∀ x o, H x = some o → H' x = some o := fun x o e => s.keep x o e (by simp)
  have sp : Step S A H S' A H' := ⟨s.s, List.prefix_rfl, fun x o e _ => kp x o e, fun x o e => (s.newS x o e).elim .inl fun q => q.elim (fun q => .inr (.inl q)) fun q => absurd q (by simp), fun x hx => .inl hx, s.dom⟩
  refine ⟨sp, st.base.trans sp, l.sub, st.nd, st.len, fun k x c h1 h2 h3 => ?_, fun k x c h1 h2 => (st.cell k x c h1 h2).mono s.s List.prefix_rfl (kp x), st.env.mono s.s List.prefix_rfl⟩
  have hS := st.own k x c h1 h2 h3
  obtain ⟨u, hu⟩ := (st.cell k x c h1 h2).lives
  cases e : S' x with
  | none => rfl
  | some o =>
    rcases s.newS x o e with q | q | q
    · rw [hS] at q; cases q
    · rw [hu] at q; cases q
    · exact absurd q (by simp)
theorem lent_nil {S H : Hp} (h : Same S H) : Lent K S [] H [] := ⟨h, List.nodup_nil, rfl, fun k x c h => by simp at h, fun k x c h => by simp at h⟩
end
/-- what comes back from a call that had nothing lent: M the caller's memory -/
def backF (M : Mem) (d : Dat) (M1 : Mem) : Rs Dat := match d with
  | .ptr k => match M1[k]? with
    | some (.lst ds) => if Dat.nps ds then .ok (.lst ds) M else .no
    | _ => .no
  | d => if d.np then .ok d M else .no
def backC (M : Mem) (d : Dat) (M1 : Mem) : Rs Dat := match d with
  | .ptr k => match M1[k]? with
    | some (.lst ds) => if Dat.nps ds then .ok (.ptr M.length) (M ++ [.lst ds]) else .no
    | _ => .no
  | d => if d.np then .ok d M else .no
def exB (M : Mem) (x : Exn) : Rs Dat := match x.2 with
  | none => .ex x [] M
  | some (_, v) => if v.np then .ex x [] M else .no
def callN (bk : Mem → Dat → Mem → Rs Dat) (F : List Dat → Mem → Rs Dat) (ds : List Dat) (M : Mem) : Rs Dat :=
  if Dat.nps ds then match F ds [] with
    | .ok d M1 => bk M d M1
    | .ex x _ _ => exB M x
    | .no => .no
  else .no
section
variable {K : PySem.W.Frag} {b : Bas} {σ : L2.St} {S : Hp} {A : List Addr} {H : Hp} {Γ : Gam} {M : Mem}
theorem back_np {M1 : Mem} {S' : Hp} {A' : List Addr} {H' : Hp} {d : Dat} {v : V} {R : Dat → Mem → Prop} {Q : VK} (st : Stt K b σ S A H Γ M) (s : Step S [] H S' A' H') (l : Lent K S' A' H' M1) (r : Rep K S' A' d v) (p : Post K b σ S A H Γ R Q)
    (hn : d.np = true) (q : R d M) : Q v H' := by
  obtain ⟨sp, st'⟩ := after_none st s l
  exact (p.after sp).here st' (r.free hn) q
theorem back_ptr {M1 : Mem} {S' : Hp} {A' : List Addr} {H' : Hp} {k : Nat} {ds : List Dat} {v : V} (st : Stt K b σ S A H Γ M) (s : Step S [] H S' A' H') (l : Lent K S' A' H' M1) (r : Rep K S' A' (.ptr k) v) (hM : M1[k]? = some (.lst ds)) (hn : Dat.nps ds = true) :
    ∃ x xs, v = .ref x ∧ H x = none ∧ S' x = none ∧ H' x = some (.lst xs) ∧ Reps K S' A ds xs := by
  cases r with
  | @ptr _ x hA' =>
    obtain ⟨xs, g, rr⟩ := l.cell _ _ _ hA' hM
    refine ⟨x, xs, rfl, ?_, l.own _ _ _ hA' hM (fun z => nomatch z), g, rr.free hn⟩
    rcases s.newA x (List.mem_of_getElem? hA') with q | q
    · exact absurd q (by simp)
    · exact q
theorem good_backF {M1 : Mem} {S' : Hp} {A' : List Addr} {H' : Hp} {d : Dat} {v : V} {R : Dat → Mem → Prop} {E : Exn → Gam → Mem → Prop} {Q : VK} (st : Stt K b σ S A H Γ M) (s : Step S [] H S' A' H') (l : Lent K S' A' H' M1) (r : Rep K S' A' d v) (p : Post K b σ S A H Γ R Q)
    (g : Good (backF M d M1) R E) : Q v H' := by
  unfold backF at g
  split at g
  · rename_i k
    split at g
    · rename_i ds hM
      by_cases hn : Dat.nps ds = true
      · rw [if_pos hn] at g
        obtain ⟨x, xs, ev, h1, h2, h3, rr⟩ := back_ptr st s l r hM hn
        subst ev
        obtain ⟨sp, st'⟩ := after_none st s l
        have hA : x ∉ A := st.notA h1
        have hb : b.H x = none := none_back st.base.dom h1
        refine p (.ref x) (.lst ds) M (upd S' x (.lst xs)) A H' (sp.adopt h1 h2) (st'.adopt hb h2 hA h3) (.lst upd_same (Reps.mono (fun y u e => ?_) List.prefix_rfl rr)) g
        rw [upd_ne (ne_of_none e h2)]
        exact e
      · rw [if_neg hn] at g
        exact g.elim
    · exact g.elim
  · by_cases hn : d.np = true
    · rw [if_pos hn] at g
      exact back_np st s l r p hn g
    · rw [if_neg hn] at g
      exact g.elim
theorem good_backC {M1 : Mem} {S' : Hp} {A' : List Addr} {H' : Hp} {d : Dat} {v : V} {R : Dat → Mem → Prop} {E : Exn → Gam → Mem → Prop} {Q : VK} (st : Stt K b σ S A H Γ M) (s : Step S [] H S' A' H') (l : Lent K S' A' H' M1) (r : Rep K S' A' d v) (p : Post K b σ S A H Γ R Q)
    (g : Good (backC M d M1) R E) : Q v H' := by
  unfold backC at g
  split at g
  · rename_i k
    split at g
    · rename_i ds hM
      by_cases hn : Dat.nps ds = true
      · rw [if_pos hn] at g
        obtain ⟨x, xs, ev, h1, h2, h3, rr⟩ := back_ptr st s l r hM hn
        subst ev
        obtain ⟨sp, st'⟩ := after_none st s l
        have hA : x ∉ A := st.notA h1
        have hb : b.H x = none := none_back st.base.dom h1
        have g : R (.ptr M.length) (M ++ [.lst ds]) := g
        refine p (.ref x) (.ptr M.length) (M ++ [.lst ds]) S' (A ++ [x]) H' (sp.adoptC h1) (st'.adoptC (ds := ds) hb h2 hA h3 rr) (.ptr ?_) g
        rw [← st.len, List.getElem?_append_right (Nat.le_refl _), Nat.sub_self]; rfl
      · rw [if_neg hn] at g
        exact g.elim
    · exact g.elim
  · by_cases hn : d.np = true
    · rw [if_pos hn] at g
      exact back_np st s l r p hn g
    · rw [if_neg hn] at g
      exact g.elim
theorem good_exB {M1 : Mem} {S' : Hp} {A' : List Addr} {H' : Hp} {x : Exn} {cls : Value} {dd : Option Addr} {R : Dat → Mem → Prop} {EW : Exn → Gam → Mem → Prop} {W : WX} (hW : ExcW K b W EW) (st : Stt K b σ S A H Γ M) (s : Step S [] H S' A' H') (l : Lent K S' A' H' M1) (hx : ExnAt K S' A' H' x cls dd)
    (g : Good (exB M x) R (fun x _ M => EW x Γ M)) : W cls dd σ H' := by
  obtain ⟨sp, st'⟩ := after_none st s l
  obtain ⟨c, o⟩ := x
  cases o with
  | none => exact hW _ cls dd σ S' A H' Γ M st' hx g
  | some fv =>
    obtain ⟨f, v⟩ := fv
    have g : Good (if v.np then (.ex (c, some (f, v)) [] M : Rs Dat) else .no) R (fun x _ M => EW x Γ M) := g
    by_cases hn : v.np = true
    · rw [if_pos hn] at g
      obtain ⟨h1, d2, w, h2, h3, h4⟩ := hx
      exact hW _ cls dd σ S' A H' Γ M st' ⟨h1, d2, w, h2, h3, h4.free hn⟩ g
    · rw [if_neg hn] at g
      exact g.elim
end
section
variable {X : Cx} {b : Bas} {Γ : Gam} {M : Mem} {R : Dat → Mem → Prop} {W : WX} {EW : Exn → Gam → Mem → Prop} {k n : Nat} {f : Addr} {fd : FuncData} {ps : List Str} {F : List Dat → Mem → Rs Dat} {x : Str} {p pos : Pos} {e : Expr} {es : List Expr}
theorem call_N {bk : Mem → Dat → Mem → Rs Dat} (hbk : ∀ {K : PySem.W.Frag} {b : Bas} {σ : L2.St} {S : Hp} {A : List Addr} {H : Hp} {Γ : Gam} {M : Mem} {M1 : Mem} {S' : Hp} {A' : List Addr} {H' : Hp} {d : Dat} {v : V} {R : Dat → Mem → Prop} {E : Exn → Gam → Mem → Prop} {Q : VK}, Stt K b σ S A H Γ M → Step S [] H S' A' H' → Lent K S' A' H' M1 → Rep K S' A' d v → Post K b σ S A H Γ R Q → Good (bk M d M1) R E → Q v H')
    (G : FnOk X.prog X.w X.K X.mg X.base (L2.CX X.prog X.w) k f fd ps (SpD X.K n F)) (hr : Room k X.A) (hg : Gl X x) (hm : X.mg x = some (.ref f)) (hk : PySem.W.keepIn X.K (.ref f) = true) (hb : Binds X.K fd ps []) (tk : Takes X W) (hW : ExcW X.K b W EW)
    (h : AA X b (e :: es) Γ M fun ds M1 => ds.length = n ∧ Good (callN bk F ds M1) R (fun x _ M => EW x Γ M)) (hdb : (x == ("__debug__" : Str)) = false := by decide) (he : starEach (e :: es) X.env = (false, eval e X.env) :: starEach es X.env := by rfl) (hpl : (backTo pos (starEach es X.env)).any (·.1) = false := by rfl) :
    AE X b (.Call (.Name x p) (e :: es) [] pos) Γ M R :=
  AE.of (pe_callS G hr hg hm hk hb (fun σ => passAt tk σ) pa_tW hdb he hpl) fun σ S A H Q st pq => h σ S A H _ st fun vs ds M1 S1 A1 H1 s1 st1 r1 ⟨hl, g⟩ => by
    unfold callN at g
    by_cases hn : Dat.nps ds = true
    · rw [if_pos hn] at g
      refine ⟨S1, [], ds, [], lent_nil st1.sub, r1.free hn, hl, ?_⟩
      cases eF : F ds [] with
      | ok d M2 =>
        rw [eF] at g
        intro v S' A' H' s l r
        exact hbk st1 s l r (pq.after s1) g
      | ex x G2 M2 =>
        rw [eF] at g
        intro cls dd S' A' H' s l hx
        exact good_exB hW st1 s l hx g
      | no =>
        rw [eF] at g
        exact g.elim
    · rw [if_neg hn] at g
      exact g.elim
/-- the callee works on the caller's cells -/
theorem call_H (G : FnOk X.prog X.w X.K X.mg X.base (L2.CX X.prog X.w) k f fd ps (SpD X.K n F)) (hr : Room k X.A) (hg : Gl X x) (hm : X.mg x = some (.ref f)) (hk : PySem.W.keepIn X.K (.ref f) = true) (hb : Binds X.K fd ps []) (tk : Takes X W) (hW : ExcW X.K b W EW)
    (h : AA X b (e :: es) Γ M fun ds M1 => ds.length = n ∧ Good (F ds M1) R (fun x _ M => EW x Γ M)) (hdb : (x == ("__debug__" : Str)) = false := by decide) (he : starEach (e :: es) X.env = (false, eval e X.env) :: starEach es X.env := by rfl) (hpl : (backTo pos (starEach es X.env)).any (·.1) = false := by rfl) :
    AE X b (.Call (.Name x p) (e :: es) [] pos) Γ M R :=
  AE.of (pe_callS G hr hg hm hk hb (fun σ => passAt tk σ) pa_tW hdb he hpl) fun σ S A H Q st pq => h σ S A H _ st fun vs ds M1 S1 A1 H1 s1 st1 r1 ⟨hl, g⟩ => by
    refine ⟨S1, A1, ds, M1, st1.lent, r1, hl, ?_⟩
    exact g.imp (fun d M' q v S' A' H' s l r => (pq.after s1) v d M' S' A' H' s (after_all st1 s l) r q) (fun xn _ M' q cls dd S' A' H' s l hx => hW xn cls dd σ S' A' H' Γ M' (after_all st1 s l) hx q)
end
end Ab
end

section
set_option Elab.async false
set_option linter.all false
set_option maxRecDepth 100000
set_option maxHeartbeats 4000000
/-! Bx1: list comprehensions out of which a call's exception goes. -/
namespace Ab
open PySem PySem.Spec PyProof.Rows L2

theorem note_same {e : Value} {a b : Env} (h : a.frame = b.frame) : noteFrame e a = noteFrame e b := by
  unfold noteFrame PySem.frameOf
  rw [h]
/-- the end of a comprehension's block, its own names known -/
def EndC (M : Model) (A : Around) (E : Value → Shared → Prop) (use : Option (Value → Sem Unit)) (Q : Value → Shared → Prop) (acc : Value) (ce : Env) : Result → Shared → Prop
  | .ok _, t => (match use with
    | none => ∃ m, t.heap.Ns ce.locals m ∧ ∀ g, Heap.SameBut ce.locals t.heap g → Q acc { t with heap := g }
    | some u => wpAny M A (u acc) (fun _ t2 => ∃ m, t2.heap.Ns ce.locals m ∧ ∀ g, Heap.SameBut ce.locals t2.heap g → Q .none { t2 with heap := g }) E t)
  | .error x, t => ∃ m, t.heap.Ns ce.locals m ∧ ∀ g, Heap.SameBut ce.locals t.heap g → wpAny M A (passOn "comprehension.variables-let-go" x ce : Sem Value) (fun _ _ => False) E { t with heap := g }
section
variable {M : Model} {A : Around} {E : Value → Shared → Prop} {t : Shared} {env : Env}
theorem comp_endC {e : Expr} {sc : Scope} {pos : Pos} {mk first : Sem Value} {g : Comprehension} {gs : List Comprehension} {cl : List (Str × Addr)} {use : Option (Value → Sem Unit)} {Q : Value → Shared → Prop}
    (h1 : clausesOf e = g :: gs) (h2 : ∀ x, foldedSetIterable g.iter env x = pure x) (h3 : closureFor sc env = pure cl) (h4 : sc.kind = .function) (h5 : ∀ x ∈ sc.names, x.2 = .local → sc.names.lookup x.1 = some .local)
    (h : wpAny M A first (fun x t1 => wpAny M A (pyIter x) (fun it t2 => wpAny M A mk (fun acc t3 => wpAny M A (newFunctionEnv sc env.globals cl [] env.qual none .none (some env)) (fun ce t4 =>
        codeAny M A (.compStart e 0 it acc { ce with scope := relabel sc env }) (EndC M A E use Q acc { ce with scope := relabel sc env }) t4) E t3) E t2) E t1) E t) :
    wpAny M A (comprehension e sc env pos mk false first use) Q E t := by
  unfold comprehension
  rw [h3, h1]
  refine wpAny_bind (wpAny_mono h (fun x t1 k1 => ?_) fun _ _ z => z)
  refine wpAny_bind (wpAny_standAt (wpAny_bind (wpAny_of_eq (h2 x) ?_)))
  refine wpAny_bind (wpAny_holding (wpAny_mono k1 (fun it t2 k2 => wpAny_standIf ?_) fun _ _ z => z))
  refine wpAny_bind (wpAny_mono k2 (fun acc t3 k3 => ?_) fun _ _ z => z)
  refine wpAny_bind (wpAny_pure (wpAny_bind (wpAny_mono k3 (fun ce t4 k4 => ?_) fun _ _ z => z)))
  dsimp only
  have v1 : ∀ x ∈ (sc.names.filter fun x => (x.2 == .local || x.2 == .cell) && x.1 != (".0" : Str)).reverse, x.2 = .local → Env.kindOf { ce with scope := relabel sc env } x.1 = some .local :=
    fun x hx hl => lookup_relabel_local (h5 x (List.mem_filter.mp (List.mem_reverse.mp hx)).1 hl)
  have v2 : ∀ x ∈ (sc.names.filter fun x => (x.2 == .local || x.2 == .cell) && x.1 != (".0" : Str)).reverse.drop 1 ++ (sc.names.filter fun x => (x.2 == .local || x.2 == .cell) && x.1 != (".0" : Str)).reverse.take 1,
      x.2 = .local → Env.kindOf { ce with scope := relabel sc env } x.1 = some .local :=
    fun x hx hl => (List.mem_append.mp hx).elim (fun z => v1 x (List.mem_of_mem_drop z) hl) fun z => v1 x (List.mem_of_mem_take z) hl
  refine wpAny_holding (wpAny_bind (wpAny_attempt (wpAny_holding (wpAny_run (codeAny_mono k4 fun r t5 hr => ?_)))))
  cases r with
  | error x =>
    have hr : EndC M A E use Q acc { ce with scope := relabel sc env } (.error x) t5 := hr
    obtain ⟨m, n5, k5⟩ := hr
    refine wpAny_bind (wpAny_holding (wpAny_comp_letGo (cenv := { ce with scope := relabel sc env }) h4 _ t5 m v1 n5 fun g _ _ sb => ?_))
    exact wpAny_mono (k5 g sb) (fun _ _ z => z.elim) fun _ _ z => z
  | ok f =>
    cases use with
    | none =>
      obtain ⟨m, n5, k5⟩ := (show ∃ m, t5.heap.Ns ce.locals m ∧ _ from hr)
      exact wpAny_bind (wpAny_holding (wpAny_comp_letGo (cenv := { ce with scope := relabel sc env }) h4 _ t5 m v1 n5 fun g _ _ sb => wpAny_pure (k5 g sb)))
    | some u =>
      have hr : wpAny M A (u acc) _ E t5 := hr
      refine wpAny_bind (wpAny_rule (wpAny_bind (wpAny_holding (wpAny_mono hr (fun _ t6 k6 => ?_) fun _ _ z => z))))
      obtain ⟨m, n6, k7⟩ := k6
      exact wpAny_bind (wpAny_comp_letGo (cenv := { ce with scope := relabel sc env }) h4 _ t6 m v2 n6 fun g _ _ sb => wpAny_pure (k7 g sb))
end
/-- an exception that a call within has let out, in flight -/
def XF (X : Cx) (W : WX) (u : Value) (t : Shared) : Prop :=
  ∃ (a : Addr) (B : Heap) (sI : Shared) (pins : List (Addr × Obj)) (σ : L2.St) (H : Hp) (cls : Value) (d : Option Addr), u = .ref a ∧ Inv X pins σ H sI ∧ (∀ b o, sI.heap.get? b = some o → b ∉ frs X.stack → B.get? b = some o) ∧
    sI.heap.UpToSlots t.heap ∧ HandSPX.FlyingZ B X.stack a (Zc cls d) t.heap ∧ H a = none ∧ t.os = sI.os ∧ AllBare t.gens ∧ W cls d σ H
section
variable {X : Cx} {pins : List (Addr × Obj)} {σ : L2.St} {H : Hp} {s t : Shared} {W : WX}
theorem traced_inj {h B B' : Heap} {a : Addr} {Z Z' : Obj → Prop} {f f' : Value} (x : HandSPX.TracedZ h B a Z f) (y : HandSPX.TracedZ h B' a Z' f') : f = f' := by
  obtain ⟨o, vs, T, oT, ts, e1, _, e2, e3, _, _, e4, e5, e6⟩ := x
  obtain ⟨o', vs', T', oT', ts', k1, _, k2, k3, _, _, k4, k5, k6⟩ := y
  rw [e1] at k1; cases k1
  rw [e2] at k2; cases k2
  rw [e3] at k3; cases k3
  rw [e4] at k4; cases k4
  rw [e5] at k5; cases k5
  rw [e6] at k6; cases k6
  rfl
theorem XF.of_call (I : Inv X pins σ H s) {u : Value} (c : L2.CX X.prog X.w X.stack H s (WE W σ) u t) : XF X W u t := by
  obtain ⟨a, B, sI, p, σ', H', cls, d, eu, J, nb, up, sky, na, os, ag, w⟩ := XE.of_call (W := W) I (fun _ _ _ z => z) c
  obtain ⟨a0, B0, H0, cls0, d0, eu0, fl, _⟩ := id c
  have ea : a0 = a := Value.ref.inj (eu0.symm.trans eu)
  subst ea
  refine ⟨a0, B, sI, p, σ', H', cls, d, eu, J, nb, up, ?_, na, os, ag, w⟩
  obtain ⟨_, _, _, tr⟩ := fl
  rcases sky with ⟨_, _, _, o, vs, e1, _, e2, e3⟩ | q | ⟨_, _, _, tr2⟩
  · obtain ⟨o', vs', T, oT, ts, k1, _, k2, k3, _⟩ := tr
    rw [e1] at k1; cases k1
    rw [e2] at k2; cases k2
    rw [e3] at k3; cases k3
  · exact q
  · exact absurd (traced_inj tr tr2) (by simp [rawInt])
end
end Ab
end

section
set_option Elab.async false
set_option linter.all false
set_option maxRecDepth 100000
set_option maxHeartbeats 4000000
namespace Ab
open PySem PySem.Spec PyProof.Rows L2
/-- the context of a block, with a wish about exceptions -/
abbrev blx (X : Cx) (s : Shared) (H : Hp) (scope : Scope) (cenv : Env) (fp : List Addr) (xe : Value → Shared → Prop) : Cx := { X.blk s H scope cenv fp with xe := xe }
/-- a callee's exception is taken, at any slots -/
def PassAll (X : Cx) (W : WX) : Prop := ∀ σ, PassesAt (L2.CX X.prog X.w) X σ (WE W σ)
section
variable {X : Cx} {pins : List (Addr × Obj)} {σ : L2.St} {H : Hp} {s t : Shared} {W Wb : WX}
/-- out of the block, onto the def's air -/
theorem block_out {scope : Scope} {cl : List (Str × Addr)} {C : Addr} {fp : List Addr} {xb : Value → Shared → Prop} {use : Option (Value → Sem Unit)} {Qf : Value → Shared → Prop} {D : Value} {s3 : Shared} {H3 : Hp} (hst : X.stack = X.env :: X.outer) (hf : X.env.frame = some X.env.locals) (tk : Takes X W)
    (hC : s3.heap.objs.size ≤ C) (I3 : Inv X pins σ H3 s3) (hfp : ∀ b ∈ fp, (b ∈ X.ex ∨ X.s_0.heap.objs.size ≤ b) ∧ b ≠ X.env.locals ∧ (∀ x c, X.env.cells.lookup x = some c → c ≠ b) ∧ ∀ p ∈ X.pn ++ pins, p.1 ≠ b)
    (hW : ∀ cls d σ' H', Wb cls d σ' H' → W cls d σ H') {u : Value} (x : XF (blx X s3 H3 scope (compEnvC scope cl C X.env) fp xb) Wb u t) :
    notedBy (model X.prog X.w) X.A (compEnvC scope cl C X.env) (fun e t' => EndC (model X.prog X.w) X.A X.xe use Qf D (compEnvC scope cl C X.env) (.error e) t') u t := by
  obtain ⟨a, B, sI, p', σ', H', cls, d, rfl, J, nb, up, fl, na, os, ag, w⟩ := x
  have nb : ∀ b o, sI.heap.get? b = some o → b ∉ frs X.stack → B.get? b = some o := nb
  have fl : HandSPX.FlyingZ B (X.env :: X.outer) a (Zc cls d) t.heap := by rw [← hst]; exact fl
  have hfr : X.A.frames = some (X.env :: X.outer) := by rw [I3.ok.frames, hst]
  show wpAny (model X.prog X.w) X.A (noteFrame (.ref a) (compEnvC scope cl C X.env)) _ _ t
  rw [note_same (e := .ref a) (a := compEnvC scope cl C X.env) (b := X.env) rfl]
  refine HandSPX.looks_onZ Zc.steady hfr hf fl fun h1 hh up1 => ?_
  have J1 : Inv (blx X s3 H3 scope (compEnvC scope cl C X.env) fp xb) p' σ' H' { t with heap := h1 } := J.landed nb hh.1 (up.trans up1) os ag
  obtain ⟨m, n1, _⟩ := J1.loc
  have n1 : h1.Ns C m := n1
  refine ⟨m, n1, fun g sb => ?_⟩
  -- the block's dict is no frame, no part of the exception
  have nC : H' C = none := J.free
  have fC := I3.fpOk hC nC
  obtain ⟨f0, f1, f2, f3, f4, f5⟩ := fC
  have cS : C ∉ frs X.stack := fun hm => by
    rcases List.mem_cons.mp (I3.stkSub C hm) with z | z
    · exact f1 z
    · exact f2 z
  obtain ⟨m0, ⟨oC, _, _, eC, _⟩, _⟩ := J.loc
  have eC : sI.heap.get? C = some oC := eC
  have bC := nb C oC eC cS
  obtain ⟨k1, k2, k3, oe, vs, T, oT, ts, q1, q2, q3, q4, q5, q6, q7, q8, q9⟩ := hh
  have aC : a ≠ C := fun z => by rw [z, bC] at k2; cases k2
  have TC : T ≠ C := fun z => by rw [z, bC] at q5; cases q5
  have hB : ∀ b, b ≠ C → (PySem.W.hideAll B [C]).get? b = B.get? b := fun b hb => by
    cases e : B.get? b with
    | some o => exact PySem.W.hideAll_get _ e (by simpa using hb)
    | none =>
      cases q : (PySem.W.hideAll B [C]).get? b with
      | none => rfl
      | some o =>
        have z := PySem.W.of_hideAll _ q
        rw [e] at z; cases z
  have hB2 : (PySem.W.hideAll B [C]).get? C = none := PySem.W.hideAll_none _ (by simp)
  have held : HandSPX.HeldZ (PySem.W.hideAll B [C]) (X.env :: X.outer) a (Zc cls d) X.env.locals g := by
    refine ⟨fun b o e => ?_, ?_, ?_, oe, vs, T, oT, ts, (sb.2 a aC).trans q1, q2, q3, q4, ?_, q6, (sb.2 T TC).trans q7, q8, q9⟩
    · by_cases hb : b = C
      · rw [hb, hB2] at e; cases e
      · exact (sb.2 b hb).trans (k1 b o (PySem.W.of_hideAll _ e))
    · rw [hB a aC]; exact k2
    · have hl : ∀ L ∈ frs (X.env :: X.outer), (PySem.W.hideAll B [C]).get? L = none := fun L hL => by
        have hne : L ≠ C := fun z => cS (by rw [hst, ← z]; exact hL)
        rw [hB L hne]
        exact (k3.mem hL).1
      refine funFrames_none (base := B) ?_ hl
      have move : ∀ (l : List Env), C ∉ frs l → h1.FunFrames B l → g.FunFrames B l := by
        intro l
        induction l with
        | nil => intro _ _; trivial
        | cons env r ih =>
          intro hn hx
          obtain ⟨z1, ⟨L, o, z2, z3, z4, z5⟩, z6⟩ := hx
          have hL : L ≠ C := fun z => hn (List.mem_filterMap.mpr ⟨env, List.mem_cons_self, by rw [z2, z]⟩)
          exact ⟨z1, ⟨L, o, z2, z3, (sb.2 L hL).trans z4, z5⟩, ih (fun hm => hn (by
            obtain ⟨e, he, q⟩ := List.mem_filterMap.mp hm
            exact List.mem_filterMap.mpr ⟨e, List.mem_cons_of_mem _ he, q⟩)) z6⟩
      exact move _ (by rw [← hst]; exact cS) k3
    · rw [hB T TC]; exact q5
  unfold PySem.passOn
  refine wpAny_bind (wpAny_field ((sb.2 a aC).trans q1) q3 q4 ?_)
  rw [if_neg (show ¬ ((Value.ref T == Value.none) = true) from by simp)]
  have fin : wpAny (model X.prog X.w) X.A (setFlight (.ref a) (compEnvC scope cl C X.env).frame) (fun _ t4 => wpAny (model X.prog X.w) X.A (throw (.ref a) : Sem Value) (fun _ _ => False) X.xe t4) X.xe { t with heap := g } := by
    show wpAny _ _ (setFlight (.ref a) X.env.frame) _ _ _
    rw [hf]
    refine HandSPX.setFlight_onZ held fun h4 hh4 up4 => wpAny_throw (tk _ _ ?_)
    have I8 : Inv X pins σ H' sI := I3.call' (ch := fp) J.os J.base J.hok J.bare hfp
    have I9 : Inv X pins σ H' { sI with heap := PySem.W.hideAll sI.heap [C], toks := sI.toks } := I8.turned (fun b o hb e => PySem.W.hideAll_get _ e (by simpa using hb)) f0 f1 f3 f4 f5
    refine ⟨a, PySem.W.hideAll B [C], _, pins, σ, H', cls, d, rfl, I9, fun b o e hb => ?_, fun b o e hd => ?_, .inr (.inr (by rw [hst]; exact hh4)), na, os, ag, hW _ _ _ _ w⟩
    · have e : (PySem.W.hideAll sI.heap [C]).get? b = some o := e
      have hne : b ≠ C := fun z => by
        rw [z, PySem.W.hideAll_none _ (by simp)] at e; cases e
      rw [hB b hne]
      exact nb b o (PySem.W.of_hideAll _ e) hb
    · have e : (PySem.W.hideAll sI.heap [C]).get? b = some o := e
      have hne : b ≠ C := fun z => by
        rw [z, PySem.W.hideAll_none _ (by simp)] at e; cases e
      obtain ⟨sl, e1⟩ := (up.trans up1) b o (PySem.W.of_hideAll _ e) hd
      have e2 : g.get? b = some { o with slots := sl } := (sb.2 b hne).trans e1
      obtain ⟨sl2, e3⟩ := up4 b _ e2 hd
      exact ⟨sl2, e3⟩
  first
    | exact wpAny_bind (wpAny_pure (wpAny_bind fin))
    | exact wpAny_bind fin
end
end Ab
end

section
set_option Elab.async false
set_option linter.all false
set_option maxRecDepth 100000
set_option maxHeartbeats 4000000
namespace Ab
open PySem PySem.Spec PyProof.Rows L2
/-- the block's parts, read in any block context that takes the callees' exceptions -/
def BlkG (X : Cx) (scope : Scope) (tg : Expr) (g : TG) : Prop := ∀ (s : Shared) (H : Hp) (C : Addr) (cl : List (Str × Addr)) (fp : List Addr) (xb : Value → Shared → Prop), PG (blx X s H scope (compEnvC scope cl C X.env) fp xb) tg g
def BlkT (X : Cx) (scope : Scope) (Wb : WX) (ifs : List Expr) (tt : TT) : Prop := ∀ (s : Shared) (H : Hp) (C : Addr) (cl : List (Str × Addr)) (fp : List Addr) (xb : Value → Shared → Prop), PassAll (blx X s H scope (compEnvC scope cl C X.env) fp xb) Wb → PTs (blx X s H scope (compEnvC scope cl C X.env) fp xb) ifs tt
def BlkE (X : Cx) (scope : Scope) (Wb : WX) (e : Expr) (te : TE) : Prop := ∀ (s : Shared) (H : Hp) (C : Addr) (cl : List (Str × Addr)) (fp : List Addr) (xb : Value → Shared → Prop), PassAll (blx X s H scope (compEnvC scope cl C X.env) fp xb) Wb → PE (blx X s H scope (compEnvC scope cl C X.env) fp xb) e te
theorem cast_E {α : Type} {M : Model} {A : Around} {m : Sem α} {Q Q' : α → Shared → Prop} {E E' : Value → Shared → Prop} {s : Shared} (e : E' = E) (h : wpAny M A m Q E s) (k : ∀ a s, Q a s → Q' a s) : wpAny M A m Q' E' s := by
  subst e
  exact wpAny_mono h k fun _ _ z => z
section
variable {X : Cx}
theorem lc_coreX {pins : List (Addr × Obj)} {s : Shared} {σ : L2.St} {H : Hp} {Q : VK} {Wo Wb : WX} {elt tg iter : Expr} {ifs : List Expr} {scope : Scope} {own : List (Str × Nat)} {pos pos' : Pos} {wi : TI} {g : TG} {tt : TT} {te : TE} {use : Option (Value → Sem Unit)} {Qf : Value → Shared → Prop}
    (hst : X.stack = X.env :: X.outer) (hf : X.env.frame = some X.env.locals) (tk : Takes X Wo) (hW : ∀ cls d σ' H', Wb cls d σ' H' → Wo cls d σ H')
    (hc : X.calm = true) (hN : X.N.Nodup) (I : Inv X pins σ H s) (hi : PI X tg iter wi) (ok : BlkOk X.N X.env.scope scope own)
    (hg : BlkG X scope tg g) (ht : BlkT X scope Wb ifs tt) (he : BlkE X scope Wb elt te) (hs : ∀ x, foldedSetIterable iter X.env x = pure x) (h : tLc wi g tt te (own.map (·.2)) σ H Q)
    (hRR : ∀ D C s' m H' (ce : Env), ce.locals = C → Inv X pins σ H' s' → Q (.ref D) H' → s'.heap.Ns C m → FpOk X pins H' C → EndC (model X.prog X.w) X.A X.xe use Qf (.ref D) ce (.ok .next) s') :
    wpAny (model X.prog X.w) X.A (comprehension (.ListComp elt [⟨tg, iter, ifs, 0⟩] scope pos) scope X.env pos' (newList []) false (eval iter X.env) use) Qf X.xe s := by
  have fre : ∀ y ∈ scope.names, y.2 = .free → ∃ c, X.env.cells.lookup y.1 = some c := fun y hy e => by
    rcases ok.free y hy e with k | k
    · exact I.ok.has _ (.inl k)
    · exact I.ok.has _ (.inr k)
  refine comp_endC (use := use) rfl hs (closure_ok fre) ok.kind (fun y hy e => by rw [ok.uniq y hy, e])
    (thn (hi.run pins s σ H _ I h) fun xv s1 hx => thn hx fun itv u2 h2 => ?_)
  obtain ⟨it, fp, tn, J, G2, e, J2, T, n2, g2, q⟩ := h2
  subst e
  refine wpAny_newObj_type (newEnv_comp ?_) (by show 0 ≤ sizeLine; decide)
  generalize eD : u2.heap.objs.size = D
  have nD : G2 D = none := J2.hok.fresh (Nat.le_of_eq eD)
  obtain ⟨W, ⟨k0, y0⟩, rnd⟩ := q D nD
  -- the new list
  generalize e3 : ({ u2 with heap := u2.heap.push { cls := .type "list", data := .seq ([] : List Value).toArray } } : Shared) = u3
  have J3 : Inv X pins σ (upd G2 D (.lst [])) u3 := by
    rw [← e3]
    refine J2.laid (t' := u2.toks) (fun b o e => Heap.get?_push_of_some _ e) (Nat.le_of_eq eD) ⟨Nat.zero_le _, [], 0, .nil, ?_⟩
    rw [← eD]
    exact Heap.get?_push_size _ rfl
  have z3 : u3.heap = u2.heap.push { cls := .type "list", data := .seq ([] : List Value).toArray } := by rw [← e3]
  have lt : ∀ b ∈ fp, b < u2.heap.objs.size := fun b hb => by
    obtain ⟨o, e, _⟩ := T.obj _ _ n2 b hb
    exact Heap.lt_size e
  have g3 : ∀ b ∈ fp, FpOk X pins (upd G2 D (.lst [])) b ∧ b < u3.heap.objs.size := fun b hb => by
    have hlt := lt b hb
    refine ⟨⟨?_, (g2 b hb).2⟩, by rw [z3, Heap.size_push]; exact Nat.lt_succ_of_lt hlt⟩
    rw [upd_ne (by rw [← eD]; exact Nat.ne_of_lt hlt)]
    exact (g2 b hb).1
  have n3 : tn 0 u3.heap := T.keep _ _ _ n2 fun b _ o e => by rw [z3]; exact Heap.get?_push_of_some _ e
  have fn_ : ∀ b ∈ fp, (upd G2 D (.lst [])) b = none := fun b hb => (g3 b hb).1.1
  have J4 := block_start J3 ok hN g3
  show codeAny _ _ (.compStart (.ListComp elt [⟨tg, iter, ifs, 0⟩] scope pos) 0 (.ref it) (.ref D) (compEnvC scope (cellsFrom (u3.heap.objs.size + 1) scope.names (cloFrom X.env.cells scope.names [])) u3.heap.objs.size X.env)) (EndC (model X.prog X.w) X.A X.xe use Qf (.ref D) (compEnvC scope (cellsFrom (u3.heap.objs.size + 1) scope.names (cloFrom X.env.cells scope.names [])) u3.heap.objs.size X.env)) { u3 with heap := pushCells (u3.heap.push { cls := .type "dict", data := .dict #[] }) scope.names }
  generalize ecl : cellsFrom (u3.heap.objs.size + 1) scope.names (cloFrom X.env.cells scope.names []) = cl at J4 ⊢
  obtain ⟨C, eC⟩ : ∃ C, C = u3.heap.objs.size := ⟨_, rfl⟩
  rw [← eC] at J4 ⊢
  have CS : u3.heap.objs.size ≤ C := Nat.le_of_eq eC.symm
  generalize exb : (fun e t => notedBy (model X.prog X.w) X.A (compEnvC scope cl C X.env) (fun e t' => EndC (model X.prog X.w) X.A X.xe use Qf (.ref D) (compEnvC scope cl C X.env) (.error e) t') e t) = xb
  have J4 := J4.wish xb
  have hx : PassAll (blx X u3 (upd G2 D (.lst [])) scope (compEnvC scope cl C X.env) fp xb) Wb := fun σ' pins' H' s' e t I' c => by
    have z := block_out (use := use) (Qf := Qf) (D := .ref D) hst hf tk CS J3 (fun b hb => ⟨(g3 b hb).1.2.2.2.1, (g3 b hb).1.2.1, (g3 b hb).1.2.2.2.2.1, (g3 b hb).1.2.2.2.2.2⟩) hW (XF.of_call (X := blx X u3 (upd G2 D (.lst [])) scope (compEnvC scope cl C X.env) fp xb) I' c)
    show xb e t
    rw [← exb]
    exact z
  have rg := hg u3 (upd G2 D (.lst [])) C cl fp xb
  have rt := ht u3 (upd G2 D (.lst [])) C cl fp xb hx
  have re := he u3 (upd G2 D (.lst [])) C cl fp xb hx
  generalize ece : compEnvC scope cl C X.env = ce at J4 rg rt re exb ⊢
  have lC : ce.locals = C := by subst ece; rfl
  clear hx
  generalize eG3 : upd G2 D (.lst []) = G3 at J3 J4 rg rt re y0 fn_ g3
  generalize e4 : ({ u3 with heap := pushCells (u3.heap.push { cls := .type "dict", data := .dict #[] }) scope.names } : Shared) = u4 at J4 ⊢
  have n4 : tn 0 u4.heap := T.keep _ _ _ n3 fun b _ o e => by rw [← e4]; exact pushCells_keeps _ _ _ _ (Heap.get?_push_of_some _ e)
  have fpk : ∀ {σ' : L2.St} {H' : Hp} {s' : Shared}, Inv (blx X u3 G3 scope ce fp xb) [] σ' H' s' → (∀ b ∈ fp, H' b = none) → ∀ b ∈ fp, FpOk (blx X u3 G3 scope ce fp xb) [] H' b := fun {σ' H' s'} I' hn b hb =>
    ⟨hn b hb, (I'.ok.exf b hb).1, I'.ok.exfs b hb, .inl hb, fun x c e => (I'.ok.exf b hb).2 x c e, fun p hp => absurd (show p ∈ ([] : List (Addr × Obj)) ++ [] from hp) (by simp)⟩
  have lop : codeAny (model X.prog X.w) X.A (.compLoop (.ListComp elt [⟨tg, iter, ifs, 0⟩] scope pos) 0 (.ref it) (.ref D) ce) (EndC (model X.prog X.w) X.A X.xe use Qf (.ref D) ce) u4 := by
    refine compLoop_any (fun n s' => ∃ i H', Inv (blx X u3 G3 scope ce fp xb) [] (wipe σ (own.map (·.2))) H' s' ∧ tn i s'.heap ∧ (∀ b ∈ fp, H' b = none) ∧ W i n H') ?_ k0 ⟨0, G3, J4, n4, fn_, y0⟩
    rintro n u5 ⟨i, G5, J5, m5, n5, w5⟩
    rcases rnd i n G5 w5 with ⟨stop, qq⟩ | ⟨go, Nx, hNx, step⟩
    · have td := T.done (blx X u3 G3 scope ce fp xb) rfl rfl rfl hc i [] u5 _ G5 (fun _ _ => False) J5 (fpk J5 n5) m5 stop
      refine thnF td fun r u6 ⟨hr, J6⟩ => ?_
      subst hr
      -- back in the def's context
      have J7 : Inv X pins σ G5 u6 := J3.call' (ch := fp) J6.os J6.base J6.hok J6.bare fun b hb => ⟨(g3 b hb).1.2.2.2.1, (g3 b hb).1.2.1, (g3 b hb).1.2.2.2.2.1, (g3 b hb).1.2.2.2.2.2⟩
      have nC : G5 C = none := by
        have z : G5 ce.locals = none := J6.free
        rw [lC] at z
        exact z
      obtain ⟨m, hn, _⟩ := J6.loc
      have hn : u6.heap.Ns ce.locals m := hn
      rw [lC] at hn
      exact hRR D C u6 m G5 ce lC J7 qq hn (J3.fpOk CS nC)
    · have ti := T.item (blx X u3 G3 scope ce fp xb) rfl rfl rfl hc i [] u5 _ G5 (fun _ _ => False) J5 (fpk J5 n5) m5 go
      refine thnF ti fun r u6 ⟨u, hr, h6⟩ => ?_
      subst hr
      refine thnF h6 fun _ u7 ⟨x, G7, J7, r7, y7, m7, n7⟩ => ?_
      have J7' := J7.pinned (fpk J7 n7) (T.obj _ _ m7)
      refine cast_E exb (rg.run _ u7 _ G7 x u _ J7' r7 (step x G7 y7)) fun _ u8 ⟨σ8, G8, J8, hw8, q8⟩ => ?_
      refine cast_E exb (rt.run _ u8 σ8 G8 _ J8 q8) fun b u9 ⟨G9, J9, q9⟩ => ?_
      -- the turn's end
      have las : ∀ {s' : Shared} {H' : Hp}, Inv (blx X u3 G3 scope ce fp xb) ([] ++ pinsAt fp u7.heap) σ8 H' s' → Nx H' → ∃ m, m < n ∧ ∃ i H', Inv (blx X u3 G3 scope ce fp xb) [] (wipe σ (own.map (·.2))) H' s' ∧ tn i s'.heap ∧ (∀ b ∈ fp, H' b = none) ∧ W i m H' := fun {s' H'} I' nx => by
        obtain ⟨m', hm, w'⟩ := hNx H' nx
        have pin' : ∀ b ∈ fp, ∀ o, u7.heap.get? b = some o → s'.heap.get? b = some o ∧ H' b = none := fun b hb o e =>
          let z := I'.pin (b, o) (List.mem_append_right _ (List.mem_append_right _ (mem_pinsAt hb e)))
          ⟨z.1, z.2.1⟩
        have hl : (wipe σ (own.map (·.2))).length = σ8.length := by rw [← hw8, wipe_length]
        refine ⟨m', hm, i + 1, H', (I'.unpinned (pins := [])).weak hl (fun j v e => ?_), T.keep _ _ _ m7 fun b hb o e => (pin' b hb o e).1, fun b hb => ?_, w'⟩
        · rw [← hw8] at e
          exact (wipe_some e).1
        · obtain ⟨o, e, _⟩ := T.obj _ _ m7 b hb
          exact (pin' b hb o e).2
      cases b with
      | false =>
        simp only [Bool.false_eq_true, if_false] at q9 ⊢
        exact las J9 q9
      | true =>
        simp only [if_true] at q9 ⊢
        refine cast_E exb (re.run _ u9 σ8 G9 _ J9 q9) fun z u10 ⟨yv, G10, J10, r10, acc, hD10, hz10, nx⟩ => ?_
        exact app_ok (X := blx X u3 G3 scope ce fp xb) J10 hD10 hz10 r10 fun u11 J11 => las J11 nx
  exact codeAny_compStart_list lop (T.self X.A 0 _ _ _ n4 lop)
end
end Ab
end

section
set_option Elab.async false
set_option linter.all false
set_option maxRecDepth 100000
set_option maxHeartbeats 4000000
namespace Ab
open PySem PySem.Spec PyProof.Rows L2
/-- the comprehension's reading; the wish about exceptions is told by the slots and the heap at its start -/
def tLcX (wi : TI) (g : TG) (tt : WX → TT) (te : WX → TE) (vs : List Nat) (Wo : WX) : TE := fun σ H Q => ∃ Wb : WX, (∀ cls d σ' H', Wb cls d σ' H' → Wo cls d σ H') ∧ tLc wi g (tt Wb) (te Wb) vs σ H Q
section
variable {X : Cx} {Wo : WX} {elt tg iter : Expr} {ifs : List Expr} {scope : Scope} {own : List (Str × Nat)} {pos spos : Pos} {wi : TI} {g : TG} {tt : WX → TT} {te : WX → TE}
theorem pe_lcX (hst : X.stack = X.env :: X.outer) (hf : X.env.frame = some X.env.locals) (tk : Takes X Wo) (hc : X.calm = true) (hN : X.N.Nodup) (hi : PI X tg iter wi) (ok : BlkOk X.N X.env.scope scope own) (hg : BlkG X scope tg g)
    (ht : ∀ Wb, BlkT X scope Wb ifs (tt Wb)) (he : ∀ Wb, BlkE X scope Wb elt (te Wb)) (hs : ∀ x, foldedSetIterable iter X.env x = pure x := by intro _; rfl) : PE X (.ListComp elt [⟨tg, iter, ifs, 0⟩] scope pos) (tLcX wi g tt te (own.map (·.2)) Wo) := by
  refine ⟨fun pins s σ H Q I ⟨Wb, hW, h⟩ => ?_⟩
  rw [eval_ListComp]
  refine lc_coreX (use := none) hst hf tk hW hc hN I hi ok hg (ht Wb) (he Wb) hs h fun D C t m H' ce hce J q hn f => ?_
  subst hce
  obtain ⟨f0, f1, f2, f3, f4, f5⟩ := f
  exact ⟨m, hn, fun h2 sb => ⟨.ref D, H', J.turned (t' := t.toks) (fun b o hb e => (sb.2 b hb).trans e) f0 f1 f3 f4 f5, rfl, q⟩⟩
theorem ps_setLcX {i : Nat} {y : Str} {py : Pos} (hst : X.stack = X.env :: X.outer) (hf : X.env.frame = some X.env.locals) (tk : Takes X Wo) (hc : X.calm = true) (hN : X.N.Nodup) (hy : X.N[i]? = some y) (hyl : X.env.scope.names.lookup y = some .local)
    (hsw : swapsWith (.ListComp elt [⟨tg, iter, ifs, 0⟩] scope pos) (some (.Name y py)) spos.line X.env = pure true) (hi : PI X tg iter wi) (ok : BlkOk X.N X.env.scope scope own) (hg : BlkG X scope tg g)
    (ht : ∀ Wb, BlkT X scope Wb ifs (tt Wb)) (he : ∀ Wb, BlkE X scope Wb elt (te Wb)) (hs : ∀ x, foldedSetIterable iter X.env x = pure x := by intro _; rfl) :
    PS X (.Assign [.Name y py] (.ListComp elt [⟨tg, iter, ifs, 0⟩] scope pos) spos) (tAsg (tLcX wi g tt te (own.map (·.2)) Wo) (gName i)) := by
  refine ⟨fun pins s σ H D I h => ?_⟩
  obtain ⟨Wb, hW, h⟩ := h
  rw [exec_Assign_Name_used _ _ _ _ hsw]
  refine wpAny_bind (wpAny_standAt (wpAny_bind ?_))
  show wpAny _ X.A (do let _ ← comprehension (.ListComp elt [⟨tg, iter, ifs, 0⟩] scope pos) scope X.env (firstIterPos [⟨tg, iter, ifs, 0⟩] pos) (newList []) false (eval iter X.env) (some (assign (.Name y py) X.env))) _ _ s
  refine wpAny_bind (thn (lc_coreX (Qf := fun _ t => SP X pins D .next t) hst hf tk hW hc hN I hi ok hg (ht Wb) (he Wb) hs h fun L C t m H' ce hce J q hn f => ?_) fun _ t hq => wpAny_pure (wpAny_pure hq))
  subst hce
  obtain ⟨f0, f1, f2, f3, f4, f5⟩ := f
  show wpAny _ _ (assign (.Name y py) X.env (.ref L)) _ _ _
  refine wpAny_assign_Name (store_ok2 (v := V.ref L) J hN hy (.inl hyl) rfl (fun t2 J2 ⟨a, sb, ha⟩ => ⟨m, hn.sameBut sb ?_, fun h3 sb3 => ⟨_, H', J2.turned (t' := t2.toks) (fun b o hb e => (sb3.2 b hb).trans e) f0 f1 f3 f4 f5, q⟩⟩) (.inr hyl))
  rcases ha with z | z
  · rw [z]; exact f1
  · exact fun e => f4 y a z e.symm
end

/-! ### by data -/
def DefLv (X : Cx) : Prop := X.stack = X.env :: X.outer ∧ X.env.frame = some X.env.locals
def XW (X : Cx) (b : Bas) (EW : Exn → Gam → Mem → Prop) : Prop := ∃ W, PassAll X W ∧ ExcW X.K b W EW ∧ (DefLv X → Takes X W)
theorem XW.no {X : Cx} {b : Bas} : XW X b (fun _ _ _ => False) := ⟨fun _ _ _ _ => False, fun σ pins H s e t I c => by
  obtain ⟨_, _, _, _, _, _, _, _, _, _, _, _, z⟩ := c
  exact z.elim, fun _ _ _ _ _ _ _ _ _ _ _ z => z.elim, fun _ => L2.takes0⟩
theorem XW.of {X : Cx} {b : Bas} {EW : Exn → Gam → Mem → Prop} {W : WX} (tk : Takes X W) (h : ExcW X.K b W EW) : XW X b EW := ⟨W, fun σ => L2.passAt tk σ, h, fun _ => tk⟩
theorem blx_lv {X : Cx} {s : Shared} {H : Hp} {scope : Scope} {ce : Env} {fp : List Addr} {xb : Value → Shared → Prop} : ¬ DefLv (blx X s H scope ce fp xb) := fun h => by
  have e : X.stack = ce :: X.stack := h.1
  have := congrArg List.length e
  simp at this
section
variable {X : Cx} {b : Bas} {Γ : Gam} {M : Mem} {R : Dat → Mem → Prop} {elt tg iter : Expr} {ifs : List Expr} {scope : Scope} {own : List (Str × Nat)} {pos : Pos} {EW : Exn → Gam → Mem → Prop}
/-- in each context of the block that takes exceptions as EW says -/
def AEX (X : Cx) (scope : Scope) (e : Expr) (Γ : Gam) (M : Mem) (R : Dat → Mem → Prop) (EW : Exn → Gam → Mem → Prop) : Prop := ∀ b s H C cl fp xb, XW (blx X s H scope (compEnvC scope cl C X.env) fp xb) b EW → AE (blx X s H scope (compEnvC scope cl C X.env) fp xb) b e Γ M R
def AIX (X : Cx) (scope : Scope) (ifs : List Expr) (Γ : Gam) (M : Mem) (R : Bool → Mem → Prop) (EW : Exn → Gam → Mem → Prop) : Prop := match ifs with
  | [] => R true M
  | [c] => ∀ b s H C cl fp xb, XW (blx X s H scope (compEnvC scope cl C X.env) fp xb) b EW → AT (blx X s H scope (compEnvC scope cl C X.env) fp xb) b c Γ M R
  | _ => False
def tBx (X : Cx) (scope : Scope) (e : Expr) (Wb : WX) : TE := fun σ H Q => ∀ s H0 C cl fp xb, PassAll (blx X s H0 scope (compEnvC scope cl C X.env) fp xb) Wb → tW (blx X s H0 scope (compEnvC scope cl C X.env) fp xb) e σ H Q
def tBxT (X : Cx) (scope : Scope) (ifs : List Expr) (Wb : WX) : TT := match ifs with
  | [c] => fun σ H Q => ∀ s H0 C cl fp xb, PassAll (blx X s H0 scope (compEnvC scope cl C X.env) fp xb) Wb → tWT (blx X s H0 scope (compEnvC scope cl C X.env) fp xb) c σ H Q
  | [] => tYes
  | _ => fun _ _ _ => False
theorem pts_bx : ∀ {ifs : List Expr} (Wb : WX), BlkT X scope Wb ifs (tBxT X scope ifs Wb)
  | [], Wb => fun s H C cl fp xb hx => pts_nil
  | [c], Wb => fun s H C cl fp xb hx => pts_one ⟨fun pins s' σ H' Q I h => h s H C cl fp xb hx pins s' I⟩
  | _ :: _ :: _, Wb => fun s H C cl fp xb hx => ⟨fun pins s' σ H' Q I h => h.elim⟩
theorem pe_bx (Wb : WX) : BlkE X scope Wb elt (tBx X scope elt Wb) := fun s H C cl fp xb hx => ⟨fun pins s' σ H' Q I h => h s H C cl fp xb hx pins s' I⟩
theorem aix_ev {Wb : WX} {b' : Bas} (hW : ExcW X.K b' Wb EW) : ∀ {ifs : List Expr} {Γ : Gam} {M : Mem} {RT : Bool → Mem → Prop}, AIX X scope ifs Γ M RT EW → ET X.K b' (tBxT X scope ifs Wb) Γ M RT
  | [], Γ, M, RT, h => fun σ S A H Q st p => p true M S A H (Step.refl _ _ _) st h
  | [c], Γ, M, RT, h => fun σ S A H Q st p => fun s H0 C cl fp xb hx => h b' s H0 C cl fp xb ⟨Wb, hx, hW, fun z => absurd z blx_lv⟩ σ S A H Q st p
  | _ :: _ :: _, Γ, M, RT, h => h.elim
/-- what a comprehension asks, exceptions let out -/
def LcAskX (X : Cx) (scope : Scope) (t : Tgt) (vs : List Nat) (ifs : List Expr) (elt : Expr) (Γ : Gam) (EW : Exn → Gam → Mem → Prop) (RD : List Dat → Mem → Prop) (ds : List Dat) (Gm : Mem → Prop) (M1 : Mem) : Prop :=
  ∃ Pv : Nat → List Dat → Mem → Prop, Pv 0 [] M1 ∧ (∀ i acc M', i ≤ ds.length → Pv i acc M' → Gm M') ∧
    (∀ i d acc M', ds[i]? = some d → Pv i acc M' → ∃ Γ2, t.Put d (wipeG Γ vs) Γ2 ∧ AIX X scope ifs Γ2 M' (fun k M2 => (k = true → AEX X scope elt Γ2 M2 (fun y M3 => acc.length < sizeLine ∧ Pv (i + 1) (acc ++ [y]) M3) (fun x _ M => EW x Γ M)) ∧ (k = false → Pv (i + 1) acc M2)) (fun x _ M => EW x Γ M)) ∧
    ∀ acc M', Pv ds.length acc M' → RD acc M'
end
end Ab
end

section
set_option Elab.async false
set_option linter.all false
set_option maxRecDepth 100000
set_option maxHeartbeats 4000000
namespace Ab
open PySem PySem.Spec PyProof.Rows L2
section
variable {K : PySem.W.Frag} {b : Bas} {σ σ' : L2.St} {S S' : Hp} {A A' : List Addr} {H H' : Hp} {Γ Γ' : Gam} {M M' : Mem}
theorem Stt.onto (s : Step S A H S' A' H') (t : Stt K b σ' S' A' H' Γ' M') : Stt K ⟨S, A, H⟩ σ' S' A' H' Γ' M' := ⟨s, t.sub, t.nd, t.len, t.own, t.cell, t.env⟩
theorem Stt.off (t0 : Stt K b σ S A H Γ M) (t : Stt K ⟨S, A, H⟩ σ' S' A' H' Γ' M') : Stt K b σ' S' A' H' Γ' M' := ⟨t0.base.trans t.base, t.sub, t.nd, t.len, t.own, t.cell, t.env⟩
end
section
variable {X : Cx} {b : Bas} {Γ : Gam} {M : Mem} {R : Dat → Mem → Prop} {elt tg iter : Expr} {ifs : List Expr} {scope : Scope} {own : List (Str × Nat)} {pos : Pos} {EW : Exn → Gam → Mem → Prop} {Wo : WX}
theorem lc_runX {wi : TI} {t : Tgt} {σ : L2.St} {S : Hp} {A : List Addr} {H : Hp} {Q : VK} {vs : List Nat} {RD : List Dat → Mem → Prop} (hWo : ExcW X.K b Wo EW) (st : Stt X.K b σ S A H Γ M) (hsl : ∀ i ∈ t.slots, i ∈ vs)
    (h : IV X.K b wi Γ M (LcAskX X scope t vs ifs elt Γ EW RD))
    (hQ : ∀ p acc xs M' S' A' H', H p = none → Step S A H S' A' H' → Stt X.K b σ S' A' H' Γ M' → p ∉ A' → S' p = none → H' p = some (.lst xs) → Reps X.K S' A' acc xs → RD acc M' → Q (.ref p) H') :
    tLcX wi (t.g X.K) (tBxT X scope ifs) (tBx X scope elt) vs Wo σ H Q := by
  refine ⟨fun cls d σb Hb => ∃ x S6 A6 Γb M6, Stt X.K ⟨S, A, H⟩ σb S6 A6 Hb Γb M6 ∧ ExnAt X.K S6 A6 Hb x cls d ∧ EW x Γ M6, fun cls d σ' H' ⟨x, S6, A6, Γb, M6, sb, hx, ee⟩ => hWo x cls d σ S6 A6 H' Γ M6 ((st.off sb).withEnv (st.env.mono sb.base.s sb.base.a)) hx ee, ?_⟩
  generalize hWb : (fun cls d σb Hb => ∃ x S6 A6 Γb M6, Stt X.K ⟨S, A, H⟩ σb S6 A6 Hb Γb M6 ∧ ExnAt X.K S6 A6 Hb x cls d ∧ EW x Γ M6 : WX) = Wb
  have hE : ExcW X.K ⟨S, A, H⟩ Wb (fun x _ M => EW x Γ M) := by
    subst hWb
    exact fun x cls d σ S A H Γ M s h e => ⟨x, S, A, Γ, M, s, h, e⟩
  refine h σ S A H _ st fun J ds Gm M1 S1 A1 H1 s1 st1 gv hq p hp => ?_
  obtain ⟨Pv, h0, hG, hstep, hd⟩ := hq
  obtain ⟨⟨G, Y, w, wG, wY⟩, _⟩ := gv
  have hp0 : H p = none := none_back s1.dom hp
  have hb : b.H p = none := none_back st1.base.dom hp
  refine lc_it w (fun i H' => ∃ S' A' M' acc xs, Step S1 A1 H1 S' A' H' ∧ Stt X.K b σ S' A' H' Γ M' ∧ p ∉ A' ∧ S' p = none ∧ H' p = some (.lst xs) ∧ Reps X.K S' A' acc xs ∧ Pv i acc M')
    ⟨S1, A1, M1, [], [], (Step.refl _ _ _).otherNew hp, st1.other hb (st1.freshS hp) (st1.notA hp) (.inl hp), st1.notA hp, st1.freshS hp, upd_same, .nil, h0⟩ ?_ ?_ ?_
  · rintro i H' hi ⟨S', A', M', acc, xs, s', st', n1, n2, hx, hr, pv⟩
    exact wG σ S' A' H' Γ M' s' st' (hG i acc M' hi pv)
  · rintro i x H' H3 hi ⟨S', A', M', acc, xs, s', st', n1, n2, hx, hr, pv⟩ hY
    obtain ⟨S3, d, hds, s3, st3, rd⟩ := wY σ S' A' H' Γ M' i x H3 s' st' (hG i acc M' (Nat.le_of_lt hi) pv) hi hY
    have apart : ∀ {S4 : Hp} {A4 : List Addr} {H4 : Hp} {S5 : Hp} {A5 : List Addr} {H5 : Hp} {u : HO}, Step S4 A4 H4 S5 A5 H5 → p ∉ A4 → S4 p = none → H4 p = some u → p ∉ A5 ∧ S5 p = none ∧ H5 p = some u := fun {S4 A4 H4 S5 A5 H5 u} s m1 m2 m3 => by
      refine ⟨fun z => ?_, ?_, s.keep p u m3 m1⟩
      · rcases s.newA p z with q | q
        · exact m1 q
        · rw [m3] at q; cases q
      · cases e : S5 p with
        | none => rfl
        | some o =>
          rcases s.newS p o e with q | q | q
          · rw [m2] at q; cases q
          · rw [m3] at q; cases q
          · exact absurd q m1
    obtain ⟨k1, k2, k3⟩ := apart s3 n1 n2 hx
    obtain ⟨Γ2, hput, hrun⟩ := hstep i d acc M' hds pv
    have stw : Stt X.K b (wipe σ vs) S3 A' H3 (wipeG Γ vs) M' := st3.withEnv (st3.env.wipe vs)
    have sall : Step S A H S3 A' H3 := (s1.trans s').trans s3
    refine Tgt.run hput hsl stw rd fun σ4 st4 hw4 => ?_
    refine ⟨by rw [hw4]; exact wipe_wipe fun u hu => hu, ?_⟩
    refine aix_ev hE hrun σ4 S3 A' H3 _ (st4.onto sall) fun k M5 S5 A5 H5 s5 st5 ⟨q1, q2⟩ => ?_
    obtain ⟨l1, l2, l3⟩ := apart s5 k1 k2 k3
    have back : ∀ {S6 : Hp} {A6 : List Addr} {H6 : Hp} {M6 : Mem}, Step S3 A' H3 S6 A6 H6 → Stt X.K ⟨S, A, H⟩ σ4 S6 A6 H6 Γ2 M6 → Stt X.K b σ S6 A6 H6 Γ M6 := fun {S6 A6 H6 M6} s t => (st.off t).withEnv (st3.env.mono s.s s.a)
    cases k with
    | false =>
      refine iteF ⟨S5, A5, M5, acc, xs, (s'.trans s3).trans s5, back s5 st5, l1, l2, l3, (hr.mono s3.s s3.a).mono s5.s s5.a, q2 rfl⟩
    | true =>
      refine iteT ?_
      intro s0 H0 C cl fp xb hpx
      refine q1 rfl ⟨S, A, H⟩ s0 H0 C cl fp xb ⟨Wb, hpx, hE, fun z => absurd z blx_lv⟩ σ4 S5 A5 H5 _ st5 fun y dy M6 S6 A6 H6 s6 st6 r6 q6 => ?_
      obtain ⟨m1, m2, m3⟩ := apart s6 l1 l2 l3
      have hr6 := ((hr.mono s3.s s3.a).mono s5.s s5.a).mono s6.s s6.a
      have sA := ((s'.trans s3).trans s5).trans s6
      have st6' := back (s5.trans s6) st6
      refine ⟨xs, m3, by rw [← hr6.length]; exact q6.1, S6, A6, M6, acc ++ [dy], xs ++ [y], sA.other hp ⟨_, m3⟩, st6'.other hb m2 m1 (.inr ⟨_, m3⟩), m1, m2, upd_same, hr6.append (.cons r6 .nil), q6.2⟩
  · rintro H' ⟨S', A', M', acc, xs, s', st', n1, n2, hx, hr, pv⟩
    exact hQ p acc xs M' S' A' H' hp0 (s1.trans s') st' n1 n2 hx hr (hd acc M' pv)
theorem EV_lcX {wi : TI} {t : Tgt} {vs : List Nat} (hWo : ExcW X.K b Wo EW) (hsl : ∀ i ∈ t.slots, i ∈ vs) (h : IV X.K b wi Γ M (LcAskX X scope t vs ifs elt Γ EW fun acc M' => R (.lst acc) M')) : EV X.K b (tLcX wi (t.g X.K) (tBxT X scope ifs) (tBx X scope elt) vs Wo) Γ M R := fun σ S A H Q st p =>
  lc_runX hWo st hsl h (fun q acc xs M' S' A' H' hq s' st' n1 n2 hx hr hR =>
    p (.ref q) (.lst acc) M' (upd S' q (.lst xs)) A' H' (s'.adopt hq n2) (st'.adopt (none_back st.base.dom hq) n2 n1 hx) (.lst upd_same (hr.mono (fun x u e => by
      rw [upd_ne (ne_of_none e n2)]
      exact e) List.prefix_rfl)) hR)
theorem EV_lcXC {wi : TI} {t : Tgt} {vs : List Nat} (hWo : ExcW X.K b Wo EW) (hsl : ∀ i ∈ t.slots, i ∈ vs) (h : IV X.K b wi Γ M (LcAskX X scope t vs ifs elt Γ EW fun acc M' => R (.ptr M'.length) (M' ++ [.lst acc]))) : EV X.K b (tLcX wi (t.g X.K) (tBxT X scope ifs) (tBx X scope elt) vs Wo) Γ M R := fun σ S A H Q st p =>
  lc_runX hWo st hsl h (fun q acc xs M' S' A' H' hq s' st' n1 n2 hx hr hR =>
    p (.ref q) (.ptr M'.length) (M' ++ [.lst acc]) S' (A' ++ [q]) H' (s'.adoptC hq) (st'.adoptC (none_back st.base.dom hq) n2 n1 hx hr) (.ptr (by rw [← st'.len, List.getElem?_append_right (Nat.le_refl _), Nat.sub_self] <;> rfl)) hR)
def lcEnd (c : Bool) (R : Dat → Mem → Prop) (acc : List Dat) (M : Mem) : Prop := match c with
  | true => R (.ptr M.length) (M ++ [.lst acc])
  | false => R (.lst acc) M
theorem A_lcX {c : Bool} (t : Tgt) (hw : XW X b EW) (lv : DefLv X) (hc : X.calm = true) (hN : X.N.Nodup) (ok : BlkOk X.N X.env.scope scope own) (hg : BlkG X scope tg (t.g X.K)) (hsl : ∀ i ∈ t.slots, i ∈ own.map (·.2))
    (h : AI X b tg iter Γ M (LcAskX X scope t (own.map (·.2)) ifs elt Γ EW (lcEnd c R))) (hs : ∀ x, foldedSetIterable iter X.env x = pure x := by intro _; rfl) : AE X b (.ListComp elt [⟨tg, iter, ifs, 0⟩] scope pos) Γ M R := by
  obtain ⟨wi, hpi, hwi⟩ := h
  obtain ⟨W, _, hW, tk⟩ := hw
  cases c with
  | true => exact AE.of (pe_lcX lv.1 lv.2 (tk lv) hc hN hpi ok hg pts_bx pe_bx hs) (EV_lcXC hW hsl hwi)
  | false => exact AE.of (pe_lcX lv.1 lv.2 (tk lv) hc hN hpi ok hg pts_bx pe_bx hs) (EV_lcX hW hsl hwi)
theorem S_setLcX {c : Bool} (i : Nat) (t : Tgt) {y : Str} {py : Pos} {spos : Pos} {D : AEnds} (hw : XW X b EW) (lv : DefLv X) (hc : X.calm = true) (hN : X.N.Nodup) (hy : X.N[i]? = some y) (hyl : X.env.scope.names.lookup y = some .local) (hsw : swapsWith (.ListComp elt [⟨tg, iter, ifs, 0⟩] scope pos) (some (.Name y py)) spos.line X.env = pure true)
    (ok : BlkOk X.N X.env.scope scope own) (hg : BlkG X scope tg (t.g X.K)) (hsl : ∀ i ∈ t.slots, i ∈ own.map (·.2))
    (h : AI X b tg iter Γ M (LcAskX X scope t (own.map (·.2)) ifs elt Γ EW (lcEnd c fun d M' => D.nx (Γ.set i (some d)) M'))) (hs : ∀ x, foldedSetIterable iter X.env x = pure x := by intro _; rfl) : AS X b (.Assign [.Name y py] (.ListComp elt [⟨tg, iter, ifs, 0⟩] scope pos) spos) Γ M D := by
  obtain ⟨wi, hpi, hwi⟩ := h
  obtain ⟨W, _, hW, tk⟩ := hw
  refine AS.of (ps_setLcX lv.1 lv.2 (tk lv) hc hN hy hyl hsw hpi ok hg pts_bx pe_bx hs) fun σ S A H D' st r => ?_
  cases c with
  | true => exact EV_lcXC (R := fun d M' => D.nx (Γ.set i (some d)) M') hW hsl hwi σ S A H _ st fun v d M1 S1 A1 H1 s1 st1 r1 q => r.nx _ S1 A1 H1 _ M1 s1 (st1.set r1) q
  | false => exact EV_lcX (R := fun d M' => D.nx (Γ.set i (some d)) M') hW hsl hwi σ S A H _ st fun v d M1 S1 A1 H1 s1 st1 r1 q => r.nx _ S1 A1 H1 _ M1 s1 (st1.set r1) q
end
end Ab
end

section
set_option Elab.async false
set_option linter.all false
set_option maxRecDepth 100000
set_option maxHeartbeats 4000000
namespace Ab
open PySem PySem.Spec PyProof.Rows L2
/-- the clauses' wishes, one behind the other; each has a name (its slot) -/
def wManyA (K : PySem.W.Frag) (Wout : WX) (D : Ends) : List (Value × Nat × (Addr → Value → Option Addr → TS)) → WX
  | [] => Wout
  | (c, i, ts) :: r => fun cls d σ H => ∃ b, PySem.W.exmOne K cls c = some b ∧
    (b = true → ∀ a, H a = none → ts a cls d { nx := fun σ' H' => D.nx (σ'.set i none) H', rt := D.rt, bk := fun σ' H' => D.bk (σ'.set i none) H', ct := fun σ' H' => D.ct (σ'.set i none) H' } (σ.set i (some (.ref a))) H) ∧ (b = false → wManyA K Wout D r cls d σ H)
inductive HdsA (X : Cx) : List ExceptHandler → List (Value × Nat × (Addr → Value → Option Addr → TS)) → Prop
  | nil : HdsA X [] []
  | cons {x n : Str} {c : Value} {ix : Nat} {ts : Addr → Value → Option Addr → TS} {b₀ : Stmt} {suite : List Stmt} {np pos' : Pos} {hds : List ExceptHandler} {l : List (Value × Nat × (Addr → Value → Option Addr → TS))} (hc : Names X x c)
      (hi : X.N[ix]? = some n) (hln : X.env.kindOf n = some .local)
      (hsu : ∀ (a : Addr) (oe : Obj) (cls : Value) (d : Option Addr) (pn : List (Addr × Obj)), Zc cls d oe → (∃ vs, oe.data = .fields vs) → PSs (X.suite a ((a, oe) :: pn)) (b₀ :: suite) (ts a cls d)) (r : HdsA X hds l) :
      HdsA X (.ExceptHandler (some (.Name x np)) (some n) (b₀ :: suite) pos' :: hds) ((c, ix, ts) :: l)
section
variable {X : Cx} {body : List Stmt} {h₀ : ExceptHandler} {hds : List ExceptHandler} {l : List (Value × Nat × (Addr → Value → Option Addr → TS))} {pos : Pos} {tb : WX → TS} {Wout : WX}
theorem ps_try_asM (hN : X.N.Nodup) (hs : X.stack = X.env :: X.outer) (hf : X.env.frame = some X.env.locals) (tk : Takes X Wout)
    (hb : ∀ (W : WX) (pn : List (Addr × Obj)) (xe : Value → Shared → Prop), Takes (X.tr pn xe) W → PassesOwn (model X.prog X.w) X.A X.env xe → PSs (X.tr pn xe) body (tb W))
    (hh : HdsA X (h₀ :: hds) l) : PS X (.Try body (h₀ :: hds) [] [] pos) (fun D σ H => tb (wManyA X.K Wout D l) D σ H) := by
  refine ⟨fun pins s σ H D I h => ?_⟩
  have okx := I.ok
  have hfm : X.A.frames = some (X.env :: X.outer) := by rw [okx.frames, hs]
  refine wpAny_Try_except ?_
  refine wpAny_mono ((hb (wManyA X.K Wout D l) (X.pn ++ pins) (fun e s₁ => wpAny (model X.prog X.w) X.A (noteFrame e X.env) (fun _ s₂ => wpAny (model X.prog X.w) X.A (setFlight e none) (fun _ s₃ =>
    wpAny (model X.prog X.w) X.A (handleBy e X.env (h₀ :: hds)) (SP X pins D) X.xe s₃) X.xe s₂) X.xe s₁) (fun u s' xx => ?_) PassesOwn.looking).run [] s σ H D (I.toTry _) h) (fun f s1 hp => ?_) (fun e s1 he => he)
  · -- the catch
    obtain ⟨a, B, sJ, pins', σ', H', cls, d, rfl, Jw, nb, up, sk, na, os, ag, w⟩ := xx
    have Jv : Inv X pins σ' H' sJ := Jw.ofTry okx
    have sky' : Sky B (X.env :: X.outer) a (Zc cls d) X.env.locals s'.heap := by rw [← hs]; exact sk
    show wpAny (model X.prog X.w) X.A (noteFrame (.ref a) X.env) _ _ _
    refine Sky.land Zc.steady hfm hf sky' fun g3 fy3 ua3 => ?_
    have K3 : Inv X pins σ' H' { s' with heap := g3 } := Jv.landed nb fy3.1 (up.trans ua3) os ag
    obtain ⟨ob3, ws3, oe_3, zz3, dd3⟩ := fy3.there
    have notIn : ∀ {h : Heap} {o : Obj} {vs : Array Value}, h.FunFrames B (X.env :: X.outer) → h.get? a = some o → o.data = .fields vs → a ∉ frs (X.env :: X.outer) := fun {h o vs} ff e dd hm => by
      obtain ⟨_, o', e', hnf⟩ := ff.mem hm
      rw [e] at e'; cases e'
      exact hnf _ dd
    have nfm := notIn fy3.2.2.1 oe_3 dd3
    have neL : a ≠ X.env.locals := fun z => nfm (List.mem_filterMap.mpr ⟨X.env, List.mem_cons_self, by rw [hf, z]⟩)
    have neF : a ∉ X.fs := fun hm => by
      obtain ⟨e, he, q⟩ := List.mem_filterMap.mp hm
      exact nfm (List.mem_filterMap.mpr ⟨e, List.mem_cons_of_mem _ he, q⟩)
    have T3 := K3.suite oe_3 dd3 na neL neF
    have run_ : ∀ {hds' : List ExceptHandler} {l' : List (Value × Nat × (Addr → Value → Option Addr → TS))}, HdsA X hds' l' → wManyA X.K Wout D l' cls d σ' H' →
        wpAny (model X.prog X.w) X.A (handleBy (.ref a) X.env hds') (SP X pins D) X.xe { s' with heap := g3 } := by
      intro hds' l' hk
      induction hk with
      | nil =>
        intro w
        refine wpAny_handleBy_nil ?_
        obtain ⟨k1, k2, k3, oe, vs, T, oT, ts', he, hz, hd, h1, hr⟩ := id fy3
        unfold PySem.passOn
        refine wpAny_bind (wpAny_field he hd h1 ?_)
        rw [if_neg (show ¬ ((Value.ref T == Value.none) = true) from by simp)]
        have las : wpAny (model X.prog X.w) X.A (setFlight (.ref a) X.env.frame) (fun _ s4 => wpAny (model X.prog X.w) X.A (throw (.ref a) : Sem Flow) (SP X pins D) X.xe s4) X.xe { s' with heap := g3 } := by
          rw [hf]
          refine HandSPX.setFlight_upZ fy3 fun g4 hy4 ua4 => wpAny_throw (tk _ _ ?_)
          exact ⟨a, B, sJ, pins, σ', H', cls, d, rfl, Jv, nb, (up.trans ua3).trans ua4, .inr (.inr (by rw [hs]; exact hy4)), na, os, ag, w⟩
        first
          | exact wpAny_bind (wpAny_pure (wpAny_bind las))
          | exact wpAny_bind las
      | @cons x n c ix ts b₀ suite np pos' hds2 l2 hc hi hln hsu r rec_ =>
        intro w
        obtain ⟨b, hm1, hye, hnn_⟩ := w
        refine wpAny_handleBy_cons (codeAny_handlers_test ?_) (by intro q; cases q)
        have LK : PySem.W.Looks (model X.prog X.w) g3 (typeOf (.ref a)) cls := fun A Q E s k q => wpAny_typeOf_ref (k _ _ oe_3) (by rw [zz3.1]; exact q)
        have LX := PySem.W.exm_one (M := model X.prog X.w) (K3.kIn) LK hm1
        have tst : ∀ {Q : Value → Shared → Prop} {E : Value → Shared → Prop}, Q c { s' with heap := g3 } → wpAny (model X.prog X.w) (X.A.mark (some (.ref a))) (eval (.Name x np) X.env) Q E { s' with heap := g3 } := fun {Q E} q => by
          obtain ⟨hg, hdbg, hm | ⟨hm, hv, hnn⟩⟩ := hc
          · exact ld_glob (X := X.suite a ((a, ob3) :: (X.pn ++ pins))) T3 hg hm q hdbg
          · exact ld_blt (X := X.suite a ((a, ob3) :: (X.pn ++ pins))) T3 hg hm hv q hnn hdbg
        refine tst (LX.here ?_)
        cases b with
        | true =>
          have hloc : Loc X.env.scope n := .inl hln
          refine codeAny_handlers_suite_as ?_
          refine HandSPX.lands_againZ fy3 fun g4 fy4 ua4 => ?_
          have K4 : Inv X pins σ' H' { s' with heap := g4 } := Jv.landed nb fy4.1 ((up.trans ua3).trans ua4) os ag
          obtain ⟨ob4, ws4, oe_4, zz4, dd4⟩ := fy4.there
          have T4 := K4.suite oe_4 dd4 na neL neF
          refine store_ok (X := X.suite a ((a, ob4) :: (X.pn ++ pins))) (v := .ref a) T4 hN hi hloc rfl (fun t5 T5 => ?_) (.inr hln)
          refine wpAny_mono ((hsu a ob4 cls d (X.pn ++ pins) zz4 ⟨_, dd4⟩).run [] t5 _ H' _ T5 (hye rfl a na)) (fun f t6 hp => ?_) (fun _ _ z => False.elim z)
          have tail_ : ∀ {σ6 : L2.St} {H6 : Hp} {Q : Shared → Prop}, Inv (X.suite a ((a, ob4) :: (X.pn ++ pins))) [] σ6 H6 t6 → (∀ t7, Inv X pins (σ6.set ix none) H6 t7 → Q t7) →
              wpAny (model X.prog X.w) X.A (do bindName X.env n .none; unbindBehindTheSuite X.env n pos') (fun _ t7 => Q t7) X.xe t6 := fun {σ6 H6 Q} T6 hq => gone_ok (T6.unsuite okx) hN hi hln hq
          cases f with
          | next =>
            obtain ⟨σ6, H6, T6, q6⟩ := hp
            exact tail_ T6 fun t7 K7 => ⟨_, _, K7, q6⟩
          | brk =>
            obtain ⟨σ6, H6, T6, q6⟩ := hp
            exact tail_ T6 fun t7 K7 => ⟨_, _, K7, q6⟩
          | cont =>
            obtain ⟨σ6, H6, T6, q6⟩ := hp
            exact tail_ T6 fun t7 K7 => ⟨_, _, K7, q6⟩
          | ret u =>
            obtain ⟨v6, σ6, H6, T6, r6, q6⟩ := hp
            exact tail_ T6 fun t7 K7 => ⟨_, _, _, K7, r6, q6⟩
        | false =>
          show wpAny _ X.A (handleBy (.ref a) X.env hds2) _ _ _
          exact rec_ (hnn_ rfl)
    exact run_ hh w
  · cases f with
    | next =>
      obtain ⟨σ', H', Jw, q⟩ := hp
      exact wpAny_execs_nil ⟨σ', H', Jw.ofTry okx, q⟩
    | brk =>
      obtain ⟨σ', H', Jw, q⟩ := hp
      exact ⟨σ', H', Jw.ofTry okx, q⟩
    | cont =>
      obtain ⟨σ', H', Jw, q⟩ := hp
      exact ⟨σ', H', Jw.ofTry okx, q⟩
    | ret u =>
      obtain ⟨v, σ', H', Jw, r, q⟩ := hp
      exact ⟨v, σ', H', Jw.ofTry okx, r, q⟩
end
end Ab
end

section
set_option Elab.async false
set_option linter.all false
set_option maxRecDepth 100000
set_option maxHeartbeats 4000000
/-! Ab10: a small language of slots and data, and its runner. -/
namespace Ab
open PySem PySem.Spec PyProof.Rows L2

/-! ### reading data -/
def rdL (M : Mem) : Dat → Option (List Dat)
  | .lst ds => some ds
  | .ptr k => match M[k]? with
    | some (.lst ds) => some ds
    | _ => none
  | _ => none
def rd (M : Mem) : Dat → Option (List Dat)
  | .rol ds => some ds
  | d => rdL M d
def sq (M : Mem) : Dat → Option (List Dat)
  | .tup ds => some ds
  | d => rd M d
def intsD : List Dat → Option (List Int)
  | [] => some []
  | .int i :: ds => (intsD ds).map (i :: ·)
  | _ => none
def boolsD : List Dat → Option (List Bool)
  | [] => some []
  | .bl i :: ds => (boolsD ds).map (i :: ·)
  | _ => none
theorem rdL_ok {M : Mem} {d : Dat} {ds : List Dat} (h : rdL M d = some ds) : IsL M d ds := by
  cases d with
  | lst xs => cases h; exact .lst _
  | ptr k =>
    have h : (match M[k]? with | some (.lst ds) => some ds | _ => none) = some ds := h
    split at h
    · rename_i xs e
      cases h
      exact .ptr e
    · cases h
  | _ => cases h
theorem rd_ok {M : Mem} {d : Dat} {ds : List Dat} (h : rd M d = some ds) : IsR M d ds := by
  cases d with
  | rol xs => cases h; exact .rol _
  | _ => exact .l (rdL_ok h)
theorem sq_ok {M : Mem} {d : Dat} {ds : List Dat} (h : sq M d = some ds) : SeqD M d ds := by
  cases d with
  | tup xs => cases h; exact .t _
  | _ => exact .l (rd_ok h)
theorem intsD_ok : ∀ {ds : List Dat} {ns : List Int}, intsD ds = some ns → ds = ns.map .int
  | [], _, h => by cases h; rfl
  | .int i :: ds, ns, h => by
    unfold intsD at h
    cases e : intsD ds with
    | none => rw [e] at h; cases h
    | some ms =>
      rw [e] at h
      cases h
      rw [List.map_cons, ← intsD_ok e]
  | .non :: _, _, h => by cases h
  | .bl _ :: _, _, h => by cases h
  | .str _ :: _, _, h => by cases h
  | .tup _ :: _, _, h => by cases h
  | .lst _ :: _, _, h => by cases h
  | .rol _ :: _, _, h => by cases h
  | .ptr _ :: _, _, h => by cases h
  | .oth _ :: _, _, h => by cases h
theorem boolsD_ok : ∀ {ds : List Dat} {ns : List Bool}, boolsD ds = some ns → ds = ns.map .bl
  | [], _, h => by cases h; rfl
  | .bl i :: ds, ns, h => by
    unfold boolsD at h
    cases e : boolsD ds with
    | none => rw [e] at h; cases h
    | some ms =>
      rw [e] at h
      cases h
      rw [List.map_cons, ← boolsD_ok e]
  | .non :: _, _, h => by cases h
  | .int _ :: _, _, h => by cases h
  | .str _ :: _, _, h => by cases h
  | .tup _ :: _, _, h => by cases h
  | .lst _ :: _, _, h => by cases h
  | .rol _ :: _, _, h => by cases h
  | .ptr _ :: _, _, h => by cases h
  | .oth _ :: _, _, h => by cases h

/-! ### two-place operations -/
def mulOk (i j : Int) : Bool := decide ((-(2 ^ 64) < i ∧ i < 2 ^ 64) ∨ (-(2 ^ 64) < j ∧ j < 2 ^ 64)) || decide (i.natAbs.log2 + j.natAbs.log2 < 1000000)
def divOk (j : Int) : Bool := decide (j.natAbs.log2 < 9000)
def binD : Operator → Dat → Dat → Option Dat
  | .Add, .int i, .int j => some (.int (i + j))
  | .Add, .str x, .str y => if x.length + y.length ≤ sizeLine then some (.str (x ++ y)) else none
  | .Sub, .int i, .int j => some (.int (i - j))
  | .Mult, .int i, .int j => if mulOk i j then some (.int (i * j)) else none
  | .FloorDiv, .int i, .int j => if divOk j then (if 0 < j then some (.int (i / j)) else if j ≠ 0 then some (.int (i.fdiv j)) else none) else none
  | .Mod, .int i, .int j => if 0 < j then some (.int (i % j)) else if j ≠ 0 then some (.int (i.fmod j)) else none
  | .Pow, .int i, .int j => if 0 ≤ j ∧ j ≤ 1000000 ∧ i.natAbs < 2 ^ 64 then some (.int (i ^ j.toNat)) else none
  | _, _, _ => none
theorem binD_ok {op : Operator} {d1 d2 d : Dat} (h : binD op d1 d2 = some d) : BinD op d1 d2 d := by
  unfold binD at h
  split at h
  · cases h; exact .add _ _
  · split at h
    · cases h; exact .addS (by assumption)
    · cases h
  · cases h; exact .sub _ _
  · split at h
    · rename_i hm
      cases h
      refine .mul ?_
      rcases Bool.or_eq_true_iff.mp hm with z | z
      · exact .inl (show CMul _ _ from of_decide_eq_true (p := (-(2 ^ 64) < _ ∧ _ < 2 ^ 64) ∨ (-(2 ^ 64) < _ ∧ _ < 2 ^ 64)) z)
      · exact .inr (show CMulW _ _ from of_decide_eq_true (p := _ + _ < 1000000) z)
    · cases h
  · split at h
    · rename_i hd
      have hd := of_decide_eq_true hd
      split at h
      · cases h; exact .fdiv ⟨by assumption, hd⟩
      · split at h
        · cases h; exact .fdivX ⟨by assumption, hd⟩
        · cases h
    · cases h
  · split at h
    · cases h; exact .mod (by assumption)
    · split at h
      · cases h; exact .modX (by assumption)
      · cases h
  · split at h
    · rename_i hp
      cases h; exact .pow hp
    · cases h
  · cases h
def cmpD : CmpOp → Dat → Dat → Option Bool
  | .Lt, .int i, .int j => some (decide (i < j))
  | .LtE, .int i, .int j => some (decide (i ≤ j))
  | .Gt, .int i, .int j => some (decide (j < i))
  | .GtE, .int i, .int j => some (decide (j ≤ i))
  | .Eq, .int i, .int j => some (decide (i = j))
  | .NotEq, .int i, .int j => some (!decide (i = j))
  | .Eq, .str i, .str j => some (decide (i = j))
  | .NotEq, .str i, .str j => some (!decide (i = j))
  | .Eq, .bl i, .bl j => some (decide (i = j))
  | .NotEq, .bl i, .bl j => some (!decide (i = j))
  | _, _, _ => none
theorem cmpD_ok {op : CmpOp} {d1 d2 : Dat} {k : Bool} (h : cmpD op d1 d2 = some k) : CmpD op d1 d2 k := by
  unfold cmpD at h
  split at h <;> first | (cases h; constructor) | cases h
def cmpI : CmpOp → Dat → Dat → Option Bool
  | .Lt, .int i, .int j => some (decide (i < j))
  | .LtE, .int i, .int j => some (decide (i ≤ j))
  | .Gt, .int i, .int j => some (decide (j < i))
  | .GtE, .int i, .int j => some (decide (j ≤ i))
  | .Eq, .int i, .int j => some (decide (i = j))
  | _, _, _ => none
theorem cmpI_ok {op : CmpOp} {d1 d2 : Dat} {k : Bool} (h : cmpI op d1 d2 = some k) : ∃ i j, d1 = .int i ∧ d2 = .int j ∧ CmpI op i j k := by
  unfold cmpI at h
  split at h <;> first | (cases h; exact ⟨_, _, rfl, rfl, by constructor⟩) | cases h
def itemD (M : Mem) (d i : Dat) : Option Dat := match i with
  | .int n => match d with
    | .str z => if z.length ≤ sizeLine then (atI z.cps.toList n).map fun k => .str ⟨#[k]⟩ else none
    | d => (sq M d).bind fun ds => atI ds n
  | _ => none
theorem itemD_ok {M : Mem} {d i v : Dat} (h : itemD M d i = some v) : ItemD M d i v := by
  unfold itemD at h
  split at h
  · rename_i n
    split at h
    · split at h
      · rename_i hz
        obtain ⟨k, e, e2⟩ := Option.map_eq_some_iff.mp h
        subst e2
        exact .s hz e
      · cases h
    · obtain ⟨ds, e, e2⟩ := Option.bind_eq_some_iff.mp h
      cases sq_ok e with
      | l i => exact .l i e2
      | t => exact .t e2
  · cases h
/-! ### data as the model's plain data -/
mutual
def Dat.py : Dat → Option PyData
  | .non => some .none
  | .bl b => some (.bool b)
  | .int i => some (.int i)
  | .str x => some (.str x)
  | .tup ds => (Dat.pys ds).map .tuple
  | .lst ds => (Dat.pys ds).map .list
  | .rol ds => (Dat.pys ds).map .list
  | .ptr _ => none
  | .oth _ => none
  | .fn _ => none
def Dat.pys : List Dat → Option (List PyData)
  | [] => some []
  | d :: ds => match Dat.py d with
    | some p => (Dat.pys ds).map (p :: ·)
    | none => none
end
def pyD (M : Mem) : Dat → Option PyData
  | .ptr k => match M[k]? with
    | some (.lst ds) => (Dat.pys ds).map .list
    | _ => none
  | d => d.py
section
variable {K : PySem.W.Frag} {S : Hp} {A : List Addr} {H : Hp}
mutual
theorem Rep.dp (s : Same S H) : ∀ {d : Dat} {v : V} {p : PyData}, Rep K S A d v → d.py = some p → Dp K H v p
  | _, _, _, .non, h => by cases h; exact .non
  | _, _, _, .bl b, h => by cases h; exact .bl b
  | _, _, _, .int i, h => by cases h; exact .int i
  | _, _, _, .str x, h => by cases h; exact .str x
  | _, _, _, .tup g r, h => by
    obtain ⟨ps, e, e2⟩ := Option.map_eq_some_iff.mp h
    subst e2
    exact .tup (Same.sqt s g) (Reps.dp s r e)
  | _, _, _, .lst g r, h => by
    obtain ⟨ps, e, e2⟩ := Option.map_eq_some_iff.mp h
    subst e2
    exact .lst (.inl (.inl (s _ _ g))) (Reps.dp s r e)
  | _, _, _, .rol g r, h => by
    obtain ⟨ps, e, e2⟩ := Option.map_eq_some_iff.mp h
    subst e2
    exact .lst (Same.sql s g) (Reps.dp s r e)
  | _, _, _, .ptr _, h => by cases h
  | _, _, _, .oth _, h => by cases h
  | _, _, _, .fn _, h => by cases h
theorem Reps.dp (s : Same S H) : ∀ {d : List Dat} {v : List V} {p : List PyData}, Reps K S A d v → Dat.pys d = some p → DpAll K H v p
  | _, _, _, .nil, h => by cases h; exact .nil
  | d :: ds, _, _, .cons r t, h => by
    unfold Dat.pys at h
    cases e : Dat.py d with
    | none => rw [e] at h; cases h
    | some q =>
      rw [e] at h
      obtain ⟨ps, e2, e3⟩ := Option.map_eq_some_iff.mp h
      subst e3
      exact .cons (Rep.dp s r e) (Reps.dp s t e2)
end
theorem pyD_ok {b : Bas} {σ : L2.St} {Γ : Gam} {M : Mem} {d : Dat} {v : V} {p : PyData} (st : Stt K b σ S A H Γ M) (r : Rep K S A d v) (h : pyD M d = some p) : Dp K H v p := by
  cases d with
  | ptr k =>
    have h : (match M[k]? with | some (.lst ds) => (Dat.pys ds).map .list | _ => none) = some p := h
    split at h
    · rename_i ds e
      obtain ⟨ps, e2, e3⟩ := Option.map_eq_some_iff.mp h
      subst e3
      cases r with
      | ptr hA =>
        obtain ⟨xs, g, q⟩ := st.cell _ _ _ hA e
        exact .lst (.inl (.inl g)) (q.dp st.sub e2)
    · cases h
  | _ => exact r.dp st.sub h
end
def eqvD (M : Mem) (d1 d2 : Dat) : Option Bool := (pyD M d1).bind fun p => (pyD M d2).bind fun q => if SeqAt.shaped p && SeqAt.shaped q then some (PyData.eqv p q) else none
def inD (M : Mem) (d1 d2 : Dat) : Option Bool := (pyD M d1).bind fun p => (pyD M d2).bind fun q => match q with
  | .list ds => if SeqAt.shaped p && SeqAt.shaped (.list ds) then some (ds.any fun z => PyData.eqv z p) else none
  | .tuple ds => if SeqAt.shaped p && SeqAt.shaped (.tuple ds) then some (ds.any fun z => PyData.eqv z p) else none
  | _ => none
section
variable {X : Cx} {b : Bas} {Γ : Gam} {M : Mem} {R : Dat → Mem → Prop} {a c : Expr} {pos : Pos}
theorem A_eqv (hu : X.A.units + 64 < cLine) (h : AE X b a Γ M fun d1 M1 => AE X b c Γ M1 fun d2 M2 => ∃ k, eqvD M2 d1 d2 = some k ∧ R (.bl k) M2) (hm : behindInMarks .Eq c = false := by rfl) : AE X b (.Compare a [.Eq] [c] pos) Γ M R :=
  A_cmp (op_eqD hu) hm (h.imp fun d1 M1 h1 => h1.imp fun d2 M2 ⟨k, hk, q⟩ => fun σ S A H v1 v2 Q st r1 r2 p => by
    obtain ⟨p1, e1, hk⟩ := Option.bind_eq_some_iff.mp hk
    obtain ⟨p2, e2, hk⟩ := Option.bind_eq_some_iff.mp hk
    split at hk
    · rename_i hs
      obtain ⟨s1, s2⟩ := Bool.and_eq_true_iff.mp hs
      cases hk
      exact ⟨p1, p2, pyD_ok st r1 e1, pyD_ok st r2 e2, s1, s2, p.here st (.bl _) q⟩
    · cases hk)
theorem A_neqv (hu : X.A.units + 64 < cLine) (h : AE X b a Γ M fun d1 M1 => AE X b c Γ M1 fun d2 M2 => ∃ k, eqvD M2 d1 d2 = some k ∧ R (.bl (!k)) M2) (hm : behindInMarks .NotEq c = false := by rfl) : AE X b (.Compare a [.NotEq] [c] pos) Γ M R :=
  A_cmp (op_neD hu) hm (h.imp fun d1 M1 h1 => h1.imp fun d2 M2 ⟨k, hk, q⟩ => fun σ S A H v1 v2 Q st r1 r2 p => by
    obtain ⟨p1, e1, hk⟩ := Option.bind_eq_some_iff.mp hk
    obtain ⟨p2, e2, hk⟩ := Option.bind_eq_some_iff.mp hk
    split at hk
    · rename_i hs
      obtain ⟨s1, s2⟩ := Bool.and_eq_true_iff.mp hs
      cases hk
      exact ⟨p1, p2, pyD_ok st r1 e1, pyD_ok st r2 e2, s1, s2, p.here st (.bl _) q⟩
    · cases hk)
end

/-! ### isinstance -/
inductive Ty where
  | non | bool | int | str | tuple | list | dict
def Ty.nm : Ty → String
  | .non => "NoneType"
  | .bool => "bool"
  | .int => "int"
  | .str => "str"
  | .tuple => "tuple"
  | .list => "list"
  | .dict => "dict"
def Ty.isa : Ty → Ty → Bool
  | .non, .non => true
  | .bool, .bool => true
  | .bool, .int => true
  | .int, .int => true
  | .str, .str => true
  | .tuple, .tuple => true
  | .list, .list => true
  | .dict, .dict => true
  | _, _ => false
theorem Ty.isa_ok : ∀ a b : Ty, kitB a.nm b.nm = some (a.isa b) := by
  intro a b
  cases a <;> cases b <;> decide +kernel
def tyD (M : Mem) : Dat → Option Ty
  | .non => some .non
  | .bl _ => some .bool
  | .int _ => some .int
  | .str _ => some .str
  | .tup _ => some .tuple
  | .lst _ => some .list
  | .rol _ => some .list
  | .ptr k => match M[k]? with
    | some (.lst _) => some .list
    | some (.dK _) => some .dict
    | some (.dT _) => some .dict
    | _ => none
  | .oth _ => none
  | .fn _ => none
end Ab
end

section
set_option Elab.async false
set_option linter.all false
set_option maxRecDepth 100000
set_option maxHeartbeats 4000000
/-! Ab11: isinstance, methods of lists, zip, enumerate by data. -/
namespace Ab
open PySem PySem.Spec PyProof.Rows L2

theorem tyD_ok {K : PySem.W.Frag} {b : Bas} {σ : L2.St} {S : Hp} {A : List Addr} {H : Hp} {Γ : Gam} {M : Mem} {d : Dat} {v : V} {t : Ty} (st : Stt K b σ S A H Γ M) (r : Rep K S A d v) (h : tyD M d = some t) : TyX K H v (.type t.nm) := by
  have seqL : ∀ {a : Addr} {xs : List V}, SqL K H a xs → TyX K H (.ref a) (.type "list") := fun {a xs} q => by
    rcases q with (q | ⟨o, q⟩) | ⟨o, _, _, q, c, _⟩
    · exact .base (.lst q)
    · exact .base (.frz q)
    · exact .kList q c
  have seqT : ∀ {a : Addr} {xs : List V}, SqT K H a xs → TyX K H (.ref a) (.type "tuple") := fun {a xs} q => by
    rcases q with (q | ⟨o, q⟩) | ⟨o, _, _, q, c, _⟩
    · exact .base (.tup q)
    · exact .fTuple q
    · exact .kTuple q c
  cases r with
  | non => cases h; exact .base .non
  | bl => cases h; exact .base (.bl _)
  | int => cases h; exact .base (.int _)
  | str => cases h; exact .base (.str _)
  | tup g q => cases h; exact seqT (Same.sqt st.sub g)
  | lst g q => cases h; exact seqL (.inl (.inl (st.sub _ _ g)))
  | rol g q => cases h; exact seqL (Same.sql st.sub g)
  | @ptr k a hA =>
    have h : (match M[k]? with | some (.lst _) => some Ty.list | some (.dK _) => some Ty.dict | some (.dT _) => some Ty.dict | _ => none) = some t := h
    split at h
    · rename_i e
      cases h
      obtain ⟨xs, g, _⟩ := st.cell _ _ _ hA e
      exact .base (.lst g)
    · rename_i e
      cases h
      obtain ⟨xs, g, _⟩ := st.cell _ _ _ hA e
      exact .base (.dK g)
    · rename_i e
      cases h
      obtain ⟨xs, g, _⟩ := st.cell _ _ _ hA e
      exact .base (.dT g)
    · cases h
  | oth => cases h
  | fn => cases h
/-- is it of one of these -/
def Ty.any (t : Ty) : List Ty → Bool
  | [] => false
  | u :: us => t.isa u || t.any us
theorem Ty.kitAny {K : PySem.W.Frag} {t : Ty} : ∀ (us : List Ty), PySem.W.kitAny K (.type t.nm) (us.map fun u => .type u.nm) = some (t.any us)
  | [] => kitAny_nil
  | u :: us => by
    refine kitAny_cons (kit_ty (Ty.isa_ok t u)) (fun e => ?_) fun e => ?_
    · rw [Ty.kitAny us]
      unfold Ty.any
      rw [e, Bool.false_or]
      cases us <;> rfl
    · unfold Ty.any
      rw [e, Bool.true_or]
def isiD (M : Mem) (ts : List Ty) (d : Dat) : Option Bool := (tyD M d).map fun t => t.any ts
theorem Ty.boot : ∀ t : Ty, t ≠ .non → bootBuiltins (Str.ofString t.nm) = some (.type t.nm) := by
  intro t h
  cases t <;> first | exact absurd rfl h | decide +kernel
section
variable {X : Cx} {b : Bas} {Γ : Gam} {M : Mem} {R : Dat → Mem → Prop} {e : Expr} {pos p p2 p3 p4 : Pos} {k : Nat}
/-- isinstance(e, t) -/
theorem A_isi (t : Ty) {x : Str} (hx : x = Str.ofString t.nm) (ht : t ≠ .non) (hg : Gl X "isinstance") (hm : X.mg "isinstance" = none) (hg2 : Gl X x) (hm2 : X.mg x = none) (h : AE X b e Γ M fun d M1 => ∃ k, isiD M1 [t] d = some k ∧ R (.bl k) M1)
    (he : starEach [e, .Name x p2] X.env = (false, eval e X.env) :: starEach [.Name x p2] X.env := by rfl) : AE X b (.Call (.Name "isinstance" p) [e, .Name x p2] [] pos) Γ M R := by
  have hv : bootBuiltins x = some (.type t.nm) := by rw [hx]; exact t.boot ht
  have n1 : x ≠ "__name__" := by subst hx; cases t <;> decide +kernel
  have n2 : (x == ("__debug__" : Str)) = false := by subst hx; cases t <;> decide +kernel
  have e2 : starEach [Expr.Name x p2] X.env = (false, eval (Expr.Name x p2) X.env) :: starEach [] X.env := rfl
  refine A_blt call_isi hg hm (by decide +kernel) (L_cons (h.imp fun d M1 ⟨k, hk, q⟩ => L_cons (A_bltn (v := .ty t.nm) hg2 hm2 hv rfl (L_nil ?_) n1 n2) e2) he) (by decide) (by decide) he
  intro σ S A H vs Q st r1 p
  obtain ⟨v, v', ev, ra, rb⟩ := r1.two
  subst ev
  cases rb
  obtain ⟨ty, e1, e2⟩ := Option.map_eq_some_iff.mp hk
  refine ⟨v, _, .type ty.nm, .type t.nm, k, rfl, .ty _, tyD_ok st ra e1, ?_, p.here st (.bl _) q⟩
  rw [← e2, kit_ty (Ty.isa_ok ty t)]
  unfold Ty.any Ty.any
  rw [Bool.or_false]
/-- isinstance(e, (t, u)) -/
theorem A_isi2 (t u : Ty) {x y : Str} (hx : x = Str.ofString t.nm) (ht : t ≠ .non) (hy : y = Str.ofString u.nm) (hu : u ≠ .non) (hg : Gl X "isinstance") (hm : X.mg "isinstance" = none) (hgx : Gl X x) (hmx : X.mg x = none) (hgy : Gl X y) (hmy : X.mg y = none)
    (h : AE X b e Γ M fun d M1 => ∃ k, isiD M1 [t, u] d = some k ∧ R (.bl k) M1)
    (he : starEach [e, .Tuple [.Name x p2, .Name y p3] k p4] X.env = (false, eval e X.env) :: starEach [.Tuple [.Name x p2, .Name y p3] k p4] X.env := by rfl) : AE X b (.Call (.Name "isinstance" p) [e, .Tuple [.Name x p2, .Name y p3] k p4] [] pos) Γ M R := by
  have n1 : x ≠ "__name__" := by subst hx; cases t <;> decide +kernel
  have n2 : (x == ("__debug__" : Str)) = false := by subst hx; cases t <;> decide +kernel
  have m1 : y ≠ "__name__" := by subst hy; cases u <;> decide +kernel
  have m2 : (y == ("__debug__" : Str)) = false := by subst hy; cases u <;> decide +kernel
  have hvx : bootBuiltins x = some (.type t.nm) := by rw [hx]; exact t.boot ht
  have hvy : bootBuiltins y = some (.type u.nm) := by rw [hy]; exact u.boot hu
  have px : PE X (.Name x p2) (tC (.ty t.nm)) := pe_bltn hgx hmx hvx rfl n1 n2
  have py : PE X (.Name y p3) (tC (.ty u.nm)) := pe_bltn hgy hmy hvy rfl m1 m2
  have pt := pe_tup (x1 := k) (pos := p4) (pa_cons px (pa_cons py pa_nil rfl) rfl)
  refine AE.of (pe_callB call_isiT hg hm (by decide +kernel) (pa_cons pe_tW (pa_cons pt pa_nil rfl) he) (by decide) (by decide) he rfl) fun σ S A H Q st p => h σ S A H _ st fun v d M1 S1 A1 H1 s1 st1 r1 ⟨kk, hk, q⟩ => ?_
  refine ⟨by rw [sizeLine_eq]; simp, fun a ha => ?_⟩
  obtain ⟨s2, st2⟩ := st1.lay (o := .tup [.ty t.nm, .ty u.nm]) ha
  obtain ⟨ty, e1, e2⟩ := Option.map_eq_some_iff.mp hk
  refine ⟨v, a, [.ty t.nm, .ty u.nm], .type ty.nm, [.type t.nm, .type u.nm], kk, rfl, upd_same, .cons (.ty _) (.cons (.ty _) .nil), tyD_ok st2 (r1.mono s2.s s2.a) e1, ?_, ((p.after s1).after s2).here st2 (.bl _) q⟩
  rw [← e2]
  exact Ty.kitAny [t, u]
end

/-! ### xs.append(e), xs.pop(), xs.pop(i), xs.extend(e): lists that are ours -/
def appD (d x : Dat) (M : Mem) : Option Mem := match d with
  | .ptr k => match M[k]? with
    | some (.lst ds) => if ds.length < sizeLine then some (M.set k (.lst (ds ++ [x]))) else none
    | _ => none
  | _ => none
def extD (d x : Dat) (M : Mem) : Option Mem := match d with
  | .ptr k => match M[k]? with
    | some (.lst ds) => match x with
      | .tup es => if ds.length + es.length ≤ sizeLine then some (M.set k (.lst (ds ++ es))) else none
      | .lst es => if ds.length + es.length ≤ sizeLine then some (M.set k (.lst (ds ++ es))) else none
      | _ => none
    | _ => none
  | _ => none
def popD (d : Dat) (M : Mem) : Option (Dat × Mem) := match d with
  | .ptr k => match M[k]? with
    | some (.lst ds) => match ds[ds.length - 1]? with
      | some y => some (y, M.set k (.lst ds.dropLast))
      | none => none
    | _ => none
  | _ => none
def popAtD (d i : Dat) (M : Mem) : Option (Dat × Mem) := match d, i with
  | .ptr k, .int i => match M[k]? with
    | some (.lst ds) => if -(2 ^ 63) ≤ i ∧ i < 2 ^ 63 then match seqIndex? i ds.length with
      | some j => match ds[j]? with
        | some y => some (y, M.set k (.lst (ds.eraseIdx j)))
        | none => none
      | none => none
      else none
    | _ => none
  | _, _ => none
/-- extend by a tuple -/
theorem ext_tup (l : Addr) (items : Array Value) (n : Nat) (b : Addr) (items2 : Array Value) (n2 : Nat) (dd : Option Addr) (sl : Array (Option Value)) (h0 : ¬(!items.isEmpty && Builtin.List.listTooLong (items.size + items2.size)) = true) (h1 : items.size ≤ sizeLine) (h2 : items.size + items2.size ≤ sizeLine + 1) :
    Meets (Builtin.«list.extend» ⟨[.ref l, .ref b], []⟩) fun _ R s => s.heap.get? l = some { cls := .type "list", dict := none, data := .seq items n, slots := #[] } ∧ s.heap.get? b = some { cls := .type "tuple", dict := dd, data := .seq items2 n2, slots := sl } ∧
      R (.ok (.ret Value.none)) { s with heap := s.heap.update l (Obj.mapSeq fun x => x ++ items2), toks := s.toks } :=
  .of_wp fun prog w A R s h => by
    obtain ⟨hp, g, d, tk, os⟩ := s
    obtain ⟨hl, hb, h⟩ := h
    have f2 := AutoSeq1.sub_tuple_tuple
    have f3 := AutoSeq1.sub_list_list
    have f4 := AutoSeq1.sub_tuple_list
    have f5 := AutoSeq1.sub_list_tuple
    have hz' : (items ++ items2).size ≤ sizeLine + 1 := by rw [Array.size_append]; exact h2
    wp_walk using (wpAny_updateSeq hl rfl (hz := h1) (_hz' := hz')), wpAny_loadPart' hl, wpAny_loadPart' hb
    exact ⟨_, rfl, h⟩
def rExtendT (K : PySem.W.Frag) : V → List V → Hp → VK → Prop := fun x vs H Q => ∃ l b xs zs, x = .ref l ∧ vs = [.ref b] ∧ H l = some (.lst xs) ∧ SqT K H b zs ∧ xs.length + zs.length ≤ sizeLine ∧ Q .non (upd H l (.lst (xs ++ zs)))
theorem mt_extendT {X : Cx} : MtM X "list.extend" (rExtendT X.K) := by
  intro pins s σ H x vs v us Q I rx rv h
  obtain ⟨l, b, xs, zs, rfl, rfl, hH, hB, hz, q⟩ := h
  cases rx
  obtain ⟨u, rfl, ru⟩ := rv.one
  cases ru
  obtain ⟨z, its, n, r, hl, e⟩ := I.lstM hH
  obtain ⟨its2, r2, ⟨⟨c, dd, dt, sl⟩, e2, hc, n2, hd⟩, hz2⟩ := I.tuple hB
  simp only at hc hd
  subst hc hd
  have l1 : its.toArray.size = xs.length := by rw [List.size_toArray]; exact hl.symm
  have l2 : its2.toArray.size = zs.length := by rw [List.size_toArray]; exact r2.length.symm
  have h0 : ¬ (!its.toArray.isEmpty && Builtin.List.listTooLong (its.toArray.size + its2.toArray.size)) = true := by
    rw [notLongL (by rw [l1, l2]; exact hz), Bool.and_false]
    exact Bool.false_ne_true
  refine call_meets F.slot_list_extend ⟨_, e, rfl⟩ F.entry_list_extend (F.args_list_extend_2 _ _) (ext_tup l its.toArray n b its2.toArray n2 dd sl h0 (by rw [l1]; exact z) (by rw [l1, l2]; omega)) ⟨e, e2, ?_⟩
  refine ⟨.non, _, I.lset (its' := its ++ its2) hH e (by simp) (r.append r2) ?_, rfl, q⟩
  rw [List.length_append]
  exact hz
section
variable {X : Cx} {b : Bas} {Γ : Gam} {M : Mem} {R : Dat → Mem → Prop} {o e : Expr} {apos cpos : Pos}
/-- is it a list of ours -/
def isCl (M : Mem) : Dat → Bool
  | .ptr k => match M[k]? with
    | some (.lst _) => true
    | _ => false
  | _ => false
theorem isCl_ok {M : Mem} {d : Dat} (h : isCl M d = true) : ∃ k ds, d = .ptr k ∧ M[k]? = some (.lst ds) := by
  cases d with
  | ptr k =>
    have h : (match M[k]? with | some (.lst _) => true | _ => false) = true := h
    split at h
    · rename_i ds e
      exact ⟨k, ds, rfl, e⟩
    · cases h
  | _ => cases h
theorem isCl_ty {σ : L2.St} {S : Hp} {A : List Addr} {H : Hp} {d : Dat} {v : V} (st : Stt X.K b σ S A H Γ M) (r : Rep X.K S A d v) (h : isCl M d = true) : tyV X.K "list" v H := by
  obtain ⟨k, ds, e1, hM⟩ := isCl_ok h
  subst e1
  cases r with
  | ptr hA =>
    obtain ⟨xs, g, _⟩ := st.cell _ _ _ hA hM
    exact .inl ⟨rfl, xs, .inl (.inl g)⟩
theorem A_append (h : AE X b o Γ M fun d M1 => isCl M1 d = true ∧ AE X b e Γ M1 fun d2 M2 => ∃ M3, appD d d2 M2 = some M3 ∧ R .non M3) (hbase : attributeBase o "append" X.env (eval o X.env) = eval o X.env := by rfl)
    (hline : (apos.endLine == cpos.line) = true := by rfl) (hs : starEach [e] X.env = (false, eval e X.env) :: starEach [] X.env := by rfl)
    (hfew : ((backTo cpos (starEach [e] X.env)).all (fun x => !x.1) && (backToKw cpos (keywordEach [] X.env)).all (fun x => x.1.isSome) && decide ([e].length + ([] : List Keyword).length + (if ([] : List Keyword).isEmpty then 0 else 1) < 30)) = true := by rfl) :
    AE X b (.Call (.Attribute o "append" apos) [e] [] cpos) Γ M R :=
  AE.of (pe_bm PySem.F.plainAttrs_list PySem.F.slot_list_append PySem.F.type_list_append mt_append pe_tW (pa_cons pe_tW pa_nil hs) hbase hfew hline hs rfl) fun σ S A H Q st p => h σ S A H _ st fun v d M1 S1 A1 H1 s1 st1 r1 ⟨hc, h1⟩ => by
    refine ⟨isCl_ty st1 r1 hc, h1 σ S1 A1 H1 _ st1 fun v2 d2 M2 S2 A2 H2 s2 st2 r2 ⟨M3, hap, q⟩ => ?_⟩
    unfold appD at hap
    split at hap
    · rename_i k
      split at hap
      · rename_i ds hM
        split at hap
        · rename_i hlt
          cases hap
          cases r1.mono s2.s s2.a with
          | @ptr _ a hA =>
            obtain ⟨xs, g, rr⟩ := st2.cell _ _ _ hA hM
            obtain ⟨s3, st3⟩ := st2.write (o := .lst (xs ++ [v2])) (c := .lst (ds ++ [d2])) hA hM (fun z => nomatch z) ⟨_, upd_same, rr.append (.cons r2 .nil)⟩
            exact ⟨a, xs, v2, rfl, rfl, g, by rw [← rr.length]; exact hlt, ((p.after (s1.trans s2)).after s3).here st3 .non q⟩
        · cases hap
      · cases hap
    · cases hap
/-- xs.extend(e), e a list or a tuple -/
theorem mt_extendX : MtM X "list.extend" (fun x vs H Q => rExtend x vs H Q ∨ rExtendT X.K x vs H Q) := fun pins s σ H x vs v us Q I rx rv h => by
  rcases h with h | h
  · exact mt_extend pins s σ H x vs v us Q I rx rv h
  · exact mt_extendT pins s σ H x vs v us Q I rx rv h
theorem A_extend (h : AE X b o Γ M fun d M1 => isCl M1 d = true ∧ AE X b e Γ M1 fun d2 M2 => ∃ M3, extD d d2 M2 = some M3 ∧ R .non M3) (hbase : attributeBase o "extend" X.env (eval o X.env) = eval o X.env := by rfl)
    (hline : (apos.endLine == cpos.line) = true := by rfl) (hs : starEach [e] X.env = (false, eval e X.env) :: starEach [] X.env := by rfl)
    (hfew : ((backTo cpos (starEach [e] X.env)).all (fun x => !x.1) && (backToKw cpos (keywordEach [] X.env)).all (fun x => x.1.isSome) && decide ([e].length + ([] : List Keyword).length + (if ([] : List Keyword).isEmpty then 0 else 1) < 30)) = true := by rfl) :
    AE X b (.Call (.Attribute o "extend" apos) [e] [] cpos) Γ M R :=
  AE.of (pe_bm PySem.F.plainAttrs_list PySem.F.slot_list_extend PySem.F.type_list_extend mt_extendX pe_tW (pa_cons pe_tW pa_nil hs) hbase hfew hline hs rfl) fun σ S A H Q st p => h σ S A H _ st fun v d M1 S1 A1 H1 s1 st1 r1 ⟨hc, h1⟩ => by
    refine ⟨isCl_ty st1 r1 hc, h1 σ S1 A1 H1 _ st1 fun v2 d2 M2 S2 A2 H2 s2 st2 r2 ⟨M3, hap, q⟩ => ?_⟩
    unfold extD at hap
    split at hap
    · rename_i k
      split at hap
      · rename_i ds hM
        cases r1.mono s2.s s2.a with
        | @ptr _ a hA =>
          obtain ⟨xs, g, rr⟩ := st2.cell _ _ _ hA hM
          split at hap
          · rename_i es
            split at hap
            · rename_i hz
              cases hap
              cases r2 with
              | @tup t ys _ gy ry =>
                obtain ⟨s3, st3⟩ := st2.write (o := .lst (xs ++ ys)) (c := .lst (ds ++ es)) hA hM (fun z => nomatch z) ⟨_, upd_same, rr.append ry⟩
                exact .inr ⟨a, t, xs, ys, rfl, rfl, g, Same.sqt st2.sub gy, by rw [← rr.length, ← ry.length]; exact hz, ((p.after (s1.trans s2)).after s3).here st3 .non q⟩
            · cases hap
          · rename_i es
            split at hap
            · rename_i hz
              cases hap
              cases r2 with
              | @lst t ys _ gy ry =>
                obtain ⟨s3, st3⟩ := st2.write (o := .lst (xs ++ ys)) (c := .lst (ds ++ es)) hA hM (fun z => nomatch z) ⟨_, upd_same, rr.append ry⟩
                exact .inl ⟨a, t, xs, ys, rfl, rfl, g, st2.sub _ _ gy, by rw [← rr.length, ← ry.length]; exact hz, ((p.after (s1.trans s2)).after s3).here st3 .non q⟩
            · cases hap
          · cases hap
      · cases hap
    · cases hap
theorem A_pop (h : AE X b o Γ M fun d M1 => ∃ r, popD d M1 = some r ∧ R r.1 r.2) (hbase : attributeBase o "pop" X.env (eval o X.env) = eval o X.env := by rfl) (hline : (apos.endLine == cpos.line) = true := by rfl) :
    AE X b (.Call (.Attribute o "pop" apos) [] [] cpos) Γ M R :=
  AE.of (pe_bm0 PySem.F.plainAttrs_list PySem.F.slot_list_pop PySem.F.type_list_pop mt_pop pe_tW hbase hline) fun σ S A H Q st p => h σ S A H _ st fun v d M1 S1 A1 H1 s1 st1 r1 ⟨r, hp, q⟩ => by
    unfold popD at hp
    split at hp
    · rename_i k
      split at hp
      · rename_i ds hM
        split at hp
        · rename_i y hy
          cases hp
          refine ⟨isCl_ty st1 r1 (by simp only [isCl, hM]), ?_⟩
          cases r1 with
          | @ptr _ a hA =>
            obtain ⟨xs, g, rr⟩ := st1.cell _ _ _ hA hM
            obtain ⟨s3, st3⟩ := st1.write (o := .lst xs.dropLast) (c := .lst ds.dropLast) hA hM (fun z => nomatch z) ⟨_, upd_same, rr.dropLast⟩
            obtain ⟨u, hu, ru⟩ := rr.getD hy
            exact ⟨a, xs, u, rfl, rfl, g, by rw [← rr.length]; exact hu, ((p.after s1).after s3).here st3 (ru.mono s3.s s3.a) q⟩
        · cases hp
      · cases hp
    · cases hp
theorem A_popAt (h : AE X b o Γ M fun d M1 => isCl M1 d = true ∧ AE X b e Γ M1 fun d2 M2 => ∃ r, popAtD d d2 M2 = some r ∧ R r.1 r.2) (hbase : attributeBase o "pop" X.env (eval o X.env) = eval o X.env := by rfl)
    (hline : (apos.endLine == cpos.line) = true := by rfl) (hs : starEach [e] X.env = (false, eval e X.env) :: starEach [] X.env := by rfl)
    (hfew : ((backTo cpos (starEach [e] X.env)).all (fun x => !x.1) && (backToKw cpos (keywordEach [] X.env)).all (fun x => x.1.isSome) && decide ([e].length + ([] : List Keyword).length + (if ([] : List Keyword).isEmpty then 0 else 1) < 30)) = true := by rfl) :
    AE X b (.Call (.Attribute o "pop" apos) [e] [] cpos) Γ M R :=
  AE.of (pe_bm PySem.F.plainAttrs_list PySem.F.slot_list_pop PySem.F.type_list_pop mt_popAt pe_tW (pa_cons pe_tW pa_nil hs) hbase hfew hline hs rfl) fun σ S A H Q st p => h σ S A H _ st fun v d M1 S1 A1 H1 s1 st1 r1 ⟨hc, h1⟩ => by
    refine ⟨isCl_ty st1 r1 hc, h1 σ S1 A1 H1 _ st1 fun v2 d2 M2 S2 A2 H2 s2 st2 r2 ⟨r, hp, q⟩ => ?_⟩
    unfold popAtD at hp
    split at hp
    · rename_i k i
      split at hp
      · rename_i ds hM
        split at hp
        · rename_i hi
          split at hp
          · rename_i j hj
            split at hp
            · rename_i y hy
              cases hp
              cases r2
              cases r1.mono s2.s s2.a with
              | @ptr _ a hA =>
                obtain ⟨xs, g, rr⟩ := st2.cell _ _ _ hA hM
                obtain ⟨s3, st3⟩ := st2.write (o := .lst (xs.eraseIdx j)) (c := .lst (ds.eraseIdx j)) hA hM (fun z => nomatch z) ⟨_, upd_same, rr.eraseIdx j⟩
                obtain ⟨u, hu, ru⟩ := rr.getD hy
                exact ⟨a, xs, _, j, u, rfl, rfl, g, hi.1, hi.2, by rw [← rr.length]; exact hj, hu, ((p.after (s1.trans s2)).after s3).here st3 (ru.mono s3.s s3.a) q⟩
            · cases hp
          · cases hp
        · cases hp
      · cases hp
    · cases hp
end
end Ab
end

section
set_option Elab.async false
set_option linter.all false
set_option maxRecDepth 100000
set_option maxHeartbeats 4000000
/-! Ab12: zip, enumerate by data. -/
namespace Ab
open PySem PySem.Spec PyProof.Rows L2

def pairD (a b : Dat) : Dat := .tup [a, b]
theorem walk_zipT {K : PySem.W.Frag} {a b : Addr} {xs ys : List V} {n : Nat} (hn : n = min xs.length ys.length) : Walk (RZ.ItzT K a b) n (fun H => SqT K H a xs ∧ SqT K H b ys) (YPair (fun i => xs[i]?) (fun i => ys[i]?)) := by
  subst hn
  refine ⟨fun i _ hi q => ?_, fun _ q => ⟨xs, ys, q.1, q.2, by omega⟩, fun i H v H' _ q y => ?_⟩
  · have h1 : i < xs.length := by omega
    have h2 : i < ys.length := by omega
    exact ⟨xs, ys, xs[i], ys[i], q.1, q.2, by simp [h1], by simp [h2]⟩
  · obtain ⟨T, x, z, h1, h2, h3, h4, h5⟩ := y
    exact ⟨T, x, z, h1, h2, h3, h4 xs q.1, h5 ys q.2⟩
/-- zip of lists, for the data as they stand -/
def YZipE (K : PySem.W.Frag) (a b : Addr) : Nat → Hp → V → Hp → Prop := fun i H v H' => ∃ T x y, v = .ref T ∧ H T = none ∧ H' = upd H T (.tup [x, y]) ∧ (∀ xs, SqL K H a xs → xs[i]? = some x) ∧ ∀ ys, SqL K H b ys → ys[i]? = some y
theorem walk_zipE {K : PySem.W.Frag} {a b : Addr} {n m : Nat} : Walk (Itz K a b) (min n m) (fun H => (∃ xs, SqL K H a xs ∧ xs.length = n) ∧ ∃ ys, SqL K H b ys ∧ ys.length = m) (YZipE K a b) := by
  refine ⟨fun i _ hi q => ?_, fun _ q => ?_, fun i H v H' _ q y => y⟩
  · obtain ⟨⟨xs, q1, l1⟩, ys, q2, l2⟩ := q
    have h1 : i < xs.length := by omega
    have h2 : i < ys.length := by omega
    exact ⟨xs, ys, xs[i], ys[i], q1, q2, by simp [h1], by simp [h2]⟩
  · obtain ⟨⟨xs, q1, l1⟩, ys, q2, l2⟩ := q
    exact ⟨xs, ys, q1, q2, by omega⟩
def YEnumE (K : PySem.W.Frag) (a : Addr) : Nat → Hp → V → Hp → Prop := fun i H v H' => ∃ T x, v = .ref T ∧ H T = none ∧ H' = upd H T (.tup [.int (i : Nat), x]) ∧ (∀ xs, SqL K H a xs → xs[i]? = some x)
theorem walk_enumE {K : PySem.W.Frag} {a : Addr} {n : Nat} : Walk (Ite K a) n (fun H => ∃ xs, SqL K H a xs ∧ xs.length = n) (YEnumE K a) := by
  refine ⟨fun i _ hi ⟨xs, q, hl⟩ => ⟨xs, xs[i], q, by simp [hl, hi]⟩, fun _ ⟨xs, q, hl⟩ => ⟨xs, q, by omega⟩, fun i H v H' _ q y => ?_⟩
  obtain ⟨T, x, h1, h2, h3, h4⟩ := y
  exact ⟨T, x, h1, h2, h3, h4⟩
section
variable {K : PySem.W.Frag} {b : Bas} {σ : L2.St} {S : Hp} {A : List Addr} {H : Hp} {Γ : Gam} {M : Mem} {d d' : Dat} {ds es : List Dat} {v v' : V}
theorem isR_again {S2 : Hp} {A2 : List Addr} {H2 : Hp} {Γ2 : Gam} {M2 : Mem} {σ2 : L2.St} {a : Addr} (i : IsR M d ds) (r : Rep K S A d (.ref a)) (s2 : Step S A H S2 A2 H2) (st2 : Stt K b σ2 S2 A2 H2 Γ2 M2) (hG : GmOf d ds M2) : ∃ xs, SqL K H2 a xs ∧ Reps K S2 A2 ds xs := by
  have i2 : IsR M2 d ds := by
    cases i with
    | l il =>
      cases il with
      | lst => exact .l (.lst ds)
      | ptr hM => exact .l (.ptr hG)
    | rol => exact .rol ds
  obtain ⟨a2, xs2, ev2, g2, q2⟩ := i2.at st2 (r.mono s2.s s2.a)
  have ea : a = a2 := V.ref.inj ev2
  subst ea
  exact ⟨xs2, g2, q2⟩
theorem zip_get {i : Nat} {x y : Dat} (h1 : ds[i]? = some x) (h2 : es[i]? = some y) : (List.zipWith pairD ds es)[i]? = some (pairD x y) := by
  rw [List.getElem?_zipWith, h1, h2]
theorem gives_zip (i : IsR M d ds) (j : IsR M d' es) (st : Stt K b σ S A H Γ M) (r : Rep K S A d v) (r' : Rep K S A d' v') : ∃ a a' xs ys, v = .ref a ∧ v' = .ref a' ∧ SqL K H a xs ∧ SqL K H a' ys ∧ Gives K b S A H (Itz K a a') (List.zipWith pairD ds es) (fun M => GmOf d ds M ∧ GmOf d' es M) := by
  obtain ⟨a, xs, ev, g, q⟩ := i.at st r
  obtain ⟨a', ys, ev', g', q'⟩ := j.at st r'
  subst ev ev'
  refine ⟨a, a', xs, ys, rfl, rfl, g, g', ⟨⟨_, _, by rw [List.length_zipWith]; exact walk_zipE (n := ds.length) (m := es.length), fun σ2 S2 A2 H2 Γ2 M2 s2 st2 hG => ?_, fun σ2 S2 A2 H2 Γ2 M2 k x H3 s2 st2 hG hi hY => ?_⟩, fun _ _ _ => trivial⟩⟩
  · obtain ⟨xs2, g2, q2⟩ := isR_again i r s2 st2 hG.1
    obtain ⟨ys2, g3, q3⟩ := isR_again j r' s2 st2 hG.2
    exact ⟨⟨xs2, g2, q2.length.symm⟩, ys2, g3, q3.length.symm⟩
  · obtain ⟨xs2, g2, q2⟩ := isR_again i r s2 st2 hG.1
    obtain ⟨ys2, g3, q3⟩ := isR_again j r' s2 st2 hG.2
    obtain ⟨T, x1, y1, e1, hT, e2, h4, h5⟩ := hY
    subst e1 e2
    obtain ⟨dx, k1, k2⟩ := q2.get (h4 _ g2)
    obtain ⟨dy, k3, k4⟩ := q3.get (h5 _ g3)
    obtain ⟨s3, st3⟩ := st2.lay (o := .tup [x1, y1]) hT
    exact ⟨_, pairD dx dy, zip_get k1 k3, s3, st3, .tup (.inl (.inl upd_same)) (.cons (k2.mono s3.s s3.a) (.cons (k4.mono s3.s s3.a) .nil))⟩
theorem gives_zipT (st : Stt K b σ S A H Γ M) (r : Rep K S A (.tup ds) v) (r' : Rep K S A (.tup es) v') : ∃ a a' xs ys, v = .ref a ∧ v' = .ref a' ∧ SqT K H a xs ∧ SqT K H a' ys ∧ Gives K b S A H (RZ.ItzT K a a') (List.zipWith pairD ds es) (fun _ => True) := by
  cases r with
  | @tup a xs _ g q =>
    cases r' with
    | @tup a' ys _ g' q' =>
      refine ⟨a, a', xs, ys, rfl, rfl, Same.sqt st.sub g, Same.sqt st.sub g', ⟨⟨fun H => SqT K H a xs ∧ SqT K H a' ys, YPair (fun i => xs[i]?) (fun i => ys[i]?), by rw [List.length_zipWith, q.length, q'.length]; exact walk_zipT (xs := xs) (ys := ys) rfl, fun σ2 S2 A2 H2 Γ2 M2 s2 st2 hG => ⟨Same.sqt st2.sub (Same.sqt s2.s g), Same.sqt st2.sub (Same.sqt s2.s g')⟩, fun σ2 S2 A2 H2 Γ2 M2 k x H3 s2 st2 hG hi hY => ?_⟩, fun _ _ _ => trivial⟩⟩
      obtain ⟨T, x1, y1, e1, hT, e2, h4, h5⟩ := hY
      subst e1 e2
      obtain ⟨dx, k1, k2⟩ := (q.mono s2.s s2.a).get h4
      obtain ⟨dy, k3, k4⟩ := (q'.mono s2.s s2.a).get h5
      obtain ⟨s3, st3⟩ := st2.lay (o := .tup [x1, y1]) hT
      exact ⟨_, pairD dx dy, zip_get k1 k3, s3, st3, .tup (.inl (.inl upd_same)) (.cons (k2.mono s3.s s3.a) (.cons (k4.mono s3.s s3.a) .nil))⟩
def enumD (ds : List Dat) : List Dat := List.zipWith pairD ((List.range ds.length).map fun i => .int (i : Nat)) ds
theorem enumD_length : (enumD ds).length = ds.length := by unfold enumD; simp
theorem gives_enum (i : IsR M d ds) (st : Stt K b σ S A H Γ M) (r : Rep K S A d v) : ∃ a xs, v = .ref a ∧ SqL K H a xs ∧ Gives K b S A H (Ite K a) (enumD ds) (GmOf d ds) := by
  obtain ⟨a, xs, ev, g, q⟩ := i.at st r
  subst ev
  refine ⟨a, xs, rfl, g, ⟨⟨_, _, by rw [enumD_length]; exact walk_enumE (n := ds.length), fun σ2 S2 A2 H2 Γ2 M2 s2 st2 hG => ?_, fun σ2 S2 A2 H2 Γ2 M2 k x H3 s2 st2 hG hi hY => ?_⟩, fun _ _ _ => trivial⟩⟩
  · obtain ⟨xs2, g2, q2⟩ := isR_again i r s2 st2 hG
    exact ⟨xs2, g2, q2.length.symm⟩
  · obtain ⟨xs2, g2, q2⟩ := isR_again i r s2 st2 hG
    obtain ⟨T, x1, e1, hT, e2, h4⟩ := hY
    subst e1 e2
    obtain ⟨dx, k1, k2⟩ := q2.get (h4 _ g2)
    obtain ⟨s3, st3⟩ := st2.lay (o := .tup [.int (k : Nat), x1]) hT
    rw [enumD_length] at hi
    exact ⟨_, pairD (.int (k : Nat)) dx, zip_get (by rw [List.getElem?_map, List.getElem?_range hi] <;> rfl) k1, s3, st3, .tup (.inl (.inl upd_same)) (.cons (.int _) (.cons (k2.mono s3.s s3.a) .nil))⟩
end
section
variable {X : Cx} {b : Bas} {Γ : Gam} {M : Mem} {e e2 : Expr} {pos p tpos : Pos} {R : List Dat → (Mem → Prop) → Mem → Prop} {elts : List Expr} {kk : Nat}
theorem I_enum (hg : Gl X "enumerate") (hm : X.mg "enumerate" = none) (h : AE X b e Γ M fun d M1 => ∃ ds, IsR M1 d ds ∧ R (enumD ds) (GmOf d ds) M1) (hs : starEach [e] X.env = [(false, eval e X.env)] := by rfl) : AI X b (.Tuple elts kk tpos) (.Call (.Name "enumerate" p) [e] [] pos) Γ M R :=
  ⟨_, pi_enum hg hm (pa_cons pe_tW pa_nil hs) hs, fun σ S A H Rw st k => h σ S A H _ st fun v d M1 S1 A1 H1 s1 st1 r1 ⟨ds, i, q⟩ => by
    obtain ⟨a, xs, ev, hx, g⟩ := gives_enum i st1 r1
    subst ev
    exact ⟨a, xs, rfl, hx, k _ _ _ M1 S1 A1 H1 s1 st1 g q⟩⟩
theorem I_zip (hg : Gl X "zip") (hm : X.mg "zip" = none) (h : AE X b e Γ M fun d M1 => AE X b e2 Γ M1 fun d' M2 => (∃ ds es, IsR M2 d ds ∧ IsR M2 d' es ∧ R (List.zipWith pairD ds es) (fun M => GmOf d ds M ∧ GmOf d' es M) M2) ∨ ∃ ds es, d = .tup ds ∧ d' = .tup es ∧ R (List.zipWith pairD ds es) (fun _ => True) M2)
    (hs : starEach [e, e2] X.env = (false, eval e X.env) :: starEach [e2] X.env := by rfl) (hs2 : starEach [e2] X.env = (false, eval e2 X.env) :: starEach [] X.env := by rfl) (hpl : (backTo pos (starEach [e2] X.env)).any (·.1) = false := by rfl) : AI X b (.Tuple elts kk tpos) (.Call (.Name "zip" p) [e, e2] [] pos) Γ M R :=
  ⟨_, RZ.pi_zipA hg hm (pa_cons pe_tW (pa_cons pe_tW pa_nil hs2) hs) hs hpl, fun σ S A H Rw st k => h σ S A H _ st fun v d M1 S1 A1 H1 s1 st1 r1 h1 => h1 σ S1 A1 H1 _ st1 fun v2 d2 M2 S2 A2 H2 s2 st2 r2 h2 => by
    rcases h2 with ⟨ds, es, i, j, q⟩ | ⟨ds, es, e1, e2, q⟩
    · obtain ⟨a, a', xs, ys, ev, ev', hx, hy, g⟩ := gives_zip i j st2 (r1.mono s2.s s2.a) r2
      subst ev ev'
      exact ⟨a, a', xs, ys, rfl, .inl ⟨hx, hy, k _ _ _ M2 S2 A2 H2 (s1.trans s2) st2 g q⟩⟩
    · subst e1 e2
      obtain ⟨a, a', xs, ys, ev, ev', hx, hy, g⟩ := gives_zipT st2 (r1.mono s2.s s2.a) r2
      subst ev ev'
      exact ⟨a, a', xs, ys, rfl, .inr ⟨hx, hy, k _ _ _ M2 S2 A2 H2 (s1.trans s2) st2 g q⟩⟩⟩
end
end Ab
end

section
set_option Elab.async false
set_option linter.all false
set_option maxRecDepth 100000
set_option maxHeartbeats 4000000
/-! Bx9: enumerate over a tuple. -/
namespace Ab
open PySem PySem.Spec PyProof.Rows L2
theorem enum_new1 {v : Value} {o : Obj} {H : Heap → Prop} (B : Begins v o H) :
    Meets (Builtin.«enumerate.__new__» ⟨[.type "enumerate", v], []⟩) (fun _ R s => H s.heap ∧
      R (.ok (.ret (.ref (s.heap.push o).objs.size))) { s with heap := (s.heap.push o).push { cls := .type "enumerate", data := .fields #[.none, .bool false, .ref s.heap.objs.size, rawInt 0, .none, .none] } }) :=
  .of_wp fun prog w A R s h => by
    obtain ⟨hp, g, d, tk, os⟩ := s; obtain ⟨h1, h⟩ := h
    have hsub := sub_enumerate
    have qi : ∀ {A' : Around} {E : Value → Shared → Prop} {Q : Value → Shared → Prop}, Q (.ref hp.objs.size) ⟨hp.push o, g, d, tk, os⟩ → wpAny (model prog w) A' (pyIter v) Q E ⟨hp, g, d, tk, os⟩ := fun q => B.iter prog w _ _ ⟨hp, g, d, tk, os⟩ _ h1 q
    wp_walk using qi
    refine wpAny_stack_any fun st => wpAny_pure ?_
    split
    · rename_i c _ _ _ _ _
      cases (c == Value.type "enumerate")
      all_goals
        wp_walk using qi
        exact ⟨_, rfl, h⟩
    · wp_walk using qi
      exact ⟨_, rfl, h⟩
theorem enum_one {prog : Program} {w : World} {A : Around} {E : Value → Shared → Prop} {s : Shared} {v : Value} {o : Obj} {H : Heap → Prop} {Q : Value → Shared → Prop} (B : Begins v o H) (h1 : H s.heap)
    (h : ∀ g, IsEnum g (s.heap.objs.size + 1) s.heap.objs.size 0 .none → g.get? s.heap.objs.size = some o → (∀ b o, s.heap.get? b = some o → g.get? b = some o) → Q (.ref (s.heap.objs.size + 1)) { s with heap := g }) :
    wpAny (model prog w) A (call (.type "enumerate") [v]) Q E s := by
  refine callType_new F.called_enumerate (by decide) (F.typeCall_enumerate_1 _) (F.newCall_enumerate_1 _) (fun obj => F.args_object_init_2 obj _) F.entry_enumerate_new (enum_new1 B) ⟨h1, ?_⟩
  have hz : (s.heap.push o).objs.size = s.heap.objs.size + 1 := Heap.size_push ..
  show _ ∧ _
  rw [hz]
  generalize hG : (s.heap.push o).push { cls := .type "enumerate", data := .fields #[.none, .bool false, .ref s.heap.objs.size, rawInt 0, .none, .none] } = G
  have he : IsEnum G (s.heap.objs.size + 1) s.heap.objs.size 0 .none := by
    have q := Heap.get?_push_size (s.heap.push o) (o := { cls := .type "enumerate", data := .fields #[.none, .bool false, .ref s.heap.objs.size, rawInt 0, .none, .none] }) rfl
    rw [hz, hG] at q
    exact q
  refine ⟨⟨_, he, rfl⟩, h _ he ?_ fun b o x => ?_⟩
  · rw [← hG]; exact Heap.get?_push_of_some _ (Heap.get?_push_size _ B.free)
  · rw [← hG]; exact Heap.get?_push_of_some _ (Heap.get?_push_of_some _ x)
/-- the tuple at a, each item in a new pair -/
def ItT (K : PySem.W.Frag) (a : Addr) : It :=
  ⟨fun i H => ∃ (xs : List V) (x : V), SqT K H a xs ∧ xs[i]? = some x, fun i H v H' => ∃ T x, v = .ref T ∧ H T = none ∧ H' = upd H T (.tup [.int (i : Nat), x]) ∧ ∀ xs, SqT K H a xs → xs[i]? = some x, fun i H => ∃ xs : List V, SqT K H a xs ∧ xs.length = i⟩
theorem turn_enumT {P : Program} {w : World} {K : PySem.W.Frag} {elts : List Expr} {kk : Nat} {tpos : Pos} (a e it : Addr) :
    Turn P w K (.Tuple elts kk tpos) (ItT K a) [e, it] e (fun i h => (∃ old, IsEnum h e it ((i : Nat) : Int) old) ∧ h.IsTupleIter it a i ∧ e ≠ it) where
  mem := by simp
  obj := fun i h st b hb => by
    obtain ⟨⟨old, he⟩, ⟨o, ho, hc, hd⟩, _⟩ := st
    rcases (by simpa using hb : b = e ∨ b = it) with z | z
    · rw [z]; exact ⟨_, he, fun v q => nomatch q⟩
    · rw [z]; exact ⟨o, ho, fun v q => by rw [hd] at q; cases q⟩
  keep := fun i h h' st k => let ⟨⟨old, he⟩, hi, hne⟩ := st; ⟨⟨old, k e (by simp) _ he⟩, hi.at fun o q => k it (by simp) o q, hne⟩
  item := by
    intro X hP hw hK hc i pins s σ H E I hf st hg
    subst hP hw hK
    obtain ⟨⟨old, he⟩, hit, hne⟩ := st
    obtain ⟨xs, x, hq, hx⟩ := hg
    obtain ⟨its, rv, p, hz⟩ := I.tuple hq
    obtain ⟨u, hu, ru⟩ := rv.get hx
    have hel : e < s.heap.objs.size := Heap.lt_size he
    have hil : it < s.heap.objs.size := by obtain ⟨_, q, _⟩ := hit; exact Heap.lt_size q
    have hta : a ≠ it := fun z => by
      obtain ⟨o1, q1, _, d1⟩ := hit
      obtain ⟨o2, q2, _, _, d2⟩ := p
      rw [z, q1] at q2; cases q2
      rw [d1] at d2; cases d2
    have hea : e ≠ a := fun z => by
      obtain ⟨o2, q2, _, _, d2⟩ := p
      have he : s.heap.get? e = some _ := he
      rw [← z, he] at q2; cases q2
      cases d2
    have hi : i < its.toArray.size := by
      have := (List.getElem?_eq_some_iff.mp hu).1
      simpa using this
    refine wpAny_pyNext_enum_itemD (Draws.tuple (A := X.A.in1) (I.ok.hd hc) it a hta its.toArray) he ⟨hit, p⟩ hi hne (by simp [hne, hea]) fun y h' tk hy ho hit' hT hsz hk => ?_
    have ey : y = u := by
      have hy : its.toArray[i]? = some y := hy
      have h2 : its.toArray[i]? = some u := by simpa using hu
      rw [h2] at hy
      exact (Option.some.inj hy).symm
    subst ey
    refine ⟨_, rfl, wpAny_letOwnedTupleGo_enum (s := { s with heap := h', toks := tk + 1 }) ho fun h'' he' sb => ?_⟩
    have hT2 : h''.get? s.heap.objs.size = some { cls := .type "tuple", data := .seq #[.int i tk, y] } := (sb.2 _ (Nat.ne_of_gt hel)).trans hT
    have new : ObjOk X.prog X.w (upd H s.heap.objs.size (.tup [.int (i : Nat), x])) h'' s.heap.objs.size (.tup [.int (i : Nat), x]) :=
      ⟨by show 2 ≤ sizeLine; decide, [.int i tk, y], .cons ⟨_, rfl⟩ (.cons ru .nil), ⟨_, hT2, rfl, _, rfl⟩⟩
    have I1 : Inv X pins σ (upd H s.heap.objs.size (.tup [.int (i : Nat), x])) { s with heap := h'', toks := tk + 1 } :=
      I.turnedNew (ch := [e, it]) (fun b ob hb q => (sb.2 b (fun z => hb (by simp [z]))).trans (hk b ob (fun z => hb (by simp [z])) (fun z => hb (by simp [z])) q)) hf (Nat.le_refl _) new
    refine ⟨.ref s.heap.objs.size, _, I1, rfl, ⟨_, x, rfl, I.hok.fresh (Nat.le_refl _), rfl, fun ys hy => by rw [I.tuple_inj hy hq]; exact hx⟩, ⟨⟨y, ?_⟩, hit'.1.at fun o q => (sb.2 it (Ne.symm hne)).trans q, hne⟩, fun b hb => ?_⟩
    · have e1 : ((i + 1 : Nat) : Int) = (i : Int) + 1 := by omega
      rw [e1]; exact he'
    · have hb' : b < s.heap.objs.size := by
        rcases (by simpa using hb : b = e ∨ b = it) with z | z
        · rw [z]; exact hel
        · rw [z]; exact hil
      rw [upd_ne (Nat.ne_of_lt hb')]
      exact (hf b hb).1
  done := by
    intro X hP hw hK hc i pins s σ H E I hf st hg
    subst hP hw hK
    obtain ⟨⟨old, he⟩, hit, hne⟩ := st
    obtain ⟨xs, hq, hx⟩ := hg
    obtain ⟨its, rv, p, hz⟩ := I.tuple hq
    obtain ⟨f0, f1, f2, f3, f4, f5⟩ := hf it (by simp)
    have hl := rv.length
    have hta : a ≠ it := fun z => by
      obtain ⟨o1, q1, _, d1⟩ := hit
      obtain ⟨o2, q2, _, _, d2⟩ := p
      rw [z, q1] at q2; cases q2
      rw [d1] at d2; cases d2
    refine wpAny_pyNext_enum_endD (Draws.tuple (A := X.A.in1) (I.ok.hd hc) it a hta its.toArray) he ⟨?_, p⟩ fun h' eb => ⟨rfl, ?_⟩
    · rw [List.size_toArray, ← hl, hx]; exact hit
    · exact I.turned (t' := s.toks) (fun b o hb q => eb b o hb q) f0 f1 f3 f4 f5
  self := fun A i s Q E st h => let ⟨⟨_, he⟩, _⟩ := st; wpAny_pyIter_enum he h
theorem pi_enumT {X : Cx} {e : Expr} {te : TE} {p pos tpos : Pos} {elts : List Expr} {kk : Nat} (hg : Gl X "enumerate") (hm : X.mg "enumerate" = none) (he : PE X e te) (hs : starEach [e] X.env = (false, eval e X.env) :: starEach [] X.env := by rfl) :
    PI X (.Tuple elts kk tpos) (.Call (.Name "enumerate" p) [e] [] pos) (fun σ H R => te σ H fun v H1 => ∃ a xs, v = .ref a ∧ SqT X.K H1 a xs ∧ R (ItT X.K a) H1) := by
  refine ⟨fun pins s σ H R I h => ?_⟩
  refine Call_ (ld_blt I hg hm boot_enumerate (PyProof.Rows.callWith_type1 (args_cons (thn (he.run pins s σ H _ I h) fun u s1 ⟨v, H1, I1, r1, q1⟩ => args_nil ?_) hs) hs rfl))
  obtain ⟨a, xs, ex, hq, q⟩ := q1
  subst ex
  obtain rfl : u = Value.ref a := r1
  obtain ⟨its, rv, p', hz⟩ := I1.tuple hq
  refine enum_one (begins_tuple a its.toArray) p' fun g he hit hk => wpAny_pyIter_enum he ?_
  have I2 : Inv X pins σ H1 { s1 with heap := g } := I1.kept (t' := s1.toks) hk
  refine ⟨s1.heap.objs.size + 1, [s1.heap.objs.size + 1, s1.heap.objs.size], _, _, H1, rfl, I2, turn_enumT a (s1.heap.objs.size + 1) s1.heap.objs.size, ⟨⟨.none, he⟩, ⟨_, hit, rfl, rfl⟩, Nat.succ_ne_self _⟩, fun b hb => ?_, q⟩
  have hle : s1.heap.objs.size ≤ b := by
    rcases (by simpa using hb : b = s1.heap.objs.size + 1 ∨ b = s1.heap.objs.size) with z | z
    · rw [z]; exact Nat.le_add_right _ _
    · rw [z]; exact Nat.le_refl _
  exact I1.fpOk hle (I1.hok.fresh hle)

/-! by data -/
def YEnumT (K : PySem.W.Frag) (a : Addr) : Nat → Hp → V → Hp → Prop := fun i H v H' => ∃ T x, v = .ref T ∧ H T = none ∧ H' = upd H T (.tup [.int (i : Nat), x]) ∧ (∀ xs, SqT K H a xs → xs[i]? = some x)
theorem walk_enumT {K : PySem.W.Frag} {a : Addr} {xs : List V} : Walk (ItT K a) xs.length (fun H => SqT K H a xs) (YEnumT K a) := by
  refine ⟨fun i _ hi q => ⟨xs, xs[i], q, by simp [hi]⟩, fun _ q => ⟨xs, q, rfl⟩, fun i H v H' _ q y => ?_⟩
  obtain ⟨T, x, h1, h2, h3, h4⟩ := y
  exact ⟨T, x, h1, h2, h3, h4⟩
section
variable {K : PySem.W.Frag} {b : Bas} {σ : L2.St} {S : Hp} {A : List Addr} {H : Hp} {Γ : Gam} {M : Mem} {d d' : Dat} {ds es : List Dat} {v v' : V}
theorem gives_enumT (st : Stt K b σ S A H Γ M) (r : Rep K S A (.tup ds) v) : ∃ a xs, v = .ref a ∧ SqT K H a xs ∧ Gives K b S A H (ItT K a) (enumD ds) (fun _ => True) := by
  obtain ⟨a, xs, ev, g, q⟩ := (IsT.tup ds).at st r
  subst ev
  have hl := q.length
  cases r with
  | @tup _ us _ hS qS =>
    refine ⟨a, us, rfl, Same.sqt st.sub hS, ⟨⟨fun H => SqT K H a us, YEnumT K a, by rw [enumD_length, qS.length]; exact walk_enumT, fun σ2 S2 A2 H2 Γ2 M2 s2 st2 hG => Same.sqt st2.sub (Same.sqt s2.s hS), fun σ2 S2 A2 H2 Γ2 M2 k x H3 s2 st2 hG hi hY => ?_⟩, fun _ _ _ => trivial⟩⟩
    obtain ⟨T, x1, e1, hT, e2, h4⟩ := hY
    subst e1 e2
    obtain ⟨dx, k1, k2⟩ := (qS.mono s2.s s2.a).get (h4 _ (Same.sqt st2.sub (Same.sqt s2.s hS)))
    obtain ⟨s3, st3⟩ := st2.lay (o := .tup [.int (k : Nat), x1]) hT
    rw [enumD_length] at hi
    exact ⟨_, pairD (.int (k : Nat)) dx, zip_get (by rw [List.getElem?_map, List.getElem?_range hi] <;> rfl) k1, s3, st3, .tup (.inl (.inl upd_same)) (.cons (.int _) (.cons (k2.mono s3.s s3.a) .nil))⟩
end
section
variable {X : Cx} {b : Bas} {Γ : Gam} {M : Mem} {e e2 : Expr} {pos p tpos : Pos} {R : List Dat → (Mem → Prop) → Mem → Prop} {elts : List Expr} {kk : Nat}
theorem I_enumT (hg : Gl X "enumerate") (hm : X.mg "enumerate" = none) (h : AE X b e Γ M fun d M1 => ∃ ds, d = .tup ds ∧ R (enumD ds) (fun _ => True) M1) (hs : starEach [e] X.env = (false, eval e X.env) :: starEach [] X.env := by rfl) : AI X b (.Tuple elts kk tpos) (.Call (.Name "enumerate" p) [e] [] pos) Γ M R :=
  ⟨_, pi_enumT hg hm pe_tW hs, fun σ S A H Rw st k => h σ S A H _ st fun v d M1 S1 A1 H1 s1 st1 r1 ⟨ds, ed, q⟩ => by
    subst ed
    obtain ⟨a, xs, ev, hx, g⟩ := gives_enumT st1 r1
    subst ev
    exact ⟨a, xs, rfl, hx, k _ _ _ M1 S1 A1 H1 s1 st1 g q⟩⟩
end
end Ab
end

section
set_option Elab.async false
set_option linter.all false
set_option maxRecDepth 100000
set_option maxHeartbeats 4000000
/-! Ab13: the small language and its runner. -/
namespace Ab
open PySem PySem.Spec PyProof.Rows L2

/-! ### a total order of data; sorting -/
mutual
def Dat.cmp : Dat → Dat → Ordering
  | .int i, .int j => if i < j then .lt else if i = j then .eq else .gt
  | .tup xs, .tup ys => Dat.cmps xs ys
  | .int _, _ => .lt
  | .tup _, .int _ => .gt
  | .tup _, _ => .lt
  | _, .int _ => .gt
  | _, .tup _ => .gt
  | _, _ => .eq
def Dat.cmps : List Dat → List Dat → Ordering
  | [], [] => .eq
  | [], _ :: _ => .lt
  | _ :: _, [] => .gt
  | x :: xs, y :: ys => match Dat.cmp x y with
    | .eq => Dat.cmps xs ys
    | o => o
end
def Dat.lt (x y : Dat) : Bool := match Dat.cmp x y with
  | .lt => true
  | _ => false
mutual
def Dat.like : Dat → Dat → Bool
  | .int _, .int _ => true
  | .tup xs, .tup ys => Dat.likes xs ys
  | _, _ => false
def Dat.likes : List Dat → List Dat → Bool
  | x :: xs, y :: ys => Dat.like x y && Dat.likes xs ys
  | _, _ => true
end
def insD (x : Dat) : List Dat → List Dat
  | [] => [x]
  | y :: ys => if Dat.lt y x then y :: insD x ys else x :: y :: ys
def isortD : List Dat → List Dat
  | [] => []
  | x :: xs => insD x (isortD xs)
def Dat.isI : Dat → Bool
  | .int _ => true
  | _ => false
def Dat.headI : Dat → Bool
  | .tup (.int _ :: _) => true
  | _ => false
def Dat.headT : Dat → Bool
  | .tup (.tup _ :: _) => true
  | _ => false
def Dat.shp (d : Dat) : Bool := match d.py with
  | some p => SeqAt.shaped p
  | none => false
def srtD (ds : List Dat) : Option (List Dat) :=
  if ds.length < 2 then (match Dat.pys ds with
    | some _ => some ds
    | none => none)
  else if (ds.all Dat.isI || ds.all Dat.headI || ds.all Dat.headT) && ds.all Dat.shp && (ds.all fun x => ds.all fun y => Dat.like x y) then some (isortD ds)
  else none

/-! ### one-place operations -/
inductive B1 where
  | neg | notB | len | abs | int | list | listC | tuple | sum | all | any | isN | notN | srt | srtC | pop | isi (ts : List Ty) | listR | listRC | rev | srtSet | dictP
def lenD (M : Mem) (d : Dat) : Option Nat := match d with
  | .str z => if z.length ≤ sizeLine then some z.length else none
  | d => (sq M d).map List.length
def rngD (n : Int) : List Dat := (List.range n.toNat).map fun i => .int (i : Nat)
def isR62' (i : Int) : Bool := decide (-(2 ^ 62) ≤ i) && decide (i < 2 ^ 62)
def insI (x : Int) : List Int → List Int
  | [] => [x]
  | y :: ys => if x < y then x :: y :: ys else if x = y then y :: ys else y :: insI x ys
def srtSetI (ns : List Int) : List Int := ns.foldr insI []
/-! dicts -/
def keyD : Dat → Option Key
  | .int i => some (.inl i)
  | .str x => some (.inr x)
  | _ => none
def valD (kvs : List (Key × Dat)) (k : Key) : Option Dat := (kvs.find? fun kv => decide (kv.1 = k)).map (·.2)
def putD (kvs : List (Key × Dat)) (k : Key) (v : Dat) : List (Key × Dat) :=
  if (kvs.any fun kv => decide (kv.1 = k)) = true then kvs.map (fun kv => if kv.1 = k then (kv.1, v) else kv) else kvs ++ [(k, v)]
def dclD (M : Mem) : Dat → Option (List (Key × Dat))
  | .ptr k => match M[k]? with
    | some (.dK kvs) => some kvs
    | _ => none
  | _ => none
def pairsD : List Dat → Option (List (Key × Dat))
  | [] => some []
  | .tup [k, v] :: r => match keyD k, pairsD r with
    | some k, some kvs => some ((k, v) :: kvs)
    | _, _ => none
  | _ => none
def mergeD (kvs more : List (Key × Dat)) : List (Key × Dat) := more.foldl (fun acc kv => putD acc kv.1 kv.2) kvs
def un1 : B1 → Dat → Mem → Option (Dat × Mem)
  | .neg, .int i, M => some (.int (-i), M)
  | .notB, .bl k, M => some (.bl (!k), M)
  | .len, d, M => (lenD M d).map fun (n : Nat) => (.int n, M)
  | .abs, .int i, M => some (.int (if i < 0 then -i else i), M)
  | .int, .int i, M => some (.int i, M)
  | .int, .bl k, M => some (.int (if k then 1 else 0), M)
  | .list, d, M => (sq M d).map fun ds => (.lst ds, M)
  | .listC, d, M => (sq M d).map fun ds => (.ptr M.length, M ++ [.lst ds])
  | .tuple, d, M => (sq M d).map fun ds => (.tup ds, M)
  | .sum, d, M => (rd M d).bind fun ds => (intsD ds).map fun ns => (.int ns.sum, M)
  | .all, d, M => (rd M d).bind fun ds => (boolsD ds).map fun ns => (.bl (ns.all id), M)
  | .any, d, M => (rd M d).bind fun ds => (boolsD ds).map fun ns => (.bl (ns.any id), M)
  | .isN, d, M => match d with
    | .oth _ => none
    | d => some (.bl d.isN, M)
  | .notN, d, M => match d with
    | .oth _ => none
    | d => some (.bl (!d.isN), M)
  | .srt, d, M => (sq M d).bind fun ds => (srtD ds).map fun es => (.lst es, M)
  | .srtC, d, M => (sq M d).bind fun ds => (srtD ds).map fun es => (.ptr M.length, M ++ [.lst es])
  | .pop, d, M => popD d M
  | .isi ts, d, M => (isiD M ts d).map fun k => (.bl k, M)
  | .listR, .int n, M => if isR62' n && decide (n.toNat ≤ sizeLine) then some (.lst (rngD n), M) else none
  | .listRC, .int n, M => if isR62' n && decide (n.toNat ≤ sizeLine) then some (.ptr M.length, M ++ [.lst (rngD n)]) else none
  | .rev, d, M => (rd M d).map fun ds => (.lst ds.reverse, M)
  | .srtSet, .tup ds, M => (intsD ds).bind fun ns => if ns.length < 64 then some (.lst ((srtSetI ns).map .int), M) else none
  | .dictP, d, M => (rd M d).bind fun ds => (pairsD ds).map fun kvs => (.ptr M.length, M ++ [.dK (mergeD [] kvs)])
  | _, _, _ => none
/-! ### two-place operations -/
inductive B2 where
  | op (o : Operator) | cmp (o : CmpOp) | eqv | neqv | inn | ninn | catL | catC | catT | repL | repC | repT | ix | max | min | dget | din | dnin | addX | ltX
def repOk (n : Nat) (k : Int) : Bool := decide (-(2 ^ 63) ≤ k) && decide (k < 2 ^ 63) && decide (n * k.toNat ≤ sizeLine)
def bin2 : B2 → Dat → Dat → Mem → Option (Dat × Mem)
  | .op o, d, e, M => (binD o d e).map fun x => (x, M)
  | .cmp o, d, e, M => (cmpD o d e).map fun k => (.bl k, M)
  | .eqv, d, e, M => (eqvD M d e).map fun k => (.bl k, M)
  | .neqv, d, e, M => (eqvD M d e).map fun k => (.bl (!k), M)
  | .inn, d, e, M => (inD M d e).map fun k => (.bl k, M)
  | .ninn, d, e, M => (inD M d e).map fun k => (.bl (!k), M)
  | .catL, d, e, M => (rdL M d).bind fun xs => (rdL M e).bind fun ys => if xs.length + ys.length ≤ sizeLine then some (.lst (xs ++ ys), M) else none
  | .catC, d, e, M => (rdL M d).bind fun xs => (rdL M e).bind fun ys => if xs.length + ys.length ≤ sizeLine then some (.ptr M.length, M ++ [.lst (xs ++ ys)]) else none
  | .catT, .tup xs, .tup ys, M => if xs.length + ys.length ≤ sizeLine then some (.tup (xs ++ ys), M) else none
  | .repL, d, .int k, M => (rdL M d).bind fun xs => if repOk xs.length k then some (.lst (List.replicate k.toNat xs).flatten, M) else none
  | .repC, d, .int k, M => (rdL M d).bind fun xs => if repOk xs.length k then some (.ptr M.length, M ++ [.lst (List.replicate k.toNat xs).flatten]) else none
  | .ix, d, e, M => (itemD M d e).map fun x => (x, M)
  | .repT, .tup xs, .int k, M => if xs ≠ [] ∧ 2 ≤ k ∧ k ≤ 1000 ∧ xs.length ≤ 1000 then some (.tup (List.replicate k.toNat xs).flatten, M) else none
  | .ltX, .int i, .int j, M => some (.bl (decide (i < j)), M)
  | .ltX, .tup xs, .tup ys, M => (intsD xs).bind fun ns => (intsD ys).map fun ms => (.bl (HT.lexLt ns ms), M)
  | .addX, d, e, M => match d, e with
    | .int i, .int j => some (.int (i + j), M)
    | .tup xs, .tup ys => if xs.length + ys.length ≤ sizeLine then some (.tup (xs ++ ys), M) else none
    | d, e => (rdL M d).bind fun xs => (rdL M e).bind fun ys => if xs.length + ys.length ≤ sizeLine then some (.lst (xs ++ ys), M) else none
  | .dget, d, e, M => (dclD M d).bind fun kvs => (keyD e).bind fun k => (valD kvs k).map fun v => (v, M)
  | .din, e, d, M => (dclD M d).bind fun kvs => (keyD e).map fun k => (.bl (valD kvs k).isSome, M)
  | .dnin, e, d, M => (dclD M d).bind fun kvs => (keyD e).map fun k => (.bl (!(valD kvs k).isSome), M)
  | .max, .int i, .int j, M => some (.int (if j > i then j else i), M)
  | .min, .int i, .int j, M => some (.int (if j < i then j else i), M)
  | _, _, _, _ => none
/-- methods with one argument: the receiver is a list of ours -/
inductive M1 where
  | append | extend | popAt
def mth1 : M1 → Dat → Dat → Mem → Option (Dat × Mem)
  | .append, d, e, M => (appD d e M).map fun M => (.non, M)
  | .extend, d, e, M => (extD d e M).map fun M => (.non, M)
  | .popAt, d, e, M => popAtD d e M
inductive Cw where
  | fz | cl | hp
def cutX (M : Mem) (d : Dat) (lo hi : Option Int) : Option Dat := match d with
  | .tup ds => some (.tup (cutD ds lo hi))
  | .str z => if z.length ≤ sizeLine then some (.str (cutS z lo hi)) else none
  | d => (rd M d).map fun ds => .lst (cutD ds lo hi)

/-! ### expressions -/
mutual
inductive Ex where
  | var (i : Nat)
  | dat (d : Dat)
  | un (f : B1) (e : Ex)
  | bin (f : B2) (a c : Ex)
  | mth (f : M1) (a c : Ex)
  | chain (o o' : CmpOp) (a c e : Ex)
  | chain3 (o o' o'' : CmpOp) (a c e f : Ex)
  | and (a c : Ex)
  | or (a c : Ex)
  | orL (a c : Ex)
  | ite (c a e : Ex)
  | tup (es : Exs)
  | lst (es : Exs)
  | lstC (es : Exs)
  | sl (a : Ex) (lo hi : Exo)
  | slC (a : Ex) (lo hi : Exo)
  | lc (c : Bool) (t : Tgt) (vs : List Nat) (it : Ir) (cond : Ex) (e : Ex)
  | lcx (c : Bool) (t : Tgt) (vs : List Nat) (it : Ir) (cond : Ex) (e : Ex)
  | dgt (o k e : Ex)
  | dict1 (k v : Ex)
  | dc (t : Tgt) (vs : List Nat) (it : Ir) (cond k v : Ex)
  | callV (w : Cw) (tb : List (Str × Nat × Nat)) (i : Nat) (es : Exs)
  | call (w : Cw) (j : Nat) (es : Exs)
inductive Exs where
  | nil
  | cons (e : Ex) (es : Exs)
inductive Exo where
  | none
  | some (e : Ex)
inductive Ir where
  | lst (e : Ex)
  | tup (e : Ex)
  | any (e : Ex)
  | rng1 (e : Ex)
  | rng2 (e e' : Ex)
  | zip (e e' : Ex)
  | enum (e : Ex)
  | rev (e : Ex)
end
abbrev CallF := Nat → List Dat → Mem → Rs Dat
def ofO {α : Type} : Option (α × Mem) → Rs α
  | some (a, M) => .ok a M
  | none => .no
def asB (r : Rs Dat) : Rs Bool := r.bind fun d M => match d with
  | .bl k => .ok k M
  | _ => .no
def putT : Tgt → Dat → Gam → Option Gam
  | .one i, d, Γ => some (Γ.set i (some d))
  | .tup is, .tup ds, Γ => if ds.length = is.length then some (putAll is ds Γ) else none
  | .tup _, _, _ => none
/-- what must still stand while a thing is walked -/
abbrev Gd := List (Dat × List Dat)
mutual
def Dat.same : Dat → Dat → Bool
  | .non, .non => true
  | .bl a, .bl b => a == b
  | .int a, .int b => decide (a = b)
  | .str a, .str b => decide (a = b)
  | .tup a, .tup b => Dat.sames a b
  | .lst a, .lst b => Dat.sames a b
  | .rol a, .rol b => Dat.sames a b
  | .ptr a, .ptr b => decide (a = b)
  | .fn a, .fn b => decide (a = b)
  | _, _ => false
def Dat.sames : List Dat → List Dat → Bool
  | [], [] => true
  | x :: xs, y :: ys => Dat.same x y && Dat.sames xs ys
  | _, _ => false
end
def gdOk1 (M : Mem) : Dat × List Dat → Bool
  | (.ptr k, ds) => match M[k]? with
    | some (.lst es) => Dat.sames es ds
    | _ => false
  | _ => true
def gdOk (M : Mem) (g : Gd) : Bool := g.all (gdOk1 M)
/-- the comprehension's turns -/
def lcGo (g : Gd) (f : Dat → Mem → Rs (Option Dat)) : List Dat → List Dat → Mem → Rs (List Dat)
  | [], acc, M => .ok acc M
  | d :: ds, acc, M => match f d M with
    | .ok (some y) M' => if gdOk M' g then lcGo g f ds (acc ++ [y]) M' else .no
    | .ok none M' => if gdOk M' g then lcGo g f ds acc M' else .no
    | _ => .no
/-- .. exceptions go out -/
def lcGoX (g : Gd) (f : Dat → Mem → Rs (Option Dat)) : List Dat → List Dat → Mem → Rs (List Dat)
  | [], acc, M => .ok acc M
  | d :: ds, acc, M => match f d M with
    | .ok (some y) M' => if gdOk M' g then lcGoX g f ds (acc ++ [y]) M' else .no
    | .ok none M' => if gdOk M' g then lcGoX g f ds acc M' else .no
    | .ex x Γ M' => .ex x Γ M'
    | .no => .no
/-- a dict comprehension's turns -/
def dcGo (g : Gd) (f : Dat → Mem → Rs (Option (Key × Dat))) : List Dat → List (Key × Dat) → Mem → Rs (List (Key × Dat))
  | [], acc, M => .ok acc M
  | d :: ds, acc, M => match f d M with
    | .ok (some y) M' => if gdOk M' g then dcGo g f ds (putD acc y.1 y.2) M' else .no
    | .ok none M' => if gdOk M' g then dcGo g f ds acc M' else .no
    | _ => .no
def isR62 (i : Int) : Bool := decide (-(2 ^ 62) ≤ i) && decide (i < 2 ^ 62)
def callW (cf : CallF) : Cw → Nat → List Dat → Mem → Rs Dat
  | .fz, j, ds, M => callN backF (cf j) ds M
  | .cl, j, ds, M => callN backC (cf j) ds M
  | .hp, j, ds, M => cf j ds M
mutual
def evE (cf : CallF) : Ex → Gam → Mem → Rs Dat
  | .var i, Γ, M => match Γ[i]? with
    | some (some d) => .ok d M
    | _ => .no
  | .dat d, _, M => .ok d M
  | .un f e, Γ, M => (evE cf e Γ M).bind fun d M => ofO (un1 f d M)
  | .bin f a c, Γ, M => (evE cf a Γ M).bind fun d M => (evE cf c Γ M).bind fun e M => ofO (bin2 f d e M)
  | .mth f a c, Γ, M => (evE cf a Γ M).bind fun d M => if isCl M d then (evE cf c Γ M).bind fun e M => ofO (mth1 f d e M) else .no
  | .chain o o' a c e, Γ, M => (evE cf a Γ M).bind fun d M => (evE cf c Γ M).bind fun x M => match cmpI o d x with
    | some true => (evE cf e Γ M).bind fun y M => match cmpI o' x y with
      | some k => .ok (.bl k) M
      | none => .no
    | some false => .ok (.bl false) M
    | none => .no
  | .chain3 o o' o'' a c e f, Γ, M => (evE cf a Γ M).bind fun d M => (evE cf c Γ M).bind fun x M => match cmpI o d x with
    | some true => (evE cf e Γ M).bind fun y M => match cmpI o' x y with
      | some true => (evE cf f Γ M).bind fun z M => match cmpI o'' y z with
        | some k => .ok (.bl k) M
        | none => .no
      | some false => .ok (.bl false) M
      | none => .no
    | some false => .ok (.bl false) M
    | none => .no
  | .and a c, Γ, M => (asB (evE cf a Γ M)).bind fun k M => match k with
    | true => evE cf c Γ M
    | false => .ok (.bl false) M
  | .or a c, Γ, M => (asB (evE cf a Γ M)).bind fun k M => match k with
    | true => .ok (.bl true) M
    | false => evE cf c Γ M
  | .orL a c, Γ, M => (evE cf a Γ M).bind fun d M => match rd M d with
    | some [] => evE cf c Γ M
    | some (_ :: _) => .ok d M
    | none => .no
  | .ite c a e, Γ, M => (asB (evE cf c Γ M)).bind fun k M => match k with
    | true => evE cf a Γ M
    | false => evE cf e Γ M
  | .tup es, Γ, M => (evA cf es Γ M).bind fun ds M => if ds.length ≤ sizeLine then .ok (.tup ds) M else .no
  | .lst es, Γ, M => (evA cf es Γ M).bind fun ds M => if ds.length ≤ sizeLine then .ok (.lst ds) M else .no
  | .lstC es, Γ, M => (evA cf es Γ M).bind fun ds M => if ds.length ≤ sizeLine then .ok (.ptr M.length) (M ++ [.lst ds]) else .no
  | .sl a lo hi, Γ, M => (evE cf a Γ M).bind fun d M => (evO cf lo Γ M).bind fun l M => (evO cf hi Γ M).bind fun u M => match cutX M d l u with
    | some x => .ok x M
    | none => .no
  | .slC a lo hi, Γ, M => (evE cf a Γ M).bind fun d M => (evO cf lo Γ M).bind fun l M => (evO cf hi Γ M).bind fun u M => match rd M d with
    | some ds => .ok (.ptr M.length) (M ++ [.lst (cutD ds l u)])
    | none => .no
  | .lc c t vs it cond e, Γ, M => (evI cf it Γ M).bind fun (ds, g) M =>
    if ds.length ≤ sizeLine ∧ gdOk M g = true then
      (lcGo g (fun d M => match putT t d (wipeG Γ vs) with
        | some Γ2 => (asB (evE cf cond Γ2 M)).bind fun k M => match k with
          | true => (evE cf e Γ2 M).bind fun y M => .ok (some y) M
          | false => .ok none M
        | none => .no) ds [] M).bind fun acc M => if c then .ok (.ptr M.length) (M ++ [.lst acc]) else .ok (.lst acc) M
    else .no
  | .lcx c t vs it cond e, Γ, M => (evI cf it Γ M).bind fun (ds, g) M =>
    if ds.length ≤ sizeLine ∧ gdOk M g = true then
      ((lcGoX g (fun d M => match putT t d (wipeG Γ vs) with
        | some Γ2 => (asB (evE cf cond Γ2 M)).bind fun k M => match k with
          | true => (evE cf e Γ2 M).bind fun y M => .ok (some y) M
          | false => .ok none M
        | none => .no) ds [] M).at Γ).bind fun acc M => if c then .ok (.ptr M.length) (M ++ [.lst acc]) else .ok (.lst acc) M
    else .no
  | .dgt o k e, Γ, M => (evE cf o Γ M).bind fun d M => match dclD M d with
    | none => .no
    | some _ => (evE cf k Γ M).bind fun x M => (evE cf e Γ M).bind fun y M => match dclD M d, keyD x with
      | some kvs, some kx => .ok ((valD kvs kx).getD y) M
      | _, _ => .no
  | .dict1 k v, Γ, M => (evE cf k Γ (M ++ [.dK []])).bind fun x M1 => (evE cf v Γ M1).bind fun y M2 => match M2[M.length]?, keyD x with
    | some (.dK []), some kx => .ok (.ptr M.length) (M2.set M.length (.dK [(kx, y)]))
    | _, _ => .no
  | .dc t vs it cond k v, Γ, M => (evI cf it Γ M).bind fun (ds, g) M =>
    if ds.length ≤ sizeLine ∧ gdOk M g = true then
      (dcGo g (fun d M => match putT t d (wipeG Γ vs) with
        | some Γ2 => (asB (evE cf cond Γ2 M)).bind fun c M => match c with
          | true => (evE cf k Γ2 M).bind fun x M => (evE cf v Γ2 M).bind fun y M => match keyD x with
            | some kx => .ok (some (kx, y)) M
            | none => .no
          | false => .ok none M
        | none => .no) ds [] M).bind fun acc M => .ok (.ptr M.length) (M ++ [.dK acc])
    else .no
  | .call w j es, Γ, M => (evA cf es Γ M).bind fun ds M => (callW cf w j ds M).at Γ
  | .callV w tb i es, Γ, M => match Γ[i]? with
    | some (some (.fn y)) => match tb.lookup y with
      | some (j, n) => (evA cf es Γ M).bind fun ds M => if ds.length = n then (callW cf w j ds M).at Γ else .no
      | none => .no
    | _ => .no
def evA (cf : CallF) : Exs → Gam → Mem → Rs (List Dat)
  | .nil, _, M => .ok [] M
  | .cons e es, Γ, M => (evE cf e Γ M).bind fun d M => (evA cf es Γ M).bind fun ds M => .ok (d :: ds) M
def evO (cf : CallF) : Exo → Gam → Mem → Rs (Option Int)
  | .none, _, M => .ok none M
  | .some e, Γ, M => (evE cf e Γ M).bind fun d M => match d with
    | .int i => .ok (some i) M
    | _ => .no
def evI (cf : CallF) : Ir → Gam → Mem → Rs (List Dat × Gd)
  | .lst e, Γ, M => (evE cf e Γ M).bind fun d M => match rd M d with
    | some ds => .ok (ds, [(d, ds)]) M
    | none => .no
  | .tup e, Γ, M => (evE cf e Γ M).bind fun d M => match d with
    | .tup ds => .ok (ds, []) M
    | _ => .no
  | .any e, Γ, M => (evE cf e Γ M).bind fun d M => match d with
    | .tup ds => .ok (ds, []) M
    | d => match rd M d with
      | some ds => .ok (ds, [(d, ds)]) M
      | none => .no
  | .rng1 e, Γ, M => (evE cf e Γ M).bind fun d M => match d with
    | .int n => if isR62 n then .ok ((List.range n.toNat).map fun i => .int (i : Nat), []) M else .no
    | _ => .no
  | .rng2 e e', Γ, M => (evE cf e Γ M).bind fun d M => (evE cf e' Γ M).bind fun d' M => match d, d' with
    | .int i, .int j => if isR62 i && isR62 j then .ok ((List.range (j - i).toNat).map fun k => .int (i + (k : Nat)), []) M else .no
    | _, _ => .no
  | .zip e e', Γ, M => (evE cf e Γ M).bind fun d M => (evE cf e' Γ M).bind fun d' M => match d, d' with
    | .tup ds, .tup es => .ok (List.zipWith pairD ds es, []) M
    | d, d' => match rd M d, rd M d' with
      | some ds, some es => .ok (List.zipWith pairD ds es, [(d, ds), (d', es)]) M
      | _, _ => .no
  | .enum e, Γ, M => (evE cf e Γ M).bind fun d M => match d with
    | .tup ds => .ok (enumD ds, []) M
    | d => match rd M d with
      | some ds => .ok (enumD ds, [(d, ds)]) M
      | none => .no
  | .rev e, Γ, M => (evE cf e Γ M).bind fun d M => match d with
    | .tup ds => .ok (ds.reverse, []) M
    | d => match rd M d with
      | some ds => .ok (ds.reverse, [(d, ds)]) M
      | none => .no
end

/-! ### statements -/
mutual
inductive Tg where
  | name (i : Nat)
  | tup (ts : Tgs)
  | sub (o i : Ex)
inductive Tgs where
  | nil
  | cons (t : Tg) (ts : Tgs)
end
def Tgs.len : Tgs → Nat
  | .nil => 0
  | .cons _ ts => ts.len + 1
mutual
def evG (cf : CallF) : Tg → Dat → Gam → Mem → Rs Gam
  | .name i, d, Γ, M => .ok (Γ.set i (some d)) M
  | .tup ts, d, Γ, M => match d with
    | .tup ds => if ds.length = ts.len then evGs cf ts ds Γ M else .no
    | _ => .no
  | .sub o i, d, Γ, M => (evE cf o Γ M).bind fun x M => (evE cf i Γ M).bind fun y M => match x, y with
    | .ptr k, .int n => match M[k]? with
      | some (.lst ds) => match ixN ds.length n with
        | some j => .ok Γ (M.set k (.lst (ds.set j d)))
        | none => .no
      | _ => .no
    | _, _ => .no
def evGs (cf : CallF) : Tgs → List Dat → Gam → Mem → Rs Gam
  | .nil, [], Γ, M => .ok Γ M
  | .cons t ts, d :: ds, Γ, M => (evG cf t d Γ M).bind fun Γ M => evGs cf ts ds Γ M
  | _, _, _, _ => .no
end
/-- except c as slot i: slot k = [x, isinstance(slot i, ValueError)] -/
structure Hd where
  c : Str
  i : Nat
  k : Nat
  x : Str
def handR (cs : List Str) (hs : List Hd) (x : Exn) (Γ : Gam) (M : Mem) : Option Gam × Bool := match x.2 with
  | some _ => (none, false)
  | none => if cs.any (fun c => decide (c = x.1)) then match hs.find? (fun h => decide (h.c = x.1)) with
      | some h => if h.i < Γ.length then (some ((Γ.set h.k (some (.lst [.str h.x, .bl true]))).set h.i none), true) else (none, false)
      | none => (none, true)
    else (none, false)
mutual
inductive Sm where
  | expr (e : Ex)
  | set (i : Nat) (e : Ex)
  | par2 (i j : Nat) (e e' : Ex)
  | par3 (i j l : Nat) (e e' e'' : Ex)
  | asg (t : Tg) (e : Ex)
  | aug (i : Nat) (neg : Bool) (e : Ex)
  | iff (c : Ex) (s s' : Sms)
  | whil (c : Ex) (s : Sms)
  | forr (t : Tg) (it : Ir) (s : Sms)
  | ret (e : Ex)
  | retN
  | brk
  | cnt
  | pass
  | stuck
  | raise (c : Str)
  | tryy (cs : List Str) (b : Sms) (hs : List Hd)
  | asg2 (t t' : Tg) (e : Ex)
  | dput (o i e : Ex)
inductive Sms where
  | nil
  | cons (s : Sm) (ss : Sms)
  | frz (i : Nat) (ss : Sms)
end
inductive Fl where
  | nx (Γ : Gam)
  | rt (d : Dat)
  | bk (Γ : Gam)
  | ct (Γ : Gam)
def forGo (g : Gd) (f : Dat → Gam → Mem → Rs Fl) : List Dat → Gam → Mem → Rs Fl
  | [], Γ, M => .ok (.nx Γ) M
  | d :: ds, Γ, M => match f d Γ M with
    | .ok (.nx Γ') M' => if gdOk M' g then forGo g f ds Γ' M' else .no
    | .ok (.ct Γ') M' => if gdOk M' g then forGo g f ds Γ' M' else .no
    | .ok (.bk Γ') M' => .ok (.nx Γ') M'
    | .ok (.rt d) M' => .ok (.rt d) M'
    | .ex x Γ' M' => .ex x Γ' M'
    | .no => .no
def whGo (c : Gam → Mem → Rs Bool) (f : Gam → Mem → Rs Fl) : Nat → Gam → Mem → Rs Fl
  | 0, _, _ => .no
  | n + 1, Γ, M => match c Γ M with
    | .ok true M' => match f Γ M' with
      | .ok (.nx Γ2) M2 => whGo c f n Γ2 M2
      | .ok (.ct Γ2) M2 => whGo c f n Γ2 M2
      | .ok (.bk Γ2) M2 => .ok (.nx Γ2) M2
      | .ok (.rt d) M2 => .ok (.rt d) M2
      | .ex x Γ2 M2 => .ex x Γ2 M2
      | .no => .no
    | .ok false M' => .ok (.nx Γ) M'
    | .ex x Γ' M' => .ex x Γ' M'
    | .no => .no
mutual
def evS (wf : Nat) (cf : CallF) : Sm → Gam → Mem → Rs Fl
  | .expr e, Γ, M => (evE cf e Γ M).bind fun _ M => .ok (.nx Γ) M
  | .set i e, Γ, M => (evE cf e Γ M).bind fun d M => .ok (.nx (Γ.set i (some d))) M
  | .par2 i j e e', Γ, M => (evE cf e Γ M).bind fun d M => (evE cf e' Γ M).bind fun d' M => .ok (.nx ((Γ.set i (some d)).set j (some d'))) M
  | .par3 i j l e e' e'', Γ, M => (evE cf e Γ M).bind fun d M => (evE cf e' Γ M).bind fun d' M => (evE cf e'' Γ M).bind fun d'' M => .ok (.nx (((Γ.set i (some d)).set j (some d')).set l (some d''))) M
  | .asg t e, Γ, M => (evE cf e Γ M).bind fun d M => (evG cf t d Γ M).bind fun Γ M => .ok (.nx Γ) M
  | .aug i neg e, Γ, M => match Γ[i]? with
    | some (some (.int n)) => (evE cf e Γ M).bind fun d M => match d with
      | .int j => .ok (.nx (Γ.set i (some (.int (if neg then n - j else n + j))))) M
      | _ => .no
    | _ => .no
  | .iff c s s', Γ, M => (asB (evE cf c Γ M)).bind fun k M => match k with
    | true => evSs wf cf s Γ M
    | false => evSs wf cf s' Γ M
  | .whil c s, Γ, M => whGo (fun Γ M => asB (evE cf c Γ M)) (evSs wf cf s) wf Γ M
  | .forr t it s, Γ, M => (evI cf it Γ M).bind fun (ds, g) M => if gdOk M g then forGo g (fun d Γ M => (evG cf t d Γ M).bind fun Γ M => evSs wf cf s Γ M) ds Γ M else .no
  | .ret e, Γ, M => (evE cf e Γ M).bind fun d M => .ok (.rt d) M
  | .retN, _, M => .ok (.rt .non) M
  | .brk, Γ, M => .ok (.bk Γ) M
  | .cnt, Γ, M => .ok (.ct Γ) M
  | .pass, Γ, M => .ok (.nx Γ) M
  | .stuck, _, _ => .no
  | .raise c, Γ, M => .ex (c, none) Γ M
  | .tryy cs b hs, Γ, M => match evSs wf cf b Γ M with
    | .ex x Γ' M' => (match handR cs hs x Γ' M' with
      | (some Γ2, _) => .ok (.nx Γ2) M'
      | (none, true) => .ex x Γ' M'
      | (none, false) => .no)
    | .ok r M' => .ok r M'
    | .no => .no
  | .dput o i e, Γ, M => (evE cf e Γ M).bind fun v M => (evE cf o Γ M).bind fun d M => (evE cf i Γ M).bind fun x M => match d, keyD x with
    | .ptr k, some kx => (match M[k]? with
      | some (.dK kvs) => if kvs.length < sizeLine then .ok (.nx Γ) (M.set k (.dK (putD kvs kx v))) else .no
      | _ => .no)
    | _, _ => .no
  | .asg2 t t' e, Γ, M => (evE cf e Γ M).bind fun d M => (evG cf t d Γ M).bind fun Γ M => (evG cf t' d Γ M).bind fun Γ M => .ok (.nx Γ) M
def evSs (wf : Nat) (cf : CallF) : Sms → Gam → Mem → Rs Fl
  | .nil, Γ, M => .ok (.nx Γ) M
  | .cons s ss, Γ, M => (evS wf cf s Γ M).bind fun f M => match f with
    | .nx Γ => evSs wf cf ss Γ M
    | f => .ok f M
  | .frz i ss, Γ, M => match Γ[i]? with
    | some (some (.ptr k)) => match M[k]? with
      | some (.lst ds) => evSs wf cf ss (frzG k ds Γ) (M.set k .dead)
      | _ => .no
    | _ => .no
end
/-- a def: how many slots, parameters; its body -/
structure Df where
  slots : Nat
  pars : Nat
  body : Sms
def callD (wf : Nat) (cf : CallF) (f : Df) (ds : List Dat) (M : Mem) : Rs Dat :=
  (evSs wf cf f.body (ds.map some ++ List.replicate (f.slots - ds.length) none) M).bind fun r M => match r with
    | .nx _ => .ok .non M
    | .rt d => .ok d M
    | _ => .no
def runF (wf : Nat) (T : List Df) : Nat → CallF
  | 0, _, _, _ => .no
  | k + 1, j, ds, M => match T[j]? with
    | some f => if ds.length = f.pars then callD wf (runF wf T k) f ds M else .no
    | none => .no
end Ab
end

section
set_option Elab.async false
set_option linter.all false
set_option maxRecDepth 100000
set_option maxHeartbeats 4000000
/-! Ab14: calls by any reading of the arguments; keywords. -/
namespace Ab
open PySem PySem.Spec PyProof.Rows L2
section
variable {X : Cx} {b : Bas} {Γ : Gam} {M : Mem} {R : Dat → Mem → Prop} {W : WX} {EW : Exn → Gam → Mem → Prop} {n : Nat} {F : List Dat → Mem → Rs Dat} {ce : Expr} {t : TA}
theorem ev_callN {bk : Mem → Dat → Mem → Rs Dat} (hbk : ∀ {K : PySem.W.Frag} {b : Bas} {σ : L2.St} {S : Hp} {A : List Addr} {H : Hp} {Γ : Gam} {M : Mem} {M1 : Mem} {S' : Hp} {A' : List Addr} {H' : Hp} {d : Dat} {v : V} {R : Dat → Mem → Prop} {E : Exn → Gam → Mem → Prop} {Q : VK}, Stt K b σ S A H Γ M → Step S [] H S' A' H' → Lent K S' A' H' M1 → Rep K S' A' d v → Post K b σ S A H Γ R Q → Good (bk M d M1) R E → Q v H')
    (hW : ExcW X.K b W EW) (h : EA X.K b t Γ M fun ds M1 => ds.length = n ∧ Good (callN bk F ds M1) R (fun x _ M => EW x Γ M)) : EV X.K b (tCallS (SpD X.K n F) (WE W) t) Γ M R :=
  fun σ S A H Q st pq => h σ S A H _ st fun vs ds M1 S1 A1 H1 s1 st1 r1 ⟨hl, g⟩ => by
    unfold callN at g
    by_cases hn : Dat.nps ds = true
    · rw [if_pos hn] at g
      refine ⟨S1, [], ds, [], lent_nil st1.sub, r1.free hn, hl, ?_⟩
      cases eF : F ds [] with
      | ok d M2 =>
        rw [eF] at g
        intro v S' A' H' s l r
        exact hbk st1 s l r (pq.after s1) g
      | ex x G2 M2 =>
        rw [eF] at g
        intro cls dd S' A' H' s l hx
        exact good_exB hW st1 s l hx g
      | no =>
        rw [eF] at g
        exact g.elim
    · rw [if_neg hn] at g
      exact g.elim
theorem ev_callH (hW : ExcW X.K b W EW) (h : EA X.K b t Γ M fun ds M1 => ds.length = n ∧ Good (F ds M1) R (fun x _ M => EW x Γ M)) : EV X.K b (tCallS (SpD X.K n F) (WE W) t) Γ M R :=
  fun σ S A H Q st pq => h σ S A H _ st fun vs ds M1 S1 A1 H1 s1 st1 r1 ⟨hl, g⟩ => by
    refine ⟨S1, A1, ds, M1, st1.lent, r1, hl, ?_⟩
    exact g.imp (fun d M' q v S' A' H' s l r => (pq.after s1) v d M' S' A' H' s (after_all st1 s l) r q) (fun xn _ M' q cls dd S' A' H' s l hx => hW xn cls dd σ S' A' H' Γ M' (after_all st1 s l) hx q)
theorem ev_call {cf : CallF} {w : Cw} {j : Nat} (hW : ExcW X.K b W EW) (h : EA X.K b t Γ M fun ds M1 => ds.length = n ∧ Good ((callW cf w j ds M1).at Γ) R EW) : EV X.K b (tCallS (SpD X.K n (cf j)) (WE W) t) Γ M R := by
  cases w with
  | fz => exact ev_callN good_backF hW fun σ S A H Q st p => h σ S A H Q st fun vs ds M' S' A' H' s1 t1 r q => p vs ds M' S' A' H' s1 t1 r ⟨q.1, q.2.of_at⟩
  | cl => exact ev_callN good_backC hW fun σ S A H Q st p => h σ S A H Q st fun vs ds M' S' A' H' s1 t1 r q => p vs ds M' S' A' H' s1 t1 r ⟨q.1, q.2.of_at⟩
  | hp => exact ev_callH hW fun σ S A H Q st p => h σ S A H Q st fun vs ds M' S' A' H' s1 t1 r q => p vs ds M' S' A' H' s1 t1 r ⟨q.1, q.2.of_at⟩
theorem callP {cf : CallF} {w : Cw} {j : Nat} (hp : PE X ce (tCallS (SpD X.K n (cf j)) (WE W) t)) (hW : ExcW X.K b W EW) (h : EA X.K b t Γ M fun ds M1 => ds.length = n ∧ Good ((callW cf w j ds M1).at Γ) R EW) : AE X b ce Γ M R :=
  AE.of hp (ev_call hW h)
end

/-! ### keywords -/
def tWK (X : Cx) (kws : List Keyword) : TA := fun σ H Q => ∀ pos pins s, Inv X pins σ H s → wpAny (model X.prog X.w) X.A (evalAll ((backToKw pos (keywordEach kws X.env)).map (·.2))) (AP X pins σ Q) X.xe s
theorem pk_tW {X : Cx} {kws : List Keyword} : PK X kws (tWK X kws) := ⟨fun pos pins s _ _ _ I h => h pos pins s I⟩
def AK (X : Cx) (b : Bas) (kws : List Keyword) (Γ : Gam) (M : Mem) (R : List Dat → Mem → Prop) : Prop := EA X.K b (tWK X kws) Γ M R
/-- binding by keywords in the parameters' order -/
def KwB (K : PySem.W.Frag) (fd : FuncData) (ps ks : List Str) : Prop :=
  ∀ (s : Shared) (us ws : List Value), K.In s.heap → us.length + ws.length = ps.length → ws.length = ks.length → BindsTo s fd ⟨us, ks.zip ws⟩ (ps.zip (us ++ ws))
theorem KwB.all {K : PySem.W.Frag} {fd : FuncData} {ps ks : List Str} (h : ∀ us ws : List Value, us.length + ws.length = ps.length → ws.length = ks.length → bindArgs fd ⟨us, ks.zip ws⟩ = pure (ps.zip (us ++ ws))) : KwB K fd ps ks := fun s us ws _ hl hk => .of_eq (h us ws hl hk)
section
variable {X : Cx} {b : Bas} {Γ : Gam} {M : Mem} {k n : Nat} {f : Addr} {fd : FuncData} {ps ks : List Str} {sp : Sp} {x : Str} {p pos kpos : Pos} {e : Expr} {es : List Expr} {kws : List Keyword} {E : L2.St → XK} {t tk : TA} {nm : Option Str}
theorem K_nil {R : List Dat → Mem → Prop} (h : R [] M) : AK X b [] Γ M R := fun σ S A H Q st p pos pins s I => pk_nil.run pos pins s σ H Q I (p [] [] M S A H (Step.refl _ _ _) st .nil h)
theorem K_cons {R : List Dat → Mem → Prop} (h : AE X b e Γ M fun d M1 => AK X b kws Γ M1 fun ds M2 => R (d :: ds) M2) : AK X b (⟨nm, e, kpos⟩ :: kws) Γ M R := fun σ S A H Q st p pos pins s I =>
  (pk_cons pe_tW pk_tW).run pos pins s σ H Q I (h σ S A H _ st fun v d M1 S1 A1 H1 s1 st1 r1 q => q σ S1 A1 H1 _ st1 fun vs ds M2 S2 A2 H2 s2 st2 r2 q2 => p (v :: vs) (d :: ds) M2 S2 A2 H2 (s1.trans s2) st2 (.cons (r1.mono s2.s s2.a) r2) q2)
theorem run_kw {pins : List (Addr × Obj)} {σ : L2.St} {H : Hp} {s : Shared} {Q : VK} {us ws : List Value} {vs zs : List V} (F : FnOk X.prog X.w X.K X.mg X.base (L2.CX X.prog X.w) k f fd ps sp) (hr : Room k X.A) (hb : KwB X.K fd ps ks) (hx : PassesAt (L2.CX X.prog X.w) X σ (E σ))
    (I : Inv X pins σ H s) (r : Vals vs us) (rz : Vals zs ws) (hk : zs.length = ks.length) (h : sp (vs ++ zs) H Q (E σ)) : wpAny (model X.prog X.w) X.A (call (.ref f) us (ks.zip ws)) (EP X pins σ Q) X.xe s := by
  have hl : us.length + ws.length = ps.length := by
    rw [← r.length, ← rz.length, ← List.length_append]
    exact F.len _ _ _ _ h
  refine wpAny_call (codeAny_mono (F.run X.A X.stack s H ⟨us, ks.zip ws⟩ (us ++ ws) (vs ++ zs) Q (E σ) hr I.env0 (hb s us ws I.kIn hl (by rw [← rz.length]; exact hk)) (r.append rz) h) fun r s' hq => ?_)
  cases r with
  | error e => exact hx pins H s e s' I hq
  | ok fl =>
    cases fl with
    | ret u => exact I.after hq
    | next => exact False.elim hq
    | brk => exact False.elim hq
    | cont => exact False.elim hq
/-- f(k = v, ..) -/
theorem pe_kw0 (F : FnOk X.prog X.w X.K X.mg X.base (L2.CX X.prog X.w) k f fd ps sp) (hr : Room k X.A) (hg : Gl X x) (hm : X.mg x = some (.ref f)) (hk : PySem.W.keepIn X.K (.ref f) = true) (hb : KwB X.K fd ps ks) (hx : ∀ σ, PassesAt (L2.CX X.prog X.w) X σ (E σ)) (hkw : PK X kws tk)
    (hl : ks.length = ps.length) (hall : (backToKw pos (keywordEach kws X.env)).all (·.1.isSome) = true := by rfl) (hks : (backToKw pos (keywordEach kws X.env)).filterMap (·.1) = ks := by rfl)
    (hdb : (x == ("__debug__" : Str)) = false := by decide) (hpl : ((backTo pos (starEach [] X.env)).any (·.1) || (backToKw pos (keywordEach kws X.env)).any (·.1.isNone)) = false := by rfl) :
    PE X (.Call (.Name x p) [] kws pos) (tCallS sp E tk) := by
  refine ⟨fun pins s σ H Q I h => ?_⟩
  refine wpAny_Call_Name_kw (ld_glob I hg hm ?_ hdb)
  refine PySem.W.callWith_KW0 (h₀ := X.base) I.ok.mod.kin hk hall (thn (hkw.run pos pins s σ H _ I h) fun ws s2 ⟨zs, H2, I2, rz, q2⟩ => ⟨I2.kIn, ?_⟩) hpl
  rw [hks]
  exact run_kw (us := []) (vs := []) F hr hb (hx σ) I2 .nil rz ((F.len _ _ _ _ q2).trans hl.symm) q2
end
end Ab
end

section
set_option Elab.async false
set_option linter.all false
set_option maxRecDepth 100000
set_option maxHeartbeats 4000000
/-! Ab15: the small language stands for the program's expressions. -/
namespace Ab
open PySem PySem.Spec PyProof.Rows L2

structure SE (X : Cx) (cf : CallF) (e : Expr) (ir : Ex) : Prop where
  mk ::
  go : ∀ b Γ M R EW, XW X b EW → Good (evE cf ir Γ M) R EW → AE X b e Γ M R
instance (X : Cx) (cf : CallF) (e : Expr) (ir : Ex) : CoeFun (SE X cf e ir) (fun _ => ∀ b Γ M R EW, XW X b EW → Good (evE cf ir Γ M) R EW → AE X b e Γ M R) := ⟨SE.go⟩
structure SA (X : Cx) (cf : CallF) (es : List Expr) (ir : Exs) : Prop where
  mk ::
  go : ∀ b Γ M R EW, XW X b EW → Good (evA cf ir Γ M) R EW → AA X b es Γ M R
instance (X : Cx) (cf : CallF) (es : List Expr) (ir : Exs) : CoeFun (SA X cf es ir) (fun _ => ∀ b Γ M R EW, XW X b EW → Good (evA cf ir Γ M) R EW → AA X b es Γ M R) := ⟨SA.go⟩
structure SK (X : Cx) (cf : CallF) (kws : List Keyword) (ir : Exs) : Prop where
  mk ::
  go : ∀ b Γ M R EW, XW X b EW → Good (evA cf ir Γ M) R EW → AK X b kws Γ M R
instance (X : Cx) (cf : CallF) (kws : List Keyword) (ir : Exs) : CoeFun (SK X cf kws ir) (fun _ => ∀ b Γ M R EW, XW X b EW → Good (evA cf ir Γ M) R EW → AK X b kws Γ M R) := ⟨SK.go⟩
structure SO (X : Cx) (cf : CallF) (e : Option Expr) (ir : Exo) : Prop where
  mk ::
  go : ∀ b Γ M R EW, XW X b EW → Good (evO cf ir Γ M) R EW → AO X b e Γ M R
instance (X : Cx) (cf : CallF) (e : Option Expr) (ir : Exo) : CoeFun (SO X cf e ir) (fun _ => ∀ b Γ M R EW, XW X b EW → Good (evO cf ir Γ M) R EW → AO X b e Γ M R) := ⟨SO.go⟩
structure ST (X : Cx) (cf : CallF) (e : Expr) (ir : Ex) : Prop where
  mk ::
  go : ∀ b Γ M R EW, XW X b EW → Good (asB (evE cf ir Γ M)) R EW → AT X b e Γ M R
instance (X : Cx) (cf : CallF) (e : Expr) (ir : Ex) : CoeFun (ST X cf e ir) (fun _ => ∀ b Γ M R EW, XW X b EW → Good (asB (evE cf ir Γ M)) R EW → AT X b e Γ M R) := ⟨ST.go⟩
structure SW (X : Cx) (cf : CallF) (e : Expr) (ir : Ex) : Prop where
  mk ::
  go : ∀ b Γ M R EW, XW X b EW → Good (asB (evE cf ir Γ M)) R EW → AW X b e Γ M R
instance (X : Cx) (cf : CallF) (e : Expr) (ir : Ex) : CoeFun (SW X cf e ir) (fun _ => ∀ b Γ M R EW, XW X b EW → Good (asB (evE cf ir Γ M)) R EW → AW X b e Γ M R) := ⟨SW.go⟩
structure SI (X : Cx) (cf : CallF) (tg iter : Expr) (ir : Ir) : Prop where
  mk ::
  go : ∀ b Γ M R EW, XW X b EW → Good (evI cf ir Γ M) R EW → AI X b tg iter Γ M fun ds Gm M1 => ∃ g, R (ds, g) M1 ∧ ∀ M, gdOk M g = true → Gm M
instance (X : Cx) (cf : CallF) (tg iter : Expr) (ir : Ir) : CoeFun (SI X cf tg iter ir) (fun _ => ∀ b Γ M R EW, XW X b EW → Good (evI cf ir Γ M) R EW → AI X b tg iter Γ M fun ds Gm M1 => ∃ g, R (ds, g) M1 ∧ ∀ M, gdOk M g = true → Gm M) := ⟨SI.go⟩

theorem good_ofO {α : Type} {o : Option (α × Mem)} {R : α → Mem → Prop} {E : Exn → Gam → Mem → Prop} (g : Good (ofO o) R E) : ∃ r, o = some r ∧ R r.1 r.2 := by
  cases o with
  | none => exact g.elim
  | some r => exact ⟨r, rfl, g⟩
theorem good_asB {r : Rs Dat} {R : Bool → Mem → Prop} {E : Exn → Gam → Mem → Prop} (g : Good (asB r) R E) : Good r (fun d M => ∃ k, d = .bl k ∧ R k M) E := by
  refine (Good.bnd g).imp (fun d M q => ?_) fun _ _ _ q => q
  cases d with
  | bl k => exact ⟨k, rfl, q⟩
  | _ => exact False.elim q
theorem good_if {α : Type} {c : Prop} [Decidable c] {r : Rs α} {R : α → Mem → Prop} {E : Exn → Gam → Mem → Prop} (g : Good (if c then r else .no) R E) : c ∧ Good r R E := by
  by_cases h : c
  · rw [if_pos h] at g
    exact ⟨h, g⟩
  · rw [if_neg h] at g
    exact g.elim
mutual
theorem Dat.same_eq : ∀ {x y : Dat}, Dat.same x y = true → x = y
  | .non, y, h => by cases y <;> first | rfl | cases h
  | .bl a, y, h => by
    cases y with
    | bl b => exact congrArg _ (beq_iff_eq.mp (show (a == b) = true from h))
    | _ => cases h
  | .int a, y, h => by
    cases y with
    | int b => exact congrArg _ (of_decide_eq_true (p := a = b) h)
    | _ => cases h
  | .str a, y, h => by
    cases y with
    | str b => exact congrArg _ (of_decide_eq_true (p := a = b) h)
    | _ => cases h
  | .tup a, y, h => by
    cases y with
    | tup b => exact congrArg _ (Dat.sames_eq (x := a) (y := b) h)
    | _ => cases h
  | .lst a, y, h => by
    cases y with
    | lst b => exact congrArg _ (Dat.sames_eq (x := a) (y := b) h)
    | _ => cases h
  | .rol a, y, h => by
    cases y with
    | rol b => exact congrArg _ (Dat.sames_eq (x := a) (y := b) h)
    | _ => cases h
  | .ptr a, y, h => by
    cases y with
    | ptr b => exact congrArg _ (of_decide_eq_true (p := a = b) h)
    | _ => cases h
  | .fn a, y, h => by
    cases y with
    | fn b => exact congrArg _ (of_decide_eq_true (p := a = b) h)
    | _ => cases h
  | .oth a, y, h => by cases y <;> cases h
theorem Dat.sames_eq : ∀ {x y : List Dat}, Dat.sames x y = true → x = y
  | [], [], _ => rfl
  | [], _ :: _, h => by cases h
  | _ :: _, [], h => by cases h
  | x :: xs, y :: ys, h => by
    obtain ⟨h1, h2⟩ := Bool.and_eq_true_iff.mp (show (Dat.same x y && Dat.sames xs ys) = true from h)
    rw [Dat.same_eq h1, Dat.sames_eq h2]
end
theorem gdOk_gm {M : Mem} {d : Dat} {ds : List Dat} (h : gdOk1 M (d, ds) = true) : GmOf d ds M := by
  cases d with
  | ptr k =>
    have h : (match M[k]? with | some (.lst es) => Dat.sames es ds | _ => false) = true := h
    split at h
    · rename_i es e
      rw [Dat.sames_eq h] at e
      exact e
    · cases h
  | _ => exact trivial
theorem gd1 {M : Mem} {d : Dat} {ds : List Dat} (h : gdOk M [(d, ds)] = true) : GmOf d ds M := gdOk_gm (by simpa [gdOk] using h)
theorem gd2 {M : Mem} {d d' : Dat} {ds ds' : List Dat} (h : gdOk M [(d, ds), (d', ds')] = true) : GmOf d ds M ∧ GmOf d' ds' M := by
  have h : gdOk1 M (d, ds) = true ∧ gdOk1 M (d', ds') = true := by simpa [gdOk] using h
  exact ⟨gdOk_gm h.1, gdOk_gm h.2⟩
section
variable {X : Cx} {cf : CallF} {e a c e1 e2 e3 o tg iter : Expr} {es rest : List Expr} {kws : List Keyword} {pos p p2 p3 p4 apos cpos kpos : Pos} {ie ia ic i1 i2 i3 : Ex} {ies : Exs} {nm : Option Str}
/-! names, constants -/
theorem SE.var (i : Nat) {x : Str} (hN : X.N[i]? = some x) (hv : Vis X.env.scope x) (hd : (x == ("__debug__" : Str)) = false := by decide) (hcd : (x == ("__classdict__" : Str)) = false := by decide) : SE X cf (.Name x pos) (.var i) := .mk fun b Γ M R EW hw g => by
  have g : Good (match Γ[i]? with | some (some d) => Rs.ok d M | _ => .no) R EW := g
  split at g
  · rename_i d hΓ
    exact A_var i hN hv hΓ g hd hcd
  · exact g.elim
theorem SE.int {i : Int} {j : Nat} : SE X cf (.Constant (.int i) j pos) (.dat (.int i)) := .mk fun b Γ M R EW hw g => A_int g
theorem SE.bl {i : Bool} {j : Nat} : SE X cf (.Constant (.bool i) j pos) (.dat (.bl i)) := .mk fun b Γ M R EW hw g => A_bl g
theorem SE.non {j : Nat} : SE X cf (.Constant .none j pos) (.dat .non) := .mk fun b Γ M R EW hw g => A_non g
theorem SE.str {x : Str} {j : Nat} : SE X cf (.Constant (.str x) j pos) (.dat (.str x)) := .mk fun b Γ M R EW hw g => A_str g
theorem SE.glob {x : Str} {v : V} {u : Value} {d : Dat} (hg : Gl X x) (hm : X.mg x = some u) (r : RelV v u) (hd : ∀ S A, Rep X.K S A d v) (hdb : (x == ("__debug__" : Str)) = false := by decide) : SE X cf (.Name x pos) (.dat d) := .mk fun b Γ M R EW hw g => A_glob hg hm r hd g hdb
/-! one place -/
theorem SE.un1 (f : B1) (rule : ∀ b Γ M R, AE X b a Γ M (fun d M1 => ∃ r, Ab.un1 f d M1 = some r ∧ R r.1 r.2) → AE X b e Γ M R) (ha : SE X cf a ia) : SE X cf e (.un f ia) := .mk fun b Γ M R EW hw g =>
  rule b Γ M R (ha b Γ M _ EW hw ((Good.bnd g).imp (fun d M q => good_ofO q) fun _ _ _ q => q))
theorem SE.bin2 (f : B2) (rule : ∀ b Γ M R, AE X b a Γ M (fun d M1 => AE X b c Γ M1 fun d2 M2 => ∃ r, Ab.bin2 f d d2 M2 = some r ∧ R r.1 r.2) → AE X b e Γ M R) (ha : SE X cf a ia) (hc : SE X cf c ic) : SE X cf e (.bin f ia ic) := .mk fun b Γ M R EW hw g =>
  rule b Γ M R (ha b Γ M _ EW hw ((Good.bnd g).imp (fun d M q => hc b Γ M _ EW hw ((Good.bnd q).imp (fun d2 M2 q2 => good_ofO q2) fun _ _ _ q => q)) fun _ _ _ q => q))
theorem SE.mth1 (f : M1) (rule : ∀ b Γ M R, AE X b a Γ M (fun d M1 => isCl M1 d = true ∧ AE X b c Γ M1 fun d2 M2 => ∃ r, Ab.mth1 f d d2 M2 = some r ∧ R r.1 r.2) → AE X b e Γ M R) (ha : SE X cf a ia) (hc : SE X cf c ic) : SE X cf e (.mth f ia ic) := .mk fun b Γ M R EW hw g =>
  rule b Γ M R (ha b Γ M _ EW hw ((Good.bnd g).imp (fun d M q => ⟨(good_if q).1, hc b Γ M _ EW hw ((Good.bnd (good_if q).2).imp (fun d2 M2 q2 => good_ofO q2) fun _ _ _ q => q)⟩) fun _ _ _ q => q))
theorem SE.neg (ha : SE X cf a ia) : SE X cf (.UnaryOp .USub a pos) (.un .neg ia) := SE.un1 .neg (fun b Γ M R h => A_neg (h.imp fun d M ⟨r, e, q⟩ => by
  unfold Ab.un1 at e
  cases d with
  | int i => cases e; exact ⟨i, rfl, q⟩
  | _ => cases e)) ha
theorem SE.notB (ha : SE X cf a ia) : SE X cf (.UnaryOp .Not a pos) (.un .notB ia) := SE.un1 .notB (fun b Γ M R h => A_not (h.imp fun d M ⟨r, e, q⟩ => by
  unfold Ab.un1 at e
  cases d with
  | bl i => cases e; exact ⟨i, rfl, q⟩
  | _ => cases e)) ha
theorem lenD_ok {M : Mem} {d : Dat} {n : Nat} (h : lenD M d = some n) : LenD M d n := by
  unfold lenD at h
  split at h
  · split at h
    · cases h; exact .s (by assumption)
    · cases h
  · obtain ⟨ds, e, e2⟩ := Option.map_eq_some_iff.mp h
    subst e2
    cases sq_ok e with
    | l i => exact .l i
    | t => exact .t _
theorem SE.len (hg : Gl X "len") (hm : X.mg "len" = none) (ha : SE X cf a ia) (he : starEach [a] X.env = (false, eval a X.env) :: starEach [] X.env := by rfl) : SE X cf (.Call (.Name "len" p) [a] [] pos) (.un .len ia) := SE.un1 .len (fun b Γ M R h => A_len hg hm (h.imp fun d M ⟨r, e, q⟩ => by
  obtain ⟨n, e1, e2⟩ := Option.map_eq_some_iff.mp e
  subst e2
  exact ⟨n, lenD_ok e1, q⟩) he) ha
theorem SE.abs (hg : Gl X "abs") (hm : X.mg "abs" = none) (ha : SE X cf a ia) (he : starEach [a] X.env = (false, eval a X.env) :: starEach [] X.env := by rfl) : SE X cf (.Call (.Name "abs" p) [a] [] pos) (.un .abs ia) := SE.un1 .abs (fun b Γ M R h => A_abs hg hm (h.imp fun d M ⟨r, e, q⟩ => by
  unfold Ab.un1 at e
  cases d with
  | int i => cases e; exact ⟨i, rfl, q⟩
  | _ => cases e) he) ha
theorem SE.intC (hg : Gl X "int") (hm : X.mg "int" = none) (ha : SE X cf a ia) (he : starEach [a] X.env = (false, eval a X.env) :: starEach [] X.env := by rfl) : SE X cf (.Call (.Name "int" p) [a] [] pos) (.un .int ia) := SE.un1 .int (fun b Γ M R h => A_intC hg hm (h.imp fun d M ⟨r, e, q⟩ => by
  unfold Ab.un1 at e
  cases d with
  | int i => cases e; exact ⟨i, .i _, q⟩
  | bl i => cases e; exact ⟨_, .b _, q⟩
  | _ => cases e) he) ha
theorem map1 {α β : Type} {o : Option α} {f : α → β} {r : β} {P : α → Prop} (h : o.map f = some r) (k : ∀ x, o = some x → f x = r → P x) : ∃ x, o = some x ∧ f x = r ∧ P x := by
  obtain ⟨x, e1, e2⟩ := Option.map_eq_some_iff.mp h
  exact ⟨x, e1, e2, k x e1 e2⟩
theorem SE.list (hg : Gl X "list") (hm : X.mg "list" = none) (ha : SE X cf a ia) (he : starEach [a] X.env = (false, eval a X.env) :: starEach [] X.env := by rfl) : SE X cf (.Call (.Name "list" p) [a] [] pos) (.un .list ia) := SE.un1 .list (fun b Γ M R h => A_list hg hm (h.imp fun d M ⟨r, e, q⟩ => by
  obtain ⟨n, e1, e2⟩ := Option.map_eq_some_iff.mp e
  subst e2
  exact ⟨n, sq_ok e1, q⟩) he) ha
theorem SE.listC (hg : Gl X "list") (hm : X.mg "list" = none) (ha : SE X cf a ia) (he : starEach [a] X.env = (false, eval a X.env) :: starEach [] X.env := by rfl) : SE X cf (.Call (.Name "list" p) [a] [] pos) (.un .listC ia) := SE.un1 .listC (fun b Γ M R h => A_listC hg hm (h.imp fun d M ⟨r, e, q⟩ => by
  obtain ⟨n, e1, e2⟩ := Option.map_eq_some_iff.mp e
  subst e2
  exact ⟨n, sq_ok e1, q⟩) he) ha
theorem SE.tuple (hg : Gl X "tuple") (hm : X.mg "tuple" = none) (ha : SE X cf a ia) (he : starEach [a] X.env = (false, eval a X.env) :: starEach [] X.env := by rfl) : SE X cf (.Call (.Name "tuple" p) [a] [] pos) (.un .tuple ia) := SE.un1 .tuple (fun b Γ M R h => A_tuple hg hm (h.imp fun d M ⟨r, e, q⟩ => by
  obtain ⟨n, e1, e2⟩ := Option.map_eq_some_iff.mp e
  subst e2
  exact ⟨n, sq_ok e1, q⟩) he) ha
theorem SE.sum (hc : X.calm = true) (hg : Gl X "sum") (hm : X.mg "sum" = none) (ha : SE X cf a ia) (he : starEach [a] X.env = (false, eval a X.env) :: starEach [] X.env := by rfl) : SE X cf (.Call (.Name "sum" p) [a] [] pos) (.un .sum ia) := SE.un1 .sum (fun b Γ M R h => A_sum hc hg hm (h.imp fun d M ⟨r, e, q⟩ => by
  obtain ⟨ds, e1, e2⟩ := Option.bind_eq_some_iff.mp e
  obtain ⟨ns, e3, e4⟩ := Option.map_eq_some_iff.mp e2
  subst e4
  exact ⟨ns, by rw [← intsD_ok e3]; exact rd_ok e1, q⟩) he) ha
theorem SE.all (hc : X.calm = true) (hg : Gl X "all") (hm : X.mg "all" = none) (ha : SE X cf a ia) (he : starEach [a] X.env = (false, eval a X.env) :: starEach [] X.env := by rfl) : SE X cf (.Call (.Name "all" p) [a] [] pos) (.un .all ia) := SE.un1 .all (fun b Γ M R h => A_all hc hg hm (h.imp fun d M ⟨r, e, q⟩ => by
  obtain ⟨ds, e1, e2⟩ := Option.bind_eq_some_iff.mp e
  obtain ⟨ns, e3, e4⟩ := Option.map_eq_some_iff.mp e2
  subst e4
  exact ⟨ns, by rw [← boolsD_ok e3]; exact rd_ok e1, q⟩) he) ha
theorem SE.any (hc : X.calm = true) (hg : Gl X "any") (hm : X.mg "any" = none) (ha : SE X cf a ia) (he : starEach [a] X.env = (false, eval a X.env) :: starEach [] X.env := by rfl) : SE X cf (.Call (.Name "any" p) [a] [] pos) (.un .any ia) := SE.un1 .any (fun b Γ M R h => A_any hc hg hm (h.imp fun d M ⟨r, e, q⟩ => by
  obtain ⟨ds, e1, e2⟩ := Option.bind_eq_some_iff.mp e
  obtain ⟨ns, e3, e4⟩ := Option.map_eq_some_iff.mp e2
  subst e4
  exact ⟨ns, by rw [← boolsD_ok e3]; exact rd_ok e1, q⟩) he) ha
theorem isN_un {d : Dat} {M : Mem} {r : Dat × Mem} (e : Ab.un1 .isN d M = some r) : (∀ u, d ≠ .oth u) ∧ r = (.bl d.isN, M) := by
  unfold Ab.un1 at e
  cases d <;> first | (cases e; exact ⟨fun u z => (nomatch z), rfl⟩) | cases e
theorem SE.isN {j : Nat} (ha : SE X cf a ia) : SE X cf (.Compare a [.Is] [.Constant .none j p2] pos) (.un .isN ia) := SE.un1 .isN (fun b Γ M R h => A_isN (h.imp fun d M ⟨r, e, q⟩ => by
  obtain ⟨h1, h2⟩ := isN_un e
  subst h2
  exact ⟨d.isN, fun S A v rr => isN_rep h1 rr, q⟩)) ha
theorem SE.isi (t : Ty) {x : Str} (hg : Gl X "isinstance") (hm : X.mg "isinstance" = none) (hg2 : Gl X x) (hm2 : X.mg x = none) (ha : SE X cf a ia) (hx : x = Str.ofString t.nm := by rfl) (ht : t ≠ .non := by exact fun h => nomatch h)
    (he : starEach [a, .Name x p2] X.env = (false, eval a X.env) :: starEach [.Name x p2] X.env := by rfl) : SE X cf (.Call (.Name "isinstance" p) [a, .Name x p2] [] pos) (.un (.isi [t]) ia) := SE.un1 _ (fun b Γ M R h => A_isi t hx ht hg hm hg2 hm2 (h.imp fun d M ⟨r, e, q⟩ => by
  obtain ⟨n, e1, e2⟩ := Option.map_eq_some_iff.mp e
  subst e2
  exact ⟨n, e1, q⟩) he) ha
theorem SE.isi2 (t u : Ty) {x y : Str} {k : Nat} (hg : Gl X "isinstance") (hm : X.mg "isinstance" = none) (hg2 : Gl X x) (hm2 : X.mg x = none) (hg3 : Gl X y) (hm3 : X.mg y = none) (ha : SE X cf a ia) (hx : x = Str.ofString t.nm := by rfl) (ht : t ≠ .non := by exact fun h => nomatch h) (hy : y = Str.ofString u.nm := by rfl) (hu : u ≠ .non := by exact fun h => nomatch h)
    (he : starEach [a, .Tuple [.Name x p2, .Name y p3] k p4] X.env = (false, eval a X.env) :: starEach [.Tuple [.Name x p2, .Name y p3] k p4] X.env := by rfl) : SE X cf (.Call (.Name "isinstance" p) [a, .Tuple [.Name x p2, .Name y p3] k p4] [] pos) (.un (.isi [t, u]) ia) := SE.un1 _ (fun b Γ M R h => A_isi2 t u hx ht hy hu hg hm hg2 hm2 hg3 hm3 (h.imp fun d M ⟨r, e, q⟩ => by
  obtain ⟨n, e1, e2⟩ := Option.map_eq_some_iff.mp e
  subst e2
  exact ⟨n, e1, q⟩) he) ha
theorem SE.pop (ha : SE X cf o ia) (hbase : attributeBase o "pop" X.env (eval o X.env) = eval o X.env := by rfl) (hline : (apos.endLine == cpos.line) = true := by rfl) : SE X cf (.Call (.Attribute o "pop" apos) [] [] cpos) (.un .pop ia) := SE.un1 .pop (fun b Γ M R h => A_pop h hbase hline) ha
/-! two places -/
theorem SE.bin {op : Operator} (ha : SE X cf a ia) (hc : SE X cf c ic) : SE X cf (.BinOp a op c pos) (.bin (.op op) ia ic) := SE.bin2 (.op op) (fun b Γ M R h => A_bin (h.imp fun d M h => h.imp fun d2 M2 ⟨r, e, q⟩ => by
  obtain ⟨n, e1, e2⟩ := Option.map_eq_some_iff.mp e
  subst e2
  exact ⟨n, binD_ok e1, q⟩)) ha hc
theorem SE.cmp {op : CmpOp} (ha : SE X cf a ia) (hc : SE X cf c ic) (hm : behindInMarks op c = false := by exact nomark _) : SE X cf (.Compare a [op] [c] pos) (.bin (.cmp op) ia ic) := SE.bin2 (.cmp op) (fun b Γ M R h => A_cmpD (h.imp fun d M h => h.imp fun d2 M2 ⟨r, e, q⟩ => by
  obtain ⟨n, e1, e2⟩ := Option.map_eq_some_iff.mp e
  subst e2
  exact ⟨n, cmpD_ok e1, q⟩) hm) ha hc
theorem SE.eqv (hu : X.A.units + 64 < cLine) (ha : SE X cf a ia) (hc : SE X cf c ic) (hm : behindInMarks .Eq c = false := by rfl) : SE X cf (.Compare a [.Eq] [c] pos) (.bin .eqv ia ic) := SE.bin2 .eqv (fun b Γ M R h => A_eqv hu (h.imp fun d M h => h.imp fun d2 M2 ⟨r, e, q⟩ => by
  obtain ⟨n, e1, e2⟩ := Option.map_eq_some_iff.mp e
  subst e2
  exact ⟨n, e1, q⟩) hm) ha hc
theorem SE.neqv (hu : X.A.units + 64 < cLine) (ha : SE X cf a ia) (hc : SE X cf c ic) (hm : behindInMarks .NotEq c = false := by rfl) : SE X cf (.Compare a [.NotEq] [c] pos) (.bin .neqv ia ic) := SE.bin2 .neqv (fun b Γ M R h => A_neqv hu (h.imp fun d M h => h.imp fun d2 M2 ⟨r, e, q⟩ => by
  obtain ⟨n, e1, e2⟩ := Option.map_eq_some_iff.mp e
  subst e2
  exact ⟨n, e1, q⟩) hm) ha hc
theorem SE.ix (ha : SE X cf a ia) (hc : SE X cf c ic) (hs : PlainIx c := by exact fun _ _ => rfl) : SE X cf (.Subscript a c pos) (.bin .ix ia ic) := SE.bin2 .ix (fun b Γ M R h => A_ix (h.imp fun d M h => h.imp fun d2 M2 ⟨r, e, q⟩ => by
  obtain ⟨n, e1, e2⟩ := Option.map_eq_some_iff.mp e
  subst e2
  exact ⟨n, itemD_ok e1, q⟩) hs) ha hc
theorem SE.catL (ha : SE X cf a ia) (hc : SE X cf c ic) : SE X cf (.BinOp a .Add c pos) (.bin .catL ia ic) := SE.bin2 .catL (fun b Γ M R h => A_cat (h.imp fun d M h => h.imp fun d2 M2 ⟨r, e, q⟩ => by
  obtain ⟨xs, e1, e⟩ := Option.bind_eq_some_iff.mp e
  obtain ⟨ys, e2, e⟩ := Option.bind_eq_some_iff.mp e
  split at e
  · cases e
    exact ⟨xs, ys, rdL_ok e1, rdL_ok e2, by assumption, q⟩
  · cases e)) ha hc
theorem SE.catC (ha : SE X cf a ia) (hc : SE X cf c ic) : SE X cf (.BinOp a .Add c pos) (.bin .catC ia ic) := SE.bin2 .catC (fun b Γ M R h => A_catC (h.imp fun d M h => h.imp fun d2 M2 ⟨r, e, q⟩ => by
  obtain ⟨xs, e1, e⟩ := Option.bind_eq_some_iff.mp e
  obtain ⟨ys, e2, e⟩ := Option.bind_eq_some_iff.mp e
  split at e
  · cases e
    exact ⟨xs, ys, rdL_ok e1, rdL_ok e2, by assumption, q⟩
  · cases e)) ha hc
theorem SE.catT (ha : SE X cf a ia) (hc : SE X cf c ic) : SE X cf (.BinOp a .Add c pos) (.bin .catT ia ic) := SE.bin2 .catT (fun b Γ M R h => A_catT (h.imp fun d M h => h.imp fun d2 M2 ⟨r, e, q⟩ => by
  cases d with
  | tup xs =>
    cases d2 with
    | tup ys =>
      have e : (if xs.length + ys.length ≤ sizeLine then some (Dat.tup (xs ++ ys), M2) else none) = some r := by
        unfold Ab.bin2 at e
        exact e
      split at e
      · cases e
        exact ⟨xs, ys, rfl, rfl, by assumption, q⟩
      · cases e
    | _ => unfold Ab.bin2 at e; cases e
  | _ => unfold Ab.bin2 at e; cases d2 <;> cases e)) ha hc
theorem repOk_ok {n : Nat} {k : Int} (h : repOk n k = true) : -(2 ^ 63) ≤ k ∧ k < 2 ^ 63 ∧ n * k.toNat ≤ sizeLine := by
  unfold repOk at h
  obtain ⟨h, h3⟩ := Bool.and_eq_true_iff.mp h
  obtain ⟨h1, h2⟩ := Bool.and_eq_true_iff.mp h
  exact ⟨of_decide_eq_true h1, of_decide_eq_true h2, of_decide_eq_true h3⟩
theorem SE.repL (ha : SE X cf a ia) (hc : SE X cf c ic) : SE X cf (.BinOp a .Mult c pos) (.bin .repL ia ic) := SE.bin2 .repL (fun b Γ M R h => A_rep (h.imp fun d M h => h.imp fun d2 M2 ⟨r, e, q⟩ => by
  cases d2 with
  | int k =>
    have e : ((rdL M2 d).bind fun xs => if repOk xs.length k then some (Dat.lst (List.replicate k.toNat xs).flatten, M2) else none) = some r := by
      unfold Ab.bin2 at e
      exact e
    obtain ⟨xs, e1, e⟩ := Option.bind_eq_some_iff.mp e
    split at e
    · rename_i hr
      cases e
      obtain ⟨h1, h2, h3⟩ := repOk_ok hr
      exact ⟨xs, k, rdL_ok e1, rfl, h1, h2, h3, q⟩
    · cases e
  | _ => unfold Ab.bin2 at e; cases d <;> cases e)) ha hc
theorem SE.repC (ha : SE X cf a ia) (hc : SE X cf c ic) : SE X cf (.BinOp a .Mult c pos) (.bin .repC ia ic) := SE.bin2 .repC (fun b Γ M R h => A_repC (h.imp fun d M h => h.imp fun d2 M2 ⟨r, e, q⟩ => by
  cases d2 with
  | int k =>
    have e : ((rdL M2 d).bind fun xs => if repOk xs.length k then some (Dat.ptr M2.length, M2 ++ [.lst (List.replicate k.toNat xs).flatten]) else none) = some r := by
      unfold Ab.bin2 at e
      exact e
    obtain ⟨xs, e1, e⟩ := Option.bind_eq_some_iff.mp e
    split at e
    · rename_i hr
      cases e
      obtain ⟨h1, h2, h3⟩ := repOk_ok hr
      exact ⟨xs, k, rdL_ok e1, rfl, h1, h2, h3, q⟩
    · cases e
  | _ => unfold Ab.bin2 at e; cases d <;> cases e)) ha hc
theorem SE.append (ha : SE X cf o ia) (hc : SE X cf e ie) (hbase : attributeBase o "append" X.env (eval o X.env) = eval o X.env := by rfl) (hline : (apos.endLine == cpos.line) = true := by rfl) (hs : starEach [e] X.env = (false, eval e X.env) :: starEach [] X.env := by rfl)
    (hfew : ((backTo cpos (starEach [e] X.env)).all (fun x => !x.1) && (backToKw cpos (keywordEach [] X.env)).all (fun x => x.1.isSome) && decide ([e].length + ([] : List Keyword).length + (if ([] : List Keyword).isEmpty then 0 else 1) < 30)) = true := by rfl) : SE X cf (.Call (.Attribute o "append" apos) [e] [] cpos) (.mth .append ia ie) :=
  SE.mth1 .append (fun b Γ M R h => A_append (h.imp fun d M ⟨h0, h⟩ => ⟨h0, h.imp fun d2 M2 ⟨r, e, q⟩ => by
    obtain ⟨n, e1, e2⟩ := Option.map_eq_some_iff.mp e
    subst e2
    exact ⟨n, e1, q⟩⟩) hbase hline hs hfew) ha hc
theorem SE.extend (ha : SE X cf o ia) (hc : SE X cf e ie) (hbase : attributeBase o "extend" X.env (eval o X.env) = eval o X.env := by rfl) (hline : (apos.endLine == cpos.line) = true := by rfl) (hs : starEach [e] X.env = (false, eval e X.env) :: starEach [] X.env := by rfl)
    (hfew : ((backTo cpos (starEach [e] X.env)).all (fun x => !x.1) && (backToKw cpos (keywordEach [] X.env)).all (fun x => x.1.isSome) && decide ([e].length + ([] : List Keyword).length + (if ([] : List Keyword).isEmpty then 0 else 1) < 30)) = true := by rfl) : SE X cf (.Call (.Attribute o "extend" apos) [e] [] cpos) (.mth .extend ia ie) :=
  SE.mth1 .extend (fun b Γ M R h => A_extend (h.imp fun d M ⟨h0, h⟩ => ⟨h0, h.imp fun d2 M2 ⟨r, e, q⟩ => by
    obtain ⟨n, e1, e2⟩ := Option.map_eq_some_iff.mp e
    subst e2
    exact ⟨n, e1, q⟩⟩) hbase hline hs hfew) ha hc
theorem SE.popAt (ha : SE X cf o ia) (hc : SE X cf e ie) (hbase : attributeBase o "pop" X.env (eval o X.env) = eval o X.env := by rfl) (hline : (apos.endLine == cpos.line) = true := by rfl) (hs : starEach [e] X.env = (false, eval e X.env) :: starEach [] X.env := by rfl)
    (hfew : ((backTo cpos (starEach [e] X.env)).all (fun x => !x.1) && (backToKw cpos (keywordEach [] X.env)).all (fun x => x.1.isSome) && decide ([e].length + ([] : List Keyword).length + (if ([] : List Keyword).isEmpty then 0 else 1) < 30)) = true := by rfl) : SE X cf (.Call (.Attribute o "pop" apos) [e] [] cpos) (.mth .popAt ia ie) :=
  SE.mth1 .popAt (fun b Γ M R h => A_popAt h hbase hline hs hfew) ha hc
end
end Ab
end

section
set_option Elab.async false
set_option linter.all false
set_option maxRecDepth 100000
set_option maxHeartbeats 4000000
/-! Ab16: .. of expressions with parts, comprehensions, calls. -/
namespace Ab
open PySem PySem.Spec PyProof.Rows L2
section
variable {X : Cx} {cf : CallF} {e a c e1 e2 e3 o tg iter : Expr} {es rest : List Expr} {kws : List Keyword} {pos p p2 p3 p4 apos cpos kpos : Pos} {ie ia ic i1 i2 i3 : Ex} {ies : Exs} {nm : Option Str} {lo hi : Option Expr} {il ih : Exo}
theorem good_match {α : Type} {r : Rs α} {R : α → Mem → Prop} {E : Exn → Gam → Mem → Prop} (g : Good r R E) : Good r R E := g
/-! chains -/
theorem SE.chain {op op' : CmpOp} (ha : SE X cf a ia) (h1 : SE X cf e1 i1) (h2 : SE X cf e2 i2) (hm : lastMarks [op, op'] [e1, e2] = false := by with_unfolding_all rfl) : SE X cf (.Compare a [op, op'] [e1, e2] pos) (.chain op op' ia i1 i2) := .mk fun b Γ M R EW hw g =>
  A_chain (ha b Γ M _ EW hw ((Good.bnd g).imp (fun d M1 q => h1 b Γ M1 _ EW hw ((Good.bnd q).imp (fun x M2 q => by
    cases hc : cmpI op d x with
    | none => rw [hc] at q; exact q.elim
    | some k =>
      rw [hc] at q
      obtain ⟨i, j, ed, ex, hk⟩ := cmpI_ok hc
      refine ⟨i, j, k, ed, ex, hk, fun ek => ?_, fun ek => ?_⟩
      · subst ek
        exact h2 b Γ M2 _ EW hw ((Good.bnd q).imp (fun y M3 q => by
          cases hc2 : cmpI op' x y with
          | none => rw [hc2] at q; exact q.elim
          | some k' =>
            rw [hc2] at q
            obtain ⟨j', l, ex', ey, hk'⟩ := cmpI_ok hc2
            have z : Dat.int j = Dat.int j' := ex.symm.trans ex'
            cases z
            exact ⟨l, k', ey, hk', q⟩) fun _ _ _ q => q)
      · subst ek
        exact q) fun _ _ _ q => q)) fun _ _ _ q => q)) hm
/-! and, or, if -/
theorem ST.val (h : SE X cf e ie) (he : ∀ whole, isTrue e X.env whole = (do let v ← whole; standAt e.pos; holding [v] (truthy v)) := by intro _; rfl) : ST X cf e ie := .mk fun b Γ M R EW hw g => T_val (h b Γ M _ EW hw (good_asB g)) he
theorem good_asB_bind {r : Rs Bool} {f : Bool → Mem → Rs Dat} {R : Bool → Mem → Prop} {E : Exn → Gam → Mem → Prop} (g : Good (asB (r.bind f)) R E) : Good r (fun k M => Good (asB (f k M)) R E) E := by
  cases r with
  | ok a M => exact g
  | ex x Γ M => exact g
  | no => exact g
theorem ST.notB (h : ST X cf a ia) : ST X cf (.UnaryOp .Not a pos) (.un .notB ia) := .mk fun b Γ M R EW hw g => T_not (h b Γ M _ EW hw (by
  have g : Good (asB ((evE cf ia Γ M).bind fun d M => ofO (Ab.un1 .notB d M))) R EW := g
  show Good (asB (evE cf ia Γ M)) (fun k M => R (!k) M) EW
  cases hr : evE cf ia Γ M with
  | ok d M1 =>
    rw [hr] at g
    have g : Good (asB (ofO (Ab.un1 .notB d M1))) R EW := g
    cases d with
    | bl k => exact g
    | _ => exact g.elim
  | ex x Γ M1 => rw [hr] at g; exact g
  | no => rw [hr] at g; exact g))
theorem ST.sw (h : SW X cf e ie) : ST X cf e ie := .mk fun b Γ M R EW hw g => T_W (h b Γ M R EW hw g)
theorem SW.and1 (h : ST X cf a ia) : SW X cf (.BoolOp .And [a] pos) ia := .mk fun b Γ M R EW hw g => W_and1 (h b Γ M R EW hw g)
theorem SW.or1 (h : ST X cf a ia) : SW X cf (.BoolOp .Or [a] pos) ia := .mk fun b Γ M R EW hw g => W_or1 (h b Γ M R EW hw g)
theorem SW.and (ha : ST X cf a ia) (h : SW X cf (.BoolOp .And (c :: rest) pos) ic) : SW X cf (.BoolOp .And (a :: c :: rest) pos) (.and ia ic) := .mk fun b Γ M R EW hw g =>
  W_and (ha b Γ M _ EW hw ((good_asB_bind g).imp (fun k M1 q => ⟨fun ek => by subst ek; exact h b Γ M1 R EW hw q, fun ek => by subst ek; exact q⟩) fun _ _ _ q => q))
theorem SW.or (ha : ST X cf a ia) (h : SW X cf (.BoolOp .Or (c :: rest) pos) ic) : SW X cf (.BoolOp .Or (a :: c :: rest) pos) (.or ia ic) := .mk fun b Γ M R EW hw g =>
  W_or (ha b Γ M _ EW hw ((good_asB_bind g).imp (fun k M1 q => ⟨fun ek => by subst ek; exact q, fun ek => by subst ek; exact h b Γ M1 R EW hw q⟩) fun _ _ _ q => q))
theorem SE.one {op : BoolOp} (h : SE X cf a ia) : SE X cf (.BoolOp op [a] pos) ia := .mk fun b Γ M R EW hw g => A_one (h b Γ M R EW hw g)
theorem SE.and (ha : SE X cf a ia) (h : SE X cf (.BoolOp .And (c :: rest) pos) ic) : SE X cf (.BoolOp .And (a :: c :: rest) pos) (.and ia ic) := .mk fun b Γ M R EW hw g =>
  A_and (ha b Γ M _ EW hw (good_asB ((Good.bnd g).imp (fun k M1 q => ⟨fun ek => by subst ek; exact h b Γ M1 R EW hw q, fun ek => by subst ek; exact q⟩) fun _ _ _ q => q) |>.imp (fun d M ⟨k, e, q⟩ => ⟨k, e, q⟩) fun _ _ _ q => q))
theorem SE.or (ha : SE X cf a ia) (h : SE X cf (.BoolOp .Or (c :: rest) pos) ic) : SE X cf (.BoolOp .Or (a :: c :: rest) pos) (.or ia ic) := .mk fun b Γ M R EW hw g =>
  A_or (ha b Γ M _ EW hw (good_asB ((Good.bnd g).imp (fun k M1 q => ⟨fun ek => by subst ek; exact q, fun ek => by subst ek; exact h b Γ M1 R EW hw q⟩) fun _ _ _ q => q) |>.imp (fun d M ⟨k, e, q⟩ => ⟨k, e, q⟩) fun _ _ _ q => q))
theorem SE.orL (ha : SE X cf a ia) (h : SE X cf (.BoolOp .Or (c :: rest) pos) ic) : SE X cf (.BoolOp .Or (a :: c :: rest) pos) (.orL ia ic) := .mk fun b Γ M R EW hw g =>
  A_orL (ha b Γ M _ EW hw ((Good.bnd g).imp (fun d M1 q => by
    cases hr : rd M1 d with
    | none => rw [hr] at q; exact q.elim
    | some ds =>
      rw [hr] at q
      refine ⟨ds, rd_ok hr, fun hn => ?_, fun he => ?_⟩
      · cases ds with
        | nil => exact absurd rfl hn
        | cons x xs => exact q
      · subst he
        exact h b Γ M1 R EW hw q) fun _ _ _ q => q))
theorem SE.ite (hc : ST X cf c ic) (ha : SE X cf a ia) (he : SE X cf e ie) : SE X cf (.IfExp c a e pos) (.ite ic ia ie) := .mk fun b Γ M R EW hw g =>
  A_ifExp (hc b Γ M _ EW hw ((Good.bnd g).imp (fun k M1 q => ⟨fun ek => by subst ek; exact ha b Γ M1 R EW hw q, fun ek => by subst ek; exact he b Γ M1 R EW hw q⟩) fun _ _ _ q => q))
theorem SE.notN {j : Nat} (ha : SE X cf a ia) : SE X cf (.Compare a [.IsNot] [.Constant .none j p2] pos) (.un .notN ia) := SE.un1 .notN (fun b Γ M R h => AE.of (pe_cmpR op_notN pe_tW pe_non (nomark _)) fun σ S A H Q st p => h σ S A H _ st fun v d M' S' A' H' s1 st1 r1 ⟨r, e, q⟩ => by
  have e2 : (∀ u, d ≠ .oth u) ∧ r = (.bl (!d.isN), M') := by
    unfold Ab.un1 at e
    cases d <;> first | (cases e; exact ⟨fun u z => (nomatch z), rfl⟩) | cases e
  obtain ⟨h1, h2⟩ := e2
  subst h2
  exact ⟨rfl, by rw [isN_rep h1 r1]; exact (p.after s1).here st1 (.bl _) q⟩) ha
/-! tests that are comparisons -/
theorem good_asB_bnd {α : Type} {r : Rs α} {f : α → Mem → Rs Dat} {R : Bool → Mem → Prop} {E : Exn → Gam → Mem → Prop} (g : Good (asB (r.bind f)) R E) : Good r (fun k M => Good (asB (f k M)) R E) E := by
  cases r with
  | ok a M => exact g
  | ex x Γ M => exact g
  | no => exact g
theorem good_asB_ofO {o : Option (Dat × Mem)} {R : Bool → Mem → Prop} {E : Exn → Gam → Mem → Prop} (g : Good (asB (ofO o)) R E) : ∃ k M, o = some (.bl k, M) ∧ R k M := by
  cases o with
  | none => exact g.elim
  | some r =>
    obtain ⟨d, M⟩ := r
    cases d with
    | bl k => exact ⟨k, M, rfl, g⟩
    | _ => exact False.elim g
theorem ST.cmp2 (f : B2) (rule : ∀ b Γ M (R : Bool → Mem → Prop), AE X b a Γ M (fun d M1 => AE X b c Γ M1 fun d2 M2 => ∃ k M3, Ab.bin2 f d d2 M2 = some (.bl k, M3) ∧ R k M3) → AT X b e Γ M R) (ha : SE X cf a ia) (hc : SE X cf c ic) : ST X cf e (.bin f ia ic) := .mk fun b Γ M R EW hw g =>
  rule b Γ M R (ha b Γ M _ EW hw ((good_asB_bnd (show Good (asB ((evE cf ia Γ M).bind _)) R EW from g)).imp (fun d M q => hc b Γ M _ EW hw ((good_asB_bnd q).imp (fun d2 M2 q2 => good_asB_ofO q2) fun _ _ _ q => q)) fun _ _ _ q => q))
theorem ST.cmp {op : CmpOp} (ha : SE X cf a ia) (hc : SE X cf c ic) (hm : behindInMarks op c = false := by exact nomark _) : ST X cf (.Compare a [op] [c] pos) (.bin (.cmp op) ia ic) := ST.cmp2 (.cmp op) (fun b Γ M R h => T_cmpD (h.imp fun d M h => h.imp fun d2 M2 ⟨k, M3, e, q⟩ => by
  obtain ⟨n, e1, e2⟩ := Option.map_eq_some_iff.mp e
  cases e2
  exact ⟨k, cmpD_ok e1, q⟩) hm) ha hc
theorem ST.eqv (hu : X.A.units + 64 < cLine) (ha : SE X cf a ia) (hc : SE X cf c ic) (hm : behindInMarks .Eq c = false := by rfl) : ST X cf (.Compare a [.Eq] [c] pos) (.bin .eqv ia ic) := ST.cmp2 .eqv (fun b Γ M R h => T_cmp (op_eqD hu) hm (h.imp fun d1 M1 h1 => h1.imp fun d2 M2 ⟨k, M3, e, q⟩ => fun σ S A H v1 v2 Q st r1 r2 p => by
  obtain ⟨k', hk, e2⟩ := Option.map_eq_some_iff.mp e
  cases e2
  obtain ⟨p1, e1, hk⟩ := Option.bind_eq_some_iff.mp hk
  obtain ⟨p2, e2, hk⟩ := Option.bind_eq_some_iff.mp hk
  split at hk
  · rename_i hs
    obtain ⟨s1, s2⟩ := Bool.and_eq_true_iff.mp hs
    cases hk
    exact ⟨p1, p2, pyD_ok st r1 e1, pyD_ok st r2 e2, s1, s2, p.here st (.bl _) ⟨_, rfl, q⟩⟩
  · cases hk)) ha hc
theorem ST.neqv (hu : X.A.units + 64 < cLine) (ha : SE X cf a ia) (hc : SE X cf c ic) (hm : behindInMarks .NotEq c = false := by rfl) : ST X cf (.Compare a [.NotEq] [c] pos) (.bin .neqv ia ic) := ST.cmp2 .neqv (fun b Γ M R h => T_cmp (op_neD hu) hm (h.imp fun d1 M1 h1 => h1.imp fun d2 M2 ⟨k, M3, e, q⟩ => fun σ S A H v1 v2 Q st r1 r2 p => by
  obtain ⟨k', hk, e2⟩ := Option.map_eq_some_iff.mp e
  cases e2
  obtain ⟨p1, e1, hk⟩ := Option.bind_eq_some_iff.mp hk
  obtain ⟨p2, e2, hk⟩ := Option.bind_eq_some_iff.mp hk
  split at hk
  · rename_i hs
    obtain ⟨s1, s2⟩ := Bool.and_eq_true_iff.mp hs
    cases hk
    exact ⟨p1, p2, pyD_ok st r1 e1, pyD_ok st r2 e2, s1, s2, p.here st (.bl _) ⟨_, rfl, q⟩⟩
  · cases hk)) ha hc
theorem un_isN {d : Dat} {M M3 : Mem} {k : Bool} (e : Ab.un1 .isN d M = some (.bl k, M3)) : (∀ u, d ≠ .oth u) ∧ k = d.isN ∧ M3 = M := by
  unfold Ab.un1 at e
  cases d <;> first | (cases e; exact ⟨fun u z => (nomatch z), rfl, rfl⟩) | cases e
theorem un_notN {d : Dat} {M M3 : Mem} {k : Bool} (e : Ab.un1 .notN d M = some (.bl k, M3)) : (∀ u, d ≠ .oth u) ∧ k = (!d.isN) ∧ M3 = M := by
  unfold Ab.un1 at e
  cases d <;> first | (cases e; exact ⟨fun u z => (nomatch z), rfl, rfl⟩) | cases e
theorem ST.isN {j : Nat} (ha : SE X cf a ia) : ST X cf (.Compare a [.Is] [.Constant .none j p2] pos) (.un .isN ia) := .mk fun b Γ M R EW hw g =>
  T_isN (ha b Γ M _ EW hw ((good_asB_bnd (show Good (asB ((evE cf ia Γ M).bind _)) R EW from g)).imp (fun d M q => by
    obtain ⟨k, M3, e, q'⟩ := good_asB_ofO q
    obtain ⟨h1, h2, h3⟩ := un_isN e
    subst h2 h3
    exact ⟨_, fun S A v rr => isN_rep h1 rr, q'⟩) fun _ _ _ q => q))
theorem ST.notN {j : Nat} (ha : SE X cf a ia) : ST X cf (.Compare a [.IsNot] [.Constant .none j p2] pos) (.un .notN ia) := .mk fun b Γ M R EW hw g =>
  T_notN (ha b Γ M _ EW hw ((good_asB_bnd (show Good (asB ((evE cf ia Γ M).bind _)) R EW from g)).imp (fun d M q => by
    obtain ⟨k, M3, e, q'⟩ := good_asB_ofO q
    obtain ⟨h1, h2, h3⟩ := un_notN e
    subst h2 h3
    exact ⟨_, fun S A v rr => isN_rep h1 rr, q'⟩) fun _ _ _ q => q))
theorem ST.chain {op op' : CmpOp} (ha : SE X cf a ia) (h1 : SE X cf e1 i1) (h2 : SE X cf e2 i2) (hm : lastMarks [op, op'] [e1, e2] = false := by with_unfolding_all rfl) : ST X cf (.Compare a [op, op'] [e1, e2] pos) (.chain op op' ia i1 i2) := .mk fun b Γ M R EW hw g =>
  T_chain (ha b Γ M _ EW hw ((good_asB_bnd (show Good (asB ((evE cf ia Γ M).bind _)) R EW from g)).imp (fun d M1 q => h1 b Γ M1 _ EW hw ((good_asB_bnd q).imp (fun x M2 q => by
    cases hc : cmpI op d x with
    | none => rw [hc] at q; exact q.elim
    | some k =>
      rw [hc] at q
      obtain ⟨i, j, ed, ex, hk⟩ := cmpI_ok hc
      refine ⟨i, j, k, ed, ex, hk, fun ek => ?_, fun ek => ?_⟩
      · subst ek
        exact h2 b Γ M2 _ EW hw ((good_asB_bnd q).imp (fun y M3 q => by
          cases hc2 : cmpI op' x y with
          | none => rw [hc2] at q; exact q.elim
          | some k' =>
            rw [hc2] at q
            obtain ⟨j', l, ex', ey, hk'⟩ := cmpI_ok hc2
            have z : Dat.int j = Dat.int j' := ex.symm.trans ex'
            cases z
            exact ⟨l, k', ey, hk', q⟩) fun _ _ _ q => q)
      · subst ek
        exact q) fun _ _ _ q => q)) fun _ _ _ q => q)) hm
/-! lists of expressions -/
theorem SA.nil : SA X cf [] .nil := .mk fun b Γ M R EW hw g => L_nil g
theorem SA.cons (ha : SE X cf e ie) (h : SA X cf es ies) (hs : starEach (e :: es) X.env = (false, eval e X.env) :: starEach es X.env := by rfl) : SA X cf (e :: es) (.cons ie ies) := .mk fun b Γ M R EW hw g =>
  L_cons (ha b Γ M _ EW hw ((Good.bnd g).imp (fun d M1 q => h b Γ M1 _ EW hw ((Good.bnd q).imp (fun ds M2 q => q) fun _ _ _ q => q)) fun _ _ _ q => q)) hs
theorem SK.nil : SK X cf [] .nil := .mk fun b Γ M R EW hw g => K_nil g
theorem SK.cons (ha : SE X cf e ie) (h : SK X cf kws ies) : SK X cf (⟨nm, e, kpos⟩ :: kws) (.cons ie ies) := .mk fun b Γ M R EW hw g =>
  K_cons (ha b Γ M _ EW hw ((Good.bnd g).imp (fun d M1 q => h b Γ M1 _ EW hw ((Good.bnd q).imp (fun ds M2 q => q) fun _ _ _ q => q)) fun _ _ _ q => q))
theorem SE.tup {k : Nat} (h : SA X cf es ies) : SE X cf (.Tuple es k pos) (.tup ies) := .mk fun b Γ M R EW hw g => A_tup (h b Γ M _ EW hw ((Good.bnd g).imp (fun ds M1 q => good_if q) fun _ _ _ q => q))
theorem SE.lst (h : SA X cf es ies) : SE X cf (.List es pos) (.lst ies) := .mk fun b Γ M R EW hw g => A_lst (h b Γ M _ EW hw ((Good.bnd g).imp (fun ds M1 q => good_if q) fun _ _ _ q => q))
theorem SE.lstC (h : SA X cf es ies) : SE X cf (.List es pos) (.lstC ies) := .mk fun b Γ M R EW hw g => A_lstC (h b Γ M _ EW hw ((Good.bnd g).imp (fun ds M1 q => good_if q) fun _ _ _ q => q))
/-! slices -/
theorem SO.none : SO X cf none .none := .mk fun b Γ M R EW hw g => O_none g
theorem SO.some (h : SE X cf e ie) : SO X cf (some e) (.some ie) := .mk fun b Γ M R EW hw g => O_some (h b Γ M _ EW hw ((Good.bnd g).imp (fun d M1 q => by
  cases d with
  | int i => exact ⟨i, rfl, q⟩
  | _ => exact False.elim q) fun _ _ _ q => q))
theorem cutX_ok {M : Mem} {d x : Dat} {l u : Option Int} (h : cutX M d l u = Option.some x) : SliD M d l u x := by
  unfold cutX at h
  split at h
  · cases h; exact .t
  · split at h
    · cases h; exact .s (by assumption)
    · cases h
  · obtain ⟨ds, e, e2⟩ := Option.map_eq_some_iff.mp h
    subst e2
    exact .l (rd_ok e)
theorem SE.sl (ha : SE X cf a ia) (hl : SO X cf lo il) (hh : SO X cf hi ih) : SE X cf (.Subscript a (.Slice lo hi none p2) pos) (.sl ia il ih) := .mk fun b Γ M R EW hw g =>
  A_sl (ha b Γ M _ EW hw ((Good.bnd g).imp (fun d M1 q => hl b Γ M1 _ EW hw ((Good.bnd q).imp (fun l M2 q => hh b Γ M2 _ EW hw ((Good.bnd q).imp (fun u M3 q => by
    cases hx : cutX M3 d l u with
    | none => rw [hx] at q; exact q.elim
    | some x => rw [hx] at q; exact ⟨x, cutX_ok hx, q⟩) fun _ _ _ q => q)) fun _ _ _ q => q)) fun _ _ _ q => q))
theorem SE.slC (ha : SE X cf a ia) (hl : SO X cf lo il) (hh : SO X cf hi ih) : SE X cf (.Subscript a (.Slice lo hi none p2) pos) (.slC ia il ih) := .mk fun b Γ M R EW hw g =>
  A_slC (ha b Γ M _ EW hw ((Good.bnd g).imp (fun d M1 q => hl b Γ M1 _ EW hw ((Good.bnd q).imp (fun l M2 q => hh b Γ M2 _ EW hw ((Good.bnd q).imp (fun u M3 q => by
    cases hx : rd M3 d with
    | none => rw [hx] at q; exact q.elim
    | some x => rw [hx] at q; exact ⟨x, rd_ok hx, q⟩) fun _ _ _ q => q)) fun _ _ _ q => q)) fun _ _ _ q => q))
/-! what is walked -/
theorem SI.lst (h : SE X cf e ie) : SI X cf tg e (.lst ie) := .mk fun b Γ M R EW hw g => I_list (h b Γ M _ EW hw ((Good.bnd g).imp (fun d M1 q => by
  cases hr : rd M1 d with
  | none => rw [hr] at q; exact q.elim
  | some ds => rw [hr] at q; exact ⟨ds, rd_ok hr, _, q, fun M h => gd1 h⟩) fun _ _ _ q => q))
theorem SI.tup (h : SE X cf e ie) : SI X cf tg e (.tup ie) := .mk fun b Γ M R EW hw g => I_tup (h b Γ M _ EW hw ((Good.bnd g).imp (fun d M1 q => by
  cases d with
  | tup ds => exact ⟨ds, rfl, _, q, fun M h => trivial⟩
  | _ => exact False.elim q) fun _ _ _ q => q))
theorem SI.any (h : SE X cf e ie) : SI X cf tg e (.any ie) := .mk fun b Γ M R EW hw g => by
  have h1 := h b Γ M
  have g : Good ((evE cf ie Γ M).bind fun d M => match d with
    | .tup ds => Rs.ok (ds, ([] : Gd)) M
    | d => match rd M d with
      | Option.some ds => .ok (ds, [(d, ds)]) M
      | Option.none => .no) R EW := g
  cases he : evE cf ie Γ M with
  | ok d M1 =>
    rw [he] at g h1
    have keep : AE X b e Γ M fun d' M' => d' = d ∧ M' = M1 := h1 _ EW hw ⟨rfl, rfl⟩
    cases d with
    | tup ds => exact I_tup (keep.imp fun d' M' ⟨e1, e2⟩ => by subst e1 e2; exact ⟨ds, rfl, _, g, fun M h => trivial⟩)
    | _ =>
      refine I_list (keep.imp fun d' M' ⟨e1, e2⟩ => ?_)
      subst e1 e2
      simp only [Rs.bind] at g
      split at g
      · rename_i hr
        exact ⟨_, rd_ok hr, _, g, fun M h => gd1 h⟩
      · exact g.elim
  | ex x G2 M1 =>
    rw [he] at g h1
    exact I_list ((h1 (fun _ _ => False) EW hw g).imp fun _ _ z => z.elim)
  | no => rw [he] at g; exact g.elim
theorem isR62_ok {i : Int} (h : isR62 i = true) : -(2 ^ 62) ≤ i ∧ i < 2 ^ 62 := by
  obtain ⟨h1, h2⟩ := Bool.and_eq_true_iff.mp h
  exact ⟨of_decide_eq_true h1, of_decide_eq_true h2⟩
theorem SI.rng1 (hg : Gl X "range") (hm : X.mg "range" = none) (h : SE X cf e ie) (hs : starEach [e] X.env = [(false, eval e X.env)] := by rfl) : SI X cf tg (.Call (.Name "range" p) [e] [] pos) (.rng1 ie) := .mk fun b Γ M R EW hw g => I_range1 hg hm (h b Γ M _ EW hw ((Good.bnd g).imp (fun d M1 q => by
  cases d with
  | int n =>
    obtain ⟨z, q⟩ := good_if q
    exact ⟨n, rfl, (isR62_ok z).1, (isR62_ok z).2, _, q, fun M h => trivial⟩
  | _ => exact False.elim q) fun _ _ _ q => q)) hs
theorem SI.rng2 (hg : Gl X "range") (hm : X.mg "range" = none) (h1 : SE X cf e1 i1) (h2 : SE X cf e2 i2) (hs : starEach [e1, e2] X.env = [(false, eval e1 X.env), (false, eval e2 X.env)] := by rfl) (hs2 : starEach [e2] X.env = [(false, eval e2 X.env)] := by rfl) : SI X cf tg (.Call (.Name "range" p) [e1, e2] [] pos) (.rng2 i1 i2) := .mk fun b Γ M R EW hw g =>
  I_range2 hg hm (h1 b Γ M _ EW hw ((Good.bnd g).imp (fun d M1 q => h2 b Γ M1 _ EW hw ((Good.bnd q).imp (fun d' M2 q => by
    cases d with
    | int i =>
      cases d' with
      | int j =>
        obtain ⟨z, q⟩ := good_if q
        obtain ⟨z1, z2⟩ := Bool.and_eq_true_iff.mp z
        exact ⟨i, j, rfl, rfl, ⟨(isR62_ok z1).1, (isR62_ok z1).2, (isR62_ok z2).1, (isR62_ok z2).2⟩, _, q, fun M h => trivial⟩
      | _ => exact False.elim q
    | _ => exact False.elim q) fun _ _ _ q => q)) fun _ _ _ q => q)) hs hs2
theorem SI.enum {elts : List Expr} {kk : Nat} {tpos : Pos} (hg : Gl X "enumerate") (hm : X.mg "enumerate" = none) (h : SE X cf e ie) (hs : starEach [e] X.env = (false, eval e X.env) :: starEach [] X.env := by rfl) : SI X cf (.Tuple elts kk tpos) (.Call (.Name "enumerate" p) [e] [] pos) (.enum ie) := .mk fun b Γ M R EW hw g => by
  have h1 := h b Γ M
  have g : Good ((evE cf ie Γ M).bind fun d M => match d with
    | .tup ds => Rs.ok (enumD ds, ([] : Gd)) M
    | d => match rd M d with
      | Option.some ds => .ok (enumD ds, [(d, ds)]) M
      | Option.none => .no) R EW := g
  cases he : evE cf ie Γ M with
  | ok d M1 =>
    rw [he] at g h1
    have keep : AE X b e Γ M fun d' M' => d' = d ∧ M' = M1 := h1 _ EW hw ⟨rfl, rfl⟩
    cases d with
    | tup ds => exact I_enumT hg hm (keep.imp fun d' M' ⟨e1, e2⟩ => by subst e1 e2; exact ⟨ds, rfl, _, g, fun M h => trivial⟩) hs
    | _ =>
      refine I_enum hg hm (keep.imp fun d' M' ⟨e1, e2⟩ => ?_) hs
      subst e1 e2
      simp only [Rs.bind] at g
      split at g
      · rename_i hr
        exact ⟨_, rd_ok hr, _, g, fun M h => gd1 h⟩
      · exact g.elim
  | ex x G2 M1 =>
    rw [he] at g h1
    exact I_enum hg hm ((h1 (fun _ _ => False) EW hw g).imp fun _ _ z => z.elim) hs
  | no => rw [he] at g; exact g.elim
theorem SI.zip {elts : List Expr} {kk : Nat} {tpos : Pos} (hg : Gl X "zip") (hm : X.mg "zip" = none) (h1 : SE X cf e1 i1) (h2 : SE X cf e2 i2) (hs : starEach [e1, e2] X.env = (false, eval e1 X.env) :: starEach [e2] X.env := by rfl) (hs2 : starEach [e2] X.env = (false, eval e2 X.env) :: starEach [] X.env := by rfl) (hpl : (backTo pos (starEach [e2] X.env)).any (·.1) = false := by rfl) :
    SI X cf (.Tuple elts kk tpos) (.Call (.Name "zip" p) [e1, e2] [] pos) (.zip i1 i2) := .mk fun b Γ M R EW hw g => I_zip hg hm (h1 b Γ M _ EW hw ((Good.bnd g).imp (fun d M1 q => h2 b Γ M1 _ EW hw ((Good.bnd q).imp (fun d' M2 q => by
  split at q
  · exact .inr ⟨_, _, rfl, rfl, _, q, fun M h => trivial⟩
  · split at q
    · rename_i ds es hr hr'
      exact .inl ⟨ds, es, rd_ok hr, rd_ok hr', _, q, fun M h => gd2 h⟩
    · exact q.elim) fun _ _ _ q => q)) fun _ _ _ q => q)) hs hs2 hpl
end
end Ab
end

section
set_option Elab.async false
set_option linter.all false
set_option maxRecDepth 100000
set_option maxHeartbeats 4000000
/-! Ab17: comprehensions, calls, statements. -/
namespace Ab
open PySem PySem.Spec PyProof.Rows L2
def SIfs (X : Cx) (scope : Scope) (cf : CallF) (ifs : List Expr) (ic : Ex) : Prop := match ifs with
  | [] => ic = .dat (.bl true)
  | [c] => ∀ s H C cl fp xb, ST (blx X s H scope (compEnvC scope cl C X.env) fp xb) cf c ic
  | _ => False
def SB (X : Cx) (scope : Scope) (cf : CallF) (e : Expr) (ie : Ex) : Prop := ∀ s H C cl fp xb, SE (blx X s H scope (compEnvC scope cl C X.env) fp xb) cf e ie
theorem putT_ok {t : Tgt} {d : Dat} {Γ Γ' : Gam} (h : putT t d Γ = some Γ') : t.Put d Γ Γ' := by
  unfold putT at h
  split at h
  · cases h; exact .one _ _ _
  · split at h
    · cases h; exact .tup (by assumption)
    · cases h
  · cases h
theorem good_lc {g : Gd} {f : Dat → Mem → Rs (Option Dat)} {d : Dat} {ds acc : List Dat} {M : Mem} {R : List Dat → Mem → Prop} {E : Exn → Gam → Mem → Prop} (h : Good (lcGo g f (d :: ds) acc M) R E) :
    Good (f d M) (fun o M' => gdOk M' g = true ∧ match o with
      | some y => Good (lcGo g f ds (acc ++ [y]) M') R E
      | none => Good (lcGo g f ds acc M') R E) (fun _ _ _ => False) := by
  unfold lcGo at h
  cases hf : f d M with
  | ok o M' =>
    rw [hf] at h
    cases o with
    | some y => exact good_if h
    | none => exact good_if h
  | ex x Γ M' => rw [hf] at h; exact h
  | no => rw [hf] at h; exact h
theorem drop_get {α : Type} {l : List α} {i : Nat} {x : α} (h : l[i]? = some x) : l.drop i = x :: l.drop (i + 1) := by
  obtain ⟨hi, e⟩ := List.getElem?_eq_some_iff.mp h
  rw [List.drop_eq_getElem_cons hi, e]
section
variable {X : Cx} {b : Bas} {cf : CallF} {Γ : Gam} {M : Mem} {elt tg iter : Expr} {ifs : List Expr} {scope : Scope} {own : List (Str × Nat)} {pos : Pos} {ie ic : Ex} {ir : Ir} {t : Tgt} {vs : List Nat} {c : Bool}
def lcF (cf : CallF) (t : Tgt) (vs : List Nat) (cond e : Ex) (Γ : Gam) (d : Dat) (M : Mem) : Rs (Option Dat) := match putT t d (wipeG Γ vs) with
  | some Γ2 => (asB (evE cf cond Γ2 M)).bind fun k M => match k with
    | true => (evE cf e Γ2 M).bind fun y M => .ok (some y) M
    | false => .ok none M
  | none => .no
theorem lc_ask {g : Gd} {ds : List Dat} {RD : List Dat → Mem → Prop} {Gm : Mem → Prop} {M1 : Mem} {E : Exn → Gam → Mem → Prop} (hI : SIfs X scope cf ifs ic) (hE : SB X scope cf elt ie) (hl : ds.length ≤ sizeLine) (h0 : gdOk M1 g = true) (hG : ∀ M, gdOk M g = true → Gm M)
    (h : Good (lcGo g (lcF cf t vs ic ie Γ) ds [] M1) RD E) : LcAsk X b scope t vs ifs elt Γ RD ds Gm M1 := by
  refine ⟨fun i acc M' => acc.length ≤ i ∧ gdOk M' g = true ∧ Good (lcGo g (lcF cf t vs ic ie Γ) (ds.drop i) acc M') RD E, ⟨Nat.le_refl _, h0, h⟩, fun i acc M' _ q => hG M' q.2.1, fun i d acc M' hd q => ?_, fun acc M' q => ?_⟩
  · obtain ⟨q1, q2, q3⟩ := q
    rw [drop_get hd] at q3
    have q4 := good_lc q3
    unfold lcF at q4
    cases hp : putT t d (wipeG Γ vs) with
    | none => rw [hp] at q4; exact q4.elim
    | some Γ2 =>
      rw [hp] at q4
      have hi : i < ds.length := (List.getElem?_eq_some_iff.mp hd).1
      refine ⟨Γ2, putT_ok hp, ?_⟩
      have q5 := Good.bnd q4
      have elt_ : ∀ {acc' : List Dat} {M2 : Mem}, Good ((evE cf ie Γ2 M2).bind fun y M => Rs.ok (some y) M) (fun o M' => gdOk M' g = true ∧ match o with
          | some y => Good (lcGo g (lcF cf t vs ic ie Γ) (ds.drop (i + 1)) (acc ++ [y]) M') RD E
          | none => Good (lcGo g (lcF cf t vs ic ie Γ) (ds.drop (i + 1)) acc M') RD E) (fun _ _ _ => False) →
          AEB X b scope elt Γ2 M2 fun y M3 => acc.length < sizeLine ∧ (acc ++ [y]).length ≤ i + 1 ∧ gdOk M3 g = true ∧ Good (lcGo g (lcF cf t vs ic ie Γ) (ds.drop (i + 1)) (acc ++ [y]) M3) RD E := fun {acc' M2} q s H C cl fp =>
        hE s H C cl fp (fun _ _ => False) b Γ2 M2 _ _ XW.no ((Good.bnd q).imp (fun y M3 q => ⟨by omega, by rw [List.length_append]; simpa using q1, q.1, q.2⟩) fun _ _ _ q => q)
      unfold AIfs
      unfold SIfs at hI
      match ifs, hI with
      | [], hI =>
        subst hI
        exact (show _ ∧ _ from ⟨fun _ => elt_ (acc' := acc) q5, fun z => nomatch z⟩)
      | [cc], hI =>
        intro s H C cl fp
        refine hI s H C cl fp (fun _ _ => False) b Γ2 M' _ _ XW.no (q5.imp (fun k M2 q => ?_) fun _ _ _ q => q)
        cases k with
        | true => exact ⟨fun _ => elt_ (acc' := acc) q, fun z => nomatch z⟩
        | false => exact ⟨fun z => (nomatch z), fun _ => ⟨Nat.le_succ_of_le q1, q.1, q.2⟩⟩
      | _ :: _ :: _, hI => exact hI.elim
  · obtain ⟨_, _, q⟩ := q
    rw [List.drop_length] at q
    exact q
theorem AI.imp {R R' : List Dat → (Mem → Prop) → Mem → Prop} (h : AI X b tg iter Γ M R') (k : ∀ ds Gm M1, R' ds Gm M1 → R ds Gm M1) : AI X b tg iter Γ M R := by
  obtain ⟨wi, h1, h2⟩ := h
  exact ⟨wi, h1, fun σ S A H Rw st q => h2 σ S A H Rw st fun J ds Gm M' S' A' H' s' st' g r => q J ds Gm M' S' A' H' s' st' g (k _ _ _ r)⟩
/-- what a comprehension's run asks of its rule -/
theorem lc_ai {R : Dat → Mem → Prop} {EW : Exn → Gam → Mem → Prop} (hw : XW X b EW) (hi : SI X cf tg iter ir) (hI : SIfs X scope cf ifs ic) (hE : SB X scope cf elt ie) (g : Good (evE cf (.lc c t vs ir ic ie) Γ M) R EW) :
    AI X b tg iter Γ M (LcAsk X b scope t vs ifs elt Γ fun acc M' => match c with
      | true => R (.ptr M'.length) (M' ++ [.lst acc])
      | false => R (.lst acc) M') :=
  (hi b Γ M _ EW hw (Good.bnd g)).imp fun ds Gm M1 ⟨gd, q, hG⟩ => by
    obtain ⟨⟨h1, h2⟩, q⟩ := good_if q
    refine lc_ask hI hE h1 h2 hG ((Good.bnd q).imp (fun acc M' q => ?_) fun _ _ _ q => q)
    cases c with
    | true => exact q
    | false => exact q
theorem SE.lc (hc : X.calm = true) (hN : X.N.Nodup) (ok : BlkOk X.N X.env.scope scope own) (hg : BlkG X scope tg (t.g X.K)) (hvs : own.map (·.2) = vs) (hsl : ∀ i ∈ t.slots, i ∈ vs)
    (hi : SI X cf tg iter ir) (hI : SIfs X scope cf ifs ic) (hE : SB X scope cf elt ie) (hs : ∀ x, foldedSetIterable iter X.env x = pure x := by intro _; rfl) : SE X cf (.ListComp elt [⟨tg, iter, ifs, 0⟩] scope pos) (.lc false t vs ir ic ie) := .mk fun b Γ M R EW hw g => by
  subst hvs
  exact A_lc t hc hN ok (fun s H C cl fp => hg s H C cl fp (fun _ _ => False)) hsl (lc_ai hw hi hI hE g) hs
theorem SE.lcC (hc : X.calm = true) (hN : X.N.Nodup) (ok : BlkOk X.N X.env.scope scope own) (hg : BlkG X scope tg (t.g X.K)) (hvs : own.map (·.2) = vs) (hsl : ∀ i ∈ t.slots, i ∈ vs)
    (hi : SI X cf tg iter ir) (hI : SIfs X scope cf ifs ic) (hE : SB X scope cf elt ie) (hs : ∀ x, foldedSetIterable iter X.env x = pure x := by intro _; rfl) : SE X cf (.ListComp elt [⟨tg, iter, ifs, 0⟩] scope pos) (.lc true t vs ir ic ie) := .mk fun b Γ M R EW hw g => by
  subst hvs
  exact A_lcC t hc hN ok (fun s H C cl fp => hg s H C cl fp (fun _ _ => False)) hsl (lc_ai hw hi hI hE g) hs
end

/-! ### comprehensions out of which exceptions go -/
theorem good_lcx {g : Gd} {f : Dat → Mem → Rs (Option Dat)} {d : Dat} {ds acc : List Dat} {M : Mem} {R : List Dat → Mem → Prop} {E : Exn → Gam → Mem → Prop} (h : Good (lcGoX g f (d :: ds) acc M) R E) :
    Good (f d M) (fun o M' => gdOk M' g = true ∧ match o with
      | some y => Good (lcGoX g f ds (acc ++ [y]) M') R E
      | none => Good (lcGoX g f ds acc M') R E) E := by
  unfold lcGoX at h
  cases hf : f d M with
  | ok o M' =>
    rw [hf] at h
    cases o with
    | some y => exact good_if h
    | none => exact good_if h
  | ex x Γ M' => rw [hf] at h; exact h
  | no => rw [hf] at h; exact h
section
variable {X : Cx} {b : Bas} {cf : CallF} {Γ : Gam} {M : Mem} {elt tg iter : Expr} {ifs : List Expr} {scope : Scope} {own : List (Str × Nat)} {pos : Pos} {ie ic : Ex} {ir : Ir} {t : Tgt} {vs : List Nat} {c : Bool} {EW : Exn → Gam → Mem → Prop}
theorem lcx_ask {g : Gd} {ds : List Dat} {RD : List Dat → Mem → Prop} {Gm : Mem → Prop} {M1 : Mem} (hI : SIfs X scope cf ifs ic) (hE : SB X scope cf elt ie) (hl : ds.length ≤ sizeLine) (h0 : gdOk M1 g = true) (hG : ∀ M, gdOk M g = true → Gm M)
    (h : Good (lcGoX g (lcF cf t vs ic ie Γ) ds [] M1) RD (fun x _ M => EW x Γ M)) : LcAskX X scope t vs ifs elt Γ EW RD ds Gm M1 := by
  refine ⟨fun i acc M' => acc.length ≤ i ∧ gdOk M' g = true ∧ Good (lcGoX g (lcF cf t vs ic ie Γ) (ds.drop i) acc M') RD (fun x _ M => EW x Γ M), ⟨Nat.le_refl _, h0, h⟩, fun i acc M' _ q => hG M' q.2.1, fun i d acc M' hd q => ?_, fun acc M' q => ?_⟩
  · obtain ⟨q1, q2, q3⟩ := q
    rw [drop_get hd] at q3
    have q4 := good_lcx q3
    unfold lcF at q4
    cases hp : putT t d (wipeG Γ vs) with
    | none => rw [hp] at q4; exact q4.elim
    | some Γ2 =>
      rw [hp] at q4
      have hi : i < ds.length := (List.getElem?_eq_some_iff.mp hd).1
      refine ⟨Γ2, putT_ok hp, ?_⟩
      have q5 := Good.bnd q4
      have elt_ : ∀ {acc' : List Dat} {M2 : Mem}, Good ((evE cf ie Γ2 M2).bind fun y M => Rs.ok (some y) M) (fun o M' => gdOk M' g = true ∧ match o with
          | some y => Good (lcGoX g (lcF cf t vs ic ie Γ) (ds.drop (i + 1)) (acc ++ [y]) M') RD (fun x _ M => EW x Γ M)
          | none => Good (lcGoX g (lcF cf t vs ic ie Γ) (ds.drop (i + 1)) acc M') RD (fun x _ M => EW x Γ M)) (fun x _ M => EW x Γ M) →
          AEX X scope elt Γ2 M2 (fun y M3 => acc.length < sizeLine ∧ (acc ++ [y]).length ≤ i + 1 ∧ gdOk M3 g = true ∧ Good (lcGoX g (lcF cf t vs ic ie Γ) (ds.drop (i + 1)) (acc ++ [y]) M3) RD (fun x _ M => EW x Γ M)) (fun x _ M => EW x Γ M) := fun {acc' M2} q b s H C cl fp xb hx =>
        hE s H C cl fp xb b Γ2 M2 _ _ hx ((Good.bnd q).imp (fun y M3 q => ⟨by omega, by rw [List.length_append]; simpa using q1, q.1, q.2⟩) fun _ _ _ q => q)
      unfold AIX
      unfold SIfs at hI
      match ifs, hI with
      | [], hI =>
        subst hI
        exact (show _ ∧ _ from ⟨fun _ => elt_ (acc' := acc) q5, fun z => nomatch z⟩)
      | [cc], hI =>
        intro b s H C cl fp xb hx
        refine hI s H C cl fp xb b Γ2 M' _ _ hx (q5.imp (fun k M2 q => ?_) fun _ _ _ q => q)
        cases k with
        | true => exact ⟨fun _ => elt_ (acc' := acc) q, fun z => nomatch z⟩
        | false => exact ⟨fun z => (nomatch z), fun _ => ⟨Nat.le_succ_of_le q1, q.1, q.2⟩⟩
      | _ :: _ :: _, hI => exact hI.elim
  · obtain ⟨_, _, q⟩ := q
    rw [List.drop_length] at q
    exact q
theorem good_lcr {r : Rs (List Dat)} {R : Dat → Mem → Prop} (g : Good ((r.at Γ).bind fun acc M => if c then Rs.ok (.ptr M.length) (M ++ [.lst acc]) else .ok (.lst acc) M) R EW) :
    Good r (lcEnd c R) (fun x _ M => EW x Γ M) := by
  cases r with
  | ok a M =>
    cases c with
    | true => exact g
    | false => exact g
  | ex x G M => exact g
  | no => exact g
theorem lcx_ai {R : Dat → Mem → Prop} (hw : XW X b EW) (hi : SI X cf tg iter ir) (hI : SIfs X scope cf ifs ic) (hE : SB X scope cf elt ie) (g : Good (evE cf (.lcx c t vs ir ic ie) Γ M) R EW) :
    AI X b tg iter Γ M (LcAskX X scope t vs ifs elt Γ EW (lcEnd c R)) :=
  (hi b Γ M _ EW hw (Good.bnd g)).imp fun ds Gm M1 ⟨gd, q, hG⟩ => by
    obtain ⟨⟨h1, h2⟩, q⟩ := good_if q
    exact lcx_ask hI hE h1 h2 hG (good_lcr q)
theorem SE.lcx (lv : DefLv X) (hc : X.calm = true) (hN : X.N.Nodup) (ok : BlkOk X.N X.env.scope scope own) (hg : BlkG X scope tg (t.g X.K)) (hvs : own.map (·.2) = vs) (hsl : ∀ i ∈ t.slots, i ∈ vs)
    (hi : SI X cf tg iter ir) (hI : SIfs X scope cf ifs ic) (hE : SB X scope cf elt ie) (hs : ∀ x, foldedSetIterable iter X.env x = pure x := by intro _; rfl) : SE X cf (.ListComp elt [⟨tg, iter, ifs, 0⟩] scope pos) (.lcx c t vs ir ic ie) := .mk fun b Γ M R EW hw g => by
  subst hvs
  exact A_lcX (c := c) t hw lv hc hN ok hg hsl (lcx_ai hw hi hI hE g) hs
end

/-! ### calls of defs -/
def Exs.len : Exs → Nat
  | .nil => 0
  | .cons _ es => es.len + 1
theorem evA_len {cf : CallF} : ∀ {ies : Exs} {Γ : Gam} {M : Mem} {R : List Dat → Mem → Prop} {E : Exn → Gam → Mem → Prop}, Good (evA cf ies Γ M) R E → Good (evA cf ies Γ M) (fun ds M => ds.length = ies.len ∧ R ds M) E
  | .nil, Γ, M, R, E, g => ⟨rfl, g⟩
  | .cons e es, Γ, M, R, E, g => by
    have g : Good ((evE cf e Γ M).bind fun d M => (evA cf es Γ M).bind fun ds M => Rs.ok (d :: ds) M) R E := g
    show Good ((evE cf e Γ M).bind fun d M => (evA cf es Γ M).bind fun ds M => Rs.ok (d :: ds) M) _ E
    cases he : evE cf e Γ M with
    | ok d M1 =>
      rw [he] at g
      have g2 := evA_len (Good.bnd (show Good ((evA cf es Γ M1).bind fun ds M => Rs.ok (d :: ds) M) R E from g))
      show Good ((evA cf es Γ M1).bind fun ds M => Rs.ok (d :: ds) M) _ E
      cases ha : evA cf es Γ M1 with
      | ok ds M2 =>
        rw [ha] at g2
        exact ⟨congrArg (· + 1) g2.1, g2.2⟩
      | ex x G2 M2 => rw [ha] at g2; exact g2
      | no => rw [ha] at g2; exact g2
    | ex x G1 M1 => rw [he] at g; exact g
    | no => rw [he] at g; exact g
/-- a def of the module, as the runner's j -/
structure HasFn (P : Program) (w : World) (K : PySem.W.Frag) (mg : Str → Option Value) (base : Heap) (cf : CallF) (k : Nat) (x : Str) (j n : Nat) (ps : List Str) : Prop where
  ex : ∃ f fd, FnOk P w K mg base (L2.CX P w) k f fd ps (SpD K n (cf j)) ∧ mg x = some (.ref f) ∧ PySem.W.keepIn K (.ref f) = true ∧ Binds K fd ps [] ∧ KwB K fd ps ps
section
variable {X : Cx} {cf : CallF} {k n j : Nat} {x : Str} {ps : List Str} {e : Expr} {es : List Expr} {kws : List Keyword} {p pos : Pos} {ies : Exs} {w : Cw}
theorem SE.call (hf : HasFn X.prog X.w X.K X.mg X.base cf k x j n ps) (hr : Room k X.A) (hg : Gl X x) (ha : SA X cf (e :: es) ies) (hn : ies.len = n := by rfl) (hdb : (x == ("__debug__" : Str)) = false := by decide) (he : starEach (e :: es) X.env = (false, eval e X.env) :: starEach es X.env := by rfl) (hpl : (backTo pos (starEach es X.env)).any (·.1) = false := by rfl) :
    SE X cf (.Call (.Name x p) (e :: es) [] pos) (.call w j ies) := .mk fun b Γ M R EW hw g => by
  obtain ⟨W, pa, hW, _⟩ := id hw
  obtain ⟨f, fd, F, hm, hk, hb, _⟩ := hf.ex
  refine callP (cf := cf) (w := w) (j := j) (pe_callS F hr hg hm hk hb pa pa_tW hdb he hpl) hW ?_
  exact ha b Γ M _ EW hw ((evA_len (Good.bnd g)).imp (fun ds M1 q => ⟨q.1.trans hn, q.2⟩) fun _ _ _ q => q)
theorem SE.kw (hf : HasFn X.prog X.w X.K X.mg X.base cf k x j n ps) (hr : Room k X.A) (hg : Gl X x) (ha : SK X cf kws ies) (hn : ies.len = n := by rfl) (hall : (backToKw pos (keywordEach kws X.env)).all (·.1.isSome) = true := by rfl) (hks : (backToKw pos (keywordEach kws X.env)).filterMap (·.1) = ps := by rfl)
    (hdb : (x == ("__debug__" : Str)) = false := by decide) (hpl : ((backTo pos (starEach [] X.env)).any (·.1) || (backToKw pos (keywordEach kws X.env)).any (·.1.isNone)) = false := by rfl) :
    SE X cf (.Call (.Name x p) [] kws pos) (.call w j ies) := .mk fun b Γ M R EW hw g => by
  obtain ⟨W, pa, hW, _⟩ := id hw
  obtain ⟨f, fd, F, hm, hk, _, hb⟩ := hf.ex
  refine callP (cf := cf) (w := w) (j := j) (pe_kw0 F hr hg hm hk hb pa pk_tW rfl hall hks hdb hpl) hW ?_
  exact ha b Γ M _ EW hw ((evA_len (Good.bnd g)).imp (fun ds M1 q => ⟨q.1.trans hn, q.2⟩) fun _ _ _ q => q)
/-- a call of a local name that holds a def -/
theorem pe_callLS {i : Nat} {f : Addr} {fd : FuncData} {sp : Sp} {E : L2.St → XK} {t : TA} (F : FnOk X.prog X.w X.K X.mg X.base (L2.CX X.prog X.w) k f fd ps sp) (hr : Room k X.A) (hN : X.N[i]? = some x) (hv : Vis X.env.scope x) (hk : PySem.W.keepIn X.K (.ref f) = true) (hb : Binds X.K fd ps [])
    (hx : ∀ σ, PassesAt (L2.CX X.prog X.w) X σ (E σ)) (ha : PA X (e :: es) t) (hdb : (x == ("__debug__" : Str)) = false) (hcd : (x == ("__classdict__" : Str)) = false)
    (he : starEach (e :: es) X.env = (false, eval e X.env) :: starEach es X.env) (hpl : (backTo pos (starEach es X.env)).any (·.1) = false) : PE X (.Call (.Name x p) (e :: es) [] pos) (fun σ H Q => σ[i]? = some (some (.ref f)) ∧ tCallS sp E t σ H Q) := by
  refine ⟨fun pins s σ H Q I ⟨hs, ht⟩ => wpAny_Call_Name_kw (thn ((pe_var (pos := p) hN hv hdb hcd).run pins s σ H (fun v G => v = .ref f ∧ G = H) I ⟨.ref f, hs, rfl, rfl⟩) fun u s1 ⟨v, G, I1, r1, q1⟩ => ?_)⟩
  obtain ⟨e1, e2⟩ := q1
  subst e1 e2
  cases r1
  exact PySem.W.callWith_K (h₀ := X.base) I.ok.mod.kin hk (thn (ha.run pos pins s1 σ _ _ I1 ht) fun us s2 ⟨vs, H2, I2, r, q⟩ => ⟨I2.kIn, run_fnS F hr hb (hx σ) I2 r q⟩) he hpl
theorem SE.callV {tb : List (Str × Nat × Nat)} {wt : Cw} (i : Nat) (htb : ∀ (y : Str) (j n : Nat), tb.lookup y = some (j, n) → ∃ ps, HasFn X.prog X.w X.K X.mg X.base cf k y j n ps) (hr : Room k X.A) (hN : X.N[i]? = some x) (hv : Vis X.env.scope x) (ha : SA X cf (e :: es) ies)
    (hdb : (x == ("__debug__" : Str)) = false := by decide) (hcd : (x == ("__classdict__" : Str)) = false := by decide) (he : starEach (e :: es) X.env = (false, eval e X.env) :: starEach es X.env := by rfl) (hpl : (backTo pos (starEach es X.env)).any (·.1) = false := by rfl) :
    SE X cf (.Call (.Name x p) (e :: es) [] pos) (.callV wt tb i ies) := .mk fun b Γ M R EW hw g σ S A H Q st pq pins s I => by
  obtain ⟨W, pa, hW, _⟩ := id hw
  unfold evE at g
  split at g
  · rename_i y hΓ
    split at g
    · rename_i j n hl
      obtain ⟨v, h1, h2⟩ := st.env.2 i _ hΓ
      cases h2 with
      | @fn _ f hf =>
        obtain ⟨ps, hF⟩ := htb y j n hl
        obtain ⟨f', fd, F, hm, hk, hb, _⟩ := hF.ex
        have e1 := (PySem.W.mg_of I.ok.mod.kin I.ok.mod.glob hf).symm.trans hm
        cases e1
        refine (pe_callLS F hr hN hv hk hb pa pa_tW hdb hcd he hpl).run pins s σ H Q I ⟨h1, ?_⟩
        exact ev_call (cf := cf) (w := wt) (j := j) hW (ha b Γ M _ EW hw ((Good.bnd g).imp (fun ds M1 q => good_if q) fun _ _ _ q => q)) σ S A H Q st pq
    · exact g.elim
  · exact g.elim
end
end Ab
end

section
set_option Elab.async false
set_option linter.all false
set_option maxRecDepth 100000
set_option maxHeartbeats 4000000
/-! Ab18: statements, defs. -/
namespace Ab
open PySem PySem.Spec PyProof.Rows L2
def flD (D : AEnds) : Fl → Mem → Prop
  | .nx Γ, M => D.nx Γ M
  | .rt d, M => D.rt d M
  | .bk Γ, M => D.bk Γ M
  | .ct Γ, M => D.ct Γ M
structure SG (X : Cx) (cf : CallF) (tg : Expr) (t : Tg) : Prop where
  mk ::
  go : ∀ b d Γ M R EW, XW X b EW → Good (evG cf t d Γ M) R EW → AG X b tg d Γ M R
instance (X : Cx) (cf : CallF) (tg : Expr) (t : Tg) : CoeFun (SG X cf tg t) (fun _ => ∀ b d Γ M R EW, XW X b EW → Good (evG cf t d Γ M) R EW → AG X b tg d Γ M R) := ⟨SG.go⟩
structure SGs (X : Cx) (cf : CallF) (tgs : List Expr) (t : Tgs) : Prop where
  mk ::
  go : ∀ b d Γ M R EW, XW X b EW → Good (evGs cf t d Γ M) R EW → AGs X b tgs d Γ M R
instance (X : Cx) (cf : CallF) (tgs : List Expr) (t : Tgs) : CoeFun (SGs X cf tgs t) (fun _ => ∀ b d Γ M R EW, XW X b EW → Good (evGs cf t d Γ M) R EW → AGs X b tgs d Γ M R) := ⟨SGs.go⟩
structure SS (X : Cx) (wf : Nat) (cf : CallF) (st : Stmt) (ir : Sm) : Prop where
  mk ::
  go : ∀ b Γ M D EW, XW X b EW → Good (evS wf cf ir Γ M) (flD D) EW → AS X b st Γ M D
instance (X : Cx) (wf : Nat) (cf : CallF) (st : Stmt) (ir : Sm) : CoeFun (SS X wf cf st ir) (fun _ => ∀ b Γ M D EW, XW X b EW → Good (evS wf cf ir Γ M) (flD D) EW → AS X b st Γ M D) := ⟨SS.go⟩
structure SSs (X : Cx) (wf : Nat) (cf : CallF) (st : List Stmt) (ir : Sms) : Prop where
  mk ::
  go : ∀ b Γ M D EW, XW X b EW → Good (evSs wf cf ir Γ M) (flD D) EW → ASs X b st Γ M D
instance (X : Cx) (wf : Nat) (cf : CallF) (st : List Stmt) (ir : Sms) : CoeFun (SSs X wf cf st ir) (fun _ => ∀ b Γ M D EW, XW X b EW → Good (evSs wf cf ir Γ M) (flD D) EW → ASs X b st Γ M D) := ⟨SSs.go⟩
section
variable {X : Cx} {wf : Nat} {cf : CallF} {e a c e1 e2 e3 o i tg iter elt : Expr} {tgs es rest : List Expr} {pos p p2 px py pz pt : Pos} {ie ia ic i1 i2 i3 io : Ex} {t : Tg} {ts : Tgs} {st : Stmt} {sts b1 b2 body : List Stmt} {s : Sm} {ss s1 s2 : Sms} {ir : Ir}
/-! targets -/
theorem SG.name (k : Nat) {x : Str} (hN : X.N.Nodup) (hi : X.N[k]? = some x) (hx : Loc X.env.scope x) (hf : X.fn x = true ∨ X.env.scope.names.lookup x = some .local := by first | exact .inl rfl | exact .inr rfl | assumption) : SG X cf (.Name x pos) (.name k) := .mk fun b d Γ M R EW hw g => G_name k hN hi hx g hf
theorem SGs.nil : SGs X cf [] .nil := .mk fun b d Γ M R EW hw g => by
  cases d with
  | nil => exact G_nil g
  | cons _ _ => exact False.elim g
theorem SGs.cons (h : SG X cf tg t) (h2 : SGs X cf tgs ts) (hs : (assignEach (tg :: tgs) X.env).map (·.2) = assign tg X.env :: (assignEach tgs X.env).map (·.2) := by rfl) : SGs X cf (tg :: tgs) (.cons t ts) := .mk fun b d Γ M R EW hw g => by
  cases d with
  | nil => exact False.elim g
  | cons d ds => exact G_cons (h b d Γ M _ EW hw ((Good.bnd g).imp (fun Γ1 M1 q => h2 b ds Γ1 M1 R EW hw q) fun _ _ _ q => q)) hs
theorem SG.tup {k : Nat} (hc : X.calm = true) (h : SGs X cf tgs ts) (hn : (assignEach tgs X.env).length = ts.len := by rfl) (hst : (assignEach tgs X.env).findIdx? (·.1) = none := by rfl) : SG X cf (.Tuple tgs k pos) (.tup ts) := .mk fun b d Γ M R EW hw g => by
  cases d with
  | tup ds =>
    have g : Good (if ds.length = ts.len then evGs cf ts ds Γ M else .no) R EW := g
    obtain ⟨hl, g⟩ := good_if g
    exact G_tup hc (h b ds Γ M R EW hw g) (hn.trans hl.symm) hst
  | _ => exact False.elim g
theorem SG.sub (ho : SE X cf o io) (hi : SE X cf i ic) (ha : ∀ v, assign (.Subscript o i pos) X.env v = (do
      let ov ← holding [v] (eval o X.env)
      let iv ← holding [v, ov] (eval i X.env)
      standAt pos
      holding [v, ov, iv] (setItem ov iv v)
      release [v, ov, iv] []) := by intro _; rfl) : SG X cf (.Subscript o i pos) (.sub io ic) := .mk fun b d Γ M R EW hw g =>
  G_subL (ho b Γ M _ EW hw ((Good.bnd g).imp (fun x M1 q => hi b Γ M1 _ EW hw ((Good.bnd q).imp (fun y M2 q => by
    split at q
    · split at q
      · split at q
        · rename_i hM _ j hj
          exact ⟨_, _, _, j, rfl, hM, rfl, hj, q⟩
        · exact q.elim
      · exact q.elim
    · exact q.elim) fun _ _ _ q => q)) fun _ _ _ q => q)) ha
/-! statements -/
theorem SS.stuck : SS X wf cf st .stuck := .mk fun b Γ M D EW hw g => g.elim
theorem SS.expr (h : SE X cf e ie) (hs : swapsWith e none pos.line X.env = pure false := by rfl) : SS X wf cf (.Expr e pos) (.expr ie) := .mk fun b Γ M D EW hw g => S_expr (h b Γ M _ EW hw ((Good.bnd g).imp (fun d M1 q => q) fun _ _ _ q => q)) hs
theorem SS.set (k : Nat) {x : Str} (hN : X.N.Nodup) (hi : X.N[k]? = some x) (hx : Loc X.env.scope x) (h : SE X cf e ie) (hs : swapsWith e (some (.Name x p2)) pos.line X.env = pure false := by rfl)
    (hf : X.fn x = true ∨ X.env.scope.names.lookup x = some .local := by first | exact .inl rfl | exact .inr rfl | assumption) : SS X wf cf (.Assign [.Name x p2] e pos) (.set k ie) := .mk fun b Γ M D EW hw g => S_set k hN hi hx (h b Γ M _ EW hw ((Good.bnd g).imp (fun d M1 q => q) fun _ _ _ q => q)) hs hf
theorem SS.setLc (k : Nat) (tt : Tgt) {y : Str} {spos : Pos} {scope : Scope} {own : List (Str × Nat)} {ifs : List Expr} {vs : List Nat} (hc : X.calm = true) (hN : X.N.Nodup) (hy : X.N[k]? = some y) (hyl : X.env.scope.names.lookup y = some .local) (ok : BlkOk X.N X.env.scope scope own)
    (hg : BlkG X scope tg (tt.g X.K)) (hvs : own.map (·.2) = vs) (hsl : ∀ i ∈ tt.slots, i ∈ vs) (hi : SI X cf tg iter ir) (hI : SIfs X scope cf ifs ic) (hE : SB X scope cf elt ie)
    (hsw : swapsWith (.ListComp elt [⟨tg, iter, ifs, 0⟩] scope pos) (some (.Name y py)) spos.line X.env = pure true := by rfl) (hs : ∀ x, foldedSetIterable iter X.env x = pure x := by intro _; rfl) : SS X wf cf (.Assign [.Name y py] (.ListComp elt [⟨tg, iter, ifs, 0⟩] scope pos) spos) (.set k (.lc false tt vs ir ic ie)) := .mk fun b Γ M D EW hw g => by
  subst hvs
  exact S_setLc k tt hc hN hy hyl hsw ok (fun s H C cl fp => hg s H C cl fp (fun _ _ => False)) hsl (lc_ai (R := fun d M1 => D.nx (Γ.set k (some d)) M1) hw hi hI hE (Good.bnd g)) hs
theorem SS.setLcC (k : Nat) (tt : Tgt) {y : Str} {spos : Pos} {scope : Scope} {own : List (Str × Nat)} {ifs : List Expr} {vs : List Nat} (hc : X.calm = true) (hN : X.N.Nodup) (hy : X.N[k]? = some y) (hyl : X.env.scope.names.lookup y = some .local) (ok : BlkOk X.N X.env.scope scope own)
    (hg : BlkG X scope tg (tt.g X.K)) (hvs : own.map (·.2) = vs) (hsl : ∀ i ∈ tt.slots, i ∈ vs) (hi : SI X cf tg iter ir) (hI : SIfs X scope cf ifs ic) (hE : SB X scope cf elt ie)
    (hsw : swapsWith (.ListComp elt [⟨tg, iter, ifs, 0⟩] scope pos) (some (.Name y py)) spos.line X.env = pure true := by rfl) (hs : ∀ x, foldedSetIterable iter X.env x = pure x := by intro _; rfl) : SS X wf cf (.Assign [.Name y py] (.ListComp elt [⟨tg, iter, ifs, 0⟩] scope pos) spos) (.set k (.lc true tt vs ir ic ie)) := .mk fun b Γ M D EW hw g => by
  subst hvs
  exact S_setLcC k tt hc hN hy hyl hsw ok (fun s H C cl fp => hg s H C cl fp (fun _ _ => False)) hsl (lc_ai (R := fun d M1 => D.nx (Γ.set k (some d)) M1) hw hi hI hE (Good.bnd g)) hs
theorem SS.par2 (k l : Nat) {x y : Str} {kt k2 : Nat} (hc : X.calm = true) (hN : X.N.Nodup) (hi : X.N[k]? = some x) (hj : X.N[l]? = some y) (hij : k ≠ l) (hx : X.env.scope.names.lookup x = some .local) (hy : X.env.scope.names.lookup y = some .local) (h1 : SE X cf e1 i1) (h2 : SE X cf e2 i2)
    (hw : swappedStores [.Tuple [.Name x px, .Name y py] kt pt] (.Tuple [e1, e2] k2 p2) X.env = pure (some [x, y]) := by rfl)
    (ha1 : starEach [e1, e2] X.env = (false, eval e1 X.env) :: starEach [e2] X.env := by rfl) (ha2 : starEach [e2] X.env = (false, eval e2 X.env) :: starEach [] X.env := by rfl)
    (hs : swapsWithSole [.Tuple [.Name x px, .Name y py] kt pt] (.Tuple [e1, e2] k2 p2) pos.line X.env = pure false := by rfl) : SS X wf cf (.Assign [.Tuple [.Name x px, .Name y py] kt pt] (.Tuple [e1, e2] k2 p2) pos) (.par2 k l i1 i2) := .mk fun b Γ M D EW hW g =>
  S_par2 k l hc hN hi hj hij hx hy hw (h1 b Γ M _ EW hW ((Good.bnd g).imp (fun d M1 q => h2 b Γ M1 _ EW hW ((Good.bnd q).imp (fun d2 M2 q => q) fun _ _ _ q => q)) fun _ _ _ q => q)) ha1 ha2 hs
theorem SS.par3 (k l m : Nat) {x y z : Str} {kt k2 : Nat} (hc : X.calm = true) (hN : X.N.Nodup) (hi : X.N[k]? = some x) (hj : X.N[l]? = some y) (hl : X.N[m]? = some z) (hij : k ≠ l) (hil : k ≠ m) (hjl : l ≠ m) (hx : X.env.scope.names.lookup x = some .local) (hy : X.env.scope.names.lookup y = some .local) (hz : X.env.scope.names.lookup z = some .local)
    (h1 : SE X cf e1 i1) (h2 : SE X cf e2 i2) (h3 : SE X cf e3 i3) (hw : swappedStores [.Tuple [.Name x px, .Name y py, .Name z pz] kt pt] (.Tuple [e1, e2, e3] k2 p2) X.env = pure (some [x, y, z]) := by rfl)
    (ha1 : starEach [e1, e2, e3] X.env = (false, eval e1 X.env) :: starEach [e2, e3] X.env := by rfl) (ha2 : starEach [e2, e3] X.env = (false, eval e2 X.env) :: starEach [e3] X.env := by rfl) (ha3 : starEach [e3] X.env = (false, eval e3 X.env) :: starEach [] X.env := by rfl)
    (hs : swapsWithSole [.Tuple [.Name x px, .Name y py, .Name z pz] kt pt] (.Tuple [e1, e2, e3] k2 p2) pos.line X.env = pure false := by rfl) : SS X wf cf (.Assign [.Tuple [.Name x px, .Name y py, .Name z pz] kt pt] (.Tuple [e1, e2, e3] k2 p2) pos) (.par3 k l m i1 i2 i3) := .mk fun b Γ M D EW hW g =>
  S_par3 k l m hc hN hi hj hl hij hil hjl hx hy hz hw (h1 b Γ M _ EW hW ((Good.bnd g).imp (fun d M1 q => h2 b Γ M1 _ EW hW ((Good.bnd q).imp (fun d2 M2 q => h3 b Γ M2 _ EW hW ((Good.bnd q).imp (fun d3 M3 q => q) fun _ _ _ q => q)) fun _ _ _ q => q)) fun _ _ _ q => q)) ha1 ha2 ha3 hs
theorem SS.asg (h : SE X cf e ie) (hg : SG X cf tg t) (hs : swapsWithSole [tg] e pos.line X.env = pure false := by rfl) (hw : swappedStores [tg] e X.env = pure none := by rfl) (h1 : (assignEach [tg] X.env).map (·.2) = [assign tg X.env] := by rfl) : SS X wf cf (.Assign [tg] e pos) (.asg t ie) := .mk fun b Γ M D EW hW g =>
  S_asg (h b Γ M _ EW hW ((Good.bnd g).imp (fun d M1 q => hg b d Γ M1 _ EW hW ((Good.bnd q).imp (fun Γ' M' q => q) fun _ _ _ q => q)) fun _ _ _ q => q)) hs hw h1
theorem SS.add (k : Nat) {x : Str} (hN : X.N.Nodup) (hi : X.N[k]? = some x) (hx : Loc X.env.scope x) (h : SE X cf e ie) (hf : X.fn x = true ∨ X.env.scope.names.lookup x = some .local := by first | exact .inl rfl | exact .inr rfl | assumption) : SS X wf cf (.AugAssign (.Name x p2) .Add e pos) (.aug k false ie) := .mk fun b Γ M D EW hW g => by
  unfold evS at g
  split at g
  · rename_i n hΓ
    refine S_augAdd k hN hi hx hΓ (h b Γ M _ EW hW ((Good.bnd g).imp (fun d M1 q => ?_) fun _ _ _ q => q)) hf
    cases d with
    | int j => exact ⟨j, rfl, q⟩
    | _ => exact False.elim q
  · exact g.elim
theorem SS.sub (k : Nat) {x : Str} (hN : X.N.Nodup) (hi : X.N[k]? = some x) (hx : Loc X.env.scope x) (h : SE X cf e ie) (hf : X.fn x = true ∨ X.env.scope.names.lookup x = some .local := by first | exact .inl rfl | exact .inr rfl | assumption) : SS X wf cf (.AugAssign (.Name x p2) .Sub e pos) (.aug k true ie) := .mk fun b Γ M D EW hW g => by
  unfold evS at g
  split at g
  · rename_i n hΓ
    refine S_augSub k hN hi hx hΓ (h b Γ M _ EW hW ((Good.bnd g).imp (fun d M1 q => ?_) fun _ _ _ q => q)) hf
    cases d with
    | int j => exact ⟨j, rfl, q⟩
    | _ => exact False.elim q
  · exact g.elim
theorem SS.iff (hc : ST X cf c ic) (h1 : SSs X wf cf b1 s1) (h2 : SSs X wf cf b2 s2) : SS X wf cf (.If c b1 b2 pos) (.iff ic s1 s2) := .mk fun b Γ M D EW hW g =>
  S_if (hc b Γ M _ EW hW ((Good.bnd (show Good ((asB (evE cf ic Γ M)).bind _) _ _ from g)).imp (fun k M1 q => ⟨fun ek => by subst ek; exact h1 b Γ M1 D EW hW q, fun ek => by subst ek; exact h2 b Γ M1 D EW hW q⟩) fun _ _ _ q => q))
theorem SS.ret (h : SE X cf e ie) : SS X wf cf (.Return (some e) pos) (.ret ie) := .mk fun b Γ M D EW hW g => S_ret (h b Γ M _ EW hW ((Good.bnd (show Good ((evE cf ie Γ M).bind _) _ _ from g)).imp (fun d M1 q => q) fun _ _ _ q => q))
theorem SS.retN : SS X wf cf (.Return none pos) .retN := .mk fun b Γ M D EW hW g => S_retN g
theorem SS.brk : SS X wf cf (.Break pos) .brk := .mk fun b Γ M D EW hW g => S_break g
theorem SS.cnt : SS X wf cf (.Continue pos) .cnt := .mk fun b Γ M D EW hW g => S_continue g
theorem SS.pass : SS X wf cf (.Pass pos) .pass := .mk fun b Γ M D EW hW g => S_pass g
theorem SSs.nil : SSs X wf cf [] .nil := .mk fun b Γ M D EW hW g => S_nil g
theorem SSs.cons (h : SS X wf cf st s) (h2 : SSs X wf cf sts ss) : SSs X wf cf (st :: sts) (.cons s ss) := .mk fun b Γ M D EW hW g =>
  S_cons (h b Γ M _ EW hW ((Good.bnd (show Good ((evS wf cf s Γ M).bind _) _ _ from g)).imp (fun f M1 q => by
    cases f with
    | nx Γ' => exact h2 b Γ' M1 D EW hW q
    | rt d => exact q
    | bk Γ' => exact q
    | ct Γ' => exact q) fun _ _ _ q => q))
theorem SSs.frz (k : Nat) (h : SSs X wf cf sts ss) : SSs X wf cf sts (.frz k ss) := .mk fun b Γ M D EW hW g => by
  unfold evSs at g
  split at g
  · split at g
    · rename_i kk _ ds hM
      exact S_freeze _ hM (h b _ _ D EW hW g)
    · exact g.elim
  · exact g.elim
theorem good_wh {cc : Gam → Mem → Rs Bool} {f : Gam → Mem → Rs Fl} {n : Nat} {Γ : Gam} {M : Mem} {R : Fl → Mem → Prop} {E : Exn → Gam → Mem → Prop} (g : Good (whGo cc f (n + 1) Γ M) R E) :
    Good (cc Γ M) (fun k M' => match k with
      | true => Good (f Γ M') (fun r M2 => match r with
        | .nx Γ2 => Good (whGo cc f n Γ2 M2) R E
        | .ct Γ2 => Good (whGo cc f n Γ2 M2) R E
        | .bk Γ2 => R (.nx Γ2) M2
        | .rt d => R (.rt d) M2) E
      | false => R (.nx Γ) M') E := by
  unfold whGo at g
  cases hc : cc Γ M with
  | ok k M' =>
    rw [hc] at g
    cases k with
    | true =>
      show Good (f Γ M') _ E
      cases hf : f Γ M' with
      | ok r M2 =>
        simp only [hf] at g
        cases r <;> exact g
      | ex x Γ2 M2 => simp only [hf] at g; exact g
      | no => simp only [hf] at g; exact g
    | false => exact g
  | ex x Γ2 M' => rw [hc] at g; exact g
  | no => rw [hc] at g; exact g
theorem SS.whil (hp : PassesOwn (model X.prog X.w) X.A X.env X.xe) (hc : ST X cf c ic) (hb : SSs X wf cf body ss) : SS X wf cf (.While c body [] pos) (.whil ic ss) := .mk fun b Γ M D EW hW g => by
  have g : Good (whGo (fun Γ M => asB (evE cf ic Γ M)) (evSs wf cf ss) wf Γ M) (flD D) EW := g
  refine S_while hp (fun m Γ' M' => Good (whGo (fun Γ M => asB (evE cf ic Γ M)) (evSs wf cf ss) m Γ' M') (flD D) EW) wf g fun m Γ' M' q => ?_
  cases m with
  | zero => exact q.elim
  | succ m =>
    refine hc b Γ' M' _ EW hW ((good_wh q).imp (fun k M1 q => ⟨fun ek => ?_, fun ek => ?_⟩) fun _ _ _ q => q)
    · subst ek
      refine hb b Γ' M1 _ EW hW (Good.imp q (fun r M2 q => ?_) fun _ _ _ q => q)
      cases r with
      | nx Γ2 => exact ⟨m, Nat.lt_succ_self m, q⟩
      | ct Γ2 => exact ⟨m, Nat.lt_succ_self m, q⟩
      | bk Γ2 => exact q
      | rt d => exact q
    · subst ek
      exact q
theorem good_for {gd : Gd} {f : Dat → Gam → Mem → Rs Fl} {d : Dat} {ds : List Dat} {Γ : Gam} {M : Mem} {R : Fl → Mem → Prop} {E : Exn → Gam → Mem → Prop} (g : Good (forGo gd f (d :: ds) Γ M) R E) :
    Good (f d Γ M) (fun r M2 => match r with
        | .nx Γ2 => gdOk M2 gd = true ∧ Good (forGo gd f ds Γ2 M2) R E
        | .ct Γ2 => gdOk M2 gd = true ∧ Good (forGo gd f ds Γ2 M2) R E
        | .bk Γ2 => R (.nx Γ2) M2
        | .rt d => R (.rt d) M2) E := by
  unfold forGo at g
  cases hf : f d Γ M with
  | ok r M2 =>
    rw [hf] at g
    cases r with
    | nx Γ2 => exact good_if g
    | ct Γ2 => exact good_if g
    | bk Γ2 => exact g
    | rt d => exact g
  | ex x Γ2 M2 => rw [hf] at g; exact g
  | no => rw [hf] at g; exact g
theorem SS.forr (hp : PassesOwn (model X.prog X.w) X.A X.env X.xe) (hc : X.calm = true) (hi : SI X cf tg iter ir) (ht : SG X cf tg t) (hb : SSs X wf cf body ss) (hs : ∀ x, foldedSetIterable iter X.env x = pure x := by intro _; rfl) : SS X wf cf (.For tg iter body [] pos) (.forr t ir ss) := .mk fun b Γ M D EW hW g => by
  refine S_for hp hc ((hi b Γ M _ EW hW (Good.bnd (show Good ((evI cf ir Γ M).bind _) _ _ from g))).imp fun ds Gm M1 ⟨gd, q, hG⟩ => ?_) hs
  obtain ⟨h0, q⟩ := good_if q
  refine ⟨fun i Γ' M' => gdOk M' gd = true ∧ Good (forGo gd (fun d Γ M => (evG cf t d Γ M).bind fun Γ M => evSs wf cf ss Γ M) (ds.drop i) Γ' M') (flD D) EW, ⟨h0, q⟩, fun i Γ' M' _ q => hG M' q.1, fun i d Γ' M' hd q => ?_, fun Γ' M' q => ?_⟩
  · obtain ⟨q1, q2⟩ := q
    rw [drop_get hd] at q2
    refine ht b d Γ' M' _ EW hW ((Good.bnd (good_for q2)).imp (fun Γ2 M2 q => ?_) fun _ _ _ q => q)
    refine hb b Γ2 M2 _ EW hW (Good.imp q (fun r M3 q => ?_) fun _ _ _ q => q)
    cases r with
    | nx Γ3 => exact q
    | ct Γ3 => exact q
    | bk Γ3 => exact q
    | rt d => exact q
  · obtain ⟨_, q⟩ := q
    rw [List.drop_length] at q
    exact q
end

/-! ### defs -/
section
variable {P : Program} {w : World} {K : PySem.W.Frag} {mg : Str → Option Value} {base : Heap} {wf : Nat} {cf : CallF}
def callF (wf : Nat) (cf : CallF) (d : Df) (ds : List Dat) (M : Mem) : Rs Dat := if ds.length = d.pars then callD wf cf d ds M else .no
theorem fn_run {x qual : Str} {st : Stmt} {f : Addr} {fd : FuncData} {N ps : List Str} {k n : Nat} {d : Df} (Fn : Fun K x qual st f fd) (Sc : FnScope N ps (defScope st)) (hn : ps.length = n) (hs : N.length = d.slots)
    (hbody : ∀ (cdv : Value) (A : Around) (outer : List Env) (s : Shared) (H : Hp) (E : XK), Room k (A.deeper (envOfC qual (defScope st) s.heap.objs.size f cdv)) → SSs (cxOf (L2.CX P w) P w K mg base N qual (defScope st) f cdv A outer s H E) wf cf (defBody st) d.body) :
    FnOk P w K mg base (L2.CX P w) (k + 1) f fd ps (SpD K n (callF wf cf d)) :=
  fn_D Fn Sc hn fun cdv A outer s H E b ds M R EF hr hl hE g => by
    unfold callF at g
    obtain ⟨_, g⟩ := good_if g
    unfold callD at g
    rw [← hs] at g
    refine hbody cdv A outer s H E hr b (startG N ds) M (endsOf R) _ (XW.of (takes_of rfl rfl rfl rfl) hE) ((Good.bnd g).imp (fun r M1 q => ?_) fun _ _ _ q => q)
    cases r with
    | nx Γ => exact q
    | rt d => exact q
    | bk Γ => exact q.elim
    | ct Γ => exact q.elim
theorem fn_run0 {f : Addr} {fd : FuncData} {ps : List Str} {n j : Nat} {T : List Df} : FnOk P w K mg base (L2.CX P w) 0 f fd ps (SpD K n (runF wf T 0 j)) :=
  ⟨fun vs H Q E h => by
    obtain ⟨_, _, _, _, _, _, _, g⟩ := h
    exact g.elim, fun A outer s H args us vs Q E hr he hb hv h => by
    obtain ⟨_, _, _, _, _, _, _, g⟩ := h
    exact g.elim⟩
theorem runF_succ {T : List Df} {k j : Nat} {d : Df} (h : T[j]? = some d) : runF wf T (k + 1) j = callF wf (runF wf T k) d := by
  funext ds M
  show (match T[j]? with | some f => if ds.length = f.pars then callD wf (runF wf T k) f ds M else .no | none => .no) = _
  rw [h]
  rfl
end
end Ab
end

section
set_option Elab.async false
set_option linter.all false
set_option maxRecDepth 100000
set_option maxHeartbeats 4000000
/-! Bx7: raise, try, two targets. -/
namespace Ab
open PySem PySem.Spec PyProof.Rows L2
/-- an own exception class of the module -/
structure ClsD (K : PySem.W.Frag) (mg : Str → Option Value) (x : Str) : Prop where
  ex : ∃ C, mg x = some (.ref C) ∧ PySem.W.nsIn K mainGlobals x = some (some (.ref C)) ∧ PySem.W.excIn K C He.veBase "ValueError.__new__" = true ∧ PySem.W.keepIn K (.ref C) = true ∧
    PySem.W.subIn K (.ref C) (.type "BaseException") = some true ∧ PySem.W.typeIn K (.ref C) = some (.type "type") ∧ ExcC K C ∧ PySem.W.kitOne K (.ref C) (.type "ValueError") = some true
/-- which clause takes which class -/
def ClsP (K : PySem.W.Frag) (cs : List Str) : Prop := ∀ x ∈ cs, ∀ y ∈ cs, ∀ u v, PySem.W.nsIn K mainGlobals x = some (some u) → PySem.W.nsIn K mainGlobals y = some (some v) → PySem.W.exmOne K u v = some (decide (y = x))
theorem pmk_own0 {X : Cx} {C : Addr} {bmB : List Value} {B newId initId : String} {x : Str} {p pos : Pos} (F : ExcBaseFacts B newId initId bmB) (q : PySem.W.excIn X.K C bmB newId = true) (gC : X.mg x = some (.ref C)) (kC : PySem.W.keepIn X.K (.ref C) = true) (r : Raises X (.ref C)) (hg : Gl X x) (hdb : (x == ("__debug__" : Str)) = false) :
    PMk X (.Call (.Name x p) [] [] pos) (fun _ H Q => Q (.ref C) none H) := by
  intro pins s σ H Q I h
  refine wpAny_Call_Name_kw (ld_glob I hg gC (PySem.W.callWith_K0 I.kIn kC ?_) hdb)
  obtain ⟨bm, N, nm, qn, bs, hdct, sn, sub, ab, col, dd, k0, k1, k2, k3, k5, mN, hC, hN, hni, T⟩ := exc_obj I.kIn q
  exact wpAny_call_exc_subT F T hC hN hni (fun h' e hm => mk_of I hm r h (I.hok.gone hm.new)) (Nat.zero_le _)
section
variable {X : Cx} {wf : Nat} {cf : CallF} {e a c e1 e2 e3 o i tg tg2 iter elt : Expr} {tgs es rest : List Expr} {pos p p2 px py pz pt : Pos} {ie ia ic i1 i2 i3 io : Ex} {t t2 : Tg} {ts : Tgs} {st : Stmt} {sts b1 b2 body : List Stmt} {s : Sm} {ss s1 s2 : Sms} {ir : Ir}
theorem SS.raise {x : Str} (hd : ClsD X.K X.mg x) (lv : DefLv X) (hc : X.calm = true) (hg : Gl X x) (hdb : (x == ("__debug__" : Str)) = false := by decide) : SS X wf cf (.Raise (some (.Call (.Name x p) [] [] p2)) none pos) (.raise x) := .mk fun b Γ M D EW hw g => by
  obtain ⟨C, h1, h2, h3, h4, h5, h6, _, _⟩ := hd.ex
  obtain ⟨W, _, hW, tk⟩ := hw
  exact AS.of (ps_raise hc (tk lv) (pmk_own0 PySem.F.excBase_ValueError h3 h1 h4 (raises_own h5 h6) hg hdb)) fun σ S A H D' st r => hW (x, none) (.ref C) none σ S A H Γ M st ⟨h2, rfl⟩ g
theorem SS.setLcx (k : Nat) (tt : Tgt) {cc : Bool} {y : Str} {spos : Pos} {scope : Scope} {own : List (Str × Nat)} {ifs : List Expr} {vs : List Nat} (lv : DefLv X) (hc : X.calm = true) (hN : X.N.Nodup) (hy : X.N[k]? = some y) (hyl : X.env.scope.names.lookup y = some .local) (ok : BlkOk X.N X.env.scope scope own)
    (hg : BlkG X scope tg (tt.g X.K)) (hvs : own.map (·.2) = vs) (hsl : ∀ i ∈ tt.slots, i ∈ vs) (hi : SI X cf tg iter ir) (hI : SIfs X scope cf ifs ic) (hE : SB X scope cf elt ie)
    (hsw : swapsWith (.ListComp elt [⟨tg, iter, ifs, 0⟩] scope pos) (some (.Name y py)) spos.line X.env = pure true := by rfl) (hs : ∀ x, foldedSetIterable iter X.env x = pure x := by intro _; rfl) : SS X wf cf (.Assign [.Name y py] (.ListComp elt [⟨tg, iter, ifs, 0⟩] scope pos) spos) (.set k (.lcx cc tt vs ir ic ie)) := .mk fun b Γ M D EW hw g => by
  subst hvs
  exact S_setLcX (c := cc) k tt hw lv hc hN hy hyl hsw ok hg hsl (lcx_ai (R := fun d M1 => D.nx (Γ.set k (some d)) M1) hw hi hI hE (Good.bnd g)) hs

/-! ### try -/
/-- isinstance(n, ValueError), n the error that the suite holds -/
theorem A_isE {ix : Nat} {n : Str} {D a : Addr} {oe : Obj} {pn : List (Addr × Obj)} {b : Bas} {Γ : Gam} {M : Mem} {R : Dat → Mem → Prop} {p3 p4 : Pos} (hN : X.N[ix]? = some n) (hv : Vis X.env.scope n) (hdn : (n == ("__debug__" : Str)) = false) (hcn : (n == ("__classdict__" : Str)) = false) (hg : Gl X "isinstance") (hm : X.mg "isinstance" = none) (hg2 : Gl X "ValueError") (hm2 : X.mg "ValueError" = none)
    (C : ExcC X.K D) (hk : PySem.W.kitOne X.K (.ref D) (.type "ValueError") = some true) (hz : Zc (.ref D) none oe) (hf : ∃ vs, oe.data = .fields vs) (hΓ : Γ[ix]? = some (some (.oth (.ref a)))) (h : R (.bl true) M) :
    AE (X.suite a ((a, oe) :: pn)) b (.Call (.Name "isinstance" p) [.Name n p3, .Name "ValueError" p4] [] p2) Γ M R := by
  refine A_blt (call_isE C hz hf) hg hm (by decide +kernel) (L_cons (A_var ix hN hv hΓ (L_cons (A_bltn (X := X.suite a ((a, oe) :: pn)) (v := .ty "ValueError") (u := .type "ValueError") hg2 hm2 (by decide +kernel) rfl (L_nil ?_) (by decide) (by decide)) rfl) hdn hcn) rfl) (by decide) (by decide) rfl rfl
  intro σ S A H vs Q st r1 pq
  obtain ⟨v, v', ev, ra, rb⟩ := r1.two
  subst ev
  cases ra
  cases rb
  exact ⟨_, .type "ValueError", true, rfl, fun u hu => by cases hu; rfl, hk, pq.here st (.bl _) h⟩
/-- the clauses, as they are written -/
inductive HdR (X : Cx) (cs : List Str) : List ExceptHandler → List Hd → Prop
  | nil : HdR X cs [] []
  | cons {x n y z : Str} {ix k j : Nat} {np q1 q2 q3 q4 q5 q6 q7 q8 q9 : Pos} {hds : List ExceptHandler} {hs : List Hd} (hm : x ∈ cs) (hd : ClsD X.K X.mg x) (hg : Gl X x) (hdb : (x == ("__debug__" : Str)) = false) (hi : X.N[ix]? = some n) (hln : X.env.scope.names.lookup n = some .local)
      (hk : X.N[k]? = some y) (hyl : X.env.scope.names.lookup y = some .local) (ne : ix ≠ k) (hdn : (n == ("__debug__" : Str)) = false) (hcn : (n == ("__classdict__" : Str)) = false) (hg1 : Gl X "isinstance") (hm1 : X.mg "isinstance" = none) (hg2 : Gl X "ValueError") (hm2 : X.mg "ValueError" = none) (r : HdR X cs hds hs) :
      HdR X cs (.ExceptHandler (some (.Name x np)) (some n) [.Assign [.Name y q1] (.List [.Constant (.str z) j q2, .Call (.Name "isinstance" q3) [.Name n q4, .Name "ValueError" q5] [] q6] q7) q8] q9 :: hds) (⟨x, ix, k, z⟩ :: hs)
def tSu (X : Cx) (suite : List Stmt) : Addr → Value → Option Addr → TS := fun a cls d D σ H => ∀ oe pn, Zc cls d oe → (∃ vs, oe.data = .fields vs) → tWSs (X.suite a ((a, oe) :: pn)) suite D σ H
theorem set_two {Γ : Gam} {i k : Nat} {u v : Option Dat} (ne : i ≠ k) : ((Γ.set i u).set k v).set i none = (Γ.set k v).set i none := by
  rw [List.set_comm _ _ ne, List.set_set]
theorem hds_run {cs : List Str} (hP : ClsP X.K cs) (hNd : X.N.Nodup) : ∀ {hds : List ExceptHandler} {hs : List Hd}, HdR X cs hds hs → ∃ l, HdsA X hds l ∧
    ∀ {b : Bas} {W : WX} {EW : Exn → Gam → Mem → Prop} {D : AEnds} {D' : Ends} {σ : L2.St} {S : Hp} {A : List Addr} {H : Hp} {Γ0 : Gam} {M0 : Mem} {x : Exn} {cls : Value} {d : Option Addr} {σ1 : L2.St} {S1 : Hp} {A1 : List Addr} {H1 : Hp} {Γ : Gam} {M : Mem}, ExcW X.K b W EW → Stt X.K b σ S A H Γ0 M0 → RealD X.K b S A H D D' →
      Stt X.K ⟨S, A, H⟩ σ1 S1 A1 H1 Γ M → ExnAt X.K S1 A1 H1 x cls d → x.2 = none → x.1 ∈ cs → (match hs.find? (fun h => decide (h.c = x.1)) with
        | some h => h.i < Γ.length ∧ D.nx ((Γ.set h.k (some (.lst [.str h.x, .bl true]))).set h.i none) M
        | none => EW x Γ M) → wManyA X.K W D' l cls d σ1 H1
  | _, _, .nil => ⟨[], .nil, fun hW st0 r st hx _ _ g => hW _ _ _ _ _ _ _ _ _ (st0.off st) hx g⟩
  | _, _, @HdR.cons _ _ xc n y z ix k j np q1 q2 q3 q4 q5 q6 q7 q8 q9 hds hs hm hd hg hdb hi hln hk hyl ne hdn hcn hg1 hm1 hg2 hm2 r => by
    obtain ⟨l, hl, hrun⟩ := hds_run hP hNd r
    obtain ⟨C, h1, h2, h3, h4, h5, h6, h7, h8⟩ := hd.ex
    refine ⟨(.ref C, ix, tSu X [.Assign [.Name y q1] (.List [.Constant (.str z) j q2, .Call (.Name "isinstance" q3) [.Name n q4, .Name "ValueError" q5] [] q6] q7) q8]) :: l,
      .cons ⟨hg, hdb, .inl h1⟩ hi hln (fun a oe cls d pn hz hf => ⟨fun pins s σ H D I h => h oe pn hz hf pins s I⟩) hl, ?_⟩
    intro b W EW D D' σ S A H Γ0 M0 x cls d σ1 S1 A1 H1 Γ M hW st0 rD st hx hx2 hxc g
    obtain ⟨hns, hxd⟩ := id hx
    refine ⟨decide (xc = x.1), hP x.1 hxc xc hm cls (.ref C) hns h2, fun hb a ha => ?_, fun hb => ?_⟩
    · have e : xc = x.1 := of_decide_eq_true hb
      have g : ix < Γ.length ∧ D.nx ((Γ.set k (some (.lst [.str z, .bl true]))).set ix none) M := by
        rw [List.find?_cons_of_pos (by exact decide_eq_true e)] at g
        exact g
      rw [hx2] at hxd
      have hxd : d = none := hxd
      subst hxd
      have ec : cls = .ref C := by
        rw [← e, h2] at hns
        cases hns
        rfl
      subst ec
      intro oe pn hz hf
      have st2 : Stt X.K ⟨S, A, H⟩ (σ1.set ix (some (.ref a))) S1 A1 H1 (Γ.set ix (some (.oth (.ref a)))) M := st.set (.oth _)
      have lt : ix < Γ.length := g.1
      refine S_cons (X := X.suite a ((a, oe) :: pn)) (b := ⟨S, A, H⟩) (D := ⟨fun Γ' M' => D.nx (Γ'.set ix none) M', D.rt, fun _ _ => False, fun _ _ => False⟩) (Γ := Γ.set ix (some (.oth (.ref a)))) (M := M) (S_set k hNd hk (.inl hyl) (A_lst (L_cons (A_str (L_cons (A_isE hi (.inl hln) hdn hcn hg1 hm1 hg2 hm2 h7 h8 hz hf (List.getElem?_set_self lt) (L_nil ?_)) rfl)) rfl)) rfl (.inr hyl)) _ S1 A1 H1 _ st2 ?_
      · refine ⟨by rw [sizeLine_eq]; simp, S_nil ?_⟩
        show D.nx (((Γ.set ix (some (.oth (.ref a)))).set k _).set ix none) M
        rw [set_two ne]
        exact g.2
      · exact ⟨fun σ' S' A' H' Γ' M' s' t' q => rD.nx _ S' A' H' _ M' (st.base.trans s') ((st0.off t').withEnv (Envs.none t'.env ix)) q, fun σ' S' A' H' Γ' M' v d s' t' rr q => rD.rt _ S' A' H' _ M' v d (st.base.trans s') (st0.off t') rr q, fun _ _ _ _ _ _ _ _ q => q.elim, fun _ _ _ _ _ _ _ _ q => q.elim⟩
    · have e : xc ≠ x.1 := of_decide_eq_false hb
      rw [List.find?_cons_of_neg (by simpa using e)] at g
      exact hrun hW st0 rD st hx hx2 hxc g
/-- the weakest reading of a try's body -/
def tTryB (X : Cx) (body : List Stmt) (W : WX) : TS := fun D σ H => ∀ pn xe, Takes (X.tr pn xe) W → PassesOwn (model X.prog X.w) X.A X.env xe → tWSs (X.tr pn xe) body D σ H
theorem SS.tryy {cs : List Str} {h₀ : ExceptHandler} {hds : List ExceptHandler} {hs : List Hd} (lv : DefLv X) (hN : X.N.Nodup) (hP : ClsP X.K cs) (hb : ∀ (pn : List (Addr × Obj)) (xe : Value → Shared → Prop), PassesOwn (model X.prog X.w) X.A X.env xe → SSs (X.tr pn xe) wf cf body ss) (hh : HdR X cs (h₀ :: hds) hs) :
    SS X wf cf (.Try body (h₀ :: hds) [] [] pos) (.tryy cs ss hs) := .mk fun b Γ M D EW hw g => by
  obtain ⟨W, _, hW, tk⟩ := hw
  obtain ⟨l, hl, hrun⟩ := hds_run hP hN hh
  refine AS.of (ps_try_asM (tb := tTryB X body) hN lv.1 lv.2 (tk lv) (fun W pn xe tk2 po => ⟨fun pins s σ H D I h => h pn xe tk2 po pins s I⟩) hl) fun σ S A H D' st rD => ?_
  intro pn xe tk2 po
  have hE : ExcW X.K ⟨S, A, H⟩ (wManyA X.K W D' l) (fun x Γ1 M1 => Good (match handR cs hs x Γ1 M1 with
      | (some Γ2, _) => Rs.ok (Fl.nx Γ2) M1
      | (none, true) => .ex x Γ1 M1
      | (none, false) => .no) (flD D) EW) := fun x cls d σ1 S1 A1 H1 Γ1 M1 st1 hx g1 => by
    unfold handR at g1
    obtain ⟨xc, x2⟩ := x
    cases x2 with
    | some z => exact g1.elim
    | none =>
      by_cases hc : (cs.any fun c => decide (c = xc)) = true
      · have hm : xc ∈ cs := by
          obtain ⟨c, h1, h2⟩ := List.any_eq_true.mp hc
          rw [← of_decide_eq_true h2]
          exact h1
        refine hrun hW st rD st1 hx rfl hm ?_
        simp only [hc, if_true] at g1
        cases hf : hs.find? (fun h => decide (h.c = xc)) with
        | none => simp only [hf] at g1; exact g1
        | some h =>
          simp only [hf] at g1
          by_cases hlt : h.i < Γ1.length
          · rw [if_pos hlt] at g1; exact ⟨hlt, g1⟩
          · rw [if_neg hlt] at g1; exact g1.elim
      · simp only [hc, if_false] at g1
        exact g1.elim
  refine hb pn xe po ⟨S, A, H⟩ Γ M D _ (XW.of (X := X.tr pn xe) tk2 hE) ?_ σ S A H D' (st.onto (Step.refl _ _ _)) ⟨fun σ' S' A' H' Γ' M' s' t' q => rD.nx σ' S' A' H' Γ' M' s' (st.off t') q, fun σ' S' A' H' Γ' M' v d s' t' rr q => rD.rt σ' S' A' H' Γ' M' v d s' (st.off t') rr q, fun σ' S' A' H' Γ' M' s' t' q => rD.bk σ' S' A' H' Γ' M' s' (st.off t') q, fun σ' S' A' H' Γ' M' s' t' q => rD.ct σ' S' A' H' Γ' M' s' (st.off t') q⟩
  unfold evS at g
  cases hr : evSs wf cf ss Γ M with
  | ok r M1 => rw [hr] at g; exact g
  | ex x Γ1 M1 => rw [hr] at g; exact g
  | no => rw [hr] at g; exact g.elim
end
end Ab
end

section
set_option Elab.async false
set_option linter.all false
set_option maxRecDepth 100000
set_option maxHeartbeats 4000000
/-! Bx8: more expressions. -/
namespace Ab
open PySem PySem.Spec PyProof.Rows L2
/-- a def of the module as a value -/
def FnM (K : PySem.W.Frag) (mg : Str → Option Value) (x : Str) : Prop := ∃ f, mg x = some (.ref f) ∧ PySem.W.nsIn K mainGlobals x = some (some (.ref f))
/-- a constant of the module -/
def CstD (K : PySem.W.Frag) (mg : Str → Option Value) (x : Str) (d : Dat) : Prop := ∃ v u, mg x = some u ∧ RelV v u ∧ ∀ S A, Rep K S A d v
theorem op_or {X : Cx} {f : Value → Value → Sem Value} {r r' : R2} (h : OpR X f r) (h' : OpR X f r') : OpR X f (fun x y H Q => r x y H Q ∨ r' x y H Q) := fun pins s σ H x y v u Q I rx ry q => q.elim (h pins s σ H x y v u Q I rx ry) (h' pins s σ H x y v u Q I rx ry)
def rInTu (K : PySem.W.Frag) (k : Bool → Bool) : R2 := fun x y H Q => ∃ d ds, Dp K H x d ∧ Dp K H y (.tuple ds) ∧ SeqAt.shaped d = true ∧ SeqAt.shaped (.tuple ds) = true ∧ Q (.bl (k (ds.any fun z => PyData.eqv z d))) H
theorem op_inTu {X : Cx} (hu : X.A.units + 65 < cLine) : OpR X (compareOp .In) (rInTu X.K id) := by
  intro pins s σ H x y v u Q I rx ry ⟨d, ds, hd, he, sd, se, q⟩
  obtain ⟨l1, r1⟩ := Dp.reads I d x v hd rx
  obtain ⟨l2, r2⟩ := Dp.reads I (.tuple ds) y u he ry
  exact SeqAt.in_tuple_reads r2 r1 (SeqAt.canLay_of_shaped se) (SeqAt.canLay_of_shaped sd) (room_in_shaped sd hu) ⟨.bl _, H, I, rfl, q⟩
theorem op_notInTu {X : Cx} (hu : X.A.units + 65 < cLine) : OpR X (compareOp .NotIn) (rInTu X.K not) := by
  intro pins s σ H x y v u Q I rx ry ⟨d, ds, hd, he, sd, se, q⟩
  obtain ⟨l1, r1⟩ := Dp.reads I d x v hd rx
  obtain ⟨l2, r2⟩ := Dp.reads I (.tuple ds) y u he ry
  exact SeqAt.notIn_tuple_reads r2 r1 (SeqAt.canLay_of_shaped se) (SeqAt.canLay_of_shaped sd) (room_in_shaped sd hu) ⟨.bl _, H, I, rfl, q⟩
def ltXf (d d2 : Dat) (M2 : Mem) : Option (Dat × Mem) := match d, d2 with
    | .int i, .int j => some (Dat.bl (decide (i < j)), M2)
    | .tup xs, .tup ys => (intsD xs).bind fun ns => (intsD ys).map fun ms => (Dat.bl (HT.lexLt ns ms), M2)
    | _, _ => none
theorem ltXf_eq (d d2 : Dat) (M2 : Mem) : Ab.bin2 .ltX d d2 M2 = ltXf d d2 M2 := by
  unfold Ab.bin2 ltXf
  cases d <;> cases d2 <;> rfl
def repTf (d d2 : Dat) (M2 : Mem) : Option (Dat × Mem) := match d, d2 with
    | .tup xs, .int k => if xs ≠ [] ∧ 2 ≤ k ∧ k ≤ 1000 ∧ xs.length ≤ 1000 then some (Dat.tup (List.replicate k.toNat xs).flatten, M2) else none
    | _, _ => none
theorem repTf_eq (d d2 : Dat) (M2 : Mem) : Ab.bin2 .repT d d2 M2 = repTf d d2 M2 := by
  unfold Ab.bin2 repTf
  cases d <;> cases d2 <;> rfl
def addXf (d d2 : Dat) (M2 : Mem) : Option (Dat × Mem) := match d, d2 with
    | .int i, .int j => some (Dat.int (i + j), M2)
    | .tup xs, .tup ys => if xs.length + ys.length ≤ sizeLine then some (.tup (xs ++ ys), M2) else none
    | d, e => (rdL M2 d).bind fun xs => (rdL M2 e).bind fun ys => if xs.length + ys.length ≤ sizeLine then some (.lst (xs ++ ys), M2) else none
theorem addXf_eq (d d2 : Dat) (M2 : Mem) : Ab.bin2 .addX d d2 M2 = addXf d d2 M2 := rfl
section
variable {X : Cx} {cf : CallF} {e a c e1 e2 e3 o tg iter : Expr} {es rest : List Expr} {kws : List Keyword} {pos p p2 p3 p4 apos cpos kpos : Pos} {ie ia ic i1 i2 i3 io : Ex} {ies : Exs} {b : Bas} {Γ : Gam} {M : Mem} {R : Dat → Mem → Prop}
theorem A_cmpR {op : CmpOp} (h : AE X b a Γ M fun d1 M1 => AE X b c Γ M1 fun d2 M2 => ∃ r, OpR X (compareOp op) r ∧ OpD X.K b r d1 d2 Γ M2 R) (hm : behindInMarks op c = false) : AE X b (.Compare a [op] [c] pos) Γ M R := fun σ S A H Q st p pins s I => wpAny_Compare1 (late_op h st p I) hm
theorem in_opd {neg : Bool} {op : CmpOp} (ho : op = if neg then .NotIn else .In) (hu : X.A.units + 65 < cLine) {d1 d2 : Dat} {k : Bool} (h : inD M d1 d2 = some k) (q : R (.bl (if neg then !k else k)) M) : ∃ r, OpR X (compareOp op) r ∧ OpD X.K b r d1 d2 Γ M R := by
  subst ho
  obtain ⟨p1, e1, h⟩ := Option.bind_eq_some_iff.mp h
  obtain ⟨p2, e2, h⟩ := Option.bind_eq_some_iff.mp h
  split at h
  · split at h
    · rename_i hs
      obtain ⟨s1, s2⟩ := Bool.and_eq_true_iff.mp hs
      cases h
      cases neg with
      | false => exact ⟨_, op_inD hu, fun σ S A H v1 v2 Q st r1 r2 p => ⟨p1, _, pyD_ok st r1 e1, pyD_ok st r2 e2, s1, s2, p.here st (.bl _) q⟩⟩
      | true => exact ⟨_, op_notInD hu, fun σ S A H v1 v2 Q st r1 r2 p => ⟨p1, _, pyD_ok st r1 e1, pyD_ok st r2 e2, s1, s2, p.here st (.bl _) q⟩⟩
    · cases h
  · split at h
    · rename_i hs
      obtain ⟨s1, s2⟩ := Bool.and_eq_true_iff.mp hs
      cases h
      cases neg with
      | false => exact ⟨_, op_inTu hu, fun σ S A H v1 v2 Q st r1 r2 p => ⟨p1, _, pyD_ok st r1 e1, pyD_ok st r2 e2, s1, s2, p.here st (.bl _) q⟩⟩
      | true => exact ⟨_, op_notInTu hu, fun σ S A H v1 v2 Q st r1 r2 p => ⟨p1, _, pyD_ok st r1 e1, pyD_ok st r2 e2, s1, s2, p.here st (.bl _) q⟩⟩
    · cases h
  · cases h
theorem SE.inn (hu : X.A.units + 64 + 2 < cLine) (ha : SE X cf a ia) (hc : SE X cf c ic) (hm : behindInMarks .In c = false := by rfl) : SE X cf (.Compare a [.In] [c] pos) (.bin .inn ia ic) := SE.bin2 .inn (fun b Γ M R h => A_cmpR (h.imp fun d M h => h.imp fun d2 M2 ⟨r, e, q⟩ => by
  obtain ⟨k, e1, e2⟩ := Option.map_eq_some_iff.mp e
  subst e2
  exact in_opd (neg := false) rfl (by omega) e1 q) hm) ha hc
theorem SE.ninn (hu : X.A.units + 64 + 2 < cLine) (ha : SE X cf a ia) (hc : SE X cf c ic) (hm : behindInMarks .NotIn c = false := by rfl) : SE X cf (.Compare a [.NotIn] [c] pos) (.bin .ninn ia ic) := SE.bin2 .ninn (fun b Γ M R h => A_cmpR (h.imp fun d M h => h.imp fun d2 M2 ⟨r, e, q⟩ => by
  obtain ⟨k, e1, e2⟩ := Option.map_eq_some_iff.mp e
  subst e2
  exact in_opd (neg := true) rfl (by omega) e1 q) hm) ha hc
theorem tupI_at {S : Hp} {A : List Addr} {H : Hp} {xs : List Dat} {ns : List Int} {v : V} {σ : L2.St} (st : Stt X.K b σ S A H Γ M) (r : Rep X.K S A (.tup xs) v) (h : intsD xs = some ns) : ∃ x, v = .ref x ∧ SqT X.K H x (ns.map V.int) := by
  have e := intsD_ok h
  subst e
  cases r with
  | tup g q =>
    rw [q.ints] at g
    exact ⟨_, rfl, Same.sqt st.sub g⟩
theorem SE.ltX (hu : X.A.units + 64 < cLine) (ha : SE X cf a ia) (hc : SE X cf c ic) (hm : behindInMarks .Lt c = false := by exact nomark _) : SE X cf (.Compare a [.Lt] [c] pos) (.bin .ltX ia ic) := SE.bin2 .ltX (fun b Γ M R h => A_cmpR (h.imp fun d M h => h.imp fun d2 M2 ⟨r, e, q⟩ => by
  rw [ltXf_eq] at e
  unfold ltXf at e
  split at e
  · cases e
    exact ⟨_, op_lt, opd_I0 (fun _ _ => .bl _) q⟩
  · rename_i xs ys
    obtain ⟨ns, e1, e⟩ := Option.bind_eq_some_iff.mp e
    obtain ⟨ms, e2, e⟩ := Option.map_eq_some_iff.mp e
    subst e
    refine ⟨_, op_ltT (by omega), fun σ S A H v1 v2 Q st r1 r2 p => ?_⟩
    obtain ⟨x, ex, gx⟩ := tupI_at st r1 e1
    obtain ⟨y, ey, gy⟩ := tupI_at st r2 e2
    exact ⟨x, y, ns, ms, ex, ey, gx, gy, p.here st (.bl _) q⟩
  · cases e) hm) ha hc
theorem SE.chain3 {op op' op'' : CmpOp} (ha : SE X cf a ia) (h1 : SE X cf e1 i1) (h2 : SE X cf e2 i2) (h3 : SE X cf e3 i3) (hm : lastMarks [op, op', op''] [e1, e2, e3] = false := by with_unfolding_all rfl) : SE X cf (.Compare a [op, op', op''] [e1, e2, e3] pos) (.chain3 op op' op'' ia i1 i2 i3) := .mk fun b Γ M R EW hw g =>
  A_chain3 (ha b Γ M _ EW hw ((Good.bnd g).imp (fun d M1 q => h1 b Γ M1 _ EW hw ((Good.bnd q).imp (fun x M2 q => by
    cases hc : cmpI op d x with
    | none => rw [hc] at q; exact q.elim
    | some k =>
      rw [hc] at q
      obtain ⟨i, j, ed, ex, hk⟩ := cmpI_ok hc
      refine ⟨i, j, k, ed, ex, hk, fun ek => ?_, fun ek => ?_⟩
      · subst ek; exact q
      · subst ek
        exact h2 b Γ M2 _ EW hw ((Good.bnd q).imp (fun y M3 q => by
          cases hc2 : cmpI op' x y with
          | none => rw [hc2] at q; exact q.elim
          | some k' =>
            rw [hc2] at q
            obtain ⟨j', l, ex', ey, hk'⟩ := cmpI_ok hc2
            have z : Dat.int j = Dat.int j' := ex.symm.trans ex'
            cases z
            refine ⟨l, k', ey, hk', fun ek => ?_, fun ek => ?_⟩
            · subst ek; exact q
            · subst ek
              exact h3 b Γ M3 _ EW hw ((Good.bnd q).imp (fun w M4 q => by
                cases hc3 : cmpI op'' y w with
                | none => rw [hc3] at q; exact q.elim
                | some k'' =>
                  rw [hc3] at q
                  obtain ⟨l', n, ey', ew, hk''⟩ := cmpI_ok hc3
                  have z : Dat.int l = Dat.int l' := ey.symm.trans ey'
                  cases z
                  exact ⟨n, k'', ew, hk'', q⟩) fun _ _ _ q => q)) fun _ _ _ q => q)) fun _ _ _ q => q)) fun _ _ _ q => q)) hm
theorem SE.fnv {x : Str} (hg : Gl X x) (h : FnM X.K X.mg x) (hdb : (x == ("__debug__" : Str)) = false := by decide) : SE X cf (.Name x pos) (.dat (.fn x)) := by
  obtain ⟨f, h1, h2⟩ := h
  exact SE.glob hg h1 (v := .ref f) rfl (fun S A => .fn h2) hdb
theorem SE.cst {x : Str} {d : Dat} (hg : Gl X x) (h : CstD X.K X.mg x d) (hdb : (x == ("__debug__" : Str)) = false := by decide) : SE X cf (.Name x pos) (.dat d) := by
  obtain ⟨v, u, h1, h2, h3⟩ := h
  exact SE.glob hg h1 h2 h3 hdb
theorem SE.repT (ha : SE X cf a ia) (hc : SE X cf c ic) : SE X cf (.BinOp a .Mult c pos) (.bin .repT ia ic) := SE.bin2 .repT (fun b Γ M R h => A_op op_repT (h.imp fun d M h => h.imp fun d2 M2 ⟨r, e, q⟩ => by
  rw [repTf_eq] at e
  unfold repTf at e
  split at e
  rotate_left
  · cases e
  rename_i xs k _
  split at e
  · rename_i hh
    cases e
    exact fun σ S A H v1 v2 Q st r1 r2 p => by
      cases r2
      obtain ⟨x, us, ev, g, q1⟩ := (IsT.tup xs).at st r1
      subst ev
      refine ⟨x, k, us, rfl, rfl, g, fun z => hh.1 ?_, hh.2.1, hh.2.2.1, by rw [← q1.length]; exact hh.2.2.2, fun y hy => ?_⟩
      · rw [z] at q1; cases q1; rfl
      · obtain ⟨s2, st2⟩ := st.lay (o := .tup (List.replicate k.toNat us).flatten) hy
        exact (p.after s2).here st2 (.tup (.inl (.inl upd_same)) ((q1.rep _).mono s2.s s2.a)) q
  · cases e)) ha hc
theorem SE.addX (ha : SE X cf a ia) (hc : SE X cf c ic) : SE X cf (.BinOp a .Add c pos) (.bin .addX ia ic) := SE.bin2 .addX (fun b Γ M R h => bin_late (h.imp fun d M h => h.imp fun d2 M2 ⟨r, e, q⟩ => by
  rw [addXf_eq] at e
  unfold addXf at e
  split at e
  · cases e
    exact ⟨_, op_add, opd_I0 (fun _ _ => .int _) q⟩
  · rename_i xs ys _
    split at e
    · rename_i hz
      cases e
      refine ⟨_, op_catA, fun σ S A H v1 v2 Q st r1 r2 p => ?_⟩
      obtain ⟨x, us, ev, g, q1⟩ := (IsT.tup xs).at st r1
      obtain ⟨y, ws, ev2, g2, q2⟩ := (IsT.tup ys).at st r2
      subst ev ev2
      have R1 := r1
      have R2 := r2
      refine ⟨x, y, us, ws, rfl, rfl, g, g2, by rw [← q1.length, ← q2.length]; exact hz, fun z1 => ?_, fun _ z2 => ?_, fun _ _ y hy => ?_⟩
      · subst z1
        have z : xs = [] := by have := q1.length; simpa using this
        subst z
        exact p.here st R2 q
      · subst z2
        have z : ys = [] := by have := q2.length; simpa using this
        subst z
        have q : R (.tup (xs ++ [])) M2 := q
        rw [List.append_nil] at q
        exact p.here st R1 q
      · obtain ⟨s2, st2⟩ := st.lay (o := .tup (us ++ ws)) hy
        exact (p.after s2).here st2 (.tup (SqT.of upd_same) ((q1.append q2).mono s2.s s2.a)) q
    · cases e
  · obtain ⟨xs, e1, e⟩ := Option.bind_eq_some_iff.mp e
    obtain ⟨ys, e2, e⟩ := Option.bind_eq_some_iff.mp e
    split at e
    · cases e
      exact ⟨_, op_cat, opd_cat (rdL_ok e1) (rdL_ok e2) (by assumption) q⟩
    · cases e)) ha hc

/-! ### xs[::-1], list(range(n)), sorted(set(t)) -/
theorem SE.rev {k : Nat} {q1 q2 q3 : Pos} (ha : SE X cf a ia) : SE X cf (.Subscript a (.Slice none none (some (.UnaryOp .USub (.Constant (.int 1) k q1) q2)) q3) pos) (.un .rev ia) := SE.un1 .rev (fun b Γ M R h => AE.of (pe_revL pe_tW) fun σ S A H Q st p => h σ S A H _ st fun v d M1 S1 A1 H1 s1 st1 r1 ⟨r, e, q⟩ => by
  obtain ⟨ds, e1, e2⟩ := Option.map_eq_some_iff.mp (show (rd M1 d).map (fun ds => (Dat.lst ds.reverse, M1)) = some r from e)
  subst e2
  obtain ⟨x, us, ev, g, q1⟩ := (rd_ok e1).at st1 r1
  subst ev
  refine ⟨x, us, rfl, g, fun y hy => ?_⟩
  obtain ⟨s2, st2⟩ := st1.lay (o := .lst us.reverse) hy
  exact (p.after (s1.trans s2)).here st2 (.lst upd_same (q1.reverse.mono s2.s s2.a)) q) ha
theorem reps_rgV {K : PySem.W.Frag} {S : Hp} {A : List Addr} (n : Int) : Reps K S A (rngD n) (rgV 0 n) := by
  unfold rngD rgV
  rw [Int.sub_zero]
  have key : ∀ l : List Nat, Reps K S A (l.map fun i => Dat.int (i : Nat)) (l.map fun i => V.int (0 + (i : Nat))) := fun l => by
    induction l with
    | nil => exact .nil
    | cons x l ih =>
      refine .cons ?_ ih
      show Rep K S A (.int (x : Nat)) (.int (0 + (x : Nat)))
      rw [Int.zero_add]
      exact .int _
  exact key _
theorem lstRg_ok {n : Int} (h : isR62' n = true) (h2 : n.toNat ≤ sizeLine) : RgOk 0 n := by
  obtain ⟨h1, h3⟩ := Bool.and_eq_true_iff.mp h
  have h1 := of_decide_eq_true h1
  have h3 := of_decide_eq_true h3
  rw [sizeLine_eq] at h2
  exact ⟨by omega, by omega, h1, h3, by rw [Int.sub_zero]; omega⟩
theorem SE.listR (hc : X.calm = true) (hg : Gl X "list") (hm : X.mg "list" = none) (hg2 : Gl X "range") (hm2 : X.mg "range" = none) (ha : SE X cf a ia) (na : starEach [a] X.env = (false, eval a X.env) :: starEach [] X.env := by rfl)
    (na2 : starEach [.Call (.Name "range" p2) [a] [] p3] X.env = (false, eval (.Call (.Name "range" p2) [a] [] p3) X.env) :: starEach [] X.env := by rfl) : SE X cf (.Call (.Name "list" p) [.Call (.Name "range" p2) [a] [] p3] [] pos) (.un .listR ia) := SE.un1 .listR (fun b Γ M R h => AE.of (pe_listRg hc hg hm (prg_1 hg2 hm2 pe_tW na) na2) fun σ S A H Q st p => h σ S A H _ st fun v d M1 S1 A1 H1 s1 st1 r1 ⟨r, e, q⟩ => by
  cases d with
  | int n =>
    have e : (if (isR62' n && decide (n.toNat ≤ sizeLine)) = true then some (Dat.lst (rngD n), M1) else none) = some r := e
    split at e
    · rename_i hh
      obtain ⟨h1, h2⟩ := Bool.and_eq_true_iff.mp hh
      cases e
      cases r1
      refine ⟨n, rfl, lstRg_ok h1 (of_decide_eq_true h2), fun y hy => ?_⟩
      obtain ⟨s2, st2⟩ := st1.lay (o := .lst (rgV 0 n)) hy
      exact (p.after (s1.trans s2)).here st2 (.lst upd_same (reps_rgV n)) q
    · cases e
  | _ => unfold Ab.un1 at e; cases e) ha
theorem SE.listRC (hc : X.calm = true) (hg : Gl X "list") (hm : X.mg "list" = none) (hg2 : Gl X "range") (hm2 : X.mg "range" = none) (ha : SE X cf a ia) (na : starEach [a] X.env = (false, eval a X.env) :: starEach [] X.env := by rfl)
    (na2 : starEach [.Call (.Name "range" p2) [a] [] p3] X.env = (false, eval (.Call (.Name "range" p2) [a] [] p3) X.env) :: starEach [] X.env := by rfl) : SE X cf (.Call (.Name "list" p) [.Call (.Name "range" p2) [a] [] p3] [] pos) (.un .listRC ia) := SE.un1 .listRC (fun b Γ M R h => AE.of (pe_listRg hc hg hm (prg_1 hg2 hm2 pe_tW na) na2) fun σ S A H Q st p => h σ S A H _ st fun v d M1 S1 A1 H1 s1 st1 r1 ⟨r, e, q⟩ => by
  cases d with
  | int n =>
    have e : (if (isR62' n && decide (n.toNat ≤ sizeLine)) = true then some (Dat.ptr M1.length, M1 ++ [.lst (rngD n)]) else none) = some r := e
    split at e
    · rename_i hh
      obtain ⟨h1, h2⟩ := Bool.and_eq_true_iff.mp hh
      cases e
      cases r1
      refine ⟨n, rfl, lstRg_ok h1 (of_decide_eq_true h2), fun y hy => ?_⟩
      obtain ⟨s2, st2⟩ := st1.layCell (o := .lst (rgV 0 n)) (c := .lst (rngD n)) hy ⟨_, upd_same, reps_rgV n⟩
      refine (p.after (s1.trans s2)).here st2 (.ptr ?_) q
      rw [← st1.len, List.getElem?_append_right (Nat.le_refl _), Nat.sub_self] <;> rfl
    · cases e
  | _ => unfold Ab.un1 at e; cases e) ha

/-! ### two targets -/
end
end Ab
end

section
set_option Elab.async false
set_option linter.all false
set_option maxRecDepth 100000
set_option maxHeartbeats 4000000
/-! Bx10: two targets; dicts. -/
namespace Ab
open PySem PySem.Spec PyProof.Rows L2
section
variable {X : Cx} {wf : Nat} {cf : CallF} {e a c e1 e2 e3 o i k v tg tg2 iter elt : Expr} {tgs es rest : List Expr} {pos p p2 px py pz pt apos cpos : Pos} {ie ia ic i1 i2 i3 io iv ik : Ex} {t t2 : Tg} {ts : Tgs} {st : Stmt} {sts b1 b2 body : List Stmt} {s : Sm} {ss s1 s2 : Sms} {ir : Ir}
theorem ps_asg2 {te : TE} {g g2 : TG} (he : PE X e te) (hg : PG X tg g) (hg2 : PG X tg2 g2) (hs : swapsWithSole [tg, tg2] e pos.line X.env = pure false) (hw : swappedStores [tg, tg2] e X.env = pure none)
    (h1 : (assignEach [tg, tg2] X.env).map (·.2) = [assign tg X.env, assign tg2 X.env]) : PS X (.Assign [tg, tg2] e pos) (fun D σ H => te σ H fun v H1 => g v σ H1 fun σ2 H2 => g2 v σ2 H2 D.nx) := by
  refine ⟨fun pins s σ H D I h => ?_⟩
  refine wpAny_Assign_stores (thn (he.run pins s σ H _ I h) fun v s1 ⟨x, H1, I1, r1, q1⟩ => ?_) hs hw
  rw [h1]
  unfold assignAll
  refine wpAny_bind (wpAny_holding (thn (hg.run pins s1 σ H1 x v _ I1 r1 q1) fun _ s2 ⟨σ2, H2, I2, q2⟩ => ?_))
  unfold assignAll
  exact thn (hg2.run pins s2 σ2 H2 x v _ I2 r1 q2) fun _ s3 q => q
theorem SS.asg2 (h : SE X cf e ie) (ht : SG X cf tg t) (ht2 : SG X cf tg2 t2) (hs : swapsWithSole [tg, tg2] e pos.line X.env = pure false := by rfl) (hw : swappedStores [tg, tg2] e X.env = pure none := by rfl)
    (h1 : (assignEach [tg, tg2] X.env).map (·.2) = [assign tg X.env, assign tg2 X.env] := by rfl) : SS X wf cf (.Assign [tg, tg2] e pos) (.asg2 t t2 ie) := .mk fun b Γ M D EW hw2 g => by
  refine AS.of (ps_asg2 pe_tW (pg_tW (tg := tg)) (pg_tW (tg := tg2)) hs hw h1) fun σ S A H D' st r => ?_
  refine h b Γ M _ EW hw2 ((Good.bnd g).imp (fun d M1 q => q) fun _ _ _ q => q) σ S A H _ st fun v d M1 S1 A1 H1 s1 st1 r1 q => ?_
  refine AG.gv (ht b d Γ M1 _ EW hw2 ((Good.bnd q).imp (fun Γ1 M2 q => q) fun _ _ _ q => q)) σ S1 A1 H1 v _ st1 r1 fun σ2 S2 A2 H2 Γ2 M2 s2 st2 q2 => ?_
  exact AG.gv (ht2 b d Γ2 M2 _ EW hw2 ((Good.bnd q2).imp (fun Γ1 M2 q => q) fun _ _ _ q => q)) σ2 S2 A2 H2 v _ st2 (r1.mono s2.s s2.a) fun σ3 S3 A3 H3 Γ3 M3 s3 st3 q3 => r.nx σ3 S3 A3 H3 Γ3 M3 ((s1.trans s2).trans s3) st3 q3

/-! ### dicts -/
theorem keyD_kV {K : PySem.W.Frag} {S : Hp} {A : List Addr} {d : Dat} {v : V} {k : Key} (r : Rep K S A d v) (h : keyD d = some k) : v = kV k := by
  cases r <;> first | (cases h; rfl) | cases h
theorem repkv_val {K : PySem.W.Frag} {S : Hp} {A : List Addr} {k : Key} : ∀ {kvs : List (Key × Dat)} {ws : List (Key × V)}, RepKV K S A kvs ws → (∀ d, valD kvs k = some d → ∃ v, valV ws k = some v ∧ Rep K S A d v) ∧ (valD kvs k = none → valV ws k = none)
  | _, _, .nil => ⟨fun d h => (by cases h), fun _ => rfl⟩
  | (ka, d0) :: kvs, (kb, v0) :: ws, .cons h t => by
    obtain ⟨e, r⟩ := h
    have e : ka = kb := e
    subst e
    have ih := repkv_val (k := k) t
    by_cases hk : ka = k
    · have e1 : valD ((ka, d0) :: kvs) k = some d0 := by simp [valD, hk]
      have e2 : valV ((ka, v0) :: ws) k = some v0 := valV_pos hk
      rw [e1, e2]
      exact ⟨fun d h => by cases h; exact ⟨v0, rfl, r⟩, fun h => by cases h⟩
    · have e1 : valD ((ka, d0) :: kvs) k = valD kvs k := by simp [valD, hk]
      have e2 : valV ((ka, v0) :: ws) k = valV ws k := valV_neg hk
      rw [e1, e2]
      exact ih
theorem repkv_any {K : PySem.W.Frag} {S : Hp} {A : List Addr} {k : Key} : ∀ {kvs : List (Key × Dat)} {ws : List (Key × V)}, RepKV K S A kvs ws → (kvs.any fun kv => decide (kv.1 = k)) = (ws.any fun kv => decide (kv.1 = k))
  | _, _, .nil => rfl
  | (ka, d0) :: kvs, (kb, v0) :: ws, .cons h t => by
    have e : ka = kb := h.1
    subst e
    rw [List.any_cons, List.any_cons, repkv_any t]
theorem repkv_put {K : PySem.W.Frag} {S : Hp} {A : List Addr} {k : Key} {d : Dat} {v : V} {kvs : List (Key × Dat)} {ws : List (Key × V)} (r : RepKV K S A kvs ws) (rv : Rep K S A d v) : RepKV K S A (putD kvs k d) (putK ws k v) := by
  unfold putD putK
  rw [repkv_any r]
  split
  · have key : ∀ {kvs : List (Key × Dat)} {ws : List (Key × V)}, RepKV K S A kvs ws → RepKV K S A (kvs.map fun kv => if kv.1 = k then (kv.1, d) else kv) (ws.map fun kv => if kv.1 = k then (kv.1, v) else kv) := by
      intro kvs ws r
      unfold RepKV at r ⊢
      induction r with
      | nil => exact .nil
      | @cons p q ps qs h t ih =>
        refine .cons ?_ ih
        obtain ⟨pa, pb⟩ := p
        obtain ⟨qa, qb⟩ := q
        have e : pa = qa := h.1
        subst e
        show (if pa = k then (pa, d) else (pa, pb)).1 = (if pa = k then (pa, v) else (pa, qb)).1 ∧ Rep K S A (if pa = k then (pa, d) else (pa, pb)).2 (if pa = k then (pa, v) else (pa, qb)).2
        by_cases hk : pa = k
        · rw [if_pos hk, if_pos hk]; exact ⟨rfl, rv⟩
        · rw [if_neg hk, if_neg hk]; exact ⟨rfl, h.2⟩
    exact key r
  · have key : ∀ {kvs : List (Key × Dat)} {ws : List (Key × V)}, RepKV K S A kvs ws → RepKV K S A (kvs ++ [(k, d)]) (ws ++ [(k, v)]) := by
      intro kvs ws r
      unfold RepKV at r ⊢
      induction r with
      | nil => exact .cons ⟨rfl, rv⟩ .nil
      | cons h t ih => exact .cons h ih
    exact key r
theorem repkv_len {K : PySem.W.Frag} {S : Hp} {A : List Addr} {kvs : List (Key × Dat)} {ws : List (Key × V)} (r : RepKV K S A kvs ws) : kvs.length = ws.length := by
  unfold RepKV at r
  exact Paired.length r
theorem dcl_at {b : Bas} {σ : L2.St} {S : Hp} {A : List Addr} {H : Hp} {Γ : Gam} {M : Mem} {d : Dat} {v : V} {kvs : List (Key × Dat)} (st : Stt X.K b σ S A H Γ M) (r : Rep X.K S A d v) (h : dclD M d = some kvs) : ∃ k x ws, d = .ptr k ∧ A[k]? = some x ∧ M[k]? = some (.dK kvs) ∧ v = .ref x ∧ H x = some (.dK ws) ∧ RepKV X.K S A kvs ws := by
  unfold dclD at h
  split at h
  · rename_i k
    split at h
    · rename_i kv e
      cases h
      cases r with
      | ptr hA =>
        obtain ⟨ws, g, q⟩ := st.cell _ _ _ hA e
        exact ⟨k, _, ws, rfl, hA, e, rfl, g, q⟩
    · cases h
  · cases h
variable {b : Bas} {Γ : Gam} {M : Mem} {R : Dat → Mem → Prop}
theorem SE.dget (hu : X.A.units + 64 < cLine) (ha : SE X cf a ia) (hc : SE X cf c ic) (hs : NoSl c := by exact fun _ _ => rfl) : SE X cf (.Subscript a c pos) (.bin .dget ia ic) := SE.bin2 .dget (fun b Γ M R h => AE.of (pe_dget (by omega) pe_tW pe_tW hs) fun σ S A H Q st p => h σ S A H _ st fun v1 d1 M1 S1 A1 H1 s1 st1 r1 h1 => h1 σ S1 A1 H1 _ st1 fun v2 d2 M2 S2 A2 H2 s2 st2 r2 ⟨r, e, q⟩ => by
  obtain ⟨kvs, e1, e⟩ := Option.bind_eq_some_iff.mp (show ((dclD M2 d1).bind fun kvs => (keyD d2).bind fun k => (valD kvs k).map fun v => (v, M2)) = some r from e)
  obtain ⟨k, e2, e⟩ := Option.bind_eq_some_iff.mp e
  obtain ⟨dv, e3, e4⟩ := Option.map_eq_some_iff.mp e
  subst e4
  obtain ⟨kk, x, ws, z1, hA, hM, z2, hx, rk⟩ := dcl_at st2 (r1.mono s2.s s2.a) e1
  subst z1 z2
  obtain ⟨w, hw, rw'⟩ := (repkv_val rk).1 dv e3
  refine ⟨x, w, rfl, ?_, (p.after (s1.trans s2)).here st2 rw' q⟩
  rw [keyD_kV r2 e2, ← hw]
  exact DGet.k hx) ha hc
theorem din_of {M2 : Mem} {d1 d2 : Dat} {r : Dat × Mem} {f : Bool → Bool} (e : ((dclD M2 d2).bind fun kvs => (keyD d1).map fun k => (Dat.bl (f (valD kvs k).isSome), M2)) = some r) {σ : L2.St} {S2 : Hp} {A2 : List Addr} {H2 : Hp} {v1 v2 : V} (st2 : Stt X.K b σ S2 A2 H2 Γ M2) (r1 : Rep X.K S2 A2 d1 v1) (r2 : Rep X.K S2 A2 d2 v2) :
    ∃ a o, v2 = .ref a ∧ DGet H2 a v1 o ∧ r = (.bl (f o.isSome), M2) := by
  obtain ⟨kvs, e1, e⟩ := Option.bind_eq_some_iff.mp e
  obtain ⟨k, e2, e3⟩ := Option.map_eq_some_iff.mp e
  obtain ⟨kk, x, ws, z1, hA, hM, z2, hx, rk⟩ := dcl_at st2 r2 e1
  refine ⟨x, valV ws k, z2, by rw [keyD_kV r1 e2]; exact DGet.k hx, ?_⟩
  rw [← e3]
  cases hv : valD kvs k with
  | none =>
    rw [(repkv_val rk).2 hv]
    rfl
  | some dv =>
    obtain ⟨w, hw, _⟩ := (repkv_val rk).1 dv hv
    rw [hw]
    rfl
theorem SE.din (hu : X.A.units + 64 < cLine) (ha : SE X cf a ia) (hc : SE X cf c ic) (hm : behindInMarks .In c = false := by rfl) : SE X cf (.Compare a [.In] [c] pos) (.bin .din ia ic) := SE.bin2 .din (fun b Γ M R h σ S A H Q st p pins s I =>
  wpAny_Compare1 ((pc_din (by omega) pe_tW pe_tW).run pins s σ H Q I (h σ S A H _ st fun v1 d1 M1 S1 A1 H1 s1 st1 r1 h1 => h1 σ S1 A1 H1 _ st1 fun v2 d2 M2 S2 A2 H2 s2 st2 r2 ⟨r, e, q⟩ => by
    obtain ⟨x, o, e1, e2, e3⟩ := din_of (f := id) e st2 (r1.mono s2.s s2.a) r2
    subst e3
    exact ⟨x, o, e1, e2, (p.after (s1.trans s2)).here st2 (.bl _) q⟩)) hm) ha hc
theorem SE.dnin (hu : X.A.units + 64 < cLine) (ha : SE X cf a ia) (hc : SE X cf c ic) (hm : behindInMarks .NotIn c = false := by rfl) : SE X cf (.Compare a [.NotIn] [c] pos) (.bin .dnin ia ic) := SE.bin2 .dnin (fun b Γ M R h σ S A H Q st p pins s I =>
  wpAny_Compare1 ((pc_dnotin (by omega) pe_tW pe_tW).run pins s σ H Q I (h σ S A H _ st fun v1 d1 M1 S1 A1 H1 s1 st1 r1 h1 => h1 σ S1 A1 H1 _ st1 fun v2 d2 M2 S2 A2 H2 s2 st2 r2 ⟨r, e, q⟩ => by
    obtain ⟨x, o, e1, e2, e3⟩ := din_of (f := not) e st2 (r1.mono s2.s s2.a) r2
    subst e3
    exact ⟨x, o, e1, e2, (p.after (s1.trans s2)).here st2 (.bl _) q⟩)) hm) ha hc
/-- d.get(k, x) -/
theorem SE.dgt (hu : X.A.units + 64 < cLine) (ho : SE X cf o io) (ha : SE X cf a ia) (hc : SE X cf c ic) (m : M2 X o "get" apos a c cpos := by exact ⟨rfl, rfl, rfl, rfl⟩) : SE X cf (.Call (.Attribute o "get" apos) [a, c] [] cpos) (.dgt io ia ic) := .mk fun b Γ M R EW hw g =>
  AE.of (pe_dget2 (by omega) pe_tW pe_tW pe_tW m) fun σ S A H Q st p => ho b Γ M _ EW hw ((Good.bnd g).imp (fun d M1 q => q) fun _ _ _ q => q) σ S A H _ st fun v1 d1 M1 S1 A1 H1 s1 st1 r1 q1 => by
    cases hd : dclD M1 d1 with
    | none => simp only [hd] at q1; exact q1.elim
    | some kv0 =>
      simp only [hd] at q1
      obtain ⟨kk, x, ws, z1, hA, hM, z2, hx, rk⟩ := dcl_at st1 r1 hd
      subst z2
      refine ⟨x, rfl, .inl ⟨ws, .inl hx⟩, ha b Γ M1 _ EW hw ((Good.bnd q1).imp (fun d M2 q => q) fun _ _ _ q => q) σ S1 A1 H1 _ st1 fun v2 d2 M2 S2 A2 H2 s2 st2 r2 q2 => hc b Γ M2 _ EW hw ((Good.bnd q2).imp (fun d M3 q => q) fun _ _ _ q => q) σ S2 A2 H2 _ st2 fun v3 d3 M3 S3 A3 H3 s3 st3 r3 q3 => ?_⟩
      dsimp only at q3
      split at q3
      · rename_i kvs kx e1 e2
        obtain ⟨k2, x2, ws2, y1, hA2, hM2, y2, hx2, rk2⟩ := dcl_at st3 ((r1.mono s2.s s2.a).mono s3.s s3.a) e1
        cases y2
        refine ⟨valV ws2 kx, by rw [keyD_kV r2 e2]; exact DGet.k hx2, ?_⟩
        cases hv : valD kvs kx with
        | none =>
          rw [(repkv_val rk2).2 hv]
          rw [hv] at q3
          exact (p.after ((s1.trans s2).trans s3)).here st3 r3 q3
        | some dv =>
          obtain ⟨w, hw2, rw2⟩ := (repkv_val rk2).1 dv hv
          rw [hw2]
          rw [hv] at q3
          exact (p.after ((s1.trans s2).trans s3)).here st3 rw2 q3
      · exact q3.elim
/-- {k: v} -/
theorem SE.dict1 (hk : SE X cf k ik) (hv : SE X cf v iv) : SE X cf (.Dict [some k] [v] pos) (.dict1 ik iv) := .mk fun b Γ M R EW hw g =>
  AE.of (pe_disp (pps_cons pe_tW pe_tW pps_nil) rfl rfl (by simp) (by simp)) fun σ S A H Q st p y hy => by
    obtain ⟨s0, st0⟩ := st.layCell (o := .dK []) (c := .dK []) hy ⟨[], upd_same, .nil⟩
    refine hk b Γ _ _ EW hw ((Good.bnd g).imp (fun d M1 q => q) fun _ _ _ q => q) σ S _ _ _ st0 fun v1 d1 M1 S1 A1 H1 s1 st1 r1 q1 => hv b Γ M1 _ EW hw ((Good.bnd q1).imp (fun d M2 q => q) fun _ _ _ q => q) σ S1 A1 H1 _ st1 fun v2 d2 M2 S2 A2 H2 s2 st2 r2 q2 => ?_
    dsimp only at q2
    split at q2
    · rename_i kx hM e2
      have hA : A2[M.length]? = some y := pre_get (s1.a.trans s2.a) (by rw [← st.len, List.getElem?_append_right (Nat.le_refl _), Nat.sub_self] <;> rfl)
      obtain ⟨ws, hx, rk⟩ := st2.cell _ _ _ hA hM
      cases rk
      have e1 : v1 = kV kx := keyD_kV r1 e2
      subst e1
      refine ⟨hx, [(kx, v2)], rfl, by simp, ?_⟩
      obtain ⟨s3, st3⟩ := st2.write (o := .dK [(kx, v2)]) (c := .dK [(kx, d2)]) hA hM (fun z => nomatch z) ⟨_, upd_same, .cons ⟨rfl, r2⟩ .nil⟩
      exact (p.after (((s0.trans s1).trans s2).trans s3)).here st3 (.ptr hA) q2
    · exact q2.elim
/-- d[k] = v -/
theorem SS.dput (hu : X.A.units + 64 < cLine) (ho : SE X cf o io) (ha : SE X cf a ia) (hc : SE X cf c ic) (hs : swapsWith c (some (.Subscript o a p2)) pos.line X.env = pure false := by rfl) : SS X wf cf (.Assign [.Subscript o a p2] c pos) (.dput io ia ic) := .mk fun b Γ M D EW hw g =>
  AS.of (ps_dput (by omega) pe_tW pe_tW pe_tW hs) fun σ S A H D' st r => hc b Γ M _ EW hw ((Good.bnd g).imp (fun d M1 q => q) fun _ _ _ q => q) σ S A H _ st fun v1 d1 M1 S1 A1 H1 s1 st1 r1 q1 =>
    ho b Γ M1 _ EW hw ((Good.bnd q1).imp (fun d M2 q => q) fun _ _ _ q => q) σ S1 A1 H1 _ st1 fun v2 d2 M2 S2 A2 H2 s2 st2 r2 q2 => ha b Γ M2 _ EW hw ((Good.bnd q2).imp (fun d M3 q => q) fun _ _ _ q => q) σ S2 A2 H2 _ st2 fun v3 d3 M3 S3 A3 H3 s3 st3 r3 q3 => by
      dsimp only at q3
      split at q3
      · rename_i kk kx e2
        split at q3
        · rename_i kvs hM
          obtain ⟨hz, q3⟩ := good_if q3
          cases r2.mono s3.s s3.a with
          | ptr hA =>
            obtain ⟨ws, hx, rk⟩ := st3.cell _ _ _ hA hM
            have rv := (r1.mono s2.s s2.a).mono s3.s s3.a
            obtain ⟨s4, st4⟩ := st3.write (o := .dK (putK ws kx v1)) (c := .dK (putD kvs kx d1)) hA hM (fun z => nomatch z) ⟨_, upd_same, repkv_put rk rv⟩
            refine ⟨_, _, rfl, ?_, r.nx σ S3 A3 _ Γ _ (((s1.trans s2).trans s3).trans s4) st4 q3⟩
            rw [keyD_kV r3 e2]
            exact DPut.k hx (by rw [← repkv_len rk]; exact hz)
        · exact q3.elim
      · exact q3.elim
end
end Ab
end

section
set_option Elab.async false
set_option linter.all false
set_option maxRecDepth 100000
set_option maxHeartbeats 4000000
/-! Bx11: dict comprehensions. -/
namespace Ab
open PySem PySem.Spec PyProof.Rows L2
theorem dc_it {J : It} {n : Nat} {G : Hp → Prop} {Y : Nat → Hp → V → Hp → Prop} (w : Walk J n G Y) {g : TG} {tt : TT} {tk tv : TE} {vs : List Nat} {σ : L2.St} {H1 : Hp} {D : Addr} {Qd : Hp → Prop} (Pv : Nat → Hp → Prop) (h0 : Pv 0 (upd H1 D (.dK []))) (hG : ∀ i H, i ≤ n → Pv i H → G H)
    (hs : ∀ i x H H', i < n → Pv i H → Y i H x H' → g x (wipe σ vs) H' fun σ2 H2 => wipe σ2 vs = wipe σ vs ∧ tt σ2 H2 fun b H3 =>
      if b = true then tk σ2 H3 fun y H4 => tv σ2 H4 fun z H5 => ∃ kvs k, y = kV k ∧ H5 D = some (.dK kvs) ∧ kvs.length < sizeLine ∧ Pv (i + 1) (upd H5 D (.dK (putK kvs k z))) else Pv (i + 1) H3) (hd : ∀ H, Pv n H → Qd H) :
    ∃ W : Nat → Nat → Hp → Prop, (∃ m, W 0 m (upd H1 D (.dK []))) ∧ ∀ i m H, W i m H →
      (J.stop i H ∧ Qd H) ∨ (J.go i H ∧ ∃ Nx : Hp → Prop, (∀ H', Nx H' → ∃ m', m' < m ∧ W (i + 1) m' H') ∧ ∀ x H', J.yld i H x H' → g x (wipe σ vs) H' fun σ2 H2 => wipe σ2 vs = wipe σ vs ∧ tt σ2 H2 fun b H3 =>
        if b = true then tk σ2 H3 fun y H4 => tv σ2 H4 fun z H5 => ∃ kvs k, y = kV k ∧ H5 D = some (.dK kvs) ∧ kvs.length < sizeLine ∧ Nx (upd H5 D (.dK (putK kvs k z))) else Nx H3) := by
  refine ⟨fun i m H => m = n - i ∧ i ≤ n ∧ Pv i H, ⟨n, by simp, Nat.zero_le _, h0⟩, ?_⟩
  rintro i m H ⟨rfl, hi, p⟩
  have q := hG i H hi p
  by_cases hlt : i < n
  · exact .inr ⟨w.goes i H hlt q, Pv (i + 1), fun H' p' => ⟨n - (i + 1), by omega, rfl, hlt, p'⟩, fun x H' y => hs i x H H' hlt p (w.yields i H x H' hlt q y)⟩
  · have e : i = n := by omega
    subst e
    exact .inl ⟨w.stops H q, hd H p⟩
theorem length_putD (kvs : List (Key × Dat)) (k : Key) (v : Dat) : (putD kvs k v).length ≤ kvs.length + 1 := by
  unfold putD
  split
  · rw [List.length_map]; omega
  · rw [List.length_append]; simp
section
variable {X : Cx} {b : Bas} {Γ : Gam} {M : Mem} {R : Dat → Mem → Prop} {kx vx tg iter : Expr} {ifs : List Expr} {scope : Scope} {own : List (Str × Nat)} {pos spos : Pos}
def DcAsk (X : Cx) (b : Bas) (scope : Scope) (t : Tgt) (vs : List Nat) (ifs : List Expr) (kx vx : Expr) (Γ : Gam) (RD : List (Key × Dat) → Mem → Prop) (ds : List Dat) (Gm : Mem → Prop) (M1 : Mem) : Prop :=
  ∃ Pv : Nat → List (Key × Dat) → Mem → Prop, Pv 0 [] M1 ∧ (∀ i acc M', i ≤ ds.length → Pv i acc M' → Gm M') ∧
    (∀ i d acc M', ds[i]? = some d → Pv i acc M' → ∃ Γ2, t.Put d (wipeG Γ vs) Γ2 ∧ AIfs X b scope ifs Γ2 M' fun k M2 => (k = true → AEB X b scope kx Γ2 M2 fun x M3 => AEB X b scope vx Γ2 M3 fun y M4 => ∃ kk, keyD x = some kk ∧ acc.length < sizeLine ∧ Pv (i + 1) (putD acc kk y) M4) ∧ (k = false → Pv (i + 1) acc M2)) ∧
    ∀ acc M', Pv ds.length acc M' → RD acc M'
theorem dc_run {wi : TI} {t : Tgt} {σ : L2.St} {S : Hp} {A : List Addr} {H : Hp} {Q : VK} {vs : List Nat} {RD : List (Key × Dat) → Mem → Prop} (st : Stt X.K b σ S A H Γ M) (hsl : ∀ i ∈ t.slots, i ∈ vs)
    (h : IV X.K b wi Γ M (DcAsk X b scope t vs ifs kx vx Γ RD))
    (hQ : ∀ p acc ws M' S' A' H', H p = none → Step S A H S' A' H' → Stt X.K b σ S' A' H' Γ M' → p ∉ A' → S' p = none → H' p = some (.dK ws) → RepKV X.K S' A' acc ws → RD acc M' → Q (.ref p) H') :
    tDc wi (t.g X.K) (tBlkT X scope ifs) (tBlk X scope kx) (tBlk X scope vx) vs σ H Q := by
  refine h σ S A H _ st fun J ds Gm M1 S1 A1 H1 s1 st1 gv hq p hp => ?_
  obtain ⟨Pv, h0, hG, hstep, hd⟩ := hq
  obtain ⟨⟨G, Y, w, wG, wY⟩, _⟩ := gv
  have hp0 : H p = none := none_back s1.dom hp
  have hb : b.H p = none := none_back st1.base.dom hp
  refine dc_it w (fun i H' => ∃ S' A' M' acc ws, Step S1 A1 H1 S' A' H' ∧ Stt X.K b σ S' A' H' Γ M' ∧ p ∉ A' ∧ S' p = none ∧ H' p = some (.dK ws) ∧ RepKV X.K S' A' acc ws ∧ Pv i acc M')
    ⟨S1, A1, M1, [], [], (Step.refl _ _ _).otherNew hp, st1.other hb (st1.freshS hp) (st1.notA hp) (.inl hp), st1.notA hp, st1.freshS hp, upd_same, .nil, h0⟩ ?_ ?_ ?_
  · rintro i H' hi ⟨S', A', M', acc, ws, s', st', n1, n2, hx, hr, pv⟩
    exact wG σ S' A' H' Γ M' s' st' (hG i acc M' hi pv)
  · rintro i x H' H3 hi ⟨S', A', M', acc, ws, s', st', n1, n2, hx, hr, pv⟩ hY
    obtain ⟨S3, d, hds, s3, st3, rd⟩ := wY σ S' A' H' Γ M' i x H3 s' st' (hG i acc M' (Nat.le_of_lt hi) pv) hi hY
    have apart : ∀ {S4 : Hp} {A4 : List Addr} {H4 : Hp} {S5 : Hp} {A5 : List Addr} {H5 : Hp} {u : HO}, Step S4 A4 H4 S5 A5 H5 → p ∉ A4 → S4 p = none → H4 p = some u → p ∉ A5 ∧ S5 p = none ∧ H5 p = some u := fun {S4 A4 H4 S5 A5 H5 u} s m1 m2 m3 => by
      refine ⟨fun z => ?_, ?_, s.keep p u m3 m1⟩
      · rcases s.newA p z with q | q
        · exact m1 q
        · rw [m3] at q; cases q
      · cases e : S5 p with
        | none => rfl
        | some o =>
          rcases s.newS p o e with q | q | q
          · rw [m2] at q; cases q
          · rw [m3] at q; cases q
          · exact absurd q m1
    obtain ⟨k1, k2, k3⟩ := apart s3 n1 n2 hx
    obtain ⟨Γ2, hput, hrun⟩ := hstep i d acc M' hds pv
    have stw : Stt X.K b (wipe σ vs) S3 A' H3 (wipeG Γ vs) M' := st3.withEnv (st3.env.wipe vs)
    refine Tgt.run hput hsl stw rd fun σ4 st4 hw4 => ?_
    refine ⟨by rw [hw4]; exact wipe_wipe fun u hu => hu, ?_⟩
    refine aifs_ev hrun σ4 S3 A' H3 _ st4 fun k M5 S5 A5 H5 s5 st5 ⟨q1, q2⟩ => ?_
    obtain ⟨l1, l2, l3⟩ := apart s5 k1 k2 k3
    have back : ∀ {S6 : Hp} {A6 : List Addr} {H6 : Hp} {M6 : Mem}, Step S3 A' H3 S6 A6 H6 → Stt X.K b σ4 S6 A6 H6 Γ2 M6 → Stt X.K b σ S6 A6 H6 Γ M6 := fun {S6 A6 H6 M6} s t => t.withEnv (st3.env.mono s.s s.a)
    cases k with
    | false =>
      refine iteF ⟨S5, A5, M5, acc, ws, (s'.trans s3).trans s5, back s5 st5, l1, l2, l3, (hr.mono s3.s s3.a).mono s5.s s5.a, q2 rfl⟩
    | true =>
      refine iteT ?_
      intro s0 H0 C cl fp
      refine q1 rfl s0 H0 C cl fp σ4 S5 A5 H5 _ st5 fun y dy M6 S6 A6 H6 s6 st6 r6 q6 => ?_
      obtain ⟨m1, m2, m3⟩ := apart s6 l1 l2 l3
      intro s0 H0 C cl fp
      refine q6 s0 H0 C cl fp σ4 S6 A6 H6 _ st6 fun z dz M7 S7 A7 H7 s7 st7 r7 ⟨kk, ek, hz, q7⟩ => ?_
      obtain ⟨j1, j2, j3⟩ := apart s7 m1 m2 m3
      have hr7 := (((hr.mono s3.s s3.a).mono s5.s s5.a).mono s6.s s6.a).mono s7.s s7.a
      have sA := (((s'.trans s3).trans s5).trans s6).trans s7
      have st7' := back ((s5.trans s6).trans s7) st7
      refine ⟨ws, kk, keyD_kV r6 ek, j3, by rw [← repkv_len hr7]; exact hz, S7, A7, M7, putD acc kk dz, putK ws kk z, sA.other hp ⟨_, j3⟩, st7'.other hb j2 j1 (.inr ⟨_, j3⟩), j1, j2, upd_same, repkv_put hr7 r7, q7⟩
  · rintro H' ⟨S', A', M', acc, ws, s', st', n1, n2, hx, hr, pv⟩
    exact hQ p acc ws M' S' A' H' hp0 (s1.trans s') st' n1 n2 hx hr (hd acc M' pv)
theorem Stt.adoptD {K : PySem.W.Frag} {σ : L2.St} {S : Hp} {A : List Addr} {H : Hp} {p : Addr} {ws : List (Key × V)} {kvs : List (Key × Dat)} (h : Stt K b σ S A H Γ M) (hb : b.H p = none) (hS : S p = none) (hA : p ∉ A) (hp : H p = some (.dK ws)) (hr : RepKV K S A kvs ws) :
    Stt K b σ S (A ++ [p]) H Γ (M ++ [.dK kvs]) := by
  have pr : A <+: A ++ [p] := List.prefix_append _ _
  have st1 : Step b.S b.A b.H S (A ++ [p]) H := h.base.adoptC hb
  have last : ∀ {k : Nat} {x : Addr}, (A ++ [p])[k]? = some x → ¬ k < A.length → k - A.length = 0 ∧ p = x := fun {k x} h1 hk => by
    rw [List.getElem?_append_right (by omega)] at h1
    have hk0 : k - A.length = 0 := by
      have := (List.getElem?_eq_some_iff.mp h1).1
      simp at this
      omega
    rw [hk0] at h1
    exact ⟨hk0, Option.some.inj h1⟩
  refine ⟨st1, h.sub, ?_, ?_, fun k x c' h1 h2 h3 => ?_, fun k x c' h1 h2 => ?_, h.env.mono (Same.refl S) pr⟩
  · rw [List.nodup_append]
    refine ⟨h.nd, by simp, fun a ha b hb => ?_⟩
    have e : b = p := by simpa using hb
    subst e
    exact fun z => hA (z ▸ ha)
  · rw [List.length_append, List.length_append, h.len]
    rfl
  · by_cases hk : k < A.length
    · rw [List.getElem?_append_left hk] at h1
      rw [List.getElem?_append_left (by rw [← h.len]; exact hk)] at h2
      exact h.own k x c' h1 h2 h3
    · obtain ⟨_, e⟩ := last h1 hk
      rw [← e]; exact hS
  · by_cases hk : k < A.length
    · rw [List.getElem?_append_left hk] at h1
      rw [List.getElem?_append_left (by rw [← h.len]; exact hk)] at h2
      exact (h.cell k x c' h1 h2).mono (Same.refl S) pr fun o e => e
    · obtain ⟨hk0, e⟩ := last h1 hk
      subst e
      rw [List.getElem?_append_right (by rw [← h.len]; omega), ← h.len, hk0] at h2
      have e2 : Cel.dK kvs = c' := Option.some.inj h2
      subst e2
      exact ⟨ws, hp, hr.mono (Same.refl S) pr⟩
theorem EV_dc {wi : TI} {t : Tgt} {vs : List Nat} (hsl : ∀ i ∈ t.slots, i ∈ vs) (h : IV X.K b wi Γ M (DcAsk X b scope t vs ifs kx vx Γ fun acc M' => R (.ptr M'.length) (M' ++ [.dK acc]))) : EV X.K b (tDc wi (t.g X.K) (tBlkT X scope ifs) (tBlk X scope kx) (tBlk X scope vx) vs) Γ M R := fun σ S A H Q st p =>
  dc_run st hsl h (fun q acc ws M' S' A' H' hq s' st' n1 n2 hx hr hR =>
    p (.ref q) (.ptr M'.length) (M' ++ [.dK acc]) S' (A' ++ [q]) H' (s'.adoptC hq) (st'.adoptD (none_back st.base.dom hq) n2 n1 hx hr) (.ptr (by rw [← st'.len, List.getElem?_append_right (Nat.le_refl _), Nat.sub_self] <;> rfl)) hR)
/-- y = {..} on one line -/
theorem ps_setDc {wi : TI} {g : TG} {tt : TT} {tk tv : TE} {i : Nat} {y : Str} {py : Pos} (hc : X.calm = true) (hN : X.N.Nodup) (hy : X.N[i]? = some y) (hyl : X.env.scope.names.lookup y = some .local) (hsw : swapsWith (.DictComp kx vx [⟨tg, iter, ifs, 0⟩] scope pos) (some (.Name y py)) spos.line X.env = pure true) (hi : PI X tg iter wi) (ok : BlkOk X.N X.env.scope scope own)
    (hg : ∀ (s : Shared) (H : Hp) (C : Addr) (cl : List (Str × Addr)) (fp : List Addr), PG (X.blk s H scope (compEnvC scope cl C X.env) fp) tg g) (ht : ∀ (s : Shared) (H : Hp) (C : Addr) (cl : List (Str × Addr)) (fp : List Addr), PTs (X.blk s H scope (compEnvC scope cl C X.env) fp) ifs tt)
    (hk : ∀ (s : Shared) (H : Hp) (C : Addr) (cl : List (Str × Addr)) (fp : List Addr), PE (X.blk s H scope (compEnvC scope cl C X.env) fp) kx tk) (he : ∀ (s : Shared) (H : Hp) (C : Addr) (cl : List (Str × Addr)) (fp : List Addr), PE (X.blk s H scope (compEnvC scope cl C X.env) fp) vx tv)
    (hs : ∀ x, foldedSetIterable iter X.env x = pure x) : PS X (.Assign [.Name y py] (.DictComp kx vx [⟨tg, iter, ifs, 0⟩] scope pos) spos) (tAsg (tDc wi g tt tk tv (own.map (·.2))) (gName i)) := by
  refine ⟨fun pins s σ H D I h => ?_⟩
  rw [exec_Assign_Name_used _ _ _ _ hsw]
  refine wpAny_bind (wpAny_standAt (wpAny_bind ?_))
  show wpAny _ X.A (do let _ ← comprehension (.DictComp kx vx [⟨tg, iter, ifs, 0⟩] scope pos) scope X.env (firstIterPos [⟨tg, iter, ifs, 0⟩] pos) newDict false (eval iter X.env) (some (assign (.Name y py) X.env))) _ _ s
  have h : tDc wi g tt tk tv (own.map (·.2)) σ H (fun x H1 => gName i x σ H1 D.nx) := h
  refine wpAny_bind (thn (dc_core (Qf := fun _ t => SP X pins D .next t) hc hN I hi ok hg ht hk he hs h fun L C t m H' J q hn f => ?_) fun _ t hq => wpAny_pure (wpAny_pure hq))
  obtain ⟨f0, f1, f2, f3, f4, f5⟩ := f
  show wpAny _ _ (assign (.Name y py) X.env (.ref L)) _ _ _
  refine wpAny_assign_Name (store_ok2 (v := V.ref L) J hN hy (.inl hyl) rfl (fun t2 J2 ⟨a, sb, ha⟩ => ⟨m, hn.sameBut sb ?_, fun h3 sb3 => ⟨_, H', J2.turned (t' := t2.toks) (fun b o hb e => (sb3.2 b hb).trans e) f0 f1 f3 f4 f5, q⟩⟩) (.inr hyl))
  rcases ha with z | z
  · rw [z]; exact f1
  · exact fun e => f4 y a z e.symm
/-! ### .. of the small language -/
theorem good_dcs {g : Gd} {f : Dat → Mem → Rs (Option (Key × Dat))} {d : Dat} {ds : List Dat} {acc : List (Key × Dat)} {M : Mem} {R : List (Key × Dat) → Mem → Prop} {E : Exn → Gam → Mem → Prop} (h : Good (dcGo g f (d :: ds) acc M) R E) :
    Good (f d M) (fun o M' => gdOk M' g = true ∧ match o with
      | some y => Good (dcGo g f ds (putD acc y.1 y.2) M') R E
      | none => Good (dcGo g f ds acc M') R E) (fun _ _ _ => False) := by
  unfold dcGo at h
  cases hf : f d M with
  | ok o M' =>
    rw [hf] at h
    cases o with
    | some y => exact good_if h
    | none => exact good_if h
  | ex x Γ M' => rw [hf] at h; exact h
  | no => rw [hf] at h; exact h
end
end Ab
end

section
set_option Elab.async false
set_option linter.all false
set_option maxRecDepth 100000
set_option maxHeartbeats 4000000
/-! Bx12: dict comprehensions, dict(pairs), sorted(set(t)), reversed. -/
namespace Ab
open PySem PySem.Spec PyProof.Rows L2
def dcF (cf : CallF) (t : Tgt) (vs : List Nat) (cond k v : Ex) (Γ : Gam) (d : Dat) (M : Mem) : Rs (Option (Key × Dat)) := match putT t d (wipeG Γ vs) with
  | some Γ2 => (asB (evE cf cond Γ2 M)).bind fun c M => match c with
    | true => (evE cf k Γ2 M).bind fun x M => (evE cf v Γ2 M).bind fun y M => match keyD x with
      | some kx => .ok (some (kx, y)) M
      | none => .no
    | false => .ok none M
  | none => .no
section
variable {X : Cx} {wf : Nat} {b : Bas} {cf : CallF} {Γ : Gam} {M : Mem} {kx vx tg iter a c e o : Expr} {ifs : List Expr} {scope : Scope} {own : List (Str × Nat)} {pos spos py p p2 p3 p4 : Pos} {ik iv ic ia ie : Ex} {ir : Ir} {t : Tgt} {vs : List Nat}
theorem dc_ask {g : Gd} {ds : List Dat} {RD : List (Key × Dat) → Mem → Prop} {Gm : Mem → Prop} {M1 : Mem} {E : Exn → Gam → Mem → Prop} (hI : SIfs X scope cf ifs ic) (hK : SB X scope cf kx ik) (hE : SB X scope cf vx iv) (hl : ds.length ≤ sizeLine) (h0 : gdOk M1 g = true) (hG : ∀ M, gdOk M g = true → Gm M)
    (h : Good (dcGo g (dcF cf t vs ic ik iv Γ) ds [] M1) RD E) : DcAsk X b scope t vs ifs kx vx Γ RD ds Gm M1 := by
  refine ⟨fun i acc M' => acc.length ≤ i ∧ gdOk M' g = true ∧ Good (dcGo g (dcF cf t vs ic ik iv Γ) (ds.drop i) acc M') RD E, ⟨Nat.le_refl _, h0, h⟩, fun i acc M' _ q => hG M' q.2.1, fun i d acc M' hd q => ?_, fun acc M' q => ?_⟩
  · obtain ⟨q1, q2, q3⟩ := q
    rw [drop_get hd] at q3
    have q4 := good_dcs q3
    unfold dcF at q4
    cases hp : putT t d (wipeG Γ vs) with
    | none => rw [hp] at q4; exact q4.elim
    | some Γ2 =>
      rw [hp] at q4
      have hi : i < ds.length := (List.getElem?_eq_some_iff.mp hd).1
      refine ⟨Γ2, putT_ok hp, ?_⟩
      have q5 := Good.bnd q4
      have elt_ : ∀ {M2 : Mem}, Good ((evE cf ik Γ2 M2).bind fun x M => (evE cf iv Γ2 M).bind fun y M => match keyD x with
            | some kx => Rs.ok (some (kx, y)) M
            | none => .no) (fun o M' => gdOk M' g = true ∧ match o with
          | some y => Good (dcGo g (dcF cf t vs ic ik iv Γ) (ds.drop (i + 1)) (putD acc y.1 y.2) M') RD E
          | none => Good (dcGo g (dcF cf t vs ic ik iv Γ) (ds.drop (i + 1)) acc M') RD E) (fun _ _ _ => False) →
          AEB X b scope kx Γ2 M2 fun x M3 => AEB X b scope vx Γ2 M3 fun y M4 => ∃ kk, keyD x = some kk ∧ acc.length < sizeLine ∧ (putD acc kk y).length ≤ i + 1 ∧ gdOk M4 g = true ∧ Good (dcGo g (dcF cf t vs ic ik iv Γ) (ds.drop (i + 1)) (putD acc kk y) M4) RD E := fun {M2} q s H C cl fp =>
        hK s H C cl fp (fun _ _ => False) b Γ2 M2 _ _ XW.no ((Good.bnd q).imp (fun x M3 q s H C cl fp => hE s H C cl fp (fun _ _ => False) b Γ2 M3 _ _ XW.no ((Good.bnd q).imp (fun y M4 q => by
          cases hkx : keyD x with
          | none => simp only [hkx] at q; exact q.elim
          | some kk =>
            simp only [hkx] at q
            exact ⟨kk, rfl, by omega, Nat.le_trans (length_putD _ _ _) (by omega), q.1, q.2⟩) fun _ _ _ q => q)) fun _ _ _ q => q)
      unfold AIfs
      unfold SIfs at hI
      match ifs, hI with
      | [], hI =>
        subst hI
        exact (show _ ∧ _ from ⟨fun _ => elt_ q5, fun z => nomatch z⟩)
      | [cc], hI =>
        intro s H C cl fp
        refine hI s H C cl fp (fun _ _ => False) b Γ2 M' _ _ XW.no (q5.imp (fun k M2 q => ?_) fun _ _ _ q => q)
        cases k with
        | true => exact ⟨fun _ => elt_ q, fun z => nomatch z⟩
        | false => exact ⟨fun z => (nomatch z), fun _ => ⟨Nat.le_succ_of_le q1, q.1, q.2⟩⟩
      | _ :: _ :: _, hI => exact hI.elim
  · obtain ⟨_, _, q⟩ := q
    rw [List.drop_length] at q
    exact q
theorem dc_ai {R : Dat → Mem → Prop} {EW : Exn → Gam → Mem → Prop} (hw : XW X b EW) (hi : SI X cf tg iter ir) (hI : SIfs X scope cf ifs ic) (hK : SB X scope cf kx ik) (hE : SB X scope cf vx iv) (g : Good (evE cf (.dc t vs ir ic ik iv) Γ M) R EW) :
    AI X b tg iter Γ M (DcAsk X b scope t vs ifs kx vx Γ fun acc M' => R (.ptr M'.length) (M' ++ [.dK acc])) :=
  (hi b Γ M _ EW hw (Good.bnd g)).imp fun ds Gm M1 ⟨gd, q, hG⟩ => by
    obtain ⟨⟨h1, h2⟩, q⟩ := good_if q
    exact dc_ask hI hK hE h1 h2 hG ((Good.bnd q).imp (fun acc M' q => q) fun _ _ _ q => q)
theorem SE.dc (hc : X.calm = true) (hN : X.N.Nodup) (ok : BlkOk X.N X.env.scope scope own) (hg : BlkG X scope tg (t.g X.K)) (hvs : own.map (·.2) = vs) (hsl : ∀ i ∈ t.slots, i ∈ vs)
    (hi : SI X cf tg iter ir) (hI : SIfs X scope cf ifs ic) (hK : SB X scope cf kx ik) (hE : SB X scope cf vx iv) (hs : ∀ x, foldedSetIterable iter X.env x = pure x := by intro _; rfl) : SE X cf (.DictComp kx vx [⟨tg, iter, ifs, 0⟩] scope pos) (.dc t vs ir ic ik iv) := .mk fun b Γ M R EW hw g => by
  subst hvs
  obtain ⟨wi, hpi, hwi⟩ := dc_ai hw hi hI hK hE g
  exact AE.of (pe_dc hc hN hpi ok (fun s H C cl fp => hg s H C cl fp (fun _ _ => False)) pts_blk pe_blk pe_blk hs) (EV_dc hsl hwi)
theorem SS.setDc (k : Nat) (tt : Tgt) {y : Str} (hc : X.calm = true) (hN : X.N.Nodup) (hy : X.N[k]? = some y) (hyl : X.env.scope.names.lookup y = some .local) (ok : BlkOk X.N X.env.scope scope own) (hg : BlkG X scope tg (tt.g X.K)) (hvs : own.map (·.2) = vs) (hsl : ∀ i ∈ tt.slots, i ∈ vs)
    (hi : SI X cf tg iter ir) (hI : SIfs X scope cf ifs ic) (hK : SB X scope cf kx ik) (hE : SB X scope cf vx iv)
    (hsw : swapsWith (.DictComp kx vx [⟨tg, iter, ifs, 0⟩] scope pos) (some (.Name y py)) spos.line X.env = pure true := by rfl) (hs : ∀ x, foldedSetIterable iter X.env x = pure x := by intro _; rfl) : SS X wf cf (.Assign [.Name y py] (.DictComp kx vx [⟨tg, iter, ifs, 0⟩] scope pos) spos) (.set k (.dc tt vs ir ic ik iv)) := .mk fun b Γ M D EW hw g => by
  subst hvs
  obtain ⟨wi, hpi, hwi⟩ := dc_ai (R := fun d M1 => D.nx (Γ.set k (some d)) M1) hw hi hI hK hE (Good.bnd g)
  refine AS.of (ps_setDc hc hN hy hyl hsw hpi ok (fun s H C cl fp => hg s H C cl fp (fun _ _ => False)) pts_blk pe_blk pe_blk hs) fun σ S A H D' st r => ?_
  exact EV_dc (R := fun d M' => D.nx (Γ.set k (some d)) M') hsl hwi σ S A H _ st fun v d M1 S1 A1 H1 s1 st1 r1 q => r.nx _ S1 A1 H1 _ M1 s1 (st1.set r1) q
/-! ### dict(xs), xs a list of pairs -/
theorem pairs_at {K : PySem.W.Frag} {S : Hp} {A : List Addr} {H : Hp} (sS : Same S H) : ∀ {ds : List Dat} {us : List V} {kvs : List (Key × Dat)}, Reps K S A ds us → pairsD ds = some kvs → ∃ (ps : List Addr) (ws : List (Key × V)), us = ps.map V.ref ∧ Paired (fun p kv => SqT K H p [kV kv.1, kv.2]) ps ws ∧ RepKV K S A kvs ws
  | [], _, _, .nil, h => by cases h; exact ⟨[], [], rfl, .nil, .nil⟩
  | d :: ds, _, kvs, .cons r t, h => by
    unfold pairsD at h
    split at h
    · rename_i e; cases e
    · rename_i k v rr e
      cases e
      split at h
      · rename_i kk kvs' e1 e2
        cases h
        obtain ⟨ps, ws, h1, h2, h3⟩ := pairs_at sS t e2
        cases r with
        | @tup a xs _ g q =>
          cases q with
          | cons rk q =>
            cases q with
            | cons rv q =>
              cases q
              have ek := keyD_kV rk e1
              subst ek
              exact ⟨a :: ps, (kk, _) :: ws, by rw [h1]; rfl, .cons (Same.sqt sS g) h2, .cons ⟨rfl, rv⟩ h3⟩
      · cases h
    · cases h
theorem repkv_merge {K : PySem.W.Frag} {S : Hp} {A : List Addr} : ∀ {more : List (Key × Dat)} {ws : List (Key × V)} {kvs : List (Key × Dat)} {vs : List (Key × V)}, RepKV K S A more ws → RepKV K S A kvs vs → RepKV K S A (mergeD kvs more) (mergeK vs ws)
  | _, _, _, _, .nil, r => r
  | (ka, d) :: more, (kb, v) :: ws, kvs, vs, .cons h t, r => by
    have e : ka = kb := h.1
    subst e
    exact repkv_merge (more := more) (ws := ws) t (repkv_put r h.2)
theorem SE.dictP (hc : X.calm = true) (hg : Gl X "dict") (hm : X.mg "dict" = none) (ha : SE X cf a ia) (he : starEach [a] X.env = (false, eval a X.env) :: starEach [] X.env := by rfl) : SE X cf (.Call (.Name "dict" p) [a] [] pos) (.un .dictP ia) := SE.un1 .dictP (fun b Γ M R h => A_ty (call_dictP hc) hg hm (by decide +kernel) (L_cons (h.imp fun d M1 ⟨r, e, q⟩ => L_nil (by
  intro σ S A H vs Q st r1 pq
  obtain ⟨v, ev, r2⟩ := r1.one
  subst ev
  obtain ⟨ds, e1, e⟩ := Option.bind_eq_some_iff.mp (show ((rd M1 d).bind fun ds => (pairsD ds).map fun kvs => (Dat.ptr M1.length, M1 ++ [.dK (mergeD [] kvs)])) = some r from e)
  obtain ⟨kvs, e2, e3⟩ := Option.map_eq_some_iff.mp e
  subst e3
  obtain ⟨x, us, ev, g, q1⟩ := (rd_ok e1).at st r2
  subst ev
  obtain ⟨ps, ws, h1, h2, h3⟩ := pairs_at st.sub q1 e2
  subst h1
  refine ⟨x, ps, ws, rfl, g, h2, fun y hy => ?_⟩
  obtain ⟨s2, st2⟩ := st.layCell (o := .dK (mergeK [] ws)) (c := .dK (mergeD [] kvs)) hy ⟨_, upd_same, (repkv_merge h3 .nil).mono (Same.refl _) (List.prefix_append _ _)⟩
  refine (pq.after s2).here st2 (.ptr ?_) q
  rw [← st.len, List.getElem?_append_right (Nat.le_refl _), Nat.sub_self] <;> rfl)) he) (by decide) (by decide) he rfl) ha

/-! ### sorted(set(t)) -/
theorem cr_setT (hc : X.calm = true) : CallR X (.type "set") (fun vs H Q => ∃ (p : Addr) (ns : List Int), vs = [.ref p] ∧ SqT X.K H p (ns.map V.int) ∧ ns.length < 64 ∧ ∀ (a : Addr) (c : Nat), H a = none → c ≤ ns.length → Q (.ref a) (upd H a (SetO X.w a (fun j => decide (j ∈ ns)) c))) := by
  intro pins s σ H xs us Q I r h
  obtain ⟨p0, ns, e1, hq, hl, q⟩ := h
  subst e1
  cases r with
  | cons r rr =>
    cases rr
    cases r
    obtain ⟨its, rv, pt, hz⟩ := I.tuple hq
    refine call_set_tupI ns (I.ok.hd hc) (show s.heap.IsTuple p0 its.toArray from pt) (ints_of_vals rv) (by unfold scanBound; omega) fun h' tk c R1 hcn k => ?_
    exact ⟨.ref _, upd H s.heap.objs.size (SetO X.w s.heap.objs.size (fun j => decide (j ∈ ns)) c), I.laid (t' := tk) k (Nat.le_refl _) (setO_new R1), rfl, q _ c (I.hok.fresh (Nat.le_refl _)) hcn⟩
theorem sorted_ext : ∀ {l l' : List Int}, l.Pairwise (· < ·) → l'.Pairwise (· < ·) → (∀ k, k ∈ l ↔ k ∈ l') → l = l'
  | [], [], _, _, _ => rfl
  | [], y :: ys, _, _, h => absurd ((h y).mpr List.mem_cons_self) (by simp)
  | x :: xs, [], _, _, h => absurd ((h x).mp List.mem_cons_self) (by simp)
  | x :: xs, y :: ys, h1, h2, h => by
    rw [List.pairwise_cons] at h1 h2
    have e : x = y := by
      rcases List.mem_cons.mp ((h x).mp List.mem_cons_self) with z | z
      · exact z
      · rcases List.mem_cons.mp ((h y).mpr List.mem_cons_self) with w | w
        · exact w.symm
        · have a1 := h2.1 x z
          have a2 := h1.1 y w
          omega
    subst e
    rw [sorted_ext h1.2 h2.2 fun k => ⟨fun hk => ?_, fun hk => ?_⟩]
    · rcases List.mem_cons.mp ((h k).mp (List.mem_cons_of_mem _ hk)) with z | z
      · have := h1.1 k hk; omega
      · exact z
    · rcases List.mem_cons.mp ((h k).mpr (List.mem_cons_of_mem _ hk)) with z | z
      · have := h2.1 k hk; omega
      · exact z
theorem mem_insI (x k : Int) : ∀ l : List Int, k ∈ insI x l ↔ k = x ∨ k ∈ l
  | [] => by simp [insI]
  | y :: ys => by
    unfold insI
    split
    · simp
    · split
      · rename_i e; subst e; simp
      · rw [List.mem_cons, mem_insI x k ys, List.mem_cons]; grind
theorem sorted_insI (x : Int) : ∀ l : List Int, l.Pairwise (· < ·) → (insI x l).Pairwise (· < ·)
  | [], _ => by simp [insI]
  | y :: ys, h => by
    have h' := List.pairwise_cons.mp h
    unfold insI
    split
    · refine List.pairwise_cons.mpr ⟨fun z hz => ?_, h⟩
      rcases List.mem_cons.mp hz with w | w
      · omega
      · have := h'.1 z w; omega
    · split
      · exact h
      · refine List.pairwise_cons.mpr ⟨fun z hz => ?_, sorted_insI x ys h'.2⟩
        rcases (mem_insI x z ys).mp hz with w | w
        · omega
        · exact h'.1 z w
theorem srtSetI_ok (ns : List Int) : (srtSetI ns).Pairwise (· < ·) ∧ ∀ k, k ∈ srtSetI ns ↔ k ∈ ns := by
  unfold srtSetI
  induction ns with
  | nil => exact ⟨List.Pairwise.nil, fun k => Iff.rfl⟩
  | cons x xs ih =>
    rw [List.foldr_cons]
    exact ⟨sorted_insI x _ ih.1, fun k => by rw [mem_insI, ih.2, List.mem_cons]⟩
theorem SE.srtSet (hc : X.calm = true) (hg : Gl X "sorted") (hm : X.mg "sorted" = none) (hg2 : Gl X "set") (hm2 : X.mg "set" = none) (ha : SE X cf a ia) (na : starEach [a] X.env = (false, eval a X.env) :: starEach [] X.env := by rfl)
    (na2 : starEach [.Call (.Name "set" p2) [a] [] p3] X.env = (false, eval (.Call (.Name "set" p2) [a] [] p3) X.env) :: starEach [] X.env := by rfl) : SE X cf (.Call (.Name "sorted" p) [.Call (.Name "set" p2) [a] [] p3] [] pos) (.un .srtSet ia) := SE.un1 .srtSet (fun b Γ M R h =>
  AE.of (pe_callB (cr_sortedSet hc) hg hm (by decide +kernel) (pa_cons (pe_callTy (cr_setT hc) hg2 hm2 (by decide +kernel) (pa_cons pe_tW pa_nil na) (by decide) (by decide) na rfl) pa_nil na2) (by decide) (by decide) na2 rfl) fun σ S A H Q st p => h σ S A H _ st fun v d M1 S1 A1 H1 s1 st1 r1 ⟨r, e, q⟩ => by
    cases d with
    | tup ds =>
      obtain ⟨ns, e1, e⟩ := Option.bind_eq_some_iff.mp (show ((intsD ds).bind fun ns => if ns.length < 64 then some (Dat.lst ((srtSetI ns).map .int), M1) else none) = some r from e)
      split at e
      · rename_i hl
        cases e
        obtain ⟨x, ex, gx⟩ := tupI_at st1 r1 e1
        subst ex
        refine ⟨x, ns, rfl, gx, hl, fun y cc hy hcn => ?_⟩
        obtain ⟨s2, st2⟩ := st1.lay (o := SetO X.w y (fun j => decide (j ∈ ns)) cc) hy
        refine ⟨y, _, cc, rfl, upd_same, by omega, fun ns' z hs hmem _ hz => ?_⟩
        have en : ns' = srtSetI ns := sorted_ext hs (srtSetI_ok ns).1 fun k => by rw [hmem, (srtSetI_ok ns).2, decide_eq_true_iff]
        subst en
        obtain ⟨s3, st3⟩ := st2.lay (o := .lst ((srtSetI ns).map V.int)) hz
        exact (p.after ((s1.trans s2).trans s3)).here st3 (.lst upd_same (Reps.of_ints _)) q
      · cases e
    | _ => unfold Ab.un1 at e; cases e) ha
end
end Ab
end

section
set_option Elab.async false
set_option linter.all false
set_option maxRecDepth 100000
set_option maxHeartbeats 4000000
/-! Ab19: all defs of a module at once; the law. -/
namespace Ab
open PySem PySem.Spec PyProof.Rows L2
theorem hu66 {k : Nat} {A : Around} (r : Room k A) : A.units + 64 + 2 < cLine := by
  have := r.un
  omega
/-- BlkOk, looked up -/
def blkB (N : List Str) (sc scope : Scope) (own : List (Str × Nat)) : Bool :=
  (match scope.kind with | .function => true | _ => false) &&
  (scope.names.all fun y => match scope.names.lookup y.1, y.2 with
    | some .local, .local => true
    | some .cell, .cell => true
    | some .free, .free => true
    | some .globalImplicit, .globalImplicit => true
    | _, _ => false) &&
  (own.all fun p => match N[p.2]? with
    | some x => decide (x = p.1)
    | none => false) &&
  (scope.names.all fun y => match y.2 with
    | .free => (match sc.names.lookup y.1 with
      | some .cell => true
      | some .free => true
      | _ => false)
    | .local => (own.any fun p => decide (p.1 = y.1)) || !(N.any fun x => decide (x = y.1))
    | .cell => (own.any fun p => decide (p.1 = y.1)) || !(N.any fun x => decide (x = y.1))
    | _ => true)
theorem blk_of {N : List Str} {sc scope : Scope} {own : List (Str × Nat)} (h : blkB N sc scope own = true) : BlkOk N sc scope own := by
  unfold blkB at h
  obtain ⟨h, h4⟩ := Bool.and_eq_true_iff.mp h
  obtain ⟨h, h3⟩ := Bool.and_eq_true_iff.mp h
  obtain ⟨h1, h2⟩ := Bool.and_eq_true_iff.mp h
  rw [List.all_eq_true] at h2 h3 h4
  refine ⟨?_, fun y hy => ?_, fun p hp => ?_, fun y hy hf => ?_, fun y hy hf => ?_⟩
  · split at h1
    · assumption
    · cases h1
  · have := h2 y hy
    split at this
    · rename_i e1 e2; rw [e1, e2]
    · rename_i e1 e2; rw [e1, e2]
    · rename_i e1 e2; rw [e1, e2]
    · rename_i e1 e2; rw [e1, e2]
    · cases this
  · have := h3 p hp
    split at this
    · rename_i x e; rw [e, of_decide_eq_true this]
    · cases this
  · have := h4 y hy
    rw [hf] at this
    simp only at this
    split at this
    · rename_i e; exact .inl e
    · rename_i e; exact .inr e
    · cases this
  · have h5 := h4 y hy
    have k : ((own.any fun p => decide (p.1 = y.1)) || !(N.any fun x => decide (x = y.1))) = true := by
      rcases hf with hf | hf <;> (rw [hf] at h5; exact h5)
    rcases Bool.or_eq_true_iff.mp k with k | k
    · obtain ⟨p, hp, e⟩ := List.any_eq_true.mp k
      exact .inl (List.mem_map.mpr ⟨p, hp, of_decide_eq_true e⟩)
    · refine .inr fun hm => ?_
      have : (N.any fun x => decide (x = y.1)) = true := List.any_eq_true.mpr ⟨y.1, hm, decide_eq_true rfl⟩
      rw [this] at k
      cases k
/-- a def of the module as the top has left it -/
structure DefOk (K : PySem.W.Frag) (mg : Str → Option Value) (x : Str) (st : Stmt) (ps : List Str) : Prop where
  ex : ∃ f fd, mg x = some (.ref f) ∧ Fun K x x st f fd ∧ Binds K fd ps [] ∧ KwB K fd ps ps
theorem DefOk.mk' {K : PySem.W.Frag} {h : Heap} {mg : Str → Option Value} {x : Str} {st : Stmt} {ps : List Str} {f : Addr} {oc : Value} {od an : Option Addr} {osl : Array (Option Value)} {kV doc pm cdv ct : Value} (X : K.In h) (G : h.Ns mainGlobals mg)
    (a : PySem.W.nsIn K mainGlobals x = some (some (.ref f))) (l : K.lookup f = some ⟨oc, od, .func (PySem.W.fnOf x x (defArgs st) (defBody st) (defScope st) .none kV doc pm an cdv ct), osl⟩) (c : PySem.W.codeIn K cdv x = true) (k : PySem.W.keepIn K (.ref f) = true)
    (hb : ∀ us : List Value, us.length = ps.length → bindArgs (PySem.W.fnOf x x (defArgs st) (defBody st) (defScope st) .none kV doc pm an cdv ct) ⟨us, []⟩ = pure (ps.zip us))
    (hk : ∀ us : List Value, us.length = ps.length → bindArgs (PySem.W.fnOf x x (defArgs st) (defBody st) (defScope st) .none kV doc pm an cdv ct) ⟨[], ps.zip us⟩ = pure (ps.zip us)) : DefOk K mg x st ps := by
  refine ⟨f, _, PySem.W.mg_of X G a, fun_mk l c k, Binds.all hb, KwB.all fun us ws h1 h2 => ?_⟩
  have e : us = [] := List.length_eq_zero_iff.mp (by omega)
  subst e
  exact hk ws h2
section
variable {P : Program} {w : World} {K : PySem.W.Frag} {mg : Str → Option Value} {base : Heap} {wf : Nat}
/-- what is to be shown of a def: its body is the small language's -/
structure BodyOk (P : Program) (w : World) (K : PySem.W.Frag) (mg : Str → Option Value) (base : Heap) (wf : Nat) (L : List (Str × List Str)) (x : Str) (st : Stmt) (ps : List Str) (d : Df) : Prop where
  ex : ∃ N, FnScope N ps (defScope st) ∧ N.length = d.slots ∧ ∀ (cf : CallF) (k : Nat), (∀ (j : Nat) (y : Str) (qs : List Str), L[j]? = some (y, qs) → HasFn P w K mg base cf k y j qs.length qs) →
    ∀ (f : Addr) (cdv : Value) (A : Around) (outer : List Env) (s : Shared) (H : Hp) (E : XK), Room k (A.deeper (envOfC x (defScope st) s.heap.objs.size f cdv)) → SSs (cxOf (L2.CX P w) P w K mg base N x (defScope st) f cdv A outer s H E) wf cf (defBody st) d.body
theorem all_has {L : List (Str × List Str)} {T : List Df} (h : ∀ (j : Nat) (x : Str) (ps : List Str), L[j]? = some (x, ps) → ∃ st d, T[j]? = some d ∧ DefOk K mg x st ps ∧ BodyOk P w K mg base wf L x st ps d) :
    ∀ (k j : Nat) (x : Str) (ps : List Str), L[j]? = some (x, ps) → HasFn P w K mg base (runF wf T k) k x j ps.length ps
  | 0, j, x, ps, hj => by
    obtain ⟨st, d, hd, D, B⟩ := h j x ps hj
    obtain ⟨f, fd, h1, F, h3, h4⟩ := D.ex
    exact ⟨f, fd, fn_run0, h1, F.kp, h3, h4⟩
  | k + 1, j, x, ps, hj => by
    obtain ⟨st, d, hd, D, B⟩ := h j x ps hj
    obtain ⟨f, fd, h1, F, h3, h4⟩ := D.ex
    obtain ⟨N, Sc, hs, hb⟩ := B.ex
    refine ⟨f, fd, ?_, h1, F.kp, h3, h4⟩
    rw [runF_succ hd]
    exact fn_run F Sc rfl hs fun cdv A outer s H E hr => hb (runF wf T k) k (all_has h k) f cdv A outer s H E hr
end
theorem law_fn {P : Program} {w : World} {K : PySem.W.Frag} {mg : Str → Option Value} {base : Heap} {wf : Nat} {L : List (Str × List Str)} {T : List Df} (h : ∀ (j : Nat) (x : Str) (ps : List Str), L[j]? = some (x, ps) → ∃ st d, T[j]? = some d ∧ DefOk K mg x st ps ∧ BodyOk P w K mg base wf L x st ps d)
    (k : Nat) {j : Nat} {x : Str} {ps : List Str} {st : Stmt} {d : Df} {f : Addr} {fd : FuncData} (hd : T[j]? = some d) (F : Fun K x x st f fd) (B : BodyOk P w K mg base wf L x st ps d) : FnOk P w K mg base (L2.CX P w) (k + 1) f fd ps (SpD K ps.length (runF wf T (k + 1) j)) := by
  obtain ⟨N, Sc, hs, hb⟩ := B.ex
  rw [runF_succ hd]
  exact fn_run F Sc rfl hs fun cdv A outer s H E hr => hb (runF wf T k) k (all_has h k) f cdv A outer s H E hr
def spLaw (F : List Dat → Mem → Rs Dat) (K : PySem.W.Frag) : Sp := SpD K 1 F
/-- the law's promise, from its run -/
theorem law_sp {F : List Dat → Mem → Rs Dat} {n : Nat} (hF : ∀ ns : List Int, ns.length ≤ n → ∃ M, F [.rol (ns.map .int)] [] = .ok (.bl true) M) (K : PySem.W.Frag) (H : Hp) (a : Addr) (ns : List Int) (hl : ns.length ≤ n) (hS : SqL K H a (ns.map V.int)) : SpD K 1 F [.ref a] H (fun v _ => v = .bl true) fun _ _ _ => False := by
  have rr : ∀ ns : List Int, Reps K H [] (ns.map Dat.int) (ns.map V.int) := fun ns => by
    induction ns with
    | nil => exact .nil
    | cons n ns ih => exact .cons (.int n) ih
  obtain ⟨M, e⟩ := hF ns hl
  refine ⟨H, [], [.rol (ns.map .int)], [], lent_nil (Same.refl H), .cons (.rol hS (rr ns)) .nil, rfl, ?_⟩
  rw [e]
  intro v S' A' H' _ _ r
  cases r
  rfl
theorem cx_no {P : Program} {w : World} (H : Hp) (s : Shared) (e : Value) (s' : Shared) : L2.CX P w [] H s (fun _ _ _ => False) e s' → False := fun h => by
  obtain ⟨_, _, _, _, _, _, _, _, _, _, _, _, z⟩ := h
  exact z.elim
theorem walk {l : PySem.W.OpenLaw} {q : Program} {loose : List Str} {XP : (Str → Option Value) → Heap → Prop} {YP : World → Heap → Prop} {d : DefRec} {K : Params → PySem.W.Frag} {k : Nat} {F0 : List Dat → Mem → Rs Dat} (hn : l.most = some 63) (hdf : d.params.defaults = []) (hr : Room k callerA)
    (hF : ∀ ns : List Int, ns.length ≤ 63 → ∃ M, F0 [.rol (ns.map .int)] [] = .ok (.bl true) M)
    (hY : ∀ (w : World) (h : Heap), YP w h → (K w.params).In h)
    (F : ∀ (w : World) (mg : Str → Option Value) (fa : Addr) (h : Heap), (K w.params).In h → h.Ns mainGlobals mg → mg d.name = some (.ref fa) →
      ∃ fd : FuncData, (∀ (s : Shared) (u : Value), BindsTo s fd ⟨[u], []⟩ [("script", u)]) ∧ ∀ base : Heap, (K w.params).In base → base.Ns mainGlobals mg → FnOk l.prog w (K w.params) mg base (L2.CX l.prog w) k fa fd ["script"] (SpD (K w.params) 1 F0)) :
    PySem.W.WalkO q loose XP YP l.row.toRowW d [] (fun f vs => PySem.call f vs) :=
  L2.walk_of (n := 63) (k := k) (x := "script") (CX := fun w => L2.CX l.prog w) (sp := fun w => SpD (K w.params) 1 F0) hn (by decide) hdf hr hY F (fun w H a ns hl _ hS => law_sp hF (K w.params) H a ns hl hS) fun w H s e s' => cx_no H s e s'
end Ab
end

section
set_option Elab.async false
set_option linter.all false
set_option maxRecDepth 100000
set_option maxHeartbeats 4000000
/-! Bx13: the head's facts, put together. -/
namespace Ab
open PySem PySem.Spec PyProof.Rows L2
def tblOk (L : List (Str × List Str)) (tb : List (Str × Nat × Nat)) : Bool := tb.all fun (x, j, n) => match L[j]? with
  | some (y, ps) => decide (y = x) && decide (ps.length = n)
  | none => false
theorem htb_of {P : Program} {w : World} {K : PySem.W.Frag} {mg : Str → Option Value} {base : Heap} {cf : CallF} {k : Nat} {L : List (Str × List Str)} {tb : List (Str × Nat × Nat)} (hF : ∀ (j : Nat) (y : Str) (qs : List Str), L[j]? = some (y, qs) → HasFn P w K mg base cf k y j qs.length qs) (h : tblOk L tb = true) :
    ∀ (y : Str) (j n : Nat), tb.lookup y = some (j, n) → ∃ ps, HasFn P w K mg base cf k y j n ps := fun y j n hl => by
  have hm : (y, j, n) ∈ tb := PySem.mem_of_lookup hl
  have q := (List.all_eq_true.mp h) _ hm
  simp only at q
  split at q
  · rename_i z ps e
    obtain ⟨q1, q2⟩ := Bool.and_eq_true_iff.mp q
    have q1 := of_decide_eq_true q1
    have q2 := of_decide_eq_true q2
    subst q1 q2
    exact ⟨ps, hF j _ ps e⟩
  · cases q
theorem clsD_mk {K : PySem.W.Frag} {h : Heap} {mg : Str → Option Value} {x : Str} {C : Addr} (X : K.In h) (G : h.Ns mainGlobals mg) (e : PySem.W.nsIn K mainGlobals x = some (some (.ref C))) (xe : PySem.W.excIn K C He.veBase "ValueError.__new__" = true) (xk : PySem.W.keepIn K (.ref C) = true)
    (xs : PySem.W.subIn K (.ref C) (.type "BaseException") = some true) (xt : PySem.W.typeIn K (.ref C) = some (.type "type")) (ga : PySem.W.findIn K (.ref C) "__getattribute__" = some (some (.builtin "BaseException.__getattribute__"))) (gt : PySem.W.findIn K (.ref C) "__getattr__" = some none)
    (hd : PySem.W.hasDictIn K C = true) (cl : PySem.W.findIn K (.ref C) "__class__" = some (some (.builtin "object.__class__"))) (sp : PySem.W.specialIn K (.builtin "object.__class__") "__get__" = some (some (.builtin "getset_descriptor.__get__"))) (tk : PySem.W.takesIn K (.builtin "object.__class__") = some true)
    (mr : PySem.W.mroIn K C (.type "object") = some true) (ki : PySem.W.kitOne K (.ref C) (.type "ValueError") = some true) : ClsD K mg x :=
  ⟨C, PySem.W.mg_of X G e, e, xe, xk, xs, xt, ⟨ga, gt, xs, hd, cl, sp, tk, mr⟩, ki⟩
theorem cp_one {K : PySem.W.Frag} {x y : Str} {C D : Addr} {b : Bool} (e : PySem.W.nsIn K mainGlobals x = some (some (.ref C))) (e2 : PySem.W.nsIn K mainGlobals y = some (some (.ref D))) (xs : PySem.W.subIn K (.ref D) (.type "BaseException") = some true) (hd : PySem.W.hasDictIn K D = true) (xt : PySem.W.typeIn K (.ref D) = some (.type "type"))
    (sb : PySem.W.subIn K (.ref C) (.ref D) = some b) (hb : decide (y = x) = b) : ∀ u v, PySem.W.nsIn K mainGlobals x = some (some u) → PySem.W.nsIn K mainGlobals y = some (some v) → PySem.W.exmOne K u v = some (decide (y = x)) := fun u v h1 h2 => by
  rw [e] at h1
  rw [e2] at h2
  cases h1
  cases h2
  rw [hb]
  exact PySem.W.exm_ref xs hd xt sb
theorem cst_int {K : PySem.W.Frag} {h : Heap} {mg : Str → Option Value} {x : Str} {i : Int} {t : Tok} (X : K.In h) (G : h.Ns mainGlobals mg) (e : PySem.W.nsIn K mainGlobals x = some (some (.int i t))) : CstD K mg x (.int i) := ⟨.int i, _, PySem.W.mg_of X G e, ⟨t, rfl⟩, fun _ _ => .int i⟩
inductive IntVs : List Int → List Value → Prop
  | nil : IntVs [] []
  | cons {i : Int} {t : Tok} {ns : List Int} {vs : List Value} : IntVs ns vs → IntVs (i :: ns) (.int i t :: vs)
theorem IntVs.vals : ∀ {ns : List Int} {vs : List Value}, IntVs ns vs → Vals (ns.map V.int) vs
  | _, _, .nil => .nil
  | _, _, .cons r => .cons ⟨_, rfl⟩ r.vals
theorem cst_tup {K : PySem.W.Frag} {h : Heap} {mg : Str → Option Value} {x : Str} {a : Addr} {od : Option Addr} {its : Array Value} {n : Nat} {sl : Array (Option Value)} {ns : List Int} (X : K.In h) (G : h.Ns mainGlobals mg) (e : PySem.W.nsIn K mainGlobals x = some (some (.ref a))) (l : K.lookup a = some ⟨.type "tuple", od, .seq its n, sl⟩) (hv : IntVs ns its.toList) (hz : its.size ≤ sizeLine) : CstD K mg x (.tup (ns.map .int)) :=
  ⟨.ref a, _, PySem.W.mg_of X G e, rfl, fun S A => .tup (.inr ⟨_, its, n, l, rfl, rfl, hz, hv.vals⟩) (Reps.of_ints ns)⟩
end Ab
end

section
set_option Elab.async false
set_option linter.all false
set_option maxRecDepth 100000
set_option maxHeartbeats 4000000
/-! Bx14: a single comparison as a question. -/
namespace Ab
open PySem PySem.Spec PyProof PyProof.Rows L2
theorem ask_cmp {MM : Model} {A : Around} {l r : Expr} {op : CmpOp} {pos : Pos} {env : Env} {whole : Sem Value} {Q : Bool → Shared → Prop} {E : Value → Shared → Prop} {s : Shared} (hm : behindInMarks op r = false)
    (h : wpAny MM A (eval (.Compare l [op] [r] pos) env) (fun c s1 => wpAny MM A (truthy c) Q E s1) E s) : wpAny MM A (isTrue (.Compare l [op] [r] pos) env whole) Q E s := fun Γ p hΓ => by
  have g := h Γ p hΓ
  simp only [eval_Compare1, markedBehindIn_of_false hm, Sem.wp_bind', Sem.wp_holding, Sem.wp_cmd_standAt, Sem.wp_operate] at g
  simp only [isTrue_Compare1, markedBehindIn_of_false hm, Sem.wp_bind', Sem.wp_holding, Sem.wp_cmd_standAt, Sem.wp_operate]
  refine Sem.wp_mono MM Γ _ (fun x p1 s1 g1 => Sem.wp_mono MM Γ _ (fun y p2 s2 g2 => Sem.wp_mono MM Γ _ (fun c p3 s3 g3 => ?_) (fun _ _ _ q => q) _ _ g2) (fun _ _ _ q => q) _ _ g1) (fun _ _ _ q => q) _ _ g
  exact g3 Γ p3 hΓ
section
variable {X : Cx} {cf : CallF} {a c : Expr} {pos : Pos} {ie : Ex}
theorem ST.of1 {op : CmpOp} (h : SE X cf (.Compare a [op] [c] pos) ie) (hm : behindInMarks op c = false := by rfl) : ST X cf (.Compare a [op] [c] pos) ie := .mk fun b Γ M R EW hw g σ S A H Q st p pins s I =>
  ask_cmp hm (thn (h b Γ M _ EW hw (good_asB g) σ S A H (fun v H' => ∃ k, v = .bl k ∧ Q k H') st (fun v d M' S' A' H' s1 st1 r1 ⟨k, e, q⟩ => by
    subst e
    cases r1
    exact ⟨k, rfl, p k M' S' A' H' s1 st1 q⟩) pins s I) fun v s1 ⟨x, H1, I1, r1, k, e, q⟩ => by
    subst e
    cases r1
    exact wpAny_truthy_bool ⟨H1, I1, q⟩)
end
end Ab
end

section
set_option Elab.async false
set_option linter.all false
set_option maxRecDepth 100000
set_option maxHeartbeats 4000000
/-! Bx15: reversed; min and max of two; arguments by their kinds. -/
namespace Ab
open PySem PySem.Spec PyProof PyProof.Rows L2
def YRev (K : PySem.W.Frag) (a : Addr) (n : Nat) : Nat → Hp → V → Hp → Prop := fun i H x H' => H' = H ∧ ∀ xs, SqL K H a xs → xs[n - 1 - i]? = some x
def YRevT (K : PySem.W.Frag) (a : Addr) (n : Nat) : Nat → Hp → V → Hp → Prop := fun i H x H' => H' = H ∧ ∀ xs, SqT K H a xs → xs[n - 1 - i]? = some x
theorem walk_revE {K : PySem.W.Frag} {a : Addr} {n : Nat} : Walk (Itv K a n) n (fun H => ∃ xs, SqL K H a xs ∧ xs.length = n) (YRev K a n) :=
  ⟨fun i H hi ⟨xs, q, hl⟩ => ⟨hi, xs, xs[n - 1 - i]'(by omega), q, List.getElem?_eq_getElem _⟩, fun H _ => Nat.le_refl _, fun i H x H' hi _ y => y⟩
theorem walk_revT {K : PySem.W.Frag} {a : Addr} {n : Nat} : Walk (RT.ItvT K a n) n (fun H => ∃ xs, SqT K H a xs ∧ xs.length = n) (YRevT K a n) :=
  ⟨fun i H hi ⟨xs, q, hl⟩ => ⟨hi, xs, xs[n - 1 - i]'(by omega), q, List.getElem?_eq_getElem _⟩, fun H _ => Nat.le_refl _, fun i H x H' hi _ y => y⟩
section
variable {K : PySem.W.Frag} {b : Bas} {σ : L2.St} {S : Hp} {A : List Addr} {H : Hp} {Γ : Gam} {M : Mem} {d : Dat} {ds : List Dat} {v : V}
theorem gives_rev (i : IsR M d ds) (st : Stt K b σ S A H Γ M) (r : Rep K S A d v) : ∃ a xs, v = .ref a ∧ SqL K H a xs ∧ Gives K b S A H (Itv K a xs.length) ds.reverse (GmOf d ds) := by
  obtain ⟨a, xs, ev, g, q⟩ := i.at st r
  subst ev
  have hl : xs.length = ds.reverse.length := by rw [List.length_reverse]; exact q.length.symm
  refine ⟨a, xs, rfl, g, ⟨⟨_, _, by rw [hl]; exact walk_revE, fun σ2 S2 A2 H2 Γ2 M2 s2 st2 hG => ?_, fun σ2 S2 A2 H2 Γ2 M2 k x H3 s2 st2 hG hi hY => ?_⟩, fun _ _ _ => trivial⟩⟩
  · obtain ⟨xs2, g2, q2⟩ := isR_again i r s2 st2 hG
    exact ⟨xs2, g2, by rw [List.length_reverse]; exact q2.length.symm⟩
  · obtain ⟨xs2, g2, q2⟩ := isR_again i r s2 st2 hG
    obtain ⟨e, hx⟩ := hY
    subst e
    have hx := hx _ g2
    obtain ⟨d', h1, h2⟩ := q2.get hx
    rw [List.length_reverse] at h1 hi
    exact ⟨S2, d', by rw [List.getElem?_reverse hi]; exact h1, Step.refl _ _ _, st2, h2⟩
theorem gives_revT (st : Stt K b σ S A H Γ M) (r : Rep K S A (.tup ds) v) : ∃ a xs, v = .ref a ∧ SqT K H a xs ∧ Gives K b S A H (RT.ItvT K a xs.length) ds.reverse (fun _ => True) := by
  cases r with
  | @tup a us _ hS qS =>
    have hl : us.length = ds.reverse.length := by rw [List.length_reverse]; exact qS.length.symm
    refine ⟨a, us, rfl, Same.sqt st.sub hS, ⟨⟨fun H => ∃ xs, SqT K H a xs ∧ xs.length = ds.reverse.length, YRevT K a ds.reverse.length, by rw [hl]; exact walk_revT, fun σ2 S2 A2 H2 Γ2 M2 s2 st2 hG => ⟨us, Same.sqt st2.sub (Same.sqt s2.s hS), hl⟩, fun σ2 S2 A2 H2 Γ2 M2 k x H3 s2 st2 hG hi hY => ?_⟩, fun _ _ _ => trivial⟩⟩
    obtain ⟨e, hx⟩ := hY
    subst e
    obtain ⟨d', h1, h2⟩ := (qS.mono s2.s s2.a).get (hx _ (Same.sqt st2.sub (Same.sqt s2.s hS)))
    rw [List.length_reverse] at h1 hi
    exact ⟨S2, d', by rw [List.getElem?_reverse hi]; exact h1, Step.refl _ _ _, st2, h2⟩
end
section
variable {X : Cx} {cf : CallF} {b : Bas} {Γ : Gam} {M : Mem} {e e2 a c tg : Expr} {pos p tpos : Pos} {R : List Dat → (Mem → Prop) → Mem → Prop} {ie ia ic : Ex} {es : List Expr} {ies : Exs}
theorem I_rev (hg : Gl X "reversed") (hm : X.mg "reversed" = none) (h : AE X b e Γ M fun d M1 => (∃ ds, IsR M1 d ds ∧ R ds.reverse (GmOf d ds) M1) ∨ ∃ ds, d = .tup ds ∧ R ds.reverse (fun _ => True) M1) (hs : starEach [e] X.env = (false, eval e X.env) :: starEach [] X.env := by rfl) : AI X b tg (.Call (.Name "reversed" p) [e] [] pos) Γ M R :=
  ⟨_, RT.pi_revA hg hm pe_tW hs, fun σ S A H Rw st k => h σ S A H _ st fun v d M1 S1 A1 H1 s1 st1 r1 h1 => by
    rcases h1 with ⟨ds, i, q⟩ | ⟨ds, ed, q⟩
    · obtain ⟨a, xs, ev, hx, g⟩ := gives_rev i st1 r1
      subst ev
      exact ⟨a, xs, rfl, .inl ⟨hx, k _ _ _ M1 S1 A1 H1 s1 st1 g q⟩⟩
    · subst ed
      obtain ⟨a, xs, ev, hx, g⟩ := gives_revT st1 r1
      subst ev
      exact ⟨a, xs, rfl, .inr ⟨hx, k _ _ _ M1 S1 A1 H1 s1 st1 g q⟩⟩⟩
theorem SI.rev (hg : Gl X "reversed") (hm : X.mg "reversed" = none) (h : SE X cf e ie) (hs : starEach [e] X.env = (false, eval e X.env) :: starEach [] X.env := by rfl) : SI X cf tg (.Call (.Name "reversed" p) [e] [] pos) (.rev ie) := .mk fun b Γ M R EW hw g =>
  I_rev hg hm (h b Γ M _ EW hw ((Good.bnd (show Good ((evE cf ie Γ M).bind fun d M => match d with
    | .tup ds => Rs.ok (ds.reverse, ([] : Gd)) M
    | d => match rd M d with
      | Option.some ds => .ok (ds.reverse, [(d, ds)]) M
      | Option.none => .no) R EW from g)).imp (fun d M1 q => by
    split at q
    · exact .inr ⟨_, rfl, _, q, fun M h => trivial⟩
    · split at q
      · rename_i hr
        exact .inl ⟨_, rd_ok hr, _, q, fun M h => gd1 h⟩
      · exact q.elim) fun _ _ _ q => q)) hs
theorem SE.min (hc : X.calm = true) (hg : Gl X "min") (hm : X.mg "min" = none) (ha : SE X cf a ia) (h2 : SE X cf c ic) (he : starEach [a, c] X.env = (false, eval a X.env) :: starEach [c] X.env := by rfl) (he2 : starEach [c] X.env = (false, eval c X.env) :: starEach [] X.env := by rfl) (hpl : (backTo pos (starEach [c] X.env)).any (·.1) = false := by rfl) : SE X cf (.Call (.Name "min" p) [a, c] [] pos) (.bin .min ia ic) := SE.bin2 .min (fun b Γ M R h => A_min2 hc hg hm (h.imp fun d M h => h.imp fun d2 M2 ⟨r, e, q⟩ => by
  cases d <;> first | (cases e; done) | skip
  cases d2 <;> first | (cases e; done) | skip
  cases e
  exact ⟨_, _, rfl, rfl, q⟩) he he2 hpl) ha h2
theorem SE.max (hc : X.calm = true) (hg : Gl X "max") (hm : X.mg "max" = none) (ha : SE X cf a ia) (h2 : SE X cf c ic) (he : starEach [a, c] X.env = (false, eval a X.env) :: starEach [c] X.env := by rfl) (he2 : starEach [c] X.env = (false, eval c X.env) :: starEach [] X.env := by rfl) (hpl : (backTo pos (starEach [c] X.env)).any (·.1) = false := by rfl) : SE X cf (.Call (.Name "max" p) [a, c] [] pos) (.bin .max ia ic) := SE.bin2 .max (fun b Γ M R h => A_max2 hc hg hm (h.imp fun d M h => h.imp fun d2 M2 ⟨r, e, q⟩ => by
  cases d <;> first | (cases e; done) | skip
  cases d2 <;> first | (cases e; done) | skip
  cases e
  exact ⟨_, _, rfl, rfl, q⟩) he he2 hpl) ha h2
section
variable {fs : List Expr} {k : Nat} {z : Const} {x : Str} {f : Expr} {kw : List Keyword} {op : Operator} {uop : UnaryOp} {cs : List CmpOp}
theorem SA.cTuple (ha : SE X cf (.Tuple fs k pos) ie) (h : SA X cf es ies) : SA X cf (.Tuple fs k pos :: es) (.cons ie ies) := SA.cons ha h rfl
theorem SA.cList (ha : SE X cf (.List fs pos) ie) (h : SA X cf es ies) : SA X cf (.List fs pos :: es) (.cons ie ies) := SA.cons ha h rfl
theorem SA.cConstant (ha : SE X cf (.Constant z k pos) ie) (h : SA X cf es ies) : SA X cf (.Constant z k pos :: es) (.cons ie ies) := SA.cons ha h rfl
theorem SA.cName (ha : SE X cf (.Name x pos) ie) (h : SA X cf es ies) : SA X cf (.Name x pos :: es) (.cons ie ies) := SA.cons ha h rfl
theorem SA.cCall (ha : SE X cf (.Call f fs kw pos) ie) (h : SA X cf es ies) : SA X cf (.Call f fs kw pos :: es) (.cons ie ies) := SA.cons ha h rfl
theorem SA.cBinOp (ha : SE X cf (.BinOp a op c pos) ie) (h : SA X cf es ies) : SA X cf (.BinOp a op c pos :: es) (.cons ie ies) := SA.cons ha h rfl
theorem SA.cUnaryOp (ha : SE X cf (.UnaryOp uop a pos) ie) (h : SA X cf es ies) : SA X cf (.UnaryOp uop a pos :: es) (.cons ie ies) := SA.cons ha h rfl
theorem SA.cSubscript (ha : SE X cf (.Subscript a c pos) ie) (h : SA X cf es ies) : SA X cf (.Subscript a c pos :: es) (.cons ie ies) := SA.cons ha h rfl
end
end
end Ab
end

section
set_option Elab.async false
set_option linter.all false
set_option maxRecDepth 100000
set_option maxHeartbeats 4000000
/-! Ab20: the order of data, as lists of ints. -/
namespace Ab
open PySem PySem.Spec PyProof.Rows L2
def lexB : List Int → List Int → Bool
  | [], [] => false
  | [], _ :: _ => true
  | _ :: _, [] => false
  | a :: as, b :: bs => if a < b then true else if b < a then false else lexB as bs
theorem lexB_cons {a b : Int} {as bs : List Int} : lexB (a :: as) (b :: bs) = if a < b then true else if b < a then false else lexB as bs := by rw [lexB]
theorem lexB_asym : ∀ {x y : List Int}, lexB x y = true → lexB y x = false
  | [], [], h => by cases h
  | [], _ :: _, _ => rfl
  | _ :: _, [], h => by cases h
  | a :: as, b :: bs, h => by
    rw [lexB_cons] at h ⊢
    by_cases h1 : a < b
    · rw [if_neg (by omega), if_pos h1]
    · rw [if_neg h1] at h
      by_cases h2 : b < a
      · rw [if_pos h2] at h; cases h
      · rw [if_neg h2] at h
        rw [if_neg h2, if_neg h1]
        exact lexB_asym h
theorem lexB_tr : ∀ {x y z : List Int}, lexB x y = false → lexB y z = false → lexB x z = false
  | [], [], z, _, h => h
  | [], _ :: _, z, h, _ => by cases h
  | _ :: _, _, [], _, _ => rfl
  | a :: as, [], c :: cs, _, h => by cases h
  | a :: as, b :: bs, c :: cs, h, k => by
    rw [lexB_cons] at h k ⊢
    by_cases h1 : a < b
    · rw [if_pos h1] at h; cases h
    · rw [if_neg h1] at h
      by_cases k1 : b < c
      · rw [if_pos k1] at k; cases k
      · rw [if_neg k1] at k
        rw [if_neg (by omega)]
        by_cases h2 : c < a
        · rw [if_pos h2]
        · rw [if_neg h2]
          rw [if_neg (by omega)] at h k
          exact lexB_tr h k
theorem lexB_eq : ∀ {x y : List Int}, lexB x y = false → lexB y x = false → x = y
  | [], [], _, _ => rfl
  | [], _ :: _, h, _ => by cases h
  | _ :: _, [], _, h => by cases h
  | a :: as, b :: bs, h, k => by
    rw [lexB_cons] at h k
    by_cases h1 : a < b
    · rw [if_pos h1] at h; cases h
    · rw [if_neg h1] at h
      by_cases k1 : b < a
      · rw [if_pos k1] at k; cases k
      · rw [if_neg k1] at k h
        rw [if_neg h1] at k
        have e : a = b := by omega
        rw [e, lexB_eq h k]
theorem swo_key {α : Type} (k : α → List Int) : SrtO.Swo fun x y => lexB (k x) (k y) := ⟨fun _ _ h => lexB_asym h, fun _ _ _ h1 h2 => lexB_tr h2 h1⟩
mutual
def Dat.enc : Dat → List Int
  | .int i => [1, i]
  | .tup ds => 2 :: (Dat.encs ds ++ [0])
  | _ => [3]
def Dat.encs : List Dat → List Int
  | [] => []
  | d :: ds => d.enc ++ Dat.encs ds
end
mutual
def encP : PyData → List Int
  | .int i => [1, i]
  | .tuple ds => 2 :: (encPs ds ++ [0])
  | _ => [3]
def encPs : List PyData → List Int
  | [] => []
  | d :: ds => encP d ++ encPs ds
end
mutual
theorem enc_py : ∀ {d : Dat} {p : PyData}, d.py = some p → encP p = d.enc
  | .int i, p, h => by cases h; rfl
  | .tup ds, p, h => by
    obtain ⟨ps, e, e2⟩ := Option.map_eq_some_iff.mp (show (Dat.pys ds).map PyData.tuple = some p from h)
    subst e2
    show 2 :: (encPs ps ++ [0]) = 2 :: (Dat.encs ds ++ [0])
    rw [encs_py e]
  | .non, p, h => by cases h; rfl
  | .bl _, p, h => by cases h; rfl
  | .str _, p, h => by cases h; rfl
  | .lst ds, p, h => by
    obtain ⟨ps, e, e2⟩ := Option.map_eq_some_iff.mp (show (Dat.pys ds).map PyData.list = some p from h)
    subst e2
    rfl
  | .rol ds, p, h => by
    obtain ⟨ps, e, e2⟩ := Option.map_eq_some_iff.mp (show (Dat.pys ds).map PyData.list = some p from h)
    subst e2
    rfl
  | .ptr _, p, h => by cases h
  | .oth _, p, h => by cases h
  | .fn _, p, h => by cases h
theorem encs_py : ∀ {d : List Dat} {p : List PyData}, Dat.pys d = some p → encPs p = Dat.encs d
  | [], p, h => by cases h; rfl
  | d :: ds, p, h => by
    unfold Dat.pys at h
    cases e : Dat.py d with
    | none => rw [e] at h; cases h
    | some q =>
      rw [e] at h
      obtain ⟨ps, e2, e3⟩ := Option.map_eq_some_iff.mp h
      subst e3
      show encP q ++ encPs ps = d.enc ++ Dat.encs ds
      rw [enc_py e, encs_py e2]
end
theorem enc_head (d : Dat) : ∃ a as, d.enc = a :: as ∧ 0 < a := by
  cases d <;> first | exact ⟨_, _, rfl, by decide⟩ 
mutual
theorem lex_cmp : ∀ {x y : Dat} (r s : List Int), Dat.like x y = true → lexB (x.enc ++ r) (y.enc ++ s) = match Dat.cmp x y with
    | .lt => true
    | .gt => false
    | .eq => lexB r s
  | .int i, .int j, r, s, _ => by
    show lexB (1 :: i :: r) (1 :: j :: s) = match (if i < j then Ordering.lt else if i = j then .eq else .gt) with | .lt => true | .gt => false | .eq => lexB r s
    rw [lexB_cons, if_neg (by decide), if_neg (by decide), lexB_cons]
    by_cases h : i < j
    · rw [if_pos h, if_pos h]
    · rw [if_neg h, if_neg h]
      by_cases h2 : i = j
      · rw [if_pos h2, if_neg (by omega)]
      · rw [if_neg h2, if_pos (by omega)]
  | .tup xs, .tup ys, r, s, h => by
    have := lex_cmps (xs := xs) (ys := ys) r s h
    show lexB (2 :: ((Dat.encs xs ++ [0]) ++ r)) (2 :: ((Dat.encs ys ++ [0]) ++ s)) = match Dat.cmps xs ys with | .lt => true | .gt => false | .eq => lexB r s
    rw [lexB_cons, if_neg (by decide), if_neg (by decide), List.append_assoc, List.append_assoc]
    exact this
  | .int _, .tup _, _, _, h => by cases h
  | .int _, .non, _, _, h => by cases h
  | .int _, .bl _, _, _, h => by cases h
  | .int _, .str _, _, _, h => by cases h
  | .int _, .lst _, _, _, h => by cases h
  | .int _, .rol _, _, _, h => by cases h
  | .int _, .ptr _, _, _, h => by cases h
  | .int _, .oth _, _, _, h => by cases h
  | .int _, .fn _, _, _, h => by cases h
  | .tup _, .int _, _, _, h => by cases h
  | .tup _, .non, _, _, h => by cases h
  | .tup _, .bl _, _, _, h => by cases h
  | .tup _, .str _, _, _, h => by cases h
  | .tup _, .lst _, _, _, h => by cases h
  | .tup _, .rol _, _, _, h => by cases h
  | .tup _, .ptr _, _, _, h => by cases h
  | .tup _, .oth _, _, _, h => by cases h
  | .tup _, .fn _, _, _, h => by cases h
  | .non, y, _, _, h => by cases y <;> cases h
  | .bl _, y, _, _, h => by cases y <;> cases h
  | .str _, y, _, _, h => by cases y <;> cases h
  | .lst _, y, _, _, h => by cases y <;> cases h
  | .rol _, y, _, _, h => by cases y <;> cases h
  | .ptr _, y, _, _, h => by cases y <;> cases h
  | .oth _, y, _, _, h => by cases y <;> cases h
  | .fn _, y, _, _, h => by cases y <;> cases h
theorem lex_cmps : ∀ {xs ys : List Dat} (r s : List Int), Dat.likes xs ys = true → lexB (Dat.encs xs ++ ([0] ++ r)) (Dat.encs ys ++ ([0] ++ s)) = match Dat.cmps xs ys with
    | .lt => true
    | .gt => false
    | .eq => lexB r s
  | [], [], r, s, _ => by
    show lexB (0 :: r) (0 :: s) = lexB r s
    rw [lexB_cons, if_neg (by decide), if_neg (by decide)]
  | [], y :: ys, r, s, _ => by
    obtain ⟨a, as, e, h⟩ := enc_head y
    show lexB (0 :: r) ((y.enc ++ Dat.encs ys) ++ ([0] ++ s)) = true
    rw [e]
    show lexB (0 :: r) (a :: _) = true
    rw [lexB_cons, if_pos h]
  | x :: xs, [], r, s, _ => by
    obtain ⟨a, as, e, h⟩ := enc_head x
    show lexB ((x.enc ++ Dat.encs xs) ++ ([0] ++ r)) (0 :: s) = false
    rw [e]
    show lexB (a :: _) (0 :: s) = false
    rw [lexB_cons, if_neg (by omega), if_pos h]
  | x :: xs, y :: ys, r, s, h => by
    obtain ⟨h1, h2⟩ := Bool.and_eq_true_iff.mp (show (Dat.like x y && Dat.likes xs ys) = true from h)
    show lexB ((x.enc ++ Dat.encs xs) ++ ([0] ++ r)) ((y.enc ++ Dat.encs ys) ++ ([0] ++ s)) = match (match Dat.cmp x y with | .eq => Dat.cmps xs ys | o => o) with | .lt => true | .gt => false | .eq => lexB r s
    rw [List.append_assoc, List.append_assoc, lex_cmp _ _ h1]
    cases Dat.cmp x y with
    | lt => rfl
    | gt => rfl
    | eq => exact lex_cmps r s h2
end
theorem lt_lex {x y : Dat} (h : Dat.like x y = true) : Dat.lt x y = lexB x.enc y.enc := by
  have := lex_cmp [] [] h
  rw [List.append_nil, List.append_nil] at this
  rw [this]
  unfold Dat.lt
  cases Dat.cmp x y <;> rfl
mutual
theorem cmp_eq : ∀ {x y : Dat}, Dat.like x y = true → Dat.cmp x y = .eq → x = y
  | .int i, .int j, _, h => by
    have h : (if i < j then Ordering.lt else if i = j then .eq else .gt) = .eq := h
    by_cases h1 : i < j
    · rw [if_pos h1] at h; cases h
    · rw [if_neg h1] at h
      by_cases h2 : i = j
      · rw [h2]
      · rw [if_neg h2] at h; cases h
  | .tup xs, .tup ys, l, h => congrArg _ (cmps_eq (xs := xs) (ys := ys) l h)
  | .int _, .tup _, h, _ => by cases h
  | .int _, .non, h, _ => by cases h
  | .int _, .bl _, h, _ => by cases h
  | .int _, .str _, h, _ => by cases h
  | .int _, .lst _, h, _ => by cases h
  | .int _, .rol _, h, _ => by cases h
  | .int _, .ptr _, h, _ => by cases h
  | .int _, .oth _, h, _ => by cases h
  | .int _, .fn _, h, _ => by cases h
  | .tup _, .int _, h, _ => by cases h
  | .tup _, .non, h, _ => by cases h
  | .tup _, .bl _, h, _ => by cases h
  | .tup _, .str _, h, _ => by cases h
  | .tup _, .lst _, h, _ => by cases h
  | .tup _, .rol _, h, _ => by cases h
  | .tup _, .ptr _, h, _ => by cases h
  | .tup _, .oth _, h, _ => by cases h
  | .tup _, .fn _, h, _ => by cases h
  | .non, y, h, _ => by cases y <;> cases h
  | .bl _, y, h, _ => by cases y <;> cases h
  | .str _, y, h, _ => by cases y <;> cases h
  | .lst _, y, h, _ => by cases y <;> cases h
  | .rol _, y, h, _ => by cases y <;> cases h
  | .ptr _, y, h, _ => by cases y <;> cases h
  | .oth _, y, h, _ => by cases y <;> cases h
  | .fn _, y, h, _ => by cases y <;> cases h
theorem cmps_eq : ∀ {xs ys : List Dat}, Dat.likes xs ys = true → Dat.cmps xs ys = .eq → xs = ys
  | [], [], _, _ => rfl
  | [], _ :: _, _, h => by cases h
  | _ :: _, [], _, h => by cases h
  | x :: xs, y :: ys, l, h => by
    obtain ⟨h1, h2⟩ := Bool.and_eq_true_iff.mp (show (Dat.like x y && Dat.likes xs ys) = true from l)
    have h : (match Dat.cmp x y with | .eq => Dat.cmps xs ys | o => o) = .eq := h
    cases e : Dat.cmp x y with
    | lt => rw [e] at h; cases h
    | gt => rw [e] at h; cases h
    | eq =>
      rw [e] at h
      rw [cmp_eq h1 e, cmps_eq h2 h]
end
theorem lexB_self (x : List Int) : lexB x x = false := by
  cases h : lexB x x with
  | false => rfl
  | true => rw [lexB_asym h] at h; cases h
theorem lexB_more : ∀ (x : List Int), lexB (x ++ []) (x ++ [0]) = true
  | [] => rfl
  | a :: as => by
    show lexB (a :: (as ++ [])) (a :: (as ++ [0])) = true
    rw [lexB_cons, if_neg (by omega), if_neg (by omega)]
    exact lexB_more as
theorem enc_inj {x y : Dat} (l : Dat.like x y = true) (h1 : lexB x.enc y.enc = false) (h2 : lexB y.enc x.enc = false) : x = y := by
  have e := lexB_eq h1 h2
  have k1 := lex_cmp [] [0] l
  rw [e, lexB_more] at k1
  have k2 := lex_cmp [0] [] l
  rw [e] at k2
  cases hc : Dat.cmp x y with
  | eq => exact cmp_eq l hc
  | gt => rw [hc] at k1; cases k1
  | lt =>
    rw [hc] at k2
    have := lexB_asym (lexB_more y.enc)
    rw [this] at k2
    cases k2
/-! ### one sorted arrangement -/
theorem sorted_one {α : Type} {R : α → α → Prop} : ∀ {l m : List α}, l.Perm m → l.Pairwise R → m.Pairwise R → (∀ x ∈ l, ∀ y ∈ l, R x y → R y x → x = y) → l = m
  | [], m, p, _, _, _ => p.nil_eq
  | a :: l, [], p, _, _, _ => by
    have := p.length_eq
    cases this
  | a :: l, b :: m, p, h1, h2, as => by
    have hb : b ∈ a :: l := p.mem_iff.mpr List.mem_cons_self
    have ha : a ∈ b :: m := p.mem_iff.mp List.mem_cons_self
    have e : a = b := by
      rcases List.mem_cons.mp hb with e | hb'
      · exact e.symm
      · rcases List.mem_cons.mp ha with e | ha'
        · exact e
        · exact as a List.mem_cons_self b hb ((List.pairwise_cons.mp h1).1 b hb') ((List.pairwise_cons.mp h2).1 a ha')
    subst e
    rw [sorted_one p.cons_inv (List.pairwise_cons.mp h1).2 (List.pairwise_cons.mp h2).2 fun x hx y hy => as x (List.mem_cons_of_mem _ hx) y (List.mem_cons_of_mem _ hy)]
theorem perm_lift {α β : Type} {f : α → β} {l : List β} {m : List β} (p : l.Perm m) : ∀ {l' : List α}, l'.map f = l → ∃ m' : List α, m'.Perm l' ∧ m'.map f = m := by
  induction p with
  | nil => intro l' e; exact ⟨l', List.Perm.refl _, e⟩
  | cons x _ ih =>
    intro l' e
    cases l' with
    | nil => cases e
    | cons a l' =>
      obtain ⟨e1, e2⟩ := List.cons.inj e
      obtain ⟨m', h1, h2⟩ := ih e2
      exact ⟨a :: m', h1.cons a, by rw [List.map_cons, e1, h2]⟩
  | swap x y l =>
    intro l' e
    match l', e with
    | a :: b :: r, e =>
      obtain ⟨e1, e2⟩ := List.cons.inj e
      obtain ⟨e3, e4⟩ := List.cons.inj e2
      exact ⟨b :: a :: r, List.Perm.swap _ _ _, by rw [List.map_cons, List.map_cons, e1, e3, e4]⟩
  | trans _ _ ih1 ih2 =>
    intro l' e
    obtain ⟨m1, h1, h2⟩ := ih1 e
    obtain ⟨m2, h3, h4⟩ := ih2 h2
    exact ⟨m2, h3.trans h1, h4⟩
theorem insD_perm (x : Dat) : ∀ ys : List Dat, (insD x ys).Perm (x :: ys)
  | [] => List.Perm.refl _
  | y :: ys => by
    unfold insD
    split
    · exact ((insD_perm x ys).cons y).trans (List.Perm.swap x y ys)
    · exact List.Perm.refl _
theorem isortD_perm : ∀ ys : List Dat, (isortD ys).Perm ys
  | [] => List.Perm.refl _
  | y :: ys => (insD_perm y (isortD ys)).trans ((isortD_perm ys).cons y)
abbrev LeD (x y : Dat) : Prop := lexB y.enc x.enc = false
theorem insD_srt {x : Dat} : ∀ {ys : List Dat}, (∀ y ∈ ys, Dat.like y x = true) → ys.Pairwise LeD → (insD x ys).Pairwise LeD
  | [], _, _ => List.pairwise_singleton _ _
  | y :: ys, hl, h => by
    obtain ⟨h1, h2⟩ := List.pairwise_cons.mp h
    unfold insD
    by_cases c : Dat.lt y x = true
    · rw [if_pos c]
      rw [lt_lex (hl y List.mem_cons_self)] at c
      refine List.pairwise_cons.mpr ⟨fun z hz => ?_, insD_srt (fun z hz => hl z (List.mem_cons_of_mem _ hz)) h2⟩
      rcases List.mem_cons.mp ((insD_perm x ys).mem_iff.mp hz) with e | hz
      · subst e; exact lexB_asym c
      · exact h1 z hz
    · rw [if_neg c]
      rw [lt_lex (hl y List.mem_cons_self)] at c
      have c : lexB y.enc x.enc = false := by simpa using c
      refine List.pairwise_cons.mpr ⟨fun z hz => ?_, h⟩
      rcases List.mem_cons.mp hz with e | hz
      · subst e; exact c
      · exact lexB_tr (h1 z hz) c
theorem isortD_srt : ∀ {ys : List Dat}, (∀ x ∈ ys, ∀ y ∈ ys, Dat.like x y = true) → (isortD ys).Pairwise LeD
  | [], _ => List.Pairwise.nil
  | y :: ys, h => insD_srt (fun z hz => h z (List.mem_cons_of_mem _ ((isortD_perm ys).mem_iff.mp hz)) y List.mem_cons_self) (isortD_srt fun a ha b hb => h a (List.mem_cons_of_mem _ ha) b (List.mem_cons_of_mem _ hb))
theorem isortD_one {ds l : List Dat} (hl : ∀ x ∈ ds, ∀ y ∈ ds, Dat.like x y = true) (p : l.Perm ds) (s : l.Pairwise LeD) : l = isortD ds :=
  sorted_one (p.trans (isortD_perm ds).symm) s (isortD_srt hl) fun x hx y hy h1 h2 => enc_inj (hl x (p.mem_iff.mp hx) y (p.mem_iff.mp hy)) h2 h1
end Ab
end

section
set_option Elab.async false
set_option linter.all false
set_option maxRecDepth 100000
set_option maxHeartbeats 4000000
/-! Ab21: nested data compared by the program; sorted. -/
namespace Ab
open PySem PySem.Spec PyProof.Rows L2
def isEqO : Ordering → Bool
  | .eq => true
  | _ => false
def isLtO : Ordering → Bool
  | .lt => true
  | _ => false
mutual
theorem eqv_cmp : ∀ {x y : Dat} {p q : PyData}, Dat.like x y = true → x.py = some p → y.py = some q → PyData.eqv p q = isEqO (Dat.cmp x y)
  | .int i, .int j, p, q, _, h1, h2 => by
    cases h1
    cases h2
    show (i == j) = isEqO (if i < j then Ordering.lt else if i = j then .eq else .gt)
    by_cases h : i < j
    · rw [if_pos h]
      exact beq_eq_false_iff_ne.mpr (by omega)
    · rw [if_neg h]
      by_cases h2 : i = j
      · rw [if_pos h2]; exact beq_iff_eq.mpr h2
      · rw [if_neg h2]; exact beq_eq_false_iff_ne.mpr h2
  | .tup xs, .tup ys, p, q, l, h1, h2 => by
    obtain ⟨ps, e1, f1⟩ := Option.map_eq_some_iff.mp (show (Dat.pys xs).map PyData.tuple = some p from h1)
    obtain ⟨qs, e2, f2⟩ := Option.map_eq_some_iff.mp (show (Dat.pys ys).map PyData.tuple = some q from h2)
    subst f1 f2
    show PyData.eqvAll ps qs = isEqO (Dat.cmps xs ys)
    exact eqvs_cmps (xs := xs) (ys := ys) l e1 e2
  | .int _, .tup _, _, _, h, _, _ => by cases h
  | .int _, .non, _, _, h, _, _ => by cases h
  | .int _, .bl _, _, _, h, _, _ => by cases h
  | .int _, .str _, _, _, h, _, _ => by cases h
  | .int _, .lst _, _, _, h, _, _ => by cases h
  | .int _, .rol _, _, _, h, _, _ => by cases h
  | .int _, .ptr _, _, _, h, _, _ => by cases h
  | .int _, .oth _, _, _, h, _, _ => by cases h
  | .int _, .fn _, _, _, h, _, _ => by cases h
  | .tup _, .int _, _, _, h, _, _ => by cases h
  | .tup _, .non, _, _, h, _, _ => by cases h
  | .tup _, .bl _, _, _, h, _, _ => by cases h
  | .tup _, .str _, _, _, h, _, _ => by cases h
  | .tup _, .lst _, _, _, h, _, _ => by cases h
  | .tup _, .rol _, _, _, h, _, _ => by cases h
  | .tup _, .ptr _, _, _, h, _, _ => by cases h
  | .tup _, .oth _, _, _, h, _, _ => by cases h
  | .tup _, .fn _, _, _, h, _, _ => by cases h
  | .non, y, _, _, h, _, _ => by cases y <;> cases h
  | .bl _, y, _, _, h, _, _ => by cases y <;> cases h
  | .str _, y, _, _, h, _, _ => by cases y <;> cases h
  | .lst _, y, _, _, h, _, _ => by cases y <;> cases h
  | .rol _, y, _, _, h, _, _ => by cases y <;> cases h
  | .ptr _, y, _, _, h, _, _ => by cases y <;> cases h
  | .oth _, y, _, _, h, _, _ => by cases y <;> cases h
  | .fn _, y, _, _, h, _, _ => by cases y <;> cases h
theorem eqvs_cmps : ∀ {xs ys : List Dat} {p q : List PyData}, Dat.likes xs ys = true → Dat.pys xs = some p → Dat.pys ys = some q → PyData.eqvAll p q = isEqO (Dat.cmps xs ys)
  | [], [], _, _, _, h1, h2 => by cases h1; cases h2; rfl
  | [], y :: ys, _, q, _, h1, h2 => by
    cases h1
    unfold Dat.pys at h2
    cases e : Dat.py y with
    | none => rw [e] at h2; cases h2
    | some z =>
      rw [e] at h2
      obtain ⟨ps, e2, e3⟩ := Option.map_eq_some_iff.mp h2
      subst e3
      rfl
  | x :: xs, [], p, _, _, h1, h2 => by
    cases h2
    unfold Dat.pys at h1
    cases e : Dat.py x with
    | none => rw [e] at h1; cases h1
    | some z =>
      rw [e] at h1
      obtain ⟨ps, e2, e3⟩ := Option.map_eq_some_iff.mp h1
      subst e3
      rfl
  | x :: xs, y :: ys, p, q, l, h1, h2 => by
    obtain ⟨l1, l2⟩ := Bool.and_eq_true_iff.mp (show (Dat.like x y && Dat.likes xs ys) = true from l)
    unfold Dat.pys at h1 h2
    cases e : Dat.py x with
    | none => rw [e] at h1; cases h1
    | some z =>
      rw [e] at h1
      obtain ⟨ps, e2, e3⟩ := Option.map_eq_some_iff.mp h1
      subst e3
      cases f : Dat.py y with
      | none => rw [f] at h2; cases h2
      | some w =>
        rw [f] at h2
        obtain ⟨qs, f2, f3⟩ := Option.map_eq_some_iff.mp h2
        subst f3
        show (PyData.eqv z w && PyData.eqvAll ps qs) = isEqO (match Dat.cmp x y with | .eq => Dat.cmps xs ys | o => o)
        rw [eqv_cmp l1 e f]
        cases Dat.cmp x y with
        | eq => exact (Bool.true_and _).trans (eqvs_cmps l2 e2 f2)
        | lt => rfl
        | gt => rfl
end
theorem lexAt_shift {e r : Nat → Bool} {z : Bool} : ∀ (k i : Nat), Ob.lexAt e r z (i + 1) k = Ob.lexAt (fun j => e (j + 1)) (fun j => r (j + 1)) z i k
  | 0, _ => rfl
  | k + 1, i => by rw [Ob.lexAt_succ, Ob.lexAt_succ, lexAt_shift k (i + 1)]
theorem pys_cons {x : Dat} {xs : List Dat} {p : List PyData} (h : Dat.pys (x :: xs) = some p) : ∃ z ps, p = z :: ps ∧ x.py = some z ∧ Dat.pys xs = some ps := by
  unfold Dat.pys at h
  cases e : Dat.py x with
  | none => rw [e] at h; cases h
  | some z =>
    rw [e] at h
    obtain ⟨ps, e2, e3⟩ := Option.map_eq_some_iff.mp h
    exact ⟨z, ps, e3.symm, rfl, e2⟩
theorem dep_cons {p : PyData} {ps : List PyData} {u n : Nat} (h : u + PyData.depthAll (p :: ps) < n) : u + p.depth < n ∧ u + PyData.depthAll ps < n := by
  have h : u + max p.depth (PyData.depthAll ps) < n := h
  omega
mutual
theorem rc_lt : ∀ (x y : Dat) {A : Around} {s : Shared} {u v : Value} {p q : PyData} {as bs : List Addr}, Dat.like x y = true → x.py = some p → y.py = some q → p.canLay0 = true → q.canLay0 = true → Reads s.heap u p as → Reads s.heap v q bs → A.units + p.depth < cLine → Ob.RcOp .Lt A s u v (isLtO (Dat.cmp x y))
  | .int i, .int j, A, s, u, v, p, q, as, bs, _, h1, h2, _, _, r1, r2, _ => by
    cases h1
    cases h2
    cases r1
    cases r2
    have e : isLtO (Dat.cmp (.int i) (.int j)) = decide (i < j) := by
      show isLtO (if i < j then Ordering.lt else if i = j then .eq else .gt) = _
      by_cases h : i < j
      · rw [if_pos h, decide_eq_true h]; rfl
      · rw [if_neg h, decide_eq_false h]
        split <;> rfl
    rw [e]
    exact Ob.RcOp.lt_int i j _ _
  | .tup xs, .tup ys, A, s, u, v, p, q, as, bs, l, h1, h2, c1, c2, r1, r2, hu => by
    obtain ⟨ps, e1, f1⟩ := Option.map_eq_some_iff.mp (show (Dat.pys xs).map PyData.tuple = some p from h1)
    obtain ⟨qs, e2, f2⟩ := Option.map_eq_some_iff.mp (show (Dat.pys ys).map PyData.tuple = some q from h2)
    subst f1 f2
    cases r1 with
    | @tuple a o vs n _ _ ho hc hd hr =>
      cases r2 with
      | @tuple a2 o2 vs2 n2 _ _ ho2 hc2 hd2 hr2 =>
        have hu2 : A.in1.units + PyData.depthAll ps < cLine := by
          have hu : A.units + (PyData.depthAll ps + 1) < cLine := hu
          show A.units + 1 + PyData.depthAll ps < cLine
          omega
        obtain ⟨e, r, h1, h2, h3⟩ := rc_lts xs ys (A := A.in1) l e1 e2 c1 c2 hr hr2 hu2
        have hu3 : A.units < cLine := by
          have hu : A.units + (PyData.depthAll ps + 1) < cLine := hu
          omega
        have := Ob.RcOp.tuples_lt (e := e) (r := r) (show s.heap.IsTuple a vs from ⟨o, ho, hc, n, hd⟩) (show s.heap.IsTuple a2 vs2 from ⟨o2, ho2, hc2, n2, hd2⟩) hu3 (fun j k1 k2 => h1 j (by simpa using k1) (by simpa using k2)) (fun j k1 k2 ke => h2 j (by simpa using k1) (by simpa using k2) ke)
        show Ob.RcOp .Lt A s _ _ (isLtO (Dat.cmps xs ys))
        rw [← h3]
        simpa using this
  | .int _, .tup _, _, _, _, _, _, _, _, _, h, _, _, _, _, _, _, _ => by cases h
  | .int _, .non, _, _, _, _, _, _, _, _, h, _, _, _, _, _, _, _ => by cases h
  | .int _, .bl _, _, _, _, _, _, _, _, _, h, _, _, _, _, _, _, _ => by cases h
  | .int _, .str _, _, _, _, _, _, _, _, _, h, _, _, _, _, _, _, _ => by cases h
  | .int _, .lst _, _, _, _, _, _, _, _, _, h, _, _, _, _, _, _, _ => by cases h
  | .int _, .rol _, _, _, _, _, _, _, _, _, h, _, _, _, _, _, _, _ => by cases h
  | .int _, .ptr _, _, _, _, _, _, _, _, _, h, _, _, _, _, _, _, _ => by cases h
  | .int _, .oth _, _, _, _, _, _, _, _, _, h, _, _, _, _, _, _, _ => by cases h
  | .int _, .fn _, _, _, _, _, _, _, _, _, h, _, _, _, _, _, _, _ => by cases h
  | .tup _, .int _, _, _, _, _, _, _, _, _, h, _, _, _, _, _, _, _ => by cases h
  | .tup _, .non, _, _, _, _, _, _, _, _, h, _, _, _, _, _, _, _ => by cases h
  | .tup _, .bl _, _, _, _, _, _, _, _, _, h, _, _, _, _, _, _, _ => by cases h
  | .tup _, .str _, _, _, _, _, _, _, _, _, h, _, _, _, _, _, _, _ => by cases h
  | .tup _, .lst _, _, _, _, _, _, _, _, _, h, _, _, _, _, _, _, _ => by cases h
  | .tup _, .rol _, _, _, _, _, _, _, _, _, h, _, _, _, _, _, _, _ => by cases h
  | .tup _, .ptr _, _, _, _, _, _, _, _, _, h, _, _, _, _, _, _, _ => by cases h
  | .tup _, .oth _, _, _, _, _, _, _, _, _, h, _, _, _, _, _, _, _ => by cases h
  | .tup _, .fn _, _, _, _, _, _, _, _, _, h, _, _, _, _, _, _, _ => by cases h
  | .non, y, _, _, _, _, _, _, _, _, h, _, _, _, _, _, _, _ => by cases y <;> cases h
  | .bl _, y, _, _, _, _, _, _, _, _, h, _, _, _, _, _, _, _ => by cases y <;> cases h
  | .str _, y, _, _, _, _, _, _, _, _, h, _, _, _, _, _, _, _ => by cases y <;> cases h
  | .lst _, y, _, _, _, _, _, _, _, _, h, _, _, _, _, _, _, _ => by cases y <;> cases h
  | .rol _, y, _, _, _, _, _, _, _, _, h, _, _, _, _, _, _, _ => by cases y <;> cases h
  | .ptr _, y, _, _, _, _, _, _, _, _, h, _, _, _, _, _, _, _ => by cases y <;> cases h
  | .oth _, y, _, _, _, _, _, _, _, _, h, _, _, _, _, _, _, _ => by cases y <;> cases h
  | .fn _, y, _, _, _, _, _, _, _, _, h, _, _, _, _, _, _, _ => by cases y <;> cases h
theorem rc_lts : ∀ (xs ys : List Dat) {A : Around} {s : Shared} {us vs : List Value} {p q : List PyData} {as bs : List Addr}, Dat.likes xs ys = true → Dat.pys xs = some p → Dat.pys ys = some q → PyData.canLayAll0 p = true → PyData.canLayAll0 q = true → ReadsAll s.heap us p as → ReadsAll s.heap vs q bs → A.units + PyData.depthAll p < cLine →
    ∃ e r : Nat → Bool, (∀ j (h1 : j < us.length) (h2 : j < vs.length), SeqAt.EqAt A s us[j] vs[j] (e j)) ∧ (∀ j (h1 : j < us.length) (h2 : j < vs.length), e j = false → Ob.RcOp .Lt A s us[j] vs[j] (r j)) ∧ Ob.lexAt e r (decide (us.length < vs.length)) 0 (min us.length vs.length) = isLtO (Dat.cmps xs ys)
  | [], [], A, s, us, vs, p, q, as, bs, _, h1, h2, _, _, r1, r2, _ => by
    cases h1; cases h2; cases r1; cases r2
    exact ⟨fun _ => true, fun _ => true, fun j h => absurd h (by simp), fun j h => absurd h (by simp), rfl⟩
  | [], y :: ys, A, s, us, vs, p, q, as, bs, _, h1, h2, _, _, r1, r2, _ => by
    cases h1
    obtain ⟨z, ps, e, _, _⟩ := pys_cons h2
    subst e
    cases r1
    cases r2
    exact ⟨fun _ => true, fun _ => true, fun j h => absurd h (by simp), fun j h => absurd h (by simp), by simp [Ob.lexAt_zero, Dat.cmps, isLtO]⟩
  | x :: xs, [], A, s, us, vs, p, q, as, bs, _, h1, h2, _, _, r1, r2, _ => by
    cases h2
    obtain ⟨z, ps, e, _, _⟩ := pys_cons h1
    subst e
    cases r2
    cases r1
    exact ⟨fun _ => true, fun _ => true, fun j h h' => absurd h' (by simp), fun j h h' => absurd h' (by simp), by simp [Ob.lexAt_zero, Dat.cmps, isLtO]⟩
  | x :: xs, y :: ys, A, s, us, vs, p, q, as, bs, l, h1, h2, c1, c2, r1, r2, hu => by
    obtain ⟨l1, l2⟩ := Bool.and_eq_true_iff.mp (show (Dat.like x y && Dat.likes xs ys) = true from l)
    obtain ⟨z, ps, e, k1, k2⟩ := pys_cons h1
    obtain ⟨z', ps', e', k1', k2'⟩ := pys_cons h2
    subst e e'
    obtain ⟨c1a, c1b⟩ := Bool.and_eq_true_iff.mp (show (z.canLay0 && PyData.canLayAll0 ps) = true from c1)
    obtain ⟨c2a, c2b⟩ := Bool.and_eq_true_iff.mp (show (z'.canLay0 && PyData.canLayAll0 ps') = true from c2)
    obtain ⟨u1, u2⟩ := dep_cons hu
    cases r1 with
    | cons ra rb =>
      cases r2 with
      | cons ra' rb' =>
        obtain ⟨e, r, q1, q2, q3⟩ := rc_lts xs ys l2 k2 k2' c1b c2b rb rb' u2
        have hq := eqv_cmp l1 k1 k1'
        refine ⟨fun j => match j with | 0 => PyData.eqv z z' | j + 1 => e j, fun j => match j with | 0 => isLtO (Dat.cmp x y) | j + 1 => r j, fun j j1 j2 => ?_, fun j j1 j2 je => ?_, ?_⟩
        · cases j with
          | zero => exact SeqAt.eqAt_reads z z' A s _ _ _ _ ra ra' c1a c2a (by have := Nat.min_le_left z.depth z'.depth; omega)
          | succ j => exact q1 j (by simpa using j1) (by simpa using j2)
        · cases j with
          | zero => exact rc_lt x y l1 k1 k1' c1a c2a ra ra' u1
          | succ j => exact q2 j (by simpa using j1) (by simpa using j2) je
        · rw [List.length_cons, List.length_cons, Nat.add_min_add_right, Ob.lexAt_succ, lexAt_shift]
          show (if PyData.eqv z z' = true then Ob.lexAt e r _ 0 _ else isLtO (Dat.cmp x y)) = isLtO (match Dat.cmp x y with | .eq => Dat.cmps xs ys | o => o)
          rw [hq]
          cases Dat.cmp x y with
          | eq =>
            have := q3
            simpa [isEqO] using this
          | lt => rfl
          | gt => rfl
end
end Ab
end

section
set_option Elab.async false
set_option linter.all false
set_option maxRecDepth 100000
set_option maxHeartbeats 4000000
/-! Ab22: sorted(..) of ints, of nested tuples. -/
namespace Ab
open PySem PySem.Spec PyProof.Rows L2
section
variable {prog : Program} {w : World} {A : Around} {E : Value → Shared → Prop} {s : Shared}
theorem item_of {h : Heap} : ∀ {ds : List Dat} {ps : List PyData} {vs : List Value} {as : List Addr}, Dat.pys ds = some ps → ReadsAll h vs ps as → ∀ v ∈ vs, ∃ d ∈ ds, ∃ p bs, d.py = some p ∧ Reads h v p bs
  | [], _, _, _, h1, r, v, hv => by
    cases h1
    cases r
    cases hv
  | d :: ds, _, _, _, h1, r, v, hv => by
    obtain ⟨z, ps, e, k1, k2⟩ := pys_cons h1
    subst e
    cases r with
    | cons ra rb =>
      rcases List.mem_cons.mp hv with e | hv
      · subst e
        exact ⟨d, List.mem_cons_self, z, _, k1, ra⟩
      · obtain ⟨d', m, p, bs, q1, q2⟩ := item_of k2 rb v hv
        exact ⟨d', List.mem_cons_of_mem _ m, p, bs, q1, q2⟩
/-- the loop of tuples' comparison -/
theorem kat_lts {b : Bool} : ∀ (xs ys : List Dat) {us vs : List Value} {p q : List PyData} {as bs : List Addr} (i : Nat) {fin : Bool} {Q : Bool → Shared → Prop},
    (b = true → i = 0 → ∃ m n xs' ys', xs = .int m :: xs' ∧ ys = .int n :: ys') → Dat.likes xs ys = true → Dat.pys xs = some p → Dat.pys ys = some q → PyData.canLayAll0 p = true → PyData.canLayAll0 q = true → ReadsAll s.heap us p as → ReadsAll s.heap vs q bs → A.units + PyData.depthAll p < cLine →
    fin = decide (us.length < vs.length) → Q (isLtO (Dat.cmps xs ys)) s → PySem.W.KatLex prog w A b fin Q (us.zip vs) i s
  | [], [], us, vs, p, q, as, bs, i, fin, Q, _, _, h1, h2, _, _, r1, r2, _, hf, hQ => by
    cases h1; cases h2; cases r1; cases r2
    subst hf
    exact PySem.W.kat_nil hQ
  | [], y :: ys, us, vs, p, q, as, bs, i, fin, Q, _, _, h1, h2, _, _, r1, r2, _, hf, hQ => by
    cases h1
    obtain ⟨z, ps, e, _, _⟩ := pys_cons h2
    subst e
    cases r1
    cases r2
    subst hf
    exact PySem.W.kat_nil (by simpa [Dat.cmps, isLtO] using hQ)
  | x :: xs, [], us, vs, p, q, as, bs, i, fin, Q, _, _, h1, h2, _, _, r1, r2, _, hf, hQ => by
    cases h2
    obtain ⟨z, ps, e, _, _⟩ := pys_cons h1
    subst e
    cases r2
    cases r1
    subst hf
    exact PySem.W.kat_nil (by simpa [Dat.cmps, isLtO] using hQ)
  | x :: xs, y :: ys, us, vs, p, q, as, bs, i, fin, Q, hb, l, h1, h2, c1, c2, r1, r2, hu, hf, hQ => by
    obtain ⟨l1, l2⟩ := Bool.and_eq_true_iff.mp (show (Dat.like x y && Dat.likes xs ys) = true from l)
    obtain ⟨z, ps, e, k1, k2⟩ := pys_cons h1
    obtain ⟨z', ps', e', k1', k2'⟩ := pys_cons h2
    subst e e'
    obtain ⟨c1a, c1b⟩ := Bool.and_eq_true_iff.mp (show (z.canLay0 && PyData.canLayAll0 ps) = true from c1)
    obtain ⟨c2a, c2b⟩ := Bool.and_eq_true_iff.mp (show (z'.canLay0 && PyData.canLayAll0 ps') = true from c2)
    obtain ⟨u1, u2⟩ := dep_cons hu
    have hQ : Q (isLtO (match Dat.cmp x y with | .eq => Dat.cmps xs ys | o => o)) s := hQ
    cases r1 with
    | @cons v1 vr _ _ _ _ ra rb =>
      cases r2 with
      | @cons v2 vr2 _ _ _ _ ra' rb' =>
        rw [List.zip_cons_cons]
        have hq := eqv_cmp l1 k1 k1'
        refine PySem.W.kat_cons (SeqAt.eqAt_reads z z' A s _ _ _ _ ra ra' c1a c2a (by have := Nat.min_le_left z.depth z'.depth; omega) prog w _ _ ?_)
        refine PySem.W.kat_go (fun e1 => ?_) (fun e1 => ?_)
        · rw [hq] at e1
          cases hc : Dat.cmp x y with
          | lt => rw [hc] at e1; cases e1
          | gt => rw [hc] at e1; cases e1
          | eq =>
            rw [hc] at hQ
            exact PySem.W.kat_yes (kat_lts xs ys (i + 1) (fun _ z => absurd z (by omega)) l2 k2 k2' c1b c2b rb rb' u2 (by rw [hf]; simp) hQ)
        · rw [hq] at e1
          have hQ2 : Q (isLtO (Dat.cmp x y)) s := by
            cases hc : Dat.cmp x y with
            | lt => rw [hc] at hQ; exact hQ
            | gt => rw [hc] at hQ; exact hQ
            | eq => rw [hc] at e1; cases e1
          refine PySem.W.kat_no ?_
          by_cases hbi : (b && i == 0) = true
          · obtain ⟨b1, b2⟩ := Bool.and_eq_true_iff.mp hbi
            obtain ⟨m, n, xs', ys', ex, ey⟩ := hb b1 (by simpa using b2)
            obtain ⟨ex, _⟩ := List.cons.inj ex
            obtain ⟨ey, _⟩ := List.cons.inj ey
            subst ex ey
            cases k1
            cases k1'
            cases ra
            cases ra'
            rw [hbi]
            refine oneLt_int ?_
            have e : isLtO (Dat.cmp (.int m) (.int n)) = decide (m < n) := by
              show isLtO (if m < n then Ordering.lt else if m = n then .eq else .gt) = _
              by_cases h : m < n
              · rw [if_pos h, decide_eq_true h]; rfl
              · rw [if_neg h, decide_eq_false h]
                split <;> rfl
            rw [← e]
            exact hQ2
          · have hbi : (b && i == 0) = false := by simpa using hbi
            rw [hbi]
            exact PySem.W.kat_one _ _ (show wpAny (model prog w) A (richCompare .Lt v1 v2) (PySem.W.BoolBack Q) (fun _ _ => False) s from rc_lt x y l1 k1 k1' c1a c2a ra ra' u1 prog w _ (PySem.W.BoolBack Q) (show PySem.W.BoolBack Q (.bool _) s from hQ2))
theorem kat_tups {h : Heap} : ∀ {ds : List Dat} {ps : List PyData} {vs : List Value} {as : List Addr}, (∀ d ∈ ds, d.headT = true) → Dat.pys ds = some ps → ReadsAll h vs ps as → ∃ fs, PySem.W.KatTups h vs fs ∧ fs.length = vs.length ∧ ∀ f ∈ fs, ∃ a o, f = Value.ref a ∧ h.get? a = some o ∧ o.cls = .type "tuple"
  | [], _, _, _, _, h1, r => by
    cases h1
    cases r
    exact ⟨[], PySem.W.KatTups.nil, rfl, fun f hf => by cases hf⟩
  | d :: ds, _, _, _, hh, h1, r => by
    obtain ⟨z, ps, e, k1, k2⟩ := pys_cons h1
    subst e
    cases r with
    | cons ra rb =>
      obtain ⟨fs, q1, q2, q3⟩ := kat_tups (fun d m => hh d (List.mem_cons_of_mem _ m)) k2 rb
      have hd := hh d List.mem_cons_self
      match d, hd with
      | .tup (.tup ys :: rest), _ =>
        obtain ⟨ts, e1, e2⟩ := Option.map_eq_some_iff.mp (show (Dat.pys (.tup ys :: rest)).map PyData.tuple = some z from k1)
        subst e2
        obtain ⟨z0, r0, e3, k3, k4⟩ := pys_cons e1
        subst e3
        obtain ⟨t2, e4, e5⟩ := Option.map_eq_some_iff.mp (show (Dat.pys ys).map PyData.tuple = some z0 from k3)
        subst e5
        cases ra with
        | @tuple a o vs2 n _ _ ho hc hdt hr =>
          obtain ⟨l⟩ := vs2
          cases hr with
          | cons rc rd =>
            cases rc with
            | @tuple a2 o2 vs3 n2 _ _ ho2 hc2 hdt2 hr2 =>
              refine ⟨.ref a2 :: fs, PySem.W.KatTups.cons ho hc hdt (by simp) q1, by simp [q2], fun f hf => ?_⟩
              rcases List.mem_cons.mp hf with e | hf
              · exact ⟨a2, o2, e, ho2, hc2⟩
              · exact q3 f hf
theorem kat_intsT {h : Heap} : ∀ {ds : List Dat} {ps : List PyData} {vs : List Value} {as : List Addr}, (∀ d ∈ ds, d.headI = true) → Dat.pys ds = some ps → ReadsAll h vs ps as → ∃ fs, PySem.W.KatTups h vs fs ∧ fs.length = vs.length ∧ ∀ f ∈ fs, ∃ x t, f = Value.int x t
  | [], _, _, _, _, h1, r => by
    cases h1
    cases r
    exact ⟨[], PySem.W.KatTups.nil, rfl, fun f hf => by cases hf⟩
  | d :: ds, _, _, _, hh, h1, r => by
    obtain ⟨z, ps, e, k1, k2⟩ := pys_cons h1
    subst e
    cases r with
    | cons ra rb =>
      obtain ⟨fs, q1, q2, q3⟩ := kat_intsT (fun d m => hh d (List.mem_cons_of_mem _ m)) k2 rb
      have hd := hh d List.mem_cons_self
      match d, hd with
      | .tup (.int m :: rest), _ =>
        obtain ⟨ts, e1, e2⟩ := Option.map_eq_some_iff.mp (show (Dat.pys (.int m :: rest)).map PyData.tuple = some z from k1)
        subst e2
        obtain ⟨z0, r0, e3, k3, k4⟩ := pys_cons e1
        subst e3
        cases k3
        cases ra with
        | @tuple a o vs2 n _ _ ho hc hdt hr =>
          obtain ⟨l⟩ := vs2
          cases hr with
          | cons rc rd =>
            cases rc with
            | int i t =>
              refine ⟨.int m t :: fs, PySem.W.KatTups.cons ho hc hdt (by simp) q1, by simp [q2], fun f hf => ?_⟩
              rcases List.mem_cons.mp hf with e | hf
              · exact ⟨_, _, e⟩
              · exact q3 f hf
noncomputable def keyV (h : Heap) (u : Value) : List Int := encP (SeqAt.readOf h u)
theorem shp_py {d : Dat} {p : PyData} (h : d.shp = true) (e : d.py = some p) : p.canLay0 = true ∧ p.depth ≤ 64 := by
  unfold Dat.shp at h
  rw [e] at h
  exact ⟨SeqAt.canLay_of_shaped h, SeqAt.depth_of_shaped h⟩
/-- tuples: comparing is by keyV -/
theorem tup_cmp {h0 h' : Heap} {b : Bool} {vs : List Value} {ds : List Dat} {ps : List PyData} {as : List Addr} (hk : ∀ c o, h0.get? c = some o → h'.get? c = some o) (hp : Dat.pys ds = some ps) (hr : ReadsAll h0 vs ps as) (hu : A.units + 64 < cLine) (hs : ∀ d ∈ ds, d.shp = true) (hl : ∀ x ∈ ds, ∀ y ∈ ds, Dat.like x y = true)
    (ht : ∀ d ∈ ds, ∃ xs, d = .tup xs) (hb : b = true → ∀ d ∈ ds, d.headI = true) : SrtO.Cmp prog w A { s with heap := h' } (tuples' b) (fun p => p.1 ∈ vs) (SrtO.lt2 fun u v => lexB (keyV h0 u) (keyV h0 v)) := by
  intro p q hm hm'
  obtain ⟨x, hx, px, bx, ex, rx⟩ := item_of hp hr _ hm
  obtain ⟨y, hy, py, by_, ey, ry⟩ := item_of hp hr _ hm'
  obtain ⟨c1, d1⟩ := shp_py (hs x hx) ex
  obtain ⟨c2, d2⟩ := shp_py (hs y hy) ey
  have kx : keyV h0 p.1 = x.enc := by unfold keyV; rw [SeqAt.readOf_eq c1 rx, enc_py ex]
  have ky : keyV h0 q.1 = y.enc := by unfold keyV; rw [SeqAt.readOf_eq c2 ry, enc_py ey]
  have l := hl x hx y hy
  show wpAny (model prog w) A (keyLt' (tuples' b) p.1 q.1) (fun r s' => s' = { s with heap := h' } ∧ r = lexB (keyV h0 p.1) (keyV h0 q.1)) (fun _ _ => False) { s with heap := h' }
  rw [kx, ky, ← lt_lex l]
  obtain ⟨xs, e1⟩ := ht x hx
  obtain ⟨ys, e2⟩ := ht y hy
  have hI1 := fun z => hb z x hx
  have hI2 := fun z => hb z y hy
  subst e1 e2
  obtain ⟨ps1, f1, g1⟩ := Option.map_eq_some_iff.mp (show (Dat.pys xs).map PyData.tuple = some px from ex)
  obtain ⟨ps2, f2, g2⟩ := Option.map_eq_some_iff.mp (show (Dat.pys ys).map PyData.tuple = some py from ey)
  subst g1 g2
  have rx' := Reads.keeps hk rx
  have ry' := Reads.keeps hk ry
  generalize p.1 = u at rx' 
  generalize q.1 = v at ry'
  cases rx' with
  | @tuple a o vs1 n _ _ ho hc hd hr1 =>
    cases ry' with
    | @tuple a2 o2 vs2 n2 _ _ ho2 hc2 hd2 hr2 =>
      refine PySem.W.kat_lt (s := { s with heap := h' }) ho hd ho2 hd2 (kat_lts (s := { s with heap := h' }) xs ys 0 (fun z _ => ?_) l f1 f2 c1 c2 hr1 hr2 (by
        have d1 : PyData.depthAll ps1 + 1 ≤ 64 := d1
        omega) (by simp) ⟨rfl, ?_⟩)
      · have i1 := hI1 z
        have i2 := hI2 z
        match xs, ys, i1, i2 with
        | .int m :: xs', .int n :: ys', _, _ => exact ⟨m, n, xs', ys', rfl, rfl⟩
      · show isLtO (Dat.cmps xs ys) = Dat.lt (.tup xs) (.tup ys)
        unfold Dat.lt
        show isLtO (Dat.cmps xs ys) = match Dat.cmps xs ys with | .lt => true | _ => false
        cases Dat.cmps xs ys <;> rfl
end
end Ab
end

section
set_option Elab.async false
set_option linter.all false
set_option maxRecDepth 100000
set_option maxHeartbeats 4000000
/-! Ab23: sorted(..) as a rule. -/
namespace Ab
open PySem PySem.Spec PyProof.Rows L2
section
variable {prog : Program} {w : World} {A : Around} {E : Value → Shared → Prop} {s : Shared}
/-- a tuple's items, collected -/
theorem collect_tup {t : Addr} {items : List Value} {R : List Value → Shared → Prop} (ht : s.heap.IsTuple t items.toArray) (hn : items.length ≤ sizeLine)
    (k : R items { s with heap := (s.heap.push (seqObj "list" #[] 0)).update s.heap.objs.size (Obj.mapSeq (· ++ items.toArray)) }) :
    wpAny (model prog w) A (collect (.ref t)) R E s := by
  obtain ⟨ob, hob, cob, m, dob⟩ := ht
  have new0 : (s.heap.push (seqObj "list" #[] 0)).get? s.heap.objs.size = some (seqObj "list" #[] 0) := Heap.get?_push_size _ rfl
  have old0 : (s.heap.push (seqObj "list" #[] 0)).get? t = some ob := Heap.get?_push_of_some _ hob
  unfold collect
  apply wpAny_bind
  apply wpAny_runValue
  apply codeAny_builtin entry_proto_collect'
  show wpAny _ _ (do again (.builtin "list.__iadd__" ⟨[← newList [], .ref t], []⟩)) _ _ s
  apply wpAny_bind
  apply wpAny_newList
  · apply wpAny_pure
    refine ⟨Code.quiet_builtin _ (by decide +kernel), ?_⟩
    apply codeAny_builtin entry_list_iadd'
    show wpAny _ _ (Builtin.List.listExtendWith (.ref s.heap.objs.size) (.ref t) (.ref s.heap.objs.size)) _ _ { s with heap := s.heap.push (seqObj "list" #[] 0) }
    unfold Builtin.List.listExtendWith
    refine wpAny_bind (wpAny_typeOf (T := "tuple") ⟨ob, old0, cob⟩ ?_)
    have hT : (Value.type "tuple" == Value.type "tuple") = true := by rfl
    rw [if_pos (by rw [hT]; simp)]
    refine wpAny_bind (listItems_at old0 dob ?_)
    refine wpAny_bind (listItems_at (xs := #[]) (n := 0) new0 rfl ?_)
    rw [if_neg (by simp)]
    refine wpAny_bind (listUpdate_at (xs := #[]) (n := 0) new0 rfl ?_ (Nat.zero_le _) (by
      show (#[] ++ items.toArray).size ≤ sizeLine + 1
      rw [Array.size_append, List.size_toArray]
      simp only [List.size_toArray, List.length_nil]
      omega))
    apply wpAny_pure
    show wpAny (model prog w) A (do
      let o ← load s.heap.objs.size
      match o.data with
      | .seq xs _ => pure xs.toList
      | _ => unsupported "internal:collect") R E { s with heap := (s.heap.push (seqObj "list" #[] 0)).update s.heap.objs.size (Obj.mapSeq (· ++ items.toArray)) }
    apply wpAny_bind
    apply wpAny_load (get?_update_seq new0 _)
    show wpAny _ _ (pure ((#[] : Array Value) ++ items.toArray).toList) R E _
    have e : ((#[] : Array Value) ++ items.toArray).toList = items := by simp
    rw [e]
    exact wpAny_pure k
  · exact Nat.zero_le _
/-- sorted(t), t a tuple -/
theorem sorted_tup {t : Addr} {items : List Value} {ltv : Value → Value → Bool} {R : Value → Shared → Prop} (O : SrtO.Swo ltv) (ht : s.heap.IsTuple t items.toArray) (hn : items.length ≤ sizeLine)
    (hS : 2 ≤ items.length → ∀ (h1 : Heap) (a : Addr), h1.get? a = some (seqObj "list" items.toArray 0) → (∀ b o, s.heap.get? b = some o → b ≠ a ∧ h1.get? b = some o) → SrtO.SortableO prog w A.in1.in1 { s with heap := h1 } a items ltv)
    (k : ∀ out : List Value, SrtO.Srtd ltv out → SrtO.Stb ltv out items → R (.ref (s.heap.objs.size + 1)) { s with heap := sortedAll s.heap items out.toArray }) :
    wpAny (model prog w) A (call (.builtin "sorted") [.ref t]) R E s := by
  apply Calls.call_function_entry kind_sorted plain_sorted entry_sorted (args_sorted1 _)
  unfold Builtin.«sorted»
  apply wpAny_bind (m := checkCount "sorted" 1 1 _)
  apply wpAny_pure
  apply wpAny_bind
  apply collect_tup ht hn
  apply wpAny_bind
  refine wpAny_newList ?_ hn
  have len1 : ((s.heap.push (seqObj "list" #[] 0)).update s.heap.objs.size (Obj.mapSeq (· ++ items.toArray))).objs.size = s.heap.objs.size + 1 := by
    rw [Heap.size_update]
    exact size_push' _ _
  have at1 : (((s.heap.push (seqObj "list" #[] 0)).update s.heap.objs.size (Obj.mapSeq (· ++ items.toArray))).push (seqObj "list" items.toArray 0)).get? (s.heap.objs.size + 1) = some (seqObj "list" items.toArray 0) := by
    rw [← len1]
    exact Heap.get?_push_size _ rfl
  have keep1 : ∀ b o, s.heap.get? b = some o → b ≠ s.heap.objs.size + 1 ∧ (((s.heap.push (seqObj "list" #[] 0)).update s.heap.objs.size (Obj.mapSeq (· ++ items.toArray))).push (seqObj "list" items.toArray 0)).get? b = some o := fun b o q => by
    have lt1 := Heap.lt_size q
    refine ⟨Nat.ne_of_lt (Nat.lt_succ_of_lt lt1), Heap.get?_push_of_some _ ?_⟩
    rw [Heap.get?_update_ne _ _ _ _ (Nat.ne_of_lt lt1)]
    exact Heap.get?_push_of_some _ q
  show wpAny _ _ _ _ _ { s with heap := ((s.heap.push (seqObj "list" #[] 0)).update s.heap.objs.size (Obj.mapSeq (· ++ items.toArray))).push (seqObj "list" items.toArray 0) }
  rw [len1]
  apply wpAny_bind
  apply wpAny_holding
  refine wpAny_call_entry slot_list_sort ⟨_, at1, rfl⟩ entry_list_sort ?_ (args_list_sort _)
  refine SrtO.list_sort_ord O at1 hn (fun h2 => hS h2 _ _ at1 keep1) ?_
  intro out hs hb
  refine ⟨_, rfl, ?_⟩
  apply wpAny_pure
  exact ⟨_, rfl, k out hs hb⟩
end
end Ab
end

section
set_option Elab.async false
set_option linter.all false
set_option maxRecDepth 100000
set_option maxHeartbeats 4000000
/-! Ab24: sorted(e) in the small language. -/
namespace Ab
open PySem PySem.Spec PyProof.Rows L2
section
variable {prog : Program} {w : World} {A : Around} {s : Shared}
theorem all_of {α : Type} {f : α → Bool} {l : List α} (h : l.all f = true) : ∀ x ∈ l, f x = true := List.all_eq_true.mp h
theorem headI_tup {d : Dat} (h : d.headI = true) : ∃ xs, d = .tup xs := by
  unfold Dat.headI at h
  split at h
  · exact ⟨_, rfl⟩
  · cases h
theorem headT_tup {d : Dat} (h : d.headT = true) : ∃ xs, d = .tup xs := by
  unfold Dat.headT at h
  split at h
  · exact ⟨_, rfl⟩
  · cases h
theorem ints_of {h : Heap} : ∀ {ds : List Dat} {ps : List PyData} {vs : List Value} {as : List Addr}, (∀ d ∈ ds, d.isI = true) → Dat.pys ds = some ps → ReadsAll h vs ps as → ∃ ns, IntsAre vs ns
  | [], _, _, _, _, h1, r => by
    cases h1
    cases r
    exact ⟨[], .nil⟩
  | d :: ds, _, _, _, hh, h1, r => by
    obtain ⟨z, ps, e, k1, k2⟩ := pys_cons h1
    subst e
    cases r with
    | cons ra rb =>
      obtain ⟨ns, q⟩ := ints_of (fun d m => hh d (List.mem_cons_of_mem _ m)) k2 rb
      have hd := hh d List.mem_cons_self
      cases d with
      | int i =>
        cases k1
        cases ra with
        | int _ t => exact ⟨i :: ns, .cons i t q⟩
      | _ => cases hd
theorem key_of {h0 : Heap} {vs : List Value} {ds : List Dat} {ps : List PyData} {as : List Addr} (hp : Dat.pys ds = some ps) (hr : ReadsAll h0 vs ps as) (hs : ∀ d ∈ ds, d.shp = true) : vs.map (keyV h0) = ds.map Dat.enc := by
  induction ds generalizing ps vs as with
  | nil =>
    cases hp
    cases hr
    rfl
  | cons d ds ih =>
    obtain ⟨z, ps, e, k1, k2⟩ := pys_cons hp
    subst e
    cases hr with
    | cons ra rb =>
      rw [List.map_cons, List.map_cons, ih k2 rb fun d m => hs d (List.mem_cons_of_mem _ m)]
      congr 1
      unfold keyV
      rw [SeqAt.readOf_eq (shp_py (hs d List.mem_cons_self) k1).1 ra, enc_py k1]
theorem nest_sortable {s0 : Shared} {h1 : Heap} {a : Addr} {vs : List Value} {ds : List Dat} {ps : List PyData} {as : List Addr} (hp : Dat.pys ds = some ps) (hr : ReadsAll s0.heap vs ps as) (hu : A.units + 64 < cLine) (h2 : 2 ≤ vs.length)
    (hk : ∀ b o, s0.heap.get? b = some o → b ≠ a ∧ h1.get? b = some o) (hd : (ds.all Dat.isI || ds.all Dat.headI || ds.all Dat.headT) = true) (hs : ∀ d ∈ ds, d.shp = true) (hl : ∀ x ∈ ds, ∀ y ∈ ds, Dat.like x y = true) :
    SrtO.SortableO prog w A { s0 with heap := h1 } a vs fun u v => lexB (keyV s0.heap u) (keyV s0.heap v) := by
  by_cases hI : ds.all Dat.isI = true
  · obtain ⟨ns, hi⟩ := ints_of (all_of hI) hp hr
    intro h' kp
    obtain ⟨κ, q1, q2⟩ := SrtO.ints_sortable (prog := prog) (w := w) (A := A) (s := { s0 with heap := h1 }) (a := a) hi h2 h' kp
    refine ⟨κ, q1, fun p q hm hm' => ?_⟩
    have := q2 p q hm hm'
    refine wpAny_mono this (fun r s' hq => ⟨hq.1, hq.2.trans ?_⟩) fun _ _ z => z
    obtain ⟨x, hx, px, bx, ex, rx⟩ := item_of hp hr _ hm
    obtain ⟨y, hy, py, by_, ey, ry⟩ := item_of hp hr _ hm'
    have ix := all_of hI x hx
    have iy := all_of hI y hy
    cases x with
    | int i =>
      cases y with
      | int j =>
        cases ex
        cases ey
        show SrtO.ltIv p.1 q.1 = lexB (keyV s0.heap p.1) (keyV s0.heap q.1)
        have k1 : keyV s0.heap p.1 = [1, i] := by unfold keyV; rw [SeqAt.readOf_eq rfl rx]; rfl
        have k2 : keyV s0.heap q.1 = [1, j] := by unfold keyV; rw [SeqAt.readOf_eq rfl ry]; rfl
        rw [k1, k2, lexB_cons, if_neg (by decide), if_neg (by decide), lexB_cons]
        generalize p.1 = u at rx
        generalize q.1 = v at ry
        cases rx
        cases ry
        show decide (i < j) = _
        by_cases h : i < j
        · rw [if_pos h, decide_eq_true h]
        · rw [if_neg h, decide_eq_false h]
          split <;> rfl
      | _ => cases iy
    | _ => cases ix
  · have hI : ds.all Dat.isI = false := by simpa using hI
    rw [hI, Bool.false_or] at hd
    intro h' kp
    have keep : ∀ c o, s0.heap.get? c = some o → h'.get? c = some o := fun c o e => by
      obtain ⟨n1, n2⟩ := hk c o e
      exact kp c o n1 n2
    have hr' := ReadsAll.keeps keep hr
    by_cases hH : ds.all Dat.headI = true
    · obtain ⟨fs, f1, f2, f3⟩ := kat_intsT (all_of hH) hp hr'
      refine ⟨tuples' true, fun Q E hq => ?_, tup_cmp (s := s0) keep hp hr hu hs hl (fun d m => headI_tup (all_of hH d m)) fun _ => all_of hH⟩
      refine PySem.W.kat_kind (T := .type "int") f1 (by omega) (fun f hm => ?_) (by rfl) ?_
      · obtain ⟨x, t, e⟩ := f3 f hm
        subst e
        exact PySem.W.Looks.now
      · have e : (Value.type "int" != Value.type "tuple") = true := by decide +kernel
        rw [e]
        exact hq
    · have hH : ds.all Dat.headI = false := by simpa using hH
      rw [hH, Bool.false_or] at hd
      obtain ⟨fs, f1, f2, f3⟩ := kat_tups (all_of hd) hp hr'
      refine ⟨tuples' false, fun Q E hq => ?_, tup_cmp (s := s0) keep hp hr hu hs hl (fun d m => headT_tup (all_of hd d m)) fun z => nomatch z⟩
      refine PySem.W.kat_kind (T := .type "tuple") f1 (by omega) (fun f hm => ?_) (by rfl) ?_
      · obtain ⟨a2, o, e, ho, hc⟩ := f3 f hm
        subst e
        exact hc ▸ (PySem.W.Looks.ld ho).andThen .now
      · have e : (Value.type "tuple" != Value.type "tuple") = false := by decide +kernel
        rw [e]
        exact hq
end

/-! ### the rule -/
def rSrt (K : PySem.W.Frag) : List V → Hp → VK → Prop := fun vs H Q => ∃ (a : Addr) (xs : List V) (ds es : List Dat) (ps : List PyData), vs = [.ref a] ∧ (SqL K H a xs ∨ SqT K H a xs) ∧ DpAll K H xs ps ∧ Dat.pys ds = some ps ∧ srtD ds = some es ∧ ds.length = xs.length ∧
  ∀ (tr : List (Dat × V)) (p : Addr), tr.Perm (ds.zip xs) → tr.map (·.1) = es → H p = none → Q (.ref p) (upd H p (.lst (tr.map (·.2))))
theorem vals_get {xs : List V} {us : List Value} (r : Vals xs us) : ∀ t ∈ xs.zip us, RelV t.1 t.2 := by
  induction r with
  | nil => intro t h; cases h
  | cons h _ ih =>
    intro t ht
    rcases List.mem_cons.mp ht with e | ht
    · subst e; exact h
    · exact ih t ht
theorem vals_map {tr : List ((Dat × V) × Value)} (h : ∀ t ∈ tr, RelV t.1.2 t.2) : Vals (tr.map fun t => t.1.2) (tr.map (·.2)) := by
  induction tr with
  | nil => exact .nil
  | cons t tr ih => exact .cons (h t List.mem_cons_self) (ih fun u hu => h u (List.mem_cons_of_mem _ hu))
theorem srtD_short {ds es : List Dat} (h : srtD ds = some es) (hl : ds.length < 2) : es = ds := by
  unfold srtD at h
  rw [if_pos hl] at h
  split at h
  · exact (Option.some.inj h).symm
  · cases h
theorem srtD_long {ds es : List Dat} (h : srtD ds = some es) (hl : ¬ ds.length < 2) : es = isortD ds ∧ (ds.all Dat.isI || ds.all Dat.headI || ds.all Dat.headT) = true ∧ (∀ d ∈ ds, d.shp = true) ∧ ∀ x ∈ ds, ∀ y ∈ ds, Dat.like x y = true := by
  unfold srtD at h
  rw [if_neg hl] at h
  split at h
  · rename_i hc
    obtain ⟨hc, h3⟩ := Bool.and_eq_true_iff.mp hc
    obtain ⟨h1, h2⟩ := Bool.and_eq_true_iff.mp hc
    exact ⟨(Option.some.inj h).symm, h1, all_of h2, fun x hx y hy => all_of (all_of h3 x hx) y hy⟩
  · cases h
theorem map_fst_zip' {α β : Type} : ∀ {l : List α} {m : List β}, l.length = m.length → (l.zip m).map (·.1) = l
  | [], [], _ => rfl
  | a :: l, b :: m, h => by
    rw [List.zip_cons_cons, List.map_cons, map_fst_zip' (by simpa using h)]
theorem map_snd_zip' {α β : Type} : ∀ {l : List α} {m : List β}, l.length = m.length → (l.zip m).map (·.2) = m
  | [], [], _ => rfl
  | a :: l, b :: m, h => by
    rw [List.zip_cons_cons, List.map_cons, map_snd_zip' (by simpa using h)]
section
variable {X : Cx}
theorem cr_srt (hu : X.A.units + 64 + 2 < cLine) : CallR X (.builtin "sorted") (rSrt X.K) := by
  intro pins s σ H vs us Q I r h
  obtain ⟨a, xs, ds, es, ps, rfl, hs, hD, hp, hsrt, hlen, q⟩ := h
  rw [Vals.ref1 r]
  have main : ∀ (its : List Value), Vals xs its → xs.length ≤ sizeLine →
      (∀ (R : Value → Shared → Prop), (2 ≤ its.length → ∀ (h1 : Heap) (b : Addr), h1.get? b = some (seqObj "list" its.toArray 0) → (∀ c o, s.heap.get? c = some o → c ≠ b ∧ h1.get? c = some o) → SrtO.SortableO X.prog X.w X.A.in1.in1 { s with heap := h1 } b its fun u v => lexB (keyV s.heap u) (keyV s.heap v)) →
        (∀ out : List Value, SrtO.Srtd (fun u v => lexB (keyV s.heap u) (keyV s.heap v)) out → SrtO.Stb (fun u v => lexB (keyV s.heap u) (keyV s.heap v)) out its → R (.ref (s.heap.objs.size + 1)) { s with heap := sortedAll s.heap its out.toArray }) →
        wpAny (model X.prog X.w) X.A (call (.builtin "sorted") [.ref a]) R X.xe s) → wpAny (model X.prog X.w) X.A (call (.builtin "sorted") [.ref a]) (EP X pins σ Q) X.xe s := by
    intro its rv hz run
    obtain ⟨as, hr⟩ := Dp.readsAll I ps xs its hD rv
    have hl2 : its.length = ds.length := by rw [hlen]; exact rv.length.symm
    refine run _ (fun h2 h1 b _ hk => ?_) fun out h1 h2 => ?_
    · obtain ⟨_, k1, k2, k3⟩ := srtD_long hsrt (by omega)
      exact nest_sortable hp hr (by show X.A.units + 1 + 1 + 64 < cLine; omega) h2 hk k1 k2 k3
    · obtain ⟨ep, he'⟩ := sortedAll_at s.heap its out.toArray
      obtain ⟨tr, p1, p2⟩ := perm_lift (f := fun t : (Dat × V) × Value => t.2) h2.perm.symm (l' := (ds.zip xs).zip its) (map_snd_zip' (by rw [List.length_zip]; omega))
      have hm1 : ((ds.zip xs).zip its).map (fun t => t.1) = ds.zip xs := map_fst_zip' (by rw [List.length_zip]; omega)
      have pz : (tr.map fun t => t.1).Perm (ds.zip xs) := by
        have := p1.map fun t => t.1
        rw [hm1] at this
        exact this
      have hkey : ∀ t ∈ (ds.zip xs).zip its, 2 ≤ its.length → keyV s.heap t.2 = t.1.1.enc := fun t ht h2' => by
        obtain ⟨_, _, k2, _⟩ := srtD_long hsrt (by omega)
        have km := key_of hp hr k2
        obtain ⟨i, hi, e⟩ := List.mem_iff_getElem.mp ht
        have hi2 : i < its.length := by
          rw [List.length_zip] at hi
          omega
        have hi3 : i < ds.length := by omega
        have hi4 : i < xs.length := by omega
        rw [List.getElem_zip, List.getElem_zip] at e
        subst e
        have := congrArg (fun l => l[i]?) km
        simp only [List.getElem?_map, List.getElem?_eq_getElem hi2, List.getElem?_eq_getElem hi3, Option.map_some] at this
        exact Option.some.inj this
      have hes : (tr.map fun t => t.1).map (·.1) = es := by
        have pd : ((tr.map fun t => t.1).map (·.1)).Perm ds := by
          have := pz.map (·.1)
          rw [map_fst_zip' hlen] at this
          exact this
        by_cases hlt : ds.length < 2
        · rw [srtD_short hsrt hlt]
          match ds, hlt, pd with
          | [], _, pd => exact pd.eq_nil
          | [d], _, pd => exact List.perm_singleton.mp pd
        · obtain ⟨e1, _, k2, k3⟩ := srtD_long hsrt hlt
          rw [e1]
          refine isortD_one k3 pd ?_
          rw [List.map_map]
          refine List.pairwise_map.mpr ?_
          have h1' : (tr.map fun t => t.2).Pairwise fun x y => lexB (keyV s.heap y) (keyV s.heap x) = false := by rw [p2]; exact h1
          refine (List.pairwise_map.mp h1').imp_of_mem fun {t u} ht hu' h => ?_
          have e2 := hkey t (p1.mem_iff.mp ht) (by omega)
          have e3 := hkey u (p1.mem_iff.mp hu') (by omega)
          rw [e2, e3] at h
          exact h
      have hrel : ∀ t ∈ tr, RelV t.1.2 t.2 := fun t ht => by
        have ht := p1.mem_iff.mp ht
        have : (t.1.2, t.2) ∈ xs.zip its := by
          obtain ⟨i, hi, e⟩ := List.mem_iff_getElem.mp ht
          have hi2 : i < (xs.zip its).length := by
            rw [List.length_zip, List.length_zip] at hi
            rw [List.length_zip]
            omega
          rw [List.getElem_zip, List.getElem_zip] at e
          subst e
          refine List.mem_iff_getElem.mpr ⟨i, hi2, ?_⟩
          rw [List.getElem_zip]
        exact vals_get rv _ this
      have hv := vals_map hrel
      have hmm : ((tr.map fun t => t.1).map (·.2)) = tr.map fun t => t.1.2 := by rw [List.map_map]; rfl
      have hvals : Vals ((tr.map fun t => t.1).map (·.2)) out := by
        rw [hmm, ← p2]
        exact hv
      have hlen2 : ((tr.map fun t => t.1).map (·.2)).length ≤ sizeLine := by
        rw [List.length_map, pz.length_eq, List.length_zip]
        omega
      exact ⟨.ref _, upd H (s.heap.objs.size + 1) (.lst ((tr.map fun t => t.1).map (·.2))), I.laid (t' := s.toks) (fun _ _ => sortedAll_old) (Nat.le_succ _) ⟨hlen2, out, ep, hvals, he'⟩, rfl, q _ _ pz hes (I.hok.fresh (Nat.le_succ _))⟩
  rcases hs with hs | hs
  · obtain ⟨its, rv, hl, hz⟩ := I.list hs
    exact main its rv hz fun R k1 k2 => SrtO.sorted_ord (swo_key (keyV s.heap)) hl.isList (by rw [← rv.length]; exact hz) k1 k2
  · obtain ⟨its, rv, hl, hz⟩ := I.tuple hs
    exact main its rv hz fun R k1 k2 => sorted_tup (swo_key (keyV s.heap)) (show s.heap.IsTuple a its.toArray from hl) (by rw [← rv.length]; exact hz) k1 k2
end
theorem srt_pys : ∀ {ds : List Dat}, (∀ d ∈ ds, d.shp = true) → ∃ ps, Dat.pys ds = some ps
  | [], _ => ⟨[], rfl⟩
  | d :: ds, h => by
    obtain ⟨ps, e⟩ := srt_pys (ds := ds) fun x hx => h x (List.mem_cons_of_mem _ hx)
    have hd := h d List.mem_cons_self
    unfold Dat.shp at hd
    cases e2 : d.py with
    | none => rw [e2] at hd; cases hd
    | some p =>
      refine ⟨p :: ps, ?_⟩
      unfold Dat.pys
      rw [e2, e]
      rfl
theorem reps_perm {K : PySem.W.Frag} {S : Hp} {A : List Addr} {tr : List (Dat × V)} (h : ∀ t ∈ tr, Rep K S A t.1 t.2) : Reps K S A (tr.map (·.1)) (tr.map (·.2)) := by
  induction tr with
  | nil => exact .nil
  | cons t tr ih => exact .cons (h t List.mem_cons_self) (ih fun u hu => h u (List.mem_cons_of_mem _ hu))
theorem reps_zip {K : PySem.W.Frag} {S : Hp} {A : List Addr} : ∀ {ds : List Dat} {xs : List V}, Reps K S A ds xs → ∀ t ∈ ds.zip xs, Rep K S A t.1 t.2
  | _, _, .nil, t, h => by cases h
  | _, _, .cons r q, t, h => by
    rcases List.mem_cons.mp h with e | h
    · subst e; exact r
    · exact reps_zip q t h
theorem srt_py {ds es : List Dat} (h : srtD ds = some es) : ∃ ps, Dat.pys ds = some ps := by
  by_cases hl : ds.length < 2
  · unfold srtD at h
    rw [if_pos hl] at h
    split at h
    · exact ⟨_, by assumption⟩
    · cases h
  · exact srt_pys (srtD_long h hl).2.2.1
section
variable {X : Cx} {b : Bas} {cf : CallF} {Γ : Gam} {M : Mem} {R : Dat → Mem → Prop} {e : Expr} {pos p : Pos} {ie : Ex}
theorem seqD_at {σ : L2.St} {S : Hp} {A : List Addr} {H : Hp} {d : Dat} {ds : List Dat} {v : V} (h : SeqD M d ds) (st : Stt X.K b σ S A H Γ M) (r : Rep X.K S A d v) : ∃ a xs, v = .ref a ∧ (SqL X.K H a xs ∨ SqT X.K H a xs) ∧ Reps X.K S A ds xs := by
  cases h with
  | l i =>
    obtain ⟨a, xs, ev, g, q⟩ := i.at st r
    exact ⟨a, xs, ev, .inl g, q⟩
  | t =>
    obtain ⟨a, xs, ev, g, q⟩ := (IsT.tup _).at st r
    exact ⟨a, xs, ev, .inr g, q⟩
theorem A_srt (hu : X.A.units + 64 + 2 < cLine) (hg : Gl X "sorted") (hm : X.mg "sorted" = none) (h : AE X b e Γ M fun d M1 => ∃ ds es, sq M1 d = some ds ∧ srtD ds = some es ∧ R (.lst es) M1) (he : starEach [e] X.env = (false, eval e X.env) :: starEach [] X.env := by rfl) : AE X b (.Call (.Name "sorted" p) [e] [] pos) Γ M R :=
  A_blt (cr_srt hu) hg hm (by decide +kernel) (L_cons (h.imp fun d M1 ⟨ds, es, h1, h2, q⟩ => L_nil fun σ S A H vs Q st r1 p => by
    obtain ⟨v, ev, r⟩ := r1.one
    subst ev
    obtain ⟨a, xs, ev, g, rr⟩ := seqD_at (sq_ok h1) st r
    subst ev
    obtain ⟨ps, hp⟩ := srt_py h2
    refine ⟨a, xs, ds, es, ps, rfl, g, rr.dp st.sub hp, hp, h2, rr.length, fun tr x pm hes hx => ?_⟩
    obtain ⟨s2, st2⟩ := st.lay (o := .lst (tr.map (·.2))) hx
    have rt := reps_perm fun t ht => reps_zip rr t (pm.mem_iff.mp ht)
    rw [hes] at rt
    exact (p.after s2).here st2 (.lst upd_same (rt.mono s2.s s2.a)) q) he) (by decide) (by decide) he
theorem A_srtC (hu : X.A.units + 64 + 2 < cLine) (hg : Gl X "sorted") (hm : X.mg "sorted" = none) (h : AE X b e Γ M fun d M1 => ∃ ds es, sq M1 d = some ds ∧ srtD ds = some es ∧ R (.ptr M1.length) (M1 ++ [.lst es])) (he : starEach [e] X.env = (false, eval e X.env) :: starEach [] X.env := by rfl) : AE X b (.Call (.Name "sorted" p) [e] [] pos) Γ M R :=
  A_blt (cr_srt hu) hg hm (by decide +kernel) (L_cons (h.imp fun d M1 ⟨ds, es, h1, h2, q⟩ => L_nil fun σ S A H vs Q st r1 p => by
    obtain ⟨v, ev, r⟩ := r1.one
    subst ev
    obtain ⟨a, xs, ev, g, rr⟩ := seqD_at (sq_ok h1) st r
    subst ev
    obtain ⟨ps, hp⟩ := srt_py h2
    refine ⟨a, xs, ds, es, ps, rfl, g, rr.dp st.sub hp, hp, h2, rr.length, fun tr x pm hes hx => ?_⟩
    have rt := reps_perm fun t ht => reps_zip rr t (pm.mem_iff.mp ht)
    rw [hes] at rt
    obtain ⟨s2, st2⟩ := st.layCell (o := .lst (tr.map (·.2))) (c := .lst es) hx ⟨_, upd_same, rt.mono (Same.refl _) (List.prefix_append _ _)⟩
    refine (p.after s2).here st2 (.ptr ?_) q
    rw [← st.len, List.getElem?_append_right (Nat.le_refl _), Nat.sub_self] <;> rfl) he) (by decide) (by decide) he
theorem SE.srt (hu : X.A.units + 64 + 2 < cLine) (hg : Gl X "sorted") (hm : X.mg "sorted" = none) (ha : SE X cf e ie) (he : starEach [e] X.env = (false, eval e X.env) :: starEach [] X.env := by rfl) : SE X cf (.Call (.Name "sorted" p) [e] [] pos) (.un .srt ie) := SE.un1 .srt (fun b Γ M R h => A_srt hu hg hm (h.imp fun d M ⟨r, e, q⟩ => by
  obtain ⟨ds, e1, e2⟩ := Option.bind_eq_some_iff.mp e
  obtain ⟨es, e3, e4⟩ := Option.map_eq_some_iff.mp e2
  subst e4
  exact ⟨ds, es, e1, e3, q⟩) he) ha
theorem SE.srtC (hu : X.A.units + 64 + 2 < cLine) (hg : Gl X "sorted") (hm : X.mg "sorted" = none) (ha : SE X cf e ie) (he : starEach [e] X.env = (false, eval e X.env) :: starEach [] X.env := by rfl) : SE X cf (.Call (.Name "sorted" p) [e] [] pos) (.un .srtC ie) := SE.un1 .srtC (fun b Γ M R h => A_srtC hu hg hm (h.imp fun d M ⟨r, e, q⟩ => by
  obtain ⟨ds, e1, e2⟩ := Option.bind_eq_some_iff.mp e
  obtain ⟨es, e3, e4⟩ := Option.map_eq_some_iff.mp e2
  subst e4
  exact ⟨ds, es, e1, e3, q⟩) he) ha
end
end Ab
end

section
set_option Elab.async false
set_option linter.all false
set_option maxRecDepth 100000
set_option maxHeartbeats 4000000
/-! Ab25: running the small language by hand: one equation a form. -/
namespace Ab
open PySem L2
section
variable {α β : Type} {cf : CallF} {wf : Nat} {Γ : Gam} {M M' : Mem}
@[simp] theorem bind_ok {a : α} {f : α → Mem → Rs β} : (Rs.ok a M).bind f = f a M := rfl
@[simp] theorem asB_bl {k : Bool} : asB (.ok (.bl k) M) = .ok k M := rfl
@[simp] theorem ofO_some {a : α} : ofO (some (a, M)) = .ok a M := rfl
@[simp] theorem at_ok {a : α} : (Rs.ok a M).at Γ = .ok a M := rfl
def varR : Option (Option Dat) → Mem → Rs Dat
  | some (some d), M => .ok d M
  | _, _ => .no
@[simp] theorem varR_ok {d : Dat} : varR (some (some d)) M = .ok d M := rfl
@[simp] theorem e_var {i : Nat} : evE cf (.var i) Γ M = varR Γ[i]? M := by
  show (match Γ[i]? with | some (some d) => Rs.ok d M | _ => .no) = _
  unfold varR
  cases Γ[i]? with
  | none => rfl
  | some o => cases o <;> rfl
@[simp] theorem e_dat {d : Dat} : evE cf (.dat d) Γ M = .ok d M := rfl
@[simp] theorem e_un {f : B1} {e : Ex} : evE cf (.un f e) Γ M = (evE cf e Γ M).bind fun d M => ofO (un1 f d M) := rfl
@[simp] theorem e_bin {f : B2} {a c : Ex} : evE cf (.bin f a c) Γ M = (evE cf a Γ M).bind fun d M => (evE cf c Γ M).bind fun e M => ofO (bin2 f d e M) := rfl
def mthR (f : M1) (d e : Dat) (M : Mem) : Rs Dat := ofO (mth1 f d e M)
@[simp] theorem e_mth {f : M1} {a c : Ex} : evE cf (.mth f a c) Γ M = (evE cf a Γ M).bind fun d M => if isCl M d then (evE cf c Γ M).bind fun e M => mthR f d e M else .no := rfl
def andR (cf : CallF) (c : Ex) (Γ : Gam) (k : Bool) (M : Mem) : Rs Dat := match k with
  | true => evE cf c Γ M
  | false => .ok (.bl false) M
def orR (cf : CallF) (c : Ex) (Γ : Gam) (k : Bool) (M : Mem) : Rs Dat := match k with
  | true => .ok (.bl true) M
  | false => evE cf c Γ M
def iteR (cf : CallF) (a e : Ex) (Γ : Gam) (k : Bool) (M : Mem) : Rs Dat := match k with
  | true => evE cf a Γ M
  | false => evE cf e Γ M
@[simp] theorem andR_t {c : Ex} : andR cf c Γ true M = evE cf c Γ M := rfl
@[simp] theorem andR_f {c : Ex} : andR cf c Γ false M = .ok (.bl false) M := rfl
@[simp] theorem orR_t {c : Ex} : orR cf c Γ true M = .ok (.bl true) M := rfl
@[simp] theorem orR_f {c : Ex} : orR cf c Γ false M = evE cf c Γ M := rfl
@[simp] theorem iteR_t {a e : Ex} : iteR cf a e Γ true M = evE cf a Γ M := rfl
@[simp] theorem iteR_f {a e : Ex} : iteR cf a e Γ false M = evE cf e Γ M := rfl
@[simp] theorem e_and {a c : Ex} : evE cf (.and a c) Γ M = (asB (evE cf a Γ M)).bind (andR cf c Γ) := rfl
@[simp] theorem e_or {a c : Ex} : evE cf (.or a c) Γ M = (asB (evE cf a Γ M)).bind (orR cf c Γ) := rfl
@[simp] theorem e_ite {c a e : Ex} : evE cf (.ite c a e) Γ M = (asB (evE cf c Γ M)).bind (iteR cf a e Γ) := rfl
def orLR (cf : CallF) (c : Ex) (Γ : Gam) (d : Dat) (M : Mem) : Option (List Dat) → Rs Dat
  | some [] => evE cf c Γ M
  | some (_ :: _) => .ok d M
  | none => .no
@[simp] theorem e_orL {a c : Ex} : evE cf (.orL a c) Γ M = (evE cf a Γ M).bind fun d M => orLR cf c Γ d M (rd M d) := by
  show ((evE cf a Γ M).bind fun d M => match rd M d with | some [] => evE cf c Γ M | some (_ :: _) => .ok d M | none => .no) = _
  congr 1
@[simp] theorem orLR_nil {c : Ex} {d : Dat} : orLR cf c Γ d M (some []) = evE cf c Γ M := rfl
@[simp] theorem orLR_cons {c : Ex} {d x : Dat} {xs : List Dat} : orLR cf c Γ d M (some (x :: xs)) = .ok d M := rfl
def okLen (f : List Dat → Rs Dat) (ds : List Dat) : Rs Dat := if ds.length ≤ sizeLine then f ds else .no
theorem okLen_ok {f : List Dat → Rs Dat} {ds : List Dat} (h : ds.length ≤ 1000) : okLen f ds = f ds := by
  unfold okLen
  rw [if_pos (by rw [sizeLine_eq]; omega)]
@[simp] theorem e_tup {es : Exs} : evE cf (.tup es) Γ M = (evA cf es Γ M).bind fun ds M => okLen (fun ds => .ok (.tup ds) M) ds := rfl
@[simp] theorem e_lst {es : Exs} : evE cf (.lst es) Γ M = (evA cf es Γ M).bind fun ds M => okLen (fun ds => .ok (.lst ds) M) ds := rfl
@[simp] theorem e_lstC {es : Exs} : evE cf (.lstC es) Γ M = (evA cf es Γ M).bind fun ds M => okLen (fun ds => .ok (.ptr M.length) (M ++ [.lst ds])) ds := rfl
@[simp] theorem okLen_0 {f : List Dat → Rs Dat} : okLen f [] = f [] := okLen_ok (by simp)
@[simp] theorem okLen_1 {f : List Dat → Rs Dat} {a : Dat} : okLen f [a] = f [a] := okLen_ok (by simp)
@[simp] theorem okLen_2 {f : List Dat → Rs Dat} {a b : Dat} : okLen f [a, b] = f [a, b] := okLen_ok (by simp)
@[simp] theorem okLen_3 {f : List Dat → Rs Dat} {a b c : Dat} : okLen f [a, b, c] = f [a, b, c] := okLen_ok (by simp)
@[simp] theorem okLen_4 {f : List Dat → Rs Dat} {a b c d : Dat} : okLen f [a, b, c, d] = f [a, b, c, d] := okLen_ok (by simp)
@[simp] theorem okLen_7 {f : List Dat → Rs Dat} {a b c d e g h : Dat} : okLen f [a, b, c, d, e, g, h] = f [a, b, c, d, e, g, h] := okLen_ok (by simp)
def ofX (x : Option Dat) (M : Mem) : Rs Dat := match x with
  | some x => .ok x M
  | none => .no
@[simp] theorem ofX_some {x : Dat} : ofX (some x) M = .ok x M := rfl
@[simp] theorem e_sl {a : Ex} {lo hi : Exo} : evE cf (.sl a lo hi) Γ M = (evE cf a Γ M).bind fun d M => (evO cf lo Γ M).bind fun l M => (evO cf hi Γ M).bind fun u M => ofX (cutX M d l u) M := rfl
@[simp] theorem o_none : evO cf .none Γ M = .ok none M := rfl
def oInt (d : Dat) (M : Mem) : Rs (Option Int) := match d with
  | .int i => .ok (some i) M
  | _ => .no
@[simp] theorem oInt_int {i : Int} : oInt (.int i) M = .ok (some i) M := rfl
@[simp] theorem o_some {e : Ex} : evO cf (.some e) Γ M = (evE cf e Γ M).bind oInt := by
  show ((evE cf e Γ M).bind fun d M => match d with | .int i => .ok (some i) M | _ => .no) = _
  congr 1
@[simp] theorem a_nil : evA cf .nil Γ M = .ok [] M := rfl
@[simp] theorem a_cons {e : Ex} {es : Exs} : evA cf (.cons e es) Γ M = (evE cf e Γ M).bind fun d M => (evA cf es Γ M).bind fun ds M => .ok (d :: ds) M := rfl
@[simp] theorem e_call {w : Cw} {j : Nat} {es : Exs} : evE cf (.call w j es) Γ M = (evA cf es Γ M).bind fun ds M => (callW cf w j ds M).at Γ := rfl
/-! comprehensions -/
def lcT (cf : CallF) (t : Tgt) (vs : List Nat) (cond e : Ex) (Γ : Gam) (d : Dat) (M : Mem) : Rs (Option Dat) := match putT t d (wipeG Γ vs) with
  | some Γ2 => (asB (evE cf cond Γ2 M)).bind fun k M => match k with
    | true => (evE cf e Γ2 M).bind fun y M => .ok (some y) M
    | false => .ok none M
  | none => .no
def lcR (cf : CallF) (g : Gd) (t : Tgt) (vs : List Nat) (cond e : Ex) (Γ : Gam) (ds acc : List Dat) (M : Mem) : Rs (List Dat) := lcGo g (lcT cf t vs cond e Γ) ds acc M
def lcE (c : Bool) (acc : List Dat) (M : Mem) : Rs Dat := if c then .ok (.ptr M.length) (M ++ [.lst acc]) else .ok (.lst acc) M
@[simp] theorem lcE_f {acc : List Dat} : lcE false acc M = .ok (.lst acc) M := rfl
@[simp] theorem lcE_t {acc : List Dat} : lcE true acc M = .ok (.ptr M.length) (M ++ [.lst acc]) := rfl
def lcI (cf : CallF) (c : Bool) (t : Tgt) (vs : List Nat) (cond e : Ex) (Γ : Gam) (x : List Dat × Gd) (M : Mem) : Rs Dat := if x.1.length ≤ sizeLine ∧ gdOk M x.2 = true then (lcR cf x.2 t vs cond e Γ x.1 [] M).bind (lcE c) else .no
@[simp] theorem e_lc {c : Bool} {t : Tgt} {vs : List Nat} {it : Ir} {cond e : Ex} : evE cf (.lc c t vs it cond e) Γ M = (evI cf it Γ M).bind (lcI cf c t vs cond e Γ) := rfl
theorem lcI_ok {c : Bool} {t : Tgt} {vs : List Nat} {cond e : Ex} {ds : List Dat} {g : Gd} (h : ds.length ≤ 1000) (hg : gdOk M g = true) : lcI cf c t vs cond e Γ (ds, g) M = (lcR cf g t vs cond e Γ ds [] M).bind (lcE c) := by
  unfold lcI
  rw [if_pos ⟨by show ds.length ≤ _; rw [sizeLine_eq]; omega, hg⟩]
@[simp] theorem lcR_nil {g : Gd} {t : Tgt} {vs : List Nat} {cond e : Ex} {acc : List Dat} : lcR cf g t vs cond e Γ [] acc M = .ok acc M := rfl
/-- a comprehension that keeps every item and leaves the memory -/
theorem lcR_map {g : Gd} {t : Tgt} {vs : List Nat} {e : Ex} {f : Dat → Dat} : ∀ {ds acc : List Dat} {M : Mem}, gdOk M g = true → (∀ d ∈ ds, ∃ Γ2, putT t d (wipeG Γ vs) = some Γ2 ∧ evE cf e Γ2 M = .ok (f d) M) →
    lcR cf g t vs (.dat (.bl true)) e Γ ds acc M = .ok (acc ++ ds.map f) M
  | [], acc, M, _, _ => by rw [lcR_nil, List.map_nil, List.append_nil]
  | d :: ds, acc, M, hg, h => by
    obtain ⟨Γ2, h1, h2⟩ := h d List.mem_cons_self
    have ih := lcR_map (acc := acc ++ [f d]) hg fun x hx => h x (List.mem_cons_of_mem _ hx)
    have hs : lcT cf t vs (.dat (.bl true)) e Γ d M = .ok (some (f d)) M := by
      unfold lcT
      rw [h1]
      show ((evE cf e Γ2 M).bind fun y M => Rs.ok (some y) M) = _
      rw [h2]
      rfl
    unfold lcR at ih ⊢
    unfold lcGo
    rw [hs]
    show (if gdOk M g = true then lcGo g _ ds (acc ++ [f d]) M else .no) = _
    rw [if_pos hg, ih, List.map_cons, List.append_assoc, List.singleton_append]
/-- .. with a test -/
theorem lcR_filter {g : Gd} {t : Tgt} {vs : List Nat} {c e : Ex} {p : Dat → Bool} {f : Dat → Dat} : ∀ {ds acc : List Dat} {M : Mem}, gdOk M g = true → (∀ d ∈ ds, ∃ Γ2, putT t d (wipeG Γ vs) = some Γ2 ∧ evE cf c Γ2 M = .ok (.bl (p d)) M ∧ evE cf e Γ2 M = .ok (f d) M) →
    lcR cf g t vs c e Γ ds acc M = .ok (acc ++ (ds.filter p).map f) M
  | [], acc, M, _, _ => by rw [lcR_nil, List.filter_nil, List.map_nil, List.append_nil]
  | d :: ds, acc, M, hg, h => by
    obtain ⟨Γ2, h1, h2, h3⟩ := h d List.mem_cons_self
    have ih := fun acc => lcR_filter (acc := acc) hg fun x hx => h x (List.mem_cons_of_mem _ hx)
    have hs : lcT cf t vs c e Γ d M = .ok (if p d then some (f d) else none) M := by
      unfold lcT
      rw [h1]
      show ((asB (evE cf c Γ2 M)).bind fun k M => match k with | true => (evE cf e Γ2 M).bind fun y M => Rs.ok (some y) M | false => .ok none M) = _
      rw [h2]
      show (match p d with | true => (evE cf e Γ2 M).bind fun y M => Rs.ok (some y) M | false => .ok none M) = _
      cases p d with
      | true => show ((evE cf e Γ2 M).bind fun y M => Rs.ok (some y) M) = _; rw [h3]; rfl
      | false => rfl
    unfold lcR at ih ⊢
    unfold lcGo
    rw [hs]
    cases hp : p d with
    | true =>
      show (if gdOk M g = true then lcGo g _ ds (acc ++ [f d]) M else .no) = _
      rw [if_pos hg, ih, List.filter_cons_of_pos hp, List.map_cons, List.append_assoc, List.singleton_append]
    | false =>
      show (if gdOk M g = true then lcGo g _ ds acc M else .no) = _
      rw [if_pos hg, ih, List.filter_cons_of_neg (by rw [hp]; exact Bool.false_ne_true)]
/-! walks -/
def ofRd (o : Option (List Dat)) (d : Dat) (M : Mem) : Rs (List Dat × Gd) := match o with
  | some ds => .ok (ds, [(d, ds)]) M
  | none => .no
@[simp] theorem ofRd_some {ds : List Dat} {d : Dat} : ofRd (some ds) d M = .ok (ds, [(d, ds)]) M := rfl
def anyR (d : Dat) (M : Mem) : Rs (List Dat × Gd) := match d with
  | .tup ds => .ok (ds, []) M
  | d => ofRd (rd M d) d M
@[simp] theorem anyR_tup {ds : List Dat} : anyR (.tup ds) M = .ok (ds, []) M := rfl
@[simp] theorem anyR_lst {ds : List Dat} : anyR (.lst ds) M = .ok (ds, [(.lst ds, ds)]) M := rfl
@[simp] theorem anyR_rol {ds : List Dat} : anyR (.rol ds) M = .ok (ds, [(.rol ds, ds)]) M := rfl
@[simp] theorem i_any {e : Ex} : evI cf (.any e) Γ M = (evE cf e Γ M).bind anyR := by
  show ((evE cf e Γ M).bind fun d M => match d with
    | .tup ds => Rs.ok (ds, ([] : Gd)) M
    | d => match rd M d with
      | some ds => .ok (ds, [(d, ds)]) M
      | none => .no) = _
  congr 1
def rng1R (d : Dat) (M : Mem) : Rs (List Dat × Gd) := match d with
  | .int n => if isR62 n then .ok ((List.range n.toNat).map fun i => .int (i : Nat), []) M else .no
  | _ => .no
@[simp] theorem i_rng1 {e : Ex} : evI cf (.rng1 e) Γ M = (evE cf e Γ M).bind rng1R := by
  show ((evE cf e Γ M).bind fun d M => match d with
    | .int n => if isR62 n then Rs.ok ((List.range n.toNat).map fun i => Dat.int (i : Nat), ([] : Gd)) M else .no
    | _ => .no) = _
  congr 1
theorem rng1R_ok {n : Nat} (h : n ≤ 1000000) : rng1R (.int n) M = .ok ((List.range n).map fun i => .int (i : Nat), []) M := by
  unfold rng1R
  have : isR62 (n : Int) = true := by
    unfold isR62
    simp
    omega
  simp only [this, if_true, Int.toNat_natCast]
def zipR (d d' : Dat) (M : Mem) : Rs (List Dat × Gd) := match d, d' with
  | .tup ds, .tup es => .ok (List.zipWith pairD ds es, []) M
  | d, d' => match rd M d, rd M d' with
    | some ds, some es => .ok (List.zipWith pairD ds es, [(d, ds), (d', es)]) M
    | _, _ => .no
@[simp] theorem zipR_tup {ds es : List Dat} : zipR (.tup ds) (.tup es) M = .ok (List.zipWith pairD ds es, []) M := rfl
@[simp] theorem zipR_lst {ds es : List Dat} : zipR (.lst ds) (.lst es) M = .ok (List.zipWith pairD ds es, [(.lst ds, ds), (.lst es, es)]) M := rfl
@[simp] theorem i_zip {e e' : Ex} : evI cf (.zip e e') Γ M = (evE cf e Γ M).bind fun d M => (evE cf e' Γ M).bind fun d' M => zipR d d' M := rfl
def enumR (d : Dat) (M : Mem) : Rs (List Dat × Gd) := match d with
    | .tup ds => .ok (enumD ds, []) M
    | d => match rd M d with
      | some ds => .ok (enumD ds, [(d, ds)]) M
      | none => .no
@[simp] theorem enumR_tup {ds : List Dat} : enumR (.tup ds) M = .ok (enumD ds, []) M := rfl
@[simp] theorem enumR_lst {ds : List Dat} : enumR (.lst ds) M = .ok (enumD ds, [(.lst ds, ds)]) M := rfl
@[simp] theorem i_enum {e : Ex} : evI cf (.enum e) Γ M = (evE cf e Γ M).bind fun d M => enumR d M := rfl
/-! statements -/
@[simp] theorem s_expr {e : Ex} : evS wf cf (.expr e) Γ M = (evE cf e Γ M).bind fun _ M => .ok (.nx Γ) M := rfl
@[simp] theorem s_set {i : Nat} {e : Ex} : evS wf cf (.set i e) Γ M = (evE cf e Γ M).bind fun d M => .ok (.nx (Γ.set i (some d))) M := rfl
@[simp] theorem s_par2 {i j : Nat} {e e' : Ex} : evS wf cf (.par2 i j e e') Γ M = (evE cf e Γ M).bind fun d M => (evE cf e' Γ M).bind fun d' M => .ok (.nx ((Γ.set i (some d)).set j (some d'))) M := rfl
@[simp] theorem s_asg {t : Tg} {e : Ex} : evS wf cf (.asg t e) Γ M = (evE cf e Γ M).bind fun d M => (evG cf t d Γ M).bind fun Γ M => .ok (.nx Γ) M := rfl
def ifR (wf : Nat) (cf : CallF) (s s' : Sms) (Γ : Gam) (k : Bool) (M : Mem) : Rs Fl := match k with
  | true => evSs wf cf s Γ M
  | false => evSs wf cf s' Γ M
@[simp] theorem ifR_t {s s' : Sms} : ifR wf cf s s' Γ true M = evSs wf cf s Γ M := rfl
@[simp] theorem ifR_f {s s' : Sms} : ifR wf cf s s' Γ false M = evSs wf cf s' Γ M := rfl
@[simp] theorem s_iff {c : Ex} {s s' : Sms} : evS wf cf (.iff c s s') Γ M = (asB (evE cf c Γ M)).bind (ifR wf cf s s' Γ) := rfl
def whR (wf : Nat) (cf : CallF) (c : Ex) (s : Sms) (n : Nat) (Γ : Gam) (M : Mem) : Rs Fl := whGo (fun Γ M => asB (evE cf c Γ M)) (evSs wf cf s) n Γ M
@[simp] theorem s_whil {c : Ex} {s : Sms} : evS wf cf (.whil c s) Γ M = whR wf cf c s wf Γ M := rfl
theorem wh_stop {c : Ex} {s : Sms} {n : Nat} (h : evE cf c Γ M = .ok (.bl false) M') : whR wf cf c s (n + 1) Γ M = .ok (.nx Γ) M' := by
  unfold whR whGo
  rw [h]
  rfl
theorem wh_go {c : Ex} {s : Sms} {n : Nat} {Γ2 : Gam} {M2 : Mem} (h : evE cf c Γ M = .ok (.bl true) M') (h2 : evSs wf cf s Γ M' = .ok (.nx Γ2) M2) : whR wf cf c s (n + 1) Γ M = whR wf cf c s n Γ2 M2 := by
  unfold whR
  rw [whGo]
  simp only [h, asB_bl, h2]
def forT (wf : Nat) (cf : CallF) (t : Tg) (s : Sms) (d : Dat) (Γ : Gam) (M : Mem) : Rs Fl := (evG cf t d Γ M).bind fun Γ M => evSs wf cf s Γ M
def forR (wf : Nat) (cf : CallF) (g : Gd) (t : Tg) (s : Sms) (ds : List Dat) (Γ : Gam) (M : Mem) : Rs Fl := forGo g (forT wf cf t s) ds Γ M
def forI (wf : Nat) (cf : CallF) (t : Tg) (s : Sms) (Γ : Gam) (x : List Dat × Gd) (M : Mem) : Rs Fl := if gdOk M x.2 then forR wf cf x.2 t s x.1 Γ M else .no
@[simp] theorem s_for {t : Tg} {it : Ir} {s : Sms} : evS wf cf (.forr t it s) Γ M = (evI cf it Γ M).bind (forI wf cf t s Γ) := rfl
theorem forI_ok {t : Tg} {s : Sms} {ds : List Dat} {g : Gd} (h : gdOk M g = true) : forI wf cf t s Γ (ds, g) M = forR wf cf g t s ds Γ M := by
  unfold forI
  rw [if_pos h]
@[simp] theorem for_nil {g : Gd} {t : Tg} {s : Sms} : forR wf cf g t s [] Γ M = .ok (.nx Γ) M := rfl
theorem for_go {g : Gd} {t : Tg} {s : Sms} {d : Dat} {ds : List Dat} {Γ1 Γ2 : Gam} {M1 M2 : Mem} (h1 : evG cf t d Γ M = .ok Γ1 M1) (h2 : evSs wf cf s Γ1 M1 = .ok (.nx Γ2) M2) (hg : gdOk M2 g = true) : forR wf cf g t s (d :: ds) Γ M = forR wf cf g t s ds Γ2 M2 := by
  unfold forR
  rw [forGo]
  have e : forT wf cf t s d Γ M = .ok (.nx Γ2) M2 := by
    unfold forT
    rw [h1]
    exact h2
  simp only [e, hg, if_true]
@[simp] theorem s_ret {e : Ex} : evS wf cf (.ret e) Γ M = (evE cf e Γ M).bind fun d M => .ok (.rt d) M := rfl
@[simp] theorem s_pass : evS wf cf .pass Γ M = .ok (.nx Γ) M := rfl
def nxR (wf : Nat) (cf : CallF) (ss : Sms) (f : Fl) (M : Mem) : Rs Fl := match f with
  | .nx Γ => evSs wf cf ss Γ M
  | f => .ok f M
@[simp] theorem nxR_nx {ss : Sms} : nxR wf cf ss (.nx Γ) M = evSs wf cf ss Γ M := rfl
@[simp] theorem nxR_rt {ss : Sms} {d : Dat} : nxR wf cf ss (.rt d) M = .ok (.rt d) M := rfl
@[simp] theorem ss_nil : evSs wf cf .nil Γ M = .ok (.nx Γ) M := rfl
@[simp] theorem ss_cons {s : Sm} {ss : Sms} : evSs wf cf (.cons s ss) Γ M = (evS wf cf s Γ M).bind (nxR wf cf ss) := by
  show ((evS wf cf s Γ M).bind fun f M => match f with | .nx Γ => evSs wf cf ss Γ M | f => .ok f M) = _
  congr 1
@[simp] theorem g_name {i : Nat} {d : Dat} : evG cf (.name i) d Γ M = .ok (Γ.set i (some d)) M := rfl
/-! operations -/
@[simp] theorem u_neg {i : Int} : un1 .neg (.int i) M = some (.int (-i), M) := rfl
@[simp] theorem u_not {k : Bool} : un1 .notB (.bl k) M = some (.bl (!k), M) := rfl
@[simp] theorem u_abs {i : Int} : un1 .abs (.int i) M = some (.int i.natAbs, M) := by
  show some (Dat.int (if i < 0 then -i else i), M) = _
  congr 3
  split <;> omega
@[simp] theorem u_int {i : Int} : un1 .int (.int i) M = some (.int i, M) := rfl
@[simp] theorem u_intb {k : Bool} : un1 .int (.bl k) M = some (.int (if k then 1 else 0), M) := rfl
@[simp] theorem u_len {d : Dat} : un1 .len d M = (lenD M d).map fun (n : Nat) => (.int n, M) := by cases d <;> rfl
@[simp] theorem len_tup {ds : List Dat} : lenD M (.tup ds) = some ds.length := rfl
@[simp] theorem len_lst {ds : List Dat} : lenD M (.lst ds) = some ds.length := rfl
@[simp] theorem len_rol {ds : List Dat} : lenD M (.rol ds) = some ds.length := rfl
@[simp] theorem u_list {d : Dat} : un1 .list d M = (sq M d).map fun ds => (.lst ds, M) := by cases d <;> rfl
@[simp] theorem u_listC {d : Dat} : un1 .listC d M = (sq M d).map fun ds => (.ptr M.length, M ++ [.lst ds]) := by cases d <;> rfl
@[simp] theorem u_tuple {d : Dat} : un1 .tuple d M = (sq M d).map fun ds => (.tup ds, M) := by cases d <;> rfl
@[simp] theorem sq_tup {ds : List Dat} : sq M (.tup ds) = some ds := rfl
@[simp] theorem sq_lst {ds : List Dat} : sq M (.lst ds) = some ds := rfl
@[simp] theorem sq_rol {ds : List Dat} : sq M (.rol ds) = some ds := rfl
@[simp] theorem rd_lst {ds : List Dat} : rd M (.lst ds) = some ds := rfl
@[simp] theorem rd_rol {ds : List Dat} : rd M (.rol ds) = some ds := rfl
@[simp] theorem rdL_lst {ds : List Dat} : rdL M (.lst ds) = some ds := rfl
@[simp] theorem u_srt {d : Dat} : un1 .srt d M = (sq M d).bind fun ds => (srtD ds).map fun es => (.lst es, M) := by cases d <;> rfl
@[simp] theorem u_isi {ts : List Ty} {d : Dat} : un1 (.isi ts) d M = (isiD M ts d).map fun k => (.bl k, M) := by cases d <;> rfl
theorem intsD_map : ∀ {ns : List Int}, intsD (ns.map .int) = some ns
  | [] => rfl
  | n :: ns => by
    rw [List.map_cons]
    unfold intsD
    rw [intsD_map]
    rfl
theorem boolsD_map : ∀ {ns : List Bool}, boolsD (ns.map .bl) = some ns
  | [] => rfl
  | n :: ns => by
    rw [List.map_cons]
    unfold boolsD
    rw [boolsD_map]
    rfl
@[simp] theorem u_sum {ns : List Int} : un1 .sum (.lst (ns.map .int)) M = some (.int ns.sum, M) := by
  show ((intsD (ns.map .int)).map fun ns => (Dat.int ns.sum, M)) = _
  rw [intsD_map]
  rfl
@[simp] theorem u_all {ns : List Bool} : un1 .all (.lst (ns.map .bl)) M = some (.bl (ns.all id), M) := by
  show ((boolsD (ns.map .bl)).map fun ns => (Dat.bl (ns.all id), M)) = _
  rw [boolsD_map]
  rfl
@[simp] theorem b_add {i j : Int} : bin2 (.op .Add) (.int i) (.int j) M = some (.int (i + j), M) := rfl
@[simp] theorem b_sub {i j : Int} : bin2 (.op .Sub) (.int i) (.int j) M = some (.int (i - j), M) := rfl
theorem b_mul {i j : Int} (h : mulOk i j = true) : bin2 (.op .Mult) (.int i) (.int j) M = some (.int (i * j), M) := by
  show (if mulOk i j = true then some (Dat.int (i * j)) else none).map _ = _
  rw [if_pos h]
  rfl
theorem b_div {i j : Int} (h0 : 0 < j) (h : divOk j = true) : bin2 (.op .FloorDiv) (.int i) (.int j) M = some (.int (i / j), M) := by
  show (if divOk j = true then (if 0 < j then some (Dat.int (i / j)) else if j ≠ 0 then some (Dat.int (i.fdiv j)) else none) else none).map _ = _
  rw [if_pos h, if_pos h0]
  rfl
theorem b_mod {i j : Int} (h : 0 < j) : bin2 (.op .Mod) (.int i) (.int j) M = some (.int (i % j), M) := by
  show (if 0 < j then some (Dat.int (i % j)) else if j ≠ 0 then some (Dat.int (i.fmod j)) else none).map _ = _
  rw [if_pos h]
  rfl
@[simp] theorem b_lt {i j : Int} : bin2 (.cmp .Lt) (.int i) (.int j) M = some (.bl (decide (i < j)), M) := rfl
@[simp] theorem b_le {i j : Int} : bin2 (.cmp .LtE) (.int i) (.int j) M = some (.bl (decide (i ≤ j)), M) := rfl
@[simp] theorem b_gt {i j : Int} : bin2 (.cmp .Gt) (.int i) (.int j) M = some (.bl (decide (j < i)), M) := rfl
@[simp] theorem b_ge {i j : Int} : bin2 (.cmp .GtE) (.int i) (.int j) M = some (.bl (decide (j ≤ i)), M) := rfl
@[simp] theorem b_eq {i j : Int} : bin2 (.cmp .Eq) (.int i) (.int j) M = some (.bl (decide (i = j)), M) := rfl
@[simp] theorem b_ne {i j : Int} : bin2 (.cmp .NotEq) (.int i) (.int j) M = some (.bl (!decide (i = j)), M) := rfl
@[simp] theorem b_eqv {d e : Dat} : bin2 .eqv d e M = (eqvD M d e).map fun k => (.bl k, M) := by cases d <;> cases e <;> rfl
@[simp] theorem b_neqv {d e : Dat} : bin2 .neqv d e M = (eqvD M d e).map fun k => (.bl (!k), M) := by cases d <;> cases e <;> rfl
@[simp] theorem b_ix {d e : Dat} : bin2 .ix d e M = (itemD M d e).map fun x => (x, M) := by cases d <;> cases e <;> rfl
@[simp] theorem b_catL {xs ys : List Dat} (h : xs.length + ys.length ≤ 1000) : bin2 .catL (.lst xs) (.lst ys) M = some (.lst (xs ++ ys), M) := by
  show (if xs.length + ys.length ≤ sizeLine then some (Dat.lst (xs ++ ys), M) else none) = _
  rw [if_pos (by rw [sizeLine_eq]; omega)]
@[simp] theorem it_t0 {a : Dat} {as : List Dat} : itemD M (.tup (a :: as)) (.int 0) = some a := by
  unfold itemD
  simp [sq, atI, ixN]
@[simp] theorem it_t1 {a b : Dat} {as : List Dat} : itemD M (.tup (a :: b :: as)) (.int 1) = some b := by
  show (atI (a :: b :: as) 1) = some b
  have h : ixN (a :: b :: as).length 1 = some 1 := by
    unfold ixN
    rw [if_pos (by decide), if_pos (by simp only [List.length_cons]; omega)]
    rfl
  unfold atI
  rw [h]
  rfl
@[simp] theorem map_some' {γ : Type} {x : α} {f : α → γ} : (some x).map f = some (f x) := rfl
/-! calls -/
/-- a call that leaves the memory -/
def Fz (cf : CallF) (j : Nat) (ds : List Dat) (d : Dat) : Prop := ∀ M, callW cf .fz j ds M = .ok d M
theorem Fz.of {j : Nat} {ds : List Dat} {d : Dat} {M1 : Mem} (hn : Dat.nps ds = true) (h : cf j ds [] = .ok d M1) (hd : d.np = true) : Fz cf j ds d := fun M => by
  show callN backF (cf j) ds M = _
  unfold callN
  rw [if_pos hn, h]
  cases d <;> first | rfl | (show (if Dat.np _ = true then _ else _) = _; rw [if_pos hd]) | cases hd
theorem Fz.ofL {j k : Nat} {ds xs : List Dat} {M1 : Mem} (hn : Dat.nps ds = true) (h : cf j ds [] = .ok (.ptr k) M1) (hM : M1[k]? = some (.lst xs)) (hx : Dat.nps xs = true) : Fz cf j ds (.lst xs) := fun M => by
  show callN backF (cf j) ds M = _
  unfold callN
  rw [if_pos hn, h]
  show (match M1[k]? with | some (.lst ds) => if Dat.nps ds then Rs.ok (Dat.lst ds) M else .no | _ => .no) = _
  rw [hM]
  show (if Dat.nps xs then Rs.ok (Dat.lst xs) M else .no) = _
  rw [if_pos hx]
theorem run_of {T : List Df} {k j : Nat} {f : Df} {ds : List Dat} {d : Dat} (hT : T[j]? = some f) (hl : ds.length = f.pars) (h : evSs wf (runF wf T k) f.body (ds.map some ++ List.replicate (f.slots - ds.length) none) M = .ok (.rt d) M') : runF wf T (k + 1) j ds M = .ok d M' := by
  show (match T[j]? with | some f => if ds.length = f.pars then callD wf (runF wf T k) f ds M else .no | none => .no) = _
  rw [hT]
  show (if ds.length = f.pars then callD wf (runF wf T k) f ds M else .no) = _
  rw [if_pos hl]
  unfold callD
  rw [h]
  rfl
end
end Ab
end

section
set_option Elab.async false
set_option linter.all false
set_option maxRecDepth 100000
set_option maxHeartbeats 4000000
namespace Ab
open PySem
abbrev L : List (Str × List Str) := [(("is_number" : Str), ([("thing" : Str)] : List Str)), (("is_within" : Str), ([("thing" : Str), ("least" : Str), ("most" : Str)] : List Str)), (("is_long" : Str), ([("thing" : Str), ("length" : Str)] : List Str)), (("are_numbers" : Str), ([("thing" : Str)] : List Str)), (("ascends" : Str), ([("row" : Str)] : List Str)), (("tupled" : Str), ([("value" : Str)] : List Str)), (("sure_within" : Str), ([("thing" : Str), ("least" : Str), ("most" : Str)] : List Str)), (("sure_number" : Str), ([("thing" : Str)] : List Str)), (("common" : Str), ([("one" : Str), ("other" : Str)] : List Str)), (("cut_down" : Str), ([("over_it" : Str), ("under" : Str)] : List Str)), (("whole" : Str), ([("number" : Str)] : List Str)), (("added" : Str), ([("one" : Str), ("other" : Str)] : List Str)), (("taken" : Str), ([("one" : Str), ("other" : Str)] : List Str)), (("times" : Str), ([("one" : Str), ("other" : Str)] : List Str)), (("over" : Str), ([("one" : Str), ("other" : Str)] : List Str)), (("is_edge_of" : Str), ([("thing" : Str), ("many" : Str)] : List Str)), (("has_ring" : Str), ([("many" : Str), ("edges" : Str)] : List Str)), (("is_forest_in" : Str), ([("thing" : Str)] : List Str)), (("sure_forest" : Str), ([("value" : Str)] : List Str)), (("sure_place" : Str), ([("forest" : Str), ("value" : Str)] : List Str)), (("neighbours_in" : Str), ([("forest" : Str)] : List Str)), (("pieces_in" : Str), ([("forest" : Str)] : List Str)), (("part_in" : Str), ([("forest" : Str), ("places" : Str)] : List Str)), (("order_from" : Str), ([("mates" : Str), ("root" : Str)] : List Str)), (("table_in" : Str), ([("forest" : Str)] : List Str)), (("determinant_in" : Str), ([("rows" : Str)] : List Str)), (("fractions_of" : Str), ([("rows" : Str)] : List Str)), (("less_by" : Str), ([("row" : Str), ("share" : Str), ("other" : Str)] : List Str)), (("paired" : Str), ([("rows" : Str), ("one" : Str), ("other" : Str)] : List Str)), (("first_told" : Str), ([("rows" : Str)] : List Str)), (("signs_in" : Str), ([("rows" : Str)] : List Str)), (("worked_down" : Str), ([("rows" : Str), ("wide" : Str)] : List Str)), (("solution_in" : Str), ([("rows" : Str), ("goal" : Str)] : List Str)), (("inverse_in" : Str), ([("rows" : Str)] : List Str)), (("diagonal_in" : Str), ([("forest" : Str)] : List Str)), (("is_below_in" : Str), ([("forest" : Str)] : List Str)), (("way_in" : Str), ([("forest" : Str), ("one" : Str), ("other" : Str)] : List Str)), (("sure_row" : Str), ([("forest" : Str), ("value" : Str)] : List Str)), (("sure_lot" : Str), ([("forest" : Str), ("value" : Str)] : List Str)), (("table_of" : Str), ([("forest" : Str)] : List Str)), (("determinant" : Str), ([("forest" : Str)] : List Str)), (("signs" : Str), ([("forest" : Str)] : List Str)), (("diagonal" : Str), ([("forest" : Str)] : List Str)), (("is_below" : Str), ([("forest" : Str)] : List Str)), (("inverse_table" : Str), ([("forest" : Str)] : List Str)), (("way_between" : Str), ([("forest" : Str), ("place" : Str), ("other" : Str)] : List Str)), (("left_determinant" : Str), ([("forest" : Str), ("places" : Str)] : List Str)), (("row_times" : Str), ([("forest" : Str), ("row" : Str)] : List Str)), (("row_over" : Str), ([("forest" : Str), ("row" : Str)] : List Str)), (("_law_box" : Str), ([("script" : Str), ("k" : Str)] : List Str)), (("_law_take" : Str), ([("tin" : Str), ("below_so" : Str)] : List Str)), (("_law_cells" : Str), ([("script" : Str), ("most_so" : Str)] : List Str)), (("_law_pick" : Str), ([("tin" : Str), ("goods_so" : Str), ("count_so" : Str)] : List Str)), (("_law_same" : Str), ([("got" : Str), ("due" : Str)] : List Str)), (("_law_heard" : Str), ([("door" : Str), ("goods_so" : Str)] : List Str)), (("law" : Str), ([("script" : Str)] : List Str))]
def c_LONE : Dat := (.tup [(.int 1), (.int 1)])
def c_MOST : Dat := (.int 1000000000000)
def c_MOST_PLACES : Dat := (.int 40)
def c_MOST_WEIGHT : Dat := (.int 1000)
def c_NOUGHT : Dat := (.tup [(.int 0), (.int 1)])
def xcs : List Str := ["CanNot", "Unfit"]
def tbl : List (Str × Nat × Nat) := [("determinant", 40, 1), ("diagonal", 42, 1), ("inverse_table", 44, 1), ("is_below", 43, 1), ("left_determinant", 46, 2), ("row_over", 48, 2), ("row_times", 47, 2), ("signs", 41, 1), ("table_of", 39, 1), ("way_between", 45, 3)]
abbrev N_is_number : List Str := ["thing"]
def ir_is_number : Sms := (.cons (.ret (.and (.un (.isi [.int]) (.var 0)) (.un .notB (.un (.isi [.bool]) (.var 0)))))
  .nil)
abbrev N_is_within : List Str := ["thing", "least", "most"]
def ir_is_within : Sms := (.cons (.ret (.and (.call .fz 0 (.cons (.var 0) .nil)) (.chain .LtE .LtE (.var 1) (.var 0) (.var 2))))
  .nil)
abbrev N_is_long : List Str := ["thing", "length"]
def ir_is_long : Sms := (.cons (.ret (.and (.un (.isi [.tuple]) (.var 0)) (.bin (.cmp .Eq) (.un .len (.var 0)) (.var 1))))
  .nil)
abbrev N_are_numbers : List Str := ["thing", "own"]
def ir_are_numbers : Sms := (.cons (.ret (.and (.un (.isi [.tuple]) (.var 0)) (.un .all (.lc false (.one 1) [1] (.any (.var 0)) (.dat (.bl true)) (.call .fz 0 (.cons (.var 1) .nil))))))
  .nil)
abbrev N_ascends : List Str := ["row", "one", "other"]
def ir_ascends : Sms := (.cons (.ret (.un .all (.lc false (.tup [1, 2]) [1, 2] (.zip (.var 0) (.sl (.var 0) (.some (.dat (.int 1))) .none)) (.dat (.bl true)) (.bin .ltX (.var 1) (.var 2)))))
  .nil)
abbrev N_tupled : List Str := ["value", "own"]
def ir_tupled : Sms := (.cons (.ret (.ite (.un (.isi [.list, .tuple]) (.var 0)) (.un .tuple (.lc false (.one 1) [1] (.any (.var 0)) (.dat (.bl true)) (.call .fz 5 (.cons (.var 1) .nil)))) (.var 0)))
  .nil)
abbrev N_sure_within : List Str := ["thing", "least", "most"]
def ir_sure_within : Sms := (.cons (.iff (.un .notB (.call .fz 1 (.cons (.var 0) (.cons (.var 1) (.cons (.var 2) .nil))))) (.cons (.raise "Unfit")
  .nil) .nil)
  (.cons (.ret (.var 0))
  .nil))
abbrev N_sure_number : List Str := ["thing"]
def ir_sure_number : Sms := (.cons (.ret (.call .fz 6 (.cons (.var 0) (.cons (.un .neg (.dat c_MOST)) (.cons (.dat c_MOST) .nil)))))
  .nil)
abbrev N_common : List Str := ["one", "other"]
def ir_common : Sms := (.cons (.par2 0 1 (.un .abs (.var 0)) (.un .abs (.var 1)))
  (.cons (.whil (.bin (.cmp .NotEq) (.var 1) (.dat (.int 0))) (.cons (.par2 0 1 (.var 1) (.bin (.op .Mod) (.var 0) (.var 1)))
  .nil))
  (.cons (.ret (.var 0))
  .nil)))
abbrev N_cut_down : List Str := ["over_it", "under", "shared"]
def ir_cut_down : Sms := (.cons (.set 2 (.call .fz 8 (.cons (.var 0) (.cons (.var 1) .nil))))
  (.cons (.set 2 (.ite (.bin (.cmp .Gt) (.var 1) (.dat (.int 0))) (.var 2) (.un .neg (.var 2))))
  (.cons (.ret (.tup (.cons (.bin (.op .FloorDiv) (.var 0) (.var 2)) (.cons (.bin (.op .FloorDiv) (.var 1) (.var 2)) .nil))))
  .nil)))
abbrev N_whole : List Str := ["number"]
def ir_whole : Sms := (.cons (.ret (.tup (.cons (.var 0) (.cons (.dat (.int 1)) .nil))))
  .nil)
abbrev N_added : List Str := ["one", "other"]
def ir_added : Sms := (.cons (.ret (.call .fz 9 (.cons (.bin (.op .Add) (.bin (.op .Mult) (.bin .ix (.var 0) (.dat (.int 0))) (.bin .ix (.var 1) (.dat (.int 1)))) (.bin (.op .Mult) (.bin .ix (.var 1) (.dat (.int 0))) (.bin .ix (.var 0) (.dat (.int 1))))) (.cons (.bin (.op .Mult) (.bin .ix (.var 0) (.dat (.int 1))) (.bin .ix (.var 1) (.dat (.int 1)))) .nil))))
  .nil)
abbrev N_taken : List Str := ["one", "other"]
def ir_taken : Sms := (.cons (.ret (.call .fz 9 (.cons (.bin (.op .Sub) (.bin (.op .Mult) (.bin .ix (.var 0) (.dat (.int 0))) (.bin .ix (.var 1) (.dat (.int 1)))) (.bin (.op .Mult) (.bin .ix (.var 1) (.dat (.int 0))) (.bin .ix (.var 0) (.dat (.int 1))))) (.cons (.bin (.op .Mult) (.bin .ix (.var 0) (.dat (.int 1))) (.bin .ix (.var 1) (.dat (.int 1)))) .nil))))
  .nil)
abbrev N_times : List Str := ["one", "other"]
def ir_times : Sms := (.cons (.ret (.call .fz 9 (.cons (.bin (.op .Mult) (.bin .ix (.var 0) (.dat (.int 0))) (.bin .ix (.var 1) (.dat (.int 0)))) (.cons (.bin (.op .Mult) (.bin .ix (.var 0) (.dat (.int 1))) (.bin .ix (.var 1) (.dat (.int 1)))) .nil))))
  .nil)
abbrev N_over : List Str := ["one", "other"]
def ir_over : Sms := (.cons (.ret (.call .fz 9 (.cons (.bin (.op .Mult) (.bin .ix (.var 0) (.dat (.int 0))) (.bin .ix (.var 1) (.dat (.int 1)))) (.cons (.bin (.op .Mult) (.bin .ix (.var 0) (.dat (.int 1))) (.bin .ix (.var 1) (.dat (.int 0)))) .nil))))
  .nil)
abbrev N_is_edge_of : List Str := ["thing", "many"]
def ir_is_edge_of : Sms := (.cons (.ret (.and (.call .fz 2 (.cons (.var 0) (.cons (.dat (.int 2)) .nil))) (.and (.call .fz 3 (.cons (.var 0) .nil)) (.chain3 .LtE .Lt .Lt (.dat (.int 0)) (.bin .ix (.var 0) (.dat (.int 0))) (.bin .ix (.var 0) (.dat (.int 1))) (.var 1)))))
  .nil)
abbrev N_has_ring : List Str := ["many", "edges", "heads", "one", "other", "near", "far", "own"]
def ir_has_ring : Sms := (.cons (.set 2 (.un .listR (.var 0)))
  (.cons (.forr (.tup (.cons (.name 3) (.cons (.name 4) .nil))) (.any (.var 1)) (.cons (.asg (.tup (.cons (.name 5) (.cons (.name 6) .nil))) (.tup (.cons (.bin .ix (.var 2) (.var 3)) (.cons (.bin .ix (.var 2) (.var 4)) .nil))))
  (.cons (.iff (.bin .eqv (.var 5) (.var 6)) (.cons (.ret (.dat (.bl true)))
  .nil) .nil)
  (.cons (.set 2 (.lc false (.one 7) [7] (.any (.var 2)) (.dat (.bl true)) (.ite (.bin .eqv (.var 7) (.var 6)) (.var 5) (.var 7))))
  .nil))))
  (.cons (.ret (.dat (.bl false)))
  .nil)))
abbrev N_is_forest_in : List Str := ["thing", "many", "own"]
def ir_is_forest_in : Sms := (.cons (.iff (.or (.un .notB (.call .fz 2 (.cons (.var 0) (.cons (.dat (.int 2)) .nil)))) (.or (.un .notB (.call .fz 3 (.cons (.bin .ix (.var 0) (.dat (.int 0))) .nil))) (.un .notB (.un (.isi [.tuple]) (.bin .ix (.var 0) (.dat (.int 1))))))) (.cons (.ret (.dat (.bl false)))
  .nil) .nil)
  (.cons (.set 1 (.un .len (.bin .ix (.var 0) (.dat (.int 0)))))
  (.cons (.iff (.or (.un .notB (.un .all (.lc false (.one 2) [2] (.any (.bin .ix (.var 0) (.dat (.int 1)))) (.dat (.bl true)) (.call .fz 15 (.cons (.var 2) (.cons (.var 1) .nil)))))) (.un .notB (.call .fz 4 (.cons (.bin .ix (.var 0) (.dat (.int 1))) .nil)))) (.cons (.ret (.dat (.bl false)))
  .nil) .nil)
  (.cons (.ret (.un .notB (.call .fz 16 (.cons (.var 1) (.cons (.bin .ix (.var 0) (.dat (.int 1))) .nil)))))
  .nil))))
abbrev N_sure_forest : List Str := ["value", "own", "its"]
def ir_sure_forest : Sms := (.cons (.set 1 (.call .fz 5 (.cons (.var 0) .nil)))
  (.cons (.iff (.or (.un .notB (.call .fz 17 (.cons (.var 1) .nil))) (.or (.bin (.cmp .Gt) (.un .len (.bin .ix (.var 1) (.dat (.int 0)))) (.dat c_MOST_PLACES)) (.un .any (.lc false (.one 2) [2] (.any (.bin .ix (.var 1) (.dat (.int 0)))) (.dat (.bl true)) (.bin (.cmp .Gt) (.un .abs (.var 2)) (.dat c_MOST_WEIGHT)))))) (.cons (.raise "Unfit")
  .nil) .nil)
  (.cons (.ret (.var 1))
  .nil)))
abbrev N_sure_place : List Str := ["forest", "value"]
def ir_sure_place : Sms := (.cons (.iff (.or (.un .notB (.call .fz 0 (.cons (.var 1) .nil))) (.un .notB (.chain .LtE .Lt (.dat (.int 0)) (.var 1) (.un .len (.bin .ix (.var 0) (.dat (.int 0))))))) (.cons (.raise "Unfit")
  .nil) .nil)
  (.cons (.ret (.var 1))
  .nil))
abbrev N_neighbours_in : List Str := ["forest", "found", "one", "other", "own"]
def ir_neighbours_in : Sms := (.cons (.set 1 (.lc false (.one 4) [4] (.any (.bin .ix (.var 0) (.dat (.int 0)))) (.dat (.bl true)) (.lstC .nil)))
  (.cons (.forr (.tup (.cons (.name 2) (.cons (.name 3) .nil))) (.any (.bin .ix (.var 0) (.dat (.int 1)))) (.cons (.expr (.mth .append (.bin .ix (.var 1) (.var 2)) (.var 3)))
  (.cons (.expr (.mth .append (.bin .ix (.var 1) (.var 3)) (.var 2)))
  .nil)))
  (.cons (.ret (.lc true (.one 4) [4] (.any (.var 1)) (.dat (.bl true)) (.un .srt (.var 4))))
  .nil)))
abbrev N_pieces_in : List Str := ["forest", "mates", "fresh", "found", "place", "rows", "step", "own"]
def ir_pieces_in : Sms := (.cons (.par3 1 2 3 (.call .fz 20 (.cons (.var 0) .nil)) (.bin .repC (.lst (.cons (.dat (.bl true)) .nil)) (.un .len (.bin .ix (.var 0) (.dat (.int 0))))) (.lstC .nil))
  (.cons (.forr (.name 4) (.rng1 (.un .len (.bin .ix (.var 0) (.dat (.int 0))))) (.cons (.iff (.un .notB (.bin .ix (.var 2) (.var 4))) (.cons .cnt
  .nil) .nil)
  (.cons (.asg (.tup (.cons (.sub (.var 2) (.var 4)) (.cons (.name 5) (.cons (.name 6) .nil)))) (.tup (.cons (.dat (.bl false)) (.cons (.lstC (.cons (.var 4) .nil)) (.cons (.dat (.int 0)) .nil)))))
  (.cons (.whil (.bin (.cmp .Lt) (.var 6) (.un .len (.var 5))) (.cons (.forr (.name 7) (.any (.bin .ix (.var 1) (.bin .ix (.var 5) (.var 6)))) (.cons (.iff (.bin .ix (.var 2) (.var 7)) (.cons (.asg (.sub (.var 2) (.var 7)) (.dat (.bl false)))
  (.cons (.expr (.mth .append (.var 5) (.var 7)))
  .nil)) .nil)
  .nil))
  (.cons (.aug 6 false (.dat (.int 1)))
  .nil)))
  (.cons (.expr (.mth .append (.var 3) (.un .srt (.var 5))))
  .nil)))))
  (.cons (.ret (.var 3))
  .nil)))
abbrev N_part_in : List Str := ["forest", "places", "news", "edges", "number", "own", "one", "other"]
def ir_part_in : Sms := (.cons (.set 2 (.dc (.tup [4, 5]) [4, 5] (.enum (.var 1)) (.dat (.bl true)) (.var 5) (.var 4)))
  (.cons (.set 3 (.lc false (.tup [6, 7]) [6, 7] (.any (.bin .ix (.var 0) (.dat (.int 1)))) (.and (.bin .din (.var 6) (.var 2)) (.bin .din (.var 7) (.var 2))) (.tup (.cons (.bin .dget (.var 2) (.var 6)) (.cons (.bin .dget (.var 2) (.var 7)) .nil)))))
  (.cons (.ret (.tup (.cons (.un .tuple (.lc false (.one 5) [5] (.any (.var 1)) (.dat (.bl true)) (.bin .ix (.bin .ix (.var 0) (.dat (.int 0))) (.var 5)))) (.cons (.un .tuple (.un .srt (.var 3))) .nil))))
  .nil)))
abbrev N_order_from : List Str := ["mates", "root", "rows", "back", "step", "own"]
def ir_order_from : Sms := (.cons (.par3 2 3 4 (.lstC (.cons (.var 1) .nil)) (.dict1 (.var 1) (.dat .non)) (.dat (.int 0)))
  (.cons (.whil (.bin (.cmp .Lt) (.var 4) (.un .len (.var 2))) (.cons (.forr (.name 5) (.any (.bin .ix (.var 0) (.bin .ix (.var 2) (.var 4)))) (.cons (.iff (.bin .neqv (.var 5) (.bin .dget (.var 3) (.bin .ix (.var 2) (.var 4)))) (.cons (.dput (.var 3) (.var 5) (.bin .ix (.var 2) (.var 4)))
  (.cons (.expr (.mth .append (.var 2) (.var 5)))
  .nil)) .nil)
  .nil))
  (.cons (.aug 4 false (.dat (.int 1)))
  .nil)))
  (.cons (.ret (.tup (.cons (.var 2) (.cons (.var 3) .nil))))
  .nil)))
abbrev N_table_in : List Str := ["forest", "rows", "place", "weight", "one", "other", "own", "row"]
def ir_table_in : Sms := (.cons (.set 1 (.lc false (.one 6) [6] (.any (.bin .ix (.var 0) (.dat (.int 0)))) (.dat (.bl true)) (.bin .repC (.lst (.cons (.dat (.int 0)) .nil)) (.un .len (.bin .ix (.var 0) (.dat (.int 0)))))))
  (.cons (.forr (.tup (.cons (.name 2) (.cons (.name 3) .nil))) (.enum (.bin .ix (.var 0) (.dat (.int 0)))) (.cons (.asg (.sub (.bin .ix (.var 1) (.var 2)) (.var 2)) (.var 3))
  .nil))
  (.cons (.forr (.tup (.cons (.name 4) (.cons (.name 5) .nil))) (.any (.bin .ix (.var 0) (.dat (.int 1)))) (.cons (.asg2 (.sub (.bin .ix (.var 1) (.var 4)) (.var 5)) (.sub (.bin .ix (.var 1) (.var 5)) (.var 4)) (.dat (.int 1)))
  .nil))
  (.cons (.ret (.un .tuple (.lc false (.one 7) [7] (.any (.var 1)) (.dat (.bl true)) (.un .tuple (.var 7)))))
  .nil))))
abbrev N_determinant_in : List Str := ["rows", "row", "left", "sign", "back", "place", "number", "good", "own", "its"]
def ir_determinant_in : Sms := (.cons (.asg (.tup (.cons (.name 2) (.cons (.name 3) (.cons (.name 4) .nil)))) (.tup (.cons (.lc true (.one 1) [1] (.any (.var 0)) (.dat (.bl true)) (.un .list (.var 1))) (.cons (.dat (.int 1)) (.cons (.dat (.int 1)) .nil)))))
  (.cons (.forr (.name 5) (.rng1 (.un .len (.var 2))) (.cons (.set 7 (.lc false (.one 6) [6] (.rng2 (.var 5) (.un .len (.var 2))) (.bin (.cmp .NotEq) (.bin .ix (.bin .ix (.var 2) (.var 6)) (.var 5)) (.dat (.int 0))) (.var 6)))
  (.cons (.iff (.bin .eqv (.var 7) (.lst .nil)) (.cons (.ret (.dat (.int 0)))
  .nil) .nil)
  (.cons (.iff (.bin .neqv (.bin .ix (.var 7) (.dat (.int 0))) (.var 5)) (.cons (.asg (.tup (.cons (.sub (.var 2) (.var 5)) (.cons (.sub (.var 2) (.bin .ix (.var 7) (.dat (.int 0)))) (.cons (.name 3) .nil)))) (.tup (.cons (.bin .ix (.var 2) (.bin .ix (.var 7) (.dat (.int 0)))) (.cons (.bin .ix (.var 2) (.var 5)) (.cons (.un .neg (.var 3)) .nil)))))
  .nil) .nil)
  (.cons (.set 8 (.bin .ix (.var 2) (.var 5)))
  (.cons (.forr (.name 6) (.rng2 (.bin (.op .Add) (.var 5) (.dat (.int 1))) (.un .len (.var 2))) (.cons (.set 1 (.bin .ix (.var 2) (.var 6)))
  (.cons (.asg (.sub (.var 2) (.var 6)) (.lc false (.one 9) [9] (.rng1 (.un .len (.var 1))) (.dat (.bl true)) (.bin (.op .FloorDiv) (.bin (.op .Sub) (.bin (.op .Mult) (.bin .ix (.var 8) (.var 5)) (.bin .ix (.var 1) (.var 9))) (.bin (.op .Mult) (.bin .ix (.var 1) (.var 5)) (.bin .ix (.var 8) (.var 9)))) (.var 4))))
  .nil)))
  (.cons (.set 4 (.bin .ix (.var 8) (.var 5)))
  .nil)))))))
  (.cons (.ret (.bin (.op .Mult) (.var 3) (.var 4)))
  .nil)))
abbrev N_fractions_of : List Str := ["rows", "row", "own"]
def ir_fractions_of : Sms := (.cons (.ret (.lc true (.one 1) [1] (.any (.var 0)) (.dat (.bl true)) (.lc false (.one 2) [2] (.any (.var 1)) (.dat (.bl true)) (.call .fz 10 (.cons (.var 2) .nil)))))
  .nil)
abbrev N_less_by : List Str := ["row", "share", "other", "one", "far"]
def ir_less_by : Sms := (.cons (.ret (.lc true (.tup [3, 4]) [3, 4] (.zip (.var 0) (.var 2)) (.dat (.bl true)) (.call .fz 12 (.cons (.var 3) (.cons (.call .fz 13 (.cons (.var 1) (.cons (.var 4) .nil))) .nil)))))
  .nil)
abbrev N_paired : List Str := ["rows", "one", "other", "row", "near", "far"]
def ir_paired : Sms := (.cons (.asg (.sub (.var 0) (.var 1)) (.lc false (.tup [4, 5]) [4, 5] (.zip (.bin .ix (.var 0) (.var 1)) (.bin .ix (.var 0) (.var 2))) (.dat (.bl true)) (.call .fz 11 (.cons (.var 4) (.cons (.var 5) .nil)))))
  (.cons (.forr (.name 3) (.any (.var 0)) (.cons (.asg (.sub (.var 3) (.var 1)) (.call .fz 11 (.cons (.bin .ix (.var 3) (.var 1)) (.cons (.bin .ix (.var 3) (.var 2)) .nil))))
  .nil))
  .nil))
abbrev N_first_told : List Str := ["rows", "number", "row", "good", "place", "own"]
def ir_first_told : Sms := (.cons (.forr (.tup (.cons (.name 1) (.cons (.name 2) .nil))) (.enum (.var 0)) (.cons (.set 3 (.lc false (.tup [4, 5]) [4, 5] (.enum (.var 2)) (.bin .neqv (.var 5) (.dat c_NOUGHT)) (.var 4)))
  (.cons (.iff (.bin .neqv (.var 3) (.lst .nil)) (.cons (.ret (.tup (.cons (.var 1) (.cons (.bin .ix (.var 3) (.dat (.int 0))) .nil))))
  .nil) .nil)
  .nil)))
  (.cons (.ret (.dat .non))
  .nil))
abbrev N_signs_in : List Str := ["rows", "left", "found", "size", "place", "good", "pair", "own", "rest", "number", "row"]
def ir_signs_in : Sms := (.cons (.asg (.tup (.cons (.name 1) (.cons (.name 2) .nil))) (.tup (.cons (.call .cl 26 (.cons (.var 0) .nil)) (.cons (.lstC (.cons (.dat (.int 0)) (.cons (.dat (.int 0)) (.cons (.dat (.int 0)) .nil)))) .nil))))
  (.cons (.whil (.bin .neqv (.var 1) (.lst .nil)) (.cons (.set 3 (.un .len (.var 1)))
  (.cons (.set 5 (.lc false (.one 4) [4] (.rng1 (.var 3)) (.bin .neqv (.bin .ix (.bin .ix (.var 1) (.var 4)) (.var 4)) (.dat c_NOUGHT)) (.var 4)))
  (.cons (.iff (.bin .eqv (.var 5) (.lst .nil)) (.cons (.set 6 (.call .hp 29 (.cons (.var 1) .nil)))
  (.cons (.iff (.un .isN (.var 6)) (.cons (.ret (.tup (.cons (.bin .ix (.var 2) (.dat (.int 0))) (.cons (.bin .ix (.var 2) (.dat (.int 1))) (.cons (.bin (.op .Add) (.bin .ix (.var 2) (.dat (.int 2))) (.var 3)) .nil)))))
  .nil) .nil)
  (.cons (.expr (.call .hp 28 (.cons (.var 1) (.cons (.bin .ix (.var 6) (.dat (.int 0))) (.cons (.bin .ix (.var 6) (.dat (.int 1))) .nil)))))
  (.cons (.set 5 (.lst (.cons (.bin .ix (.var 6) (.dat (.int 0))) .nil)))
  .nil)))) .nil)
  (.cons (.set 4 (.bin .ix (.var 5) (.dat (.int 0))))
  (.cons (.set 7 (.bin .ix (.var 1) (.var 4)))
  (.cons .stuck
  (.cons (.set 8 (.lc false (.tup [9, 10]) [9, 10] (.enum (.var 1)) (.bin .neqv (.var 9) (.var 4)) (.call .fz 27 (.cons (.var 10) (.cons (.call .fz 14 (.cons (.bin .ix (.var 10) (.var 4)) (.cons (.bin .ix (.var 7) (.var 4)) .nil))) (.cons (.var 7) .nil))))))
  (.cons (.set 1 (.lc true (.one 10) [10] (.any (.var 8)) (.dat (.bl true)) (.bin (.op .Add) (.sl (.var 10) .none (.some (.var 4))) (.sl (.var 10) (.some (.bin (.op .Add) (.var 4) (.dat (.int 1)))) .none))))
  .nil)))))))))
  (.cons (.ret (.un .tuple (.var 2)))
  .nil)))
abbrev N_worked_down : List Str := ["rows", "wide", "left", "found", "heads", "place", "good", "first", "own", "row", "number", "its"]
def ir_worked_down : Sms := (.cons (.par3 2 3 4 (.lc true (.one 9) [9] (.any (.var 0)) (.dat (.bl true)) (.un .list (.var 9))) (.lst .nil) (.lstC .nil))
  (.cons (.forr (.name 5) (.rng1 (.var 1)) (.cons (.set 6 (.sl (.lc false (.tup [10, 9]) [10, 9] (.enum (.var 2)) (.bin .neqv (.bin .ix (.var 9) (.var 5)) (.dat c_NOUGHT)) (.var 10)) .none (.some (.dat (.int 1)))))
  (.cons (.iff (.bin .neqv (.var 6) (.lst .nil)) (.cons (.set 7 (.mth .popAt (.var 2) (.bin .ix (.var 6) (.dat (.int 0)))))
  (.cons (.set 8 (.lc false (.one 11) [11] (.any (.var 7)) (.dat (.bl true)) (.call .fz 14 (.cons (.var 11) (.cons (.bin .ix (.var 7) (.var 5)) .nil)))))
  (.cons (.set 2 (.lc true (.one 9) [9] (.any (.var 2)) (.dat (.bl true)) (.call .fz 27 (.cons (.var 9) (.cons (.bin .ix (.var 9) (.var 5)) (.cons (.var 8) .nil))))))
  (.cons (.set 3 (.bin .catL (.lc false (.one 9) [9] (.any (.var 3)) (.dat (.bl true)) (.call .fz 27 (.cons (.var 9) (.cons (.bin .ix (.var 9) (.var 5)) (.cons (.var 8) .nil))))) (.lst (.cons (.var 8) .nil))))
  (.cons (.expr (.mth .append (.var 4) (.var 5)))
  .nil))))) .nil)
  .nil)))
  (.cons (.ret (.tup (.cons (.var 3) (.cons (.var 4) (.cons (.var 2) .nil)))))
  .nil)))
abbrev N_solution_in : List Str := ["rows", "goal", "told", "found", "heads", "left", "own", "row", "end", "place"]
def ir_solution_in : Sms := (.cons (.set 2 (.lc false (.tup [7, 8]) [7, 8] (.zip (.call .fz 26 (.cons (.var 0) .nil)) (.var 1)) (.dat (.bl true)) (.bin .catL (.un .list (.var 7)) (.lst (.cons (.var 8) .nil)))))
  (.cons (.asg (.tup (.cons (.name 3) (.cons (.name 4) (.cons (.name 5) .nil)))) (.call .hp 31 (.cons (.var 2) (.cons (.un .len (.var 0)) .nil))))
  (.cons (.iff (.un .any (.lc false (.one 7) [7] (.any (.var 5)) (.dat (.bl true)) (.bin .neqv (.bin .ix (.var 7) (.un .neg (.dat (.int 1)))) (.dat c_NOUGHT)))) (.cons (.ret (.dat .non))
  .nil) .nil)
  (.cons (.set 6 (.un .dictP (.lc false (.tup [9, 7]) [9, 7] (.zip (.var 4) (.var 3)) (.dat (.bl true)) (.tup (.cons (.var 9) (.cons (.bin .ix (.var 7) (.un .neg (.dat (.int 1)))) .nil))))))
  (.cons (.ret (.lc true (.one 9) [9] (.rng1 (.un .len (.var 0))) (.dat (.bl true)) (.dgt (.var 6) (.var 9) (.dat c_NOUGHT))))
  .nil)))))
abbrev N_inverse_in : List Str := ["rows", "size", "units", "found", "heads", "left", "other", "one", "row", "unit"]
def ir_inverse_in : Sms := (.cons (.set 1 (.un .len (.var 0)))
  (.cons (.set 2 (.lc false (.one 6) [6] (.rng1 (.var 1)) (.dat (.bl true)) (.lc false (.one 7) [7] (.rng1 (.var 1)) (.dat (.bl true)) (.ite (.bin .eqv (.var 7) (.var 6)) (.dat c_LONE) (.dat c_NOUGHT)))))
  (.cons (.asg (.tup (.cons (.name 3) (.cons (.name 4) (.cons (.name 5) .nil)))) (.call .hp 31 (.cons (.lc false (.tup [8, 9]) [8, 9] (.zip (.call .fz 26 (.cons (.var 0) .nil)) (.var 2)) (.dat (.bl true)) (.bin .addX (.var 8) (.var 9))) (.cons (.var 1) .nil))))
  (.cons (.iff (.bin (.cmp .Lt) (.un .len (.var 4)) (.var 1)) (.cons (.ret (.dat .non))
  .nil) .nil)
  (.cons (.ret (.un .tuple (.lc false (.one 8) [8] (.any (.var 3)) (.dat (.bl true)) (.un .tuple (.sl (.var 8) (.some (.var 1)) .none)))))
  .nil)))))
abbrev N_diagonal_in : List Str := ["forest", "mates", "told", "cut", "piece", "rows", "back", "place", "own", "below", "bare"]
def ir_diagonal_in : Sms := (.cons .stuck
  (.cons (.forr (.name 4) (.any (.call .fz 21 (.cons (.var 0) .nil))) (.cons (.asg (.tup (.cons (.name 5) (.cons (.name 6) .nil))) (.call .hp 23 (.cons (.var 1) (.cons (.bin .ix (.var 4) (.dat (.int 0))) .nil))))
  (.cons (.forr (.name 7) (.rev (.var 5)) (.cons (.set 9 (.lc false (.one 8) [8] (.any (.bin .ix (.var 1) (.var 7))) (.and (.bin .neqv (.var 8) (.bin .dget (.var 6) (.var 7))) (.bin .ninn (.var 8) (.var 3))) (.var 8)))
  (.cons (.set 10 (.sl (.lc false (.one 8) [8] (.any (.var 9)) (.bin .eqv (.bin .dget (.var 2) (.var 8)) (.dat c_NOUGHT)) (.var 8)) .none (.some (.dat (.int 1)))))
  (.cons (.iff (.bin .neqv (.var 10) (.lst .nil)) (.cons .stuck
  (.cons (.expr (.mth .append (.var 3) (.var 7)))
  .nil)) (.cons (.dput (.var 2) (.var 7) (.call .fz 10 (.cons (.bin .ix (.bin .ix (.var 0) (.dat (.int 0))) (.var 7)) .nil)))
  (.cons (.forr (.name 8) (.any (.var 9)) (.cons (.dput (.var 2) (.var 7) (.call .fz 12 (.cons (.bin .dget (.var 2) (.var 7)) (.cons (.call .fz 14 (.cons (.dat c_LONE) (.cons (.bin .dget (.var 2) (.var 8)) .nil))) .nil))))
  .nil))
  .nil)))
  .nil))))
  .nil)))
  (.cons (.ret (.lc true (.one 7) [7] (.rng1 (.un .len (.bin .ix (.var 0) (.dat (.int 0))))) (.dat (.bl true)) (.bin .dget (.var 2) (.var 7))))
  .nil)))
abbrev N_is_below_in : List Str := ["forest", "own"]
def ir_is_below_in : Sms := (.cons (.ret (.un .all (.lc false (.one 1) [1] (.any (.call .fz 34 (.cons (.var 0) .nil))) (.dat (.bl true)) (.bin (.cmp .Lt) (.bin .ix (.var 1) (.dat (.int 0))) (.dat (.int 0))))))
  .nil)
abbrev N_way_in : List Str := ["forest", "one", "other", "rows", "back", "found", "lap"]
def ir_way_in : Sms := (.cons (.asg (.tup (.cons (.name 3) (.cons (.name 4) .nil))) (.call .hp 23 (.cons (.call .fz 20 (.cons (.var 0) .nil)) (.cons (.var 1) .nil))))
  (.cons (.iff (.bin .ninn (.var 2) (.var 3)) (.cons (.ret (.dat .non))
  .nil) .nil)
  (.cons (.set 5 (.lstC (.cons (.var 2) .nil)))
  (.cons (.forr (.name 6) (.any (.var 3)) (.cons (.iff (.bin .neqv (.bin .ix (.var 5) (.un .neg (.dat (.int 1)))) (.var 1)) (.cons (.expr (.mth .append (.var 5) (.bin .dget (.var 4) (.bin .ix (.var 5) (.un .neg (.dat (.int 1)))))))
  .nil) .nil)
  .nil))
  (.cons (.ret (.un .rev (.var 5)))
  .nil)))))
abbrev N_sure_row : List Str := ["forest", "value", "own", "its"]
def ir_sure_row : Sms := (.cons (.set 2 (.call .fz 5 (.cons (.var 1) .nil)))
  (.cons (.iff (.or (.un .notB (.un (.isi [.tuple]) (.var 2))) (.bin (.cmp .NotEq) (.un .len (.var 2)) (.un .len (.bin .ix (.var 0) (.dat (.int 0)))))) (.cons (.raise "Unfit")
  .nil) .nil)
  (.cons (.ret (.un .tuple (.lcx false (.one 3) [3] (.any (.var 2)) (.dat (.bl true)) (.call .fz 7 (.cons (.var 3) .nil)))))
  .nil)))
abbrev N_sure_lot : List Str := ["forest", "value", "own", "its"]
def ir_sure_lot : Sms := (.cons (.set 2 (.call .fz 5 (.cons (.var 1) .nil)))
  (.cons (.iff (.or (.un .notB (.un (.isi [.tuple]) (.var 2))) (.un .notB (.un .all (.lc false (.one 3) [3] (.any (.var 2)) (.dat (.bl true)) (.call .fz 0 (.cons (.var 3) .nil)))))) (.cons (.raise "Unfit")
  .nil) .nil)
  (.cons (.iff (.or (.un .any (.lc false (.one 3) [3] (.any (.var 2)) (.dat (.bl true)) (.un .notB (.chain .LtE .Lt (.dat (.int 0)) (.var 3) (.un .len (.bin .ix (.var 0) (.dat (.int 0)))))))) (.bin .neqv (.un .list (.var 2)) (.un .srtSet (.var 2)))) (.cons (.raise "Unfit")
  .nil) .nil)
  (.cons (.ret (.var 2))
  .nil))))
abbrev N_table_of : List Str := ["forest"]
def ir_table_of : Sms := (.cons (.ret (.call .fz 24 (.cons (.call .fz 18 (.cons (.var 0) .nil)) .nil)))
  .nil)
abbrev N_determinant : List Str := ["forest"]
def ir_determinant : Sms := (.cons (.ret (.call .fz 25 (.cons (.call .fz 24 (.cons (.call .fz 18 (.cons (.var 0) .nil)) .nil)) .nil)))
  .nil)
abbrev N_signs : List Str := ["forest"]
def ir_signs : Sms := (.cons (.ret (.call .fz 30 (.cons (.call .fz 24 (.cons (.call .fz 18 (.cons (.var 0) .nil)) .nil)) .nil)))
  .nil)
abbrev N_diagonal : List Str := ["forest"]
def ir_diagonal : Sms := (.cons (.ret (.un .tuple (.call .fz 34 (.cons (.call .fz 18 (.cons (.var 0) .nil)) .nil))))
  .nil)
abbrev N_is_below : List Str := ["forest"]
def ir_is_below : Sms := (.cons (.ret (.call .fz 35 (.cons (.call .fz 18 (.cons (.var 0) .nil)) .nil)))
  .nil)
abbrev N_inverse_table : List Str := ["forest", "found"]
def ir_inverse_table : Sms := (.cons (.set 1 (.call .fz 33 (.cons (.call .fz 24 (.cons (.call .fz 18 (.cons (.var 0) .nil)) .nil)) .nil)))
  (.cons (.iff (.un .isN (.var 1)) (.cons (.raise "CanNot")
  .nil) .nil)
  (.cons (.ret (.var 1))
  .nil)))
abbrev N_way_between : List Str := ["forest", "place", "other", "own", "near", "found"]
def ir_way_between : Sms := (.cons (.set 3 (.call .fz 18 (.cons (.var 0) .nil)))
  (.cons (.set 4 (.call .fz 19 (.cons (.var 3) (.cons (.var 1) .nil))))
  (.cons (.set 5 (.call .fz 36 (.cons (.var 3) (.cons (.var 4) (.cons (.call .fz 19 (.cons (.var 3) (.cons (.var 2) .nil))) .nil)))))
  (.cons (.iff (.un .isN (.var 5)) (.cons (.raise "CanNot")
  .nil) .nil)
  (.cons (.ret (.un .tuple (.var 5)))
  .nil)))))
abbrev N_left_determinant : List Str := ["forest", "places", "own", "gone", "place"]
def ir_left_determinant : Sms := (.cons (.set 2 (.call .fz 18 (.cons (.var 0) .nil)))
  (.cons (.set 3 (.call .fz 38 (.cons (.var 2) (.cons (.var 1) .nil))))
  (.cons (.ret (.call .fz 25 (.cons (.call .fz 24 (.cons (.call .fz 22 (.cons (.var 2) (.cons (.lc false (.one 4) [4] (.rng1 (.un .len (.bin .ix (.var 2) (.dat (.int 0))))) (.bin .ninn (.var 4) (.var 3)) (.var 4)) .nil))) .nil)) .nil)))
  .nil)))
abbrev N_row_times : List Str := ["forest", "row", "own", "told", "line", "one", "other"]
def ir_row_times : Sms := (.cons (.set 2 (.call .fz 18 (.cons (.var 0) .nil)))
  (.cons (.set 3 (.call .fz 37 (.cons (.var 2) (.cons (.var 1) .nil))))
  (.cons (.ret (.un .tuple (.lc false (.one 4) [4] (.any (.call .fz 24 (.cons (.var 2) .nil))) (.dat (.bl true)) (.un .sum (.lc false (.tup [5, 6]) [5, 6] (.zip (.var 4) (.var 3)) (.dat (.bl true)) (.bin (.op .Mult) (.var 5) (.var 6)))))))
  .nil)))
abbrev N_row_over : List Str := ["forest", "row", "own", "told", "rows", "its"]
def ir_row_over : Sms := (.cons (.set 2 (.call .fz 18 (.cons (.var 0) .nil)))
  (.cons (.set 3 (.call .fz 37 (.cons (.var 2) (.cons (.var 1) .nil))))
  (.cons (.set 4 (.call .fz 24 (.cons (.var 2) .nil)))
  (.cons (.iff (.bin (.cmp .Eq) (.call .fz 25 (.cons (.var 4) .nil)) (.dat (.int 0))) (.cons (.raise "CanNot")
  .nil) .nil)
  (.cons (.ret (.un .tuple (.call .fz 32 (.cons (.var 4) (.cons (.lc false (.one 5) [5] (.any (.var 3)) (.dat (.bl true)) (.call .fz 10 (.cons (.var 5) .nil))) .nil)))))
  .nil)))))
abbrev N__law_box : List Str := ["script", "k", "bit_so"]
def ir__law_box : Sms := (.cons (.set 2 (.ite (.bin (.cmp .Lt) (.var 1) (.un .len (.var 0))) (.bin .ix (.var 0) (.var 1)) (.dat (.int 0))))
  (.cons (.ret (.lstC (.cons (.bin (.op .Mult) (.un .abs (.var 2)) (.un .int (.bin (.cmp .GtE) (.un .abs (.var 2)) (.bin (.op .Pow) (.dat (.int 10)) (.dat (.int 18)))))) (.cons (.bin (.op .Add) (.bin (.op .Add) (.bin (.op .Mod) (.un .int (.var 2)) (.dat (.int 2305843009213693951))) (.bin (.op .Mult) (.dat (.int 39373)) (.var 1))) (.dat (.int 248220029))) (.cons (.dat (.int 0)) .nil)))))
  .nil))
abbrev N__law_take : List Str := ["tin", "below_so", "drawn_so", "once_so", "wide_so", "twice_so"]
def ir__law_take : Sms := (.cons (.iff (.bin (.cmp .Gt) (.bin .ix (.var 0) (.dat (.int 0))) (.dat (.int 0))) (.cons (.set 2 (.bin (.op .Mod) (.un .int (.bin .ix (.var 0) (.dat (.int 0)))) (.var 1)))
  (.cons (.asg (.sub (.var 0) (.dat (.int 0))) (.bin (.op .FloorDiv) (.bin .ix (.var 0) (.dat (.int 0))) (.var 1)))
  (.cons (.ret (.var 2))
  .nil))) .nil)
  (.cons (.asg (.sub (.var 0) (.dat (.int 2))) (.bin (.op .Add) (.bin .ix (.var 0) (.dat (.int 2))) (.dat (.int 1))))
  (.cons (.set 3 (.bin (.op .Mod) (.un .int (.bin (.op .Mult) (.bin (.op .Add) (.bin .ix (.var 0) (.dat (.int 1))) (.bin (.op .Mult) (.dat (.int 48271)) (.bin .ix (.var 0) (.dat (.int 2))))) (.bin (.op .Add) (.dat (.int 39373)) (.bin .ix (.var 0) (.dat (.int 2)))))) (.dat (.int 2147483647))))
  (.cons (.set 4 (.bin (.op .Add) (.bin (.op .Mod) (.un .int (.var 3)) (.dat (.int 40009))) (.dat (.int 7))))
  (.cons (.set 5 (.bin (.op .Mod) (.un .int (.bin (.op .Mult) (.bin (.op .Add) (.bin (.op .Add) (.var 3) (.bin .ix (.var 0) (.dat (.int 2)))) (.bin (.op .FloorDiv) (.bin .ix (.var 0) (.dat (.int 1))) (.dat (.int 1000003)))) (.var 4))) (.dat (.int 2147483629))))
  (.cons (.ret (.bin (.op .Mod) (.un .int (.bin (.op .FloorDiv) (.bin (.op .Mod) (.un .int (.bin (.op .Add) (.bin (.op .Mult) (.var 5) (.dat (.int 48271))) (.var 3))) (.dat (.int 2147483587))) (.dat (.int 64)))) (.var 1)))
  .nil))))))
abbrev N__law_cells : List Str := ["script", "most_so", "cells_so", "k", "bit_so", "at_so"]
def ir__law_cells : Sms := (.cons (.set 2 (.orL (.un .listC (.sl (.var 0) .none (.some (.var 1)))) (.lstC (.cons (.dat (.int 0)) .nil))))
  (.cons (.forr (.tup (.cons (.name 3) (.cons (.name 4) .nil))) (.enum (.sl (.var 0) (.some (.var 1)) (.some (.dat (.int 63))))) (.cons (.set 5 (.bin (.op .Mod) (.un .int (.var 3)) (.var 1)))
  (.cons (.asg (.sub (.var 2) (.var 5)) (.bin (.op .Add) (.bin .ix (.var 2) (.var 5)) (.bin (.op .Mult) (.var 4) (.bin (.op .Add) (.var 3) (.dat (.int 2))))))
  .nil)))
  (.cons (.ret (.var 2))
  .nil)))
abbrev N__law_pick : List Str := ["tin", "goods_so", "count_so", "pool_so", "found", "lap"]
def ir__law_pick : Sms := (.cons (.par2 3 4 (.un .listC (.var 1)) (.lstC .nil))
  (.cons (.forr (.name 5) (.rng1 (.bin .min (.un .int (.var 2)) (.un .len (.var 3)))) (.cons (.expr (.mth .append (.var 4) (.mth .popAt (.var 3) (.call .hp 50 (.cons (.var 0) (.cons (.un .len (.var 3)) .nil))))))
  .nil))
  (.cons (.ret (.var 4))
  .nil)))
abbrev N__law_same : List Str := ["got", "due", "mine", "its"]
def ir__law_same : Sms := (.cons (.iff (.un (.isi [.list, .tuple]) (.var 1)) (.cons (.iff (.or (.bin .neqv (.un (.isi [.list]) (.var 0)) (.un (.isi [.list]) (.var 1))) (.bin .neqv (.un (.isi [.tuple]) (.var 0)) (.un (.isi [.tuple]) (.var 1)))) (.cons (.ret (.dat (.bl false)))
  .nil) .nil)
  (.cons (.ret (.and (.bin (.cmp .Eq) (.un .len (.var 0)) (.un .len (.var 1))) (.un .all (.lc false (.tup [2, 3]) [2, 3] (.zip (.var 0) (.var 1)) (.dat (.bl true)) (.call .fz 53 (.cons (.var 2) (.cons (.var 3) .nil)))))))
  .nil)) .nil)
  (.cons (.iff (.un .isN (.var 1)) (.cons (.ret (.un .isN (.var 0)))
  .nil) .nil)
  (.cons (.iff (.un (.isi [.bool, .str]) (.var 1)) (.cons (.ret (.and (.bin .eqv (.un (.isi [.bool]) (.var 0)) (.un (.isi [.bool]) (.var 1))) (.and (.bin .eqv (.un (.isi [.str]) (.var 0)) (.un (.isi [.str]) (.var 1))) (.bin .eqv (.var 0) (.var 1)))))
  .nil) .nil)
  (.cons (.ret (.and (.un (.isi [.int]) (.var 0)) (.and (.un .notB (.un (.isi [.bool]) (.var 0))) (.bin .eqv (.var 0) (.var 1)))))
  .nil))))
abbrev N__law_heard : List Str := ["door", "goods_so", "caught", "told_so", "error"]
def ir__law_heard : Sms := (.cons (.asg (.tup (.cons (.name 2) (.cons (.name 3) .nil))) (.tup (.cons (.dat .non) (.cons (.dat .non) .nil))))
  (.cons (.tryy xcs (.cons (.iff (.bin (.cmp .Eq) (.un .len (.var 1)) (.dat (.int 1))) (.cons (.set 3 (.callV .fz tbl 0 (.cons (.bin .ix (.var 1) (.dat (.int 0))) .nil)))
  .nil) (.cons (.set 3 (.ite (.bin (.cmp .Eq) (.un .len (.var 1)) (.dat (.int 2))) (.callV .fz tbl 0 (.cons (.bin .ix (.var 1) (.dat (.int 0))) (.cons (.bin .ix (.var 1) (.dat (.int 1))) .nil))) (.callV .fz tbl 0 (.cons (.bin .ix (.var 1) (.dat (.int 0))) (.cons (.bin .ix (.var 1) (.dat (.int 1))) (.cons (.bin .ix (.var 1) (.dat (.int 2))) .nil))))))
  .nil))
  .nil) [⟨"CanNot", 4, 2, "cannot"⟩, ⟨"Unfit", 4, 2, "unfit"⟩])
  (.cons (.ret (.ite (.un .notN (.var 2)) (.var 2) (.lstC (.cons (.dat (.str "told")) (.cons (.un .isN (.var 3)) .nil)))))
  .nil)))
abbrev N_law : List Str := ["script", "tin", "pair_so", "bare_so", "forests_so", "own", "rows_so", "door", "goods_so", "place_so", "bads_so"]
def ir_law : Sms := (.cons (.set 1 (.call .cl 49 (.cons (.call .fz 51 (.cons (.var 0) (.cons (.dat (.int 1)) .nil))) (.cons (.dat (.int 0)) .nil))))
  (.cons (.asg (.tup (.cons (.name 2) (.cons (.name 3) .nil))) (.tup (.cons (.tup (.cons (.tup (.cons (.un .neg (.dat (.int 2))) (.cons (.un .neg (.dat (.int 3))) .nil))) (.cons (.tup (.cons (.tup (.cons (.dat (.int 0)) (.cons (.dat (.int 1)) .nil))) .nil)) .nil))) (.cons (.tup (.cons (.tup (.cons (.dat (.int 0)) (.cons (.dat (.int 5)) (.cons (.dat (.int 0)) .nil)))) (.cons (.tup .nil) .nil))) .nil))))
  (.cons (.set 4 (.lst (.cons (.dat .non) (.cons (.dat (.int 5)) (.cons (.tup .nil) (.cons (.tup (.cons (.tup (.cons (.dat (.int 1)) .nil)) .nil)) (.cons (.tup (.cons (.tup (.cons (.dat (.int 1)) .nil)) (.cons (.tup .nil) (.cons (.tup .nil) .nil)))) (.cons (.tup (.cons (.dat (.int 1)) (.cons (.tup .nil) .nil))) (.cons (.tup (.cons (.tup (.cons (.dat (.int 1)) (.cons (.dat (.int 2)) .nil))) (.cons (.tup (.cons (.tup (.cons (.dat (.int 1)) (.cons (.dat (.int 0)) .nil))) .nil)) .nil))) (.cons (.tup (.cons (.tup (.cons (.dat (.int 1)) (.cons (.dat (.int 2)) .nil))) (.cons (.tup (.cons (.tup (.cons (.dat (.int 0)) (.cons (.dat (.int 0)) .nil))) .nil)) .nil))) (.cons (.tup (.cons (.tup (.cons (.dat (.int 1)) (.cons (.dat (.int 2)) .nil))) (.cons (.tup (.cons (.tup (.cons (.dat (.int 0)) (.cons (.dat (.int 2)) .nil))) .nil)) .nil))) (.cons (.tup (.cons (.tup (.cons (.dat (.int 1)) (.cons (.dat (.int 2)) .nil))) (.cons (.tup (.cons (.tup (.cons (.dat (.int 0)) (.cons (.dat (.int 1)) .nil))) (.cons (.tup (.cons (.dat (.int 0)) (.cons (.dat (.int 1)) .nil))) .nil))) .nil))) .nil))))))))))))
  (.cons (.set 4 (.bin .catL (.var 4) (.lst (.cons (.tup (.cons (.tup (.cons (.dat (.int 1)) (.cons (.dat (.int 1)) (.cons (.dat (.int 1)) .nil)))) (.cons (.tup (.cons (.tup (.cons (.dat (.int 0)) (.cons (.dat (.int 1)) .nil))) (.cons (.tup (.cons (.dat (.int 0)) (.cons (.dat (.int 2)) .nil))) (.cons (.tup (.cons (.dat (.int 1)) (.cons (.dat (.int 2)) .nil))) .nil)))) .nil))) (.cons (.tup (.cons (.tup (.cons (.dat .non) .nil)) (.cons (.tup .nil) .nil))) (.cons (.tup (.cons (.tup (.cons (.dat (.bl true)) .nil)) (.cons (.tup .nil) .nil))) (.cons (.tup (.cons (.tup (.cons (.dat (.int 1001)) .nil)) (.cons (.tup .nil) .nil))) (.cons (.tup (.cons (.tup (.cons (.un .neg (.dat (.int 1001))) .nil)) (.cons (.tup .nil) .nil))) (.cons (.tup (.cons (.bin .repT (.tup (.cons (.dat (.int 0)) .nil)) (.dat (.int 41))) (.cons (.tup .nil) .nil))) (.cons (.dat (.str "forest")) .nil))))))))))
  (.cons (.set 6 (.lc false (.one 5) [5] (.any (.tup (.cons (.dat (.fn "table_of")) (.cons (.dat (.fn "determinant")) (.cons (.dat (.fn "signs")) (.cons (.dat (.fn "diagonal")) (.cons (.dat (.fn "is_below")) (.cons (.dat (.fn "inverse_table")) .nil)))))))) (.dat (.bl true)) (.tup (.cons (.var 5) (.cons (.tup (.cons (.var 2) .nil)) (.cons (.dat (.int 0)) (.cons (.var 4) .nil)))))))
  (.cons (.forr (.name 7) (.any (.tup (.cons (.dat (.fn "row_times")) (.cons (.dat (.fn "row_over")) .nil)))) (.cons (.set 6 (.bin .catL (.var 6) (.lst (.cons (.tup (.cons (.var 7) (.cons (.tup (.cons (.var 2) (.cons (.tup (.cons (.dat (.int 1)) (.cons (.dat (.int 2)) .nil))) .nil))) (.cons (.dat (.int 0)) (.cons (.var 4) .nil))))) .nil))))
  (.cons (.set 6 (.bin .catL (.var 6) (.lst (.cons (.tup (.cons (.var 7) (.cons (.tup (.cons (.var 2) (.cons (.tup (.cons (.dat (.int 1)) (.cons (.dat (.int 2)) .nil))) .nil))) (.cons (.dat (.int 1)) (.cons (.lst (.cons (.dat .non) (.cons (.dat (.int 5)) (.cons (.tup .nil) (.cons (.tup (.cons (.dat (.int 1)) .nil)) (.cons (.tup (.cons (.dat (.int 1)) (.cons (.dat (.int 2)) (.cons (.dat (.int 3)) .nil)))) (.cons (.tup (.cons (.dat (.int 1)) (.cons (.dat .non) .nil))) (.cons (.tup (.cons (.dat (.int 1)) (.cons (.dat (.bl true)) .nil))) (.cons (.tup (.cons (.dat (.int 1)) (.cons (.bin (.op .Add) (.bin (.op .Pow) (.dat (.int 10)) (.dat (.int 12))) (.dat (.int 1))) .nil))) (.cons (.dat (.str "12")) (.cons (.tup (.cons (.dat (.int 1)) (.cons (.tup (.cons (.dat (.int 2)) .nil)) .nil))) .nil))))))))))) .nil))))) .nil))))
  (.cons (.set 6 (.bin .catL (.var 6) (.lst (.cons (.tup (.cons (.var 7) (.cons (.tup (.cons (.var 3) (.cons (.tup (.cons (.dat (.int 0)) (.cons (.dat (.int 0)) (.cons (.dat (.int 0)) .nil)))) .nil))) (.cons (.dat (.int 1)) (.cons (.lst (.cons (.dat .non) (.cons (.tup (.cons (.dat (.int 1)) (.cons (.dat (.int 2)) .nil))) .nil))) .nil))))) .nil))))
  .nil))))
  (.cons (.set 6 (.bin .catL (.var 6) (.lst (.cons (.tup (.cons (.dat (.fn "way_between")) (.cons (.tup (.cons (.var 2) (.cons (.dat (.int 0)) (.cons (.dat (.int 1)) .nil)))) (.cons (.dat (.int 0)) (.cons (.var 4) .nil))))) (.cons (.tup (.cons (.dat (.fn "way_between")) (.cons (.tup (.cons (.var 2) (.cons (.dat (.int 0)) (.cons (.dat (.int 1)) .nil)))) (.cons (.dat (.int 1)) (.cons (.lst (.cons (.dat .non) (.cons (.un .neg (.dat (.int 1))) (.cons (.dat (.int 2)) (.cons (.dat (.bl true)) (.cons (.dat (.str "0")) (.cons (.tup (.cons (.dat (.int 0)) .nil)) .nil))))))) .nil))))) .nil)))))
  (.cons (.set 6 (.bin .catL (.var 6) (.lst (.cons (.tup (.cons (.dat (.fn "way_between")) (.cons (.tup (.cons (.var 3) (.cons (.dat (.int 0)) (.cons (.dat (.int 1)) .nil)))) (.cons (.dat (.int 2)) (.cons (.lst (.cons (.dat .non) (.cons (.un .neg (.dat (.int 1))) (.cons (.dat (.int 3)) (.cons (.dat (.bl true)) (.cons (.dat (.str "0")) .nil)))))) .nil))))) .nil))))
  (.cons (.set 6 (.bin .catL (.var 6) (.lst (.cons (.tup (.cons (.dat (.fn "left_determinant")) (.cons (.tup (.cons (.var 2) (.cons (.tup (.cons (.dat (.int 0)) .nil)) .nil))) (.cons (.dat (.int 0)) (.cons (.var 4) .nil))))) (.cons (.tup (.cons (.dat (.fn "left_determinant")) (.cons (.tup (.cons (.var 2) (.cons (.tup (.cons (.dat (.int 0)) .nil)) .nil))) (.cons (.dat (.int 1)) (.cons (.lst (.cons (.dat .non) (.cons (.dat (.int 5)) (.cons (.tup (.cons (.dat (.int 2)) .nil)) (.cons (.tup (.cons (.un .neg (.dat (.int 1))) .nil)) (.cons (.tup (.cons (.dat (.int 1)) (.cons (.dat (.int 0)) .nil))) (.cons (.tup (.cons (.dat (.int 0)) (.cons (.dat (.int 0)) .nil))) (.cons (.tup (.cons (.dat .non) .nil)) (.cons (.tup (.cons (.dat (.bl true)) .nil)) (.cons (.dat (.str "0")) (.cons (.tup (.cons (.tup (.cons (.dat (.int 0)) .nil)) .nil)) .nil))))))))))) .nil))))) .nil)))))
  (.cons (.forr (.tup (.cons (.name 7) (.cons (.name 8) (.cons (.name 9) (.cons (.name 10) .nil))))) (.any (.call .hp 52 (.cons (.var 1) (.cons (.var 6) (.cons (.dat (.int 99)) .nil))))) (.cons (.forr (.name 5) (.any (.var 10)) (.cons (.iff (.un .notB (.call .fz 53 (.cons (.call .fz 54 (.cons (.var 7) (.cons (.bin .addX (.bin .addX (.sl (.var 8) .none (.some (.var 9))) (.tup (.cons (.var 5) .nil))) (.sl (.var 8) (.some (.bin (.op .Add) (.var 9) (.dat (.int 1)))) .none)) .nil))) (.cons (.lst (.cons (.dat (.str "unfit")) (.cons (.dat (.bl true)) .nil))) .nil)))) (.cons (.ret (.dat (.bl false)))
  .nil) .nil)
  .nil))
  .nil))
  (.cons (.set 8 (.lst (.cons (.tup (.cons (.dat (.fn "table_of")) (.cons (.tup (.cons (.tup (.cons (.tup (.cons (.dat (.int 1000)) (.cons (.un .neg (.dat (.int 1000))) .nil))) (.cons (.tup .nil) .nil))) .nil)) .nil))) (.cons (.tup (.cons (.dat (.fn "determinant")) (.cons (.tup (.cons (.tup (.cons (.bin .repT (.tup (.cons (.dat (.int 0)) .nil)) (.dat (.int 40))) (.cons (.tup .nil) .nil))) .nil)) .nil))) (.cons (.tup (.cons (.dat (.fn "row_times")) (.cons (.tup (.cons (.var 2) (.cons (.tup (.cons (.bin (.op .Pow) (.dat (.int 10)) (.dat (.int 12))) (.cons (.un .neg (.bin (.op .Pow) (.dat (.int 10)) (.dat (.int 12)))) .nil))) .nil))) .nil))) (.cons (.tup (.cons (.dat (.fn "left_determinant")) (.cons (.tup (.cons (.var 2) (.cons (.tup (.cons (.dat (.int 0)) (.cons (.dat (.int 1)) .nil))) .nil))) .nil))) .nil))))))
  (.cons (.set 8 (.bin .catL (.var 8) (.lst (.cons (.tup (.cons (.dat (.fn "way_between")) (.cons (.tup (.cons (.var 2) (.cons (.dat (.int 1)) (.cons (.dat (.int 1)) .nil)))) .nil))) (.cons (.tup (.cons (.dat (.fn "row_over")) (.cons (.tup (.cons (.var 2) (.cons (.lst (.cons (.dat (.int 0)) (.cons (.dat (.int 0)) .nil))) .nil))) .nil))) .nil)))))
  (.cons (.iff (.un .notB (.call .fz 53 (.cons (.lcx false (.tup [7, 5]) [7, 5] (.any (.var 8)) (.dat (.bl true)) (.call .fz 54 (.cons (.var 7) (.cons (.var 5) .nil)))) (.cons (.bin .repL (.lst (.cons (.lst (.cons (.dat (.str "told")) (.cons (.dat (.bl false)) .nil))) .nil)) (.dat (.int 6))) .nil)))) (.cons (.ret (.dat (.bl false)))
  .nil) .nil)
  (.cons (.ret (.call .fz 53 (.cons (.lst (.cons (.call .fz 54 (.cons (.dat (.fn "inverse_table")) (.cons (.tup (.cons (.var 3) .nil)) .nil))) (.cons (.call .fz 54 (.cons (.dat (.fn "row_over")) (.cons (.tup (.cons (.var 3) (.cons (.tup (.cons (.dat (.int 0)) (.cons (.dat (.int 0)) (.cons (.dat (.int 0)) .nil)))) .nil))) .nil))) (.cons (.call .fz 54 (.cons (.dat (.fn "way_between")) (.cons (.tup (.cons (.var 3) (.cons (.dat (.int 0)) (.cons (.dat (.int 1)) .nil)))) .nil))) .nil)))) (.cons (.bin .repL (.lst (.cons (.lst (.cons (.dat (.str "cannot")) (.cons (.dat (.bl true)) .nil))) .nil)) (.dat (.int 3))) .nil))))
  .nil))))))))))))))
def T : List Df := [⟨1, 1, ir_is_number⟩, ⟨3, 3, ir_is_within⟩, ⟨2, 2, ir_is_long⟩, ⟨2, 1, ir_are_numbers⟩, ⟨3, 1, ir_ascends⟩, ⟨2, 1, ir_tupled⟩, ⟨3, 3, ir_sure_within⟩, ⟨1, 1, ir_sure_number⟩, ⟨2, 2, ir_common⟩, ⟨3, 2, ir_cut_down⟩, ⟨1, 1, ir_whole⟩, ⟨2, 2, ir_added⟩, ⟨2, 2, ir_taken⟩, ⟨2, 2, ir_times⟩, ⟨2, 2, ir_over⟩, ⟨2, 2, ir_is_edge_of⟩, ⟨8, 2, ir_has_ring⟩, ⟨3, 1, ir_is_forest_in⟩, ⟨3, 1, ir_sure_forest⟩, ⟨2, 2, ir_sure_place⟩, ⟨5, 1, ir_neighbours_in⟩, ⟨8, 1, ir_pieces_in⟩, ⟨8, 2, ir_part_in⟩, ⟨6, 2, ir_order_from⟩, ⟨8, 1, ir_table_in⟩, ⟨10, 1, ir_determinant_in⟩, ⟨3, 1, ir_fractions_of⟩, ⟨5, 3, ir_less_by⟩, ⟨6, 3, ir_paired⟩, ⟨6, 1, ir_first_told⟩, ⟨11, 1, ir_signs_in⟩, ⟨12, 2, ir_worked_down⟩, ⟨10, 2, ir_solution_in⟩, ⟨10, 1, ir_inverse_in⟩, ⟨11, 1, ir_diagonal_in⟩, ⟨2, 1, ir_is_below_in⟩, ⟨7, 3, ir_way_in⟩, ⟨4, 2, ir_sure_row⟩, ⟨4, 2, ir_sure_lot⟩, ⟨1, 1, ir_table_of⟩, ⟨1, 1, ir_determinant⟩, ⟨1, 1, ir_signs⟩, ⟨1, 1, ir_diagonal⟩, ⟨1, 1, ir_is_below⟩, ⟨2, 1, ir_inverse_table⟩, ⟨6, 3, ir_way_between⟩, ⟨5, 2, ir_left_determinant⟩, ⟨7, 2, ir_row_times⟩, ⟨6, 2, ir_row_over⟩, ⟨3, 2, ir__law_box⟩, ⟨6, 2, ir__law_take⟩, ⟨6, 2, ir__law_cells⟩, ⟨6, 3, ir__law_pick⟩, ⟨4, 2, ir__law_same⟩, ⟨5, 2, ir__law_heard⟩, ⟨11, 1, ir_law⟩]
end Ab
end

section
set_option Elab.async false
set_option linter.all false
set_option maxRecDepth 100000
set_option maxHeartbeats 40000000
namespace Ab
open PySem PySem.Spec PyProof.Rows L2
def top (i : Nat) : Stmt := PySem.Challenge.pw_plumbtrees_k29_whole_tables_refused.main.body.getD i (.Pass ⟨0, 0, 0, 0⟩)
structure Txt (K : PySem.W.Frag) (mg : Str → Option Value) : Prop where
  b_ValueError : mg "ValueError" = none
  b_abs : mg "abs" = none
  b_all : mg "all" = none
  b_any : mg "any" = none
  b_bool : mg "bool" = none
  b_dict : mg "dict" = none
  b_enumerate : mg "enumerate" = none
  b_int : mg "int" = none
  b_isinstance : mg "isinstance" = none
  b_len : mg "len" = none
  b_list : mg "list" = none
  b_min : mg "min" = none
  b_range : mg "range" = none
  b_reversed : mg "reversed" = none
  b_set : mg "set" = none
  b_sorted : mg "sorted" = none
  b_str : mg "str" = none
  b_sum : mg "sum" = none
  b_tuple : mg "tuple" = none
  b_zip : mg "zip" = none
  f_determinant : FnM K mg "determinant"
  f_diagonal : FnM K mg "diagonal"
  f_inverse_table : FnM K mg "inverse_table"
  f_is_below : FnM K mg "is_below"
  f_left_determinant : FnM K mg "left_determinant"
  f_row_over : FnM K mg "row_over"
  f_row_times : FnM K mg "row_times"
  f_signs : FnM K mg "signs"
  f_table_of : FnM K mg "table_of"
  f_way_between : FnM K mg "way_between"
  c_LONE : CstD K mg "LONE" c_LONE
  c_MOST : CstD K mg "MOST" c_MOST
  c_MOST_PLACES : CstD K mg "MOST_PLACES" c_MOST_PLACES
  c_MOST_WEIGHT : CstD K mg "MOST_WEIGHT" c_MOST_WEIGHT
  c_NOUGHT : CstD K mg "NOUGHT" c_NOUGHT
  x_CanNot : ClsD K mg "CanNot"
  x_Unfit : ClsD K mg "Unfit"
  xp : ClsP K xcs
theorem nd_is_number : N_is_number.Nodup := by decide +kernel
theorem sc_is_number : FnScope N_is_number ["thing"] (defScope (top 5)) := ⟨rfl, rfl, rfl, by decide +kernel, rfl, by decide +kernel, by decide +kernel⟩
theorem nd_is_within : N_is_within.Nodup := by decide +kernel
theorem sc_is_within : FnScope N_is_within ["thing", "least", "most"] (defScope (top 6)) := ⟨rfl, rfl, rfl, by decide +kernel, rfl, by decide +kernel, by decide +kernel⟩
theorem nd_is_long : N_is_long.Nodup := by decide +kernel
theorem sc_is_long : FnScope N_is_long ["thing", "length"] (defScope (top 7)) := ⟨rfl, rfl, rfl, by decide +kernel, rfl, by decide +kernel, by decide +kernel⟩
theorem nd_are_numbers : N_are_numbers.Nodup := by decide +kernel
theorem sc_are_numbers : FnScope N_are_numbers ["thing"] (defScope (top 8)) := ⟨rfl, rfl, rfl, by decide +kernel, rfl, by decide +kernel, by decide +kernel⟩
theorem nd_ascends : N_ascends.Nodup := by decide +kernel
theorem sc_ascends : FnScope N_ascends ["row"] (defScope (top 9)) := ⟨rfl, rfl, rfl, by decide +kernel, rfl, by decide +kernel, by decide +kernel⟩
theorem nd_tupled : N_tupled.Nodup := by decide +kernel
theorem sc_tupled : FnScope N_tupled ["value"] (defScope (top 10)) := ⟨rfl, rfl, rfl, by decide +kernel, rfl, by decide +kernel, by decide +kernel⟩
theorem nd_sure_within : N_sure_within.Nodup := by decide +kernel
theorem sc_sure_within : FnScope N_sure_within ["thing", "least", "most"] (defScope (top 11)) := ⟨rfl, rfl, rfl, by decide +kernel, rfl, by decide +kernel, by decide +kernel⟩
theorem nd_sure_number : N_sure_number.Nodup := by decide +kernel
theorem sc_sure_number : FnScope N_sure_number ["thing"] (defScope (top 12)) := ⟨rfl, rfl, rfl, by decide +kernel, rfl, by decide +kernel, by decide +kernel⟩
theorem nd_common : N_common.Nodup := by decide +kernel
theorem sc_common : FnScope N_common ["one", "other"] (defScope (top 13)) := ⟨rfl, rfl, rfl, by decide +kernel, rfl, by decide +kernel, by decide +kernel⟩
theorem nd_cut_down : N_cut_down.Nodup := by decide +kernel
theorem sc_cut_down : FnScope N_cut_down ["over_it", "under"] (defScope (top 14)) := ⟨rfl, rfl, rfl, by decide +kernel, rfl, by decide +kernel, by decide +kernel⟩
theorem nd_whole : N_whole.Nodup := by decide +kernel
theorem sc_whole : FnScope N_whole ["number"] (defScope (top 15)) := ⟨rfl, rfl, rfl, by decide +kernel, rfl, by decide +kernel, by decide +kernel⟩
theorem nd_added : N_added.Nodup := by decide +kernel
theorem sc_added : FnScope N_added ["one", "other"] (defScope (top 16)) := ⟨rfl, rfl, rfl, by decide +kernel, rfl, by decide +kernel, by decide +kernel⟩
theorem nd_taken : N_taken.Nodup := by decide +kernel
theorem sc_taken : FnScope N_taken ["one", "other"] (defScope (top 17)) := ⟨rfl, rfl, rfl, by decide +kernel, rfl, by decide +kernel, by decide +kernel⟩
theorem nd_times : N_times.Nodup := by decide +kernel
theorem sc_times : FnScope N_times ["one", "other"] (defScope (top 18)) := ⟨rfl, rfl, rfl, by decide +kernel, rfl, by decide +kernel, by decide +kernel⟩
theorem nd_over : N_over.Nodup := by decide +kernel
theorem sc_over : FnScope N_over ["one", "other"] (defScope (top 19)) := ⟨rfl, rfl, rfl, by decide +kernel, rfl, by decide +kernel, by decide +kernel⟩
theorem nd_is_edge_of : N_is_edge_of.Nodup := by decide +kernel
theorem sc_is_edge_of : FnScope N_is_edge_of ["thing", "many"] (defScope (top 23)) := ⟨rfl, rfl, rfl, by decide +kernel, rfl, by decide +kernel, by decide +kernel⟩
theorem nd_has_ring : N_has_ring.Nodup := by decide +kernel
theorem sc_has_ring : FnScope N_has_ring ["many", "edges"] (defScope (top 24)) := ⟨rfl, rfl, rfl, by decide +kernel, rfl, by decide +kernel, by decide +kernel⟩
theorem nd_is_forest_in : N_is_forest_in.Nodup := by decide +kernel
theorem sc_is_forest_in : FnScope N_is_forest_in ["thing"] (defScope (top 25)) := ⟨rfl, rfl, rfl, by decide +kernel, rfl, by decide +kernel, by decide +kernel⟩
theorem nd_sure_forest : N_sure_forest.Nodup := by decide +kernel
theorem sc_sure_forest : FnScope N_sure_forest ["value"] (defScope (top 26)) := ⟨rfl, rfl, rfl, by decide +kernel, rfl, by decide +kernel, by decide +kernel⟩
theorem nd_sure_place : N_sure_place.Nodup := by decide +kernel
theorem sc_sure_place : FnScope N_sure_place ["forest", "value"] (defScope (top 27)) := ⟨rfl, rfl, rfl, by decide +kernel, rfl, by decide +kernel, by decide +kernel⟩
theorem nd_neighbours_in : N_neighbours_in.Nodup := by decide +kernel
theorem sc_neighbours_in : FnScope N_neighbours_in ["forest"] (defScope (top 28)) := ⟨rfl, rfl, rfl, by decide +kernel, rfl, by decide +kernel, by decide +kernel⟩
theorem nd_pieces_in : N_pieces_in.Nodup := by decide +kernel
theorem sc_pieces_in : FnScope N_pieces_in ["forest"] (defScope (top 29)) := ⟨rfl, rfl, rfl, by decide +kernel, rfl, by decide +kernel, by decide +kernel⟩
theorem nd_part_in : N_part_in.Nodup := by decide +kernel
theorem sc_part_in : FnScope N_part_in ["forest", "places"] (defScope (top 30)) := ⟨rfl, rfl, rfl, by decide +kernel, rfl, by decide +kernel, by decide +kernel⟩
theorem nd_order_from : N_order_from.Nodup := by decide +kernel
theorem sc_order_from : FnScope N_order_from ["mates", "root"] (defScope (top 31)) := ⟨rfl, rfl, rfl, by decide +kernel, rfl, by decide +kernel, by decide +kernel⟩
theorem nd_table_in : N_table_in.Nodup := by decide +kernel
theorem sc_table_in : FnScope N_table_in ["forest"] (defScope (top 35)) := ⟨rfl, rfl, rfl, by decide +kernel, rfl, by decide +kernel, by decide +kernel⟩
theorem nd_determinant_in : N_determinant_in.Nodup := by decide +kernel
theorem sc_determinant_in : FnScope N_determinant_in ["rows"] (defScope (top 36)) := ⟨rfl, rfl, rfl, by decide +kernel, rfl, by decide +kernel, by decide +kernel⟩
theorem nd_fractions_of : N_fractions_of.Nodup := by decide +kernel
theorem sc_fractions_of : FnScope N_fractions_of ["rows"] (defScope (top 37)) := ⟨rfl, rfl, rfl, by decide +kernel, rfl, by decide +kernel, by decide +kernel⟩
theorem nd_less_by : N_less_by.Nodup := by decide +kernel
theorem sc_less_by : FnScope N_less_by ["row", "share", "other"] (defScope (top 38)) := ⟨rfl, rfl, rfl, by decide +kernel, rfl, by decide +kernel, by decide +kernel⟩
theorem nd_paired : N_paired.Nodup := by decide +kernel
theorem sc_paired : FnScope N_paired ["rows", "one", "other"] (defScope (top 39)) := ⟨rfl, rfl, rfl, by decide +kernel, rfl, by decide +kernel, by decide +kernel⟩
theorem nd_first_told : N_first_told.Nodup := by decide +kernel
theorem sc_first_told : FnScope N_first_told ["rows"] (defScope (top 40)) := ⟨rfl, rfl, rfl, by decide +kernel, rfl, by decide +kernel, by decide +kernel⟩
theorem nd_signs_in : N_signs_in.Nodup := by decide +kernel
theorem sc_signs_in : FnScope N_signs_in ["rows"] (defScope (top 41)) := ⟨rfl, rfl, rfl, by decide +kernel, rfl, by decide +kernel, by decide +kernel⟩
theorem nd_worked_down : N_worked_down.Nodup := by decide +kernel
theorem sc_worked_down : FnScope N_worked_down ["rows", "wide"] (defScope (top 42)) := ⟨rfl, rfl, rfl, by decide +kernel, rfl, by decide +kernel, by decide +kernel⟩
theorem nd_solution_in : N_solution_in.Nodup := by decide +kernel
theorem sc_solution_in : FnScope N_solution_in ["rows", "goal"] (defScope (top 43)) := ⟨rfl, rfl, rfl, by decide +kernel, rfl, by decide +kernel, by decide +kernel⟩
theorem nd_inverse_in : N_inverse_in.Nodup := by decide +kernel
theorem sc_inverse_in : FnScope N_inverse_in ["rows"] (defScope (top 44)) := ⟨rfl, rfl, rfl, by decide +kernel, rfl, by decide +kernel, by decide +kernel⟩
theorem nd_diagonal_in : N_diagonal_in.Nodup := by decide +kernel
theorem sc_diagonal_in : FnScope N_diagonal_in ["forest"] (defScope (top 45)) := ⟨rfl, rfl, rfl, by decide +kernel, rfl, by decide +kernel, by decide +kernel⟩
theorem nd_is_below_in : N_is_below_in.Nodup := by decide +kernel
theorem sc_is_below_in : FnScope N_is_below_in ["forest"] (defScope (top 46)) := ⟨rfl, rfl, rfl, by decide +kernel, rfl, by decide +kernel, by decide +kernel⟩
theorem nd_way_in : N_way_in.Nodup := by decide +kernel
theorem sc_way_in : FnScope N_way_in ["forest", "one", "other"] (defScope (top 47)) := ⟨rfl, rfl, rfl, by decide +kernel, rfl, by decide +kernel, by decide +kernel⟩
theorem nd_sure_row : N_sure_row.Nodup := by decide +kernel
theorem sc_sure_row : FnScope N_sure_row ["forest", "value"] (defScope (top 48)) := ⟨rfl, rfl, rfl, by decide +kernel, rfl, by decide +kernel, by decide +kernel⟩
theorem nd_sure_lot : N_sure_lot.Nodup := by decide +kernel
theorem sc_sure_lot : FnScope N_sure_lot ["forest", "value"] (defScope (top 49)) := ⟨rfl, rfl, rfl, by decide +kernel, rfl, by decide +kernel, by decide +kernel⟩
theorem nd_table_of : N_table_of.Nodup := by decide +kernel
theorem sc_table_of : FnScope N_table_of ["forest"] (defScope (top 50)) := ⟨rfl, rfl, rfl, by decide +kernel, rfl, by decide +kernel, by decide +kernel⟩
theorem nd_determinant : N_determinant.Nodup := by decide +kernel
theorem sc_determinant : FnScope N_determinant ["forest"] (defScope (top 51)) := ⟨rfl, rfl, rfl, by decide +kernel, rfl, by decide +kernel, by decide +kernel⟩
theorem nd_signs : N_signs.Nodup := by decide +kernel
theorem sc_signs : FnScope N_signs ["forest"] (defScope (top 52)) := ⟨rfl, rfl, rfl, by decide +kernel, rfl, by decide +kernel, by decide +kernel⟩
theorem nd_diagonal : N_diagonal.Nodup := by decide +kernel
theorem sc_diagonal : FnScope N_diagonal ["forest"] (defScope (top 53)) := ⟨rfl, rfl, rfl, by decide +kernel, rfl, by decide +kernel, by decide +kernel⟩
theorem nd_is_below : N_is_below.Nodup := by decide +kernel
theorem sc_is_below : FnScope N_is_below ["forest"] (defScope (top 54)) := ⟨rfl, rfl, rfl, by decide +kernel, rfl, by decide +kernel, by decide +kernel⟩
theorem nd_inverse_table : N_inverse_table.Nodup := by decide +kernel
theorem sc_inverse_table : FnScope N_inverse_table ["forest"] (defScope (top 55)) := ⟨rfl, rfl, rfl, by decide +kernel, rfl, by decide +kernel, by decide +kernel⟩
theorem nd_way_between : N_way_between.Nodup := by decide +kernel
theorem sc_way_between : FnScope N_way_between ["forest", "place", "other"] (defScope (top 56)) := ⟨rfl, rfl, rfl, by decide +kernel, rfl, by decide +kernel, by decide +kernel⟩
theorem nd_left_determinant : N_left_determinant.Nodup := by decide +kernel
theorem sc_left_determinant : FnScope N_left_determinant ["forest", "places"] (defScope (top 57)) := ⟨rfl, rfl, rfl, by decide +kernel, rfl, by decide +kernel, by decide +kernel⟩
theorem nd_row_times : N_row_times.Nodup := by decide +kernel
theorem sc_row_times : FnScope N_row_times ["forest", "row"] (defScope (top 58)) := ⟨rfl, rfl, rfl, by decide +kernel, rfl, by decide +kernel, by decide +kernel⟩
theorem nd_row_over : N_row_over.Nodup := by decide +kernel
theorem sc_row_over : FnScope N_row_over ["forest", "row"] (defScope (top 59)) := ⟨rfl, rfl, rfl, by decide +kernel, rfl, by decide +kernel, by decide +kernel⟩
theorem nd__law_box : N__law_box.Nodup := by decide +kernel
theorem sc__law_box : FnScope N__law_box ["script", "k"] (defScope (top 61)) := ⟨rfl, rfl, rfl, by decide +kernel, rfl, by decide +kernel, by decide +kernel⟩
theorem nd__law_take : N__law_take.Nodup := by decide +kernel
theorem sc__law_take : FnScope N__law_take ["tin", "below_so"] (defScope (top 62)) := ⟨rfl, rfl, rfl, by decide +kernel, rfl, by decide +kernel, by decide +kernel⟩
theorem nd__law_cells : N__law_cells.Nodup := by decide +kernel
theorem sc__law_cells : FnScope N__law_cells ["script", "most_so"] (defScope (top 63)) := ⟨rfl, rfl, rfl, by decide +kernel, rfl, by decide +kernel, by decide +kernel⟩
theorem nd__law_pick : N__law_pick.Nodup := by decide +kernel
theorem sc__law_pick : FnScope N__law_pick ["tin", "goods_so", "count_so"] (defScope (top 64)) := ⟨rfl, rfl, rfl, by decide +kernel, rfl, by decide +kernel, by decide +kernel⟩
theorem nd__law_same : N__law_same.Nodup := by decide +kernel
theorem sc__law_same : FnScope N__law_same ["got", "due"] (defScope (top 65)) := ⟨rfl, rfl, rfl, by decide +kernel, rfl, by decide +kernel, by decide +kernel⟩
theorem nd__law_heard : N__law_heard.Nodup := by decide +kernel
theorem sc__law_heard : FnScope N__law_heard ["door", "goods_so"] (defScope (top 66)) := ⟨rfl, rfl, rfl, by decide +kernel, rfl, by decide +kernel, by decide +kernel⟩
theorem nd_law : N_law.Nodup := by decide +kernel
theorem sc_law : FnScope N_law ["script"] (defScope (top 67)) := ⟨rfl, rfl, rfl, by decide +kernel, rfl, by decide +kernel, by decide +kernel⟩
theorem tbl_ok : tblOk L tbl = true := by decide +kernel
section
variable {P : Program} {w : World} {K : PySem.W.Frag} {mg : Str → Option Value} {base : Heap} {wf : Nat}
theorem b_is_number (T : Txt K mg) : BodyOk P w K mg base wf L "is_number" (top 5) ["thing"] ⟨1, 1, ir_is_number⟩ := ⟨N_is_number, sc_is_number, rfl, fun cf k hF f cdv A outer s H E hr => have hu := hr.units
  have hu2 := hu66 hr
  have htb := htb_of hF tbl_ok
  (SSs.cons (SS.ret (SE.and (SE.isi .int rfl T.b_isinstance rfl T.b_int (SE.var 0 rfl (.inl rfl))) (SE.one (SE.notB (SE.isi .bool rfl T.b_isinstance rfl T.b_bool (SE.var 0 rfl (.inl rfl)))))))
  SSs.nil)⟩
theorem b_is_within (T : Txt K mg) : BodyOk P w K mg base wf L "is_within" (top 6) ["thing", "least", "most"] ⟨3, 3, ir_is_within⟩ := ⟨N_is_within, sc_is_within, rfl, fun cf k hF f cdv A outer s H E hr => have hu := hr.units
  have hu2 := hu66 hr
  have htb := htb_of hF tbl_ok
  (SSs.cons (SS.ret (SE.and (SE.call (hF 0 "is_number" ["thing"] rfl) hr rfl (SA.cName (SE.var 0 rfl (.inl rfl)) SA.nil)) (SE.one (SE.chain (SE.var 1 rfl (.inl rfl)) (SE.var 0 rfl (.inl rfl)) (SE.var 2 rfl (.inl rfl))))))
  SSs.nil)⟩
theorem b_is_long (T : Txt K mg) : BodyOk P w K mg base wf L "is_long" (top 7) ["thing", "length"] ⟨2, 2, ir_is_long⟩ := ⟨N_is_long, sc_is_long, rfl, fun cf k hF f cdv A outer s H E hr => have hu := hr.units
  have hu2 := hu66 hr
  have htb := htb_of hF tbl_ok
  (SSs.cons (SS.ret (SE.and (SE.isi .tuple rfl T.b_isinstance rfl T.b_tuple (SE.var 0 rfl (.inl rfl))) (SE.one (SE.cmp (SE.len rfl T.b_len (SE.var 0 rfl (.inl rfl))) (SE.var 1 rfl (.inl rfl))))))
  SSs.nil)⟩
theorem b_are_numbers (T : Txt K mg) : BodyOk P w K mg base wf L "are_numbers" (top 8) ["thing"] ⟨2, 1, ir_are_numbers⟩ := ⟨N_are_numbers, sc_are_numbers, rfl, fun cf k hF f cdv A outer s H E hr => have hu := hr.units
  have hu2 := hu66 hr
  have htb := htb_of hF tbl_ok
  (SSs.cons (SS.ret (SE.and (SE.isi .tuple rfl T.b_isinstance rfl T.b_tuple (SE.var 0 rfl (.inl rfl))) (SE.one (SE.all rfl rfl T.b_all (SE.lc (t := (.one 1)) (own := [("own", 1)]) rfl nd_are_numbers (blk_of rfl) (fun _ _ _ _ _ _ => (pg_name nd_are_numbers (i := 1) rfl (.inl rfl))) rfl (by decide) (SI.any (SE.var 0 rfl (.inl rfl))) rfl (fun _ _ _ _ _ _ => (SE.call (hF 0 "is_number" ["thing"] rfl) hr rfl (SA.cName (SE.var 1 rfl (.inl rfl)) SA.nil))))))))
  SSs.nil)⟩
theorem b_ascends (T : Txt K mg) : BodyOk P w K mg base wf L "ascends" (top 9) ["row"] ⟨3, 1, ir_ascends⟩ := ⟨N_ascends, sc_ascends, rfl, fun cf k hF f cdv A outer s H E hr => have hu := hr.units
  have hu2 := hu66 hr
  have htb := htb_of hF tbl_ok
  (SSs.cons (SS.ret (SE.all rfl rfl T.b_all (SE.lc (t := (.tup [1, 2])) (own := [("one", 1), ("other", 2)]) rfl nd_ascends (blk_of rfl) (fun _ _ _ _ _ _ => pg_tup rfl (pgs_cons (pg_name nd_ascends (i := 1) rfl (.inl rfl)) (pgs_cons (pg_name nd_ascends (i := 2) rfl (.inl rfl)) pgs_nil))) rfl (by decide) (SI.zip rfl T.b_zip (SE.var 0 rfl (.inl rfl)) (SE.sl (SE.var 0 rfl (.inl rfl)) (SO.some SE.int) SO.none)) rfl (fun _ _ _ _ _ _ => (SE.ltX hu (SE.var 1 rfl (.inl rfl)) (SE.var 2 rfl (.inl rfl)))))))
  SSs.nil)⟩
theorem b_tupled (T : Txt K mg) : BodyOk P w K mg base wf L "tupled" (top 10) ["value"] ⟨2, 1, ir_tupled⟩ := ⟨N_tupled, sc_tupled, rfl, fun cf k hF f cdv A outer s H E hr => have hu := hr.units
  have hu2 := hu66 hr
  have htb := htb_of hF tbl_ok
  (SSs.cons (SS.ret (SE.ite (ST.val (SE.isi2 .list .tuple rfl T.b_isinstance rfl T.b_list rfl T.b_tuple (SE.var 0 rfl (.inl rfl)))) (SE.tuple rfl T.b_tuple (SE.lc (t := (.one 1)) (own := [("own", 1)]) rfl nd_tupled (blk_of rfl) (fun _ _ _ _ _ _ => (pg_name nd_tupled (i := 1) rfl (.inl rfl))) rfl (by decide) (SI.any (SE.var 0 rfl (.inl rfl))) rfl (fun _ _ _ _ _ _ => (SE.call (hF 5 "tupled" ["value"] rfl) hr rfl (SA.cName (SE.var 1 rfl (.inl rfl)) SA.nil))))) (SE.var 0 rfl (.inl rfl))))
  SSs.nil)⟩
theorem b_sure_within (T : Txt K mg) : BodyOk P w K mg base wf L "sure_within" (top 11) ["thing", "least", "most"] ⟨3, 3, ir_sure_within⟩ := ⟨N_sure_within, sc_sure_within, rfl, fun cf k hF f cdv A outer s H E hr => have hu := hr.units
  have hu2 := hu66 hr
  have htb := htb_of hF tbl_ok
  (SSs.cons (SS.iff (ST.notB (ST.val (SE.call (hF 1 "is_within" ["thing", "least", "most"] rfl) hr rfl (SA.cName (SE.var 0 rfl (.inl rfl)) (SA.cName (SE.var 1 rfl (.inl rfl)) (SA.cName (SE.var 2 rfl (.inl rfl)) SA.nil)))))) (SSs.cons (SS.raise T.x_Unfit ⟨rfl, rfl⟩ rfl rfl)
  SSs.nil) SSs.nil)
  (SSs.cons (SS.ret (SE.var 0 rfl (.inl rfl)))
  SSs.nil))⟩
theorem b_sure_number (T : Txt K mg) : BodyOk P w K mg base wf L "sure_number" (top 12) ["thing"] ⟨1, 1, ir_sure_number⟩ := ⟨N_sure_number, sc_sure_number, rfl, fun cf k hF f cdv A outer s H E hr => have hu := hr.units
  have hu2 := hu66 hr
  have htb := htb_of hF tbl_ok
  (SSs.cons (SS.ret (SE.call (hF 6 "sure_within" ["thing", "least", "most"] rfl) hr rfl (SA.cName (SE.var 0 rfl (.inl rfl)) (SA.cUnaryOp (SE.neg (SE.cst rfl T.c_MOST)) (SA.cName (SE.cst rfl T.c_MOST) SA.nil)))))
  SSs.nil)⟩
theorem b_common (T : Txt K mg) : BodyOk P w K mg base wf L "common" (top 13) ["one", "other"] ⟨2, 2, ir_common⟩ := ⟨N_common, sc_common, rfl, fun cf k hF f cdv A outer s H E hr => have hu := hr.units
  have hu2 := hu66 hr
  have htb := htb_of hF tbl_ok
  (SSs.cons (SS.par2 0 1 rfl nd_common rfl rfl (by decide) rfl rfl (SE.abs rfl T.b_abs (SE.var 0 rfl (.inl rfl))) (SE.abs rfl T.b_abs (SE.var 1 rfl (.inl rfl))))
  (SSs.cons (SS.whil (passes_of rfl) (ST.cmp (SE.var 1 rfl (.inl rfl)) SE.int) (SSs.cons (SS.par2 0 1 rfl nd_common rfl rfl (by decide) rfl rfl (SE.var 1 rfl (.inl rfl)) (SE.bin (SE.var 0 rfl (.inl rfl)) (SE.var 1 rfl (.inl rfl))))
  SSs.nil))
  (SSs.cons (SS.ret (SE.var 0 rfl (.inl rfl)))
  SSs.nil)))⟩
theorem b_cut_down (T : Txt K mg) : BodyOk P w K mg base wf L "cut_down" (top 14) ["over_it", "under"] ⟨3, 2, ir_cut_down⟩ := ⟨N_cut_down, sc_cut_down, rfl, fun cf k hF f cdv A outer s H E hr => have hu := hr.units
  have hu2 := hu66 hr
  have htb := htb_of hF tbl_ok
  (SSs.cons (SS.set 2 nd_cut_down rfl (.inl rfl) (SE.call (hF 8 "common" ["one", "other"] rfl) hr rfl (SA.cName (SE.var 0 rfl (.inl rfl)) (SA.cName (SE.var 1 rfl (.inl rfl)) SA.nil))))
  (SSs.cons (SS.set 2 nd_cut_down rfl (.inl rfl) (SE.ite (ST.cmp (SE.var 1 rfl (.inl rfl)) SE.int) (SE.var 2 rfl (.inl rfl)) (SE.neg (SE.var 2 rfl (.inl rfl)))))
  (SSs.cons (SS.ret (SE.tup (SA.cBinOp (SE.bin (SE.var 0 rfl (.inl rfl)) (SE.var 2 rfl (.inl rfl))) (SA.cBinOp (SE.bin (SE.var 1 rfl (.inl rfl)) (SE.var 2 rfl (.inl rfl))) SA.nil))))
  SSs.nil)))⟩
theorem b_whole (T : Txt K mg) : BodyOk P w K mg base wf L "whole" (top 15) ["number"] ⟨1, 1, ir_whole⟩ := ⟨N_whole, sc_whole, rfl, fun cf k hF f cdv A outer s H E hr => have hu := hr.units
  have hu2 := hu66 hr
  have htb := htb_of hF tbl_ok
  (SSs.cons (SS.ret (SE.tup (SA.cName (SE.var 0 rfl (.inl rfl)) (SA.cConstant SE.int SA.nil))))
  SSs.nil)⟩
theorem b_added (T : Txt K mg) : BodyOk P w K mg base wf L "added" (top 16) ["one", "other"] ⟨2, 2, ir_added⟩ := ⟨N_added, sc_added, rfl, fun cf k hF f cdv A outer s H E hr => have hu := hr.units
  have hu2 := hu66 hr
  have htb := htb_of hF tbl_ok
  (SSs.cons (SS.ret (SE.call (hF 9 "cut_down" ["over_it", "under"] rfl) hr rfl (SA.cBinOp (SE.bin (SE.bin (SE.ix (SE.var 0 rfl (.inl rfl)) SE.int) (SE.ix (SE.var 1 rfl (.inl rfl)) SE.int)) (SE.bin (SE.ix (SE.var 1 rfl (.inl rfl)) SE.int) (SE.ix (SE.var 0 rfl (.inl rfl)) SE.int))) (SA.cBinOp (SE.bin (SE.ix (SE.var 0 rfl (.inl rfl)) SE.int) (SE.ix (SE.var 1 rfl (.inl rfl)) SE.int)) SA.nil))))
  SSs.nil)⟩
theorem b_taken (T : Txt K mg) : BodyOk P w K mg base wf L "taken" (top 17) ["one", "other"] ⟨2, 2, ir_taken⟩ := ⟨N_taken, sc_taken, rfl, fun cf k hF f cdv A outer s H E hr => have hu := hr.units
  have hu2 := hu66 hr
  have htb := htb_of hF tbl_ok
  (SSs.cons (SS.ret (SE.call (hF 9 "cut_down" ["over_it", "under"] rfl) hr rfl (SA.cBinOp (SE.bin (SE.bin (SE.ix (SE.var 0 rfl (.inl rfl)) SE.int) (SE.ix (SE.var 1 rfl (.inl rfl)) SE.int)) (SE.bin (SE.ix (SE.var 1 rfl (.inl rfl)) SE.int) (SE.ix (SE.var 0 rfl (.inl rfl)) SE.int))) (SA.cBinOp (SE.bin (SE.ix (SE.var 0 rfl (.inl rfl)) SE.int) (SE.ix (SE.var 1 rfl (.inl rfl)) SE.int)) SA.nil))))
  SSs.nil)⟩
theorem b_times (T : Txt K mg) : BodyOk P w K mg base wf L "times" (top 18) ["one", "other"] ⟨2, 2, ir_times⟩ := ⟨N_times, sc_times, rfl, fun cf k hF f cdv A outer s H E hr => have hu := hr.units
  have hu2 := hu66 hr
  have htb := htb_of hF tbl_ok
  (SSs.cons (SS.ret (SE.call (hF 9 "cut_down" ["over_it", "under"] rfl) hr rfl (SA.cBinOp (SE.bin (SE.ix (SE.var 0 rfl (.inl rfl)) SE.int) (SE.ix (SE.var 1 rfl (.inl rfl)) SE.int)) (SA.cBinOp (SE.bin (SE.ix (SE.var 0 rfl (.inl rfl)) SE.int) (SE.ix (SE.var 1 rfl (.inl rfl)) SE.int)) SA.nil))))
  SSs.nil)⟩
theorem b_over (T : Txt K mg) : BodyOk P w K mg base wf L "over" (top 19) ["one", "other"] ⟨2, 2, ir_over⟩ := ⟨N_over, sc_over, rfl, fun cf k hF f cdv A outer s H E hr => have hu := hr.units
  have hu2 := hu66 hr
  have htb := htb_of hF tbl_ok
  (SSs.cons (SS.ret (SE.call (hF 9 "cut_down" ["over_it", "under"] rfl) hr rfl (SA.cBinOp (SE.bin (SE.ix (SE.var 0 rfl (.inl rfl)) SE.int) (SE.ix (SE.var 1 rfl (.inl rfl)) SE.int)) (SA.cBinOp (SE.bin (SE.ix (SE.var 0 rfl (.inl rfl)) SE.int) (SE.ix (SE.var 1 rfl (.inl rfl)) SE.int)) SA.nil))))
  SSs.nil)⟩
theorem b_is_edge_of (T : Txt K mg) : BodyOk P w K mg base wf L "is_edge_of" (top 23) ["thing", "many"] ⟨2, 2, ir_is_edge_of⟩ := ⟨N_is_edge_of, sc_is_edge_of, rfl, fun cf k hF f cdv A outer s H E hr => have hu := hr.units
  have hu2 := hu66 hr
  have htb := htb_of hF tbl_ok
  (SSs.cons (SS.ret (SE.and (SE.call (hF 2 "is_long" ["thing", "length"] rfl) hr rfl (SA.cName (SE.var 0 rfl (.inl rfl)) (SA.cConstant SE.int SA.nil))) (SE.and (SE.call (hF 3 "are_numbers" ["thing"] rfl) hr rfl (SA.cName (SE.var 0 rfl (.inl rfl)) SA.nil)) (SE.one (SE.chain3 SE.int (SE.ix (SE.var 0 rfl (.inl rfl)) SE.int) (SE.ix (SE.var 0 rfl (.inl rfl)) SE.int) (SE.var 1 rfl (.inl rfl)))))))
  SSs.nil)⟩
theorem b_has_ring (T : Txt K mg) : BodyOk P w K mg base wf L "has_ring" (top 24) ["many", "edges"] ⟨8, 2, ir_has_ring⟩ := ⟨N_has_ring, sc_has_ring, rfl, fun cf k hF f cdv A outer s H E hr => have hu := hr.units
  have hu2 := hu66 hr
  have htb := htb_of hF tbl_ok
  (SSs.cons (SS.set 2 nd_has_ring rfl (.inl rfl) (SE.listR rfl rfl T.b_list rfl T.b_range (SE.var 0 rfl (.inl rfl))))
  (SSs.cons (SS.forr (passes_of rfl) rfl (SI.any (SE.var 1 rfl (.inl rfl))) (SG.tup rfl (SGs.cons (SG.name 3 nd_has_ring rfl (.inl rfl)) (SGs.cons (SG.name 4 nd_has_ring rfl (.inl rfl)) SGs.nil))) (SSs.cons (SS.asg (SE.tup (SA.cSubscript (SE.ix (SE.var 2 rfl (.inl rfl)) (SE.var 3 rfl (.inl rfl))) (SA.cSubscript (SE.ix (SE.var 2 rfl (.inl rfl)) (SE.var 4 rfl (.inl rfl))) SA.nil))) (SG.tup rfl (SGs.cons (SG.name 5 nd_has_ring rfl (.inr rfl)) (SGs.cons (SG.name 6 nd_has_ring rfl (.inr rfl)) SGs.nil))))
  (SSs.cons (SS.iff (ST.eqv hu (SE.var 5 rfl (.inr (.inl rfl))) (SE.var 6 rfl (.inr (.inl rfl)))) (SSs.cons (SS.ret SE.bl)
  SSs.nil) SSs.nil)
  (SSs.cons (by first | exact SS.setLc 2 (.one 7) (own := [("own", 7)]) rfl nd_has_ring rfl rfl (blk_of rfl) (fun _ _ _ _ _ _ => (pg_name nd_has_ring (i := 7) rfl (.inl rfl))) rfl (by decide) (SI.any (SE.var 2 rfl (.inl rfl))) rfl (fun _ _ _ _ _ _ => (SE.ite (ST.eqv hu (SE.var 7 rfl (.inl rfl)) (SE.var 6 rfl (.inr (.inl rfl)))) (SE.var 5 rfl (.inr (.inl rfl))) (SE.var 7 rfl (.inl rfl)))) | exact SS.set 2 nd_has_ring rfl (.inl rfl) (SE.lc (t := (.one 7)) (own := [("own", 7)]) rfl nd_has_ring (blk_of rfl) (fun _ _ _ _ _ _ => (pg_name nd_has_ring (i := 7) rfl (.inl rfl))) rfl (by decide) (SI.any (SE.var 2 rfl (.inl rfl))) rfl (fun _ _ _ _ _ _ => (SE.ite (ST.eqv hu (SE.var 7 rfl (.inl rfl)) (SE.var 6 rfl (.inr (.inl rfl)))) (SE.var 5 rfl (.inr (.inl rfl))) (SE.var 7 rfl (.inl rfl))))))
  SSs.nil))))
  (SSs.cons (SS.ret SE.bl)
  SSs.nil)))⟩
theorem b_is_forest_in (T : Txt K mg) : BodyOk P w K mg base wf L "is_forest_in" (top 25) ["thing"] ⟨3, 1, ir_is_forest_in⟩ := ⟨N_is_forest_in, sc_is_forest_in, rfl, fun cf k hF f cdv A outer s H E hr => have hu := hr.units
  have hu2 := hu66 hr
  have htb := htb_of hF tbl_ok
  (SSs.cons (SS.iff (ST.sw (SW.or (ST.notB (ST.val (SE.call (hF 2 "is_long" ["thing", "length"] rfl) hr rfl (SA.cName (SE.var 0 rfl (.inl rfl)) (SA.cConstant SE.int SA.nil))))) (SW.or (ST.notB (ST.val (SE.call (hF 3 "are_numbers" ["thing"] rfl) hr rfl (SA.cSubscript (SE.ix (SE.var 0 rfl (.inl rfl)) SE.int) SA.nil)))) (SW.or1 (ST.notB (ST.val (SE.isi .tuple rfl T.b_isinstance rfl T.b_tuple (SE.ix (SE.var 0 rfl (.inl rfl)) SE.int)))))))) (SSs.cons (SS.ret SE.bl)
  SSs.nil) SSs.nil)
  (SSs.cons (SS.set 1 nd_is_forest_in rfl (.inr rfl) (SE.len rfl T.b_len (SE.ix (SE.var 0 rfl (.inl rfl)) SE.int)))
  (SSs.cons (SS.iff (ST.sw (SW.or (ST.notB (ST.val (SE.all rfl rfl T.b_all (SE.lc (t := (.one 2)) (own := [("own", 2)]) rfl nd_is_forest_in (blk_of rfl) (fun _ _ _ _ _ _ => (pg_name nd_is_forest_in (i := 2) rfl (.inl rfl))) rfl (by decide) (SI.any (SE.ix (SE.var 0 rfl (.inl rfl)) SE.int)) rfl (fun _ _ _ _ _ _ => (SE.call (hF 15 "is_edge_of" ["thing", "many"] rfl) hr rfl (SA.cName (SE.var 2 rfl (.inl rfl)) (SA.cName (SE.var 1 rfl (.inr (.inl rfl))) SA.nil)))))))) (SW.or1 (ST.notB (ST.val (SE.call (hF 4 "ascends" ["row"] rfl) hr rfl (SA.cSubscript (SE.ix (SE.var 0 rfl (.inl rfl)) SE.int) SA.nil))))))) (SSs.cons (SS.ret SE.bl)
  SSs.nil) SSs.nil)
  (SSs.cons (SS.ret (SE.notB (SE.call (hF 16 "has_ring" ["many", "edges"] rfl) hr rfl (SA.cName (SE.var 1 rfl (.inr (.inl rfl))) (SA.cSubscript (SE.ix (SE.var 0 rfl (.inl rfl)) SE.int) SA.nil)))))
  SSs.nil))))⟩
theorem b_sure_forest (T : Txt K mg) : BodyOk P w K mg base wf L "sure_forest" (top 26) ["value"] ⟨3, 1, ir_sure_forest⟩ := ⟨N_sure_forest, sc_sure_forest, rfl, fun cf k hF f cdv A outer s H E hr => have hu := hr.units
  have hu2 := hu66 hr
  have htb := htb_of hF tbl_ok
  (SSs.cons (SS.set 1 nd_sure_forest rfl (.inl rfl) (SE.call (hF 5 "tupled" ["value"] rfl) hr rfl (SA.cName (SE.var 0 rfl (.inl rfl)) SA.nil)))
  (SSs.cons (SS.iff (ST.sw (SW.or (ST.notB (ST.val (SE.call (hF 17 "is_forest_in" ["thing"] rfl) hr rfl (SA.cName (SE.var 1 rfl (.inl rfl)) SA.nil)))) (SW.or (ST.cmp (SE.len rfl T.b_len (SE.ix (SE.var 1 rfl (.inl rfl)) SE.int)) (SE.cst rfl T.c_MOST_PLACES)) (SW.or1 (ST.val (SE.any rfl rfl T.b_any (SE.lc (t := (.one 2)) (own := [("its", 2)]) rfl nd_sure_forest (blk_of rfl) (fun _ _ _ _ _ _ => (pg_name nd_sure_forest (i := 2) rfl (.inl rfl))) rfl (by decide) (SI.any (SE.ix (SE.var 1 rfl (.inl rfl)) SE.int)) rfl (fun _ _ _ _ _ _ => (SE.cmp (SE.abs rfl T.b_abs (SE.var 2 rfl (.inl rfl))) (SE.cst rfl T.c_MOST_WEIGHT)))))))))) (SSs.cons (SS.raise T.x_Unfit ⟨rfl, rfl⟩ rfl rfl)
  SSs.nil) SSs.nil)
  (SSs.cons (SS.ret (SE.var 1 rfl (.inl rfl)))
  SSs.nil)))⟩
theorem b_sure_place (T : Txt K mg) : BodyOk P w K mg base wf L "sure_place" (top 27) ["forest", "value"] ⟨2, 2, ir_sure_place⟩ := ⟨N_sure_place, sc_sure_place, rfl, fun cf k hF f cdv A outer s H E hr => have hu := hr.units
  have hu2 := hu66 hr
  have htb := htb_of hF tbl_ok
  (SSs.cons (SS.iff (ST.sw (SW.or (ST.notB (ST.val (SE.call (hF 0 "is_number" ["thing"] rfl) hr rfl (SA.cName (SE.var 1 rfl (.inl rfl)) SA.nil)))) (SW.or1 (ST.notB (ST.chain SE.int (SE.var 1 rfl (.inl rfl)) (SE.len rfl T.b_len (SE.ix (SE.var 0 rfl (.inl rfl)) SE.int))))))) (SSs.cons (SS.raise T.x_Unfit ⟨rfl, rfl⟩ rfl rfl)
  SSs.nil) SSs.nil)
  (SSs.cons (SS.ret (SE.var 1 rfl (.inl rfl)))
  SSs.nil))⟩
theorem b_neighbours_in (T : Txt K mg) : BodyOk P w K mg base wf L "neighbours_in" (top 28) ["forest"] ⟨5, 1, ir_neighbours_in⟩ := ⟨N_neighbours_in, sc_neighbours_in, rfl, fun cf k hF f cdv A outer s H E hr => have hu := hr.units
  have hu2 := hu66 hr
  have htb := htb_of hF tbl_ok
  (SSs.cons (by first | exact SS.setLc 1 (.one 4) (own := [("own", 4)]) rfl nd_neighbours_in rfl rfl (blk_of rfl) (fun _ _ _ _ _ _ => (pg_name nd_neighbours_in (i := 4) rfl (.inl rfl))) rfl (by decide) (SI.any (SE.ix (SE.var 0 rfl (.inl rfl)) SE.int)) rfl (fun _ _ _ _ _ _ => (SE.lstC SA.nil)) | exact SS.set 1 nd_neighbours_in rfl (.inl rfl) (SE.lc (t := (.one 4)) (own := [("own", 4)]) rfl nd_neighbours_in (blk_of rfl) (fun _ _ _ _ _ _ => (pg_name nd_neighbours_in (i := 4) rfl (.inl rfl))) rfl (by decide) (SI.any (SE.ix (SE.var 0 rfl (.inl rfl)) SE.int)) rfl (fun _ _ _ _ _ _ => (SE.lstC SA.nil))))
  (SSs.cons (SS.forr (passes_of rfl) rfl (SI.any (SE.ix (SE.var 0 rfl (.inl rfl)) SE.int)) (SG.tup rfl (SGs.cons (SG.name 2 nd_neighbours_in rfl (.inl rfl)) (SGs.cons (SG.name 3 nd_neighbours_in rfl (.inl rfl)) SGs.nil))) (SSs.cons (SS.expr (SE.append (SE.ix (SE.var 1 rfl (.inl rfl)) (SE.var 2 rfl (.inl rfl))) (SE.var 3 rfl (.inl rfl))))
  (SSs.cons (SS.expr (SE.append (SE.ix (SE.var 1 rfl (.inl rfl)) (SE.var 3 rfl (.inl rfl))) (SE.var 2 rfl (.inl rfl))))
  SSs.nil)))
  (SSs.cons (SS.ret (SE.lcC (t := (.one 4)) (own := [("own", 4)]) rfl nd_neighbours_in (blk_of rfl) (fun _ _ _ _ _ _ => (pg_name nd_neighbours_in (i := 4) rfl (.inl rfl))) rfl (by decide) (SI.any (SE.var 1 rfl (.inl rfl))) rfl (fun _ _ _ _ _ _ => (SE.srt hu2 rfl T.b_sorted (SE.var 4 rfl (.inl rfl))))))
  SSs.nil)))⟩
theorem b_pieces_in (T : Txt K mg) : BodyOk P w K mg base wf L "pieces_in" (top 29) ["forest"] ⟨8, 1, ir_pieces_in⟩ := ⟨N_pieces_in, sc_pieces_in, rfl, fun cf k hF f cdv A outer s H E hr => have hu := hr.units
  have hu2 := hu66 hr
  have htb := htb_of hF tbl_ok
  (SSs.cons (SS.par3 1 2 3 rfl nd_pieces_in rfl rfl rfl (by decide) (by decide) (by decide) rfl rfl rfl (SE.call (hF 20 "neighbours_in" ["forest"] rfl) hr rfl (SA.cName (SE.var 0 rfl (.inl rfl)) SA.nil)) (SE.repC (SE.lst (SA.cConstant SE.bl SA.nil)) (SE.len rfl T.b_len (SE.ix (SE.var 0 rfl (.inl rfl)) SE.int))) (SE.lstC SA.nil))
  (SSs.cons (SS.forr (passes_of rfl) rfl (SI.rng1 rfl T.b_range (SE.len rfl T.b_len (SE.ix (SE.var 0 rfl (.inl rfl)) SE.int))) (SG.name 4 nd_pieces_in rfl (.inl rfl)) (SSs.cons (SS.iff (ST.notB (ST.val (SE.ix (SE.var 2 rfl (.inl rfl)) (SE.var 4 rfl (.inl rfl))))) (SSs.cons SS.cnt
  SSs.nil) SSs.nil)
  (SSs.cons (SS.asg (SE.tup (SA.cConstant SE.bl (SA.cList (SE.lstC (SA.cName (SE.var 4 rfl (.inl rfl)) SA.nil)) (SA.cConstant SE.int SA.nil)))) (SG.tup rfl (SGs.cons (SG.sub (SE.var 2 rfl (.inl rfl)) (SE.var 4 rfl (.inl rfl))) (SGs.cons (SG.name 5 nd_pieces_in rfl (.inl rfl)) (SGs.cons (SG.name 6 nd_pieces_in rfl (.inl rfl)) SGs.nil)))))
  (SSs.cons (SS.whil (passes_of rfl) (ST.cmp (SE.var 6 rfl (.inl rfl)) (SE.len rfl T.b_len (SE.var 5 rfl (.inl rfl)))) (SSs.cons (SS.forr (passes_of rfl) rfl (SI.any (SE.ix (SE.var 1 rfl (.inl rfl)) (SE.ix (SE.var 5 rfl (.inl rfl)) (SE.var 6 rfl (.inl rfl))))) (SG.name 7 nd_pieces_in rfl (.inl rfl)) (SSs.cons (SS.iff (ST.val (SE.ix (SE.var 2 rfl (.inl rfl)) (SE.var 7 rfl (.inl rfl)))) (SSs.cons (SS.asg SE.bl (SG.sub (SE.var 2 rfl (.inl rfl)) (SE.var 7 rfl (.inl rfl))))
  (SSs.cons (SS.expr (SE.append (SE.var 5 rfl (.inl rfl)) (SE.var 7 rfl (.inl rfl))))
  SSs.nil)) SSs.nil)
  SSs.nil))
  (SSs.cons (SS.add 6 nd_pieces_in rfl (.inl rfl) SE.int)
  SSs.nil)))
  (SSs.cons (SS.expr (SE.append (SE.var 3 rfl (.inl rfl)) (SE.srt hu2 rfl T.b_sorted (SE.var 5 rfl (.inl rfl)))))
  SSs.nil)))))
  (SSs.cons (SS.ret (SE.var 3 rfl (.inl rfl)))
  SSs.nil)))⟩
theorem b_part_in (T : Txt K mg) : BodyOk P w K mg base wf L "part_in" (top 30) ["forest", "places"] ⟨8, 2, ir_part_in⟩ := ⟨N_part_in, sc_part_in, rfl, fun cf k hF f cdv A outer s H E hr => have hu := hr.units
  have hu2 := hu66 hr
  have htb := htb_of hF tbl_ok
  (SSs.cons (by first | exact SS.setDc 2 (tt := (.tup [4, 5])) (own := [("number", 4), ("own", 5)]) rfl nd_part_in rfl rfl (blk_of rfl) (fun _ _ _ _ _ _ => pg_tup rfl (pgs_cons (pg_name nd_part_in (i := 4) rfl (.inl rfl)) (pgs_cons (pg_name nd_part_in (i := 5) rfl (.inl rfl)) pgs_nil))) rfl (by decide) (SI.enum rfl T.b_enumerate (SE.var 1 rfl (.inl rfl))) rfl (fun _ _ _ _ _ _ => (SE.var 5 rfl (.inl rfl))) (fun _ _ _ _ _ _ => (SE.var 4 rfl (.inl rfl))) | exact SS.set 2 nd_part_in rfl (.inr rfl) (SE.dc (t := (.tup [4, 5])) (own := [("number", 4), ("own", 5)]) rfl nd_part_in (blk_of rfl) (fun _ _ _ _ _ _ => pg_tup rfl (pgs_cons (pg_name nd_part_in (i := 4) rfl (.inl rfl)) (pgs_cons (pg_name nd_part_in (i := 5) rfl (.inl rfl)) pgs_nil))) rfl (by decide) (SI.enum rfl T.b_enumerate (SE.var 1 rfl (.inl rfl))) rfl (fun _ _ _ _ _ _ => (SE.var 5 rfl (.inl rfl))) (fun _ _ _ _ _ _ => (SE.var 4 rfl (.inl rfl)))))
  (SSs.cons (by first | exact SS.setLc 3 (.tup [6, 7]) (own := [("one", 6), ("other", 7)]) rfl nd_part_in rfl rfl (blk_of rfl) (fun _ _ _ _ _ _ => pg_tup rfl (pgs_cons (pg_name nd_part_in (i := 6) rfl (.inl rfl)) (pgs_cons (pg_name nd_part_in (i := 7) rfl (.inl rfl)) pgs_nil))) rfl (by decide) (SI.any (SE.ix (SE.var 0 rfl (.inr (.inl rfl))) SE.int)) (fun _ _ _ _ _ _ => (ST.sw (SW.and (ST.of1 (SE.din hu (SE.var 6 rfl (.inl rfl)) (SE.var 2 rfl (.inr (.inl rfl))))) (SW.and1 (ST.of1 (SE.din hu (SE.var 7 rfl (.inl rfl)) (SE.var 2 rfl (.inr (.inl rfl))))))))) (fun _ _ _ _ _ _ => (SE.tup (SA.cSubscript (SE.dget hu (SE.var 2 rfl (.inr (.inl rfl))) (SE.var 6 rfl (.inl rfl))) (SA.cSubscript (SE.dget hu (SE.var 2 rfl (.inr (.inl rfl))) (SE.var 7 rfl (.inl rfl))) SA.nil)))) | exact SS.set 3 nd_part_in rfl (.inl rfl) (SE.lc (t := (.tup [6, 7])) (own := [("one", 6), ("other", 7)]) rfl nd_part_in (blk_of rfl) (fun _ _ _ _ _ _ => pg_tup rfl (pgs_cons (pg_name nd_part_in (i := 6) rfl (.inl rfl)) (pgs_cons (pg_name nd_part_in (i := 7) rfl (.inl rfl)) pgs_nil))) rfl (by decide) (SI.any (SE.ix (SE.var 0 rfl (.inr (.inl rfl))) SE.int)) (fun _ _ _ _ _ _ => (ST.sw (SW.and (ST.of1 (SE.din hu (SE.var 6 rfl (.inl rfl)) (SE.var 2 rfl (.inr (.inl rfl))))) (SW.and1 (ST.of1 (SE.din hu (SE.var 7 rfl (.inl rfl)) (SE.var 2 rfl (.inr (.inl rfl))))))))) (fun _ _ _ _ _ _ => (SE.tup (SA.cSubscript (SE.dget hu (SE.var 2 rfl (.inr (.inl rfl))) (SE.var 6 rfl (.inl rfl))) (SA.cSubscript (SE.dget hu (SE.var 2 rfl (.inr (.inl rfl))) (SE.var 7 rfl (.inl rfl))) SA.nil))))))
  (SSs.cons (SS.ret (SE.tup (SA.cCall (SE.tuple rfl T.b_tuple (SE.lc (t := (.one 5)) (own := [("own", 5)]) rfl nd_part_in (blk_of rfl) (fun _ _ _ _ _ _ => (pg_name nd_part_in (i := 5) rfl (.inl rfl))) rfl (by decide) (SI.any (SE.var 1 rfl (.inl rfl))) rfl (fun _ _ _ _ _ _ => (SE.ix (SE.ix (SE.var 0 rfl (.inr (.inl rfl))) SE.int) (SE.var 5 rfl (.inl rfl)))))) (SA.cCall (SE.tuple rfl T.b_tuple (SE.srt hu2 rfl T.b_sorted (SE.var 3 rfl (.inl rfl)))) SA.nil))))
  SSs.nil)))⟩
theorem b_order_from (T : Txt K mg) : BodyOk P w K mg base wf L "order_from" (top 31) ["mates", "root"] ⟨6, 2, ir_order_from⟩ := ⟨N_order_from, sc_order_from, rfl, fun cf k hF f cdv A outer s H E hr => have hu := hr.units
  have hu2 := hu66 hr
  have htb := htb_of hF tbl_ok
  (SSs.cons (SS.par3 2 3 4 rfl nd_order_from rfl rfl rfl (by decide) (by decide) (by decide) rfl rfl rfl (SE.lstC (SA.cName (SE.var 1 rfl (.inl rfl)) SA.nil)) (SE.dict1 (SE.var 1 rfl (.inl rfl)) SE.non) SE.int)
  (SSs.cons (SS.whil (passes_of rfl) (ST.cmp (SE.var 4 rfl (.inl rfl)) (SE.len rfl T.b_len (SE.var 2 rfl (.inl rfl)))) (SSs.cons (SS.forr (passes_of rfl) rfl (SI.any (SE.ix (SE.var 0 rfl (.inl rfl)) (SE.ix (SE.var 2 rfl (.inl rfl)) (SE.var 4 rfl (.inl rfl))))) (SG.name 5 nd_order_from rfl (.inl rfl)) (SSs.cons (SS.iff (ST.neqv hu (SE.var 5 rfl (.inl rfl)) (SE.dget hu (SE.var 3 rfl (.inl rfl)) (SE.ix (SE.var 2 rfl (.inl rfl)) (SE.var 4 rfl (.inl rfl))))) (SSs.cons (SS.dput hu (SE.var 3 rfl (.inl rfl)) (SE.var 5 rfl (.inl rfl)) (SE.ix (SE.var 2 rfl (.inl rfl)) (SE.var 4 rfl (.inl rfl))))
  (SSs.cons (SS.expr (SE.append (SE.var 2 rfl (.inl rfl)) (SE.var 5 rfl (.inl rfl))))
  SSs.nil)) SSs.nil)
  SSs.nil))
  (SSs.cons (SS.add 4 nd_order_from rfl (.inl rfl) SE.int)
  SSs.nil)))
  (SSs.cons (SS.ret (SE.tup (SA.cName (SE.var 2 rfl (.inl rfl)) (SA.cName (SE.var 3 rfl (.inl rfl)) SA.nil))))
  SSs.nil)))⟩
theorem b_table_in (T : Txt K mg) : BodyOk P w K mg base wf L "table_in" (top 35) ["forest"] ⟨8, 1, ir_table_in⟩ := ⟨N_table_in, sc_table_in, rfl, fun cf k hF f cdv A outer s H E hr => have hu := hr.units
  have hu2 := hu66 hr
  have htb := htb_of hF tbl_ok
  (SSs.cons (by first | exact SS.setLc 1 (.one 6) (own := [("own", 6)]) rfl nd_table_in rfl rfl (blk_of rfl) (fun _ _ _ _ _ _ => (pg_name nd_table_in (i := 6) rfl (.inl rfl))) rfl (by decide) (SI.any (SE.ix (SE.var 0 rfl (.inr (.inl rfl))) SE.int)) rfl (fun _ _ _ _ _ _ => (SE.repC (SE.lst (SA.cConstant SE.int SA.nil)) (SE.len rfl T.b_len (SE.ix (SE.var 0 rfl (.inr (.inl rfl))) SE.int)))) | exact SS.set 1 nd_table_in rfl (.inl rfl) (SE.lc (t := (.one 6)) (own := [("own", 6)]) rfl nd_table_in (blk_of rfl) (fun _ _ _ _ _ _ => (pg_name nd_table_in (i := 6) rfl (.inl rfl))) rfl (by decide) (SI.any (SE.ix (SE.var 0 rfl (.inr (.inl rfl))) SE.int)) rfl (fun _ _ _ _ _ _ => (SE.repC (SE.lst (SA.cConstant SE.int SA.nil)) (SE.len rfl T.b_len (SE.ix (SE.var 0 rfl (.inr (.inl rfl))) SE.int))))))
  (SSs.cons (SS.forr (passes_of rfl) rfl (SI.enum rfl T.b_enumerate (SE.ix (SE.var 0 rfl (.inr (.inl rfl))) SE.int)) (SG.tup rfl (SGs.cons (SG.name 2 nd_table_in rfl (.inl rfl)) (SGs.cons (SG.name 3 nd_table_in rfl (.inl rfl)) SGs.nil))) (SSs.cons (SS.asg (SE.var 3 rfl (.inl rfl)) (SG.sub (SE.ix (SE.var 1 rfl (.inl rfl)) (SE.var 2 rfl (.inl rfl))) (SE.var 2 rfl (.inl rfl))))
  SSs.nil))
  (SSs.cons (SS.forr (passes_of rfl) rfl (SI.any (SE.ix (SE.var 0 rfl (.inr (.inl rfl))) SE.int)) (SG.tup rfl (SGs.cons (SG.name 4 nd_table_in rfl (.inl rfl)) (SGs.cons (SG.name 5 nd_table_in rfl (.inl rfl)) SGs.nil))) (SSs.cons (SS.asg2 SE.int (SG.sub (SE.ix (SE.var 1 rfl (.inl rfl)) (SE.var 4 rfl (.inl rfl))) (SE.var 5 rfl (.inl rfl))) (SG.sub (SE.ix (SE.var 1 rfl (.inl rfl)) (SE.var 5 rfl (.inl rfl))) (SE.var 4 rfl (.inl rfl))))
  SSs.nil))
  (SSs.cons (SS.ret (SE.tuple rfl T.b_tuple (SE.lc (t := (.one 7)) (own := [("row", 7)]) rfl nd_table_in (blk_of rfl) (fun _ _ _ _ _ _ => (pg_name nd_table_in (i := 7) rfl (.inl rfl))) rfl (by decide) (SI.any (SE.var 1 rfl (.inl rfl))) rfl (fun _ _ _ _ _ _ => (SE.tuple rfl T.b_tuple (SE.var 7 rfl (.inl rfl)))))))
  SSs.nil))))⟩
theorem b_determinant_in (T : Txt K mg) : BodyOk P w K mg base wf L "determinant_in" (top 36) ["rows"] ⟨10, 1, ir_determinant_in⟩ := ⟨N_determinant_in, sc_determinant_in, rfl, fun cf k hF f cdv A outer s H E hr => have hu := hr.units
  have hu2 := hu66 hr
  have htb := htb_of hF tbl_ok
  (SSs.cons (SS.asg (SE.tup (SA.cons (SE.lcC (t := (.one 1)) (own := [("row", 1)]) rfl nd_determinant_in (blk_of rfl) (fun _ _ _ _ _ _ => (pg_name nd_determinant_in (i := 1) rfl (.inl rfl))) rfl (by decide) (SI.any (SE.var 0 rfl (.inl rfl))) rfl (fun _ _ _ _ _ _ => (SE.list rfl T.b_list (SE.var 1 rfl (.inl rfl))))) (SA.cConstant SE.int (SA.cConstant SE.int SA.nil)))) (SG.tup rfl (SGs.cons (SG.name 2 nd_determinant_in rfl (.inr rfl)) (SGs.cons (SG.name 3 nd_determinant_in rfl (.inl rfl)) (SGs.cons (SG.name 4 nd_determinant_in rfl (.inr rfl)) SGs.nil)))))
  (SSs.cons (SS.forr (passes_of rfl) rfl (SI.rng1 rfl T.b_range (SE.len rfl T.b_len (SE.var 2 rfl (.inr (.inl rfl))))) (SG.name 5 nd_determinant_in rfl (.inr rfl)) (SSs.cons (by first | exact SS.setLc 7 (.one 6) (own := [("number", 6)]) rfl nd_determinant_in rfl rfl (blk_of rfl) (fun _ _ _ _ _ _ => (pg_name nd_determinant_in (i := 6) rfl (.inl rfl))) rfl (by decide) (SI.rng2 rfl T.b_range (SE.var 5 rfl (.inr (.inl rfl))) (SE.len rfl T.b_len (SE.var 2 rfl (.inr (.inl rfl))))) (fun _ _ _ _ _ _ => (ST.cmp (SE.ix (SE.ix (SE.var 2 rfl (.inr (.inl rfl))) (SE.var 6 rfl (.inl rfl))) (SE.var 5 rfl (.inr (.inl rfl)))) SE.int)) (fun _ _ _ _ _ _ => (SE.var 6 rfl (.inl rfl))) | exact SS.set 7 nd_determinant_in rfl (.inl rfl) (SE.lc (t := (.one 6)) (own := [("number", 6)]) rfl nd_determinant_in (blk_of rfl) (fun _ _ _ _ _ _ => (pg_name nd_determinant_in (i := 6) rfl (.inl rfl))) rfl (by decide) (SI.rng2 rfl T.b_range (SE.var 5 rfl (.inr (.inl rfl))) (SE.len rfl T.b_len (SE.var 2 rfl (.inr (.inl rfl))))) (fun _ _ _ _ _ _ => (ST.cmp (SE.ix (SE.ix (SE.var 2 rfl (.inr (.inl rfl))) (SE.var 6 rfl (.inl rfl))) (SE.var 5 rfl (.inr (.inl rfl)))) SE.int)) (fun _ _ _ _ _ _ => (SE.var 6 rfl (.inl rfl)))))
  (SSs.cons (SS.iff (ST.eqv hu (SE.var 7 rfl (.inl rfl)) (SE.lst SA.nil)) (SSs.cons (SS.ret SE.int)
  SSs.nil) SSs.nil)
  (SSs.cons (SS.iff (ST.neqv hu (SE.ix (SE.var 7 rfl (.inl rfl)) SE.int) (SE.var 5 rfl (.inr (.inl rfl)))) (SSs.cons (SS.asg (SE.tup (SA.cSubscript (SE.ix (SE.var 2 rfl (.inr (.inl rfl))) (SE.ix (SE.var 7 rfl (.inl rfl)) SE.int)) (SA.cSubscript (SE.ix (SE.var 2 rfl (.inr (.inl rfl))) (SE.var 5 rfl (.inr (.inl rfl)))) (SA.cUnaryOp (SE.neg (SE.var 3 rfl (.inl rfl))) SA.nil)))) (SG.tup rfl (SGs.cons (SG.sub (SE.var 2 rfl (.inr (.inl rfl))) (SE.var 5 rfl (.inr (.inl rfl)))) (SGs.cons (SG.sub (SE.var 2 rfl (.inr (.inl rfl))) (SE.ix (SE.var 7 rfl (.inl rfl)) SE.int)) (SGs.cons (SG.name 3 nd_determinant_in rfl (.inl rfl)) SGs.nil)))))
  SSs.nil) SSs.nil)
  (SSs.cons (SS.set 8 nd_determinant_in rfl (.inr rfl) (SE.ix (SE.var 2 rfl (.inr (.inl rfl))) (SE.var 5 rfl (.inr (.inl rfl)))))
  (SSs.cons (SS.forr (passes_of rfl) rfl (SI.rng2 rfl T.b_range (SE.bin (SE.var 5 rfl (.inr (.inl rfl))) SE.int) (SE.len rfl T.b_len (SE.var 2 rfl (.inr (.inl rfl))))) (SG.name 6 nd_determinant_in rfl (.inl rfl)) (SSs.cons (SS.set 1 nd_determinant_in rfl (.inr rfl) (SE.ix (SE.var 2 rfl (.inr (.inl rfl))) (SE.var 6 rfl (.inl rfl))))
  (SSs.cons (SS.asg (SE.lc (t := (.one 9)) (own := [("its", 9)]) rfl nd_determinant_in (blk_of rfl) (fun _ _ _ _ _ _ => (pg_name nd_determinant_in (i := 9) rfl (.inl rfl))) rfl (by decide) (SI.rng1 rfl T.b_range (SE.len rfl T.b_len (SE.var 1 rfl (.inr (.inl rfl))))) rfl (fun _ _ _ _ _ _ => (SE.bin (SE.bin (SE.bin (SE.ix (SE.var 8 rfl (.inr (.inl rfl))) (SE.var 5 rfl (.inr (.inl rfl)))) (SE.ix (SE.var 1 rfl (.inr (.inl rfl))) (SE.var 9 rfl (.inl rfl)))) (SE.bin (SE.ix (SE.var 1 rfl (.inr (.inl rfl))) (SE.var 5 rfl (.inr (.inl rfl)))) (SE.ix (SE.var 8 rfl (.inr (.inl rfl))) (SE.var 9 rfl (.inl rfl))))) (SE.var 4 rfl (.inr (.inl rfl)))))) (SG.sub (SE.var 2 rfl (.inr (.inl rfl))) (SE.var 6 rfl (.inl rfl))))
  SSs.nil)))
  (SSs.cons (SS.set 4 nd_determinant_in rfl (.inr rfl) (SE.ix (SE.var 8 rfl (.inr (.inl rfl))) (SE.var 5 rfl (.inr (.inl rfl)))))
  SSs.nil)))))))
  (SSs.cons (SS.ret (SE.bin (SE.var 3 rfl (.inl rfl)) (SE.var 4 rfl (.inr (.inl rfl)))))
  SSs.nil)))⟩
theorem b_fractions_of (T : Txt K mg) : BodyOk P w K mg base wf L "fractions_of" (top 37) ["rows"] ⟨3, 1, ir_fractions_of⟩ := ⟨N_fractions_of, sc_fractions_of, rfl, fun cf k hF f cdv A outer s H E hr => have hu := hr.units
  have hu2 := hu66 hr
  have htb := htb_of hF tbl_ok
  (SSs.cons (SS.ret (SE.lcC (t := (.one 1)) (own := [("row", 1)]) rfl nd_fractions_of (blk_of rfl) (fun _ _ _ _ _ _ => (pg_name nd_fractions_of (i := 1) rfl (.inl rfl))) rfl (by decide) (SI.any (SE.var 0 rfl (.inl rfl))) rfl (fun _ _ _ _ _ _ => (SE.lc (t := (.one 2)) (own := [("own", 2)]) rfl nd_fractions_of (blk_of rfl) (fun _ _ _ _ _ _ => (pg_name nd_fractions_of (i := 2) rfl (.inl rfl))) rfl (by decide) (SI.any (SE.var 1 rfl (.inl rfl))) rfl (fun _ _ _ _ _ _ => (SE.call (hF 10 "whole" ["number"] rfl) hr rfl (SA.cName (SE.var 2 rfl (.inl rfl)) SA.nil)))))))
  SSs.nil)⟩
theorem b_less_by (T : Txt K mg) : BodyOk P w K mg base wf L "less_by" (top 38) ["row", "share", "other"] ⟨5, 3, ir_less_by⟩ := ⟨N_less_by, sc_less_by, rfl, fun cf k hF f cdv A outer s H E hr => have hu := hr.units
  have hu2 := hu66 hr
  have htb := htb_of hF tbl_ok
  (SSs.cons (SS.ret (SE.lcC (t := (.tup [3, 4])) (own := [("one", 3), ("far", 4)]) rfl nd_less_by (blk_of rfl) (fun _ _ _ _ _ _ => pg_tup rfl (pgs_cons (pg_name nd_less_by (i := 3) rfl (.inl rfl)) (pgs_cons (pg_name nd_less_by (i := 4) rfl (.inl rfl)) pgs_nil))) rfl (by decide) (SI.zip rfl T.b_zip (SE.var 0 rfl (.inl rfl)) (SE.var 2 rfl (.inl rfl))) rfl (fun _ _ _ _ _ _ => (SE.call (hF 12 "taken" ["one", "other"] rfl) hr rfl (SA.cName (SE.var 3 rfl (.inl rfl)) (SA.cCall (SE.call (hF 13 "times" ["one", "other"] rfl) hr rfl (SA.cName (SE.var 1 rfl (.inr (.inl rfl))) (SA.cName (SE.var 4 rfl (.inl rfl)) SA.nil))) SA.nil))))))
  SSs.nil)⟩
theorem b_paired (T : Txt K mg) : BodyOk P w K mg base wf L "paired" (top 39) ["rows", "one", "other"] ⟨6, 3, ir_paired⟩ := ⟨N_paired, sc_paired, rfl, fun cf k hF f cdv A outer s H E hr => have hu := hr.units
  have hu2 := hu66 hr
  have htb := htb_of hF tbl_ok
  (SSs.cons (SS.asg (SE.lc (t := (.tup [4, 5])) (own := [("near", 4), ("far", 5)]) rfl nd_paired (blk_of rfl) (fun _ _ _ _ _ _ => pg_tup rfl (pgs_cons (pg_name nd_paired (i := 4) rfl (.inl rfl)) (pgs_cons (pg_name nd_paired (i := 5) rfl (.inl rfl)) pgs_nil))) rfl (by decide) (SI.zip rfl T.b_zip (SE.ix (SE.var 0 rfl (.inl rfl)) (SE.var 1 rfl (.inl rfl))) (SE.ix (SE.var 0 rfl (.inl rfl)) (SE.var 2 rfl (.inl rfl)))) rfl (fun _ _ _ _ _ _ => (SE.call (hF 11 "added" ["one", "other"] rfl) hr rfl (SA.cName (SE.var 4 rfl (.inl rfl)) (SA.cName (SE.var 5 rfl (.inl rfl)) SA.nil))))) (SG.sub (SE.var 0 rfl (.inl rfl)) (SE.var 1 rfl (.inl rfl))))
  (SSs.cons (SS.forr (passes_of rfl) rfl (SI.any (SE.var 0 rfl (.inl rfl))) (SG.name 3 nd_paired rfl (.inl rfl)) (SSs.cons (SS.asg (SE.call (hF 11 "added" ["one", "other"] rfl) hr rfl (SA.cSubscript (SE.ix (SE.var 3 rfl (.inl rfl)) (SE.var 1 rfl (.inl rfl))) (SA.cSubscript (SE.ix (SE.var 3 rfl (.inl rfl)) (SE.var 2 rfl (.inl rfl))) SA.nil))) (SG.sub (SE.var 3 rfl (.inl rfl)) (SE.var 1 rfl (.inl rfl))))
  SSs.nil))
  SSs.nil))⟩
theorem b_first_told (T : Txt K mg) : BodyOk P w K mg base wf L "first_told" (top 40) ["rows"] ⟨6, 1, ir_first_told⟩ := ⟨N_first_told, sc_first_told, rfl, fun cf k hF f cdv A outer s H E hr => have hu := hr.units
  have hu2 := hu66 hr
  have htb := htb_of hF tbl_ok
  (SSs.cons (SS.forr (passes_of rfl) rfl (SI.enum rfl T.b_enumerate (SE.var 0 rfl (.inl rfl))) (SG.tup rfl (SGs.cons (SG.name 1 nd_first_told rfl (.inl rfl)) (SGs.cons (SG.name 2 nd_first_told rfl (.inl rfl)) SGs.nil))) (SSs.cons (by first | exact SS.setLc 3 (.tup [4, 5]) (own := [("place", 4), ("own", 5)]) rfl nd_first_told rfl rfl (blk_of rfl) (fun _ _ _ _ _ _ => pg_tup rfl (pgs_cons (pg_name nd_first_told (i := 4) rfl (.inl rfl)) (pgs_cons (pg_name nd_first_told (i := 5) rfl (.inl rfl)) pgs_nil))) rfl (by decide) (SI.enum rfl T.b_enumerate (SE.var 2 rfl (.inl rfl))) (fun _ _ _ _ _ _ => (ST.neqv hu (SE.var 5 rfl (.inl rfl)) (SE.cst rfl T.c_NOUGHT))) (fun _ _ _ _ _ _ => (SE.var 4 rfl (.inl rfl))) | exact SS.set 3 nd_first_told rfl (.inl rfl) (SE.lc (t := (.tup [4, 5])) (own := [("place", 4), ("own", 5)]) rfl nd_first_told (blk_of rfl) (fun _ _ _ _ _ _ => pg_tup rfl (pgs_cons (pg_name nd_first_told (i := 4) rfl (.inl rfl)) (pgs_cons (pg_name nd_first_told (i := 5) rfl (.inl rfl)) pgs_nil))) rfl (by decide) (SI.enum rfl T.b_enumerate (SE.var 2 rfl (.inl rfl))) (fun _ _ _ _ _ _ => (ST.neqv hu (SE.var 5 rfl (.inl rfl)) (SE.cst rfl T.c_NOUGHT))) (fun _ _ _ _ _ _ => (SE.var 4 rfl (.inl rfl)))))
  (SSs.cons (SS.iff (ST.neqv hu (SE.var 3 rfl (.inl rfl)) (SE.lst SA.nil)) (SSs.cons (SS.ret (SE.tup (SA.cName (SE.var 1 rfl (.inl rfl)) (SA.cSubscript (SE.ix (SE.var 3 rfl (.inl rfl)) SE.int) SA.nil))))
  SSs.nil) SSs.nil)
  SSs.nil)))
  (SSs.cons (SS.ret SE.non)
  SSs.nil))⟩
theorem b_signs_in (T : Txt K mg) : BodyOk P w K mg base wf L "signs_in" (top 41) ["rows"] ⟨11, 1, ir_signs_in⟩ := ⟨N_signs_in, sc_signs_in, rfl, fun cf k hF f cdv A outer s H E hr => have hu := hr.units
  have hu2 := hu66 hr
  have htb := htb_of hF tbl_ok
  (SSs.cons (SS.asg (SE.tup (SA.cCall (SE.call (hF 26 "fractions_of" ["rows"] rfl) hr rfl (SA.cName (SE.var 0 rfl (.inl rfl)) SA.nil)) (SA.cList (SE.lstC (SA.cConstant SE.int (SA.cConstant SE.int (SA.cConstant SE.int SA.nil)))) SA.nil))) (SG.tup rfl (SGs.cons (SG.name 1 nd_signs_in rfl (.inr rfl)) (SGs.cons (SG.name 2 nd_signs_in rfl (.inl rfl)) SGs.nil))))
  (SSs.cons (SS.whil (passes_of rfl) (ST.neqv hu (SE.var 1 rfl (.inr (.inl rfl))) (SE.lst SA.nil)) (SSs.cons (SS.set 3 nd_signs_in rfl (.inl rfl) (SE.len rfl T.b_len (SE.var 1 rfl (.inr (.inl rfl)))))
  (SSs.cons (by first | exact SS.setLc 5 (.one 4) (own := [("place", 4)]) rfl nd_signs_in rfl rfl (blk_of rfl) (fun _ _ _ _ _ _ => (pg_name nd_signs_in (i := 4) rfl (.inl rfl))) rfl (by decide) (SI.rng1 rfl T.b_range (SE.var 3 rfl (.inl rfl))) (fun _ _ _ _ _ _ => (ST.neqv hu (SE.ix (SE.ix (SE.var 1 rfl (.inr (.inl rfl))) (SE.var 4 rfl (.inl rfl))) (SE.var 4 rfl (.inl rfl))) (SE.cst rfl T.c_NOUGHT))) (fun _ _ _ _ _ _ => (SE.var 4 rfl (.inl rfl))) | exact SS.set 5 nd_signs_in rfl (.inl rfl) (SE.lc (t := (.one 4)) (own := [("place", 4)]) rfl nd_signs_in (blk_of rfl) (fun _ _ _ _ _ _ => (pg_name nd_signs_in (i := 4) rfl (.inl rfl))) rfl (by decide) (SI.rng1 rfl T.b_range (SE.var 3 rfl (.inl rfl))) (fun _ _ _ _ _ _ => (ST.neqv hu (SE.ix (SE.ix (SE.var 1 rfl (.inr (.inl rfl))) (SE.var 4 rfl (.inl rfl))) (SE.var 4 rfl (.inl rfl))) (SE.cst rfl T.c_NOUGHT))) (fun _ _ _ _ _ _ => (SE.var 4 rfl (.inl rfl)))))
  (SSs.cons (SS.iff (ST.eqv hu (SE.var 5 rfl (.inl rfl)) (SE.lst SA.nil)) (SSs.cons (SS.set 6 nd_signs_in rfl (.inl rfl) (SE.call (hF 29 "first_told" ["rows"] rfl) hr rfl (SA.cName (SE.var 1 rfl (.inr (.inl rfl))) SA.nil)))
  (SSs.cons (SS.iff (ST.isN (SE.var 6 rfl (.inl rfl))) (SSs.cons (SS.ret (SE.tup (SA.cSubscript (SE.ix (SE.var 2 rfl (.inl rfl)) SE.int) (SA.cSubscript (SE.ix (SE.var 2 rfl (.inl rfl)) SE.int) (SA.cBinOp (SE.bin (SE.ix (SE.var 2 rfl (.inl rfl)) SE.int) (SE.var 3 rfl (.inl rfl))) SA.nil)))))
  SSs.nil) SSs.nil)
  (SSs.cons (SS.expr (SE.call (hF 28 "paired" ["rows", "one", "other"] rfl) hr rfl (SA.cName (SE.var 1 rfl (.inr (.inl rfl))) (SA.cSubscript (SE.ix (SE.var 6 rfl (.inl rfl)) SE.int) (SA.cSubscript (SE.ix (SE.var 6 rfl (.inl rfl)) SE.int) SA.nil)))))
  (SSs.cons (SS.set 5 nd_signs_in rfl (.inl rfl) (SE.lst (SA.cSubscript (SE.ix (SE.var 6 rfl (.inl rfl)) SE.int) SA.nil)))
  SSs.nil)))) SSs.nil)
  (SSs.cons (SS.set 4 nd_signs_in rfl (.inr rfl) (SE.ix (SE.var 5 rfl (.inl rfl)) SE.int))
  (SSs.cons (SS.set 7 nd_signs_in rfl (.inr rfl) (SE.ix (SE.var 1 rfl (.inr (.inl rfl))) (SE.var 4 rfl (.inr (.inl rfl)))))
  (SSs.cons SS.stuck
  (SSs.cons (by first | exact SS.setLc 8 (.tup [9, 10]) (own := [("number", 9), ("row", 10)]) rfl nd_signs_in rfl rfl (blk_of rfl) (fun _ _ _ _ _ _ => pg_tup rfl (pgs_cons (pg_name nd_signs_in (i := 9) rfl (.inl rfl)) (pgs_cons (pg_name nd_signs_in (i := 10) rfl (.inl rfl)) pgs_nil))) rfl (by decide) (SI.enum rfl T.b_enumerate (SE.var 1 rfl (.inr (.inl rfl)))) (fun _ _ _ _ _ _ => (ST.neqv hu (SE.var 9 rfl (.inl rfl)) (SE.var 4 rfl (.inr (.inl rfl))))) (fun _ _ _ _ _ _ => (SE.call (hF 27 "less_by" ["row", "share", "other"] rfl) hr rfl (SA.cName (SE.var 10 rfl (.inl rfl)) (SA.cCall (SE.call (hF 14 "over" ["one", "other"] rfl) hr rfl (SA.cSubscript (SE.ix (SE.var 10 rfl (.inl rfl)) (SE.var 4 rfl (.inr (.inl rfl)))) (SA.cSubscript (SE.ix (SE.var 7 rfl (.inr (.inl rfl))) (SE.var 4 rfl (.inr (.inl rfl)))) SA.nil))) (SA.cName (SE.var 7 rfl (.inr (.inl rfl))) SA.nil))))) | exact SS.set 8 nd_signs_in rfl (.inl rfl) (SE.lc (t := (.tup [9, 10])) (own := [("number", 9), ("row", 10)]) rfl nd_signs_in (blk_of rfl) (fun _ _ _ _ _ _ => pg_tup rfl (pgs_cons (pg_name nd_signs_in (i := 9) rfl (.inl rfl)) (pgs_cons (pg_name nd_signs_in (i := 10) rfl (.inl rfl)) pgs_nil))) rfl (by decide) (SI.enum rfl T.b_enumerate (SE.var 1 rfl (.inr (.inl rfl)))) (fun _ _ _ _ _ _ => (ST.neqv hu (SE.var 9 rfl (.inl rfl)) (SE.var 4 rfl (.inr (.inl rfl))))) (fun _ _ _ _ _ _ => (SE.call (hF 27 "less_by" ["row", "share", "other"] rfl) hr rfl (SA.cName (SE.var 10 rfl (.inl rfl)) (SA.cCall (SE.call (hF 14 "over" ["one", "other"] rfl) hr rfl (SA.cSubscript (SE.ix (SE.var 10 rfl (.inl rfl)) (SE.var 4 rfl (.inr (.inl rfl)))) (SA.cSubscript (SE.ix (SE.var 7 rfl (.inr (.inl rfl))) (SE.var 4 rfl (.inr (.inl rfl)))) SA.nil))) (SA.cName (SE.var 7 rfl (.inr (.inl rfl))) SA.nil)))))))
  (SSs.cons (by first | exact SS.setLcC 1 (.one 10) (own := [("row", 10)]) rfl nd_signs_in rfl rfl (blk_of rfl) (fun _ _ _ _ _ _ => (pg_name nd_signs_in (i := 10) rfl (.inl rfl))) rfl (by decide) (SI.any (SE.var 8 rfl (.inl rfl))) rfl (fun _ _ _ _ _ _ => (SE.bin (SE.sl (SE.var 10 rfl (.inl rfl)) SO.none (SO.some (SE.var 4 rfl (.inr (.inl rfl))))) (SE.sl (SE.var 10 rfl (.inl rfl)) (SO.some (SE.bin (SE.var 4 rfl (.inr (.inl rfl))) SE.int)) SO.none))) | exact SS.set 1 nd_signs_in rfl (.inr rfl) (SE.lcC (t := (.one 10)) (own := [("row", 10)]) rfl nd_signs_in (blk_of rfl) (fun _ _ _ _ _ _ => (pg_name nd_signs_in (i := 10) rfl (.inl rfl))) rfl (by decide) (SI.any (SE.var 8 rfl (.inl rfl))) rfl (fun _ _ _ _ _ _ => (SE.bin (SE.sl (SE.var 10 rfl (.inl rfl)) SO.none (SO.some (SE.var 4 rfl (.inr (.inl rfl))))) (SE.sl (SE.var 10 rfl (.inl rfl)) (SO.some (SE.bin (SE.var 4 rfl (.inr (.inl rfl))) SE.int)) SO.none)))))
  SSs.nil)))))))))
  (SSs.cons (SS.ret (SE.tuple rfl T.b_tuple (SE.var 2 rfl (.inl rfl))))
  SSs.nil)))⟩
theorem b_worked_down (T : Txt K mg) : BodyOk P w K mg base wf L "worked_down" (top 42) ["rows", "wide"] ⟨12, 2, ir_worked_down⟩ := ⟨N_worked_down, sc_worked_down, rfl, fun cf k hF f cdv A outer s H E hr => have hu := hr.units
  have hu2 := hu66 hr
  have htb := htb_of hF tbl_ok
  (SSs.cons (SS.par3 2 3 4 rfl nd_worked_down rfl rfl rfl (by decide) (by decide) (by decide) rfl rfl rfl (SE.lcC (t := (.one 9)) (own := [("row", 9)]) rfl nd_worked_down (blk_of rfl) (fun _ _ _ _ _ _ => (pg_name nd_worked_down (i := 9) rfl (.inl rfl))) rfl (by decide) (SI.any (SE.var 0 rfl (.inl rfl))) rfl (fun _ _ _ _ _ _ => (SE.list rfl T.b_list (SE.var 9 rfl (.inl rfl))))) (SE.lst SA.nil) (SE.lstC SA.nil))
  (SSs.cons (SS.forr (passes_of rfl) rfl (SI.rng1 rfl T.b_range (SE.var 1 rfl (.inl rfl))) (SG.name 5 nd_worked_down rfl (.inr rfl)) (SSs.cons (SS.set 6 nd_worked_down rfl (.inl rfl) (SE.sl (SE.lc (t := (.tup [10, 9])) (own := [("number", 10), ("row", 9)]) rfl nd_worked_down (blk_of rfl) (fun _ _ _ _ _ _ => pg_tup rfl (pgs_cons (pg_name nd_worked_down (i := 10) rfl (.inl rfl)) (pgs_cons (pg_name nd_worked_down (i := 9) rfl (.inl rfl)) pgs_nil))) rfl (by decide) (SI.enum rfl T.b_enumerate (SE.var 2 rfl (.inl rfl))) (fun _ _ _ _ _ _ => (ST.neqv hu (SE.ix (SE.var 9 rfl (.inl rfl)) (SE.var 5 rfl (.inr (.inl rfl)))) (SE.cst rfl T.c_NOUGHT))) (fun _ _ _ _ _ _ => (SE.var 10 rfl (.inl rfl)))) SO.none (SO.some SE.int)))
  (SSs.cons (SS.iff (ST.neqv hu (SE.var 6 rfl (.inl rfl)) (SE.lst SA.nil)) (SSs.cons (SS.set 7 nd_worked_down rfl (.inr rfl) (SE.popAt (SE.var 2 rfl (.inl rfl)) (SE.ix (SE.var 6 rfl (.inl rfl)) SE.int)))
  (SSs.cons (by first | exact SS.setLc 8 (.one 11) (own := [("its", 11)]) rfl nd_worked_down rfl rfl (blk_of rfl) (fun _ _ _ _ _ _ => (pg_name nd_worked_down (i := 11) rfl (.inl rfl))) rfl (by decide) (SI.any (SE.var 7 rfl (.inr (.inl rfl)))) rfl (fun _ _ _ _ _ _ => (SE.call (hF 14 "over" ["one", "other"] rfl) hr rfl (SA.cName (SE.var 11 rfl (.inl rfl)) (SA.cSubscript (SE.ix (SE.var 7 rfl (.inr (.inl rfl))) (SE.var 5 rfl (.inr (.inl rfl)))) SA.nil)))) | exact SS.set 8 nd_worked_down rfl (.inr rfl) (SE.lc (t := (.one 11)) (own := [("its", 11)]) rfl nd_worked_down (blk_of rfl) (fun _ _ _ _ _ _ => (pg_name nd_worked_down (i := 11) rfl (.inl rfl))) rfl (by decide) (SI.any (SE.var 7 rfl (.inr (.inl rfl)))) rfl (fun _ _ _ _ _ _ => (SE.call (hF 14 "over" ["one", "other"] rfl) hr rfl (SA.cName (SE.var 11 rfl (.inl rfl)) (SA.cSubscript (SE.ix (SE.var 7 rfl (.inr (.inl rfl))) (SE.var 5 rfl (.inr (.inl rfl)))) SA.nil))))))
  (SSs.cons (by first | exact SS.setLcC 2 (.one 9) (own := [("row", 9)]) rfl nd_worked_down rfl rfl (blk_of rfl) (fun _ _ _ _ _ _ => (pg_name nd_worked_down (i := 9) rfl (.inl rfl))) rfl (by decide) (SI.any (SE.var 2 rfl (.inl rfl))) rfl (fun _ _ _ _ _ _ => (SE.call (hF 27 "less_by" ["row", "share", "other"] rfl) hr rfl (SA.cName (SE.var 9 rfl (.inl rfl)) (SA.cSubscript (SE.ix (SE.var 9 rfl (.inl rfl)) (SE.var 5 rfl (.inr (.inl rfl)))) (SA.cName (SE.var 8 rfl (.inr (.inl rfl))) SA.nil))))) | exact SS.set 2 nd_worked_down rfl (.inl rfl) (SE.lcC (t := (.one 9)) (own := [("row", 9)]) rfl nd_worked_down (blk_of rfl) (fun _ _ _ _ _ _ => (pg_name nd_worked_down (i := 9) rfl (.inl rfl))) rfl (by decide) (SI.any (SE.var 2 rfl (.inl rfl))) rfl (fun _ _ _ _ _ _ => (SE.call (hF 27 "less_by" ["row", "share", "other"] rfl) hr rfl (SA.cName (SE.var 9 rfl (.inl rfl)) (SA.cSubscript (SE.ix (SE.var 9 rfl (.inl rfl)) (SE.var 5 rfl (.inr (.inl rfl)))) (SA.cName (SE.var 8 rfl (.inr (.inl rfl))) SA.nil)))))))
  (SSs.cons (SS.set 3 nd_worked_down rfl (.inl rfl) (SE.catL (SE.lc (t := (.one 9)) (own := [("row", 9)]) rfl nd_worked_down (blk_of rfl) (fun _ _ _ _ _ _ => (pg_name nd_worked_down (i := 9) rfl (.inl rfl))) rfl (by decide) (SI.any (SE.var 3 rfl (.inl rfl))) rfl (fun _ _ _ _ _ _ => (SE.call (hF 27 "less_by" ["row", "share", "other"] rfl) hr rfl (SA.cName (SE.var 9 rfl (.inl rfl)) (SA.cSubscript (SE.ix (SE.var 9 rfl (.inl rfl)) (SE.var 5 rfl (.inr (.inl rfl)))) (SA.cName (SE.var 8 rfl (.inr (.inl rfl))) SA.nil)))))) (SE.lst (SA.cName (SE.var 8 rfl (.inr (.inl rfl))) SA.nil))))
  (SSs.cons (SS.expr (SE.append (SE.var 4 rfl (.inl rfl)) (SE.var 5 rfl (.inr (.inl rfl)))))
  SSs.nil))))) SSs.nil)
  SSs.nil)))
  (SSs.cons (SS.ret (SE.tup (SA.cName (SE.var 3 rfl (.inl rfl)) (SA.cName (SE.var 4 rfl (.inl rfl)) (SA.cName (SE.var 2 rfl (.inl rfl)) SA.nil)))))
  SSs.nil)))⟩
theorem b_solution_in (T : Txt K mg) : BodyOk P w K mg base wf L "solution_in" (top 43) ["rows", "goal"] ⟨10, 2, ir_solution_in⟩ := ⟨N_solution_in, sc_solution_in, rfl, fun cf k hF f cdv A outer s H E hr => have hu := hr.units
  have hu2 := hu66 hr
  have htb := htb_of hF tbl_ok
  (SSs.cons (by first | exact SS.setLc 2 (.tup [7, 8]) (own := [("row", 7), ("end", 8)]) rfl nd_solution_in rfl rfl (blk_of rfl) (fun _ _ _ _ _ _ => pg_tup rfl (pgs_cons (pg_name nd_solution_in (i := 7) rfl (.inl rfl)) (pgs_cons (pg_name nd_solution_in (i := 8) rfl (.inl rfl)) pgs_nil))) rfl (by decide) (SI.zip rfl T.b_zip (SE.call (hF 26 "fractions_of" ["rows"] rfl) hr rfl (SA.cName (SE.var 0 rfl (.inl rfl)) SA.nil)) (SE.var 1 rfl (.inl rfl))) rfl (fun _ _ _ _ _ _ => (SE.catL (SE.list rfl T.b_list (SE.var 7 rfl (.inl rfl))) (SE.lst (SA.cName (SE.var 8 rfl (.inl rfl)) SA.nil)))) | exact SS.set 2 nd_solution_in rfl (.inl rfl) (SE.lc (t := (.tup [7, 8])) (own := [("row", 7), ("end", 8)]) rfl nd_solution_in (blk_of rfl) (fun _ _ _ _ _ _ => pg_tup rfl (pgs_cons (pg_name nd_solution_in (i := 7) rfl (.inl rfl)) (pgs_cons (pg_name nd_solution_in (i := 8) rfl (.inl rfl)) pgs_nil))) rfl (by decide) (SI.zip rfl T.b_zip (SE.call (hF 26 "fractions_of" ["rows"] rfl) hr rfl (SA.cName (SE.var 0 rfl (.inl rfl)) SA.nil)) (SE.var 1 rfl (.inl rfl))) rfl (fun _ _ _ _ _ _ => (SE.catL (SE.list rfl T.b_list (SE.var 7 rfl (.inl rfl))) (SE.lst (SA.cName (SE.var 8 rfl (.inl rfl)) SA.nil))))))
  (SSs.cons (SS.asg (SE.call (hF 31 "worked_down" ["rows", "wide"] rfl) hr rfl (SA.cName (SE.var 2 rfl (.inl rfl)) (SA.cCall (SE.len rfl T.b_len (SE.var 0 rfl (.inl rfl))) SA.nil))) (SG.tup rfl (SGs.cons (SG.name 3 nd_solution_in rfl (.inl rfl)) (SGs.cons (SG.name 4 nd_solution_in rfl (.inl rfl)) (SGs.cons (SG.name 5 nd_solution_in rfl (.inl rfl)) SGs.nil)))))
  (SSs.cons (SS.iff (ST.val (SE.any rfl rfl T.b_any (SE.lc (t := (.one 7)) (own := [("row", 7)]) rfl nd_solution_in (blk_of rfl) (fun _ _ _ _ _ _ => (pg_name nd_solution_in (i := 7) rfl (.inl rfl))) rfl (by decide) (SI.any (SE.var 5 rfl (.inl rfl))) rfl (fun _ _ _ _ _ _ => (SE.neqv hu (SE.ix (SE.var 7 rfl (.inl rfl)) (SE.neg SE.int)) (SE.cst rfl T.c_NOUGHT)))))) (SSs.cons (SS.ret SE.non)
  SSs.nil) SSs.nil)
  (SSs.cons (SS.set 6 nd_solution_in rfl (.inr rfl) (SE.dictP rfl rfl T.b_dict (SE.lc (t := (.tup [9, 7])) (own := [("place", 9), ("row", 7)]) rfl nd_solution_in (blk_of rfl) (fun _ _ _ _ _ _ => pg_tup rfl (pgs_cons (pg_name nd_solution_in (i := 9) rfl (.inl rfl)) (pgs_cons (pg_name nd_solution_in (i := 7) rfl (.inl rfl)) pgs_nil))) rfl (by decide) (SI.zip rfl T.b_zip (SE.var 4 rfl (.inl rfl)) (SE.var 3 rfl (.inl rfl))) rfl (fun _ _ _ _ _ _ => (SE.tup (SA.cName (SE.var 9 rfl (.inl rfl)) (SA.cSubscript (SE.ix (SE.var 7 rfl (.inl rfl)) (SE.neg SE.int)) SA.nil)))))))
  (SSs.cons (SS.ret (SE.lcC (t := (.one 9)) (own := [("place", 9)]) rfl nd_solution_in (blk_of rfl) (fun _ _ _ _ _ _ => (pg_name nd_solution_in (i := 9) rfl (.inl rfl))) rfl (by decide) (SI.rng1 rfl T.b_range (SE.len rfl T.b_len (SE.var 0 rfl (.inl rfl)))) rfl (fun _ _ _ _ _ _ => (SE.dgt hu (SE.var 6 rfl (.inr (.inl rfl))) (SE.var 9 rfl (.inl rfl)) (SE.cst rfl T.c_NOUGHT)))))
  SSs.nil)))))⟩
theorem b_inverse_in (T : Txt K mg) : BodyOk P w K mg base wf L "inverse_in" (top 44) ["rows"] ⟨10, 1, ir_inverse_in⟩ := ⟨N_inverse_in, sc_inverse_in, rfl, fun cf k hF f cdv A outer s H E hr => have hu := hr.units
  have hu2 := hu66 hr
  have htb := htb_of hF tbl_ok
  (SSs.cons (SS.set 1 nd_inverse_in rfl (.inr rfl) (SE.len rfl T.b_len (SE.var 0 rfl (.inl rfl))))
  (SSs.cons (by first | exact SS.setLc 2 (.one 6) (own := [("other", 6)]) rfl nd_inverse_in rfl rfl (blk_of rfl) (fun _ _ _ _ _ _ => (pg_name nd_inverse_in (i := 6) rfl (.inr rfl))) rfl (by decide) (SI.rng1 rfl T.b_range (SE.var 1 rfl (.inr (.inl rfl)))) rfl (fun _ _ _ _ _ _ => (SE.lc (t := (.one 7)) (own := [("one", 7)]) rfl nd_inverse_in (blk_of rfl) (fun _ _ _ _ _ _ => (pg_name nd_inverse_in (i := 7) rfl (.inl rfl))) rfl (by decide) (SI.rng1 rfl T.b_range (SE.var 1 rfl (.inr (.inl rfl)))) rfl (fun _ _ _ _ _ _ => (SE.ite (ST.eqv hu (SE.var 7 rfl (.inl rfl)) (SE.var 6 rfl (.inr (.inl rfl)))) (SE.cst rfl T.c_LONE) (SE.cst rfl T.c_NOUGHT))))) | exact SS.set 2 nd_inverse_in rfl (.inl rfl) (SE.lc (t := (.one 6)) (own := [("other", 6)]) rfl nd_inverse_in (blk_of rfl) (fun _ _ _ _ _ _ => (pg_name nd_inverse_in (i := 6) rfl (.inr rfl))) rfl (by decide) (SI.rng1 rfl T.b_range (SE.var 1 rfl (.inr (.inl rfl)))) rfl (fun _ _ _ _ _ _ => (SE.lc (t := (.one 7)) (own := [("one", 7)]) rfl nd_inverse_in (blk_of rfl) (fun _ _ _ _ _ _ => (pg_name nd_inverse_in (i := 7) rfl (.inl rfl))) rfl (by decide) (SI.rng1 rfl T.b_range (SE.var 1 rfl (.inr (.inl rfl)))) rfl (fun _ _ _ _ _ _ => (SE.ite (ST.eqv hu (SE.var 7 rfl (.inl rfl)) (SE.var 6 rfl (.inr (.inl rfl)))) (SE.cst rfl T.c_LONE) (SE.cst rfl T.c_NOUGHT)))))))
  (SSs.cons (SS.asg (SE.call (hF 31 "worked_down" ["rows", "wide"] rfl) hr rfl (SA.cons (SE.lc (t := (.tup [8, 9])) (own := [("row", 8), ("unit", 9)]) rfl nd_inverse_in (blk_of rfl) (fun _ _ _ _ _ _ => pg_tup rfl (pgs_cons (pg_name nd_inverse_in (i := 8) rfl (.inl rfl)) (pgs_cons (pg_name nd_inverse_in (i := 9) rfl (.inl rfl)) pgs_nil))) rfl (by decide) (SI.zip rfl T.b_zip (SE.call (hF 26 "fractions_of" ["rows"] rfl) hr rfl (SA.cName (SE.var 0 rfl (.inl rfl)) SA.nil)) (SE.var 2 rfl (.inl rfl))) rfl (fun _ _ _ _ _ _ => (SE.addX (SE.var 8 rfl (.inl rfl)) (SE.var 9 rfl (.inl rfl))))) (SA.cName (SE.var 1 rfl (.inr (.inl rfl))) SA.nil))) (SG.tup rfl (SGs.cons (SG.name 3 nd_inverse_in rfl (.inl rfl)) (SGs.cons (SG.name 4 nd_inverse_in rfl (.inl rfl)) (SGs.cons (SG.name 5 nd_inverse_in rfl (.inl rfl)) SGs.nil)))))
  (SSs.cons (SS.iff (ST.cmp (SE.len rfl T.b_len (SE.var 4 rfl (.inl rfl))) (SE.var 1 rfl (.inr (.inl rfl)))) (SSs.cons (SS.ret SE.non)
  SSs.nil) SSs.nil)
  (SSs.cons (SS.ret (SE.tuple rfl T.b_tuple (SE.lc (t := (.one 8)) (own := [("row", 8)]) rfl nd_inverse_in (blk_of rfl) (fun _ _ _ _ _ _ => (pg_name nd_inverse_in (i := 8) rfl (.inl rfl))) rfl (by decide) (SI.any (SE.var 3 rfl (.inl rfl))) rfl (fun _ _ _ _ _ _ => (SE.tuple rfl T.b_tuple (SE.sl (SE.var 8 rfl (.inl rfl)) (SO.some (SE.var 1 rfl (.inr (.inl rfl)))) SO.none))))))
  SSs.nil)))))⟩
theorem b_diagonal_in (T : Txt K mg) : BodyOk P w K mg base wf L "diagonal_in" (top 45) ["forest"] ⟨11, 1, ir_diagonal_in⟩ := ⟨N_diagonal_in, sc_diagonal_in, rfl, fun cf k hF f cdv A outer s H E hr => have hu := hr.units
  have hu2 := hu66 hr
  have htb := htb_of hF tbl_ok
  (SSs.cons SS.stuck
  (SSs.cons (SS.forr (passes_of rfl) rfl (SI.any (SE.call (hF 21 "pieces_in" ["forest"] rfl) hr rfl (SA.cName (SE.var 0 rfl (.inl rfl)) SA.nil))) (SG.name 4 nd_diagonal_in rfl (.inl rfl)) (SSs.cons (SS.asg (SE.call (hF 23 "order_from" ["mates", "root"] rfl) hr rfl (SA.cName (SE.var 1 rfl (.inl rfl)) (SA.cSubscript (SE.ix (SE.var 4 rfl (.inl rfl)) SE.int) SA.nil))) (SG.tup rfl (SGs.cons (SG.name 5 nd_diagonal_in rfl (.inl rfl)) (SGs.cons (SG.name 6 nd_diagonal_in rfl (.inr rfl)) SGs.nil))))
  (SSs.cons (SS.forr (passes_of rfl) rfl (SI.rev rfl T.b_reversed (SE.var 5 rfl (.inl rfl))) (SG.name 7 nd_diagonal_in rfl (.inr rfl)) (SSs.cons (by first | exact SS.setLc 9 (.one 8) (own := [("own", 8)]) rfl nd_diagonal_in rfl rfl (blk_of rfl) (fun _ _ _ _ _ _ => (pg_name nd_diagonal_in (i := 8) rfl (.inl rfl))) rfl (by decide) (SI.any (SE.ix (SE.var 1 rfl (.inl rfl)) (SE.var 7 rfl (.inr (.inl rfl))))) (fun _ _ _ _ _ _ => (ST.sw (SW.and (ST.neqv hu (SE.var 8 rfl (.inl rfl)) (SE.dget hu (SE.var 6 rfl (.inr (.inl rfl))) (SE.var 7 rfl (.inr (.inl rfl))))) (SW.and1 (ST.of1 (SE.ninn hu2 (SE.var 8 rfl (.inl rfl)) (SE.var 3 rfl (.inr (.inl rfl))))))))) (fun _ _ _ _ _ _ => (SE.var 8 rfl (.inl rfl))) | exact SS.set 9 nd_diagonal_in rfl (.inl rfl) (SE.lc (t := (.one 8)) (own := [("own", 8)]) rfl nd_diagonal_in (blk_of rfl) (fun _ _ _ _ _ _ => (pg_name nd_diagonal_in (i := 8) rfl (.inl rfl))) rfl (by decide) (SI.any (SE.ix (SE.var 1 rfl (.inl rfl)) (SE.var 7 rfl (.inr (.inl rfl))))) (fun _ _ _ _ _ _ => (ST.sw (SW.and (ST.neqv hu (SE.var 8 rfl (.inl rfl)) (SE.dget hu (SE.var 6 rfl (.inr (.inl rfl))) (SE.var 7 rfl (.inr (.inl rfl))))) (SW.and1 (ST.of1 (SE.ninn hu2 (SE.var 8 rfl (.inl rfl)) (SE.var 3 rfl (.inr (.inl rfl))))))))) (fun _ _ _ _ _ _ => (SE.var 8 rfl (.inl rfl)))))
  (SSs.cons (SS.set 10 nd_diagonal_in rfl (.inl rfl) (SE.sl (SE.lc (t := (.one 8)) (own := [("own", 8)]) rfl nd_diagonal_in (blk_of rfl) (fun _ _ _ _ _ _ => (pg_name nd_diagonal_in (i := 8) rfl (.inl rfl))) rfl (by decide) (SI.any (SE.var 9 rfl (.inl rfl))) (fun _ _ _ _ _ _ => (ST.eqv hu (SE.dget hu (SE.var 2 rfl (.inr (.inl rfl))) (SE.var 8 rfl (.inl rfl))) (SE.cst rfl T.c_NOUGHT))) (fun _ _ _ _ _ _ => (SE.var 8 rfl (.inl rfl)))) SO.none (SO.some SE.int)))
  (SSs.cons (SS.iff (ST.neqv hu (SE.var 10 rfl (.inl rfl)) (SE.lst SA.nil)) (SSs.cons SS.stuck
  (SSs.cons (SS.expr (SE.append (SE.var 3 rfl (.inr (.inl rfl))) (SE.var 7 rfl (.inr (.inl rfl)))))
  SSs.nil)) (SSs.cons (SS.dput hu (SE.var 2 rfl (.inr (.inl rfl))) (SE.var 7 rfl (.inr (.inl rfl))) (SE.call (hF 10 "whole" ["number"] rfl) hr rfl (SA.cSubscript (SE.ix (SE.ix (SE.var 0 rfl (.inl rfl)) SE.int) (SE.var 7 rfl (.inr (.inl rfl)))) SA.nil)))
  (SSs.cons (SS.forr (passes_of rfl) rfl (SI.any (SE.var 9 rfl (.inl rfl))) (SG.name 8 nd_diagonal_in rfl (.inl rfl)) (SSs.cons (SS.dput hu (SE.var 2 rfl (.inr (.inl rfl))) (SE.var 7 rfl (.inr (.inl rfl))) (SE.call (hF 12 "taken" ["one", "other"] rfl) hr rfl (SA.cSubscript (SE.dget hu (SE.var 2 rfl (.inr (.inl rfl))) (SE.var 7 rfl (.inr (.inl rfl)))) (SA.cCall (SE.call (hF 14 "over" ["one", "other"] rfl) hr rfl (SA.cName (SE.cst rfl T.c_LONE) (SA.cSubscript (SE.dget hu (SE.var 2 rfl (.inr (.inl rfl))) (SE.var 8 rfl (.inl rfl))) SA.nil))) SA.nil))))
  SSs.nil))
  SSs.nil)))
  SSs.nil))))
  SSs.nil)))
  (SSs.cons (SS.ret (SE.lcC (t := (.one 7)) (own := [("place", 7)]) rfl nd_diagonal_in (blk_of rfl) (fun _ _ _ _ _ _ => (pg_name nd_diagonal_in (i := 7) rfl (.inl rfl))) rfl (by decide) (SI.rng1 rfl T.b_range (SE.len rfl T.b_len (SE.ix (SE.var 0 rfl (.inl rfl)) SE.int))) rfl (fun _ _ _ _ _ _ => (SE.dget hu (SE.var 2 rfl (.inr (.inl rfl))) (SE.var 7 rfl (.inl rfl))))))
  SSs.nil)))⟩
theorem b_is_below_in (T : Txt K mg) : BodyOk P w K mg base wf L "is_below_in" (top 46) ["forest"] ⟨2, 1, ir_is_below_in⟩ := ⟨N_is_below_in, sc_is_below_in, rfl, fun cf k hF f cdv A outer s H E hr => have hu := hr.units
  have hu2 := hu66 hr
  have htb := htb_of hF tbl_ok
  (SSs.cons (SS.ret (SE.all rfl rfl T.b_all (SE.lc (t := (.one 1)) (own := [("own", 1)]) rfl nd_is_below_in (blk_of rfl) (fun _ _ _ _ _ _ => (pg_name nd_is_below_in (i := 1) rfl (.inl rfl))) rfl (by decide) (SI.any (SE.call (hF 34 "diagonal_in" ["forest"] rfl) hr rfl (SA.cName (SE.var 0 rfl (.inl rfl)) SA.nil))) rfl (fun _ _ _ _ _ _ => (SE.cmp (SE.ix (SE.var 1 rfl (.inl rfl)) SE.int) SE.int)))))
  SSs.nil)⟩
theorem b_way_in (T : Txt K mg) : BodyOk P w K mg base wf L "way_in" (top 47) ["forest", "one", "other"] ⟨7, 3, ir_way_in⟩ := ⟨N_way_in, sc_way_in, rfl, fun cf k hF f cdv A outer s H E hr => have hu := hr.units
  have hu2 := hu66 hr
  have htb := htb_of hF tbl_ok
  (SSs.cons (SS.asg (SE.call (hF 23 "order_from" ["mates", "root"] rfl) hr rfl (SA.cCall (SE.call (hF 20 "neighbours_in" ["forest"] rfl) hr rfl (SA.cName (SE.var 0 rfl (.inl rfl)) SA.nil)) (SA.cName (SE.var 1 rfl (.inl rfl)) SA.nil))) (SG.tup rfl (SGs.cons (SG.name 3 nd_way_in rfl (.inl rfl)) (SGs.cons (SG.name 4 nd_way_in rfl (.inl rfl)) SGs.nil))))
  (SSs.cons (SS.iff (ST.of1 (SE.ninn hu2 (SE.var 2 rfl (.inl rfl)) (SE.var 3 rfl (.inl rfl)))) (SSs.cons (SS.ret SE.non)
  SSs.nil) SSs.nil)
  (SSs.cons (SS.set 5 nd_way_in rfl (.inl rfl) (SE.lstC (SA.cName (SE.var 2 rfl (.inl rfl)) SA.nil)))
  (SSs.cons (SS.forr (passes_of rfl) rfl (SI.any (SE.var 3 rfl (.inl rfl))) (SG.name 6 nd_way_in rfl (.inl rfl)) (SSs.cons (SS.iff (ST.neqv hu (SE.ix (SE.var 5 rfl (.inl rfl)) (SE.neg SE.int)) (SE.var 1 rfl (.inl rfl))) (SSs.cons (SS.expr (SE.append (SE.var 5 rfl (.inl rfl)) (SE.dget hu (SE.var 4 rfl (.inl rfl)) (SE.ix (SE.var 5 rfl (.inl rfl)) (SE.neg SE.int)))))
  SSs.nil) SSs.nil)
  SSs.nil))
  (SSs.cons (SS.ret (SE.rev (SE.var 5 rfl (.inl rfl))))
  SSs.nil)))))⟩
theorem b_sure_row (T : Txt K mg) : BodyOk P w K mg base wf L "sure_row" (top 48) ["forest", "value"] ⟨4, 2, ir_sure_row⟩ := ⟨N_sure_row, sc_sure_row, rfl, fun cf k hF f cdv A outer s H E hr => have hu := hr.units
  have hu2 := hu66 hr
  have htb := htb_of hF tbl_ok
  (SSs.cons (SS.set 2 nd_sure_row rfl (.inl rfl) (SE.call (hF 5 "tupled" ["value"] rfl) hr rfl (SA.cName (SE.var 1 rfl (.inl rfl)) SA.nil)))
  (SSs.cons (SS.iff (ST.sw (SW.or (ST.notB (ST.val (SE.isi .tuple rfl T.b_isinstance rfl T.b_tuple (SE.var 2 rfl (.inl rfl))))) (SW.or1 (ST.cmp (SE.len rfl T.b_len (SE.var 2 rfl (.inl rfl))) (SE.len rfl T.b_len (SE.ix (SE.var 0 rfl (.inl rfl)) SE.int)))))) (SSs.cons (SS.raise T.x_Unfit ⟨rfl, rfl⟩ rfl rfl)
  SSs.nil) SSs.nil)
  (SSs.cons (SS.ret (SE.tuple rfl T.b_tuple (SE.lcx (t := (.one 3)) (own := [("its", 3)]) (c := false) ⟨rfl, rfl⟩ rfl nd_sure_row (blk_of rfl) (fun _ _ _ _ _ _ => (pg_name nd_sure_row (i := 3) rfl (.inl rfl))) rfl (by decide) (SI.any (SE.var 2 rfl (.inl rfl))) rfl (fun _ _ _ _ _ _ => (SE.call (hF 7 "sure_number" ["thing"] rfl) hr rfl (SA.cName (SE.var 3 rfl (.inl rfl)) SA.nil))))))
  SSs.nil)))⟩
theorem b_sure_lot (T : Txt K mg) : BodyOk P w K mg base wf L "sure_lot" (top 49) ["forest", "value"] ⟨4, 2, ir_sure_lot⟩ := ⟨N_sure_lot, sc_sure_lot, rfl, fun cf k hF f cdv A outer s H E hr => have hu := hr.units
  have hu2 := hu66 hr
  have htb := htb_of hF tbl_ok
  (SSs.cons (SS.set 2 nd_sure_lot rfl (.inl rfl) (SE.call (hF 5 "tupled" ["value"] rfl) hr rfl (SA.cName (SE.var 1 rfl (.inl rfl)) SA.nil)))
  (SSs.cons (SS.iff (ST.sw (SW.or (ST.notB (ST.val (SE.isi .tuple rfl T.b_isinstance rfl T.b_tuple (SE.var 2 rfl (.inl rfl))))) (SW.or1 (ST.notB (ST.val (SE.all rfl rfl T.b_all (SE.lc (t := (.one 3)) (own := [("its", 3)]) rfl nd_sure_lot (blk_of rfl) (fun _ _ _ _ _ _ => (pg_name nd_sure_lot (i := 3) rfl (.inl rfl))) rfl (by decide) (SI.any (SE.var 2 rfl (.inl rfl))) rfl (fun _ _ _ _ _ _ => (SE.call (hF 0 "is_number" ["thing"] rfl) hr rfl (SA.cName (SE.var 3 rfl (.inl rfl)) SA.nil)))))))))) (SSs.cons (SS.raise T.x_Unfit ⟨rfl, rfl⟩ rfl rfl)
  SSs.nil) SSs.nil)
  (SSs.cons (SS.iff (ST.sw (SW.or (ST.val (SE.any rfl rfl T.b_any (SE.lc (t := (.one 3)) (own := [("its", 3)]) rfl nd_sure_lot (blk_of rfl) (fun _ _ _ _ _ _ => (pg_name nd_sure_lot (i := 3) rfl (.inl rfl))) rfl (by decide) (SI.any (SE.var 2 rfl (.inl rfl))) rfl (fun _ _ _ _ _ _ => (SE.notB (SE.chain SE.int (SE.var 3 rfl (.inl rfl)) (SE.len rfl T.b_len (SE.ix (SE.var 0 rfl (.inr (.inl rfl))) SE.int)))))))) (SW.or1 (ST.neqv hu (SE.list rfl T.b_list (SE.var 2 rfl (.inl rfl))) (SE.srtSet rfl rfl T.b_sorted rfl T.b_set (SE.var 2 rfl (.inl rfl))))))) (SSs.cons (SS.raise T.x_Unfit ⟨rfl, rfl⟩ rfl rfl)
  SSs.nil) SSs.nil)
  (SSs.cons (SS.ret (SE.var 2 rfl (.inl rfl)))
  SSs.nil))))⟩
theorem b_table_of (T : Txt K mg) : BodyOk P w K mg base wf L "table_of" (top 50) ["forest"] ⟨1, 1, ir_table_of⟩ := ⟨N_table_of, sc_table_of, rfl, fun cf k hF f cdv A outer s H E hr => have hu := hr.units
  have hu2 := hu66 hr
  have htb := htb_of hF tbl_ok
  (SSs.cons (SS.ret (SE.call (hF 24 "table_in" ["forest"] rfl) hr rfl (SA.cCall (SE.call (hF 18 "sure_forest" ["value"] rfl) hr rfl (SA.cName (SE.var 0 rfl (.inl rfl)) SA.nil)) SA.nil)))
  SSs.nil)⟩
theorem b_determinant (T : Txt K mg) : BodyOk P w K mg base wf L "determinant" (top 51) ["forest"] ⟨1, 1, ir_determinant⟩ := ⟨N_determinant, sc_determinant, rfl, fun cf k hF f cdv A outer s H E hr => have hu := hr.units
  have hu2 := hu66 hr
  have htb := htb_of hF tbl_ok
  (SSs.cons (SS.ret (SE.call (hF 25 "determinant_in" ["rows"] rfl) hr rfl (SA.cCall (SE.call (hF 24 "table_in" ["forest"] rfl) hr rfl (SA.cCall (SE.call (hF 18 "sure_forest" ["value"] rfl) hr rfl (SA.cName (SE.var 0 rfl (.inl rfl)) SA.nil)) SA.nil)) SA.nil)))
  SSs.nil)⟩
theorem b_signs (T : Txt K mg) : BodyOk P w K mg base wf L "signs" (top 52) ["forest"] ⟨1, 1, ir_signs⟩ := ⟨N_signs, sc_signs, rfl, fun cf k hF f cdv A outer s H E hr => have hu := hr.units
  have hu2 := hu66 hr
  have htb := htb_of hF tbl_ok
  (SSs.cons (SS.ret (SE.call (hF 30 "signs_in" ["rows"] rfl) hr rfl (SA.cCall (SE.call (hF 24 "table_in" ["forest"] rfl) hr rfl (SA.cCall (SE.call (hF 18 "sure_forest" ["value"] rfl) hr rfl (SA.cName (SE.var 0 rfl (.inl rfl)) SA.nil)) SA.nil)) SA.nil)))
  SSs.nil)⟩
theorem b_diagonal (T : Txt K mg) : BodyOk P w K mg base wf L "diagonal" (top 53) ["forest"] ⟨1, 1, ir_diagonal⟩ := ⟨N_diagonal, sc_diagonal, rfl, fun cf k hF f cdv A outer s H E hr => have hu := hr.units
  have hu2 := hu66 hr
  have htb := htb_of hF tbl_ok
  (SSs.cons (SS.ret (SE.tuple rfl T.b_tuple (SE.call (hF 34 "diagonal_in" ["forest"] rfl) hr rfl (SA.cCall (SE.call (hF 18 "sure_forest" ["value"] rfl) hr rfl (SA.cName (SE.var 0 rfl (.inl rfl)) SA.nil)) SA.nil))))
  SSs.nil)⟩
theorem b_is_below (T : Txt K mg) : BodyOk P w K mg base wf L "is_below" (top 54) ["forest"] ⟨1, 1, ir_is_below⟩ := ⟨N_is_below, sc_is_below, rfl, fun cf k hF f cdv A outer s H E hr => have hu := hr.units
  have hu2 := hu66 hr
  have htb := htb_of hF tbl_ok
  (SSs.cons (SS.ret (SE.call (hF 35 "is_below_in" ["forest"] rfl) hr rfl (SA.cCall (SE.call (hF 18 "sure_forest" ["value"] rfl) hr rfl (SA.cName (SE.var 0 rfl (.inl rfl)) SA.nil)) SA.nil)))
  SSs.nil)⟩
theorem b_inverse_table (T : Txt K mg) : BodyOk P w K mg base wf L "inverse_table" (top 55) ["forest"] ⟨2, 1, ir_inverse_table⟩ := ⟨N_inverse_table, sc_inverse_table, rfl, fun cf k hF f cdv A outer s H E hr => have hu := hr.units
  have hu2 := hu66 hr
  have htb := htb_of hF tbl_ok
  (SSs.cons (SS.set 1 nd_inverse_table rfl (.inl rfl) (SE.call (hF 33 "inverse_in" ["rows"] rfl) hr rfl (SA.cCall (SE.call (hF 24 "table_in" ["forest"] rfl) hr rfl (SA.cCall (SE.call (hF 18 "sure_forest" ["value"] rfl) hr rfl (SA.cName (SE.var 0 rfl (.inl rfl)) SA.nil)) SA.nil)) SA.nil)))
  (SSs.cons (SS.iff (ST.isN (SE.var 1 rfl (.inl rfl))) (SSs.cons (SS.raise T.x_CanNot ⟨rfl, rfl⟩ rfl rfl)
  SSs.nil) SSs.nil)
  (SSs.cons (SS.ret (SE.var 1 rfl (.inl rfl)))
  SSs.nil)))⟩
theorem b_way_between (T : Txt K mg) : BodyOk P w K mg base wf L "way_between" (top 56) ["forest", "place", "other"] ⟨6, 3, ir_way_between⟩ := ⟨N_way_between, sc_way_between, rfl, fun cf k hF f cdv A outer s H E hr => have hu := hr.units
  have hu2 := hu66 hr
  have htb := htb_of hF tbl_ok
  (SSs.cons (SS.set 3 nd_way_between rfl (.inl rfl) (SE.call (hF 18 "sure_forest" ["value"] rfl) hr rfl (SA.cName (SE.var 0 rfl (.inl rfl)) SA.nil)))
  (SSs.cons (SS.set 4 nd_way_between rfl (.inl rfl) (SE.call (hF 19 "sure_place" ["forest", "value"] rfl) hr rfl (SA.cName (SE.var 3 rfl (.inl rfl)) (SA.cName (SE.var 1 rfl (.inl rfl)) SA.nil))))
  (SSs.cons (SS.set 5 nd_way_between rfl (.inl rfl) (SE.call (hF 36 "way_in" ["forest", "one", "other"] rfl) hr rfl (SA.cName (SE.var 3 rfl (.inl rfl)) (SA.cName (SE.var 4 rfl (.inl rfl)) (SA.cCall (SE.call (hF 19 "sure_place" ["forest", "value"] rfl) hr rfl (SA.cName (SE.var 3 rfl (.inl rfl)) (SA.cName (SE.var 2 rfl (.inl rfl)) SA.nil))) SA.nil)))))
  (SSs.cons (SS.iff (ST.isN (SE.var 5 rfl (.inl rfl))) (SSs.cons (SS.raise T.x_CanNot ⟨rfl, rfl⟩ rfl rfl)
  SSs.nil) SSs.nil)
  (SSs.cons (SS.ret (SE.tuple rfl T.b_tuple (SE.var 5 rfl (.inl rfl))))
  SSs.nil)))))⟩
theorem b_left_determinant (T : Txt K mg) : BodyOk P w K mg base wf L "left_determinant" (top 57) ["forest", "places"] ⟨5, 2, ir_left_determinant⟩ := ⟨N_left_determinant, sc_left_determinant, rfl, fun cf k hF f cdv A outer s H E hr => have hu := hr.units
  have hu2 := hu66 hr
  have htb := htb_of hF tbl_ok
  (SSs.cons (SS.set 2 nd_left_determinant rfl (.inl rfl) (SE.call (hF 18 "sure_forest" ["value"] rfl) hr rfl (SA.cName (SE.var 0 rfl (.inl rfl)) SA.nil)))
  (SSs.cons (SS.set 3 nd_left_determinant rfl (.inr rfl) (SE.call (hF 38 "sure_lot" ["forest", "value"] rfl) hr rfl (SA.cName (SE.var 2 rfl (.inl rfl)) (SA.cName (SE.var 1 rfl (.inl rfl)) SA.nil))))
  (SSs.cons (SS.ret (SE.call (hF 25 "determinant_in" ["rows"] rfl) hr rfl (SA.cCall (SE.call (hF 24 "table_in" ["forest"] rfl) hr rfl (SA.cCall (SE.call (hF 22 "part_in" ["forest", "places"] rfl) hr rfl (SA.cName (SE.var 2 rfl (.inl rfl)) (SA.cons (SE.lc (t := (.one 4)) (own := [("place", 4)]) rfl nd_left_determinant (blk_of rfl) (fun _ _ _ _ _ _ => (pg_name nd_left_determinant (i := 4) rfl (.inl rfl))) rfl (by decide) (SI.rng1 rfl T.b_range (SE.len rfl T.b_len (SE.ix (SE.var 2 rfl (.inl rfl)) SE.int))) (fun _ _ _ _ _ _ => (ST.of1 (SE.ninn hu2 (SE.var 4 rfl (.inl rfl)) (SE.var 3 rfl (.inr (.inl rfl)))))) (fun _ _ _ _ _ _ => (SE.var 4 rfl (.inl rfl)))) SA.nil))) SA.nil)) SA.nil)))
  SSs.nil)))⟩
theorem b_row_times (T : Txt K mg) : BodyOk P w K mg base wf L "row_times" (top 58) ["forest", "row"] ⟨7, 2, ir_row_times⟩ := ⟨N_row_times, sc_row_times, rfl, fun cf k hF f cdv A outer s H E hr => have hu := hr.units
  have hu2 := hu66 hr
  have htb := htb_of hF tbl_ok
  (SSs.cons (SS.set 2 nd_row_times rfl (.inl rfl) (SE.call (hF 18 "sure_forest" ["value"] rfl) hr rfl (SA.cName (SE.var 0 rfl (.inl rfl)) SA.nil)))
  (SSs.cons (SS.set 3 nd_row_times rfl (.inr rfl) (SE.call (hF 37 "sure_row" ["forest", "value"] rfl) hr rfl (SA.cName (SE.var 2 rfl (.inl rfl)) (SA.cName (SE.var 1 rfl (.inl rfl)) SA.nil))))
  (SSs.cons (SS.ret (SE.tuple rfl T.b_tuple (SE.lc (t := (.one 4)) (own := [("line", 4)]) rfl nd_row_times (blk_of rfl) (fun _ _ _ _ _ _ => (pg_name nd_row_times (i := 4) rfl (.inl rfl))) rfl (by decide) (SI.any (SE.call (hF 24 "table_in" ["forest"] rfl) hr rfl (SA.cName (SE.var 2 rfl (.inl rfl)) SA.nil))) rfl (fun _ _ _ _ _ _ => (SE.sum rfl rfl T.b_sum (SE.lc (t := (.tup [5, 6])) (own := [("one", 5), ("other", 6)]) rfl nd_row_times (blk_of rfl) (fun _ _ _ _ _ _ => pg_tup rfl (pgs_cons (pg_name nd_row_times (i := 5) rfl (.inl rfl)) (pgs_cons (pg_name nd_row_times (i := 6) rfl (.inl rfl)) pgs_nil))) rfl (by decide) (SI.zip rfl T.b_zip (SE.var 4 rfl (.inl rfl)) (SE.var 3 rfl (.inr (.inl rfl)))) rfl (fun _ _ _ _ _ _ => (SE.bin (SE.var 5 rfl (.inl rfl)) (SE.var 6 rfl (.inl rfl))))))))))
  SSs.nil)))⟩
theorem b_row_over (T : Txt K mg) : BodyOk P w K mg base wf L "row_over" (top 59) ["forest", "row"] ⟨6, 2, ir_row_over⟩ := ⟨N_row_over, sc_row_over, rfl, fun cf k hF f cdv A outer s H E hr => have hu := hr.units
  have hu2 := hu66 hr
  have htb := htb_of hF tbl_ok
  (SSs.cons (SS.set 2 nd_row_over rfl (.inl rfl) (SE.call (hF 18 "sure_forest" ["value"] rfl) hr rfl (SA.cName (SE.var 0 rfl (.inl rfl)) SA.nil)))
  (SSs.cons (SS.set 3 nd_row_over rfl (.inl rfl) (SE.call (hF 37 "sure_row" ["forest", "value"] rfl) hr rfl (SA.cName (SE.var 2 rfl (.inl rfl)) (SA.cName (SE.var 1 rfl (.inl rfl)) SA.nil))))
  (SSs.cons (SS.set 4 nd_row_over rfl (.inl rfl) (SE.call (hF 24 "table_in" ["forest"] rfl) hr rfl (SA.cName (SE.var 2 rfl (.inl rfl)) SA.nil)))
  (SSs.cons (SS.iff (ST.cmp (SE.call (hF 25 "determinant_in" ["rows"] rfl) hr rfl (SA.cName (SE.var 4 rfl (.inl rfl)) SA.nil)) SE.int) (SSs.cons (SS.raise T.x_CanNot ⟨rfl, rfl⟩ rfl rfl)
  SSs.nil) SSs.nil)
  (SSs.cons (SS.ret (SE.tuple rfl T.b_tuple (SE.call (hF 32 "solution_in" ["rows", "goal"] rfl) hr rfl (SA.cName (SE.var 4 rfl (.inl rfl)) (SA.cons (SE.lc (t := (.one 5)) (own := [("its", 5)]) rfl nd_row_over (blk_of rfl) (fun _ _ _ _ _ _ => (pg_name nd_row_over (i := 5) rfl (.inl rfl))) rfl (by decide) (SI.any (SE.var 3 rfl (.inl rfl))) rfl (fun _ _ _ _ _ _ => (SE.call (hF 10 "whole" ["number"] rfl) hr rfl (SA.cName (SE.var 5 rfl (.inl rfl)) SA.nil)))) SA.nil)))))
  SSs.nil)))))⟩
theorem b__law_box (T : Txt K mg) : BodyOk P w K mg base wf L "_law_box" (top 61) ["script", "k"] ⟨3, 2, ir__law_box⟩ := ⟨N__law_box, sc__law_box, rfl, fun cf k hF f cdv A outer s H E hr => have hu := hr.units
  have hu2 := hu66 hr
  have htb := htb_of hF tbl_ok
  (SSs.cons (SS.set 2 nd__law_box rfl (.inl rfl) (SE.ite (ST.cmp (SE.var 1 rfl (.inl rfl)) (SE.len rfl T.b_len (SE.var 0 rfl (.inl rfl)))) (SE.ix (SE.var 0 rfl (.inl rfl)) (SE.var 1 rfl (.inl rfl))) SE.int))
  (SSs.cons (SS.ret (SE.lstC (SA.cBinOp (SE.bin (SE.abs rfl T.b_abs (SE.var 2 rfl (.inl rfl))) (SE.intC rfl T.b_int (SE.cmp (SE.abs rfl T.b_abs (SE.var 2 rfl (.inl rfl))) (SE.bin SE.int SE.int)))) (SA.cBinOp (SE.bin (SE.bin (SE.bin (SE.intC rfl T.b_int (SE.var 2 rfl (.inl rfl))) SE.int) (SE.bin SE.int (SE.var 1 rfl (.inl rfl)))) SE.int) (SA.cConstant SE.int SA.nil)))))
  SSs.nil))⟩
theorem b__law_take (T : Txt K mg) : BodyOk P w K mg base wf L "_law_take" (top 62) ["tin", "below_so"] ⟨6, 2, ir__law_take⟩ := ⟨N__law_take, sc__law_take, rfl, fun cf k hF f cdv A outer s H E hr => have hu := hr.units
  have hu2 := hu66 hr
  have htb := htb_of hF tbl_ok
  (SSs.cons (SS.iff (ST.cmp (SE.ix (SE.var 0 rfl (.inl rfl)) SE.int) SE.int) (SSs.cons (SS.set 2 nd__law_take rfl (.inl rfl) (SE.bin (SE.intC rfl T.b_int (SE.ix (SE.var 0 rfl (.inl rfl)) SE.int)) (SE.var 1 rfl (.inl rfl))))
  (SSs.cons (SS.asg (SE.bin (SE.ix (SE.var 0 rfl (.inl rfl)) SE.int) (SE.var 1 rfl (.inl rfl))) (SG.sub (SE.var 0 rfl (.inl rfl)) SE.int))
  (SSs.cons (SS.ret (SE.var 2 rfl (.inl rfl)))
  SSs.nil))) SSs.nil)
  (SSs.cons (SS.asg (SE.bin (SE.ix (SE.var 0 rfl (.inl rfl)) SE.int) SE.int) (SG.sub (SE.var 0 rfl (.inl rfl)) SE.int))
  (SSs.cons (SS.set 3 nd__law_take rfl (.inl rfl) (SE.bin (SE.intC rfl T.b_int (SE.bin (SE.bin (SE.ix (SE.var 0 rfl (.inl rfl)) SE.int) (SE.bin SE.int (SE.ix (SE.var 0 rfl (.inl rfl)) SE.int))) (SE.bin SE.int (SE.ix (SE.var 0 rfl (.inl rfl)) SE.int)))) SE.int))
  (SSs.cons (SS.set 4 nd__law_take rfl (.inl rfl) (SE.bin (SE.bin (SE.intC rfl T.b_int (SE.var 3 rfl (.inl rfl))) SE.int) SE.int))
  (SSs.cons (SS.set 5 nd__law_take rfl (.inl rfl) (SE.bin (SE.intC rfl T.b_int (SE.bin (SE.bin (SE.bin (SE.var 3 rfl (.inl rfl)) (SE.ix (SE.var 0 rfl (.inl rfl)) SE.int)) (SE.bin (SE.ix (SE.var 0 rfl (.inl rfl)) SE.int) SE.int)) (SE.var 4 rfl (.inl rfl)))) SE.int))
  (SSs.cons (SS.ret (SE.bin (SE.intC rfl T.b_int (SE.bin (SE.bin (SE.intC rfl T.b_int (SE.bin (SE.bin (SE.var 5 rfl (.inl rfl)) SE.int) (SE.var 3 rfl (.inl rfl)))) SE.int) SE.int)) (SE.var 1 rfl (.inl rfl))))
  SSs.nil))))))⟩
theorem b__law_cells (T : Txt K mg) : BodyOk P w K mg base wf L "_law_cells" (top 63) ["script", "most_so"] ⟨6, 2, ir__law_cells⟩ := ⟨N__law_cells, sc__law_cells, rfl, fun cf k hF f cdv A outer s H E hr => have hu := hr.units
  have hu2 := hu66 hr
  have htb := htb_of hF tbl_ok
  (SSs.cons (SS.set 2 nd__law_cells rfl (.inl rfl) (SE.orL (SE.listC rfl T.b_list (SE.sl (SE.var 0 rfl (.inl rfl)) SO.none (SO.some (SE.var 1 rfl (.inl rfl))))) (SE.one (SE.lstC (SA.cConstant SE.int SA.nil)))))
  (SSs.cons (SS.forr (passes_of rfl) rfl (SI.enum rfl T.b_enumerate (SE.sl (SE.var 0 rfl (.inl rfl)) (SO.some (SE.var 1 rfl (.inl rfl))) (SO.some SE.int))) (SG.tup rfl (SGs.cons (SG.name 3 nd__law_cells rfl (.inl rfl)) (SGs.cons (SG.name 4 nd__law_cells rfl (.inl rfl)) SGs.nil))) (SSs.cons (SS.set 5 nd__law_cells rfl (.inl rfl) (SE.bin (SE.intC rfl T.b_int (SE.var 3 rfl (.inl rfl))) (SE.var 1 rfl (.inl rfl))))
  (SSs.cons (SS.asg (SE.bin (SE.ix (SE.var 2 rfl (.inl rfl)) (SE.var 5 rfl (.inl rfl))) (SE.bin (SE.var 4 rfl (.inl rfl)) (SE.bin (SE.var 3 rfl (.inl rfl)) SE.int))) (SG.sub (SE.var 2 rfl (.inl rfl)) (SE.var 5 rfl (.inl rfl))))
  SSs.nil)))
  (SSs.cons (SS.ret (SE.var 2 rfl (.inl rfl)))
  SSs.nil)))⟩
theorem b__law_pick (T : Txt K mg) : BodyOk P w K mg base wf L "_law_pick" (top 64) ["tin", "goods_so", "count_so"] ⟨6, 3, ir__law_pick⟩ := ⟨N__law_pick, sc__law_pick, rfl, fun cf k hF f cdv A outer s H E hr => have hu := hr.units
  have hu2 := hu66 hr
  have htb := htb_of hF tbl_ok
  (SSs.cons (SS.par2 3 4 rfl nd__law_pick rfl rfl (by decide) rfl rfl (SE.listC rfl T.b_list (SE.var 1 rfl (.inl rfl))) (SE.lstC SA.nil))
  (SSs.cons (SS.forr (passes_of rfl) rfl (SI.rng1 rfl T.b_range (SE.min rfl rfl T.b_min (SE.intC rfl T.b_int (SE.var 2 rfl (.inl rfl))) (SE.len rfl T.b_len (SE.var 3 rfl (.inl rfl))))) (SG.name 5 nd__law_pick rfl (.inl rfl)) (SSs.cons (SS.expr (SE.append (SE.var 4 rfl (.inl rfl)) (SE.popAt (SE.var 3 rfl (.inl rfl)) (SE.call (hF 50 "_law_take" ["tin", "below_so"] rfl) hr rfl (SA.cName (SE.var 0 rfl (.inl rfl)) (SA.cCall (SE.len rfl T.b_len (SE.var 3 rfl (.inl rfl))) SA.nil))))))
  SSs.nil))
  (SSs.cons (SS.ret (SE.var 4 rfl (.inl rfl)))
  SSs.nil)))⟩
theorem b__law_same (T : Txt K mg) : BodyOk P w K mg base wf L "_law_same" (top 65) ["got", "due"] ⟨4, 2, ir__law_same⟩ := ⟨N__law_same, sc__law_same, rfl, fun cf k hF f cdv A outer s H E hr => have hu := hr.units
  have hu2 := hu66 hr
  have htb := htb_of hF tbl_ok
  (SSs.cons (SS.iff (ST.val (SE.isi2 .list .tuple rfl T.b_isinstance rfl T.b_list rfl T.b_tuple (SE.var 1 rfl (.inl rfl)))) (SSs.cons (SS.iff (ST.sw (SW.or (ST.neqv hu (SE.isi .list rfl T.b_isinstance rfl T.b_list (SE.var 0 rfl (.inl rfl))) (SE.isi .list rfl T.b_isinstance rfl T.b_list (SE.var 1 rfl (.inl rfl)))) (SW.or1 (ST.neqv hu (SE.isi .tuple rfl T.b_isinstance rfl T.b_tuple (SE.var 0 rfl (.inl rfl))) (SE.isi .tuple rfl T.b_isinstance rfl T.b_tuple (SE.var 1 rfl (.inl rfl))))))) (SSs.cons (SS.ret SE.bl)
  SSs.nil) SSs.nil)
  (SSs.cons (SS.ret (SE.and (SE.cmp (SE.len rfl T.b_len (SE.var 0 rfl (.inl rfl))) (SE.len rfl T.b_len (SE.var 1 rfl (.inl rfl)))) (SE.one (SE.all rfl rfl T.b_all (SE.lc (t := (.tup [2, 3])) (own := [("mine", 2), ("its", 3)]) rfl nd__law_same (blk_of rfl) (fun _ _ _ _ _ _ => pg_tup rfl (pgs_cons (pg_name nd__law_same (i := 2) rfl (.inl rfl)) (pgs_cons (pg_name nd__law_same (i := 3) rfl (.inl rfl)) pgs_nil))) rfl (by decide) (SI.zip rfl T.b_zip (SE.var 0 rfl (.inl rfl)) (SE.var 1 rfl (.inl rfl))) rfl (fun _ _ _ _ _ _ => (SE.call (hF 53 "_law_same" ["got", "due"] rfl) hr rfl (SA.cName (SE.var 2 rfl (.inl rfl)) (SA.cName (SE.var 3 rfl (.inl rfl)) SA.nil)))))))))
  SSs.nil)) SSs.nil)
  (SSs.cons (SS.iff (ST.isN (SE.var 1 rfl (.inl rfl))) (SSs.cons (SS.ret (SE.isN (SE.var 0 rfl (.inl rfl))))
  SSs.nil) SSs.nil)
  (SSs.cons (SS.iff (ST.val (SE.isi2 .bool .str rfl T.b_isinstance rfl T.b_bool rfl T.b_str (SE.var 1 rfl (.inl rfl)))) (SSs.cons (SS.ret (SE.and (SE.eqv hu (SE.isi .bool rfl T.b_isinstance rfl T.b_bool (SE.var 0 rfl (.inl rfl))) (SE.isi .bool rfl T.b_isinstance rfl T.b_bool (SE.var 1 rfl (.inl rfl)))) (SE.and (SE.eqv hu (SE.isi .str rfl T.b_isinstance rfl T.b_str (SE.var 0 rfl (.inl rfl))) (SE.isi .str rfl T.b_isinstance rfl T.b_str (SE.var 1 rfl (.inl rfl)))) (SE.one (SE.eqv hu (SE.var 0 rfl (.inl rfl)) (SE.var 1 rfl (.inl rfl)))))))
  SSs.nil) SSs.nil)
  (SSs.cons (SS.ret (SE.and (SE.isi .int rfl T.b_isinstance rfl T.b_int (SE.var 0 rfl (.inl rfl))) (SE.and (SE.notB (SE.isi .bool rfl T.b_isinstance rfl T.b_bool (SE.var 0 rfl (.inl rfl)))) (SE.one (SE.eqv hu (SE.var 0 rfl (.inl rfl)) (SE.var 1 rfl (.inl rfl)))))))
  SSs.nil))))⟩
theorem b__law_heard (T : Txt K mg) : BodyOk P w K mg base wf L "_law_heard" (top 66) ["door", "goods_so"] ⟨5, 2, ir__law_heard⟩ := ⟨N__law_heard, sc__law_heard, rfl, fun cf k hF f cdv A outer s H E hr => have hu := hr.units
  have hu2 := hu66 hr
  have htb := htb_of hF tbl_ok
  (SSs.cons (SS.asg (SE.tup (SA.cConstant SE.non (SA.cConstant SE.non SA.nil))) (SG.tup rfl (SGs.cons (SG.name 2 nd__law_heard rfl (.inl rfl)) (SGs.cons (SG.name 3 nd__law_heard rfl (.inl rfl)) SGs.nil))))
  (SSs.cons (SS.tryy ⟨rfl, rfl⟩ nd__law_heard T.xp (fun _ _ hpo => (SSs.cons (SS.iff (ST.cmp (SE.len rfl T.b_len (SE.var 1 rfl (.inl rfl))) SE.int) (SSs.cons (SS.set 3 nd__law_heard rfl (.inl rfl) (SE.callV 0 htb hr rfl (.inl rfl) (SA.cSubscript (SE.ix (SE.var 1 rfl (.inl rfl)) SE.int) SA.nil)))
  SSs.nil) (SSs.cons (SS.set 3 nd__law_heard rfl (.inl rfl) (SE.ite (ST.cmp (SE.len rfl T.b_len (SE.var 1 rfl (.inl rfl))) SE.int) (SE.callV 0 htb hr rfl (.inl rfl) (SA.cSubscript (SE.ix (SE.var 1 rfl (.inl rfl)) SE.int) (SA.cSubscript (SE.ix (SE.var 1 rfl (.inl rfl)) SE.int) SA.nil))) (SE.callV 0 htb hr rfl (.inl rfl) (SA.cSubscript (SE.ix (SE.var 1 rfl (.inl rfl)) SE.int) (SA.cSubscript (SE.ix (SE.var 1 rfl (.inl rfl)) SE.int) (SA.cSubscript (SE.ix (SE.var 1 rfl (.inl rfl)) SE.int) SA.nil))))))
  SSs.nil))
  SSs.nil)) (.cons (by decide) T.x_CanNot rfl (by decide) rfl rfl rfl rfl (by decide) (by decide) (by decide) rfl T.b_isinstance rfl T.b_ValueError (.cons (by decide) T.x_Unfit rfl (by decide) rfl rfl rfl rfl (by decide) (by decide) (by decide) rfl T.b_isinstance rfl T.b_ValueError .nil)))
  (SSs.cons (SS.ret (SE.ite (ST.notN (SE.var 2 rfl (.inl rfl))) (SE.var 2 rfl (.inl rfl)) (SE.lstC (SA.cConstant SE.str (SA.cons (SE.isN (SE.var 3 rfl (.inl rfl))) SA.nil)))))
  SSs.nil)))⟩
theorem b_law (T : Txt K mg) : BodyOk P w K mg base wf L "law" (top 67) ["script"] ⟨11, 1, ir_law⟩ := ⟨N_law, sc_law, rfl, fun cf k hF f cdv A outer s H E hr => have hu := hr.units
  have hu2 := hu66 hr
  have htb := htb_of hF tbl_ok
  (SSs.cons (SS.set 1 nd_law rfl (.inl rfl) (SE.call (hF 49 "_law_box" ["script", "k"] rfl) hr rfl (SA.cCall (SE.call (hF 51 "_law_cells" ["script", "most_so"] rfl) hr rfl (SA.cName (SE.var 0 rfl (.inl rfl)) (SA.cConstant SE.int SA.nil))) (SA.cConstant SE.int SA.nil))))
  (SSs.cons (SS.asg (SE.tup (SA.cTuple (SE.tup (SA.cTuple (SE.tup (SA.cUnaryOp (SE.neg SE.int) (SA.cUnaryOp (SE.neg SE.int) SA.nil))) (SA.cTuple (SE.tup (SA.cTuple (SE.tup (SA.cConstant SE.int (SA.cConstant SE.int SA.nil))) SA.nil)) SA.nil))) (SA.cTuple (SE.tup (SA.cTuple (SE.tup (SA.cConstant SE.int (SA.cConstant SE.int (SA.cConstant SE.int SA.nil)))) (SA.cTuple (SE.tup SA.nil) SA.nil))) SA.nil))) (SG.tup rfl (SGs.cons (SG.name 2 nd_law rfl (.inr rfl)) (SGs.cons (SG.name 3 nd_law rfl (.inl rfl)) SGs.nil))))
  (SSs.cons (SS.set 4 nd_law rfl (.inr rfl) (SE.lst (SA.cConstant SE.non (SA.cConstant SE.int (SA.cTuple (SE.tup SA.nil) (SA.cTuple (SE.tup (SA.cTuple (SE.tup (SA.cConstant SE.int SA.nil)) SA.nil)) (SA.cTuple (SE.tup (SA.cTuple (SE.tup (SA.cConstant SE.int SA.nil)) (SA.cTuple (SE.tup SA.nil) (SA.cTuple (SE.tup SA.nil) SA.nil)))) (SA.cTuple (SE.tup (SA.cConstant SE.int (SA.cTuple (SE.tup SA.nil) SA.nil))) (SA.cTuple (SE.tup (SA.cTuple (SE.tup (SA.cConstant SE.int (SA.cConstant SE.int SA.nil))) (SA.cTuple (SE.tup (SA.cTuple (SE.tup (SA.cConstant SE.int (SA.cConstant SE.int SA.nil))) SA.nil)) SA.nil))) (SA.cTuple (SE.tup (SA.cTuple (SE.tup (SA.cConstant SE.int (SA.cConstant SE.int SA.nil))) (SA.cTuple (SE.tup (SA.cTuple (SE.tup (SA.cConstant SE.int (SA.cConstant SE.int SA.nil))) SA.nil)) SA.nil))) (SA.cTuple (SE.tup (SA.cTuple (SE.tup (SA.cConstant SE.int (SA.cConstant SE.int SA.nil))) (SA.cTuple (SE.tup (SA.cTuple (SE.tup (SA.cConstant SE.int (SA.cConstant SE.int SA.nil))) SA.nil)) SA.nil))) (SA.cTuple (SE.tup (SA.cTuple (SE.tup (SA.cConstant SE.int (SA.cConstant SE.int SA.nil))) (SA.cTuple (SE.tup (SA.cTuple (SE.tup (SA.cConstant SE.int (SA.cConstant SE.int SA.nil))) (SA.cTuple (SE.tup (SA.cConstant SE.int (SA.cConstant SE.int SA.nil))) SA.nil))) SA.nil))) SA.nil))))))))))))
  (SSs.cons (SS.set 4 nd_law rfl (.inr rfl) (SE.catL (SE.var 4 rfl (.inr (.inl rfl))) (SE.lst (SA.cTuple (SE.tup (SA.cTuple (SE.tup (SA.cConstant SE.int (SA.cConstant SE.int (SA.cConstant SE.int SA.nil)))) (SA.cTuple (SE.tup (SA.cTuple (SE.tup (SA.cConstant SE.int (SA.cConstant SE.int SA.nil))) (SA.cTuple (SE.tup (SA.cConstant SE.int (SA.cConstant SE.int SA.nil))) (SA.cTuple (SE.tup (SA.cConstant SE.int (SA.cConstant SE.int SA.nil))) SA.nil)))) SA.nil))) (SA.cTuple (SE.tup (SA.cTuple (SE.tup (SA.cConstant SE.non SA.nil)) (SA.cTuple (SE.tup SA.nil) SA.nil))) (SA.cTuple (SE.tup (SA.cTuple (SE.tup (SA.cConstant SE.bl SA.nil)) (SA.cTuple (SE.tup SA.nil) SA.nil))) (SA.cTuple (SE.tup (SA.cTuple (SE.tup (SA.cConstant SE.int SA.nil)) (SA.cTuple (SE.tup SA.nil) SA.nil))) (SA.cTuple (SE.tup (SA.cTuple (SE.tup (SA.cUnaryOp (SE.neg SE.int) SA.nil)) (SA.cTuple (SE.tup SA.nil) SA.nil))) (SA.cTuple (SE.tup (SA.cBinOp (SE.repT (SE.tup (SA.cConstant SE.int SA.nil)) SE.int) (SA.cTuple (SE.tup SA.nil) SA.nil))) (SA.cConstant SE.str SA.nil))))))))))
  (SSs.cons (by first | exact SS.setLc 6 (.one 5) (own := [("own", 5)]) rfl nd_law rfl rfl (blk_of rfl) (fun _ _ _ _ _ _ => (pg_name nd_law (i := 5) rfl (.inl rfl))) rfl (by decide) (SI.any (SE.tup (SA.cName (SE.fnv rfl T.f_table_of) (SA.cName (SE.fnv rfl T.f_determinant) (SA.cName (SE.fnv rfl T.f_signs) (SA.cName (SE.fnv rfl T.f_diagonal) (SA.cName (SE.fnv rfl T.f_is_below) (SA.cName (SE.fnv rfl T.f_inverse_table) SA.nil)))))))) rfl (fun _ _ _ _ _ _ => (SE.tup (SA.cName (SE.var 5 rfl (.inl rfl)) (SA.cTuple (SE.tup (SA.cName (SE.var 2 rfl (.inr (.inl rfl))) SA.nil)) (SA.cConstant SE.int (SA.cName (SE.var 4 rfl (.inr (.inl rfl))) SA.nil)))))) | exact SS.set 6 nd_law rfl (.inl rfl) (SE.lc (t := (.one 5)) (own := [("own", 5)]) rfl nd_law (blk_of rfl) (fun _ _ _ _ _ _ => (pg_name nd_law (i := 5) rfl (.inl rfl))) rfl (by decide) (SI.any (SE.tup (SA.cName (SE.fnv rfl T.f_table_of) (SA.cName (SE.fnv rfl T.f_determinant) (SA.cName (SE.fnv rfl T.f_signs) (SA.cName (SE.fnv rfl T.f_diagonal) (SA.cName (SE.fnv rfl T.f_is_below) (SA.cName (SE.fnv rfl T.f_inverse_table) SA.nil)))))))) rfl (fun _ _ _ _ _ _ => (SE.tup (SA.cName (SE.var 5 rfl (.inl rfl)) (SA.cTuple (SE.tup (SA.cName (SE.var 2 rfl (.inr (.inl rfl))) SA.nil)) (SA.cConstant SE.int (SA.cName (SE.var 4 rfl (.inr (.inl rfl))) SA.nil))))))))
  (SSs.cons (SS.forr (passes_of rfl) rfl (SI.any (SE.tup (SA.cName (SE.fnv rfl T.f_row_times) (SA.cName (SE.fnv rfl T.f_row_over) SA.nil)))) (SG.name 7 nd_law rfl (.inl rfl)) (SSs.cons (SS.set 6 nd_law rfl (.inl rfl) (SE.catL (SE.var 6 rfl (.inl rfl)) (SE.lst (SA.cTuple (SE.tup (SA.cName (SE.var 7 rfl (.inl rfl)) (SA.cTuple (SE.tup (SA.cName (SE.var 2 rfl (.inr (.inl rfl))) (SA.cTuple (SE.tup (SA.cConstant SE.int (SA.cConstant SE.int SA.nil))) SA.nil))) (SA.cConstant SE.int (SA.cName (SE.var 4 rfl (.inr (.inl rfl))) SA.nil))))) SA.nil))))
  (SSs.cons (SS.set 6 nd_law rfl (.inl rfl) (SE.catL (SE.var 6 rfl (.inl rfl)) (SE.lst (SA.cTuple (SE.tup (SA.cName (SE.var 7 rfl (.inl rfl)) (SA.cTuple (SE.tup (SA.cName (SE.var 2 rfl (.inr (.inl rfl))) (SA.cTuple (SE.tup (SA.cConstant SE.int (SA.cConstant SE.int SA.nil))) SA.nil))) (SA.cConstant SE.int (SA.cList (SE.lst (SA.cConstant SE.non (SA.cConstant SE.int (SA.cTuple (SE.tup SA.nil) (SA.cTuple (SE.tup (SA.cConstant SE.int SA.nil)) (SA.cTuple (SE.tup (SA.cConstant SE.int (SA.cConstant SE.int (SA.cConstant SE.int SA.nil)))) (SA.cTuple (SE.tup (SA.cConstant SE.int (SA.cConstant SE.non SA.nil))) (SA.cTuple (SE.tup (SA.cConstant SE.int (SA.cConstant SE.bl SA.nil))) (SA.cTuple (SE.tup (SA.cConstant SE.int (SA.cBinOp (SE.bin (SE.bin SE.int SE.int) SE.int) SA.nil))) (SA.cConstant SE.str (SA.cTuple (SE.tup (SA.cConstant SE.int (SA.cTuple (SE.tup (SA.cConstant SE.int SA.nil)) SA.nil))) SA.nil))))))))))) SA.nil))))) SA.nil))))
  (SSs.cons (SS.set 6 nd_law rfl (.inl rfl) (SE.catL (SE.var 6 rfl (.inl rfl)) (SE.lst (SA.cTuple (SE.tup (SA.cName (SE.var 7 rfl (.inl rfl)) (SA.cTuple (SE.tup (SA.cName (SE.var 3 rfl (.inl rfl)) (SA.cTuple (SE.tup (SA.cConstant SE.int (SA.cConstant SE.int (SA.cConstant SE.int SA.nil)))) SA.nil))) (SA.cConstant SE.int (SA.cList (SE.lst (SA.cConstant SE.non (SA.cTuple (SE.tup (SA.cConstant SE.int (SA.cConstant SE.int SA.nil))) SA.nil))) SA.nil))))) SA.nil))))
  SSs.nil))))
  (SSs.cons (SS.set 6 nd_law rfl (.inl rfl) (SE.catL (SE.var 6 rfl (.inl rfl)) (SE.lst (SA.cTuple (SE.tup (SA.cName (SE.fnv rfl T.f_way_between) (SA.cTuple (SE.tup (SA.cName (SE.var 2 rfl (.inr (.inl rfl))) (SA.cConstant SE.int (SA.cConstant SE.int SA.nil)))) (SA.cConstant SE.int (SA.cName (SE.var 4 rfl (.inr (.inl rfl))) SA.nil))))) (SA.cTuple (SE.tup (SA.cName (SE.fnv rfl T.f_way_between) (SA.cTuple (SE.tup (SA.cName (SE.var 2 rfl (.inr (.inl rfl))) (SA.cConstant SE.int (SA.cConstant SE.int SA.nil)))) (SA.cConstant SE.int (SA.cList (SE.lst (SA.cConstant SE.non (SA.cUnaryOp (SE.neg SE.int) (SA.cConstant SE.int (SA.cConstant SE.bl (SA.cConstant SE.str (SA.cTuple (SE.tup (SA.cConstant SE.int SA.nil)) SA.nil))))))) SA.nil))))) SA.nil)))))
  (SSs.cons (SS.set 6 nd_law rfl (.inl rfl) (SE.catL (SE.var 6 rfl (.inl rfl)) (SE.lst (SA.cTuple (SE.tup (SA.cName (SE.fnv rfl T.f_way_between) (SA.cTuple (SE.tup (SA.cName (SE.var 3 rfl (.inl rfl)) (SA.cConstant SE.int (SA.cConstant SE.int SA.nil)))) (SA.cConstant SE.int (SA.cList (SE.lst (SA.cConstant SE.non (SA.cUnaryOp (SE.neg SE.int) (SA.cConstant SE.int (SA.cConstant SE.bl (SA.cConstant SE.str SA.nil)))))) SA.nil))))) SA.nil))))
  (SSs.cons (SS.set 6 nd_law rfl (.inl rfl) (SE.catL (SE.var 6 rfl (.inl rfl)) (SE.lst (SA.cTuple (SE.tup (SA.cName (SE.fnv rfl T.f_left_determinant) (SA.cTuple (SE.tup (SA.cName (SE.var 2 rfl (.inr (.inl rfl))) (SA.cTuple (SE.tup (SA.cConstant SE.int SA.nil)) SA.nil))) (SA.cConstant SE.int (SA.cName (SE.var 4 rfl (.inr (.inl rfl))) SA.nil))))) (SA.cTuple (SE.tup (SA.cName (SE.fnv rfl T.f_left_determinant) (SA.cTuple (SE.tup (SA.cName (SE.var 2 rfl (.inr (.inl rfl))) (SA.cTuple (SE.tup (SA.cConstant SE.int SA.nil)) SA.nil))) (SA.cConstant SE.int (SA.cList (SE.lst (SA.cConstant SE.non (SA.cConstant SE.int (SA.cTuple (SE.tup (SA.cConstant SE.int SA.nil)) (SA.cTuple (SE.tup (SA.cUnaryOp (SE.neg SE.int) SA.nil)) (SA.cTuple (SE.tup (SA.cConstant SE.int (SA.cConstant SE.int SA.nil))) (SA.cTuple (SE.tup (SA.cConstant SE.int (SA.cConstant SE.int SA.nil))) (SA.cTuple (SE.tup (SA.cConstant SE.non SA.nil)) (SA.cTuple (SE.tup (SA.cConstant SE.bl SA.nil)) (SA.cConstant SE.str (SA.cTuple (SE.tup (SA.cTuple (SE.tup (SA.cConstant SE.int SA.nil)) SA.nil)) SA.nil))))))))))) SA.nil))))) SA.nil)))))
  (SSs.cons (SS.forr (passes_of rfl) rfl (SI.any (SE.call (hF 52 "_law_pick" ["tin", "goods_so", "count_so"] rfl) hr rfl (SA.cName (SE.var 1 rfl (.inl rfl)) (SA.cName (SE.var 6 rfl (.inl rfl)) (SA.cConstant SE.int SA.nil))))) (SG.tup rfl (SGs.cons (SG.name 7 nd_law rfl (.inl rfl)) (SGs.cons (SG.name 8 nd_law rfl (.inl rfl)) (SGs.cons (SG.name 9 nd_law rfl (.inl rfl)) (SGs.cons (SG.name 10 nd_law rfl (.inl rfl)) SGs.nil))))) (SSs.cons (SS.forr (passes_of rfl) rfl (SI.any (SE.var 10 rfl (.inl rfl))) (SG.name 5 nd_law rfl (.inl rfl)) (SSs.cons (SS.iff (ST.notB (ST.val (SE.call (hF 53 "_law_same" ["got", "due"] rfl) hr rfl (SA.cCall (SE.call (hF 54 "_law_heard" ["door", "goods_so"] rfl) hr rfl (SA.cName (SE.var 7 rfl (.inl rfl)) (SA.cBinOp (SE.addX (SE.addX (SE.sl (SE.var 8 rfl (.inl rfl)) SO.none (SO.some (SE.var 9 rfl (.inl rfl)))) (SE.tup (SA.cName (SE.var 5 rfl (.inl rfl)) SA.nil))) (SE.sl (SE.var 8 rfl (.inl rfl)) (SO.some (SE.bin (SE.var 9 rfl (.inl rfl)) SE.int)) SO.none)) SA.nil))) (SA.cList (SE.lst (SA.cConstant SE.str (SA.cConstant SE.bl SA.nil))) SA.nil))))) (SSs.cons (SS.ret SE.bl)
  SSs.nil) SSs.nil)
  SSs.nil))
  SSs.nil))
  (SSs.cons (SS.set 8 nd_law rfl (.inl rfl) (SE.lst (SA.cTuple (SE.tup (SA.cName (SE.fnv rfl T.f_table_of) (SA.cTuple (SE.tup (SA.cTuple (SE.tup (SA.cTuple (SE.tup (SA.cConstant SE.int (SA.cUnaryOp (SE.neg SE.int) SA.nil))) (SA.cTuple (SE.tup SA.nil) SA.nil))) SA.nil)) SA.nil))) (SA.cTuple (SE.tup (SA.cName (SE.fnv rfl T.f_determinant) (SA.cTuple (SE.tup (SA.cTuple (SE.tup (SA.cBinOp (SE.repT (SE.tup (SA.cConstant SE.int SA.nil)) SE.int) (SA.cTuple (SE.tup SA.nil) SA.nil))) SA.nil)) SA.nil))) (SA.cTuple (SE.tup (SA.cName (SE.fnv rfl T.f_row_times) (SA.cTuple (SE.tup (SA.cName (SE.var 2 rfl (.inr (.inl rfl))) (SA.cTuple (SE.tup (SA.cBinOp (SE.bin SE.int SE.int) (SA.cUnaryOp (SE.neg (SE.bin SE.int SE.int)) SA.nil))) SA.nil))) SA.nil))) (SA.cTuple (SE.tup (SA.cName (SE.fnv rfl T.f_left_determinant) (SA.cTuple (SE.tup (SA.cName (SE.var 2 rfl (.inr (.inl rfl))) (SA.cTuple (SE.tup (SA.cConstant SE.int (SA.cConstant SE.int SA.nil))) SA.nil))) SA.nil))) SA.nil))))))
  (SSs.cons (SS.set 8 nd_law rfl (.inl rfl) (SE.catL (SE.var 8 rfl (.inl rfl)) (SE.lst (SA.cTuple (SE.tup (SA.cName (SE.fnv rfl T.f_way_between) (SA.cTuple (SE.tup (SA.cName (SE.var 2 rfl (.inr (.inl rfl))) (SA.cConstant SE.int (SA.cConstant SE.int SA.nil)))) SA.nil))) (SA.cTuple (SE.tup (SA.cName (SE.fnv rfl T.f_row_over) (SA.cTuple (SE.tup (SA.cName (SE.var 2 rfl (.inr (.inl rfl))) (SA.cList (SE.lst (SA.cConstant SE.int (SA.cConstant SE.int SA.nil))) SA.nil))) SA.nil))) SA.nil)))))
  (SSs.cons (SS.iff (ST.notB (ST.val (SE.call (hF 53 "_law_same" ["got", "due"] rfl) hr rfl (SA.cons (SE.lcx (t := (.tup [7, 5])) (own := [("door", 7), ("own", 5)]) (c := false) ⟨rfl, rfl⟩ rfl nd_law (blk_of rfl) (fun _ _ _ _ _ _ => pg_tup rfl (pgs_cons (pg_name nd_law (i := 7) rfl (.inl rfl)) (pgs_cons (pg_name nd_law (i := 5) rfl (.inl rfl)) pgs_nil))) rfl (by decide) (SI.any (SE.var 8 rfl (.inl rfl))) rfl (fun _ _ _ _ _ _ => (SE.call (hF 54 "_law_heard" ["door", "goods_so"] rfl) hr rfl (SA.cName (SE.var 7 rfl (.inl rfl)) (SA.cName (SE.var 5 rfl (.inl rfl)) SA.nil))))) (SA.cBinOp (SE.repL (SE.lst (SA.cList (SE.lst (SA.cConstant SE.str (SA.cConstant SE.bl SA.nil))) SA.nil)) SE.int) SA.nil))))) (SSs.cons (SS.ret SE.bl)
  SSs.nil) SSs.nil)
  (SSs.cons (SS.ret (SE.call (hF 53 "_law_same" ["got", "due"] rfl) hr rfl (SA.cList (SE.lst (SA.cCall (SE.call (hF 54 "_law_heard" ["door", "goods_so"] rfl) hr rfl (SA.cName (SE.fnv rfl T.f_inverse_table) (SA.cTuple (SE.tup (SA.cName (SE.var 3 rfl (.inl rfl)) SA.nil)) SA.nil))) (SA.cCall (SE.call (hF 54 "_law_heard" ["door", "goods_so"] rfl) hr rfl (SA.cName (SE.fnv rfl T.f_row_over) (SA.cTuple (SE.tup (SA.cName (SE.var 3 rfl (.inl rfl)) (SA.cTuple (SE.tup (SA.cConstant SE.int (SA.cConstant SE.int (SA.cConstant SE.int SA.nil)))) SA.nil))) SA.nil))) (SA.cCall (SE.call (hF 54 "_law_heard" ["door", "goods_so"] rfl) hr rfl (SA.cName (SE.fnv rfl T.f_way_between) (SA.cTuple (SE.tup (SA.cName (SE.var 3 rfl (.inl rfl)) (SA.cConstant SE.int (SA.cConstant SE.int SA.nil)))) SA.nil))) SA.nil)))) (SA.cBinOp (SE.repL (SE.lst (SA.cList (SE.lst (SA.cConstant SE.str (SA.cConstant SE.bl SA.nil))) SA.nil)) SE.int) SA.nil))))
  SSs.nil))))))))))))))⟩
end
theorem all_mk {l : PySem.W.OpenLaw} {w : World} {K : PySem.W.Frag} {h : Heap} {mg : Str → Option Value} {fa : Addr} {wf kk : Nat} {f0 f1 f2 f3 f4 f5 f6 f7 f8 f9 f10 f11 f12 f13 f14 f15 f16 f17 f18 f19 f20 f21 f22 f23 f24 f25 f26 f27 f28 f29 f30 f31 f32 f33 f34 f35 f36 f37 f38 f39 f40 f41 f42 f43 f44 f45 f46 f47 f48 f49 f50 f51 f52 f53 f54 f55 : Addr} (X : K.In h) (G : h.Ns mainGlobals mg) (hfa : mg "law" = some (.ref fa))
  {od0 an0 od1 an1 od2 an2 od3 an3 od4 an4 od5 an5 od6 an6 od7 an7 od8 an8 od9 an9 od10 an10 od11 an11 od12 an12 od13 an13 od14 an14 od15 an15 od16 an16 od17 an17 od18 an18 od19 an19 od20 an20 od21 an21 od22 an22 od23 an23 od24 an24 od25 an25 od26 an26 od27 an27 od28 an28 od29 an29 od30 an30 od31 an31 od32 an32 od33 an33 od34 an34 od35 an35 od36 an36 od37 an37 od38 an38 od39 an39 od40 an40 od41 an41 od42 an42 od43 an43 od44 an44 od45 an45 od46 an46 od47 an47 od48 an48 od49 an49 od50 an50 od51 an51 od52 an52 od53 an53 od54 an54 od55 an55 : Option Addr} {sl0 sl1 sl2 sl3 sl4 sl5 sl6 sl7 sl8 sl9 sl10 sl11 sl12 sl13 sl14 sl15 sl16 sl17 sl18 sl19 sl20 sl21 sl22 sl23 sl24 sl25 sl26 sl27 sl28 sl29 sl30 sl31 sl32 sl33 sl34 sl35 sl36 sl37 sl38 sl39 sl40 sl41 sl42 sl43 sl44 sl45 sl46 sl47 sl48 sl49 sl50 sl51 sl52 sl53 sl54 sl55 : Array (Option Value)} {oc0 kV0 dc0 pm0 cd0 ct0 oc1 kV1 dc1 pm1 cd1 ct1 oc2 kV2 dc2 pm2 cd2 ct2 oc3 kV3 dc3 pm3 cd3 ct3 oc4 kV4 dc4 pm4 cd4 ct4 oc5 kV5 dc5 pm5 cd5 ct5 oc6 kV6 dc6 pm6 cd6 ct6 oc7 kV7 dc7 pm7 cd7 ct7 oc8 kV8 dc8 pm8 cd8 ct8 oc9 kV9 dc9 pm9 cd9 ct9 oc10 kV10 dc10 pm10 cd10 ct10 oc11 kV11 dc11 pm11 cd11 ct11 oc12 kV12 dc12 pm12 cd12 ct12 oc13 kV13 dc13 pm13 cd13 ct13 oc14 kV14 dc14 pm14 cd14 ct14 oc15 kV15 dc15 pm15 cd15 ct15 oc16 kV16 dc16 pm16 cd16 ct16 oc17 kV17 dc17 pm17 cd17 ct17 oc18 kV18 dc18 pm18 cd18 ct18 oc19 kV19 dc19 pm19 cd19 ct19 oc20 kV20 dc20 pm20 cd20 ct20 oc21 kV21 dc21 pm21 cd21 ct21 oc22 kV22 dc22 pm22 cd22 ct22 oc23 kV23 dc23 pm23 cd23 ct23 oc24 kV24 dc24 pm24 cd24 ct24 oc25 kV25 dc25 pm25 cd25 ct25 oc26 kV26 dc26 pm26 cd26 ct26 oc27 kV27 dc27 pm27 cd27 ct27 oc28 kV28 dc28 pm28 cd28 ct28 oc29 kV29 dc29 pm29 cd29 ct29 oc30 kV30 dc30 pm30 cd30 ct30 oc31 kV31 dc31 pm31 cd31 ct31 oc32 kV32 dc32 pm32 cd32 ct32 oc33 kV33 dc33 pm33 cd33 ct33 oc34 kV34 dc34 pm34 cd34 ct34 oc35 kV35 dc35 pm35 cd35 ct35 oc36 kV36 dc36 pm36 cd36 ct36 oc37 kV37 dc37 pm37 cd37 ct37 oc38 kV38 dc38 pm38 cd38 ct38 oc39 kV39 dc39 pm39 cd39 ct39 oc40 kV40 dc40 pm40 cd40 ct40 oc41 kV41 dc41 pm41 cd41 ct41 oc42 kV42 dc42 pm42 cd42 ct42 oc43 kV43 dc43 pm43 cd43 ct43 oc44 kV44 dc44 pm44 cd44 ct44 oc45 kV45 dc45 pm45 cd45 ct45 oc46 kV46 dc46 pm46 cd46 ct46 oc47 kV47 dc47 pm47 cd47 ct47 oc48 kV48 dc48 pm48 cd48 ct48 oc49 kV49 dc49 pm49 cd49 ct49 oc50 kV50 dc50 pm50 cd50 ct50 oc51 kV51 dc51 pm51 cd51 ct51 oc52 kV52 dc52 pm52 cd52 ct52 oc53 kV53 dc53 pm53 cd53 ct53 oc54 kV54 dc54 pm54 cd54 ct54 oc55 kV55 dc55 pm55 cd55 ct55 : Value} {C_CanNot : Addr} {C_Unfit : Addr} {a_LONE : Addr} {od_LONE : Option Addr} {n_LONE : Nat} {sl_LONE : Array (Option Value)} {t_LONE_0 t_LONE_1 : Tok} {t_MOST : Tok} {t_MOST_PLACES : Tok} {t_MOST_WEIGHT : Tok} {a_NOUGHT : Addr} {od_NOUGHT : Option Addr} {n_NOUGHT : Nat} {sl_NOUGHT : Array (Option Value)} {t_NOUGHT_0 t_NOUGHT_1 : Tok}
  (a0 : PySem.W.nsIn K mainGlobals "is_number" = some (some (.ref f0))) (l0 : K.lookup f0 = some ⟨oc0, od0, .func (PySem.W.fnOf "is_number" "is_number" (defArgs (top 5)) (defBody (top 5)) (defScope (top 5)) .none kV0 dc0 pm0 an0 cd0 ct0), sl0⟩) (c0 : PySem.W.codeIn K cd0 "is_number" = true) (k0 : PySem.W.keepIn K (.ref f0) = true)
  (a1 : PySem.W.nsIn K mainGlobals "is_within" = some (some (.ref f1))) (l1 : K.lookup f1 = some ⟨oc1, od1, .func (PySem.W.fnOf "is_within" "is_within" (defArgs (top 6)) (defBody (top 6)) (defScope (top 6)) .none kV1 dc1 pm1 an1 cd1 ct1), sl1⟩) (c1 : PySem.W.codeIn K cd1 "is_within" = true) (k1 : PySem.W.keepIn K (.ref f1) = true)
  (a2 : PySem.W.nsIn K mainGlobals "is_long" = some (some (.ref f2))) (l2 : K.lookup f2 = some ⟨oc2, od2, .func (PySem.W.fnOf "is_long" "is_long" (defArgs (top 7)) (defBody (top 7)) (defScope (top 7)) .none kV2 dc2 pm2 an2 cd2 ct2), sl2⟩) (c2 : PySem.W.codeIn K cd2 "is_long" = true) (k2 : PySem.W.keepIn K (.ref f2) = true)
  (a3 : PySem.W.nsIn K mainGlobals "are_numbers" = some (some (.ref f3))) (l3 : K.lookup f3 = some ⟨oc3, od3, .func (PySem.W.fnOf "are_numbers" "are_numbers" (defArgs (top 8)) (defBody (top 8)) (defScope (top 8)) .none kV3 dc3 pm3 an3 cd3 ct3), sl3⟩) (c3 : PySem.W.codeIn K cd3 "are_numbers" = true) (k3 : PySem.W.keepIn K (.ref f3) = true)
  (a4 : PySem.W.nsIn K mainGlobals "ascends" = some (some (.ref f4))) (l4 : K.lookup f4 = some ⟨oc4, od4, .func (PySem.W.fnOf "ascends" "ascends" (defArgs (top 9)) (defBody (top 9)) (defScope (top 9)) .none kV4 dc4 pm4 an4 cd4 ct4), sl4⟩) (c4 : PySem.W.codeIn K cd4 "ascends" = true) (k4 : PySem.W.keepIn K (.ref f4) = true)
  (a5 : PySem.W.nsIn K mainGlobals "tupled" = some (some (.ref f5))) (l5 : K.lookup f5 = some ⟨oc5, od5, .func (PySem.W.fnOf "tupled" "tupled" (defArgs (top 10)) (defBody (top 10)) (defScope (top 10)) .none kV5 dc5 pm5 an5 cd5 ct5), sl5⟩) (c5 : PySem.W.codeIn K cd5 "tupled" = true) (k5 : PySem.W.keepIn K (.ref f5) = true)
  (a6 : PySem.W.nsIn K mainGlobals "sure_within" = some (some (.ref f6))) (l6 : K.lookup f6 = some ⟨oc6, od6, .func (PySem.W.fnOf "sure_within" "sure_within" (defArgs (top 11)) (defBody (top 11)) (defScope (top 11)) .none kV6 dc6 pm6 an6 cd6 ct6), sl6⟩) (c6 : PySem.W.codeIn K cd6 "sure_within" = true) (k6 : PySem.W.keepIn K (.ref f6) = true)
  (a7 : PySem.W.nsIn K mainGlobals "sure_number" = some (some (.ref f7))) (l7 : K.lookup f7 = some ⟨oc7, od7, .func (PySem.W.fnOf "sure_number" "sure_number" (defArgs (top 12)) (defBody (top 12)) (defScope (top 12)) .none kV7 dc7 pm7 an7 cd7 ct7), sl7⟩) (c7 : PySem.W.codeIn K cd7 "sure_number" = true) (k7 : PySem.W.keepIn K (.ref f7) = true)
  (a8 : PySem.W.nsIn K mainGlobals "common" = some (some (.ref f8))) (l8 : K.lookup f8 = some ⟨oc8, od8, .func (PySem.W.fnOf "common" "common" (defArgs (top 13)) (defBody (top 13)) (defScope (top 13)) .none kV8 dc8 pm8 an8 cd8 ct8), sl8⟩) (c8 : PySem.W.codeIn K cd8 "common" = true) (k8 : PySem.W.keepIn K (.ref f8) = true)
  (a9 : PySem.W.nsIn K mainGlobals "cut_down" = some (some (.ref f9))) (l9 : K.lookup f9 = some ⟨oc9, od9, .func (PySem.W.fnOf "cut_down" "cut_down" (defArgs (top 14)) (defBody (top 14)) (defScope (top 14)) .none kV9 dc9 pm9 an9 cd9 ct9), sl9⟩) (c9 : PySem.W.codeIn K cd9 "cut_down" = true) (k9 : PySem.W.keepIn K (.ref f9) = true)
  (a10 : PySem.W.nsIn K mainGlobals "whole" = some (some (.ref f10))) (l10 : K.lookup f10 = some ⟨oc10, od10, .func (PySem.W.fnOf "whole" "whole" (defArgs (top 15)) (defBody (top 15)) (defScope (top 15)) .none kV10 dc10 pm10 an10 cd10 ct10), sl10⟩) (c10 : PySem.W.codeIn K cd10 "whole" = true) (k10 : PySem.W.keepIn K (.ref f10) = true)
  (a11 : PySem.W.nsIn K mainGlobals "added" = some (some (.ref f11))) (l11 : K.lookup f11 = some ⟨oc11, od11, .func (PySem.W.fnOf "added" "added" (defArgs (top 16)) (defBody (top 16)) (defScope (top 16)) .none kV11 dc11 pm11 an11 cd11 ct11), sl11⟩) (c11 : PySem.W.codeIn K cd11 "added" = true) (k11 : PySem.W.keepIn K (.ref f11) = true)
  (a12 : PySem.W.nsIn K mainGlobals "taken" = some (some (.ref f12))) (l12 : K.lookup f12 = some ⟨oc12, od12, .func (PySem.W.fnOf "taken" "taken" (defArgs (top 17)) (defBody (top 17)) (defScope (top 17)) .none kV12 dc12 pm12 an12 cd12 ct12), sl12⟩) (c12 : PySem.W.codeIn K cd12 "taken" = true) (k12 : PySem.W.keepIn K (.ref f12) = true)
  (a13 : PySem.W.nsIn K mainGlobals "times" = some (some (.ref f13))) (l13 : K.lookup f13 = some ⟨oc13, od13, .func (PySem.W.fnOf "times" "times" (defArgs (top 18)) (defBody (top 18)) (defScope (top 18)) .none kV13 dc13 pm13 an13 cd13 ct13), sl13⟩) (c13 : PySem.W.codeIn K cd13 "times" = true) (k13 : PySem.W.keepIn K (.ref f13) = true)
  (a14 : PySem.W.nsIn K mainGlobals "over" = some (some (.ref f14))) (l14 : K.lookup f14 = some ⟨oc14, od14, .func (PySem.W.fnOf "over" "over" (defArgs (top 19)) (defBody (top 19)) (defScope (top 19)) .none kV14 dc14 pm14 an14 cd14 ct14), sl14⟩) (c14 : PySem.W.codeIn K cd14 "over" = true) (k14 : PySem.W.keepIn K (.ref f14) = true)
  (a15 : PySem.W.nsIn K mainGlobals "is_edge_of" = some (some (.ref f15))) (l15 : K.lookup f15 = some ⟨oc15, od15, .func (PySem.W.fnOf "is_edge_of" "is_edge_of" (defArgs (top 23)) (defBody (top 23)) (defScope (top 23)) .none kV15 dc15 pm15 an15 cd15 ct15), sl15⟩) (c15 : PySem.W.codeIn K cd15 "is_edge_of" = true) (k15 : PySem.W.keepIn K (.ref f15) = true)
  (a16 : PySem.W.nsIn K mainGlobals "has_ring" = some (some (.ref f16))) (l16 : K.lookup f16 = some ⟨oc16, od16, .func (PySem.W.fnOf "has_ring" "has_ring" (defArgs (top 24)) (defBody (top 24)) (defScope (top 24)) .none kV16 dc16 pm16 an16 cd16 ct16), sl16⟩) (c16 : PySem.W.codeIn K cd16 "has_ring" = true) (k16 : PySem.W.keepIn K (.ref f16) = true)
  (a17 : PySem.W.nsIn K mainGlobals "is_forest_in" = some (some (.ref f17))) (l17 : K.lookup f17 = some ⟨oc17, od17, .func (PySem.W.fnOf "is_forest_in" "is_forest_in" (defArgs (top 25)) (defBody (top 25)) (defScope (top 25)) .none kV17 dc17 pm17 an17 cd17 ct17), sl17⟩) (c17 : PySem.W.codeIn K cd17 "is_forest_in" = true) (k17 : PySem.W.keepIn K (.ref f17) = true)
  (a18 : PySem.W.nsIn K mainGlobals "sure_forest" = some (some (.ref f18))) (l18 : K.lookup f18 = some ⟨oc18, od18, .func (PySem.W.fnOf "sure_forest" "sure_forest" (defArgs (top 26)) (defBody (top 26)) (defScope (top 26)) .none kV18 dc18 pm18 an18 cd18 ct18), sl18⟩) (c18 : PySem.W.codeIn K cd18 "sure_forest" = true) (k18 : PySem.W.keepIn K (.ref f18) = true)
  (a19 : PySem.W.nsIn K mainGlobals "sure_place" = some (some (.ref f19))) (l19 : K.lookup f19 = some ⟨oc19, od19, .func (PySem.W.fnOf "sure_place" "sure_place" (defArgs (top 27)) (defBody (top 27)) (defScope (top 27)) .none kV19 dc19 pm19 an19 cd19 ct19), sl19⟩) (c19 : PySem.W.codeIn K cd19 "sure_place" = true) (k19 : PySem.W.keepIn K (.ref f19) = true)
  (a20 : PySem.W.nsIn K mainGlobals "neighbours_in" = some (some (.ref f20))) (l20 : K.lookup f20 = some ⟨oc20, od20, .func (PySem.W.fnOf "neighbours_in" "neighbours_in" (defArgs (top 28)) (defBody (top 28)) (defScope (top 28)) .none kV20 dc20 pm20 an20 cd20 ct20), sl20⟩) (c20 : PySem.W.codeIn K cd20 "neighbours_in" = true) (k20 : PySem.W.keepIn K (.ref f20) = true)
  (a21 : PySem.W.nsIn K mainGlobals "pieces_in" = some (some (.ref f21))) (l21 : K.lookup f21 = some ⟨oc21, od21, .func (PySem.W.fnOf "pieces_in" "pieces_in" (defArgs (top 29)) (defBody (top 29)) (defScope (top 29)) .none kV21 dc21 pm21 an21 cd21 ct21), sl21⟩) (c21 : PySem.W.codeIn K cd21 "pieces_in" = true) (k21 : PySem.W.keepIn K (.ref f21) = true)
  (a22 : PySem.W.nsIn K mainGlobals "part_in" = some (some (.ref f22))) (l22 : K.lookup f22 = some ⟨oc22, od22, .func (PySem.W.fnOf "part_in" "part_in" (defArgs (top 30)) (defBody (top 30)) (defScope (top 30)) .none kV22 dc22 pm22 an22 cd22 ct22), sl22⟩) (c22 : PySem.W.codeIn K cd22 "part_in" = true) (k22 : PySem.W.keepIn K (.ref f22) = true)
  (a23 : PySem.W.nsIn K mainGlobals "order_from" = some (some (.ref f23))) (l23 : K.lookup f23 = some ⟨oc23, od23, .func (PySem.W.fnOf "order_from" "order_from" (defArgs (top 31)) (defBody (top 31)) (defScope (top 31)) .none kV23 dc23 pm23 an23 cd23 ct23), sl23⟩) (c23 : PySem.W.codeIn K cd23 "order_from" = true) (k23 : PySem.W.keepIn K (.ref f23) = true)
  (a24 : PySem.W.nsIn K mainGlobals "table_in" = some (some (.ref f24))) (l24 : K.lookup f24 = some ⟨oc24, od24, .func (PySem.W.fnOf "table_in" "table_in" (defArgs (top 35)) (defBody (top 35)) (defScope (top 35)) .none kV24 dc24 pm24 an24 cd24 ct24), sl24⟩) (c24 : PySem.W.codeIn K cd24 "table_in" = true) (k24 : PySem.W.keepIn K (.ref f24) = true)
  (a25 : PySem.W.nsIn K mainGlobals "determinant_in" = some (some (.ref f25))) (l25 : K.lookup f25 = some ⟨oc25, od25, .func (PySem.W.fnOf "determinant_in" "determinant_in" (defArgs (top 36)) (defBody (top 36)) (defScope (top 36)) .none kV25 dc25 pm25 an25 cd25 ct25), sl25⟩) (c25 : PySem.W.codeIn K cd25 "determinant_in" = true) (k25 : PySem.W.keepIn K (.ref f25) = true)
  (a26 : PySem.W.nsIn K mainGlobals "fractions_of" = some (some (.ref f26))) (l26 : K.lookup f26 = some ⟨oc26, od26, .func (PySem.W.fnOf "fractions_of" "fractions_of" (defArgs (top 37)) (defBody (top 37)) (defScope (top 37)) .none kV26 dc26 pm26 an26 cd26 ct26), sl26⟩) (c26 : PySem.W.codeIn K cd26 "fractions_of" = true) (k26 : PySem.W.keepIn K (.ref f26) = true)
  (a27 : PySem.W.nsIn K mainGlobals "less_by" = some (some (.ref f27))) (l27 : K.lookup f27 = some ⟨oc27, od27, .func (PySem.W.fnOf "less_by" "less_by" (defArgs (top 38)) (defBody (top 38)) (defScope (top 38)) .none kV27 dc27 pm27 an27 cd27 ct27), sl27⟩) (c27 : PySem.W.codeIn K cd27 "less_by" = true) (k27 : PySem.W.keepIn K (.ref f27) = true)
  (a28 : PySem.W.nsIn K mainGlobals "paired" = some (some (.ref f28))) (l28 : K.lookup f28 = some ⟨oc28, od28, .func (PySem.W.fnOf "paired" "paired" (defArgs (top 39)) (defBody (top 39)) (defScope (top 39)) .none kV28 dc28 pm28 an28 cd28 ct28), sl28⟩) (c28 : PySem.W.codeIn K cd28 "paired" = true) (k28 : PySem.W.keepIn K (.ref f28) = true)
  (a29 : PySem.W.nsIn K mainGlobals "first_told" = some (some (.ref f29))) (l29 : K.lookup f29 = some ⟨oc29, od29, .func (PySem.W.fnOf "first_told" "first_told" (defArgs (top 40)) (defBody (top 40)) (defScope (top 40)) .none kV29 dc29 pm29 an29 cd29 ct29), sl29⟩) (c29 : PySem.W.codeIn K cd29 "first_told" = true) (k29 : PySem.W.keepIn K (.ref f29) = true)
  (a30 : PySem.W.nsIn K mainGlobals "signs_in" = some (some (.ref f30))) (l30 : K.lookup f30 = some ⟨oc30, od30, .func (PySem.W.fnOf "signs_in" "signs_in" (defArgs (top 41)) (defBody (top 41)) (defScope (top 41)) .none kV30 dc30 pm30 an30 cd30 ct30), sl30⟩) (c30 : PySem.W.codeIn K cd30 "signs_in" = true) (k30 : PySem.W.keepIn K (.ref f30) = true)
  (a31 : PySem.W.nsIn K mainGlobals "worked_down" = some (some (.ref f31))) (l31 : K.lookup f31 = some ⟨oc31, od31, .func (PySem.W.fnOf "worked_down" "worked_down" (defArgs (top 42)) (defBody (top 42)) (defScope (top 42)) .none kV31 dc31 pm31 an31 cd31 ct31), sl31⟩) (c31 : PySem.W.codeIn K cd31 "worked_down" = true) (k31 : PySem.W.keepIn K (.ref f31) = true)
  (a32 : PySem.W.nsIn K mainGlobals "solution_in" = some (some (.ref f32))) (l32 : K.lookup f32 = some ⟨oc32, od32, .func (PySem.W.fnOf "solution_in" "solution_in" (defArgs (top 43)) (defBody (top 43)) (defScope (top 43)) .none kV32 dc32 pm32 an32 cd32 ct32), sl32⟩) (c32 : PySem.W.codeIn K cd32 "solution_in" = true) (k32 : PySem.W.keepIn K (.ref f32) = true)
  (a33 : PySem.W.nsIn K mainGlobals "inverse_in" = some (some (.ref f33))) (l33 : K.lookup f33 = some ⟨oc33, od33, .func (PySem.W.fnOf "inverse_in" "inverse_in" (defArgs (top 44)) (defBody (top 44)) (defScope (top 44)) .none kV33 dc33 pm33 an33 cd33 ct33), sl33⟩) (c33 : PySem.W.codeIn K cd33 "inverse_in" = true) (k33 : PySem.W.keepIn K (.ref f33) = true)
  (a34 : PySem.W.nsIn K mainGlobals "diagonal_in" = some (some (.ref f34))) (l34 : K.lookup f34 = some ⟨oc34, od34, .func (PySem.W.fnOf "diagonal_in" "diagonal_in" (defArgs (top 45)) (defBody (top 45)) (defScope (top 45)) .none kV34 dc34 pm34 an34 cd34 ct34), sl34⟩) (c34 : PySem.W.codeIn K cd34 "diagonal_in" = true) (k34 : PySem.W.keepIn K (.ref f34) = true)
  (a35 : PySem.W.nsIn K mainGlobals "is_below_in" = some (some (.ref f35))) (l35 : K.lookup f35 = some ⟨oc35, od35, .func (PySem.W.fnOf "is_below_in" "is_below_in" (defArgs (top 46)) (defBody (top 46)) (defScope (top 46)) .none kV35 dc35 pm35 an35 cd35 ct35), sl35⟩) (c35 : PySem.W.codeIn K cd35 "is_below_in" = true) (k35 : PySem.W.keepIn K (.ref f35) = true)
  (a36 : PySem.W.nsIn K mainGlobals "way_in" = some (some (.ref f36))) (l36 : K.lookup f36 = some ⟨oc36, od36, .func (PySem.W.fnOf "way_in" "way_in" (defArgs (top 47)) (defBody (top 47)) (defScope (top 47)) .none kV36 dc36 pm36 an36 cd36 ct36), sl36⟩) (c36 : PySem.W.codeIn K cd36 "way_in" = true) (k36 : PySem.W.keepIn K (.ref f36) = true)
  (a37 : PySem.W.nsIn K mainGlobals "sure_row" = some (some (.ref f37))) (l37 : K.lookup f37 = some ⟨oc37, od37, .func (PySem.W.fnOf "sure_row" "sure_row" (defArgs (top 48)) (defBody (top 48)) (defScope (top 48)) .none kV37 dc37 pm37 an37 cd37 ct37), sl37⟩) (c37 : PySem.W.codeIn K cd37 "sure_row" = true) (k37 : PySem.W.keepIn K (.ref f37) = true)
  (a38 : PySem.W.nsIn K mainGlobals "sure_lot" = some (some (.ref f38))) (l38 : K.lookup f38 = some ⟨oc38, od38, .func (PySem.W.fnOf "sure_lot" "sure_lot" (defArgs (top 49)) (defBody (top 49)) (defScope (top 49)) .none kV38 dc38 pm38 an38 cd38 ct38), sl38⟩) (c38 : PySem.W.codeIn K cd38 "sure_lot" = true) (k38 : PySem.W.keepIn K (.ref f38) = true)
  (a39 : PySem.W.nsIn K mainGlobals "table_of" = some (some (.ref f39))) (l39 : K.lookup f39 = some ⟨oc39, od39, .func (PySem.W.fnOf "table_of" "table_of" (defArgs (top 50)) (defBody (top 50)) (defScope (top 50)) .none kV39 dc39 pm39 an39 cd39 ct39), sl39⟩) (c39 : PySem.W.codeIn K cd39 "table_of" = true) (k39 : PySem.W.keepIn K (.ref f39) = true)
  (a40 : PySem.W.nsIn K mainGlobals "determinant" = some (some (.ref f40))) (l40 : K.lookup f40 = some ⟨oc40, od40, .func (PySem.W.fnOf "determinant" "determinant" (defArgs (top 51)) (defBody (top 51)) (defScope (top 51)) .none kV40 dc40 pm40 an40 cd40 ct40), sl40⟩) (c40 : PySem.W.codeIn K cd40 "determinant" = true) (k40 : PySem.W.keepIn K (.ref f40) = true)
  (a41 : PySem.W.nsIn K mainGlobals "signs" = some (some (.ref f41))) (l41 : K.lookup f41 = some ⟨oc41, od41, .func (PySem.W.fnOf "signs" "signs" (defArgs (top 52)) (defBody (top 52)) (defScope (top 52)) .none kV41 dc41 pm41 an41 cd41 ct41), sl41⟩) (c41 : PySem.W.codeIn K cd41 "signs" = true) (k41 : PySem.W.keepIn K (.ref f41) = true)
  (a42 : PySem.W.nsIn K mainGlobals "diagonal" = some (some (.ref f42))) (l42 : K.lookup f42 = some ⟨oc42, od42, .func (PySem.W.fnOf "diagonal" "diagonal" (defArgs (top 53)) (defBody (top 53)) (defScope (top 53)) .none kV42 dc42 pm42 an42 cd42 ct42), sl42⟩) (c42 : PySem.W.codeIn K cd42 "diagonal" = true) (k42 : PySem.W.keepIn K (.ref f42) = true)
  (a43 : PySem.W.nsIn K mainGlobals "is_below" = some (some (.ref f43))) (l43 : K.lookup f43 = some ⟨oc43, od43, .func (PySem.W.fnOf "is_below" "is_below" (defArgs (top 54)) (defBody (top 54)) (defScope (top 54)) .none kV43 dc43 pm43 an43 cd43 ct43), sl43⟩) (c43 : PySem.W.codeIn K cd43 "is_below" = true) (k43 : PySem.W.keepIn K (.ref f43) = true)
  (a44 : PySem.W.nsIn K mainGlobals "inverse_table" = some (some (.ref f44))) (l44 : K.lookup f44 = some ⟨oc44, od44, .func (PySem.W.fnOf "inverse_table" "inverse_table" (defArgs (top 55)) (defBody (top 55)) (defScope (top 55)) .none kV44 dc44 pm44 an44 cd44 ct44), sl44⟩) (c44 : PySem.W.codeIn K cd44 "inverse_table" = true) (k44 : PySem.W.keepIn K (.ref f44) = true)
  (a45 : PySem.W.nsIn K mainGlobals "way_between" = some (some (.ref f45))) (l45 : K.lookup f45 = some ⟨oc45, od45, .func (PySem.W.fnOf "way_between" "way_between" (defArgs (top 56)) (defBody (top 56)) (defScope (top 56)) .none kV45 dc45 pm45 an45 cd45 ct45), sl45⟩) (c45 : PySem.W.codeIn K cd45 "way_between" = true) (k45 : PySem.W.keepIn K (.ref f45) = true)
  (a46 : PySem.W.nsIn K mainGlobals "left_determinant" = some (some (.ref f46))) (l46 : K.lookup f46 = some ⟨oc46, od46, .func (PySem.W.fnOf "left_determinant" "left_determinant" (defArgs (top 57)) (defBody (top 57)) (defScope (top 57)) .none kV46 dc46 pm46 an46 cd46 ct46), sl46⟩) (c46 : PySem.W.codeIn K cd46 "left_determinant" = true) (k46 : PySem.W.keepIn K (.ref f46) = true)
  (a47 : PySem.W.nsIn K mainGlobals "row_times" = some (some (.ref f47))) (l47 : K.lookup f47 = some ⟨oc47, od47, .func (PySem.W.fnOf "row_times" "row_times" (defArgs (top 58)) (defBody (top 58)) (defScope (top 58)) .none kV47 dc47 pm47 an47 cd47 ct47), sl47⟩) (c47 : PySem.W.codeIn K cd47 "row_times" = true) (k47 : PySem.W.keepIn K (.ref f47) = true)
  (a48 : PySem.W.nsIn K mainGlobals "row_over" = some (some (.ref f48))) (l48 : K.lookup f48 = some ⟨oc48, od48, .func (PySem.W.fnOf "row_over" "row_over" (defArgs (top 59)) (defBody (top 59)) (defScope (top 59)) .none kV48 dc48 pm48 an48 cd48 ct48), sl48⟩) (c48 : PySem.W.codeIn K cd48 "row_over" = true) (k48 : PySem.W.keepIn K (.ref f48) = true)
  (a49 : PySem.W.nsIn K mainGlobals "_law_box" = some (some (.ref f49))) (l49 : K.lookup f49 = some ⟨oc49, od49, .func (PySem.W.fnOf "_law_box" "_law_box" (defArgs (top 61)) (defBody (top 61)) (defScope (top 61)) .none kV49 dc49 pm49 an49 cd49 ct49), sl49⟩) (c49 : PySem.W.codeIn K cd49 "_law_box" = true) (k49 : PySem.W.keepIn K (.ref f49) = true)
  (a50 : PySem.W.nsIn K mainGlobals "_law_take" = some (some (.ref f50))) (l50 : K.lookup f50 = some ⟨oc50, od50, .func (PySem.W.fnOf "_law_take" "_law_take" (defArgs (top 62)) (defBody (top 62)) (defScope (top 62)) .none kV50 dc50 pm50 an50 cd50 ct50), sl50⟩) (c50 : PySem.W.codeIn K cd50 "_law_take" = true) (k50 : PySem.W.keepIn K (.ref f50) = true)
  (a51 : PySem.W.nsIn K mainGlobals "_law_cells" = some (some (.ref f51))) (l51 : K.lookup f51 = some ⟨oc51, od51, .func (PySem.W.fnOf "_law_cells" "_law_cells" (defArgs (top 63)) (defBody (top 63)) (defScope (top 63)) .none kV51 dc51 pm51 an51 cd51 ct51), sl51⟩) (c51 : PySem.W.codeIn K cd51 "_law_cells" = true) (k51 : PySem.W.keepIn K (.ref f51) = true)
  (a52 : PySem.W.nsIn K mainGlobals "_law_pick" = some (some (.ref f52))) (l52 : K.lookup f52 = some ⟨oc52, od52, .func (PySem.W.fnOf "_law_pick" "_law_pick" (defArgs (top 64)) (defBody (top 64)) (defScope (top 64)) .none kV52 dc52 pm52 an52 cd52 ct52), sl52⟩) (c52 : PySem.W.codeIn K cd52 "_law_pick" = true) (k52 : PySem.W.keepIn K (.ref f52) = true)
  (a53 : PySem.W.nsIn K mainGlobals "_law_same" = some (some (.ref f53))) (l53 : K.lookup f53 = some ⟨oc53, od53, .func (PySem.W.fnOf "_law_same" "_law_same" (defArgs (top 65)) (defBody (top 65)) (defScope (top 65)) .none kV53 dc53 pm53 an53 cd53 ct53), sl53⟩) (c53 : PySem.W.codeIn K cd53 "_law_same" = true) (k53 : PySem.W.keepIn K (.ref f53) = true)
  (a54 : PySem.W.nsIn K mainGlobals "_law_heard" = some (some (.ref f54))) (l54 : K.lookup f54 = some ⟨oc54, od54, .func (PySem.W.fnOf "_law_heard" "_law_heard" (defArgs (top 66)) (defBody (top 66)) (defScope (top 66)) .none kV54 dc54 pm54 an54 cd54 ct54), sl54⟩) (c54 : PySem.W.codeIn K cd54 "_law_heard" = true) (k54 : PySem.W.keepIn K (.ref f54) = true)
  (a55 : PySem.W.nsIn K mainGlobals "law" = some (some (.ref f55))) (l55 : K.lookup f55 = some ⟨oc55, od55, .func (PySem.W.fnOf "law" "law" (defArgs (top 67)) (defBody (top 67)) (defScope (top 67)) .none kV55 dc55 pm55 an55 cd55 ct55), sl55⟩) (c55 : PySem.W.codeIn K cd55 "law" = true) (k55 : PySem.W.keepIn K (.ref f55) = true)
  (e_CanNot : PySem.W.nsIn K mainGlobals "CanNot" = some (some (.ref C_CanNot)))
  (xe_CanNot : PySem.W.excIn K C_CanNot He.veBase "ValueError.__new__" = true)
  (xk_CanNot : PySem.W.keepIn K (.ref C_CanNot) = true)
  (xs_CanNot : PySem.W.subIn K (.ref C_CanNot) (.type "BaseException") = some true)
  (xt_CanNot : PySem.W.typeIn K (.ref C_CanNot) = some (.type "type"))
  (ga_CanNot : PySem.W.findIn K (.ref C_CanNot) "__getattribute__" = some (some (.builtin "BaseException.__getattribute__")))
  (gt_CanNot : PySem.W.findIn K (.ref C_CanNot) "__getattr__" = some none)
  (hd_CanNot : PySem.W.hasDictIn K C_CanNot = true)
  (cl_CanNot : PySem.W.findIn K (.ref C_CanNot) "__class__" = some (some (.builtin "object.__class__")))
  (mr_CanNot : PySem.W.mroIn K C_CanNot (.type "object") = some true)
  (ki_CanNot : PySem.W.kitOne K (.ref C_CanNot) (.type "ValueError") = some true)
  (e_Unfit : PySem.W.nsIn K mainGlobals "Unfit" = some (some (.ref C_Unfit)))
  (xe_Unfit : PySem.W.excIn K C_Unfit He.veBase "ValueError.__new__" = true)
  (xk_Unfit : PySem.W.keepIn K (.ref C_Unfit) = true)
  (xs_Unfit : PySem.W.subIn K (.ref C_Unfit) (.type "BaseException") = some true)
  (xt_Unfit : PySem.W.typeIn K (.ref C_Unfit) = some (.type "type"))
  (ga_Unfit : PySem.W.findIn K (.ref C_Unfit) "__getattribute__" = some (some (.builtin "BaseException.__getattribute__")))
  (gt_Unfit : PySem.W.findIn K (.ref C_Unfit) "__getattr__" = some none)
  (hd_Unfit : PySem.W.hasDictIn K C_Unfit = true)
  (cl_Unfit : PySem.W.findIn K (.ref C_Unfit) "__class__" = some (some (.builtin "object.__class__")))
  (mr_Unfit : PySem.W.mroIn K C_Unfit (.type "object") = some true)
  (ki_Unfit : PySem.W.kitOne K (.ref C_Unfit) (.type "ValueError") = some true)
  (xsp : PySem.W.specialIn K (.builtin "object.__class__") "__get__" = some (some (.builtin "getset_descriptor.__get__"))) (xtk : PySem.W.takesIn K (.builtin "object.__class__") = some true)
  (p_CanNot_CanNot : PySem.W.subIn K (.ref C_CanNot) (.ref C_CanNot) = some true)
  (p_CanNot_Unfit : PySem.W.subIn K (.ref C_CanNot) (.ref C_Unfit) = some false)
  (p_Unfit_CanNot : PySem.W.subIn K (.ref C_Unfit) (.ref C_CanNot) = some false)
  (p_Unfit_Unfit : PySem.W.subIn K (.ref C_Unfit) (.ref C_Unfit) = some true)
  (c_LONE_e : PySem.W.nsIn K mainGlobals "LONE" = some (some (.ref a_LONE))) (c_LONE_l : K.lookup a_LONE = some ⟨.type "tuple", od_LONE, .seq #[.int 1 t_LONE_0, .int 1 t_LONE_1] n_LONE, sl_LONE⟩)
  (c_MOST_e : PySem.W.nsIn K mainGlobals "MOST" = some (some (.int 1000000000000 t_MOST)))
  (c_MOST_PLACES_e : PySem.W.nsIn K mainGlobals "MOST_PLACES" = some (some (.int 40 t_MOST_PLACES)))
  (c_MOST_WEIGHT_e : PySem.W.nsIn K mainGlobals "MOST_WEIGHT" = some (some (.int 1000 t_MOST_WEIGHT)))
  (c_NOUGHT_e : PySem.W.nsIn K mainGlobals "NOUGHT" = some (some (.ref a_NOUGHT))) (c_NOUGHT_l : K.lookup a_NOUGHT = some ⟨.type "tuple", od_NOUGHT, .seq #[.int 0 t_NOUGHT_0, .int 1 t_NOUGHT_1] n_NOUGHT, sl_NOUGHT⟩)
  (z_ValueError : PySem.W.nsIn K mainGlobals "ValueError" = some none) (z_abs : PySem.W.nsIn K mainGlobals "abs" = some none) (z_all : PySem.W.nsIn K mainGlobals "all" = some none) (z_any : PySem.W.nsIn K mainGlobals "any" = some none) (z_bool : PySem.W.nsIn K mainGlobals "bool" = some none) (z_dict : PySem.W.nsIn K mainGlobals "dict" = some none) (z_enumerate : PySem.W.nsIn K mainGlobals "enumerate" = some none) (z_int : PySem.W.nsIn K mainGlobals "int" = some none) (z_isinstance : PySem.W.nsIn K mainGlobals "isinstance" = some none) (z_len : PySem.W.nsIn K mainGlobals "len" = some none) (z_list : PySem.W.nsIn K mainGlobals "list" = some none) (z_min : PySem.W.nsIn K mainGlobals "min" = some none) (z_range : PySem.W.nsIn K mainGlobals "range" = some none) (z_reversed : PySem.W.nsIn K mainGlobals "reversed" = some none) (z_set : PySem.W.nsIn K mainGlobals "set" = some none) (z_sorted : PySem.W.nsIn K mainGlobals "sorted" = some none) (z_str : PySem.W.nsIn K mainGlobals "str" = some none) (z_sum : PySem.W.nsIn K mainGlobals "sum" = some none) (z_tuple : PySem.W.nsIn K mainGlobals "tuple" = some none) (z_zip : PySem.W.nsIn K mainGlobals "zip" = some none) :
  ∃ fd : FuncData, (∀ (s : Shared) (v : Value), BindsTo s fd ⟨[v], []⟩ [("script", v)]) ∧ ∀ base : Heap, K.In base → base.Ns mainGlobals mg → FnOk l.prog w K mg base (L2.CX l.prog w) (kk + 1) fa fd ["script"] (SpD K 1 (runF wf T (kk + 1) 55)) := by
  have e := hfa.symm.trans (PySem.W.mg_of X G a55)
  cases e
  have XP : ClsP K xcs := fun x hx y hy => by
    have hx : x ∈ [("CanNot" : Str), ("Unfit" : Str)] := hx
    have hy : y ∈ [("CanNot" : Str), ("Unfit" : Str)] := hy
    rcases List.mem_cons.mp hx with e | hx
    · subst e
      rcases List.mem_cons.mp hy with e | hy
      · subst e
        exact cp_one e_CanNot e_CanNot xs_CanNot hd_CanNot xt_CanNot p_CanNot_CanNot (by decide)
      ·
        rcases List.mem_cons.mp hy with e | hy
        · subst e
          exact cp_one e_CanNot e_Unfit xs_Unfit hd_Unfit xt_Unfit p_CanNot_Unfit (by decide)
        ·
          exact absurd hy List.not_mem_nil
    ·
      rcases List.mem_cons.mp hx with e | hx
      · subst e
        rcases List.mem_cons.mp hy with e | hy
        · subst e
          exact cp_one e_Unfit e_CanNot xs_CanNot hd_CanNot xt_CanNot p_Unfit_CanNot (by decide)
        ·
          rcases List.mem_cons.mp hy with e | hy
          · subst e
            exact cp_one e_Unfit e_Unfit xs_Unfit hd_Unfit xt_Unfit p_Unfit_Unfit (by decide)
          ·
            exact absurd hy List.not_mem_nil
      ·
        exact absurd hx List.not_mem_nil
  have T0 : Txt K mg := ⟨PySem.W.mg_none_of X G z_ValueError, PySem.W.mg_none_of X G z_abs, PySem.W.mg_none_of X G z_all, PySem.W.mg_none_of X G z_any, PySem.W.mg_none_of X G z_bool, PySem.W.mg_none_of X G z_dict, PySem.W.mg_none_of X G z_enumerate, PySem.W.mg_none_of X G z_int, PySem.W.mg_none_of X G z_isinstance, PySem.W.mg_none_of X G z_len, PySem.W.mg_none_of X G z_list, PySem.W.mg_none_of X G z_min, PySem.W.mg_none_of X G z_range, PySem.W.mg_none_of X G z_reversed, PySem.W.mg_none_of X G z_set, PySem.W.mg_none_of X G z_sorted, PySem.W.mg_none_of X G z_str, PySem.W.mg_none_of X G z_sum, PySem.W.mg_none_of X G z_tuple, PySem.W.mg_none_of X G z_zip, ⟨_, PySem.W.mg_of X G a40, a40⟩, ⟨_, PySem.W.mg_of X G a42, a42⟩, ⟨_, PySem.W.mg_of X G a44, a44⟩, ⟨_, PySem.W.mg_of X G a43, a43⟩, ⟨_, PySem.W.mg_of X G a46, a46⟩, ⟨_, PySem.W.mg_of X G a48, a48⟩, ⟨_, PySem.W.mg_of X G a47, a47⟩, ⟨_, PySem.W.mg_of X G a41, a41⟩, ⟨_, PySem.W.mg_of X G a39, a39⟩, ⟨_, PySem.W.mg_of X G a45, a45⟩, cst_tup (ns := [1, 1]) X G c_LONE_e c_LONE_l ((.cons (.cons .nil))) (by rw [sizeLine_eq]; show 2 ≤ 16777216; decide), cst_int X G c_MOST_e, cst_int X G c_MOST_PLACES_e, cst_int X G c_MOST_WEIGHT_e, cst_tup (ns := [0, 1]) X G c_NOUGHT_e c_NOUGHT_l ((.cons (.cons .nil))) (by rw [sizeLine_eq]; show 2 ≤ 16777216; decide), clsD_mk X G e_CanNot xe_CanNot xk_CanNot xs_CanNot xt_CanNot ga_CanNot gt_CanNot hd_CanNot cl_CanNot xsp xtk mr_CanNot ki_CanNot, clsD_mk X G e_Unfit xe_Unfit xk_Unfit xs_Unfit xt_Unfit ga_Unfit gt_Unfit hd_Unfit cl_Unfit xsp xtk mr_Unfit ki_Unfit, XP⟩
  have D0 : DefOk K mg "is_number" (top 5) ["thing"] := .mk' X G a0 l0 c0 k0 (fun us hl => match us, hl with | [_], _ => rfl) (fun us hl => match us, hl with | [_], _ => rfl)
  have D1 : DefOk K mg "is_within" (top 6) ["thing", "least", "most"] := .mk' X G a1 l1 c1 k1 (fun us hl => match us, hl with | [_, _, _], _ => rfl) (fun us hl => match us, hl with | [_, _, _], _ => rfl)
  have D2 : DefOk K mg "is_long" (top 7) ["thing", "length"] := .mk' X G a2 l2 c2 k2 (fun us hl => match us, hl with | [_, _], _ => rfl) (fun us hl => match us, hl with | [_, _], _ => rfl)
  have D3 : DefOk K mg "are_numbers" (top 8) ["thing"] := .mk' X G a3 l3 c3 k3 (fun us hl => match us, hl with | [_], _ => rfl) (fun us hl => match us, hl with | [_], _ => rfl)
  have D4 : DefOk K mg "ascends" (top 9) ["row"] := .mk' X G a4 l4 c4 k4 (fun us hl => match us, hl with | [_], _ => rfl) (fun us hl => match us, hl with | [_], _ => rfl)
  have D5 : DefOk K mg "tupled" (top 10) ["value"] := .mk' X G a5 l5 c5 k5 (fun us hl => match us, hl with | [_], _ => rfl) (fun us hl => match us, hl with | [_], _ => rfl)
  have D6 : DefOk K mg "sure_within" (top 11) ["thing", "least", "most"] := .mk' X G a6 l6 c6 k6 (fun us hl => match us, hl with | [_, _, _], _ => rfl) (fun us hl => match us, hl with | [_, _, _], _ => rfl)
  have D7 : DefOk K mg "sure_number" (top 12) ["thing"] := .mk' X G a7 l7 c7 k7 (fun us hl => match us, hl with | [_], _ => rfl) (fun us hl => match us, hl with | [_], _ => rfl)
  have D8 : DefOk K mg "common" (top 13) ["one", "other"] := .mk' X G a8 l8 c8 k8 (fun us hl => match us, hl with | [_, _], _ => rfl) (fun us hl => match us, hl with | [_, _], _ => rfl)
  have D9 : DefOk K mg "cut_down" (top 14) ["over_it", "under"] := .mk' X G a9 l9 c9 k9 (fun us hl => match us, hl with | [_, _], _ => rfl) (fun us hl => match us, hl with | [_, _], _ => rfl)
  have D10 : DefOk K mg "whole" (top 15) ["number"] := .mk' X G a10 l10 c10 k10 (fun us hl => match us, hl with | [_], _ => rfl) (fun us hl => match us, hl with | [_], _ => rfl)
  have D11 : DefOk K mg "added" (top 16) ["one", "other"] := .mk' X G a11 l11 c11 k11 (fun us hl => match us, hl with | [_, _], _ => rfl) (fun us hl => match us, hl with | [_, _], _ => rfl)
  have D12 : DefOk K mg "taken" (top 17) ["one", "other"] := .mk' X G a12 l12 c12 k12 (fun us hl => match us, hl with | [_, _], _ => rfl) (fun us hl => match us, hl with | [_, _], _ => rfl)
  have D13 : DefOk K mg "times" (top 18) ["one", "other"] := .mk' X G a13 l13 c13 k13 (fun us hl => match us, hl with | [_, _], _ => rfl) (fun us hl => match us, hl with | [_, _], _ => rfl)
  have D14 : DefOk K mg "over" (top 19) ["one", "other"] := .mk' X G a14 l14 c14 k14 (fun us hl => match us, hl with | [_, _], _ => rfl) (fun us hl => match us, hl with | [_, _], _ => rfl)
  have D15 : DefOk K mg "is_edge_of" (top 23) ["thing", "many"] := .mk' X G a15 l15 c15 k15 (fun us hl => match us, hl with | [_, _], _ => rfl) (fun us hl => match us, hl with | [_, _], _ => rfl)
  have D16 : DefOk K mg "has_ring" (top 24) ["many", "edges"] := .mk' X G a16 l16 c16 k16 (fun us hl => match us, hl with | [_, _], _ => rfl) (fun us hl => match us, hl with | [_, _], _ => rfl)
  have D17 : DefOk K mg "is_forest_in" (top 25) ["thing"] := .mk' X G a17 l17 c17 k17 (fun us hl => match us, hl with | [_], _ => rfl) (fun us hl => match us, hl with | [_], _ => rfl)
  have D18 : DefOk K mg "sure_forest" (top 26) ["value"] := .mk' X G a18 l18 c18 k18 (fun us hl => match us, hl with | [_], _ => rfl) (fun us hl => match us, hl with | [_], _ => rfl)
  have D19 : DefOk K mg "sure_place" (top 27) ["forest", "value"] := .mk' X G a19 l19 c19 k19 (fun us hl => match us, hl with | [_, _], _ => rfl) (fun us hl => match us, hl with | [_, _], _ => rfl)
  have D20 : DefOk K mg "neighbours_in" (top 28) ["forest"] := .mk' X G a20 l20 c20 k20 (fun us hl => match us, hl with | [_], _ => rfl) (fun us hl => match us, hl with | [_], _ => rfl)
  have D21 : DefOk K mg "pieces_in" (top 29) ["forest"] := .mk' X G a21 l21 c21 k21 (fun us hl => match us, hl with | [_], _ => rfl) (fun us hl => match us, hl with | [_], _ => rfl)
  have D22 : DefOk K mg "part_in" (top 30) ["forest", "places"] := .mk' X G a22 l22 c22 k22 (fun us hl => match us, hl with | [_, _], _ => rfl) (fun us hl => match us, hl with | [_, _], _ => rfl)
  have D23 : DefOk K mg "order_from" (top 31) ["mates", "root"] := .mk' X G a23 l23 c23 k23 (fun us hl => match us, hl with | [_, _], _ => rfl) (fun us hl => match us, hl with | [_, _], _ => rfl)
  have D24 : DefOk K mg "table_in" (top 35) ["forest"] := .mk' X G a24 l24 c24 k24 (fun us hl => match us, hl with | [_], _ => rfl) (fun us hl => match us, hl with | [_], _ => rfl)
  have D25 : DefOk K mg "determinant_in" (top 36) ["rows"] := .mk' X G a25 l25 c25 k25 (fun us hl => match us, hl with | [_], _ => rfl) (fun us hl => match us, hl with | [_], _ => rfl)
  have D26 : DefOk K mg "fractions_of" (top 37) ["rows"] := .mk' X G a26 l26 c26 k26 (fun us hl => match us, hl with | [_], _ => rfl) (fun us hl => match us, hl with | [_], _ => rfl)
  have D27 : DefOk K mg "less_by" (top 38) ["row", "share", "other"] := .mk' X G a27 l27 c27 k27 (fun us hl => match us, hl with | [_, _, _], _ => rfl) (fun us hl => match us, hl with | [_, _, _], _ => rfl)
  have D28 : DefOk K mg "paired" (top 39) ["rows", "one", "other"] := .mk' X G a28 l28 c28 k28 (fun us hl => match us, hl with | [_, _, _], _ => rfl) (fun us hl => match us, hl with | [_, _, _], _ => rfl)
  have D29 : DefOk K mg "first_told" (top 40) ["rows"] := .mk' X G a29 l29 c29 k29 (fun us hl => match us, hl with | [_], _ => rfl) (fun us hl => match us, hl with | [_], _ => rfl)
  have D30 : DefOk K mg "signs_in" (top 41) ["rows"] := .mk' X G a30 l30 c30 k30 (fun us hl => match us, hl with | [_], _ => rfl) (fun us hl => match us, hl with | [_], _ => rfl)
  have D31 : DefOk K mg "worked_down" (top 42) ["rows", "wide"] := .mk' X G a31 l31 c31 k31 (fun us hl => match us, hl with | [_, _], _ => rfl) (fun us hl => match us, hl with | [_, _], _ => rfl)
  have D32 : DefOk K mg "solution_in" (top 43) ["rows", "goal"] := .mk' X G a32 l32 c32 k32 (fun us hl => match us, hl with | [_, _], _ => rfl) (fun us hl => match us, hl with | [_, _], _ => rfl)
  have D33 : DefOk K mg "inverse_in" (top 44) ["rows"] := .mk' X G a33 l33 c33 k33 (fun us hl => match us, hl with | [_], _ => rfl) (fun us hl => match us, hl with | [_], _ => rfl)
  have D34 : DefOk K mg "diagonal_in" (top 45) ["forest"] := .mk' X G a34 l34 c34 k34 (fun us hl => match us, hl with | [_], _ => rfl) (fun us hl => match us, hl with | [_], _ => rfl)
  have D35 : DefOk K mg "is_below_in" (top 46) ["forest"] := .mk' X G a35 l35 c35 k35 (fun us hl => match us, hl with | [_], _ => rfl) (fun us hl => match us, hl with | [_], _ => rfl)
  have D36 : DefOk K mg "way_in" (top 47) ["forest", "one", "other"] := .mk' X G a36 l36 c36 k36 (fun us hl => match us, hl with | [_, _, _], _ => rfl) (fun us hl => match us, hl with | [_, _, _], _ => rfl)
  have D37 : DefOk K mg "sure_row" (top 48) ["forest", "value"] := .mk' X G a37 l37 c37 k37 (fun us hl => match us, hl with | [_, _], _ => rfl) (fun us hl => match us, hl with | [_, _], _ => rfl)
  have D38 : DefOk K mg "sure_lot" (top 49) ["forest", "value"] := .mk' X G a38 l38 c38 k38 (fun us hl => match us, hl with | [_, _], _ => rfl) (fun us hl => match us, hl with | [_, _], _ => rfl)
  have D39 : DefOk K mg "table_of" (top 50) ["forest"] := .mk' X G a39 l39 c39 k39 (fun us hl => match us, hl with | [_], _ => rfl) (fun us hl => match us, hl with | [_], _ => rfl)
  have D40 : DefOk K mg "determinant" (top 51) ["forest"] := .mk' X G a40 l40 c40 k40 (fun us hl => match us, hl with | [_], _ => rfl) (fun us hl => match us, hl with | [_], _ => rfl)
  have D41 : DefOk K mg "signs" (top 52) ["forest"] := .mk' X G a41 l41 c41 k41 (fun us hl => match us, hl with | [_], _ => rfl) (fun us hl => match us, hl with | [_], _ => rfl)
  have D42 : DefOk K mg "diagonal" (top 53) ["forest"] := .mk' X G a42 l42 c42 k42 (fun us hl => match us, hl with | [_], _ => rfl) (fun us hl => match us, hl with | [_], _ => rfl)
  have D43 : DefOk K mg "is_below" (top 54) ["forest"] := .mk' X G a43 l43 c43 k43 (fun us hl => match us, hl with | [_], _ => rfl) (fun us hl => match us, hl with | [_], _ => rfl)
  have D44 : DefOk K mg "inverse_table" (top 55) ["forest"] := .mk' X G a44 l44 c44 k44 (fun us hl => match us, hl with | [_], _ => rfl) (fun us hl => match us, hl with | [_], _ => rfl)
  have D45 : DefOk K mg "way_between" (top 56) ["forest", "place", "other"] := .mk' X G a45 l45 c45 k45 (fun us hl => match us, hl with | [_, _, _], _ => rfl) (fun us hl => match us, hl with | [_, _, _], _ => rfl)
  have D46 : DefOk K mg "left_determinant" (top 57) ["forest", "places"] := .mk' X G a46 l46 c46 k46 (fun us hl => match us, hl with | [_, _], _ => rfl) (fun us hl => match us, hl with | [_, _], _ => rfl)
  have D47 : DefOk K mg "row_times" (top 58) ["forest", "row"] := .mk' X G a47 l47 c47 k47 (fun us hl => match us, hl with | [_, _], _ => rfl) (fun us hl => match us, hl with | [_, _], _ => rfl)
  have D48 : DefOk K mg "row_over" (top 59) ["forest", "row"] := .mk' X G a48 l48 c48 k48 (fun us hl => match us, hl with | [_, _], _ => rfl) (fun us hl => match us, hl with | [_, _], _ => rfl)
  have D49 : DefOk K mg "_law_box" (top 61) ["script", "k"] := .mk' X G a49 l49 c49 k49 (fun us hl => match us, hl with | [_, _], _ => rfl) (fun us hl => match us, hl with | [_, _], _ => rfl)
  have D50 : DefOk K mg "_law_take" (top 62) ["tin", "below_so"] := .mk' X G a50 l50 c50 k50 (fun us hl => match us, hl with | [_, _], _ => rfl) (fun us hl => match us, hl with | [_, _], _ => rfl)
  have D51 : DefOk K mg "_law_cells" (top 63) ["script", "most_so"] := .mk' X G a51 l51 c51 k51 (fun us hl => match us, hl with | [_, _], _ => rfl) (fun us hl => match us, hl with | [_, _], _ => rfl)
  have D52 : DefOk K mg "_law_pick" (top 64) ["tin", "goods_so", "count_so"] := .mk' X G a52 l52 c52 k52 (fun us hl => match us, hl with | [_, _, _], _ => rfl) (fun us hl => match us, hl with | [_, _, _], _ => rfl)
  have D53 : DefOk K mg "_law_same" (top 65) ["got", "due"] := .mk' X G a53 l53 c53 k53 (fun us hl => match us, hl with | [_, _], _ => rfl) (fun us hl => match us, hl with | [_, _], _ => rfl)
  have D54 : DefOk K mg "_law_heard" (top 66) ["door", "goods_so"] := .mk' X G a54 l54 c54 k54 (fun us hl => match us, hl with | [_, _], _ => rfl) (fun us hl => match us, hl with | [_, _], _ => rfl)
  have D55 : DefOk K mg "law" (top 67) ["script"] := .mk' X G a55 l55 c55 k55 (fun us hl => match us, hl with | [_], _ => rfl) (fun us hl => match us, hl with | [_], _ => rfl)
  have B : ∀ base : Heap, ∀ (j : Nat) (x : Str) (ps : List Str), L[j]? = some (x, ps) → ∃ st d, T[j]? = some d ∧ DefOk K mg x st ps ∧ BodyOk l.prog w K mg base wf L x st ps d := fun base j x ps hj => by
    match j, hj with
    | 0, hj => cases hj; exact ⟨_, _, rfl, D0, b_is_number T0⟩
    | 1, hj => cases hj; exact ⟨_, _, rfl, D1, b_is_within T0⟩
    | 2, hj => cases hj; exact ⟨_, _, rfl, D2, b_is_long T0⟩
    | 3, hj => cases hj; exact ⟨_, _, rfl, D3, b_are_numbers T0⟩
    | 4, hj => cases hj; exact ⟨_, _, rfl, D4, b_ascends T0⟩
    | 5, hj => cases hj; exact ⟨_, _, rfl, D5, b_tupled T0⟩
    | 6, hj => cases hj; exact ⟨_, _, rfl, D6, b_sure_within T0⟩
    | 7, hj => cases hj; exact ⟨_, _, rfl, D7, b_sure_number T0⟩
    | 8, hj => cases hj; exact ⟨_, _, rfl, D8, b_common T0⟩
    | 9, hj => cases hj; exact ⟨_, _, rfl, D9, b_cut_down T0⟩
    | 10, hj => cases hj; exact ⟨_, _, rfl, D10, b_whole T0⟩
    | 11, hj => cases hj; exact ⟨_, _, rfl, D11, b_added T0⟩
    | 12, hj => cases hj; exact ⟨_, _, rfl, D12, b_taken T0⟩
    | 13, hj => cases hj; exact ⟨_, _, rfl, D13, b_times T0⟩
    | 14, hj => cases hj; exact ⟨_, _, rfl, D14, b_over T0⟩
    | 15, hj => cases hj; exact ⟨_, _, rfl, D15, b_is_edge_of T0⟩
    | 16, hj => cases hj; exact ⟨_, _, rfl, D16, b_has_ring T0⟩
    | 17, hj => cases hj; exact ⟨_, _, rfl, D17, b_is_forest_in T0⟩
    | 18, hj => cases hj; exact ⟨_, _, rfl, D18, b_sure_forest T0⟩
    | 19, hj => cases hj; exact ⟨_, _, rfl, D19, b_sure_place T0⟩
    | 20, hj => cases hj; exact ⟨_, _, rfl, D20, b_neighbours_in T0⟩
    | 21, hj => cases hj; exact ⟨_, _, rfl, D21, b_pieces_in T0⟩
    | 22, hj => cases hj; exact ⟨_, _, rfl, D22, b_part_in T0⟩
    | 23, hj => cases hj; exact ⟨_, _, rfl, D23, b_order_from T0⟩
    | 24, hj => cases hj; exact ⟨_, _, rfl, D24, b_table_in T0⟩
    | 25, hj => cases hj; exact ⟨_, _, rfl, D25, b_determinant_in T0⟩
    | 26, hj => cases hj; exact ⟨_, _, rfl, D26, b_fractions_of T0⟩
    | 27, hj => cases hj; exact ⟨_, _, rfl, D27, b_less_by T0⟩
    | 28, hj => cases hj; exact ⟨_, _, rfl, D28, b_paired T0⟩
    | 29, hj => cases hj; exact ⟨_, _, rfl, D29, b_first_told T0⟩
    | 30, hj => cases hj; exact ⟨_, _, rfl, D30, b_signs_in T0⟩
    | 31, hj => cases hj; exact ⟨_, _, rfl, D31, b_worked_down T0⟩
    | 32, hj => cases hj; exact ⟨_, _, rfl, D32, b_solution_in T0⟩
    | 33, hj => cases hj; exact ⟨_, _, rfl, D33, b_inverse_in T0⟩
    | 34, hj => cases hj; exact ⟨_, _, rfl, D34, b_diagonal_in T0⟩
    | 35, hj => cases hj; exact ⟨_, _, rfl, D35, b_is_below_in T0⟩
    | 36, hj => cases hj; exact ⟨_, _, rfl, D36, b_way_in T0⟩
    | 37, hj => cases hj; exact ⟨_, _, rfl, D37, b_sure_row T0⟩
    | 38, hj => cases hj; exact ⟨_, _, rfl, D38, b_sure_lot T0⟩
    | 39, hj => cases hj; exact ⟨_, _, rfl, D39, b_table_of T0⟩
    | 40, hj => cases hj; exact ⟨_, _, rfl, D40, b_determinant T0⟩
    | 41, hj => cases hj; exact ⟨_, _, rfl, D41, b_signs T0⟩
    | 42, hj => cases hj; exact ⟨_, _, rfl, D42, b_diagonal T0⟩
    | 43, hj => cases hj; exact ⟨_, _, rfl, D43, b_is_below T0⟩
    | 44, hj => cases hj; exact ⟨_, _, rfl, D44, b_inverse_table T0⟩
    | 45, hj => cases hj; exact ⟨_, _, rfl, D45, b_way_between T0⟩
    | 46, hj => cases hj; exact ⟨_, _, rfl, D46, b_left_determinant T0⟩
    | 47, hj => cases hj; exact ⟨_, _, rfl, D47, b_row_times T0⟩
    | 48, hj => cases hj; exact ⟨_, _, rfl, D48, b_row_over T0⟩
    | 49, hj => cases hj; exact ⟨_, _, rfl, D49, b__law_box T0⟩
    | 50, hj => cases hj; exact ⟨_, _, rfl, D50, b__law_take T0⟩
    | 51, hj => cases hj; exact ⟨_, _, rfl, D51, b__law_cells T0⟩
    | 52, hj => cases hj; exact ⟨_, _, rfl, D52, b__law_pick T0⟩
    | 53, hj => cases hj; exact ⟨_, _, rfl, D53, b__law_same T0⟩
    | 54, hj => cases hj; exact ⟨_, _, rfl, D54, b__law_heard T0⟩
    | 55, hj => cases hj; exact ⟨_, _, rfl, D55, b_law T0⟩
    | n + 56, hj => cases hj
  exact ⟨_, fun s v => .of_eq rfl, fun base _ _ => law_fn (B base) kk rfl (fun_mk (st := top 67) l55 c55 k55) (b_law T0)⟩
end Ab
end

section
set_option linter.all false
set_option maxRecDepth 100000
set_option maxHeartbeats 1000000
namespace Ab
open PySem L2
def lawW : Nat := 10000000
def lawK : Nat := 40
abbrev F (k : Nat) : CallF := runF lawW T k
/-- small enough for every product -/
def Sm_ (i : Int) : Prop := -1000000 ≤ i ∧ i ≤ 1000000
theorem mul_ok {i j : Int} (h : Sm_ i) : mulOk i j = true := by
  unfold mulOk
  rw [Bool.or_eq_true]
  left
  unfold Sm_ at h
  simp
  left
  omega
theorem mul_ok2 {i j : Int} (h : Sm_ j) : mulOk i j = true := by
  unfold mulOk
  rw [Bool.or_eq_true]
  left
  unfold Sm_ at h
  simp
  right
  omega
theorem div_ok {j : Int} (h : Sm_ j) : divOk j = true := by
  unfold divOk
  unfold Sm_ at h
  have h2 : j.natAbs < 2 ^ 20 := by omega
  have : j.natAbs.log2 < 21 := by
    by_cases h0 : j.natAbs = 0
    · rw [h0]; decide
    · have := (Nat.log2_lt h0).mpr h2
      omega
  simp
  omega
abbrev tn (a b c : Int) (r : Mem := []) : Mem := .lst [.int a, .int b, .int c] :: r
@[simp] theorem it_p0 {x y z : Dat} {r : Mem} : itemD (.lst [x, y, z] :: r) (.ptr 0) (.int 0) = some x := by simp [itemD, sq, rd, rdL, atI, ixN]
@[simp] theorem it_p1 {x y z : Dat} {r : Mem} : itemD (.lst [x, y, z] :: r) (.ptr 0) (.int 1) = some y := by simp [itemD, sq, rd, rdL, atI, ixN]
@[simp] theorem it_p2 {x y z : Dat} {r : Mem} : itemD (.lst [x, y, z] :: r) (.ptr 0) (.int 2) = some z := by simp [itemD, sq, rd, rdL, atI, ixN]
theorem g_sub0 {cf : CallF} {x y z d : Dat} {r : Mem} {Γ : Gam} (h : Γ[0]? = some (some (.ptr 0))) : evG cf (.sub (.var 0) (.dat (.int 0))) d Γ (.lst [x, y, z] :: r) = .ok Γ (.lst [d, y, z] :: r) := by
  show ((evE cf (.var 0) Γ (.lst [x, y, z] :: r)).bind _) = _
  rw [e_var, h]
  rfl
theorem g_sub2 {cf : CallF} {x y z d : Dat} {r : Mem} {Γ : Gam} (h : Γ[0]? = some (some (.ptr 0))) : evG cf (.sub (.var 0) (.dat (.int 2))) d Γ (.lst [x, y, z] :: r) = .ok Γ (.lst [x, y, d] :: r) := by
  show ((evE cf (.var 0) Γ (.lst [x, y, z] :: r)).bind _) = _
  rw [e_var, h]
  rfl
theorem r_take {k : Nat} {a b c m : Int} {r : Mem} (hm : 0 < m ∧ m ≤ 1000) (hc : 0 ≤ c ∧ c ≤ 900000) : ∃ a' b' c' v : Int, callW (F (k + 1)) .hp 50 [.ptr 0, .int m] (tn a b c r) = .ok (.int v) (tn a' b' c' r) ∧ (0 ≤ v ∧ v < m) ∧ 0 ≤ c' ∧ c' ≤ c + 1 := by
  have hs : Sm_ m := ⟨by omega, by omega⟩
  have mo := fun x : Int => Int.emod_nonneg x (show m ≠ 0 by omega)
  have ml := fun x : Int => Int.emod_lt_of_pos x hm.1
  by_cases ha : 0 < a
  · refine ⟨a / m, b, c, a % m, ?_, ⟨mo a, ml a⟩, hc.1, by omega⟩
    show F (k + 1) 50 [.ptr 0, .int m] (tn a b c r) = _
    refine run_of rfl rfl ?_
    show evSs lawW (F k) ir__law_take [some (.ptr 0), some (.int m), none, none, none, none] (tn a b c r) = _
    unfold ir__law_take
    simp [ha, b_mod hm.1, b_div hm.1 (div_ok hs), g_sub0]
  · have e1 := b_mul (M := tn a b (c + 1) r) (i := 48271) (j := c + 1) (mul_ok ⟨by decide, by decide⟩)
    have e2 := b_mul (M := tn a b (c + 1) r) (i := b + 48271 * (c + 1)) (j := 39373 + (c + 1)) (mul_ok2 ⟨by omega, by omega⟩)
    have e3 := b_mod (M := tn a b (c + 1) r) (i := (b + 48271 * (c + 1)) * (39373 + (c + 1))) (j := 2147483647) (by decide)
    generalize hon : ((b + 48271 * (c + 1)) * (39373 + (c + 1))) % 2147483647 = once at e3
    have e4 := b_mod (M := tn a b (c + 1) r) (i := once) (j := 40009) (by decide)
    have w1 := Int.emod_nonneg once (show (40009 : Int) ≠ 0 by decide)
    have w2 := Int.emod_lt_of_pos once (show (0 : Int) < 40009 by decide)
    generalize hw : once % 40009 = wd at e4 w1 w2
    have e5 := b_div (M := tn a b (c + 1) r) (i := b) (j := 1000003) (by decide) (by decide)
    have e6 := b_mul (M := tn a b (c + 1) r) (i := once + (c + 1) + b / 1000003) (j := wd + 7) (mul_ok2 ⟨by omega, by omega⟩)
    have e7 := b_mod (M := tn a b (c + 1) r) (i := (once + (c + 1) + b / 1000003) * (wd + 7)) (j := 2147483629) (by decide)
    generalize htw : ((once + (c + 1) + b / 1000003) * (wd + 7)) % 2147483629 = tw at e7
    have e8 := b_mul (M := tn a b (c + 1) r) (i := tw) (j := 48271) (mul_ok2 ⟨by decide, by decide⟩)
    have e9 := b_mod (M := tn a b (c + 1) r) (i := tw * 48271 + once) (j := 2147483587) (by decide)
    generalize hz : (tw * 48271 + once) % 2147483587 = z at e9
    have e10 := b_div (M := tn a b (c + 1) r) (i := z) (j := 64) (by decide) (by decide)
    have e11 := b_mod (M := tn a b (c + 1) r) (i := z / 64) (j := m) hm.1
    refine ⟨a, b, c + 1, (z / 64) % m, ?_, ⟨mo _, ml _⟩, by omega, by omega⟩
    show F (k + 1) 50 [.ptr 0, .int m] (tn a b c r) = _
    refine run_of rfl rfl ?_
    show evSs lawW (F k) ir__law_take [some (.ptr 0), some (.int m), none, none, none, none] (tn a b c r) = _
    unfold ir__law_take
    simp [ha, g_sub2, e1, e2, e3, e4, e5, e6, e7, e8, e9, e10, e11]
theorem cut_map {ns : List Int} {lo hi : Option Int} : ∃ ms : List Int, cutD (ns.map Dat.int) lo hi = ms.map .int ∧ ms.length ≤ ns.length := by
  unfold cutD
  rw [← List.map_drop, ← List.map_take]
  exact ⟨_, rfl, by rw [List.length_take, List.length_drop]; omega⟩
theorem g_tup2 {cf : CallF} {i j : Nat} {a b : Dat} {Γ : Gam} {M : Mem} : evG cf (.tup (.cons (.name i) (.cons (.name j) .nil))) (.tup [a, b]) Γ M = .ok ((Γ.set i (some a)).set j (some b)) M := rfl
/-- a call whose result is a list of ours -/
def Cl_ (cf : CallF) (j : Nat) (ds xs : List Dat) : Prop := ∀ M, callW cf .cl j ds M = .ok (.ptr M.length) (M ++ [.lst xs])
theorem Cl_.of {cf : CallF} {j k : Nat} {ds xs : List Dat} {M1 : Mem} (hn : Dat.nps ds = true) (h : cf j ds [] = .ok (.ptr k) M1) (hM : M1[k]? = some (.lst xs)) (hx : Dat.nps xs = true) : Cl_ cf j ds xs := fun M => by
  show callN backC (cf j) ds M = _
  unfold callN
  rw [if_pos hn, h]
  show (match M1[k]? with | some (.lst ds) => if Dat.nps ds then Rs.ok (Dat.ptr M.length) (M ++ [Cel.lst ds]) else .no | _ => .no) = _
  rw [hM]
  show (if Dat.nps xs then Rs.ok (Dat.ptr M.length) (M ++ [Cel.lst xs]) else .no) = _
  rw [if_pos hx]
@[simp] theorem it_q0 {x : Dat} {r : Mem} : itemD (.lst [x] :: r) (.ptr 0) (.int 0) = some x := by simp [itemD, sq, rd, rdL, atI, ixN]
@[simp] theorem it_l0 {M : Mem} {x : Dat} : itemD M (.lst [x]) (.int 0) = some x := by simp [itemD, sq, rd, rdL, atI, ixN]
theorem g_subv {cf : CallF} {x d : Dat} {Γ : Gam} (h2 : Γ[2]? = some (some (.ptr 0))) (h5 : Γ[5]? = some (some (.int 0))) : evG cf (.sub (.var 2) (.var 5)) d Γ [.lst [x]] = .ok Γ [.lst [d]] := by
  show ((evE cf (.var 2) Γ [.lst [x]]).bind fun a M => (evE cf (.var 5) Γ M).bind fun y M => _) = _
  rw [e_var, h2, varR_ok, bind_ok, e_var, h5]
  rfl
def prs (ps : List (Nat × Int)) : List Dat := ps.map fun p => pairD (.int (p.1 : Nat)) (.int p.2)
theorem enum_prs (ms : List Int) : ∃ ps : List (Nat × Int), enumD (ms.map .int) = prs ps ∧ ∀ p ∈ ps, p.1 < ms.length := by
  refine ⟨(List.range ms.length).zip ms, ?_, fun p hp => ?_⟩
  · unfold enumD prs
    rw [List.length_map, List.zipWith_map, List.zip, List.map_zipWith]
  · have := (List.of_mem_zip hp).1
    simpa using this
abbrev cellsBody : Sms := .cons (.set 5 (.bin (.op .Mod) (.un .int (.var 3)) (.var 1))) (.cons (.asg (.sub (.var 2) (.var 5)) (.bin (.op .Add) (.bin .ix (.var 2) (.var 5)) (.bin (.op .Mult) (.var 4) (.bin (.op .Add) (.var 3) (.dat (.int 2)))))) .nil)
theorem cells_loop {cf : CallF} {l : List Dat} : ∀ (ps : List (Nat × Int)) (x : Int) (s o3 o4 o5 : Option Dat), (∀ p ∈ ps, p.1 < 1000) →
    ∃ (x' : Int) (o3' o4' o5' : Option Dat), forR lawW cf [(.lst l, l)] (.tup (.cons (.name 3) (.cons (.name 4) .nil))) cellsBody (prs ps) [s, some (.int 1), some (.ptr 0), o3, o4, o5] [.lst [.int x]] = .ok (.nx [s, some (.int 1), some (.ptr 0), o3', o4', o5']) [.lst [.int x']]
  | [], x, s, o3, o4, o5, _ => ⟨x, o3, o4, o5, rfl⟩
  | p :: ps, x, s, o3, o4, o5, h => by
    have hp := h p List.mem_cons_self
    obtain ⟨x', a, b, c, ih⟩ := cells_loop (cf := cf) (l := l) ps (x + p.2 * ((p.1 : Int) + 2)) s (some (.int (p.1 : Nat))) (some (.int p.2)) (some (.int 0)) fun q hq => h q (List.mem_cons_of_mem _ hq)
    refine ⟨x', a, b, c, ?_⟩
    have hc : prs (p :: ps) = pairD (.int (p.1 : Nat)) (.int p.2) :: prs ps := rfl
    have e1 := b_mul (M := [.lst [.int x]]) (i := p.2) (j := (p.1 : Int) + 2) (mul_ok2 ⟨by omega, by omega⟩)
    have e0 := b_mod (M := [.lst [.int x]]) (i := (p.1 : Int)) (j := 1) (by decide)
    rw [Int.emod_one] at e0
    rw [hc, for_go (Γ1 := [s, some (.int 1), some (.ptr 0), some (.int (p.1 : Nat)), some (.int p.2), o5]) (M1 := [.lst [.int x]]) (Γ2 := [s, some (.int 1), some (.ptr 0), some (.int (p.1 : Nat)), some (.int p.2), some (.int 0)]) (M2 := [.lst [.int (x + p.2 * ((p.1 : Int) + 2))]]) g_tup2 ?_ rfl, ih]
    simp [e0, e1, g_subv]
theorem r_cells {k : Nat} (ns : List Int) (hl : ns.length ≤ 63) : ∃ x : Int, Fz (F (k + 1)) 51 [.rol (ns.map .int), .int 1] (.lst [.int x]) := by
  have hnp : ∀ ms : List Int, Dat.nps (ms.map .int) = true := fun ms => by
    induction ms with
    | nil => rfl
    | cons m ms ih => exact ih
  have hn2 : Dat.nps [.rol (ns.map .int), .int 1] = true := by
    show (Dat.nps (ns.map .int) && (true && true)) = true
    rw [hnp]
    rfl
  obtain ⟨ms, hms, hml⟩ := cut_map (ns := ns) (lo := some 1) (hi := some 63)
  cases ns with
  | nil =>
    have hms0 : ms = [] := List.length_eq_zero_iff.mp (by simpa using hml)
    subst hms0
    refine ⟨0, Fz.ofL (k := 1) (M1 := [.lst [], .lst [.int 0]]) hn2 (run_of rfl rfl ?_) rfl rfl⟩
    show evSs lawW (F k) ir__law_cells [some (.rol []), some (.int 1), none, none, none, none] [] = _
    have c1 : ∀ M : Mem, cutX M (.rol []) none (some 1) = some (.lst []) := fun M => rfl
    have c2 : ∀ M : Mem, cutX M (.rol []) (some 1) (some 63) = some (.lst []) := fun M => rfl
    unfold ir__law_cells
    simp [c1, c2, rd, rdL, orLR_nil]
    rw [forI_ok rfl]
    simp [enumD]
  | cons n ns =>
    have c0 : cutD ((n :: ns).map Dat.int) none (some 1) = [.int n] := by
      unfold cutD
      rw [HT.sIx_none, show (some (1 : Int)) = some (((1 : Nat) : Int)) from rfl, HT.sIx_nat]
      simp
    obtain ⟨ps, hps, hpl⟩ := enum_prs ms
    obtain ⟨x', a, b, c, e⟩ := cells_loop (cf := F k) (l := ms.map .int) ps n (some (.rol ((n :: ns).map .int))) none none none fun p hp => by
      have := hpl p hp
      omega
    refine ⟨x', Fz.ofL (k := 0) (M1 := [.lst [.int x']]) hn2 (run_of rfl rfl ?_) rfl rfl⟩
    show evSs lawW (F k) ir__law_cells [some (.rol ((n :: ns).map .int)), some (.int 1), none, none, none, none] [] = _
    have c1 : ∀ M : Mem, cutX M (.rol ((n :: ns).map .int)) none (some 1) = some (.lst [.int n]) := fun M => by
      show some (Dat.lst (cutD _ none (some 1))) = _
      rw [c0]
    have c2 : ∀ M : Mem, cutX M (.rol ((n :: ns).map .int)) (some 1) (some 63) = some (.lst (ms.map .int)) := fun M => by
      show some (Dat.lst (cutD _ (some 1) (some 63))) = _
      rw [hms]
    have o1 : evE (F k) (.orL (.un .listC (.sl (.var 0) .none (.some (.var 1)))) (.lstC (.cons (.dat (.int 0)) .nil))) [some (.rol ((n :: ns).map .int)), some (.int 1), none, none, none, none] [] = .ok (.ptr 0) [.lst [.int n]] := by
      simp only [e_orL, e_un, e_sl, e_var, List.getElem?_cons_zero, List.getElem?_cons_succ, varR_ok, bind_ok, o_none, o_some, oInt_int, c1, ofX_some, u_listC, sq_lst, map_some', ofO_some]
      rfl
    have o2 : evI (F k) (.enum (.sl (.var 0) (.some (.var 1)) (.some (.dat (.int 63))))) [some (.rol ((n :: ns).map .int)), some (.int 1), some (.ptr 0), none, none, none] [.lst [.int n]] = .ok (prs ps, [(.lst (ms.map .int), ms.map .int)]) [.lst [.int n]] := by
      simp only [i_enum, e_sl, e_var, List.getElem?_cons_zero, List.getElem?_cons_succ, varR_ok, bind_ok, o_some, oInt_int, e_dat, c2, ofX_some, enumR_lst, hps]
    unfold ir__law_cells
    rw [ss_cons, s_set, o1, bind_ok, bind_ok, nxR_nx, ss_cons, s_for]
    have o2' : evI (F k) (.enum (.sl (.var 0) (.some (.var 1)) (.some (.dat (.int 63))))) ([some (.rol ((n :: ns).map .int)), some (.int 1), none, none, none, none].set 2 (some (.ptr 0))) [.lst [.int n]] = _ := o2
    rw [o2', bind_ok, forI_ok rfl]
    have e : forR lawW (F k) [(.lst (ms.map .int), ms.map .int)] (.tup (.cons (.name 3) (.cons (.name 4) .nil))) cellsBody (prs ps) ([some (.rol ((n :: ns).map .int)), some (.int 1), none, none, none, none].set 2 (some (.ptr 0))) [.lst [.int n]] = _ := e
    rw [e]
    simp
theorem b_op {M : Mem} {o : Operator} {d e : Dat} : bin2 (.op o) d e M = (binD o d e).map fun x => (x, M) := by cases d <;> cases e <;> rfl
theorem b_pow {M : Mem} {i j : Int} (h : 0 ≤ j ∧ j ≤ 1000000 ∧ i.natAbs < 2 ^ 64) : bin2 (.op .Pow) (.int i) (.int j) M = some (.int (i ^ j.toNat), M) := by
  rw [b_op]
  have : binD .Pow (.int i) (.int j) = some (.int (i ^ j.toNat)) := by
    unfold binD
    exact if_pos h
  rw [this]
  rfl
theorem b_pow18 {P : Int} (h : P = 10 ^ (18 : Int).toNat) (M : Mem) : bin2 (.op .Pow) (.int 10) (.int 18) M = some (.int P, M) := by
  rw [h]
  exact b_pow ⟨by decide, by decide, by decide⟩
theorem sm01 (c : Prop) [Decidable c] : Sm_ (if c then 1 else 0) := by
  by_cases h : c
  · rw [if_pos h]; exact ⟨by decide, by decide⟩
  · rw [if_neg h]; exact ⟨by decide, by decide⟩
theorem e_mulS {cf : CallF} {e f : Ex} {Γ : Gam} {i j : Int} (h : Sm_ j) (h1 : evE cf e Γ [] = .ok (.int i) []) (h2 : evE cf f Γ [] = .ok (.int j) []) : evE cf (.bin (.op .Mult) e f) Γ [] = .ok (.int (i * j)) [] := by
  rw [e_bin, h1, bind_ok, h2, bind_ok, b_mul (mul_ok2 h)]
  rfl
theorem box_a {cf : CallF} (x P : Int) (hP : ∀ M, bin2 (.op .Pow) (.int 10) (.int 18) M = some (.int P, M)) (o1 o2 : Option Dat) : ∃ a : Int, evE cf (.bin (.op .Mult) (.un .abs (.var 2)) (.un .int (.bin (.cmp .GtE) (.un .abs (.var 2)) (.bin (.op .Pow) (.dat (.int 10)) (.dat (.int 18)))))) [o1, o2, some (.int x)] [] = .ok (.int a) [] := by
  have h1 : evE cf (.un .abs (.var 2)) [o1, o2, some (.int x)] [] = .ok (.int x.natAbs) [] := by
    rw [e_un, e_var]
    show ofO (un1 .abs (.int x) []) = _
    rw [u_abs]
    rfl
  have h2 : evE cf (.bin (.op .Pow) (.dat (.int 10)) (.dat (.int 18))) [o1, o2, some (.int x)] [] = .ok (.int P) [] := by
    rw [e_bin, e_dat, bind_ok, e_dat, bind_ok, hP]
    rfl
  have h3 : evE cf (.un .int (.bin (.cmp .GtE) (.un .abs (.var 2)) (.bin (.op .Pow) (.dat (.int 10)) (.dat (.int 18))))) [o1, o2, some (.int x)] [] = .ok (.int (if decide (P ≤ (x.natAbs : Int)) = true then 1 else 0)) [] := by
    rw [e_un, e_bin, h1, bind_ok, h2, bind_ok, b_ge]
    rfl
  exact ⟨_, e_mulS (sm01 _) h1 h3⟩
theorem box_b {cf : CallF} (x K L N : Int) (hK : 0 < K) (hL : Sm_ L) (o1 : Option Dat) : ∃ b : Int, evE cf (.bin (.op .Add) (.bin (.op .Add) (.bin (.op .Mod) (.un .int (.var 2)) (.dat (.int K))) (.bin (.op .Mult) (.dat (.int L)) (.var 1))) (.dat (.int N))) [o1, some (.int 0), some (.int x)] [] = .ok (.int b) [] := by
  have e2 := b_mod (M := []) (i := x) (j := K) hK
  have e3 := b_mul (M := []) (i := L) (j := 0) (mul_ok hL)
  refine ⟨x % K + L * 0 + N, ?_⟩
  simp only [e_bin, e_un, e_var, List.getElem?_cons_zero, List.getElem?_cons_succ, varR_ok, bind_ok, ofO_some, e_dat, u_int, e2, e3, b_add]
theorem r_box {k : Nat} (x : Int) : ∃ a b : Int, Cl_ (F (k + 1)) 49 [.lst [.int x], .int 0] [.int a, .int b, .int 0] := by
  obtain ⟨P, hP⟩ : ∃ P : Int, P = 10 ^ (18 : Int).toNat := ⟨_, rfl⟩
  obtain ⟨a, ha⟩ := box_a (cf := F k) x P (b_pow18 hP) (some (.lst [.int x])) (some (.int 0))
  obtain ⟨b, hb⟩ := box_b (cf := F k) x 2305843009213693951 39373 248220029 (by decide) ⟨by decide, by decide⟩ (some (.lst [.int x]))
  refine ⟨a, b, Cl_.of (k := 0) (M1 := [.lst [.int a, .int b, .int 0]]) rfl (run_of rfl rfl ?_) rfl rfl⟩
  show evSs lawW (F k) ir__law_box [some (.lst [.int x]), some (.int 0), none] [] = _
  unfold ir__law_box
  have lt01 : decide ((0 : Int) < ((([Dat.int x].length : Nat)) : Int)) = true := rfl
  have s1 : evS lawW (F k) (.set 2 (.ite (.bin (.cmp .Lt) (.var 1) (.un .len (.var 0))) (.bin .ix (.var 0) (.var 1)) (.dat (.int 0)))) [some (.lst [.int x]), some (.int 0), none] [] = .ok (.nx [some (.lst [.int x]), some (.int 0), some (.int x)]) [] := by
    simp only [s_set, e_ite, e_bin, e_un, e_var, List.getElem?_cons_zero, List.getElem?_cons_succ, varR_ok, bind_ok, u_len, len_lst, map_some', ofO_some, b_lt, asB_bl, lt01, iteR_t, b_ix, it_l0]
    rfl
  rw [ss_cons, s1, bind_ok, nxR_nx, ss_cons, s_ret, e_lstC, a_cons, ha, bind_ok, a_cons, hb, bind_ok, a_cons, e_dat, bind_ok, a_nil, bind_ok, bind_ok, bind_ok, bind_ok, okLen_3, bind_ok, bind_ok, nxR_rt]
  rfl
end Ab
end

section
set_option Elab.async false
set_option linter.all false
set_option maxRecDepth 100000
set_option maxHeartbeats 2000000
/-! Pu1: a pure part of the small language, runnable without a memory; the slots that it does not know stand aside. -/
namespace Ab
open PySem L2
def ov : Gam → Gam → Gam
  | some x :: Γ, _ :: Δ => some x :: ov Γ Δ
  | none :: Γ, d :: Δ => d :: ov Γ Δ
  | _, _ => []
theorem ov_len : ∀ {Γ Δ : Gam}, Γ.length = Δ.length → (ov Γ Δ).length = Δ.length
  | [], [], _ => rfl
  | some x :: Γ, d :: Δ, h => congrArg (· + 1) (ov_len (Γ := Γ) (Δ := Δ) (Nat.succ.inj h))
  | none :: Γ, d :: Δ, h => congrArg (· + 1) (ov_len (Γ := Γ) (Δ := Δ) (Nat.succ.inj h))
  | [], _ :: _, h => by cases h
  | _ :: _, [], h => by cases h
theorem ov_get : ∀ {Γ Δ : Gam} {i : Nat} {d : Dat}, Γ.length = Δ.length → Γ[i]? = some (some d) → (ov Γ Δ)[i]? = some (some d)
  | some x :: Γ, _ :: Δ, 0, d, h, e => e
  | none :: Γ, _ :: Δ, 0, d, h, e => by cases e
  | some x :: Γ, _ :: Δ, i + 1, d, h, e => ov_get (Γ := Γ) (Δ := Δ) (i := i) (Nat.succ.inj h) e
  | none :: Γ, _ :: Δ, i + 1, d, h, e => ov_get (Γ := Γ) (Δ := Δ) (i := i) (Nat.succ.inj h) e
  | [], _, _, _, _, e => by cases e
  | _ :: _, [], _, _, h, _ => by cases h
theorem ov_set : ∀ {Γ Δ : Gam} (i : Nat) (d : Dat), Γ.length = Δ.length → (ov Γ Δ).set i (some d) = ov (Γ.set i (some d)) Δ
  | some x :: Γ, _ :: Δ, 0, d, h => rfl
  | none :: Γ, _ :: Δ, 0, d, h => rfl
  | some x :: Γ, _ :: Δ, i + 1, d, h => congrArg (some x :: ·) (ov_set (Γ := Γ) (Δ := Δ) i d (Nat.succ.inj h))
  | none :: Γ, y :: Δ, i + 1, d, h => congrArg (y :: ·) (ov_set (Γ := Γ) (Δ := Δ) i d (Nat.succ.inj h))
  | [], [], _, _, _ => rfl
  | [], _ :: _, _, _, h => by cases h
  | _ :: _, [], _, _, h => by cases h
theorem ov_none : ∀ {Γ Δ : Gam} (i : Nat), Γ.length = Δ.length → (ov Γ Δ).set i none = ov (Γ.set i none) (Δ.set i none)
  | some x :: Γ, _ :: Δ, 0, h => rfl
  | none :: Γ, _ :: Δ, 0, h => rfl
  | some x :: Γ, _ :: Δ, i + 1, h => congrArg (some x :: ·) (ov_none (Γ := Γ) (Δ := Δ) i (Nat.succ.inj h))
  | none :: Γ, y :: Δ, i + 1, h => congrArg (y :: ·) (ov_none (Γ := Γ) (Δ := Δ) i (Nat.succ.inj h))
  | [], [], _, _ => rfl
  | [], _ :: _, _, h => by cases h
  | _ :: _, [], _, h => by cases h
theorem wipe_len : ∀ (vs : List Nat) (Γ : Gam), (wipeG Γ vs).length = Γ.length
  | [], _ => rfl
  | v :: vs, Γ => by
    show ((wipeG Γ vs).set v none).length = _
    rw [List.length_set, wipe_len vs]
theorem ov_wipe : ∀ (vs : List Nat) {Γ Δ : Gam}, Γ.length = Δ.length → wipeG (ov Γ Δ) vs = ov (wipeG Γ vs) (wipeG Δ vs)
  | [], _, _, _ => rfl
  | v :: vs, Γ, Δ, h => by
    show (wipeG (ov Γ Δ) vs).set v none = ov ((wipeG Γ vs).set v none) ((wipeG Δ vs).set v none)
    rw [ov_wipe vs h, ov_none v (by rw [wipe_len, wipe_len]; exact h)]
theorem putAll_len : ∀ (is : List Nat) (ds : List Dat) (Γ : Gam), (putAll is ds Γ).length = Γ.length
  | i :: is, d :: ds, Γ => (putAll_len is ds (Γ.set i (some d))).trans (List.length_set ..)
  | [], _, _ => rfl
  | _ :: _, [], _ => rfl
theorem ov_putAll : ∀ (is : List Nat) (ds : List Dat) {Γ Δ : Gam}, Γ.length = Δ.length → putAll is ds (ov Γ Δ) = ov (putAll is ds Γ) Δ
  | i :: is, d :: ds, Γ, Δ, h => by
    show putAll is ds ((ov Γ Δ).set i (some d)) = ov (putAll is ds (Γ.set i (some d))) Δ
    rw [ov_set i d h]
    exact ov_putAll is ds (by rw [List.length_set]; exact h)
  | [], _, _, _, _ => rfl
  | _ :: _, [], _, _, _ => rfl
theorem ov_putT {t : Tgt} {d : Dat} {Γ Δ Γ' : Gam} (h : Γ.length = Δ.length) (e : putT t d Γ = some Γ') : putT t d (ov Γ Δ) = some (ov Γ' Δ) ∧ Γ'.length = Δ.length := by
  cases t with
  | one i =>
    cases e
    exact ⟨congrArg some (ov_set i d h), by rw [List.length_set]; exact h⟩
  | tup is =>
    cases d with
    | tup ds =>
      have e : (if ds.length = is.length then some (putAll is ds Γ) else none) = some Γ' := e
      show (if ds.length = is.length then some (putAll is ds (ov Γ Δ)) else none) = _ ∧ _
      split at e
      · rename_i hl
        cases e
        rw [if_pos hl, ov_putAll is ds h]
        exact ⟨rfl, by rw [putAll_len]; exact h⟩
      · cases e
    | _ => cases e
/-! operations that no memory enters -/
def okU : B1 → Bool
  | .neg | .notB | .len | .abs | .int | .list | .tuple | .sum | .all | .any | .isN | .notN | .isi _ | .rev => true
  | _ => false
def nptr : Dat → Bool
  | .ptr _ => false
  | _ => true
section
variable {d e : Dat} (M : Mem)
theorem rdL_any (h : nptr d = true) : rdL M d = rdL [] d := by cases d <;> first | rfl | cases h
theorem rd_any (h : nptr d = true) : rd M d = rd [] d := by cases d <;> first | rfl | cases h
theorem sq_any (h : nptr d = true) : sq M d = sq [] d := by cases d <;> first | rfl | cases h
theorem lenD_any (h : nptr d = true) : lenD M d = lenD [] d := by cases d <;> first | rfl | cases h
theorem tyD_any (h : nptr d = true) : tyD M d = tyD [] d := by cases d <;> first | rfl | cases h
theorem pyD_any (h : nptr d = true) : pyD M d = pyD [] d := by cases d <;> first | rfl | cases h
theorem item_any (h : nptr d = true) : itemD M d e = itemD [] d e := by cases d <;> first | rfl | cases h
theorem cutX_any {lo hi : Option Int} (h : nptr d = true) : cutX M d lo hi = cutX [] d lo hi := by cases d <;> first | rfl | cases h
theorem un_any {f : B1} {r : Dat × Mem} (hf : okU f = true) (hd : nptr d = true) (h : un1 f d [] = some r) : un1 f d M = some (r.1, M) := by
  have h1 := sq_any M hd
  have h2 := rd_any M hd
  have h3 := lenD_any M hd
  have h4 := tyD_any M hd
  cases f <;> first | (cases hf; done) | skip
  case neg => cases d <;> first | (cases h; rfl) | cases h
  case notB => cases d <;> first | (cases h; rfl) | cases h
  case abs => cases d <;> first | (cases h; rfl) | cases h
  case int => cases d <;> first | (cases h; rfl) | cases h
  case len =>
    obtain ⟨n, e1, e2⟩ := Option.map_eq_some_iff.mp (show (lenD [] d).map _ = _ from h)
    subst e2
    show (lenD M d).map _ = _
    rw [h3, e1]
    rfl
  case list =>
    obtain ⟨n, e1, e2⟩ := Option.map_eq_some_iff.mp (show (sq [] d).map _ = _ from h)
    subst e2
    show (sq M d).map _ = _
    rw [h1, e1]
    rfl
  case tuple =>
    obtain ⟨n, e1, e2⟩ := Option.map_eq_some_iff.mp (show (sq [] d).map _ = _ from h)
    subst e2
    show (sq M d).map _ = _
    rw [h1, e1]
    rfl
  case rev =>
    obtain ⟨n, e1, e2⟩ := Option.map_eq_some_iff.mp (show (rd [] d).map _ = _ from h)
    subst e2
    show (rd M d).map _ = _
    rw [h2, e1]
    rfl
  case sum =>
    obtain ⟨n, e1, e2⟩ := Option.bind_eq_some_iff.mp (show (rd [] d).bind _ = _ from h)
    obtain ⟨ns, e5, e3⟩ := Option.map_eq_some_iff.mp e2
    subst e3
    show (rd M d).bind _ = _
    rw [h2, e1]
    show (intsD n).map _ = _
    rw [e5]
    rfl
  case all =>
    obtain ⟨n, e1, e2⟩ := Option.bind_eq_some_iff.mp (show (rd [] d).bind _ = _ from h)
    obtain ⟨ns, e5, e3⟩ := Option.map_eq_some_iff.mp e2
    subst e3
    show (rd M d).bind _ = _
    rw [h2, e1]
    show (boolsD n).map _ = _
    rw [e5]
    rfl
  case any =>
    obtain ⟨n, e1, e2⟩ := Option.bind_eq_some_iff.mp (show (rd [] d).bind _ = _ from h)
    obtain ⟨ns, e5, e3⟩ := Option.map_eq_some_iff.mp e2
    subst e3
    show (rd M d).bind _ = _
    rw [h2, e1]
    show (boolsD n).map _ = _
    rw [e5]
    rfl
  case isN => cases d <;> first | (cases h; rfl) | cases h
  case notN => cases d <;> first | (cases h; rfl) | cases h
  case isi =>
    rename_i ts
    obtain ⟨n, e1, e2⟩ := Option.map_eq_some_iff.mp (show (isiD [] ts d).map _ = _ from h)
    subst e2
    show (isiD M ts d).map _ = _
    have : isiD M ts d = isiD [] ts d := by unfold isiD; rw [h4]
    rw [this, e1]
    rfl
def okB : B2 → Bool
  | .op _ | .cmp _ | .eqv | .neqv | .inn | .ninn | .catL | .catT | .repL | .repT | .ix | .max | .min | .addX | .ltX => true
  | _ => false
theorem bin_any {f : B2} {r : Dat × Mem} (hf : okB f = true) (hd : nptr d = true) (he : nptr e = true) (h : bin2 f d e [] = some r) : bin2 f d e M = some (r.1, M) := by
  have h1 := rdL_any M hd
  have h2 := rdL_any M he
  have h3 := pyD_any M hd
  have h4 := pyD_any M he
  cases f <;> first | (cases hf; done) | skip
  case op o =>
    have z : ∀ M, bin2 (.op o) d e M = (binD o d e).map fun x => (x, M) := fun M => by cases d <;> cases e <;> rfl
    rw [z] at h
    obtain ⟨n, e1, e2⟩ := Option.map_eq_some_iff.mp h
    subst e2
    rw [z, e1]
    rfl
  case cmp o =>
    have z : ∀ M, bin2 (.cmp o) d e M = (cmpD o d e).map fun x => (.bl x, M) := fun M => by cases d <;> cases e <;> rfl
    rw [z] at h
    obtain ⟨n, e1, e2⟩ := Option.map_eq_some_iff.mp h
    subst e2
    rw [z, e1]
    rfl
  case eqv =>
    have z : ∀ M, bin2 .eqv d e M = (eqvD M d e).map fun k => (.bl k, M) := fun M => by cases d <;> cases e <;> rfl
    have q : eqvD M d e = eqvD [] d e := by unfold eqvD; rw [h3, h4]
    rw [z] at h
    obtain ⟨n, e1, e2⟩ := Option.map_eq_some_iff.mp h
    subst e2
    rw [z, q, e1]
    rfl
  case neqv =>
    have z : ∀ M, bin2 .neqv d e M = (eqvD M d e).map fun k => (.bl (!k), M) := fun M => by cases d <;> cases e <;> rfl
    have q : eqvD M d e = eqvD [] d e := by unfold eqvD; rw [h3, h4]
    rw [z] at h
    obtain ⟨n, e1, e2⟩ := Option.map_eq_some_iff.mp h
    subst e2
    rw [z, q, e1]
    rfl
  case inn =>
    have z : ∀ M, bin2 .inn d e M = (inD M d e).map fun k => (.bl k, M) := fun M => by cases d <;> cases e <;> rfl
    have q : inD M d e = inD [] d e := by unfold inD; rw [h3, h4]
    rw [z] at h
    obtain ⟨n, e1, e2⟩ := Option.map_eq_some_iff.mp h
    subst e2
    rw [z, q, e1]
    rfl
  case ninn =>
    have z : ∀ M, bin2 .ninn d e M = (inD M d e).map fun k => (.bl (!k), M) := fun M => by cases d <;> cases e <;> rfl
    have q : inD M d e = inD [] d e := by unfold inD; rw [h3, h4]
    rw [z] at h
    obtain ⟨n, e1, e2⟩ := Option.map_eq_some_iff.mp h
    subst e2
    rw [z, q, e1]
    rfl
  case catL =>
    have z : ∀ M, bin2 .catL d e M = (rdL M d).bind fun xs => (rdL M e).bind fun ys => if xs.length + ys.length ≤ sizeLine then some (.lst (xs ++ ys), M) else none := fun M => by cases d <;> cases e <;> rfl
    rw [z] at h
    obtain ⟨xs, e1, h⟩ := Option.bind_eq_some_iff.mp h
    obtain ⟨ys, e2, h⟩ := Option.bind_eq_some_iff.mp h
    rw [z, h1, e1]
    show (rdL M e).bind _ = _
    rw [h2, e2]
    show (if _ then _ else _) = _
    split at h
    · rename_i hl
      cases h
      rw [if_pos hl]
    · cases h
  case catT =>
    cases d <;> first | (cases h; done) | skip
    cases e <;> first | (cases h; done) | skip
    rename_i xs ys
    have h : (if xs.length + ys.length ≤ sizeLine then some (Dat.tup (xs ++ ys), ([] : Mem)) else none) = some r := h
    show (if xs.length + ys.length ≤ sizeLine then some (Dat.tup (xs ++ ys), M) else none) = _
    split at h
    · rename_i hl
      cases h
      rw [if_pos hl]
    · cases h
  case repL =>
    cases e with
    | int k =>
      have z : ∀ M, bin2 .repL d (.int k) M = (rdL M d).bind fun xs => if repOk xs.length k then some (.lst (List.replicate k.toNat xs).flatten, M) else none := fun M => by cases d <;> rfl
      rw [z] at h
      obtain ⟨xs, e1, h⟩ := Option.bind_eq_some_iff.mp h
      rw [z, h1, e1]
      show (if _ then _ else _) = _
      split at h
      · rename_i hl
        cases h
        rw [if_pos hl]
      · cases h
    | _ => cases d <;> cases h
  case repT =>
    cases d <;> first | (cases h; done) | skip
    cases e <;> first | (cases h; done) | skip
    rename_i xs k
    have h : (if xs ≠ [] ∧ 2 ≤ k ∧ k ≤ 1000 ∧ xs.length ≤ 1000 then some (Dat.tup (List.replicate k.toNat xs).flatten, ([] : Mem)) else none) = some r := h
    show (if xs ≠ [] ∧ 2 ≤ k ∧ k ≤ 1000 ∧ xs.length ≤ 1000 then some (Dat.tup (List.replicate k.toNat xs).flatten, M) else none) = _
    split at h
    · rename_i hl
      cases h
      rw [if_pos hl]
    · cases h
  case ix =>
    have z : ∀ M, bin2 .ix d e M = (itemD M d e).map fun x => (x, M) := fun M => by cases d <;> cases e <;> rfl
    rw [z] at h
    obtain ⟨n, e1, e2⟩ := Option.map_eq_some_iff.mp h
    subst e2
    rw [z, item_any M hd, e1]
    rfl
  case max => cases d <;> cases e <;> first | (cases h; rfl) | cases h
  case min => cases d <;> cases e <;> first | (cases h; rfl) | cases h
  case ltX =>
    cases d <;> first | (cases h; done) | skip
    all_goals cases e <;> first | (cases h; rfl) | (cases h; done) | skip
    rename_i xs ys
    obtain ⟨ns, e1, h⟩ := Option.bind_eq_some_iff.mp (show (intsD xs).bind _ = _ from h)
    obtain ⟨ms, e2, h⟩ := Option.map_eq_some_iff.mp h
    subst h
    show (intsD xs).bind _ = _
    rw [e1]
    show (intsD ys).map _ = _
    rw [e2]
    rfl
  case addX =>
    have w : ∀ M, (rdL M d).bind (fun xs => (rdL M e).bind fun ys => if xs.length + ys.length ≤ sizeLine then some (Dat.lst (xs ++ ys), M) else none) = ((rdL [] d).bind fun xs => (rdL [] e).bind fun ys => if xs.length + ys.length ≤ sizeLine then some (Dat.lst (xs ++ ys)) else none).map fun z => (z, M) := fun M => by
      rw [rdL_any M hd, rdL_any M he]
      cases rdL [] d with
      | none => rfl
      | some xs => cases rdL [] e with
        | none => rfl
        | some ys =>
          by_cases hz : xs.length + ys.length ≤ sizeLine
          · simp [hz]
          · simp [hz]
    have fin : (rdL [] d).bind (fun xs => (rdL [] e).bind fun ys => if xs.length + ys.length ≤ sizeLine then some (Dat.lst (xs ++ ys), ([] : Mem)) else none) = some r → (rdL M d).bind (fun xs => (rdL M e).bind fun ys => if xs.length + ys.length ≤ sizeLine then some (Dat.lst (xs ++ ys), M) else none) = some (r.1, M) := fun h => by
      rw [w] at h
      obtain ⟨n, e1, e2⟩ := Option.map_eq_some_iff.mp h
      subst e2
      rw [w, e1]
      rfl
    cases d <;> cases e <;> first | exact fin h | (cases h; rfl) | skip
    rename_i xs ys
    have h : (if xs.length + ys.length ≤ sizeLine then some (Dat.tup (xs ++ ys), ([] : Mem)) else none) = some r := h
    show (if xs.length + ys.length ≤ sizeLine then some (Dat.tup (xs ++ ys), M) else none) = _
    split at h
    · rename_i hl
      cases h
      rw [if_pos hl]
    · cases h
end
end Ab
end

section
set_option Elab.async false
set_option linter.all false
set_option maxRecDepth 100000
set_option maxHeartbeats 2000000
/-! Pu2: the pure runner and its faith. -/
namespace Ab
open PySem L2
def pU (f : B1) (d : Dat) : Option Dat := if okU f && nptr d then (un1 f d []).map (·.1) else none
def pB (f : B2) (d e : Dat) : Option Dat := if okB f && (nptr d && nptr e) then (bin2 f d e []).map (·.1) else none
def asK : Dat → Option Bool
  | .bl k => some k
  | _ => none
def okTup (ds : List Dat) : Option Dat := if ds.length ≤ sizeLine then some (.tup ds) else none
def okLst (ds : List Dat) : Option Dat := if ds.length ≤ sizeLine then some (.lst ds) else none
def pC (cf : CallF) (j : Nat) (ds : List Dat) : Option Dat := match callN backF (cf j) ds [] with
  | .ok d _ => some d
  | _ => none
def pGo (f : Dat → Option (Option Dat)) : List Dat → List Dat → Option (List Dat)
  | [], acc => some acc
  | d :: ds, acc => match f d with
    | some (some y) => pGo f ds (acc ++ [y])
    | some none => pGo f ds acc
    | none => none
mutual
def pE (cf : CallF) : Ex → Gam → Option Dat
  | .var i, Γ => match Γ[i]? with
    | some (some d) => some d
    | _ => none
  | .dat d, _ => some d
  | .un f e, Γ => (pE cf e Γ).bind fun d => pU f d
  | .bin f a c, Γ => (pE cf a Γ).bind fun d => (pE cf c Γ).bind fun e => pB f d e
  | .and a c, Γ => ((pE cf a Γ).bind asK).bind fun k => match k with
    | true => pE cf c Γ
    | false => some (.bl false)
  | .or a c, Γ => ((pE cf a Γ).bind asK).bind fun k => match k with
    | true => some (.bl true)
    | false => pE cf c Γ
  | .ite c a e, Γ => ((pE cf c Γ).bind asK).bind fun k => match k with
    | true => pE cf a Γ
    | false => pE cf e Γ
  | .tup es, Γ => (pA cf es Γ).bind okTup
  | .lst es, Γ => (pA cf es Γ).bind okLst
  | .sl a lo hi, Γ => (pE cf a Γ).bind fun d => (pO cf lo Γ).bind fun l => (pO cf hi Γ).bind fun u => if nptr d then cutX [] d l u else none
  | .lc c t vs it cond e, Γ => match c with
    | true => none
    | false => (pI cf it Γ).bind fun ds => if ds.length ≤ sizeLine then (pGo (fun d => match putT t d (wipeG Γ vs) with
        | some Γ2 => ((pE cf cond Γ2).bind asK).bind fun k => match k with
          | true => (pE cf e Γ2).bind fun y => some (some y)
          | false => some none
        | none => none) ds []).bind fun acc => some (.lst acc) else none
  | .lcx c t vs it cond e, Γ => match c with
    | true => none
    | false => (pI cf it Γ).bind fun ds => if ds.length ≤ sizeLine then (pGo (fun d => match putT t d (wipeG Γ vs) with
        | some Γ2 => ((pE cf cond Γ2).bind asK).bind fun k => match k with
          | true => (pE cf e Γ2).bind fun y => some (some y)
          | false => some none
        | none => none) ds []).bind fun acc => some (.lst acc) else none
  | .call .fz j es, Γ => (pA cf es Γ).bind fun ds => pC cf j ds
  | _, _ => none
def pA (cf : CallF) : Exs → Gam → Option (List Dat)
  | .nil, _ => some []
  | .cons e es, Γ => (pE cf e Γ).bind fun d => (pA cf es Γ).bind fun ds => some (d :: ds)
def pO (cf : CallF) : Exo → Gam → Option (Option Int)
  | .none, _ => some none
  | .some e, Γ => (pE cf e Γ).bind fun d => match d with
    | .int i => some (some i)
    | _ => none
def pI (cf : CallF) : Ir → Gam → Option (List Dat)
  | .lst e, Γ => (pE cf e Γ).bind fun d => if nptr d then rd [] d else none
  | .tup e, Γ => (pE cf e Γ).bind fun d => match d with
    | .tup ds => some ds
    | _ => none
  | .any e, Γ => (pE cf e Γ).bind fun d => if nptr d then sq [] d else none
  | .rng1 e, Γ => (pE cf e Γ).bind fun d => match d with
    | .int n => if isR62 n then some ((List.range n.toNat).map fun i => .int (i : Nat)) else none
    | _ => none
  | _, _ => none
end
section
variable {cf : CallF} (M : Mem)
theorem pU_ok {f : B1} {d r : Dat} (h : pU f d = some r) : un1 f d M = some (r, M) := by
  unfold pU at h
  split at h
  · rename_i hc
    obtain ⟨h1, h2⟩ := Bool.and_eq_true_iff.mp hc
    obtain ⟨x, e, e2⟩ := Option.map_eq_some_iff.mp h
    subst e2
    exact un_any M h1 h2 e
  · cases h
theorem pB_ok {f : B2} {d e r : Dat} (h : pB f d e = some r) : bin2 f d e M = some (r, M) := by
  unfold pB at h
  split at h
  · rename_i hc
    obtain ⟨h1, h2⟩ := Bool.and_eq_true_iff.mp hc
    obtain ⟨h2, h3⟩ := Bool.and_eq_true_iff.mp h2
    obtain ⟨x, e, e2⟩ := Option.map_eq_some_iff.mp h
    subst e2
    exact bin_any M h1 h2 h3 e
  · cases h
theorem pC_ok {j : Nat} {ds : List Dat} {r : Dat} (h : pC cf j ds = some r) : callW cf .fz j ds M = .ok r M := by
  unfold pC at h
  show callN backF (cf j) ds M = _
  unfold callN at h ⊢
  split at h
  · rename_i d M0 e
    cases h
    split at e
    · rename_i hn
      rw [if_pos hn]
      cases hc : cf j ds [] with
      | no => rw [hc] at e; cases e
      | ex x Γ M1 =>
        rw [hc] at e
        have e : exB [] x = .ok r M0 := e
        unfold exB at e
        split at e
        · cases e
        · split at e <;> cases e
      | ok d M1 =>
        rw [hc] at e
        have e : backF [] d M1 = .ok r M0 := e
        show backF M d M1 = _
        unfold backF at e ⊢
        split at e
        · split at e
          · split at e
            · cases e
              rename_i hz
              rw [if_pos hz]
            · cases e
          · cases e
        · split at e
          · rename_i hz
            cases e
            rw [if_pos hz]
          · cases e
    · cases e
  · cases h
theorem asK_ok {o : Option Dat} {k : Bool} (h : o.bind asK = some k) : o = some (.bl k) := by
  obtain ⟨d, e, e2⟩ := Option.bind_eq_some_iff.mp h
  subst e
  cases d <;> first | (cases e2; rfl) | cases e2
theorem gd_np {d : Dat} {ds : List Dat} (h : nptr d = true) : gdOk M [(d, ds)] = true := by cases d <;> first | rfl | cases h
theorem pGo_ok {g : Gd} {f : Dat → Option (Option Dat)} {F : Dat → Mem → Rs (Option Dat)} (hg : gdOk M g = true) (hf : ∀ d y, f d = some y → F d M = .ok y M) : ∀ (ds acc : List Dat) {r : List Dat}, pGo f ds acc = some r → lcGo g F ds acc M = .ok r M
  | [], acc, r, h => by cases h; rfl
  | d :: ds, acc, r, h => by
    unfold pGo at h
    unfold lcGo
    split at h
    · rename_i y e
      rw [hf d _ e]
      show (if gdOk M g = true then _ else _) = _
      rw [if_pos hg]
      exact pGo_ok hg hf ds _ h
    · rename_i e
      rw [hf d _ e]
      show (if gdOk M g = true then _ else _) = _
      rw [if_pos hg]
      exact pGo_ok hg hf ds _ h
    · cases h
theorem pGoX_ok {g : Gd} {f : Dat → Option (Option Dat)} {F : Dat → Mem → Rs (Option Dat)} (hg : gdOk M g = true) (hf : ∀ d y, f d = some y → F d M = .ok y M) : ∀ (ds acc : List Dat) {r : List Dat}, pGo f ds acc = some r → lcGoX g F ds acc M = .ok r M
  | [], acc, r, h => by cases h; rfl
  | d :: ds, acc, r, h => by
    unfold pGo at h
    unfold lcGoX
    split at h
    · rename_i y e
      rw [hf d _ e]
      show (if gdOk M g = true then _ else _) = _
      rw [if_pos hg]
      exact pGoX_ok hg hf ds _ h
    · rename_i e
      rw [hf d _ e]
      show (if gdOk M g = true then _ else _) = _
      rw [if_pos hg]
      exact pGoX_ok hg hf ds _ h
    · cases h
mutual
theorem pE_ok : ∀ (e : Ex) {Γ Δ : Gam} {r : Dat}, Γ.length = Δ.length → pE cf e Γ = some r → evE cf e (ov Γ Δ) M = .ok r M
  | .var i, Γ, Δ, r, hl, h => by
    unfold pE at h
    split at h
    · rename_i d e
      cases h
      unfold evE
      rw [ov_get hl e]
    · cases h
  | .dat d, Γ, Δ, r, hl, h => by cases h; rfl
  | .un f e, Γ, Δ, r, hl, h => by
    obtain ⟨d, e1, h⟩ := Option.bind_eq_some_iff.mp (show (pE cf e Γ).bind _ = _ from h)
    show (evE cf e (ov Γ Δ) M).bind _ = _
    rw [pE_ok e hl e1]
    show ofO (un1 f d M) = _
    rw [pU_ok M h]
    rfl
  | .bin f a c, Γ, Δ, r, hl, h => by
    obtain ⟨d, e1, h⟩ := Option.bind_eq_some_iff.mp (show (pE cf a Γ).bind _ = _ from h)
    obtain ⟨d2, e2, h⟩ := Option.bind_eq_some_iff.mp h
    show (evE cf a (ov Γ Δ) M).bind _ = _
    rw [pE_ok a hl e1]
    show (evE cf c (ov Γ Δ) M).bind _ = _
    rw [pE_ok c hl e2]
    show ofO (bin2 f d d2 M) = _
    rw [pB_ok M h]
    rfl
  | .and a c, Γ, Δ, r, hl, h => by
    obtain ⟨k, e1, h⟩ := Option.bind_eq_some_iff.mp (show ((pE cf a Γ).bind asK).bind _ = _ from h)
    show (asB (evE cf a (ov Γ Δ) M)).bind _ = _
    rw [pE_ok a hl (asK_ok e1)]
    cases k with
    | true => exact pE_ok c hl h
    | false => cases h; rfl
  | .or a c, Γ, Δ, r, hl, h => by
    obtain ⟨k, e1, h⟩ := Option.bind_eq_some_iff.mp (show ((pE cf a Γ).bind asK).bind _ = _ from h)
    show (asB (evE cf a (ov Γ Δ) M)).bind _ = _
    rw [pE_ok a hl (asK_ok e1)]
    cases k with
    | true => cases h; rfl
    | false => exact pE_ok c hl h
  | .ite c a e, Γ, Δ, r, hl, h => by
    obtain ⟨k, e1, h⟩ := Option.bind_eq_some_iff.mp (show ((pE cf c Γ).bind asK).bind _ = _ from h)
    show (asB (evE cf c (ov Γ Δ) M)).bind _ = _
    rw [pE_ok c hl (asK_ok e1)]
    cases k with
    | true => exact pE_ok a hl h
    | false => exact pE_ok e hl h
  | .tup es, Γ, Δ, r, hl, h => by
    obtain ⟨ds, e1, h⟩ := Option.bind_eq_some_iff.mp (show (pA cf es Γ).bind _ = _ from h)
    show (evA cf es (ov Γ Δ) M).bind _ = _
    rw [pA_ok es hl e1]
    show (if ds.length ≤ sizeLine then Rs.ok (Dat.tup ds) M else .no) = _
    unfold okTup at h
    split at h
    · rename_i hz
      cases h
      rw [if_pos hz]
    · cases h
  | .lst es, Γ, Δ, r, hl, h => by
    obtain ⟨ds, e1, h⟩ := Option.bind_eq_some_iff.mp (show (pA cf es Γ).bind _ = _ from h)
    show (evA cf es (ov Γ Δ) M).bind _ = _
    rw [pA_ok es hl e1]
    show (if ds.length ≤ sizeLine then Rs.ok (Dat.lst ds) M else .no) = _
    unfold okLst at h
    split at h
    · rename_i hz
      cases h
      rw [if_pos hz]
    · cases h
  | .sl a lo hi, Γ, Δ, r, hl, h => by
    obtain ⟨d, e1, h⟩ := Option.bind_eq_some_iff.mp (show (pE cf a Γ).bind _ = _ from h)
    obtain ⟨l, e2, h⟩ := Option.bind_eq_some_iff.mp h
    obtain ⟨u, e3, h⟩ := Option.bind_eq_some_iff.mp h
    show (evE cf a (ov Γ Δ) M).bind _ = _
    rw [pE_ok a hl e1]
    show (evO cf lo (ov Γ Δ) M).bind _ = _
    rw [pO_ok lo hl e2]
    show (evO cf hi (ov Γ Δ) M).bind _ = _
    rw [pO_ok hi hl e3]
    split at h
    · rename_i hz
      show (match cutX M d l u with | some x => Rs.ok x M | none => .no) = _
      rw [cutX_any M hz, h]
    · cases h
  | .lc c t vs it cond e, Γ, Δ, r, hl, h => by
    cases c with
    | true => cases h
    | false =>
      obtain ⟨ds, e1, h⟩ := Option.bind_eq_some_iff.mp (show (pI cf it Γ).bind _ = _ from h)
      obtain ⟨g, e2, hg⟩ := pI_ok it hl e1
      show (evI cf it (ov Γ Δ) M).bind _ = _
      rw [e2]
      split at h
      · rename_i hz
        obtain ⟨acc, e3, h⟩ := Option.bind_eq_some_iff.mp h
        cases h
        show (if ds.length ≤ sizeLine ∧ gdOk M g = true then _ else _) = _
        rw [if_pos ⟨hz, hg⟩, pGo_ok M hg ?_ ds [] e3]
        · rfl
        · intro d y hy
          rw [ov_wipe vs hl]
          split at hy
          · rename_i Γ2 e4
            obtain ⟨q1, q2⟩ := ov_putT (Δ := wipeG Δ vs) (by rw [wipe_len, wipe_len]; exact hl) e4
            rw [q1]
            obtain ⟨k, e5, hy⟩ := Option.bind_eq_some_iff.mp hy
            show (asB (evE cf cond (ov Γ2 (wipeG Δ vs)) M)).bind _ = _
            rw [pE_ok cond q2 (asK_ok e5)]
            cases k with
            | true =>
              obtain ⟨w, e6, hy⟩ := Option.bind_eq_some_iff.mp hy
              cases hy
              show (evE cf e (ov Γ2 (wipeG Δ vs)) M).bind _ = _
              rw [pE_ok e q2 e6]
              rfl
            | false => cases hy; rfl
          · cases hy
      · cases h
  | .lcx c t vs it cond e, Γ, Δ, r, hl, h => by
    cases c with
    | true => cases h
    | false =>
      obtain ⟨ds, e1, h⟩ := Option.bind_eq_some_iff.mp (show (pI cf it Γ).bind _ = _ from h)
      obtain ⟨g, e2, hg⟩ := pI_ok it hl e1
      show (evI cf it (ov Γ Δ) M).bind _ = _
      rw [e2]
      split at h
      · rename_i hz
        obtain ⟨acc, e3, h⟩ := Option.bind_eq_some_iff.mp h
        cases h
        show (if ds.length ≤ sizeLine ∧ gdOk M g = true then _ else _) = _
        rw [if_pos ⟨hz, hg⟩, pGoX_ok M hg ?_ ds [] e3]
        · rfl
        · intro d y hy
          rw [ov_wipe vs hl]
          split at hy
          · rename_i Γ2 e4
            obtain ⟨q1, q2⟩ := ov_putT (Δ := wipeG Δ vs) (by rw [wipe_len, wipe_len]; exact hl) e4
            rw [q1]
            obtain ⟨k, e5, hy⟩ := Option.bind_eq_some_iff.mp hy
            show (asB (evE cf cond (ov Γ2 (wipeG Δ vs)) M)).bind _ = _
            rw [pE_ok cond q2 (asK_ok e5)]
            cases k with
            | true =>
              obtain ⟨w, e6, hy⟩ := Option.bind_eq_some_iff.mp hy
              cases hy
              show (evE cf e (ov Γ2 (wipeG Δ vs)) M).bind _ = _
              rw [pE_ok e q2 e6]
              rfl
            | false => cases hy; rfl
          · cases hy
      · cases h
  | .call .fz j es, Γ, Δ, r, hl, h => by
    obtain ⟨ds, e1, h⟩ := Option.bind_eq_some_iff.mp (show (pA cf es Γ).bind _ = _ from h)
    show (evA cf es (ov Γ Δ) M).bind _ = _
    rw [pA_ok es hl e1]
    show (callW cf .fz j ds M).at _ = _
    rw [pC_ok M h]
    rfl
  | .call .cl _ _, _, _, _, _, h => by cases h
  | .call .hp _ _, _, _, _, _, h => by cases h
  | .mth _ _ _, _, _, _, _, h => by cases h
  | .chain _ _ _ _ _, _, _, _, _, h => by cases h
  | .chain3 _ _ _ _ _ _ _, _, _, _, _, h => by cases h
  | .orL _ _, _, _, _, _, h => by cases h
  | .lstC _, _, _, _, _, h => by cases h
  | .slC _ _ _, _, _, _, _, h => by cases h
  | .dgt _ _ _, _, _, _, _, h => by cases h
  | .dict1 _ _, _, _, _, _, h => by cases h
  | .dc _ _ _ _ _ _, _, _, _, _, h => by cases h
  | .callV _ _ _ _, _, _, _, _, h => by cases h
theorem pA_ok : ∀ (es : Exs) {Γ Δ : Gam} {r : List Dat}, Γ.length = Δ.length → pA cf es Γ = some r → evA cf es (ov Γ Δ) M = .ok r M
  | .nil, Γ, Δ, r, hl, h => by cases h; rfl
  | .cons e es, Γ, Δ, r, hl, h => by
    obtain ⟨d, e1, h⟩ := Option.bind_eq_some_iff.mp (show (pE cf e Γ).bind _ = _ from h)
    obtain ⟨ds, e2, h⟩ := Option.bind_eq_some_iff.mp h
    cases h
    show (evE cf e (ov Γ Δ) M).bind _ = _
    rw [pE_ok e hl e1]
    show (evA cf es (ov Γ Δ) M).bind _ = _
    rw [pA_ok es hl e2]
    rfl
theorem pO_ok : ∀ (e : Exo) {Γ Δ : Gam} {r : Option Int}, Γ.length = Δ.length → pO cf e Γ = some r → evO cf e (ov Γ Δ) M = .ok r M
  | .none, Γ, Δ, r, hl, h => by cases h; rfl
  | .some e, Γ, Δ, r, hl, h => by
    obtain ⟨d, e1, h⟩ := Option.bind_eq_some_iff.mp (show (pE cf e Γ).bind _ = _ from h)
    show (evE cf e (ov Γ Δ) M).bind _ = _
    rw [pE_ok e hl e1]
    cases d <;> first | (cases h; rfl) | cases h
theorem pI_ok : ∀ (e : Ir) {Γ Δ : Gam} {r : List Dat}, Γ.length = Δ.length → pI cf e Γ = some r → ∃ g, evI cf e (ov Γ Δ) M = .ok (r, g) M ∧ gdOk M g = true
  | .lst e, Γ, Δ, r, hl, h => by
    obtain ⟨d, e1, h⟩ := Option.bind_eq_some_iff.mp (show (pE cf e Γ).bind _ = _ from h)
    split at h
    · rename_i hz
      refine ⟨[(d, r)], ?_, gd_np M hz⟩
      show (evE cf e (ov Γ Δ) M).bind _ = _
      rw [pE_ok e hl e1]
      show (match rd M d with | some ds => Rs.ok (ds, [(d, ds)]) M | none => .no) = _
      rw [rd_any M hz, h]
    · cases h
  | .tup e, Γ, Δ, r, hl, h => by
    obtain ⟨d, e1, h⟩ := Option.bind_eq_some_iff.mp (show (pE cf e Γ).bind _ = _ from h)
    refine ⟨[], ?_, rfl⟩
    show (evE cf e (ov Γ Δ) M).bind _ = _
    rw [pE_ok e hl e1]
    cases d <;> first | (cases h; rfl) | cases h
  | .any e, Γ, Δ, r, hl, h => by
    obtain ⟨d, e1, h⟩ := Option.bind_eq_some_iff.mp (show (pE cf e Γ).bind _ = _ from h)
    split at h
    · rename_i hz
      have e2 := pE_ok e (Δ := Δ) hl e1
      cases d with
      | tup ds =>
        cases h
        refine ⟨[], ?_, rfl⟩
        show (evE cf e (ov Γ Δ) M).bind _ = _
        rw [e2]
        rfl
      | lst ds =>
        cases h
        refine ⟨[(.lst r, r)], ?_, rfl⟩
        show (evE cf e (ov Γ Δ) M).bind _ = _
        rw [e2]
        rfl
      | rol ds =>
        cases h
        refine ⟨[(.rol r, r)], ?_, rfl⟩
        show (evE cf e (ov Γ Δ) M).bind _ = _
        rw [e2]
        rfl
      | _ => cases h
    · cases h
  | .rng1 e, Γ, Δ, r, hl, h => by
    obtain ⟨d, e1, h⟩ := Option.bind_eq_some_iff.mp (show (pE cf e Γ).bind _ = _ from h)
    refine ⟨[], ?_, rfl⟩
    show (evE cf e (ov Γ Δ) M).bind _ = _
    rw [pE_ok e hl e1]
    cases d with
    | int n =>
      have h : (if isR62 n then some ((List.range n.toNat).map fun i => Dat.int (i : Nat)) else none) = some r := h
      show (if isR62 n then Rs.ok _ M else .no) = _
      split at h
      · rename_i hz
        cases h
        rw [if_pos hz]
      · cases h
    | _ => cases h
  | .rng2 _ _, _, _, _, _, h => by cases h
  | .zip _ _, _, _, _, _, h => by cases h
  | .enum _, _, _, _, _, h => by cases h
  | .rev _, _, _, _, _, h => by cases h
end
end
end Ab
end

section
set_option Elab.async false
set_option linter.all false
set_option maxRecDepth 100000
set_option maxHeartbeats 2000000
/-! Pu3: .. of statements. -/
namespace Ab
open PySem L2
mutual
def pG : Tg → Dat → Gam → Option Gam
  | .name i, d, Γ => some (Γ.set i (some d))
  | .tup ts, d, Γ => match d with
    | .tup ds => if ds.length = ts.len then pGs ts ds Γ else none
    | _ => none
  | .sub _ _, _, _ => none
def pGs : Tgs → List Dat → Gam → Option Gam
  | .nil, [], Γ => some Γ
  | .cons t ts, d :: ds, Γ => (pG t d Γ).bind fun Γ => pGs ts ds Γ
  | _, _, _ => none
end
def pFor (f : Dat → Gam → Option Fl) : List Dat → Gam → Option Fl
  | [], Γ => some (.nx Γ)
  | d :: ds, Γ => match f d Γ with
    | some (.nx Γ') => pFor f ds Γ'
    | some (.ct Γ') => pFor f ds Γ'
    | some (.bk Γ') => some (.nx Γ')
    | some (.rt d) => some (.rt d)
    | none => none
mutual
def pS (cf : CallF) : Sm → Gam → Option Fl
  | .set i e, Γ => (pE cf e Γ).bind fun d => some (.nx (Γ.set i (some d)))
  | .par2 i j e e', Γ => (pE cf e Γ).bind fun d => (pE cf e' Γ).bind fun d' => some (.nx ((Γ.set i (some d)).set j (some d')))
  | .asg t e, Γ => (pE cf e Γ).bind fun d => (pG t d Γ).bind fun Γ => some (.nx Γ)
  | .iff c s s', Γ => ((pE cf c Γ).bind asK).bind fun k => match k with
    | true => pSs cf s Γ
    | false => pSs cf s' Γ
  | .forr t it s, Γ => (pI cf it Γ).bind fun ds => pFor (fun d Γ => (pG t d Γ).bind fun Γ => pSs cf s Γ) ds Γ
  | .ret e, Γ => (pE cf e Γ).bind fun d => some (.rt d)
  | .retN, _ => some (.rt .non)
  | .brk, Γ => some (.bk Γ)
  | .cnt, Γ => some (.ct Γ)
  | .pass, Γ => some (.nx Γ)
  | _, _ => none
def pSs (cf : CallF) : Sms → Gam → Option Fl
  | .nil, Γ => some (.nx Γ)
  | .cons s ss, Γ => (pS cf s Γ).bind fun f => match f with
    | .nx Γ => pSs cf ss Γ
    | f => some f
  | .frz _ _, _ => none
end
def Fl.lift (Δ : Gam) : Fl → Fl
  | .nx Γ => .nx (ov Γ Δ)
  | .rt d => .rt d
  | .bk Γ => .bk (ov Γ Δ)
  | .ct Γ => .ct (ov Γ Δ)
def Fl.fit (n : Nat) : Fl → Prop
  | .nx Γ => Γ.length = n
  | .rt _ => True
  | .bk Γ => Γ.length = n
  | .ct Γ => Γ.length = n
section
variable {cf : CallF} {wf : Nat} (M : Mem)
mutual
theorem pG_ok : ∀ (t : Tg) {d : Dat} {Γ Δ Γ' : Gam}, Γ.length = Δ.length → pG t d Γ = some Γ' → evG cf t d (ov Γ Δ) M = .ok (ov Γ' Δ) M ∧ Γ'.length = Δ.length
  | .name i, d, Γ, Δ, Γ', hl, h => by
    cases h
    refine ⟨?_, by rw [List.length_set]; exact hl⟩
    show Rs.ok ((ov Γ Δ).set i (some d)) M = _
    rw [ov_set i d hl]
  | .tup ts, d, Γ, Δ, Γ', hl, h => by
    cases d with
    | tup ds =>
      have h : (if ds.length = ts.len then pGs ts ds Γ else none) = some Γ' := h
      show (if ds.length = ts.len then evGs cf ts ds (ov Γ Δ) M else .no) = _ ∧ _
      split at h
      · rename_i hz
        rw [if_pos hz]
        exact pGs_ok ts hl h
      · cases h
    | _ => cases h
  | .sub _ _, _, _, _, _, _, h => by cases h
theorem pGs_ok : ∀ (ts : Tgs) {ds : List Dat} {Γ Δ Γ' : Gam}, Γ.length = Δ.length → pGs ts ds Γ = some Γ' → evGs cf ts ds (ov Γ Δ) M = .ok (ov Γ' Δ) M ∧ Γ'.length = Δ.length
  | .nil, [], Γ, Δ, Γ', hl, h => by cases h; exact ⟨rfl, hl⟩
  | .nil, _ :: _, _, _, _, _, h => by cases h
  | .cons _ _, [], _, _, _, _, h => by cases h
  | .cons t ts, d :: ds, Γ, Δ, Γ', hl, h => by
    obtain ⟨Γ1, e1, h⟩ := Option.bind_eq_some_iff.mp (show (pG t d Γ).bind _ = _ from h)
    obtain ⟨q1, q2⟩ := pG_ok t hl e1
    show (evG cf t d (ov Γ Δ) M).bind _ = _ ∧ _
    rw [q1]
    exact pGs_ok ts q2 h
end
theorem pFor_ok {g : Gd} {f : Dat → Gam → Option Fl} {F : Dat → Gam → Mem → Rs Fl} {Δ : Gam} (hg : gdOk M g = true) (hf : ∀ d Γ r, Γ.length = Δ.length → f d Γ = some r → F d (ov Γ Δ) M = .ok (r.lift Δ) M ∧ r.fit Δ.length) :
    ∀ (ds : List Dat) {Γ : Gam} {r : Fl}, Γ.length = Δ.length → pFor f ds Γ = some r → forGo g F ds (ov Γ Δ) M = .ok (r.lift Δ) M ∧ r.fit Δ.length
  | [], Γ, r, hl, h => by cases h; exact ⟨rfl, hl⟩
  | d :: ds, Γ, r, hl, h => by
    unfold pFor at h
    unfold forGo
    cases e : f d Γ with
    | none => rw [e] at h; cases h
    | some x =>
      rw [e] at h
      obtain ⟨q1, q2⟩ := hf d Γ x hl e
      rw [q1]
      cases x with
      | nx Γ' =>
        show (if gdOk M g = true then _ else _) = _ ∧ _
        rw [if_pos hg]
        exact pFor_ok hg hf ds q2 h
      | ct Γ' =>
        show (if gdOk M g = true then _ else _) = _ ∧ _
        rw [if_pos hg]
        exact pFor_ok hg hf ds q2 h
      | bk Γ' => cases h; exact ⟨rfl, q2⟩
      | rt d => cases h; exact ⟨rfl, trivial⟩
mutual
theorem pS_ok : ∀ (s : Sm) {Γ Δ : Gam} {r : Fl}, Γ.length = Δ.length → pS cf s Γ = some r → evS wf cf s (ov Γ Δ) M = .ok (r.lift Δ) M ∧ r.fit Δ.length
  | .set i e, Γ, Δ, r, hl, h => by
    obtain ⟨d, e1, h⟩ := Option.bind_eq_some_iff.mp (show (pE cf e Γ).bind _ = _ from h)
    cases h
    refine ⟨?_, by show (Γ.set i (some d)).length = _; rw [List.length_set]; exact hl⟩
    show (evE cf e (ov Γ Δ) M).bind _ = _
    rw [pE_ok M e hl e1]
    show Rs.ok (Fl.nx ((ov Γ Δ).set i (some d))) M = _
    rw [ov_set i d hl]
    rfl
  | .par2 i j e e', Γ, Δ, r, hl, h => by
    obtain ⟨d, e1, h⟩ := Option.bind_eq_some_iff.mp (show (pE cf e Γ).bind _ = _ from h)
    obtain ⟨d2, e2, h⟩ := Option.bind_eq_some_iff.mp h
    cases h
    refine ⟨?_, by show ((Γ.set i (some d)).set j (some d2)).length = _; rw [List.length_set, List.length_set]; exact hl⟩
    show (evE cf e (ov Γ Δ) M).bind _ = _
    rw [pE_ok M e hl e1]
    show (evE cf e' (ov Γ Δ) M).bind _ = _
    rw [pE_ok M e' hl e2]
    show Rs.ok (Fl.nx (((ov Γ Δ).set i (some d)).set j (some d2))) M = _
    rw [ov_set i d hl, ov_set j d2 (by rw [List.length_set]; exact hl)]
    rfl
  | .asg t e, Γ, Δ, r, hl, h => by
    obtain ⟨d, e1, h⟩ := Option.bind_eq_some_iff.mp (show (pE cf e Γ).bind _ = _ from h)
    obtain ⟨Γ1, e2, h⟩ := Option.bind_eq_some_iff.mp h
    cases h
    obtain ⟨q1, q2⟩ := pG_ok (cf := cf) M t hl e2
    refine ⟨?_, q2⟩
    show (evE cf e (ov Γ Δ) M).bind _ = _
    rw [pE_ok M e hl e1]
    show (evG cf t d (ov Γ Δ) M).bind _ = _
    rw [q1]
    rfl
  | .iff c s s', Γ, Δ, r, hl, h => by
    obtain ⟨k, e1, h⟩ := Option.bind_eq_some_iff.mp (show ((pE cf c Γ).bind asK).bind _ = _ from h)
    show (asB (evE cf c (ov Γ Δ) M)).bind _ = _ ∧ _
    rw [pE_ok M c hl (asK_ok e1)]
    cases k with
    | true => exact pSs_ok s hl h
    | false => exact pSs_ok s' hl h
  | .forr t it s, Γ, Δ, r, hl, h => by
    obtain ⟨ds, e1, h⟩ := Option.bind_eq_some_iff.mp (show (pI cf it Γ).bind _ = _ from h)
    obtain ⟨g, e2, hg⟩ := pI_ok M it (Δ := Δ) hl e1
    obtain ⟨q1, q2⟩ := pFor_ok (F := fun d Γ M => (evG cf t d Γ M).bind fun Γ M => evSs wf cf s Γ M) (Δ := Δ) M hg (fun d Γ r hl h => by
      obtain ⟨Γ1, e3, h⟩ := Option.bind_eq_some_iff.mp h
      obtain ⟨q1, q2⟩ := pG_ok (cf := cf) M t hl e3
      show (evG cf t d (ov Γ Δ) M).bind _ = _ ∧ _
      rw [q1]
      exact pSs_ok s q2 h) ds hl h
    refine ⟨?_, q2⟩
    show (evI cf it (ov Γ Δ) M).bind _ = _
    rw [e2]
    show (if gdOk M g = true then _ else _) = _
    rw [if_pos hg]
    exact q1
  | .ret e, Γ, Δ, r, hl, h => by
    obtain ⟨d, e1, h⟩ := Option.bind_eq_some_iff.mp (show (pE cf e Γ).bind _ = _ from h)
    cases h
    refine ⟨?_, trivial⟩
    show (evE cf e (ov Γ Δ) M).bind _ = _
    rw [pE_ok M e hl e1]
    rfl
  | .retN, Γ, Δ, r, hl, h => by cases h; exact ⟨rfl, trivial⟩
  | .brk, Γ, Δ, r, hl, h => by cases h; exact ⟨rfl, hl⟩
  | .cnt, Γ, Δ, r, hl, h => by cases h; exact ⟨rfl, hl⟩
  | .pass, Γ, Δ, r, hl, h => by cases h; exact ⟨rfl, hl⟩
  | .expr _, _, _, _, _, h => by cases h
  | .par3 _ _ _ _ _ _, _, _, _, _, h => by cases h
  | .aug _ _ _, _, _, _, _, h => by cases h
  | .whil _ _, _, _, _, _, h => by cases h
  | .stuck, _, _, _, _, h => by cases h
  | .raise _, _, _, _, _, h => by cases h
  | .tryy _ _ _, _, _, _, _, h => by cases h
  | .asg2 _ _ _, _, _, _, _, h => by cases h
  | .dput _ _ _, _, _, _, _, h => by cases h
theorem pSs_ok : ∀ (s : Sms) {Γ Δ : Gam} {r : Fl}, Γ.length = Δ.length → pSs cf s Γ = some r → evSs wf cf s (ov Γ Δ) M = .ok (r.lift Δ) M ∧ r.fit Δ.length
  | .nil, Γ, Δ, r, hl, h => by cases h; exact ⟨rfl, hl⟩
  | .cons s ss, Γ, Δ, r, hl, h => by
    obtain ⟨f, e1, h⟩ := Option.bind_eq_some_iff.mp (show (pS cf s Γ).bind _ = _ from h)
    obtain ⟨q1, q2⟩ := pS_ok s hl e1
    show (evS wf cf s (ov Γ Δ) M).bind _ = _ ∧ _
    rw [q1]
    cases f with
    | nx Γ' => exact pSs_ok ss q2 h
    | rt d => cases h; exact ⟨rfl, trivial⟩
    | bk Γ' => cases h; exact ⟨rfl, q2⟩
    | ct Γ' => cases h; exact ⟨rfl, q2⟩
  | .frz _ _, _, _, _, _, h => by cases h
end
end
end Ab
end

section
set_option linter.all false
set_option maxRecDepth 100000
set_option maxHeartbeats 1000000
namespace Ab
open PySem L2
abbrev pickBody : Sms := .cons (.expr (.mth .append (.var 4) (.mth .popAt (.var 3) (.call .hp 50 (.cons (.var 0) (.cons (.un .len (.var 3)) .nil)))))) .nil
abbrev pG5 (rs : List Dat) (n : Int) (o : Option Dat) : Gam := [some (.ptr 0), some (.lst rs), some (.int n), some (.ptr 1), some (.ptr 2), o]
theorem popAt_ok {M : Mem} {k j : Nat} {ds : List Dat} (h : M[k]? = some (.lst ds)) (hj : j < ds.length) (hl : ds.length ≤ 1000) : popAtD (.ptr k) (.int (j : Nat)) M = some (ds[j], M.set k (.lst (ds.eraseIdx j))) := by
  have h2 : seqIndex? (j : Int) ds.length = some j := by
    unfold seqIndex?
    simp
    omega
  have h3 : -(2 ^ 63 : Int) ≤ (j : Int) ∧ (j : Int) < 2 ^ 63 := ⟨by omega, by omega⟩
  unfold popAtD
  simp only [h]
  rw [if_pos h3]
  simp only [h2, List.getElem?_eq_getElem hj]
theorem mthR_popAt {d e : Dat} {M : Mem} : mthR .popAt d e M = ofO (popAtD d e M) := rfl
theorem mthR_append {d e : Dat} {M : Mem} : mthR .append d e M = ofO ((appD d e M).map fun M => (.non, M)) := rfl
theorem pick_step {k : Nat} {a b c n : Int} {rs pl fd : List Dat} {o : Option Dat} (hp : 0 < pl.length ∧ pl.length ≤ 1000) (hf : fd.length ≤ 1000) (hc : 0 ≤ c ∧ c ≤ 900000) :
    ∃ (a' b' c' : Int) (j : Nat) (y : Dat), evSs lawW (F (k + 1)) pickBody (pG5 rs n o) (tn a b c [.lst pl, .lst fd]) = .ok (.nx (pG5 rs n o)) (tn a' b' c' [.lst (pl.eraseIdx j), .lst (fd ++ [y])]) ∧ y ∈ pl ∧ j < pl.length ∧ 0 ≤ c' ∧ c' ≤ c + 1 := by
  obtain ⟨a', b', c', v, e, hv, hc1, hc2⟩ := r_take (k := k) (a := a) (b := b) (c := c) (m := pl.length) (r := [.lst pl, .lst fd]) ⟨by omega, by omega⟩ hc
  obtain ⟨j, rfl⟩ : ∃ j : Nat, v = j := ⟨v.toNat, by omega⟩
  have hj : j < pl.length := by omega
  refine ⟨a', b', c', j, pl[j], ?_, List.getElem_mem hj, hj, hc1, hc2⟩
  have h0 : evE (F (k + 1)) (.call .hp 50 (.cons (.var 0) (.cons (.un .len (.var 3)) .nil))) (pG5 rs n o) (tn a b c [.lst pl, .lst fd]) = .ok (.int j) (tn a' b' c' [.lst pl, .lst fd]) := by
    show ((evA (F (k + 1)) (.cons (.var 0) (.cons (.un .len (.var 3)) .nil)) (pG5 rs n o) (tn a b c [.lst pl, .lst fd])).bind fun ds M => (callW (F (k + 1)) .hp 50 ds M).at (pG5 rs n o)) = _
    have ea : evA (F (k + 1)) (.cons (.var 0) (.cons (.un .len (.var 3)) .nil)) (pG5 rs n o) (tn a b c [.lst pl, .lst fd]) = .ok [.ptr 0, .int (pl.length : Nat)] (tn a b c [.lst pl, .lst fd]) := rfl
    rw [ea, bind_ok, e, at_ok]
  have h1 : popAtD (.ptr 1) (.int (j : Nat)) (tn a' b' c' [.lst pl, .lst fd]) = some (pl[j], tn a' b' c' [.lst (pl.eraseIdx j), .lst fd]) := by
    rw [popAt_ok (M := tn a' b' c' [.lst pl, .lst fd]) (k := 1) rfl hj hp.2]
    rfl
  have h2 : evE (F (k + 1)) (.mth .popAt (.var 3) (.call .hp 50 (.cons (.var 0) (.cons (.un .len (.var 3)) .nil)))) (pG5 rs n o) (tn a b c [.lst pl, .lst fd]) = .ok pl[j] (tn a' b' c' [.lst (pl.eraseIdx j), .lst fd]) := by
    rw [e_mth, show evE (F (k + 1)) (.var 3) (pG5 rs n o) (tn a b c [.lst pl, .lst fd]) = .ok (.ptr 1) (tn a b c [.lst pl, .lst fd]) from rfl, bind_ok, if_pos (show isCl _ (.ptr 1) = true from rfl), h0, bind_ok]
    rw [mthR_popAt, h1]
    rfl
  have h3 : appD (.ptr 2) pl[j] (tn a' b' c' [.lst (pl.eraseIdx j), .lst fd]) = some (tn a' b' c' [.lst (pl.eraseIdx j), .lst (fd ++ [pl[j]])]) := by
    show (if fd.length < sizeLine then _ else _) = _
    rw [if_pos (by rw [sizeLine_eq]; omega)]
    rfl
  rw [ss_cons, s_expr, e_mth, show evE (F (k + 1)) (.var 4) (pG5 rs n o) (tn a b c [.lst pl, .lst fd]) = .ok (.ptr 2) (tn a b c [.lst pl, .lst fd]) from rfl, bind_ok, if_pos (show isCl _ (.ptr 2) = true from rfl), h2, bind_ok]
  rw [mthR_append, h3]
  rfl
theorem pick_loop {k : Nat} {n : Int} {rs : List Dat} : ∀ (ds : List Dat) (a b c : Int) (pl fd : List Dat) (o : Option Dat), ds.length ≤ pl.length → pl.length ≤ 1000 → fd.length + ds.length ≤ 1000 → 0 ≤ c ∧ c + ds.length ≤ 900000 →
    ∃ (a' b' c' : Int) (pl' fd' : List Dat) (o' : Option Dat), forR lawW (F (k + 1)) [] (.name 5) pickBody ds (pG5 rs n o) (tn a b c [.lst pl, .lst fd]) = .ok (.nx (pG5 rs n o')) (tn a' b' c' [.lst pl', .lst fd']) ∧ ∀ y ∈ fd', y ∈ fd ∨ y ∈ pl
  | [], a, b, c, pl, fd, o, _, _, _, _ => ⟨a, b, c, pl, fd, o, rfl, fun y hy => .inl hy⟩
  | d :: ds, a, b, c, pl, fd, o, h1, h2, h3, h4 => by
    rw [List.length_cons] at h1 h3 h4
    obtain ⟨a1, b1, c1, j, y, e, hy, hj, hc1, hc2⟩ := pick_step (k := k) (a := a) (b := b) (c := c) (n := n) (rs := rs) (pl := pl) (fd := fd) (o := some d) ⟨by omega, h2⟩ (by omega) ⟨h4.1, by omega⟩
    have hl : (pl.eraseIdx j).length = pl.length - 1 := by rw [List.length_eraseIdx, if_pos hj]
    obtain ⟨a2, b2, c2, pl', fd', o', e2, hm⟩ := pick_loop (k := k) (n := n) (rs := rs) ds a1 b1 c1 (pl.eraseIdx j) (fd ++ [y]) (some d) (by omega) (by omega) (by rw [List.length_append]; simp; omega) ⟨hc1, by omega⟩
    refine ⟨a2, b2, c2, pl', fd', o', ?_, fun z hz => ?_⟩
    · rw [for_go (Γ1 := pG5 rs n (some d)) (M1 := tn a b c [.lst pl, .lst fd]) rfl e rfl, e2]
    · rcases hm z hz with q | q
      · rcases List.mem_append.mp q with q | q
        · exact .inl q
        · rw [List.mem_singleton.mp q]
          exact .inr hy
      · exact .inr (List.mem_of_mem_eraseIdx q)
theorem r_pick {k : Nat} {a b : Int} {rs : List Dat} (hl : rs.length ≤ 900) : ∃ (a' b' c' : Int) (pl fd : List Dat), F (k + 2) 52 [.ptr 0, .lst rs, .int 99] (tn a b 0) = .ok (.ptr 2) (tn a' b' c' [.lst pl, .lst fd]) ∧ ∀ y ∈ fd, y ∈ rs := by
  obtain ⟨n, hn1, hn2⟩ : ∃ n : Nat, (if (rs.length : Int) < 99 then (rs.length : Int) else 99) = n ∧ n ≤ rs.length := by
    by_cases h : (rs.length : Int) < 99
    · exact ⟨rs.length, by rw [if_pos h], Nat.le_refl _⟩
    · exact ⟨99, by rw [if_neg h]; rfl, by omega⟩
  have hdl : ((List.range n).map fun i => Dat.int (i : Nat)).length = n := by simp
  obtain ⟨a', b', c', pl, fd, o, e, hm⟩ := pick_loop (k := k) (n := 99) (rs := rs) ((List.range n).map fun i => Dat.int (i : Nat)) a b 0 rs [] none (by omega) (by omega) (by simp; omega) ⟨by omega, by omega⟩
  refine ⟨a', b', c', pl, fd, run_of rfl rfl ?_, fun y hy => (hm y hy).elim (fun q => by cases q) id⟩
  show evSs lawW (F (k + 1)) ir__law_pick [some (.ptr 0), some (.lst rs), some (.int 99), none, none, none] (tn a b 0) = _
  have e1 : evS lawW (F (k + 1)) (.par2 3 4 (.un .listC (.var 1)) (.lstC .nil)) [some (.ptr 0), some (.lst rs), some (.int 99), none, none, none] (tn a b 0) = .ok (.nx (pG5 rs 99 none)) (tn a b 0 [.lst rs, .lst []]) := rfl
  have e2 : evI (F (k + 1)) (.rng1 (.bin .min (.un .int (.var 2)) (.un .len (.var 3)))) (pG5 rs 99 none) (tn a b 0 [.lst rs, .lst []]) = .ok ((List.range n).map fun i => Dat.int (i : Nat), []) (tn a b 0 [.lst rs, .lst []]) := by
    show (if isR62 (if (rs.length : Int) < 99 then (rs.length : Int) else 99) then Rs.ok ((List.range (if (rs.length : Int) < 99 then (rs.length : Int) else 99).toNat).map fun i => Dat.int (i : Nat), []) (tn a b 0 [.lst rs, .lst []]) else .no) = _
    rw [hn1, if_pos (by unfold isR62; simp; omega)]
    rfl
  unfold ir__law_pick
  rw [ss_cons, e1, bind_ok, nxR_nx, ss_cons, s_for, e2, bind_ok, forI_ok rfl]
  show ((forR lawW (F (k + 1)) [] (.name 5) pickBody ((List.range n).map fun i => Dat.int (i : Nat)) (pG5 rs 99 none) (tn a b 0 [.lst rs, .lst []])).bind _) = _
  rw [e, bind_ok, nxR_nx, ss_cons, s_ret]
  rfl
/-! the law's statements, taken one by one -/
def Sms.dp : Nat → Sms → Sms
  | 0, ss => ss
  | n + 1, .cons _ ss => ss.dp n
  | _ + 1, ss => ss
def pRun (cf : CallF) : Nat → Sms → Gam → Option Gam
  | 0, _, Γ => some Γ
  | n + 1, .cons s ss, Γ => (pS cf s Γ).bind fun f => match f with
    | .nx Γ' => pRun cf n ss Γ'
    | _ => none
  | _ + 1, _, _ => none
theorem pRun_ok {cf : CallF} {wf : Nat} {M : Mem} : ∀ (n : Nat) (ss : Sms) {Γ Δ Γ' : Gam}, Γ.length = Δ.length → pRun cf n ss Γ = some Γ' → evSs wf cf ss (ov Γ Δ) M = evSs wf cf (ss.dp n) (ov Γ' Δ) M ∧ Γ'.length = Δ.length
  | 0, ss, Γ, Δ, Γ', hl, h => by cases h; exact ⟨rfl, hl⟩
  | n + 1, .cons s ss, Γ, Δ, Γ', hl, h => by
    obtain ⟨f, e1, h⟩ := Option.bind_eq_some_iff.mp (show (pS cf s Γ).bind _ = _ from h)
    obtain ⟨q1, q2⟩ := pS_ok (wf := wf) M s hl e1
    cases f with
    | nx Γ1 =>
      obtain ⟨q3, q4⟩ := pRun_ok (wf := wf) (M := M) n ss q2 h
      refine ⟨?_, q4⟩
      show (evS wf cf s (ov Γ Δ) M).bind _ = _
      rw [q1]
      exact q3
    | rt _ => cases h
    | bk _ => cases h
    | ct _ => cases h
  | _ + 1, .nil, _, _, _, _, h => by cases h
  | _ + 1, .frz _ _, _, _, _, _, h => by cases h
theorem ov_gap : ∀ {Γ Δ : Gam} {i : Nat}, Γ.length = Δ.length → Γ[i]? = some none → (ov Γ Δ)[i]? = Δ[i]?
  | some x :: Γ, _ :: Δ, 0, h, e => by cases e
  | none :: Γ, _ :: Δ, 0, h, e => rfl
  | some x :: Γ, _ :: Δ, i + 1, h, e => ov_gap (Γ := Γ) (Δ := Δ) (i := i) (Nat.succ.inj h) e
  | none :: Γ, _ :: Δ, i + 1, h, e => ov_gap (Γ := Γ) (Δ := Δ) (i := i) (Nat.succ.inj h) e
  | [], _, _, _, e => by cases e
  | _ :: _, [], _, h, _ => by cases h
theorem ov_id : ∀ {Γ Δ : Gam}, Γ.length = Δ.length → (∀ (i : Nat) (d : Dat), Γ[i]? = some (some d) → Δ[i]? = some (some d)) → ov Γ Δ = Δ
  | [], [], _, _ => rfl
  | none :: Γ, d :: Δ, h, q => congrArg (d :: ·) (ov_id (Γ := Γ) (Δ := Δ) (Nat.succ.inj h) fun i e hi => q (i + 1) e hi)
  | some x :: Γ, y :: Δ, h, q => by
    have := q 0 x rfl
    have e : y = some x := Option.some.inj this
    subst e
    exact congrArg (some x :: ·) (ov_id (Γ := Γ) (Δ := Δ) (Nat.succ.inj h) fun i e hi => q (i + 1) e hi)
  | [], _ :: _, h, _ => by cases h
  | _ :: _, [], h, _ => by cases h
def Gam.gap (Γ : Gam) (i : Nat) : Bool := match Γ[i]? with
  | some none => true
  | _ => false
theorem gap_of {Γ : Gam} {i : Nat} (h : Γ.gap i = true) : Γ[i]? = some none := by
  unfold Gam.gap at h
  split at h
  · assumption
  · cases h
def Gam.at (Γ : Gam) (i : Nat) : Dat := match Γ[i]? with
  | some (some d) => d
  | _ => .non
def Gam.has (Γ : Gam) (i : Nat) : Bool := match Γ[i]? with
  | some (some d) => true
  | _ => false
theorem has_of {Γ : Gam} {i : Nat} (h : Γ.has i = true) : Γ[i]? = some (some (Γ.at i)) := by
  unfold Gam.has at h
  unfold Gam.at
  split at h
  · rename_i d e
    rw [e]
  · cases h
theorem get_of {α : Type} {o : Option α} {x : α} (h : o.isSome = true) : o = some (o.getD x) := by
  cases o with
  | none => cases h
  | some y => rfl
def Dat.els : Dat → List Dat
  | .lst ds => ds
  | _ => []
def Dat.isL : Dat → Bool
  | .lst _ => true
  | _ => false
theorem els_of {d : Dat} (h : d.isL = true) : d = .lst d.els := by cases d <;> first | rfl | cases h
end Ab
end

section
set_option linter.all false
set_option maxRecDepth 1000000
set_option maxHeartbeats 4000000
namespace Ab
open PySem L2
/-! the law's text, cut -/
def sm_at : Nat → Sms → Sm
  | 0, .cons s _ => s
  | n + 1, .cons _ ss => sm_at n ss
  | _, _ => .pass
def lpT : Sm → Tg
  | .forr t _ _ => t
  | _ => .name 0
def lpB : Sm → Sms
  | .forr _ _ s => s
  | _ => .nil
def g0 : Gam := List.replicate 11 none
def g9 : Gam := (pRun (F lawK) 8 (ir_law.dp 1) g0).getD []
theorem g9_ok : pRun (F lawK) 8 (ir_law.dp 1) g0 = some g9 := get_of (by decide +kernel)
def pickT : Tg := lpT (sm_at 9 ir_law)
def pickS : Sms := lpB (sm_at 9 ir_law)
def rowsL : List Dat := (g9.at 6).els
theorem g9_6 : g9[6]? = some (some (.lst rowsL)) := by
  rw [has_of (show g9.has 6 = true by decide +kernel), els_of (show (g9.at 6).isL = true by decide +kernel)]
  rfl
theorem g9_2 : g9[2]? = some (some (g9.at 2)) := has_of (by decide +kernel)
theorem g9_3 : g9[3]? = some (some (g9.at 3)) := has_of (by decide +kernel)
theorem g9_1 : g9[1]? = some none := gap_of (by decide +kernel)
theorem rowsL_len : rowsL.length ≤ 900 := of_decide_eq_true (by decide +kernel)
theorem rowsL_same : rowsL.all (fun d => d.same d) = true := by decide +kernel
def fineN (o : Option Fl) : Bool := match o with
  | some (.nx Γ) => Γ.gap 2 && Γ.gap 3
  | _ => false
def rowOk (r : Dat) : Bool := fineN ((pG pickT r g0).bind fun Γ => pSs (F lawK) pickS Γ)
theorem rows_ok : rowsL.all rowOk = true := by decide +kernel
def gEnd : Gam := (g0.set 2 (some (g9.at 2))).set 3 (some (g9.at 3))
def fineT (o : Option Fl) : Bool := match o with
  | some (.rt (.bl true)) => true
  | _ => false
theorem end_ok : fineT (pSs (F lawK) (ir_law.dp 10) gEnd) = true := by decide +kernel
theorem fineT_of {o : Option Fl} (h : fineT o = true) : o = some (.rt (.bl true)) := by
  unfold fineT at h
  split at h
  · rfl
  · cases h
theorem sames_of : ∀ {ds : List Dat}, (∀ d ∈ ds, d.same d = true) → Dat.sames ds ds = true
  | [], _ => rfl
  | d :: ds, h => by
    show (d.same d && Dat.sames ds ds) = true
    rw [h d List.mem_cons_self, sames_of fun x hx => h x (List.mem_cons_of_mem _ hx)]
    rfl
def Keep (E : Gam) : Prop := E.length = 11 ∧ E[2]? = some (some (g9.at 2)) ∧ E[3]? = some (some (g9.at 3))
theorem ov_g0 {E : Gam} (h : E.length = 11) : ov g0 E = E := ov_id (by rw [h]; rfl) fun i d e => by
  unfold g0 at e
  rw [List.getElem?_replicate] at e
  split at e <;> cases e
theorem row_runs {r : Dat} {E : Gam} {M : Mem} (hr : rowOk r = true) (hE : Keep E) : ∃ E1 E2, evG (F lawK) pickT r E M = .ok E1 M ∧ evSs lawW (F lawK) pickS E1 M = .ok (.nx E2) M ∧ Keep E2 := by
  unfold rowOk fineN at hr
  split at hr
  · rename_i Γ' e
    obtain ⟨Γ1, e1, e2⟩ := Option.bind_eq_some_iff.mp e
    obtain ⟨h2, h3⟩ := Bool.and_eq_true_iff.mp hr
    have hl : g0.length = E.length := by rw [hE.1]; rfl
    obtain ⟨q1, q2⟩ := pG_ok (cf := F lawK) M pickT hl e1
    obtain ⟨q3, q4⟩ := pSs_ok (wf := lawW) M pickS q2 e2
    rw [ov_g0 hE.1] at q1
    have q4 : Γ'.length = E.length := q4
    refine ⟨_, _, q1, q3, (ov_len q4).trans hE.1, ?_, ?_⟩
    · rw [ov_gap q4 (gap_of h2)]; exact hE.2.1
    · rw [ov_gap q4 (gap_of h3)]; exact hE.2.2
  · cases hr
theorem rows_run {M : Mem} {g : Gd} (hg : gdOk M g = true) : ∀ (ds : List Dat) {E : Gam}, (∀ d ∈ ds, rowOk d = true) → Keep E → ∃ E', forR lawW (F lawK) g pickT pickS ds E M = .ok (.nx E') M ∧ Keep E'
  | [], E, _, hE => ⟨E, rfl, hE⟩
  | d :: ds, E, h, hE => by
    obtain ⟨E1, E2, q1, q2, q3⟩ := row_runs (M := M) (h d List.mem_cons_self) hE
    obtain ⟨E', q4, q5⟩ := rows_run (M := M) hg ds (fun x hx => h x (List.mem_cons_of_mem _ hx)) q3
    exact ⟨E', by rw [for_go q1 q2 hg, q4], q5⟩
theorem step_at {wf : Nat} {cf : CallF} {ss rest : Sms} {st : Sm} {Γ Γ' : Gam} {M M' : Mem} (h : ss = .cons st rest) (e : evS wf cf st Γ M = .ok (.nx Γ') M') : evSs wf cf ss Γ M = evSs wf cf rest Γ' M' := by
  subst h
  rw [ss_cons, e, bind_ok, nxR_nx]
theorem cut0 : ir_law = .cons (sm_at 0 ir_law) (ir_law.dp 1) := rfl
theorem cut9 : (ir_law.dp 1).dp 8 = .cons (sm_at 9 ir_law) (ir_law.dp 10) := rfl
theorem sm0 : sm_at 0 ir_law = .set 1 (.call .cl 49 (.cons (.call .fz 51 (.cons (.var 0) (.cons (.dat (.int 1)) .nil))) (.cons (.dat (.int 0)) .nil))) := rfl
theorem sm9 : sm_at 9 ir_law = .forr pickT (.any (.call .hp 52 (.cons (.var 1) (.cons (.var 6) (.cons (.dat (.int 99)) .nil))))) pickS := rfl
abbrev gS (ns : List Int) (o : Option Dat) : Gam := [some (.rol (ns.map .int)), o, none, none, none, none, none, none, none, none, none]
theorem law_1 (ns : List Int) (hl : ns.length ≤ 63) : ∃ a b : Int, evS lawW (F lawK) (sm_at 0 ir_law) (gS ns none) [] = .ok (.nx (gS ns (some (.ptr 0)))) (tn a b 0) := by
  obtain ⟨x, hx⟩ := r_cells (k := 39) ns hl
  obtain ⟨a, b, hb⟩ := r_box (k := 39) x
  refine ⟨a, b, ?_⟩
  rw [sm0]
  have e1 : evE (F lawK) (.call .fz 51 (.cons (.var 0) (.cons (.dat (.int 1)) .nil))) (gS ns none) [] = .ok (.lst [.int x]) [] := by
    show (callW (F lawK) .fz 51 [.rol (ns.map .int), .int 1] []).at _ = _
    rw [show F lawK = F (39 + 1) from rfl, hx]
    rfl
  have e2 : evE (F lawK) (.call .cl 49 (.cons (.call .fz 51 (.cons (.var 0) (.cons (.dat (.int 1)) .nil))) (.cons (.dat (.int 0)) .nil))) (gS ns none) [] = .ok (.ptr 0) (tn a b 0) := by
    show ((evA (F lawK) (.cons (.call .fz 51 (.cons (.var 0) (.cons (.dat (.int 1)) .nil))) (.cons (.dat (.int 0)) .nil)) (gS ns none) []).bind _) = _
    rw [a_cons, e1, bind_ok, a_cons, e_dat, bind_ok, a_nil, bind_ok, bind_ok, bind_ok, show F lawK = F (39 + 1) from rfl, hb]
    rfl
  rw [s_set, e2]
  rfl
theorem law_9 (a b : Int) {E : Gam} (E1 : E[1]? = some (some (.ptr 0))) (E6 : E[6]? = some (some (.lst rowsL))) (EK : Keep E) : ∃ E' M, evS lawW (F lawK) (sm_at 9 ir_law) E (tn a b 0) = .ok (.nx E') M ∧ Keep E' := by
  obtain ⟨a', b', c', pl, fd, hp, hm⟩ := r_pick (k := 38) (a := a) (b := b) rowsL_len
  have hall : ∀ d ∈ fd, rowOk d = true := fun d hd => (List.all_eq_true.mp rows_ok) d (hm d hd)
  have hsame : gdOk (tn a' b' c' [.lst pl, .lst fd]) [(.ptr 2, fd)] = true := by
    show (Dat.sames fd fd && true) = true
    rw [sames_of fun d hd => (List.all_eq_true.mp rowsL_same) d (hm d hd)]
    rfl
  obtain ⟨E', r1, K'⟩ := rows_run hsame fd hall EK
  refine ⟨E', tn a' b' c' [.lst pl, .lst fd], ?_, K'⟩
  have i1 : evI (F lawK) (.any (.call .hp 52 (.cons (.var 1) (.cons (.var 6) (.cons (.dat (.int 99)) .nil))))) E (tn a b 0) = .ok (fd, [(.ptr 2, fd)]) (tn a' b' c' [.lst pl, .lst fd]) := by
    have e1 : evE (F lawK) (.call .hp 52 (.cons (.var 1) (.cons (.var 6) (.cons (.dat (.int 99)) .nil)))) E (tn a b 0) = .ok (.ptr 2) (tn a' b' c' [.lst pl, .lst fd]) := by
      show ((evA (F lawK) (.cons (.var 1) (.cons (.var 6) (.cons (.dat (.int 99)) .nil))) E (tn a b 0)).bind fun ds M => (callW (F lawK) .hp 52 ds M).at E) = _
      have ea : evA (F lawK) (.cons (.var 1) (.cons (.var 6) (.cons (.dat (.int 99)) .nil))) E (tn a b 0) = .ok [.ptr 0, .lst rowsL, .int 99] (tn a b 0) := by
        rw [a_cons, e_var, E1, varR_ok, bind_ok, a_cons, e_var, E6, varR_ok, bind_ok, a_cons, e_dat, bind_ok, a_nil, bind_ok, bind_ok, bind_ok]
      rw [ea, bind_ok]
      show (F (38 + 2) 52 [.ptr 0, .lst rowsL, .int 99] (tn a b 0)).at E = _
      rw [hp]
      rfl
    show ((evE (F lawK) (.call .hp 52 (.cons (.var 1) (.cons (.var 6) (.cons (.dat (.int 99)) .nil)))) E (tn a b 0)).bind _) = _
    rw [e1]
    rfl
  rw [sm9, s_for, i1, bind_ok, forI_ok hsame, r1]
theorem law_end {E : Gam} {M : Mem} (K : Keep E) : evSs lawW (F lawK) (ir_law.dp 10) E M = .ok (.rt (.bl true)) M := by
  have hg : gEnd.length = E.length := by rw [K.1]; rfl
  obtain ⟨f1, f2⟩ := pSs_ok (wf := lawW) M (ir_law.dp 10) hg (fineT_of end_ok)
  rw [ov_id hg ?_] at f1
  · exact f1
  · intro i d e
    by_cases h3 : i = 3
    · subst h3
      rw [K.2.2]
      exact e
    · by_cases h2 : i = 2
      · subst h2
        rw [K.2.1]
        exact e
      · exfalso
        unfold gEnd g0 at e
        rw [List.getElem?_set_ne (by omega), List.getElem?_set_ne (by omega), List.getElem?_replicate] at e
        split at e <;> cases e
theorem law_runs (ns : List Int) (hl : ns.length ≤ 63) : ∃ M, runF lawW T (lawK + 1) 55 [.rol (ns.map .int)] [] = .ok (.bl true) M := by
  obtain ⟨a, b, h1⟩ := law_1 ns hl
  obtain ⟨s9, l9⟩ := pRun_ok (wf := lawW) (M := tn a b 0) 8 (ir_law.dp 1) (Γ := g0) (Δ := gS ns (some (.ptr 0))) rfl g9_ok
  rw [ov_g0 rfl] at s9
  generalize hE : ov g9 (gS ns (some (.ptr 0))) = E at s9
  have E1 : E[1]? = some (some (.ptr 0)) := by rw [← hE, ov_gap l9 g9_1]; rfl
  have E6 : E[6]? = some (some (.lst rowsL)) := by rw [← hE]; exact ov_get l9 g9_6
  have EK : Keep E := ⟨by rw [← hE]; exact ov_len l9, by rw [← hE]; exact ov_get l9 g9_2, by rw [← hE]; exact ov_get l9 g9_3⟩
  obtain ⟨E', M, h9, K'⟩ := law_9 a b E1 E6 EK
  have e : evSs lawW (F lawK) ir_law (gS ns none) [] = .ok (.rt (.bl true)) M := by
    rw [step_at cut0 h1, s9, step_at cut9 h9, law_end K']
  exact ⟨M, run_of rfl rfl e⟩
end Ab
end

section
set_option Elab.async false
set_option linter.all false
set_option maxRecDepth 100000
set_option maxHeartbeats 4000000
open PySem PySem.W PyProof.Rows
set_option maxHeartbeats 0 in
theorem PySem.Challenge.cw_plumbtrees_k29_whole_tables_refused_holds : PySem.Challenge.rw_plumbtrees_k29_whole_tables_refused.Holds := by
  w_on; o_law; k_head; (case hw => w_witness2)
  k_fill
  refine Ab.walk (l := PySem.Challenge.rw_plumbtrees_k29_whole_tables_refused) (k := Ab.lawK + 1) (F0 := Ab.runF Ab.lawW Ab.T (Ab.lawK + 1) 55) rfl rfl ⟨rfl, by decide, by decide⟩ Ab.law_runs (fun w h Y => PySem.W.kIn_of Y) ?F
  case F =>
    intro w mg fa h KX G hmg
    refine' Ab.all_mk (wf := Ab.lawW) (kk := Ab.lawK) KX G hmg ?a0 ?l0 ?c0 ?k0 ?a1 ?l1 ?c1 ?k1 ?a2 ?l2 ?c2 ?k2 ?a3 ?l3 ?c3 ?k3 ?a4 ?l4 ?c4 ?k4 ?a5 ?l5 ?c5 ?k5 ?a6 ?l6 ?c6 ?k6 ?a7 ?l7 ?c7 ?k7 ?a8 ?l8 ?c8 ?k8 ?a9 ?l9 ?c9 ?k9 ?a10 ?l10 ?c10 ?k10 ?a11 ?l11 ?c11 ?k11 ?a12 ?l12 ?c12 ?k12 ?a13 ?l13 ?c13 ?k13 ?a14 ?l14 ?c14 ?k14 ?a15 ?l15 ?c15 ?k15 ?a16 ?l16 ?c16 ?k16 ?a17 ?l17 ?c17 ?k17 ?a18 ?l18 ?c18 ?k18 ?a19 ?l19 ?c19 ?k19 ?a20 ?l20 ?c20 ?k20 ?a21 ?l21 ?c21 ?k21 ?a22 ?l22 ?c22 ?k22 ?a23 ?l23 ?c23 ?k23 ?a24 ?l24 ?c24 ?k24 ?a25 ?l25 ?c25 ?k25 ?a26 ?l26 ?c26 ?k26 ?a27 ?l27 ?c27 ?k27 ?a28 ?l28 ?c28 ?k28 ?a29 ?l29 ?c29 ?k29 ?a30 ?l30 ?c30 ?k30 ?a31 ?l31 ?c31 ?k31 ?a32 ?l32 ?c32 ?k32 ?a33 ?l33 ?c33 ?k33 ?a34 ?l34 ?c34 ?k34 ?a35 ?l35 ?c35 ?k35 ?a36 ?l36 ?c36 ?k36 ?a37 ?l37 ?c37 ?k37 ?a38 ?l38 ?c38 ?k38 ?a39 ?l39 ?c39 ?k39 ?a40 ?l40 ?c40 ?k40 ?a41 ?l41 ?c41 ?k41 ?a42 ?l42 ?c42 ?k42 ?a43 ?l43 ?c43 ?k43 ?a44 ?l44 ?c44 ?k44 ?a45 ?l45 ?c45 ?k45 ?a46 ?l46 ?c46 ?k46 ?a47 ?l47 ?c47 ?k47 ?a48 ?l48 ?c48 ?k48 ?a49 ?l49 ?c49 ?k49 ?a50 ?l50 ?c50 ?k50 ?a51 ?l51 ?c51 ?k51 ?a52 ?l52 ?c52 ?k52 ?a53 ?l53 ?c53 ?k53 ?a54 ?l54 ?c54 ?k54 ?a55 ?l55 ?c55 ?k55 ?e_CanNot ?xe_CanNot ?xk_CanNot ?xs_CanNot ?xt_CanNot ?ga_CanNot ?gt_CanNot ?hd_CanNot ?cl_CanNot ?mr_CanNot ?ki_CanNot ?e_Unfit ?xe_Unfit ?xk_Unfit ?xs_Unfit ?xt_Unfit ?ga_Unfit ?gt_Unfit ?hd_Unfit ?cl_Unfit ?mr_Unfit ?ki_Unfit ?xsp ?xtk ?p_CanNot_CanNot ?p_CanNot_Unfit ?p_Unfit_CanNot ?p_Unfit_Unfit ?c_LONE_e ?c_LONE_l ?c_MOST_e ?c_MOST_PLACES_e ?c_MOST_WEIGHT_e ?c_NOUGHT_e ?c_NOUGHT_l ?z_ValueError ?z_abs ?z_all ?z_any ?z_bool ?z_dict ?z_enumerate ?z_int ?z_isinstance ?z_len ?z_list ?z_min ?z_range ?z_reversed ?z_set ?z_sorted ?z_str ?z_sum ?z_tuple ?z_zip
    (case a0 => k_is); (case l0 => k_is); (case c0 => k_is); (case k0 => k_is)
    (case a1 => k_is); (case l1 => k_is); (case c1 => k_is); (case k1 => k_is)
    (case a2 => k_is); (case l2 => k_is); (case c2 => k_is); (case k2 => k_is)
    (case a3 => k_is); (case l3 => k_is); (case c3 => k_is); (case k3 => k_is)
    (case a4 => k_is); (case l4 => k_is); (case c4 => k_is); (case k4 => k_is)
    (case a5 => k_is); (case l5 => k_is); (case c5 => k_is); (case k5 => k_is)
    (case a6 => k_is); (case l6 => k_is); (case c6 => k_is); (case k6 => k_is)
    (case a7 => k_is); (case l7 => k_is); (case c7 => k_is); (case k7 => k_is)
    (case a8 => k_is); (case l8 => k_is); (case c8 => k_is); (case k8 => k_is)
    (case a9 => k_is); (case l9 => k_is); (case c9 => k_is); (case k9 => k_is)
    (case a10 => k_is); (case l10 => k_is); (case c10 => k_is); (case k10 => k_is)
    (case a11 => k_is); (case l11 => k_is); (case c11 => k_is); (case k11 => k_is)
    (case a12 => k_is); (case l12 => k_is); (case c12 => k_is); (case k12 => k_is)
    (case a13 => k_is); (case l13 => k_is); (case c13 => k_is); (case k13 => k_is)
    (case a14 => k_is); (case l14 => k_is); (case c14 => k_is); (case k14 => k_is)
    (case a15 => k_is); (case l15 => k_is); (case c15 => k_is); (case k15 => k_is)
    (case a16 => k_is); (case l16 => k_is); (case c16 => k_is); (case k16 => k_is)
    (case a17 => k_is); (case l17 => k_is); (case c17 => k_is); (case k17 => k_is)
    (case a18 => k_is); (case l18 => k_is); (case c18 => k_is); (case k18 => k_is)
    (case a19 => k_is); (case l19 => k_is); (case c19 => k_is); (case k19 => k_is)
    (case a20 => k_is); (case l20 => k_is); (case c20 => k_is); (case k20 => k_is)
    (case a21 => k_is); (case l21 => k_is); (case c21 => k_is); (case k21 => k_is)
    (case a22 => k_is); (case l22 => k_is); (case c22 => k_is); (case k22 => k_is)
    (case a23 => k_is); (case l23 => k_is); (case c23 => k_is); (case k23 => k_is)
    (case a24 => k_is); (case l24 => k_is); (case c24 => k_is); (case k24 => k_is)
    (case a25 => k_is); (case l25 => k_is); (case c25 => k_is); (case k25 => k_is)
    (case a26 => k_is); (case l26 => k_is); (case c26 => k_is); (case k26 => k_is)
    (case a27 => k_is); (case l27 => k_is); (case c27 => k_is); (case k27 => k_is)
    (case a28 => k_is); (case l28 => k_is); (case c28 => k_is); (case k28 => k_is)
    (case a29 => k_is); (case l29 => k_is); (case c29 => k_is); (case k29 => k_is)
    (case a30 => k_is); (case l30 => k_is); (case c30 => k_is); (case k30 => k_is)
    (case a31 => k_is); (case l31 => k_is); (case c31 => k_is); (case k31 => k_is)
    (case a32 => k_is); (case l32 => k_is); (case c32 => k_is); (case k32 => k_is)
    (case a33 => k_is); (case l33 => k_is); (case c33 => k_is); (case k33 => k_is)
    (case a34 => k_is); (case l34 => k_is); (case c34 => k_is); (case k34 => k_is)
    (case a35 => k_is); (case l35 => k_is); (case c35 => k_is); (case k35 => k_is)
    (case a36 => k_is); (case l36 => k_is); (case c36 => k_is); (case k36 => k_is)
    (case a37 => k_is); (case l37 => k_is); (case c37 => k_is); (case k37 => k_is)
    (case a38 => k_is); (case l38 => k_is); (case c38 => k_is); (case k38 => k_is)
    (case a39 => k_is); (case l39 => k_is); (case c39 => k_is); (case k39 => k_is)
    (case a40 => k_is); (case l40 => k_is); (case c40 => k_is); (case k40 => k_is)
    (case a41 => k_is); (case l41 => k_is); (case c41 => k_is); (case k41 => k_is)
    (case a42 => k_is); (case l42 => k_is); (case c42 => k_is); (case k42 => k_is)
    (case a43 => k_is); (case l43 => k_is); (case c43 => k_is); (case k43 => k_is)
    (case a44 => k_is); (case l44 => k_is); (case c44 => k_is); (case k44 => k_is)
    (case a45 => k_is); (case l45 => k_is); (case c45 => k_is); (case k45 => k_is)
    (case a46 => k_is); (case l46 => k_is); (case c46 => k_is); (case k46 => k_is)
    (case a47 => k_is); (case l47 => k_is); (case c47 => k_is); (case k47 => k_is)
    (case a48 => k_is); (case l48 => k_is); (case c48 => k_is); (case k48 => k_is)
    (case a49 => k_is); (case l49 => k_is); (case c49 => k_is); (case k49 => k_is)
    (case a50 => k_is); (case l50 => k_is); (case c50 => k_is); (case k50 => k_is)
    (case a51 => k_is); (case l51 => k_is); (case c51 => k_is); (case k51 => k_is)
    (case a52 => k_is); (case l52 => k_is); (case c52 => k_is); (case k52 => k_is)
    (case a53 => k_is); (case l53 => k_is); (case c53 => k_is); (case k53 => k_is)
    (case a54 => k_is); (case l54 => k_is); (case c54 => k_is); (case k54 => k_is)
    (case a55 => k_is); (case l55 => k_is); (case c55 => k_is); (case k55 => k_is)
    (case e_CanNot => k_is)
    (case xe_CanNot => k_exc)
    (case xk_CanNot => k_is)
    (case xs_CanNot => k_is)
    (case xt_CanNot => k_is)
    (case ga_CanNot => k_is)
    (case gt_CanNot => k_is)
    (case hd_CanNot => k_is)
    (case cl_CanNot => k_is)
    (case mr_CanNot => k_is)
    (case ki_CanNot => kit_is)
    (case e_Unfit => k_is)
    (case xe_Unfit => k_exc)
    (case xk_Unfit => k_is)
    (case xs_Unfit => k_is)
    (case xt_Unfit => k_is)
    (case ga_Unfit => k_is)
    (case gt_Unfit => k_is)
    (case hd_Unfit => k_is)
    (case cl_Unfit => k_is)
    (case mr_Unfit => k_is)
    (case ki_Unfit => kit_is)
    (case xsp => k_is)
    (case xtk => k_is)
    (case p_CanNot_CanNot => k_is)
    (case p_CanNot_Unfit => k_is)
    (case p_Unfit_CanNot => k_is)
    (case p_Unfit_Unfit => k_is)
    (case c_LONE_e => k_is)
    (case c_LONE_l => k_is)
    (case c_MOST_e => k_is)
    (case c_MOST_PLACES_e => k_is)
    (case c_MOST_WEIGHT_e => k_is)
    (case c_NOUGHT_e => k_is)
    (case c_NOUGHT_l => k_is)
    (case z_ValueError => k_is)
    (case z_abs => k_is)
    (case z_all => k_is)
    (case z_any => k_is)
    (case z_bool => k_is)
    (case z_dict => k_is)
    (case z_enumerate => k_is)
    (case z_int => k_is)
    (case z_isinstance => k_is)
    (case z_len => k_is)
    (case z_list => k_is)
    (case z_min => k_is)
    (case z_range => k_is)
    (case z_reversed => k_is)
    (case z_set => k_is)
    (case z_sorted => k_is)
    (case z_str => k_is)
    (case z_sum => k_is)
    (case z_tuple => k_is)
    (case z_zip => k_is)
end
