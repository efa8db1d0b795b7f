import PyProof.Rows.All
import Wide.All
import OpenK.AllK
import Wide.FinOn
import HandS.ForExc
import HandS.ForMost
import HandS.Star
import HandS.IsInst
import HandS.Walk
import HandS.Wide
import HandS.Style
import HandS.Flow
import HandS.Deep
import HandS.Zip
import HandS.Zip0
import HandS.SortOrd
import HandS.TupAny
import HandS.TupMul
import HandS.Flt
import HandS.SortInts
import HandS.SortRule
import HandS.Codes
import HandS.NoneIn
import HandS.Small
import HandS.Conv
import HandS.Words
import PySem.Challenge.RW_versionsdown_k06_runs_or_not
set_option Elab.async false
set_option linter.all false
set_option autoImplicit false
/-! Dk1: values as trees, how they lie in the abstract heap, environments, what stays. -/
namespace Dk
open PySem PySem.Spec PyProof.Rows L2

abbrev Sg := L2.St
abbrev Ky := Sum Int (List Nat)
inductive PV where
  | non | bl (b : Bool) | int (i : Int) | str (s : List Nat)
  | lst (xs : List PV) | tup (xs : List PV)
  | dk (kvs : List (Ky × PV)) | dt (kvs : List (List Ky × PV))

abbrev AS := Addr → Prop
def mkS (s : List Nat) : Str := ⟨s.toArray⟩
def okS (s : List Nat) : Prop := s.length ≤ sizeLine ∧ ∀ c ∈ s, c < 0x110000
def kyK : Ky → Key
  | .inl i => .inl i
  | .inr s => .inr (mkS s)

mutual
/-- the tree p lies at v; none of its lists and dicts is of A -/
inductive Rp (A : AS) (H : Hp) : PV → V → Prop
  | non : Rp A H .non .non
  | bl (b : Bool) : Rp A H (.bl b) (.bl b)
  | int (i : Int) : Rp A H (.int i) (.int i)
  | str (s : List Nat) : okS s → Rp A H (.str s) (.str (mkS s))
  | lst {a : Addr} {xs : List PV} {vs : List V} : ¬ A a → H a = some (.lst vs) → vs.length ≤ sizeLine → RpL A H xs vs → Rp A H (.lst xs) (.ref a)
  | tup {a : Addr} {xs : List PV} {vs : List V} : H a = some (.tup vs) → vs.length ≤ sizeLine → RpL A H xs vs → Rp A H (.tup xs) (.ref a)
  | dk {a : Addr} {kvs : List (Ky × PV)} {es : List (Key × V)} : ¬ A a → Rd H a (.dK es) → es.length ≤ sizeLine → RpK A H kvs es → Rp A H (.dk kvs) (.ref a)
  | dt {a : Addr} {kvs : List (List Ky × PV)} {es : List (List Key × V)} : ¬ A a → Rd H a (.dT es) → es.length ≤ sizeLine → RpT A H kvs es → Rp A H (.dt kvs) (.ref a)
inductive RpL (A : AS) (H : Hp) : List PV → List V → Prop
  | nil : RpL A H [] []
  | cons {p : PV} {ps : List PV} {v : V} {vs : List V} : Rp A H p v → RpL A H ps vs → RpL A H (p :: ps) (v :: vs)
inductive RpK (A : AS) (H : Hp) : List (Ky × PV) → List (Key × V) → Prop
  | nil : RpK A H [] []
  | cons {k : Ky} {p : PV} {ps : List (Ky × PV)} {v : V} {vs : List (Key × V)} : Rp A H p v → RpK A H ps vs → RpK A H ((k, p) :: ps) ((kyK k, v) :: vs)
inductive RpT (A : AS) (H : Hp) : List (List Ky × PV) → List (List Key × V) → Prop
  | nil : RpT A H [] []
  | cons {k : List Ky} {p : PV} {ps : List (List Ky × PV)} {v : V} {vs : List (List Key × V)} : Rp A H p v → RpT A H ps vs → RpT A H ((k, p) :: ps) ((k.map kyK, v) :: vs)
end

/-- what stays while only O is written -/
structure Stp (O : AS) (H H' : Hp) : Prop where
  keep : ∀ a o, H a = some o → ¬ O a → H' a = some o
  tup : ∀ a vs, H a = some (.tup vs) → H' a = some (.tup vs)
  frz : ∀ a o u, H a = some (.frz o u) → H' a = some (.frz o u)
  dom : ∀ a, H' a = none → H a = none
theorem Stp.refl {O : AS} {H : Hp} : Stp O H H := ⟨fun _ _ e _ => e, fun _ _ e => e, fun _ _ _ e => e, fun _ e => e⟩
theorem Stp.trans {O O1 : AS} {H H1 H2 : Hp} (s : Stp O H H1) (t : Stp O1 H1 H2) (h : ∀ a, O1 a → O a ∨ H a = none) : Stp O H H2 :=
  ⟨fun a o e n => t.keep a o (s.keep a o e n) (fun z => (h a z).elim n (fun q => by rw [e] at q; cases q)),
   fun a vs e => t.tup a vs (s.tup a vs e), fun a o u e => t.frz a o u (s.frz a o u e), fun a e => s.dom a (t.dom a e)⟩
theorem Stp.mono {O O1 : AS} {H H1 : Hp} (s : Stp O H H1) (h : ∀ a, O a → O1 a) : Stp O1 H H1 :=
  ⟨fun a o e n => s.keep a o e fun z => n (h a z), s.tup, s.frz, s.dom⟩
theorem Stp.new {O : AS} {H : Hp} {p : Addr} {o : HO} (h : H p = none) : Stp O H (upd H p o) :=
  ⟨fun a o e _ => by rw [upd_ne (ne_of_none e h)]; exact e, fun a vs e => by rw [upd_ne (ne_of_none e h)]; exact e, fun a o u e => by rw [upd_ne (ne_of_none e h)]; exact e,
   fun a e => by
    by_cases z : a = p
    · rw [z]; exact h
    · rw [upd_ne z] at e; exact e⟩
theorem Stp.rd {O : AS} {H H' : Hp} (s : Stp O H H') {a : Addr} {u : HO} (h : Rd H a u) (n : ¬ O a) : Rd H' a u := by
  rcases h with h | ⟨o, h⟩
  · exact .inl (s.keep a _ h n)
  · exact .inr ⟨o, s.keep a _ h n⟩
theorem Stp.rdT {O : AS} {H H' : Hp} (s : Stp O H H') {a : Addr} {vs : List V} (h : Rd H a (.tup vs)) : Rd H' a (.tup vs) := by
  rcases h with h | ⟨o, h⟩
  · exact .inl (s.tup a _ h)
  · exact .inr ⟨o, s.frz a _ _ h⟩
theorem rd_there {H : Hp} {a : Addr} {u : HO} (h : Rd H a u) : H a ≠ none := by
  rcases h with h | ⟨o, h⟩ <;> rw [h] <;> exact fun z => by cases z

mutual
theorem Rp.stp {A A' O : AS} {H H' : Hp} (s : Stp O H H') (h1 : ∀ a, O a → A a) (h2 : ∀ a, A' a → A a ∨ H a = none) : ∀ (p : PV) (v : V), Rp A H p v → Rp A' H' p v
  | .non, _, h => by cases h; exact .non
  | .bl b, _, h => by cases h; exact .bl b
  | .int i, _, h => by cases h; exact .int i
  | .str x, _, h => by cases h with | str _ k => exact .str x k
  | .lst xs, _, h => by
    cases h with
    | lst n r z q => exact .lst (fun e => (h2 _ e).elim n fun e => by rw [e] at r; cases r) (s.keep _ _ r fun e => n (h1 _ e)) z (RpL.stp s h1 h2 xs _ q)
  | .tup xs, _, h => by
    cases h with
    | tup r z q => exact .tup (s.tup _ _ r) z (RpL.stp s h1 h2 xs _ q)
  | .dk kvs, _, h => by
    cases h with
    | dk n r z q => exact .dk (fun e => (h2 _ e).elim n fun e => rd_there r e) (s.rd r fun e => n (h1 _ e)) z (RpK.stp s h1 h2 kvs _ q)
  | .dt kvs, _, h => by
    cases h with
    | dt n r z q => exact .dt (fun e => (h2 _ e).elim n fun e => rd_there r e) (s.rd r fun e => n (h1 _ e)) z (RpT.stp s h1 h2 kvs _ q)
theorem RpL.stp {A A' O : AS} {H H' : Hp} (s : Stp O H H') (h1 : ∀ a, O a → A a) (h2 : ∀ a, A' a → A a ∨ H a = none) : ∀ (ps : List PV) (vs : List V), RpL A H ps vs → RpL A' H' ps vs
  | [], _, h => by cases h; exact .nil
  | p :: ps, _, h => by
    cases h with
    | cons a b => exact .cons (Rp.stp s h1 h2 p _ a) (RpL.stp s h1 h2 ps _ b)
theorem RpK.stp {A A' O : AS} {H H' : Hp} (s : Stp O H H') (h1 : ∀ a, O a → A a) (h2 : ∀ a, A' a → A a ∨ H a = none) : ∀ (ps : List (Ky × PV)) (vs : List (Key × V)), RpK A H ps vs → RpK A' H' ps vs
  | [], _, h => by cases h; exact .nil
  | (k, p) :: ps, _, h => by
    cases h with
    | cons a b => exact .cons (Rp.stp s h1 h2 p _ a) (RpK.stp s h1 h2 ps _ b)
theorem RpT.stp {A A' O : AS} {H H' : Hp} (s : Stp O H H') (h1 : ∀ a, O a → A a) (h2 : ∀ a, A' a → A a ∨ H a = none) : ∀ (ps : List (List Ky × PV)) (vs : List (List Key × V)), RpT A H ps vs → RpT A' H' ps vs
  | [], _, h => by cases h; exact .nil
  | (k, p) :: ps, _, h => by
    cases h with
    | cons a b => exact .cons (Rp.stp s h1 h2 p _ a) (RpT.stp s h1 h2 ps _ b)
end
theorem Rp.mono {A A' : AS} {H : Hp} {p : PV} {v : V} (h : Rp A H p v) (m : ∀ a, A' a → A a ∨ H a = none) : Rp A' H p v :=
  Rp.stp (O := fun _ => False) Stp.refl (fun _ z => z.elim) m p v h
theorem RpL.mono {A A' : AS} {H : Hp} {p : List PV} {v : List V} (h : RpL A H p v) (m : ∀ a, A' a → A a ∨ H a = none) : RpL A' H p v :=
  RpL.stp (O := fun _ => False) Stp.refl (fun _ z => z.elim) m p v h

theorem RpL.len {A : AS} {H : Hp} : ∀ {ps : List PV} {vs : List V}, RpL A H ps vs → ps.length = vs.length
  | _, _, .nil => rfl
  | _, _, .cons _ b => by rw [List.length_cons, List.length_cons, b.len]
theorem RpK.len {A : AS} {H : Hp} : ∀ {ps : List (Ky × PV)} {vs : List (Key × V)}, RpK A H ps vs → ps.length = vs.length
  | _, _, .nil => rfl
  | _, _, .cons _ b => by rw [List.length_cons, List.length_cons, b.len]
theorem RpT.len {A : AS} {H : Hp} : ∀ {ps : List (List Ky × PV)} {vs : List (List Key × V)}, RpT A H ps vs → ps.length = vs.length
  | _, _, .nil => rfl
  | _, _, .cons _ b => by rw [List.length_cons, List.length_cons, b.len]
theorem RpL.get {A : AS} {H : Hp} : ∀ {ps : List PV} {vs : List V} {i : Nat} {v : V}, RpL A H ps vs → vs[i]? = some v → ∃ p, ps[i]? = some p ∧ Rp A H p v
  | _, _, _, _, .nil, e => by simp at e
  | _, _, 0, _, .cons a _, e => by simp at e; subst e; exact ⟨_, rfl, a⟩
  | _, _, i + 1, v, .cons _ b, e => by
    obtain ⟨p, h1, h2⟩ := RpL.get (i := i) (v := v) b (by simpa using e)
    exact ⟨p, by simpa using h1, h2⟩
theorem RpL.get' {A : AS} {H : Hp} : ∀ {ps : List PV} {vs : List V} {i : Nat} {p : PV}, RpL A H ps vs → ps[i]? = some p → ∃ v, vs[i]? = some v ∧ Rp A H p v
  | _, _, _, _, .nil, e => by simp at e
  | _, _, 0, _, .cons a _, e => by simp at e; subst e; exact ⟨_, rfl, a⟩
  | _, _, i + 1, v, .cons _ b, e => by
    obtain ⟨p, h1, h2⟩ := RpL.get' (i := i) (p := v) b (by simpa using e)
    exact ⟨p, by simpa using h1, h2⟩
theorem RpL.app {A : AS} {H : Hp} : ∀ {ps qs : List PV} {vs ws : List V}, RpL A H ps vs → RpL A H qs ws → RpL A H (ps ++ qs) (vs ++ ws)
  | _, _, _, _, .nil, h => h
  | _, _, _, _, .cons a b, h => .cons a (RpL.app b h)
theorem RpL.take {A : AS} {H : Hp} : ∀ {ps : List PV} {vs : List V} (n : Nat), RpL A H ps vs → RpL A H (ps.take n) (vs.take n)
  | _, _, 0, _ => .nil
  | _, _, _ + 1, .nil => .nil
  | _, _, n + 1, .cons a b => .cons a (RpL.take n b)
theorem RpL.drop {A : AS} {H : Hp} : ∀ {ps : List PV} {vs : List V} (n : Nat), RpL A H ps vs → RpL A H (ps.drop n) (vs.drop n)
  | _, _, 0, h => h
  | _, _, _ + 1, .nil => .nil
  | _, _, n + 1, .cons _ b => RpL.drop n b
theorem RpL.set {A : AS} {H : Hp} {p : PV} {v : V} (h : Rp A H p v) : ∀ {ps : List PV} {vs : List V} (n : Nat), RpL A H ps vs → RpL A H (ps.set n p) (vs.set n v)
  | _, _, _, .nil => .nil
  | _, _, 0, .cons _ b => .cons h b
  | _, _, n + 1, .cons a b => .cons a (RpL.set h n b)
theorem RpL.erase {A : AS} {H : Hp} : ∀ {ps : List PV} {vs : List V} (n : Nat), RpL A H ps vs → RpL A H (ps.eraseIdx n) (vs.eraseIdx n)
  | _, _, _, .nil => .nil
  | _, _, 0, .cons _ b => b
  | _, _, n + 1, .cons a b => .cons a (RpL.erase n b)
theorem RpL.rev {A : AS} {H : Hp} : ∀ {ps : List PV} {vs : List V}, RpL A H ps vs → RpL A H ps.reverse vs.reverse
  | _, _, .nil => .nil
  | _, _, .cons a b => by
    rw [List.reverse_cons, List.reverse_cons]
    exact (RpL.rev b).app (.cons a .nil)
theorem RpL.rep {A : AS} {H : Hp} {ps : List PV} {vs : List V} (h : RpL A H ps vs) : ∀ n : Nat, RpL A H (List.replicate n ps).flatten (List.replicate n vs).flatten
  | 0 => .nil
  | n + 1 => by
    rw [List.replicate_succ, List.replicate_succ, List.flatten_cons, List.flatten_cons]
    exact h.app (RpL.rep h n)

/-- a tree whose root is the list or dict at a, that may be written -/
def Own (A : AS) (H : Hp) (p : PV) (a : Addr) : Prop :=
  match p with
  | .lst xs => ∃ vs, H a = some (.lst vs) ∧ vs.length ≤ sizeLine ∧ RpL A H xs vs
  | .dk kvs => ∃ es, H a = some (.dK es) ∧ es.length ≤ sizeLine ∧ RpK A H kvs es
  | .dt kvs => ∃ es, H a = some (.dT es) ∧ es.length ≤ sizeLine ∧ RpT A H kvs es
  | _ => False
theorem Own.there {A : AS} {H : Hp} {p : PV} {a : Addr} (h : Own A H p a) : H a ≠ none := by
  unfold Own at h
  split at h
  · obtain ⟨_, e, _⟩ := h; rw [e]; exact fun z => by cases z
  · obtain ⟨_, e, _⟩ := h; rw [e]; exact fun z => by cases z
  · obtain ⟨_, e, _⟩ := h; rw [e]; exact fun z => by cases z
  · exact h.elim
theorem Own.rp {A A' : AS} {H : Hp} {p : PV} {a : Addr} (h : Own A H p a) (n : ¬ A' a) (m : ∀ a, A' a → A a ∨ H a = none) : Rp A' H p (.ref a) := by
  unfold Own at h
  split at h
  · obtain ⟨vs, e, z, r⟩ := h; exact .lst n e z (r.mono m)
  · obtain ⟨vs, e, z, r⟩ := h; exact .dk n (.inl e) z (RpK.stp (O := fun _ => False) Stp.refl (fun _ z => z.elim) m _ _ r)
  · obtain ⟨vs, e, z, r⟩ := h; exact .dt n (.inl e) z (RpT.stp (O := fun _ => False) Stp.refl (fun _ z => z.elim) m _ _ r)
  · exact h.elim
theorem Own.stp {A A' O : AS} {H H' : Hp} {p : PV} {a : Addr} (h : Own A H p a) (s : Stp O H H') (n : ¬ O a) (h1 : ∀ a, O a → A a) (h2 : ∀ a, A' a → A a ∨ H a = none) : Own A' H' p a := by
  cases p with
  | lst xs => obtain ⟨vs, e, z, r⟩ := h; exact ⟨vs, s.keep a _ e n, z, RpL.stp s h1 h2 _ _ r⟩
  | dk xs => obtain ⟨vs, e, z, r⟩ := h; exact ⟨vs, s.keep a _ e n, z, RpK.stp s h1 h2 _ _ r⟩
  | dt xs => obtain ⟨vs, e, z, r⟩ := h; exact ⟨vs, s.keep a _ e n, z, RpT.stp s h1 h2 _ _ r⟩
  | _ => exact (show False from h).elim
theorem Own.mono {A A' : AS} {H : Hp} {p : PV} {a : Addr} (h : Own A H p a) (h2 : ∀ a, A' a → A a ∨ H a = none) : Own A' H p a :=
  h.stp (O := fun _ => False) Stp.refl (fun z => z) (fun _ z => z.elim) h2

/-! ### environments -/
inductive Fl where
  | fz | own | io
  deriving DecidableEq
abbrev Sl := Option (PV × Fl)
abbrev En := List Sl
/-- the addresses that the env's own locals may write -/
def Ow (env : En) (σ : Sg) : AS := fun a => ∃ (i : Nat) (p : PV) (f : Fl), env[i]? = some (some (p, f)) ∧ f ≠ .fz ∧ σ[i]? = some (some (.ref a))
def Av (F : AS) (env : En) (σ : Sg) : AS := fun a => F a ∨ Ow env σ a
structure Mt (F : AS) (env : En) (σ : Sg) (H : Hp) : Prop where
  len : env.length = σ.length
  al : ∀ a, F a → H a ≠ none
  fz : ∀ (i : Nat) (p : PV), env[i]? = some (some (p, .fz)) → ∃ v, σ[i]? = some (some v) ∧ Rp (Av F env σ) H p v
  ow : ∀ (i : Nat) (p : PV) (f : Fl), env[i]? = some (some (p, f)) → f ≠ .fz → ∃ a, σ[i]? = some (some (.ref a)) ∧ ¬ F a ∧ Own (Av F env σ) H p a
  inj : ∀ (i j : Nat) (p : PV) (f : Fl) (q : PV) (g : Fl) (a : Addr), env[i]? = some (some (p, f)) → f ≠ .fz → env[j]? = some (some (q, g)) → g ≠ .fz → σ[i]? = some (some (.ref a)) → σ[j]? = some (some (.ref a)) → i = j
theorem Mt.there {F : AS} {env : En} {σ : Sg} {H : Hp} (m : Mt F env σ H) {a : Addr} (h : Av F env σ a) : H a ≠ none := by
  rcases h with h | ⟨i, p, f, e, hf, q⟩
  · exact m.al a h
  · obtain ⟨b, e1, _, o⟩ := m.ow i p f e hf
    rw [q] at e1
    cases e1
    exact o.there

/-- behind an expression: σ is kept, ownership may shrink -/
structure Sb (env : En) (σ : Sg) (env' : En) : Prop where
  sub : ∀ a, Ow env' σ a → Ow env σ a
  /-- in-out parameters stay -/
  io : ∀ (i : Nat) (p : PV), env[i]? = some (some (p, .io)) → ∃ q : PV, env'[i]? = some (some (q, .io))
theorem Sb.refl {env : En} {σ : Sg} : Sb env σ env := ⟨fun _ h => h, fun _ p e => ⟨p, e⟩⟩
theorem Sb.trans {e1 e2 e3 : En} {σ : Sg} (a : Sb e1 σ e2) (b : Sb e2 σ e3) : Sb e1 σ e3 :=
  ⟨fun x h => a.sub x (b.sub x h), fun i p e => by
    obtain ⟨q, e'⟩ := a.io i p e
    exact b.io i q e'⟩

/-- a new object of ours: written part as before -/
theorem Mt.stp {F F' : AS} {env : En} {σ : Sg} {H H' : Hp} (m : Mt F env σ H) (s : Stp (fun _ => False) H H') (al : ∀ a, F' a → H' a ≠ none) (sub : ∀ a, F' a → F a ∨ H a = none) : Mt F' env σ H' := by
  have k : ∀ a, Av F' env σ a → Av F env σ a ∨ H a = none := fun a h => by
    rcases h with h | h
    · exact (sub a h).imp .inl id
    · exact .inl (.inr h)
  refine ⟨m.len, al, fun i p e => ?_, fun i p f e hf => ?_, m.inj⟩
  · obtain ⟨v, e1, r⟩ := m.fz i p e
    exact ⟨v, e1, Rp.stp s (fun _ z => z.elim) k _ _ r⟩
  · obtain ⟨a, e1, n, o⟩ := m.ow i p f e hf
    refine ⟨a, e1, fun z => ?_, o.stp s (fun z => z) (fun _ z => z.elim) k⟩
    rcases sub a z with z | z
    · exact n z
    · exact o.there z
theorem Mt.new {F : AS} {env : En} {σ : Sg} {H : Hp} (m : Mt F env σ H) {p : Addr} {o : HO} (h : H p = none) : Mt F env σ (upd H p o) :=
  m.stp (Stp.new h) (fun a z e => m.al a z ((Stp.new (O := fun _ => False) h).dom a e)) fun a z => .inl z
/-- .. and it is added to what is held apart -/
theorem Mt.newF {F : AS} {env : En} {σ : Sg} {H : Hp} (m : Mt F env σ H) {p : Addr} {o : HO} (h : H p = none) : Mt (fun a => F a ∨ a = p) env σ (upd H p o) :=
  m.stp (Stp.new h) (fun a z e => by
    rcases z with z | z
    · exact m.al a z ((Stp.new (O := fun _ => False) h).dom a e)
    · subst z; rw [upd_same] at e; cases e) fun a z => z.imp id fun e => by subst e; exact h
theorem Mt.weak {F F' : AS} {env : En} {σ : Sg} {H : Hp} (m : Mt F env σ H) (sub : ∀ a, F' a → F a) : Mt F' env σ H :=
  m.stp Stp.refl (fun a z => m.al a (sub a z)) fun a z => .inl (sub a z)
end Dk

set_option Elab.async false
set_option linter.all false
set_option autoImplicit false
/-! Dk2: the pure interpreter: primitives, IR, meaning. -/
namespace Dk
open PySem PySem.Spec PyProof.Rows L2

/-! ### primitives on trees -/
abbrev PB := PV × Bool
def tru : PV → Option Bool
  | .non => some false
  | .bl b => some b
  | .int i => some (i != 0)
  | .str s => some (!s.isEmpty)
  | .lst xs => some (!xs.isEmpty)
  | .tup xs => some (!xs.isEmpty)
  | .dk _ => none
  | .dt _ => none
def isAt : PV → Bool
  | .non => true | .bl _ => true | .int _ => true | .str _ => true | _ => false
def bi (b : Bool) : Int := if b then 1 else 0
mutual
/-- == of data without dicts -/
def eqv : PV → PV → Bool
  | .non, .non => true
  | .bl a, .bl b => a == b
  | .bl a, .int j => bi a == j
  | .int i, .bl b => i == bi b
  | .int i, .int j => i == j
  | .str x, .str y => x == y
  | .lst xs, .lst ys => eqvL xs ys
  | .tup xs, .tup ys => eqvL xs ys
  | _, _ => false
def eqvL : List PV → List PV → Bool
  | [], [] => true
  | x :: xs, y :: ys => eqv x y && eqvL xs ys
  | _, _ => false
end
mutual
def nod : PV → Bool
  | .lst xs => nodL xs
  | .tup xs => nodL xs
  | .dk _ => false
  | .dt _ => false
  | _ => true
def nodL : List PV → Bool
  | [] => true
  | x :: xs => nod x && nodL xs
end
mutual
def dep : PV → Nat
  | .lst xs => depL xs + 1
  | .tup xs => depL xs + 1
  | _ => 0
def depL : List PV → Nat
  | [] => 0
  | x :: xs => max (dep x) (depL xs)
end
/-- data that == is known of -/
def cod (p : PV) : Bool := nod p && decide (dep p ≤ 60)
def keyOf : PV → Option Ky
  | .int i => some (.inl i)
  | .str s => some (.inr s)
  | _ => none
def keysOf : List PV → Option (List Ky)
  | [] => some []
  | p :: ps => match keyOf p, keysOf ps with
    | some k, some r => some (k :: r)
    | _, _ => none
def lookK : List (Ky × PV) → Ky → Option PV
  | [], _ => none
  | (k, v) :: r, q => if k = q then some v else lookK r q
def lookT : List (List Ky × PV) → List Ky → Option PV
  | [], _ => none
  | (k, v) :: r, q => if k = q then some v else lookT r q
def szl (n : Nat) : Bool := decide (n ≤ sizeLine)
def mulOk (i j : Int) : Bool := decide (i.natAbs < 2 ^ 64) || decide (j.natAbs < 2 ^ 64) || decide (i.natAbs.log2 + j.natAbs.log2 < 1000000)
def divOk (j : Int) : Bool := (decide (j ≠ 0) && decide (j.natAbs < 1073741824)) || (decide (0 < j) && decide (j.natAbs.log2 < 9000))
def powOk (i j : Int) : Bool := decide (0 ≤ j) && decide (j ≤ 1000000) && decide (i.natAbs < 2 ^ 64)
def repOk (n : Nat) (k : Int) : Bool := (decide (-(2 ^ 63) ≤ k) && decide (k ≤ 1000)) && decide (n ≤ 1000)

def addF : PV → PV → Option PB
  | .int i, .int j => some (.int (i + j), false)
  | .str x, .str y => if szl (x.length + y.length) then some (.str (x ++ y), false) else none
  | .lst xs, .lst ys => if szl (xs.length + ys.length) then some (.lst (xs ++ ys), true) else none
  | .tup xs, .tup ys => if szl (xs.length + ys.length) then some (.tup (xs ++ ys), false) else none
  | _, _ => none
def mulF : PV → PV → Option PB
  | .int i, .int j => if mulOk i j then some (.int (i * j), false) else none
  | .lst xs, .int k => if repOk xs.length k then some (.lst (List.replicate k.toNat xs).flatten, true) else none
  | .tup xs, .int k => if repOk xs.length k && decide (2 ≤ k) && !xs.isEmpty then some (.tup (List.replicate k.toNat xs).flatten, false) else none
  | _, _ => none
def intF (g : Int → Int → Option Int) : PV → PV → Option PB
  | .int i, .int j => (g i j).map fun z => (.int z, false)
  | _, _ => none
/-- a binary operator: the value, and whether it is a new list -/
def binF (op : Operator) (p q : PV) : Option PB :=
  match op with
  | .Add => addF p q
  | .Sub => intF (fun i j => some (i - j)) p q
  | .Mult => mulF p q
  | .FloorDiv => intF (fun i j => if divOk j then some (i.fdiv j) else none) p q
  | .Mod => intF (fun i j => if j = 0 then none else some (i.fmod j)) p q
  | .Pow => intF (fun i j => if powOk i j then some (i ^ j.toNat) else none) p q
  | .LShift => intF (fun i j => if powOk i j then some (i * 2 ^ j.toNat) else none) p q
  | .RShift => intF (fun i j => if 0 ≤ j then some (i / 2 ^ j.toNat) else none) p q
  | .BitAnd => intF (fun i j => some (Builtin.bitAnd i j)) p q
  | _ => none

def strLt (x y : List Nat) : Bool := decide (x < y)
def anyEq (p : PV) (xs : List PV) : Bool := xs.any fun z => eqv z p
def inS : PV → List Nat → Option Bool
  | .str [c], s => some (decide (c ∈ s))
  | _, _ => none
def inF (p q : PV) : Option Bool :=
  match q with
  | .str s => inS p s
  | .lst xs => if cod p && cod (.lst xs) then some (anyEq p xs) else none
  | .tup xs => if cod p && cod (.tup xs) then some (anyEq p xs) else none
  | .dk kvs => (keyOf p).map fun k => (lookK kvs k).isSome
  | _ => none
def isNon : PV → Bool
  | .non => true
  | _ => false
def isF (p q : PV) : Option Bool :=
  match q with
  | .non => some (isNon p)
  | .bl b => match p with
    | .bl a => some (decide (a = b))
    | _ => none
  | _ => none
def eqF (p q : PV) : Option Bool := if cod p && cod q then some (eqv p q) else none
def ltF : PV → PV → Option Bool
  | .int i, .int j => some (decide (i < j))
  | .str x, .str y => some (strLt x y)
  | _, _ => none
def cmpF (op : CmpOp) (p q : PV) : Option Bool :=
  match op with
  | .Eq => eqF p q
  | .NotEq => (eqF p q).map (!·)
  | .Lt => ltF p q
  | .Gt => ltF q p
  | .LtE => (ltF q p).map (!·)
  | .GtE => (ltF p q).map (!·)
  | .Is => isF p q
  | .IsNot => (isF p q).map (!·)
  | .In => inF p q
  | .NotIn => (inF p q).map (!·)

def getI {α : Type} (xs : List α) (i : Int) : Option α := L2.atI xs i
def ixF (p q : PV) : Option PV :=
  match p, q with
  | .lst xs, .int i => getI xs i
  | .tup xs, .int i => getI xs i
  | .str s, .int i => (getI s i).map fun c => .str [c]
  | .dk kvs, q => (keyOf q).bind fun k => lookK kvs k
  | .dt kvs, .tup ks => (keysOf ks).bind fun k => lookT kvs k
  | _, _ => none
def cut {α : Type} (xs : List α) (lo hi : Option Int) : List α := (xs.drop (HT.sIx xs.length 0 lo)).take (HT.sIx xs.length xs.length hi - HT.sIx xs.length 0 lo)
def slF (p : PV) (lo hi : Option Int) : Option (PV × Bool) :=
  match p with
  | .lst xs => some (.lst (cut xs lo hi), true)
  | .tup xs => some (.tup (cut xs lo hi), false)
  | .str s => some (.str (cut s lo hi), false)
  | _ => none
def revF : PV → Option (PV × Bool)
  | .lst xs => some (.lst xs.reverse, true)
  | .tup xs => some (.tup xs.reverse, false)
  | _ => none

inductive Ty where
  | int | bool | str | lst | tup | dict
  deriving DecidableEq
def tyOf : PV → List Ty
  | .non => []
  | .bl _ => [.bool, .int]
  | .int _ => [.int]
  | .str _ => [.str]
  | .lst _ => [.lst]
  | .tup _ => [.tup]
  | .dk _ => [.dict]
  | .dt _ => [.dict]
def isiF (p : PV) (ts : List Ty) : Option Bool :=
  match p with
  | .dt _ => none
  | p => some (ts.any fun t => decide (t ∈ tyOf p))

def intsOf : List PV → Option (List Int)
  | [] => some []
  | .int i :: r => (intsOf r).map (i :: ·)
  | _ :: _ => none
def blsOf : List PV → Option (List Bool)
  | [] => some []
  | .bl b :: r => (blsOf r).map (b :: ·)
  | _ :: _ => none
def strsOf : List PV → Option (List (List Nat))
  | [] => some []
  | .str s :: r => (strsOf r).map (s :: ·)
  | _ :: _ => none
/-- data by which there is sorted: a row of ints and texts -/
def keyL : PV → List Ky
  | .int i => [.inl i]
  | .str s => [.inr s]
  | .tup xs => xs.filterMap keyOf
  | _ => []
def ltKy : Ky → Ky → Bool
  | .inl i, .inl j => decide (i < j)
  | .inl _, .inr _ => true
  | .inr _, .inl _ => false
  | .inr s, .inr t => strLt s t
def lexKy : List Ky → List Ky → Bool
  | [], [] => false
  | [], _ :: _ => true
  | _ :: _, [] => false
  | x :: xs, y :: ys => if x = y then lexKy xs ys else ltKy x y
def ltv (p q : PV) : Bool := lexKy (keyL p) (keyL q)
def kyT : Ky → Bool
  | .inl _ => false
  | .inr _ => true
def isIntV : PV → Bool
  | .int _ => true
  | _ => false
def isStrV : PV → Bool
  | .str _ => true
  | _ => false
/-- a row of such kinds -/
def isRow (b : List Bool) : PV → Bool
  | .tup xs => match keysOf xs with
    | some ks => decide (ks.map kyT = b)
    | none => false
  | _ => false
def rowOf : List PV → List Bool
  | .tup xs :: _ => match keysOf xs with
    | some ks => ks.map kyT
    | none => []
  | _ => []
/-- can they be sorted? -/
def sortable (xs : List PV) : Bool := xs.all isIntV || xs.all isStrV || (!(rowOf xs).isEmpty && xs.all (isRow (rowOf xs)))
def insV (x : PV) : List PV → List PV
  | [] => [x]
  | y :: ys => if ltv y x then y :: insV x ys else x :: y :: ys
def srtV : List PV → List PV
  | [] => []
  | x :: xs => insV x (srtV xs)
def itemsOf : PV → Option (List PV)
  | .lst xs => some xs
  | .tup xs => some xs
  | _ => none
inductive Bf where
  | len | abs | int | all | any | sum | max | min | lst | tup | sorted | str
def maxI : Int → List Int → Int
  | m, [] => m
  | m, x :: xs => maxI (if x > m then x else m) xs
def minI : Int → List Int → Int
  | m, [] => m
  | m, x :: xs => minI (if x < m then x else m) xs
def lenF : List PV → Option PB
  | [.str s] => some (.int s.length, false)
  | [.lst s] => some (.int s.length, false)
  | [.tup s] => some (.int s.length, false)
  | [.dk s] => some (.int s.length, false)
  | _ => none
def absF : List PV → Option PB
  | [.int i] => some (.int (if i < 0 then -i else i), false)
  | _ => none
def intFn : List PV → Option PB
  | [.int i] => some (.int i, false)
  | [.bl b] => some (.int (bi b), false)
  | _ => none
def allF : List PV → Option PB
  | [.lst xs] => (blsOf xs).map fun bs => (.bl (bs.all id), false)
  | _ => none
def anyF : List PV → Option PB
  | [.lst xs] => (blsOf xs).map fun bs => (.bl (bs.any id), false)
  | _ => none
def sumF : List PV → Option PB
  | [.lst xs] => (intsOf xs).map fun ns => (.int ns.sum, false)
  | _ => none
def maxL (xs : List PV) : Option PB :=
  match intsOf xs with
  | some (n :: ns) => some (.int (maxI n ns), false)
  | _ => none
def minL (xs : List PV) : Option PB :=
  match intsOf xs with
  | some (n :: ns) => some (.int (minI n ns), false)
  | _ => none
def maxF : List PV → Option PB
  | [.int i, .int j] => some (.int (if j > i then j else i), false)
  | [.int i, .int j, .int k] => some (.int (maxI i [j, k]), false)
  | [.lst xs] => maxL xs
  | _ => none
def minF : List PV → Option PB
  | [.int i, .int j] => some (.int (if j < i then j else i), false)
  | [.int i, .int j, .int k] => some (.int (minI i [j, k]), false)
  | [.lst xs] => minL xs
  | _ => none
def lstF : List PV → Option PB
  | [.lst xs] => some (.lst xs, true)
  | [.tup xs] => some (.lst xs, true)
  | _ => none
def tupF : List PV → Option PB
  | [.lst xs] => some (.tup xs, false)
  | [.tup xs] => some (.tup xs, false)
  | _ => none
def sortF : List PV → Option PB
  | [.lst xs] => if sortable xs then some (.lst (srtV xs), true) else none
  | _ => none
def strF : List PV → Option PB
  | [.int i] => if decide (i.natAbs.log2 < 1920) && szl ((toString i).toList.map Char.toNat).length then some (.str ((toString i).toList.map Char.toNat), false) else none
  | _ => none
def bF (f : Bf) (ps : List PV) : Option PB :=
  match f with
  | .len => lenF ps
  | .abs => absF ps
  | .int => intFn ps
  | .all => allF ps
  | .any => anyF ps
  | .sum => sumF ps
  | .max => maxF ps
  | .min => minF ps
  | .lst => lstF ps
  | .tup => tupF ps
  | .sorted => sortF ps
  | .str => strF ps

/-! ### the IR -/
inductive Lt where
  | non | bl (b : Bool) | int (i : Int) | str (s : List Nat)
  deriving DecidableEq
def Lt.pv : Lt → PV
  | .non => .non | .bl b => .bl b | .int i => .int i | .str s => .str s
/-- methods that write nothing -/
inductive Mf where
  | index | count | get | split | join
  deriving DecidableEq
/-- a target: a slot, or a tuple of slots -/
inductive Tg where
  | nm (i : Nat) | tp (is : List Nat)
  deriving DecidableEq
inductive Wk where
  | seq | zip | enum | range | range2 | str
  deriving DecidableEq
/-- where a parameter's value comes from: the j-th argument as written, a default -/
inductive Sr where
  | a (j : Nat) | d (p : Lt)
  deriving DecidableEq
mutual
inductive E where
  | lit (p : Lt) | var (i : Nat) | mv (i : Nat) | con (k : Nat)
  | bin (op : Operator) (a b : O) | neg (a : O)
  | cmp (op : CmpOp) (a b : O) | chn (op op' : CmpOp) (a b c : O)
  | notE (a : O) | andE (a b : E) | orE (a b : E) | ite (t : T) (a b : E)
  | lstD (xs : DL) | tupD (xs : DL)
  | ix (a i : O) | sl (a : O) (lo hi : PO) | rev (a : O)
  | isi (a : O) (ts : List Ty)
  | cb (f : Bf) (xs : OL)
  | rg (tup : Bool) (a : O)
  | mt (m : Mf) (o : O) (xs : OL)
  | pop (i : Nat) (xs : OL)
  | call (f : Nat) (xs kx : OL) (sg : List Sr)
  | lc (elt : E) (tg : Tg) (w : Wk) (xs : OL) (ifs : TO) (own : List Nat)
  | lc2 (elt : E) (tg : Tg) (w : Wk) (xs : OL) (ifs : TO) (tg1 : Tg) (w1 : Wk) (xs1 : OL) (ifs1 : TO) (own own1 : List Nat)
/-- an operand: a value, a local read where it stands, a new list handed on -/
inductive O where
  | v (e : E) | b (i : Nat) | t (e : E)
inductive OL where
  | nil | cons (o : O) (r : OL)
inductive PO where
  | none | some (e : E)
/-- a display's items, with stars -/
inductive DL where
  | nil | one (e : E) (r : DL) | star (o : O) (r : DL)
inductive T where
  | cmp (op : CmpOp) (a b : O) | chn (op op' : CmpOp) (a b c : O)
  | and (a b : T) | or (a b : T) | not (t : T) | pl (e : O)
inductive TO where
  | none | some (t : T)
end
mutual
/-- statements -/
inductive S where
  | pass | ret (e : E) | retN | never | cont | brk
  | asg (i : Nat) (e : E)
  | par (is : List Nat) (xs : OL)
  | tpa (is : List Nat) (e : O)
  | put (i : Nat) (k : O) (e : E)
  | aug (op : Operator) (i : Nat) (e : O)
  | app (i : Nat) (e : E)
  | ext (i : Nat) (e : O)
  | ex (e : E)
  | iff (t : T) (a b : SL)
  | for (tg : Tg) (w : Wk) (xs : OL) (body : SL)
  | whl (t : T) (body : SL)
inductive SL where
  | nil | cons (s : S) (r : SL)
end

/-! ### what it means -/
inductive Res (α : Type) where
  | ok (a : α) (e : En) | bad
def Res.bind {α β : Type} (r : Res α) (f : α → En → Res β) : Res β :=
  match r with
  | .ok a e => f a e
  | .bad => .bad
def opt {α : Type} (o : Option α) (e : En) : Res α :=
  match o with
  | some a => .ok a e
  | none => .bad
inductive FRes where
  | ok (r : PV) (fr : Bool) (ios : List PV) | bad
abbrev Call := Nat → List PV → FRes

/-- a local as a value: what it owned is given up -/
def rdVar (i : Nat) (env : En) : Res PB :=
  match env[i]? with
  | some (some (p, .fz)) => .ok (p, false) env
  | some (some (p, .own)) => .ok (p, false) (env.set i (some (p, .fz)))
  | _ => .bad
def mvVar (i : Nat) (env : En) : Res PB :=
  match env[i]? with
  | some (some (p, .fz)) => .ok (p, false) env
  | some (some (p, .own)) => .ok (p, true) (env.set i none)
  | _ => .bad
/-- a local's content -/
def rdSl (i : Nat) (env : En) : Option PV :=
  match env[i]? with
  | some (some (p, _)) => some p
  | _ => none
/-- an operand's outcome: a value, a slot's content, a new list of its own -/
inductive Ag where
  | v (p : PV) | s (i : Nat) | t (p : PV)
def Ag.rd (env : En) : Ag → Option PV
  | .v p => some p
  | .s i => rdSl i env
  | .t p => some p
def rdAll (env : En) : List Ag → Option (List PV)
  | [] => some []
  | a :: r => match a.rd env, rdAll env r with
    | some p, some ps => some (p :: ps)
    | _, _ => none
/-- .. and it stays so: no slot that owns -/
def Ag.rdW (env : En) : Ag → Option PV
  | .v p => some p
  | .s i => match env[i]? with
    | some (some (p, .fz)) => some p
    | _ => none
  | .t p => some p
def rdWAll (env : En) : List Ag → Option (List PV)
  | [] => some []
  | a :: r => match a.rdW env, rdWAll env r with
    | some p, some ps => some (p :: ps)
    | _, _ => none
/-- a name is stored -/
def asgSl (i : Nat) (p : PV) (fr : Bool) (env : En) : Option En :=
  match env[i]? with
  | some (some (_, .io)) => none
  | some _ => some (env.set i (some (p, if fr then .own else .fz)))
  | none => none
def asgAll : List Nat → List PV → En → Option En
  | [], [], env => some env
  | i :: is, p :: ps, env => (asgSl i p false env).bind fun env' => asgAll is ps env'
  | _, _, _ => none
def asgTg (tg : Tg) (p : PV) (env : En) : Option En :=
  match tg, p with
  | .nm i, p => asgSl i p false env
  | .tp is, .tup ps => asgAll is ps env
  | .tp is, .lst ps => asgAll is ps env
  | _, _ => none
def zipV : List PV → List PV → List PV
  | x :: xs, y :: ys => .tup [x, y] :: zipV xs ys
  | _, _ => []
def enumV : Nat → List PV → List PV
  | _, [] => []
  | n, x :: xs => .tup [.int n, x] :: enumV (n + 1) xs
def rangeV (lo : Int) : Nat → List PV
  | 0 => []
  | n + 1 => .int lo :: rangeV (lo + 1) n
def rgOk (i : Int) : Bool := decide (-(2 ^ 62) ≤ i) && decide (i < 2 ^ 62)
def wkSeq : List PV → Option (List PV)
  | [.lst xs] => some xs
  | [.tup xs] => some xs
  | _ => none
def wkStr : List PV → Option (List PV)
  | [.str s] => some (s.map fun c => .str [c])
  | _ => none
def wkZip : List PV → Option (List PV)
  | [.lst xs, .lst ys] => some (zipV xs ys)
  | [.tup xs, .tup ys] => some (zipV xs ys)
  | _ => none
def wkEnum : List PV → Option (List PV)
  | [.lst xs] => some (enumV 0 xs)
  | _ => none
def wkRg1 : List PV → Option (List PV)
  | [.int j] => if rgOk j && szl j.toNat then some (rangeV 0 j.toNat) else none
  | _ => none
def wkRg2 : List PV → Option (List PV)
  | [.int i, .int j] => if (rgOk i && rgOk j) && szl (j - i).toNat then some (rangeV i (j - i).toNat) else none
  | _ => none
def wkF (w : Wk) (ps : List PV) : Option (List PV) :=
  match w with
  | .seq => wkSeq ps
  | .str => wkStr ps
  | .zip => wkZip ps
  | .enum => wkEnum ps
  | .range => wkRg1 ps
  | .range2 => wkRg2 ps
/-- the slots of a block's own names -/
def wipeE (env : En) : List Nat → En
  | [] => env
  | v :: vs => (wipeE env vs).set v none
/-- may they be wiped: none of them owns a thing -/
def wipeOk (env : En) (vs : List Nat) : Bool := vs.all fun i => match env[i]? with
  | some none => true
  | some (some (_, .fz)) => true
  | _ => false
/-- behind the block: its own names as they were -/
def unwipe (env env' : En) : List Nat → En
  | [] => env'
  | v :: vs => (unwipe env env' vs).set v (match env[v]? with | some s => s | none => none)
def lcLoop (chk : Bool) (elt : En → Res PV) (asg : PV → En → Option En) (tst : En → Res Bool) (own : List Nat) : List PV → List PV → En → Res (List PV)
  | [], acc, env => .ok acc env
  | p :: ps, acc, env => (opt (asg p env) env).bind fun env1 _ => (tst env1).bind fun b env2 =>
    if b then (elt env2).bind fun x env3 => if !chk || szl (acc.length + 1) then lcLoop chk elt asg tst own ps (acc ++ [x]) (wipeE env3 own) else .bad
    else lcLoop chk elt asg tst own ps acc (wipeE env2 own)
def lc2Loop (inner : List PV → En → Res (List PV)) (asg : PV → En → Option En) (tst : En → Res Bool) (own : List Nat) : List PV → List PV → En → Res (List PV)
  | [], acc, env => .ok acc env
  | p :: ps, acc, env => (opt (asg p env) env).bind fun env1 _ => (tst env1).bind fun b env2 =>
    if b then (inner acc env2).bind fun acc' env3 => lc2Loop inner asg tst own ps acc' (wipeE env3 own)
    else lc2Loop inner asg tst own ps acc (wipeE env2 own)
/-- what is walked -/
def wkX (w : Wk) (as : List Ag) (env : En) : Res (List PV) :=
  match rdWAll env as with
  | some ps => opt (wkF w ps) env
  | none => .bad
/-- a def as the interpreter knows it: parameters that are in-out, how many slots, the body -/
structure Fn where
  ios : List Bool
  n : Nat
  body : SL
/-- what the interpreter is given: which parameters of a def are in-out, what a call yields, the module's constants -/
structure Cn where
  io : Nat → List Bool
  call : Call
  con : Nat → Option Lt
/-- the in-out arguments behind a call -/
def putIo : List Bool → List Ag → List PV → En → Option En
  | [], [], [], env => some env
  | true :: f, .s i :: r, p :: ios, env => match env[i]? with
    | some (some (_, .own)) => putIo f r ios (env.set i (some (p, .own)))
    | some (some (_, .io)) => putIo f r ios (env.set i (some (p, .io)))
    | _ => none
  | true :: f, .t _ :: r, _ :: ios, env => putIo f r ios env
  | false :: f, .v _ :: r, ios, env => putIo f r ios env
  | false :: f, .s _ :: r, ios, env => putIo f r ios env
  | _, _, _, _ => none
mutual
/-- no list and no dict within -/
def nol : PV → Bool
  | .lst _ => false
  | .tup xs => nolL xs
  | .dk _ => false
  | .dt _ => false
  | _ => true
def nolL : List PV → Bool
  | [] => true
  | x :: xs => nol x && nolL xs
end
/-- a list of such -/
def flatP : PV → Bool
  | .lst xs => nolL xs
  | _ => false
/-- a slot that is lent: it is given up, or the answer holds no reference -/
def lent (env : En) (at' : Bool) (f : List Bool) (ags : List Ag) : Bool :=
  match f, ags with
  | false :: f, .s i :: r => (at' || (match env[i]? with | some (some (_, .fz)) => true | _ => false)) && lent env at' f r
  | _ :: f, _ :: r => lent env at' f r
  | _, _ => true
def slots : List Ag → List Nat
  | [] => []
  | .s i :: r => i :: slots r
  | _ :: r => slots r
def apart (f : List Bool) (ags : List Ag) : Bool := f.all (!·) || decide (slots ags).Nodup
/-- the arguments in the parameters' order -/
def arrange (sg : List Sr) (ags : List Ag) : Option (List Ag) :=
  match sg with
  | [] => some ags
  | sg => if ags.all (fun | .t _ => false | _ => true) then sg.mapM fun
    | .a j => ags[j]?
    | .d p => some (.v p.pv)
    else none
def callD (C : Cn) (f : Nat) (sg : List Sr) (ags : List Ag) (env : En) : Res PB :=
  match arrange sg ags with
  | none => .bad
  | some as => match rdAll env as with
    | none => .bad
    | some ps => if apart (C.io f) as then
        match C.call f ps with
        | .bad => .bad
        | .ok r fr ios => if lent env (nol r && ios.all flatP) (C.io f) as then (opt (putIo (C.io f) as ios env) env).bind fun env' _ => .ok (r, fr) env' else .bad
      else .bad
def okB (s : List Nat) : Bool := szl s.length && s.all fun c => decide (c < 0x110000)
def joinF (s : List Nat) (xs : List PV) : Option PB :=
  match strsOf xs with
  | some ss => if decide ((ss.map List.length).sum + ss.length * s.length ≤ 16777216) && okB (TL.joinL s ss) then some (.str (TL.joinL s ss), false) else none
  | none => none
def splitF (s b : List Nat) : Option PB :=
  if ((!b.isEmpty && b.all fun c => decide (c < 256)) && decide (s.length + 2 ≤ sizeLine)) && ((TL.spl b 0 [] s).all okB && szl (TL.spl b 0 [] s).length) then some (.lst ((TL.spl b 0 [] s).map .str), true) else none
/-- methods of texts with one argument -/
def mF (m : Mf) (p : PV) (ps : List PV) : Option (PV × Bool) :=
  match m, p, ps with
  | .join, .str s, [.lst xs] => joinF s xs
  | .join, .str s, [.tup xs] => joinF s xs
  | .split, .str s, [.str b] => splitF s b
  | _, _, _ => none
def popF (xs : List PV) : List PV → Option (PV × List PV)
  | [] => (xs[xs.length - 1]?).map fun y => (y, xs.dropLast)
  | [.int i] => if rgOk i then (L2.ixN xs.length i).bind fun k => (xs[k]?).map fun y => (y, xs.eraseIdx k) else none
  | _ => none
/-- a slot's list is changed -/
def chg (i : Nat) (env : En) (f : PV → Option PV) : Option En :=
  match env[i]? with
  | some (some (p, .own)) => (f p).map fun q => env.set i (some (q, .own))
  | some (some (p, .io)) => (f p).map fun q => env.set i (some (q, .io))
  | _ => none
def chgR (i : Nat) (env : En) (f : PV → Option (PV × PV)) : Option (PV × En) :=
  match env[i]? with
  | some (some (p, .own)) => (f p).map fun q => (q.1, env.set i (some (q.2, .own)))
  | some (some (p, .io)) => (f p).map fun q => (q.1, env.set i (some (q.2, .io)))
  | _ => none
def optE (o : Option PV) (env : En) : Res PB := opt (o.map fun p => (p, false)) env

mutual
def dE (C : Cn) : E → En → Res PB
  | .lit p, env => .ok (p.pv, false) env
  | .var i, env => rdVar i env
  | .mv i, env => mvVar i env
  | .con k, env => optE ((C.con k).map Lt.pv) env
  | .bin op a b, env => (dO C a env).bind fun x e1 => (dO C b e1).bind fun y e2 => match x.rd e2, y.rd e2 with
    | some p, some q => opt (binF op p q) e2
    | _, _ => .bad
  | .neg a, env => (dO C a env).bind fun x e1 => match x.rd e1 with
    | some (.int i) => .ok (.int (-i), false) e1
    | _ => .bad
  | .cmp op a b, env => (dO C a env).bind fun x e1 => (dO C b e1).bind fun y e2 => match x.rd e2, y.rd e2 with
    | some p, some q => optE ((cmpF op p q).map .bl) e2
    | _, _ => .bad
  | .chn op op' a b c, env => (dO C a env).bind fun x e1 => (dO C b e1).bind fun y e2 => match x.rd e2, y.rd e2 with
    | some p, some q => (opt (cmpF op p q) e2).bind fun k e3 => if k then (dO C c e3).bind fun z e4 => match y.rd e4, z.rd e4 with
        | some q', some r => optE ((cmpF op' q' r).map .bl) e4
        | _, _ => .bad
      else .ok (.bl false, false) e3
    | _, _ => .bad
  | .notE a, env => (dO C a env).bind fun x e1 => match x.rd e1 with
    | some p => optE ((tru p).map fun b => .bl !b) e1
    | none => .bad
  | .andE a b, env => (dE C a env).bind fun x e1 => (opt (tru x.1) e1).bind fun k e2 => if k then dE C b e2 else .ok x e2
  | .orE a b, env => (dE C a env).bind fun x e1 => (opt (tru x.1) e1).bind fun k e2 => if k then .ok x e2 else dE C b e2
  | .ite t a b, env => (dT C t env).bind fun k e1 => if k then dE C a e1 else dE C b e1
  | .lstD xs, env => (dD C xs env).bind fun ps e1 => if szl ps.length then .ok (.lst ps, true) e1 else .bad
  | .tupD xs, env => (dD C xs env).bind fun ps e1 => if szl ps.length then .ok (.tup ps, false) e1 else .bad
  | .ix a i, env => (dO C a env).bind fun x e1 => (dO C i e1).bind fun y e2 => match x.rd e2, y.rd e2 with
    | some p, some q => optE (ixF p q) e2
    | _, _ => .bad
  | .sl a lo hi, env => (dO C a env).bind fun x e1 => (dP C lo e1).bind fun l e2 => (dP C hi e2).bind fun h e3 => match x.rd e3 with
    | some p => opt (slF p l h) e3
    | none => .bad
  | .rev a, env => (dO C a env).bind fun x e1 => match x.rd e1 with
    | some p => opt (revF p) e1
    | none => .bad
  | .isi a ts, env => (dO C a env).bind fun x e1 => match x.rd e1 with
    | some p => optE ((isiF p ts).map .bl) e1
    | none => .bad
  | .cb f xs, env => (dL C xs env).bind fun as e1 => match rdAll e1 as with
    | some ps => opt (bF f ps) e1
    | none => .bad
  | .rg tup a, env => (dO C a env).bind fun x e1 => match x.rd e1 with
    | some p => (opt (wkRg1 [p]) e1).bind fun ys e2 => if tup then .ok (.tup ys, false) e2 else .ok (.lst ys, true) e2
    | none => .bad
  | .mt m o xs, env => (dO C o env).bind fun x e1 => (dL C xs e1).bind fun as e2 => match x.rd e2, rdAll e2 as with
    | some p, some ps => opt (mF m p ps) e2
    | _, _ => .bad
  | .pop i xs, env => match rdSl i env with
    | some (.lst _) => (dL C xs env).bind fun as e1 => match rdAll e1 as with
      | some ps => (opt (chgR i e1 fun p => match p with
        | .lst l => (popF l ps).map fun r => (r.1, .lst r.2)
        | _ => none) e1).bind fun r _ => .ok (r.1, false) r.2
      | none => .bad
    | _ => .bad
  | .call f xs kx sg, env => ((dL C xs env).bind fun as e1 => (dL C kx e1).bind fun bs e2 => .ok (as ++ bs) e2).bind fun as e1 => callD C f sg as e1
  | .lc elt tg w xs ifs own, env => ((dL C xs env).bind fun as e1 => wkX w as e1).bind fun ys e1 => if wipeOk e1 own then
      (lcLoop false (fun e => (dE C elt e).bind fun x e' => .ok x.1 e') (asgTg tg) (dTO C ifs) own ys [] (wipeE e1 own)).bind fun acc e2 => .ok (.lst acc, true) (unwipe e1 e2 own)
    else .bad
  | .lc2 elt tg w xs ifs tg1 w1 xs1 ifs1 own own1, env => ((dL C xs env).bind fun as e1 => wkX w as e1).bind fun ys e1 => if wipeOk e1 own then
      (lc2Loop (fun acc e => ((dL C xs1 e).bind fun as e1' => wkX w1 as e1').bind fun ys' e1' =>
          if wipeOk e1' own1 then lcLoop true (fun e => (dE C elt e).bind fun x e' => .ok x.1 e') (asgTg tg1) (dTO C ifs1) own1 ys' acc (wipeE e1' own1) else .bad) (asgTg tg) (dTO C ifs) own ys [] (wipeE e1 own)).bind fun acc e2 => .ok (.lst acc, true) (unwipe e1 e2 own)
    else .bad
def dO (C : Cn) : O → En → Res Ag
  | .v e, env => (dE C e env).bind fun x e1 => .ok (.v x.1) e1
  | .b i, env => match rdSl i env with
    | some _ => .ok (.s i) env
    | none => .bad
  | .t e, env => (dE C e env).bind fun x e1 => if x.2 then .ok (.t x.1) e1 else .bad
def dL (C : Cn) : OL → En → Res (List Ag)
  | .nil, env => .ok [] env
  | .cons o r, env => (dO C o env).bind fun x e1 => (dL C r e1).bind fun xs e2 => .ok (x :: xs) e2
def dP (C : Cn) : PO → En → Res (Option Int)
  | .none, env => .ok none env
  | .some e, env => (dE C e env).bind fun x e1 => match x.1 with
    | .int i => .ok (some i) e1
    | _ => .bad
def dD (C : Cn) : DL → En → Res (List PV)
  | .nil, env => .ok [] env
  | .one e r, env => (dE C e env).bind fun x e1 => (dD C r e1).bind fun xs e2 => .ok (x.1 :: xs) e2
  | .star e r, env => (dO C e env).bind fun x e1 => match x.rd e1 with
    | some p => match itemsOf p with
      | some ys => (dD C r e1).bind fun xs e2 => .ok (ys ++ xs) e2
      | none => .bad
    | none => .bad
def dT (C : Cn) : T → En → Res Bool
  | .cmp op a b, env => (dO C a env).bind fun x e1 => (dO C b e1).bind fun y e2 => match x.rd e2, y.rd e2 with
    | some p, some q => opt (cmpF op p q) e2
    | _, _ => .bad
  | .chn op op' a b c, env => (dO C a env).bind fun x e1 => (dO C b e1).bind fun y e2 => match x.rd e2, y.rd e2 with
    | some p, some q => (opt (cmpF op p q) e2).bind fun k e3 => if k then (dO C c e3).bind fun z e4 => match y.rd e4, z.rd e4 with
        | some q', some r => opt (cmpF op' q' r) e4
        | _, _ => .bad
      else .ok false e3
    | _, _ => .bad
  | .and a b, env => (dT C a env).bind fun k e1 => if k then dT C b e1 else .ok false e1
  | .or a b, env => (dT C a env).bind fun k e1 => if k then .ok true e1 else dT C b e1
  | .not t, env => (dT C t env).bind fun b e1 => .ok (!b) e1
  | .pl e, env => (dO C e env).bind fun x e1 => match x.rd e1 with
    | some p => opt (tru p) e1
    | none => .bad
def dTO (C : Cn) : TO → En → Res Bool
  | .none, env => .ok true env
  | .some t, env => dT C t env
end

inductive Fw where
  | nx | ct | bk | rt (p : PV) (fr : Bool)
def forLoop (asg : PV → En → Option En) (body : En → Res Fw) : List PV → En → Res Fw
  | [], env => .ok .nx env
  | p :: ps, env => (opt (asg p env) env).bind fun env1 _ => (body env1).bind fun w env2 => match w with
    | .nx => forLoop asg body ps env2
    | .ct => forLoop asg body ps env2
    | .bk => .ok .nx env2
    | .rt p fr => .ok (.rt p fr) env2
def whlLoop (tst : En → Res Bool) (body : En → Res Fw) : Nat → En → Res Fw
  | 0, _ => .bad
  | n + 1, env => (tst env).bind fun b env1 => if b then (body env1).bind fun w env2 => match w with
      | .nx => whlLoop tst body n env2
      | .ct => whlLoop tst body n env2
      | .bk => .ok .nx env2
      | .rt p fr => .ok (.rt p fr) env2
    else .ok .nx env1
def wFuel : Nat := 10000000000000000000000
def asgPar : List Nat → List Ag → En → Option En
  | [], [], env => some env
  | i :: is, .v p :: ps, env => (asgSl i p false env).bind fun env' => asgPar is ps env'
  | i :: is, .t p :: ps, env => (asgSl i p true env).bind fun env' => asgPar is ps env'
  | _, _, _ => none
def putK {κ : Type} [DecidableEq κ] (kvs : List (κ × PV)) (k : κ) (x : PV) : List (κ × PV) :=
  if (kvs.any fun kv => decide (kv.1 = k)) = true then kvs.map (fun kv => if kv.1 = k then (kv.1, x) else kv) else kvs ++ [(k, x)]
def setF (p k x : PV) : Option PV :=
  match p, k with
  | .lst xs, .int i => (L2.ixN xs.length i).map fun j => .lst (xs.set j x)
  | .dk kvs, k => (keyOf k).bind fun k => if szl (kvs.length + 1) then some (.dk (putK kvs k x)) else none
  | .dt kvs, .tup ks => (keysOf ks).bind fun k => if szl (kvs.length + 1) then some (.dt (putK kvs k x)) else none
  | _, _ => none
def augF (op : Operator) (a b : Int) : Option Int :=
  match op with
  | .Add => some (a + b)
  | .Sub => some (a - b)
  | .Mult => if mulOk a b then some (a * b) else none
  | _ => none
def appF (p x : PV) : Option PV :=
  match p with
  | .lst xs => if decide (xs.length < sizeLine) then some (.lst (xs ++ [x])) else none
  | _ => none
def extF (p x : PV) : Option PV :=
  match p, x with
  | .lst xs, .lst ys => if szl (xs.length + ys.length) then some (.lst (xs ++ ys)) else none
  | _, _ => none
def isLst : Option PV → Bool
  | some (.lst _) => true
  | _ => false
mutual
def dS (C : Cn) : S → En → Res Fw
  | .pass, env => .ok .nx env
  | .ret e, env => (dE C e env).bind fun x e1 => .ok (.rt x.1 x.2) e1
  | .retN, env => .ok (.rt .non false) env
  | .never, _ => .bad
  | .cont, env => .ok .ct env
  | .brk, env => .ok .bk env
  | .asg i e, env => (dE C e env).bind fun x e1 => (opt (asgSl i x.1 x.2 e1) e1).bind fun e2 _ => .ok .nx e2
  | .par is xs, env => (dL C xs env).bind fun ps e1 => (opt (asgPar is ps e1) e1).bind fun e2 _ => .ok .nx e2
  | .tpa is e, env => (dO C e env).bind fun x e1 => match x.rdW e1 with
    | some p => (opt ((itemsOf p).bind fun ps => asgAll is ps e1) e1).bind fun e2 _ => .ok .nx e2
    | none => .bad
  | .put i k e, env => (dE C e env).bind fun x e1 => match rdSl i e1 with
    | some _ => (dO C k e1).bind fun y e2 => match y.rd e2 with
      | some q => (opt (chg i e2 fun p => setF p q x.1) e2).bind fun e3 _ => .ok .nx e3
      | none => .bad
    | none => .bad
  | .aug op i e, env => match rdSl i env with
    | some (.int a) => (dO C e env).bind fun y e1 => match y.rd e1 with
      | some (.int b) => (opt (augF op a b) e1).bind fun z e2 => (opt (asgSl i (.int z) false e2) e2).bind fun e3 _ => .ok .nx e3
      | _ => .bad
    | _ => .bad
  | .app i e, env => if isLst (rdSl i env) then (dE C e env).bind fun x e1 => (opt (chg i e1 fun p => appF p x.1) e1).bind fun e2 _ => .ok .nx e2 else .bad
  | .ext i e, env => if isLst (rdSl i env) then (dO C e env).bind fun y e1 => match y.rd e1 with
      | some x => (opt (chg i e1 fun p => extF p x) e1).bind fun e2 _ => .ok .nx e2
      | none => .bad
    else .bad
  | .ex e, env => (dE C e env).bind fun _ e1 => .ok .nx e1
  | .iff t a b, env => (dT C t env).bind fun k e1 => if k then dSL C a e1 else dSL C b e1
  | .for tg w xs body, env => ((dL C xs env).bind fun as e1 => wkX w as e1).bind fun ys e1 => forLoop (asgTg tg) (dSL C body) ys e1
  | .whl t body, env => whlLoop (dT C t) (dSL C body) wFuel env
def dSL (C : Cn) : SL → En → Res Fw
  | .nil, env => .ok .nx env
  | .cons s r, env => (dS C s env).bind fun w e1 => match w with
    | .nx => dSL C r e1
    | w => .ok w e1
end

/-- the env at a def's entry -/
def entry : List Bool → List PV → Option En
  | [], [] => some []
  | io :: f, p :: ps => (entry f ps).map fun e => some (p, if io then .io else .fz) :: e
  | _, _ => none
/-- the in-out parameters at the end -/
def exitIo : List Bool → En → Option (List PV)
  | [], _ => some []
  | true :: f, some (p, .io) :: e => (exitIo f e).map (p :: ·)
  | false :: f, _ :: e => exitIo f e
  | _, _ => none
def runFn (C : Cn) (f : Fn) (ps : List PV) : FRes :=
  match entry f.ios ps with
  | none => .bad
  | some e0 => match dSL C f.body (e0 ++ List.replicate (f.n - e0.length) none) with
    | .ok .nx e => match exitIo f.ios e with
      | some ios => .ok .non false ios
      | none => .bad
    | .ok (.rt p fr) e => match exitIo f.ios e with
      | some ios => .ok p fr ios
      | none => .bad
    | _ => .bad
/-- a program's defs and constants -/
structure Pg where
  fn : Nat → Option Fn
  con : Nat → Option Lt
def Pg.io (P : Pg) (f : Nat) : List Bool := match P.fn f with
  | some d => d.ios
  | none => []
/-- a call, so many calls deep -/
def Pg.call (P : Pg) : Nat → Call
  | 0 => fun _ _ => .bad
  | d + 1 => fun f ps => match P.fn f with
    | some g => runFn ⟨P.io, P.call d, P.con⟩ g ps
    | none => .bad
end Dk

set_option Elab.async false
set_option linter.all false
set_option autoImplicit false
set_option maxRecDepth 100000
/-! Dk3: the primitives keep what the interpreter says. -/
namespace Dk
open PySem PySem.Spec PyProof.Rows L2

/-- p may be read at v -/
def Rb (A : AS) (H : Hp) (p : PV) (v : V) : Prop := Rp A H p v ∨ ∃ a, v = .ref a ∧ Own A H p a
theorem Rb.lst {A : AS} {H : Hp} {xs : List PV} {v : V} (h : Rb A H (.lst xs) v) : ∃ a vs, v = .ref a ∧ Rd H a (.lst vs) ∧ vs.length ≤ sizeLine ∧ RpL A H xs vs := by
  rcases h with h | ⟨a, rfl, vs, e, z, r⟩
  · cases h with | lst n r z q => exact ⟨_, _, rfl, .inl r, z, q⟩
  · exact ⟨a, vs, rfl, .inl e, z, r⟩
theorem Rb.lstM {A : AS} {H : Hp} {xs : List PV} {v : V} (h : Rb A H (.lst xs) v) : ∃ a vs, v = .ref a ∧ H a = some (.lst vs) ∧ vs.length ≤ sizeLine ∧ RpL A H xs vs := by
  rcases h with h | ⟨a, rfl, vs, e, z, r⟩
  · cases h with | lst n r z q => exact ⟨_, _, rfl, r, z, q⟩
  · exact ⟨a, vs, rfl, e, z, r⟩
theorem Rb.tup {A : AS} {H : Hp} {xs : List PV} {v : V} (h : Rb A H (.tup xs) v) : ∃ a vs, v = .ref a ∧ H a = some (.tup vs) ∧ vs.length ≤ sizeLine ∧ RpL A H xs vs := by
  rcases h with h | ⟨a, rfl, h⟩
  · cases h with | tup r z q => exact ⟨_, _, rfl, r, z, q⟩
  · exact (show False from h).elim
theorem Rb.dk {A : AS} {H : Hp} {kvs : List (Ky × PV)} {v : V} (h : Rb A H (.dk kvs) v) : ∃ a es, v = .ref a ∧ Rd H a (.dK es) ∧ es.length ≤ sizeLine ∧ RpK A H kvs es := by
  rcases h with h | ⟨a, rfl, vs, e, z, r⟩
  · cases h with | dk n r z q => exact ⟨_, _, rfl, r, z, q⟩
  · exact ⟨a, vs, rfl, .inl e, z, r⟩
theorem Rb.dt {A : AS} {H : Hp} {kvs : List (List Ky × PV)} {v : V} (h : Rb A H (.dt kvs) v) : ∃ a es, v = .ref a ∧ Rd H a (.dT es) ∧ es.length ≤ sizeLine ∧ RpT A H kvs es := by
  rcases h with h | ⟨a, rfl, vs, e, z, r⟩
  · cases h with | dt n r z q => exact ⟨_, _, rfl, r, z, q⟩
  · exact ⟨a, vs, rfl, .inl e, z, r⟩
theorem Rb.int {A : AS} {H : Hp} {i : Int} {v : V} (h : Rb A H (.int i) v) : v = .int i := by
  rcases h with h | ⟨a, rfl, h⟩
  · cases h; rfl
  · exact (show False from h).elim
theorem Rb.bl {A : AS} {H : Hp} {i : Bool} {v : V} (h : Rb A H (.bl i) v) : v = .bl i := by
  rcases h with h | ⟨a, rfl, h⟩
  · cases h; rfl
  · exact (show False from h).elim
theorem Rb.non {A : AS} {H : Hp} {v : V} (h : Rb A H .non v) : v = .non := by
  rcases h with h | ⟨a, rfl, h⟩
  · cases h; rfl
  · exact (show False from h).elim
theorem Rb.str {A : AS} {H : Hp} {s : List Nat} {v : V} (h : Rb A H (.str s) v) : v = .str (mkS s) ∧ okS s := by
  rcases h with h | ⟨a, rfl, h⟩
  · cases h with | str _ k => exact ⟨rfl, k⟩
  · exact (show False from h).elim

/-- a value that an operation hands back: nothing that was is changed -/
structure NV (A : AS) (H : Hp) (p : PV) (fr : Bool) (v : V) (H' : Hp) : Prop where
  stp : Stp (fun _ => False) H H'
  val : if fr = true then ∃ a, v = .ref a ∧ H a = none ∧ Own (fun b => A b ∨ b = a) H' p a else Rp A H' p v
theorem NV.old {A : AS} {H : Hp} {p : PV} {v : V} (h : Rp A H p v) : NV A H p false v H := ⟨Stp.refl, by rw [if_neg (by decide)]; exact h⟩
theorem RpL.new {A : AS} {H : Hp} {xs : List PV} {vs : List V} {p : Addr} {o : HO} (r : RpL A H xs vs) (h : H p = none) : RpL (fun b => A b ∨ b = p) (upd H p o) xs vs :=
  RpL.stp (O := fun _ => False) (Stp.new h) (fun _ z => z.elim) (fun a z => z.imp id fun e => by subst e; exact h) _ _ r
theorem RpL.new' {A : AS} {H : Hp} {xs : List PV} {vs : List V} {p : Addr} {o : HO} (r : RpL A H xs vs) (h : H p = none) : RpL A (upd H p o) xs vs :=
  RpL.stp (O := fun _ => False) (Stp.new h) (fun _ z => z.elim) (fun a z => .inl z) _ _ r
theorem NV.lst {A : AS} {H : Hp} {xs : List PV} {vs : List V} {p : Addr} (r : RpL A H xs vs) (h : H p = none) (z : vs.length ≤ sizeLine) : NV A H (.lst xs) true (.ref p) (upd H p (.lst vs)) :=
  ⟨Stp.new h, by rw [if_pos rfl]; exact ⟨p, rfl, h, vs, upd_same, z, r.new h⟩⟩
theorem NV.tup {A : AS} {H : Hp} {xs : List PV} {vs : List V} {p : Addr} (r : RpL A H xs vs) (h : H p = none) (z : vs.length ≤ sizeLine) : NV A H (.tup xs) false (.ref p) (upd H p (.tup vs)) :=
  ⟨Stp.new h, by rw [if_neg (by decide)]; exact .tup upd_same z (r.new' h)⟩

/-! ### data -/
mutual
def py : PV → PyData
  | .non => .none
  | .bl b => .bool b
  | .int i => .int i
  | .str s => .str (mkS s)
  | .lst xs => .list (pyL xs)
  | .tup xs => .tuple (pyL xs)
  | .dk _ => .none
  | .dt _ => .none
def pyL : List PV → List PyData
  | [] => []
  | x :: xs => py x :: pyL xs
end
mutual
theorem Rp.dp {A : AS} {H : Hp} (K : PySem.W.Frag) : ∀ (p : PV) (v : V), Rp A H p v → nod p = true → L2.Dp K H v (py p)
  | .non, _, h, _ => by cases h; exact .non
  | .bl b, _, h, _ => by cases h; exact .bl b
  | .int i, _, h, _ => by cases h; exact .int i
  | .str s, _, h, _ => by cases h; exact .str _
  | .lst xs, _, h, n => by
    cases h with
    | lst _ r z q => exact .lst (.inl (.inl r)) (RpL.dp K xs _ q n)
  | .tup xs, _, h, n => by
    cases h with
    | tup r z q => exact .tup (.inl (.inl r)) (RpL.dp K xs _ q n)
  | .dk _, _, _, n => by cases n
  | .dt _, _, _, n => by cases n
theorem RpL.dp {A : AS} {H : Hp} (K : PySem.W.Frag) : ∀ (ps : List PV) (vs : List V), RpL A H ps vs → nodL ps = true → L2.DpAll K H vs (pyL ps)
  | [], _, h, _ => by cases h; exact .nil
  | p :: ps, _, h, n => by
    cases h with
    | cons a b =>
      have n' : (nod p && nodL ps) = true := n
      rw [Bool.and_eq_true] at n'
      exact .cons (Rp.dp K p _ a n'.1) (RpL.dp K ps _ b n'.2)
end
theorem mkS_inj {x y : List Nat} (h : mkS x = mkS y) : x = y := by
  have e : x.toArray = y.toArray := congrArg Str.cps h
  simpa using e
theorem mkS_beq (x y : List Nat) : (mkS x == mkS y) = (x == y) := by
  rw [Bool.eq_iff_iff, beq_iff_eq, beq_iff_eq]
  exact ⟨mkS_inj, fun e => by rw [e]⟩
mutual
theorem py_eqv : ∀ (p q : PV), nod p = true → nod q = true → PyData.eqv (py p) (py q) = eqv p q
  | .non, q, _, h => by cases q <;> first | rfl | cases h
  | .bl a, q, _, h => by cases q <;> first | rfl | cases h
  | .int a, q, _, h => by cases q <;> first | rfl | cases h
  | .str a, q, _, h => by
    cases q <;> first | rfl | cases h | skip
    exact mkS_beq _ _
  | .lst xs, q, n, h => by
    cases q <;> first | rfl | cases h | skip
    exact pyL_eqv xs _ n h
  | .tup xs, q, n, h => by
    cases q <;> first | rfl | cases h | skip
    exact pyL_eqv xs _ n h
  | .dk _, _, n, _ => by cases n
  | .dt _, _, n, _ => by cases n
theorem pyL_eqv : ∀ (p q : List PV), nodL p = true → nodL q = true → PyData.eqvAll (pyL p) (pyL q) = eqvL p q
  | [], [], _, _ => rfl
  | [], _ :: _, _, _ => rfl
  | _ :: _, [], _, _ => rfl
  | x :: xs, y :: ys, n, m => by
    have n' : (nod x && nodL xs) = true := n
    have m' : (nod y && nodL ys) = true := m
    rw [Bool.and_eq_true] at n' m'
    show (PyData.eqv (py x) (py y) && PyData.eqvAll (pyL xs) (pyL ys)) = (eqv x y && eqvL xs ys)
    rw [py_eqv x y n'.1 m'.1, pyL_eqv xs ys n'.2 m'.2]
end
mutual
theorem py_depth : ∀ p : PV, (py p).depth ≤ dep p
  | .non => Nat.le_refl _
  | .bl _ => Nat.le_refl _
  | .int _ => Nat.le_refl _
  | .str _ => Nat.le_refl _
  | .lst xs => Nat.succ_le_succ (pyL_depth xs)
  | .tup xs => Nat.succ_le_succ (pyL_depth xs)
  | .dk _ => Nat.le_refl _
  | .dt _ => Nat.le_refl _
theorem pyL_depth : ∀ p : List PV, PyData.depthAll (pyL p) ≤ depL p
  | [] => Nat.le_refl _
  | x :: xs => by
    have h1 := py_depth x
    have h2 := pyL_depth xs
    show max (py x).depth (PyData.depthAll (pyL xs)) ≤ max (dep x) (depL xs)
    omega
end
theorem okS.lay {s : List Nat} (h : okS s) : PyData.strOk (mkS s) = true := by
  unfold PyData.strOk mkS
  simp only [List.all_toArray, List.all_eq_true, decide_eq_true_eq]
  exact h.2
mutual
theorem Rp.lay {A : AS} {H : Hp} : ∀ (p : PV) (v : V), Rp A H p v → nod p = true → (py p).canLay0 = true
  | .non, _, _, _ => rfl
  | .bl _, _, _, _ => rfl
  | .int _, _, _, _ => rfl
  | .str s, _, h, _ => by cases h with | str _ k => exact k.lay
  | .lst xs, _, h, n => by
    cases h with
    | lst _ r z q => exact RpL.lay xs _ q n
  | .tup xs, _, h, n => by
    cases h with
    | tup r z q => exact RpL.lay xs _ q n
  | .dk _, _, _, n => by cases n
  | .dt _, _, _, n => by cases n
theorem RpL.lay {A : AS} {H : Hp} : ∀ (ps : List PV) (vs : List V), RpL A H ps vs → nodL ps = true → PyData.canLayAll0 (pyL ps) = true
  | [], _, _, _ => rfl
  | p :: ps, _, h, n => by
    cases h with
    | cons a b =>
      have n' : (nod p && nodL ps) = true := n
      rw [Bool.and_eq_true] at n'
      show ((py p).canLay0 && PyData.canLayAll0 (pyL ps)) = true
      rw [Rp.lay p _ a n'.1, RpL.lay ps _ b n'.2]
      rfl
end
/-- what is read, as the library's data -/
theorem Rb.dp {A : AS} {H : Hp} {p : PV} {v : V} (K : PySem.W.Frag) (h : Rb A H p v) (c : cod p = true) : L2.Dp K H v (py p) ∧ SeqAt.shaped (py p) = true := by
  have c' : (nod p && decide (dep p ≤ 60)) = true := c
  rw [Bool.and_eq_true, decide_eq_true_eq] at c'
  have hd : (py p).depth ≤ 64 := Nat.le_trans (py_depth p) (by omega)
  have sh : (py p).canLay0 = true → SeqAt.shaped (py p) = true := fun e => by
    unfold SeqAt.shaped
    rw [e, decide_eq_true hd]
    rfl
  rcases h with h | ⟨a, rfl, h⟩
  · exact ⟨Rp.dp K p v h c'.1, sh (Rp.lay p v h c'.1)⟩
  · cases p with
    | lst xs =>
      obtain ⟨vs, e, z, r⟩ := h
      exact ⟨.lst (.inl (.inl e)) (RpL.dp K xs _ r c'.1), sh (RpL.lay xs _ r c'.1)⟩
    | dk _ => exact absurd c'.1 (by simp [nod])
    | dt _ => exact absurd c'.1 (by simp [nod])
    | _ => exact (show False from h).elim
theorem any_py {d : PV} (hd : nod d = true) : ∀ {xs : List PV}, nodL xs = true → ((pyL xs).any fun z => PyData.eqv z (py d)) = anyEq d xs
  | [], _ => rfl
  | x :: xs, n => by
    have n' : (nod x && nodL xs) = true := n
    rw [Bool.and_eq_true] at n'
    show (PyData.eqv (py x) (py d) || (pyL xs).any fun z => PyData.eqv z (py d)) = (eqv x d || anyEq d xs)
    rw [py_eqv x d n'.1 hd, any_py hd n'.2]
end Dk

set_option Elab.async false
set_option linter.all false
set_option autoImplicit false
set_option maxRecDepth 100000
/-! Dk4: operators, comparisons, subscripts. -/
namespace Dk
open PySem PySem.Spec PyProof.Rows L2

def rBin (g : PV → PV → Option PB) : R2 := fun x y H Q => ∃ A p q r fr, Rb A H p x ∧ Rb A H q y ∧ g p q = some (r, fr) ∧ ∀ v H', NV A H r fr v H' → Q v H'
def rCmp (g : PV → PV → Option Bool) : R2 := fun x y H Q => ∃ A p q b, Rb A H p x ∧ Rb A H q y ∧ g p q = some b ∧ Q (.bl b) H
theorem szl_le {n : Nat} (h : szl n = true) : n ≤ sizeLine := of_decide_eq_true h
theorem okS.app {x y : List Nat} (a : okS x) (b : okS y) (h : x.length + y.length ≤ sizeLine) : okS (x ++ y) :=
  ⟨by rw [List.length_append]; exact h, fun c hc => (List.mem_append.mp hc).elim (a.2 c) (b.2 c)⟩
theorem mkS_app (x y : List Nat) : mkS x ++ mkS y = mkS (x ++ y) := by
  show (⟨x.toArray ++ y.toArray⟩ : Str) = ⟨(x ++ y).toArray⟩
  simp
theorem mkS_len (x : List Nat) : (mkS x).length = x.length := by
  show x.toArray.size = x.length
  simp
theorem mkS_list (x : List Nat) : (mkS x).cps.toList = x := by
  show x.toArray.toList = x
  simp
theorem sqL {K : PySem.W.Frag} {H : Hp} {a : Addr} {vs : List V} (h : Rd H a (.lst vs)) : SqL K H a vs := .inl h
theorem sqT {K : PySem.W.Frag} {H : Hp} {a : Addr} {vs : List V} (h : H a = some (.tup vs)) : SqT K H a vs := .inl (.inl h)
theorem RpL.nil_iff {A : AS} {H : Hp} {xs : List PV} {vs : List V} (r : RpL A H xs vs) : vs = [] ↔ xs = [] := by
  cases r <;> simp
theorem rep_le {k : Int} {n : Nat} (h : k ≤ 1000) (h2 : n ≤ 1000) : k.toNat * n ≤ sizeLine := by
  have h3 : k.toNat * n ≤ 1000 * 1000 := Nat.mul_le_mul (by omega) h2
  rw [sizeLine_eq]
  omega
section
variable {X : Cx}
/-- two lists that are read, glued -/
theorem op_catL : OpR X (binaryOp .Add) (fun x y H Q => ∃ l b xs zs, x = .ref l ∧ y = .ref b ∧ Rd H l (.lst xs) ∧ Rd H b (.lst zs) ∧ xs.length + zs.length ≤ sizeLine ∧ ∀ p, H p = none → Q (.ref p) (upd H p (.lst (xs ++ zs)))) := by
  intro pins s σ H x y v u Q I rx ry h
  obtain ⟨l, b, xs, zs, rfl, rfl, hH, hB, hz, q⟩ := h
  cases rx; cases ry
  obtain ⟨z, its, n, r, e⟩ := hH.ok I.hok
  obtain ⟨z2, its2, n2, r2, e2⟩ := hB.ok I.hok
  have h1 := r.length
  have h2 := r2.length
  refine PySem.P.add_list e e2 ?_ (by rw [List.size_toArray, List.size_toArray]; omega)
  rw [show its.toArray ++ its2.toArray = (its ++ its2).toArray by simp]
  exact ⟨.ref _, _, I.lnew (t' := s.toks) (r.append r2) (by rw [List.length_append]; omega), rfl, q _ I.fresh⟩
/-- a list that is read, so many times -/
theorem op_repL : OpR X (binaryOp .Mult) (fun x y H Q => ∃ l k xs, x = .ref l ∧ y = .int k ∧ Rd H l (.lst xs) ∧ (-(2 ^ 63) ≤ k ∧ k ≤ 1000) ∧ xs.length ≤ 1000 ∧
    ∀ p, H p = none → Q (.ref p) (upd H p (.lst (List.replicate k.toNat xs).flatten))) := by
  intro pins s σ H x y v u Q I rx ry h
  obtain ⟨l, k, xs, rfl, rfl, hH, ⟨hk0, hk⟩, hx, q⟩ := h
  have hfit := fitsIndex_both hk0 (show k < 2 ^ 63 by omega)
  cases rx
  obtain ⟨t, rfl⟩ := ry
  obtain ⟨z, its, n, r, e⟩ := hH.ok I.hok
  have hl := r.length
  have hn : its.length * k.toNat ≤ sizeLine := by
    have := rep_le (k := k) (n := its.length) hk (by omega)
    rw [Nat.mul_comm] at this
    exact this
  have e1 : ¬ (!Builtin.List.listFitsIndex k) = true := by
    rw [hfit]
    decide
  have e2 : ¬ its.toArray.size * k.toNat > (2 ^ 63 - 1) / 8 := by
    rw [List.size_toArray]
    rw [sizeLine_eq] at hn
    omega
  have e3 : ¬ Builtin.List.listTooLong (its.toArray.size * k.toNat) = true := by
    rw [notLongL (by rw [List.size_toArray]; exact hn)]
    decide
  have e4 : List.foldl (fun x1 x2 => x1 ++ x2) #[] (List.replicate (if its.toArray.isEmpty = true then 0 else k.toNat) its.toArray) = (List.replicate k.toNat its).flatten.toArray := by
    rw [L2.size_rep]
    cases its with
    | nil => simp
    | cons a r' => rw [if_neg (by simp)]
  refine wpAny_binaryOp_repeat_ref (T := "list") (U := "int") (by decide) ⟨_, e, rfl⟩ (fun s' => typeIs_int s' k t) noFill_list_mul PySem.F.fills_int_mul PySem.F.slot_int_rmul repeat_list PySem.F.slot_int_index.lookup ?_
  refine call_meets PySem.F.slot_int_rmul (typeIs_int s k t) PySem.F.entry_int_rmul (PySem.F.args_int_rmul_2 _ _) (int___rmul___int_list k t l its.toArray n) ⟨e, rfl, ⟨_, e, rfl⟩, ?_⟩
  refine call_meets PySem.F.slot_list_mul ⟨_, e, rfl⟩ PySem.F.entry_list_mul (PySem.F.args_list_mul_2 _ _) (AutoListH.list___mul___list_int_3 l its.toArray n k t e1 e2 e3) ⟨e, ?_⟩
  rw [e4]
  exact ⟨.ref _, _, I.lnew (t' := s.toks) (r.rep k.toNat) (by rw [PyProof.Rows.lm_len_rep_flat, Nat.mul_comm, hl]; exact hn), rfl, q _ I.fresh⟩

theorem add_ok : OpR X (binaryOp .Add) (rBin addF) := by
  intro pins s σ H x y v u Q I rx ry h
  obtain ⟨A, p, q, r, fr, hx, hy, e, k⟩ := h
  unfold addF at e
  split at e
  · cases e
    rw [hx.int] at rx; rw [hy.int] at ry
    exact op_add pins s σ H _ _ v u Q I rx ry ⟨_, _, rfl, rfl, k _ _ (.old (.int _))⟩
  · split at e
    · cases e
      rename_i hz
      obtain ⟨e1, o1⟩ := hx.str
      obtain ⟨e2, o2⟩ := hy.str
      rw [e1] at rx; rw [e2] at ry
      refine op_add_str pins s σ H _ _ v u Q I rx ry ⟨_, _, rfl, rfl, ?_, ?_⟩
      · rw [mkS_len, mkS_len]; exact szl_le hz
      · rw [mkS_app]; exact k _ _ (.old (.str _ (o1.app o2 (szl_le hz))))
    · cases e
  · split at e
    · cases e
      rename_i hz
      obtain ⟨a1, v1, rfl, d1, z1, r1⟩ := hx.lst
      obtain ⟨a2, v2, rfl, d2, z2, r2⟩ := hy.lst
      have hz' := szl_le hz
      rw [r1.len, r2.len] at hz'
      exact op_catL pins s σ H _ _ v u Q I rx ry ⟨a1, a2, v1, v2, rfl, rfl, d1, d2, hz', fun p hp => k _ _ (.lst (r1.app r2) hp (by rw [List.length_append]; exact hz'))⟩
    · cases e
  · split at e
    · cases e
      rename_i hz
      obtain ⟨a1, v1, rfl, d1, z1, r1⟩ := hx.tup
      obtain ⟨a2, v2, rfl, d2, z2, r2⟩ := hy.tup
      have hz' := szl_le hz
      rw [r1.len, r2.len] at hz'
      refine op_catA pins s σ H _ _ v u Q I rx ry ⟨a1, a2, v1, v2, rfl, rfl, sqT d1, sqT d2, hz', fun e => ?_, fun e e' => ?_, fun e e' p hp => k _ _ (.tup (r1.app r2) hp (by rw [List.length_append]; exact hz'))⟩
      · have q := r1.nil_iff.mp e
        subst q
        exact k _ _ (.old (.tup d2 z2 r2))
      · have q := r2.nil_iff.mp e'
        subst q
        rw [List.append_nil] at k
        exact k _ _ (.old (.tup d1 z1 r1))
    · cases e
  · cases e
/-- two ints by one of the layer's rules -/
theorem int_ok {op : Operator} {C : Int → Int → Prop} {g : Int → Int → Int} (ho : OpR X (binaryOp op) (rI C fun i j => .int (g i j))) {f : Int → Int → Option Int} (hf : ∀ i j z, f i j = some z → C i j ∧ z = g i j) : OpR X (binaryOp op) (rBin (intF f)) := by
  intro pins s σ H x y v u Q I rx ry h
  obtain ⟨A, p, q, r, fr, hx, hy, e, k⟩ := h
  unfold intF at e
  split at e
  · rename_i i j
    obtain ⟨z, e1, e2⟩ := Option.map_eq_some_iff.mp e
    cases e2
    obtain ⟨c, rfl⟩ := hf i j z e1
    rw [hx.int] at rx; rw [hy.int] at ry
    exact ho pins s σ H _ _ v u Q I rx ry ⟨i, j, rfl, rfl, c, k _ _ (.old (.int _))⟩
  · cases e
theorem int_ok0 {op : Operator} {g : Int → Int → Int} (ho : OpR X (binaryOp op) (rI0 fun i j => .int (g i j))) : OpR X (binaryOp op) (rBin (intF fun i j => some (g i j))) :=
  int_ok (C := fun _ _ => True) (g := g) (fun pins s σ H x y v u Q I rx ry ⟨i, j, a, b, _, q⟩ => ho pins s σ H x y v u Q I rx ry ⟨i, j, a, b, q⟩) fun i j z e => ⟨trivial, (Option.some.inj e).symm⟩
theorem mulI : OpR X (binaryOp .Mult) (rI (fun i j => mulOk i j = true) fun i j => .int (i * j)) := by
  intro pins s σ H x y v u Q I rx ry ⟨i, j, a, b, c, q⟩
  simp only [mulOk, Bool.or_eq_true, decide_eq_true_eq] at c
  rcases c with (c | c) | c
  · exact op_mul pins s σ H x y v u Q I rx ry ⟨i, j, a, b, .inl (by omega), q⟩
  · exact op_mul pins s σ H x y v u Q I rx ry ⟨i, j, a, b, .inr (by omega), q⟩
  · exact op_mulW pins s σ H x y v u Q I rx ry ⟨i, j, a, b, c, q⟩
theorem divI : OpR X (binaryOp .FloorDiv) (rI (fun _ j => divOk j = true) fun i j => .int (i.fdiv j)) := by
  intro pins s σ H x y v u Q I rx ry ⟨i, j, a, b, c, q⟩
  simp only [divOk, Bool.or_eq_true, Bool.and_eq_true, decide_eq_true_eq] at c
  rcases c with c | c
  · exact op_fdivN pins s σ H x y v u Q I rx ry ⟨i, j, a, b, c, q⟩
  · refine op_fdivW pins s σ H x y v u Q I rx ry ⟨i, j, a, b, c, ?_⟩
    show Q (V.int (i / j)) H
    rw [← Int.fdiv_eq_ediv_of_nonneg i (by omega)]
    exact q
theorem mul_ok : OpR X (binaryOp .Mult) (rBin mulF) := by
  intro pins s σ H x y v u Q I rx ry h
  obtain ⟨A, p, q, r, fr, hx, hy, e, k⟩ := h
  unfold mulF at e
  split at e
  · split at e
    · cases e
      rename_i c
      rw [hx.int] at rx; rw [hy.int] at ry
      exact mulI pins s σ H _ _ v u Q I rx ry ⟨_, _, rfl, rfl, c, k _ _ (.old (.int _))⟩
    · cases e
  · split at e
    · cases e
      rename_i c
      unfold repOk at c
      simp only [Bool.and_eq_true, decide_eq_true_eq] at c
      obtain ⟨a1, v1, rfl, d1, z1, r1⟩ := hx.lst
      rw [hy.int] at ry
      refine op_repL pins s σ H _ _ v u Q I rx ry ⟨_, _, _, rfl, rfl, d1, ⟨c.1.1, c.1.2⟩, by rw [← r1.len]; exact c.2, fun p hp => k _ _ (.lst (r1.rep _) hp ?_)⟩
      rw [PyProof.Rows.lm_len_rep_flat, ← r1.len]
      exact rep_le c.1.2 c.2
    · cases e
  · split at e
    · cases e
      rename_i c
      unfold repOk at c
      simp only [Bool.and_eq_true, decide_eq_true_eq, Bool.not_eq_true', List.isEmpty_eq_false_iff] at c
      obtain ⟨a1, v1, rfl, d1, z1, r1⟩ := hx.tup
      rw [hy.int] at ry
      refine op_repT pins s σ H _ _ v u Q I rx ry ⟨_, _, _, rfl, rfl, sqT d1, fun z => c.2 (r1.nil_iff.mp z), c.1.2, c.1.1.1.2, by rw [← r1.len]; exact c.1.1.2, fun p hp => k _ _ (.tup (r1.rep _) hp ?_)⟩
      rw [PyProof.Rows.lm_len_rep_flat, ← r1.len]
      exact rep_le c.1.1.1.2 c.1.1.2
    · cases e
  · cases e
theorem powI_of {i j : Int} (c : powOk i j = true) : CPow i j := by
  unfold powOk at c
  simp only [Bool.and_eq_true, decide_eq_true_eq] at c
  exact ⟨c.1.1, c.1.2, c.2⟩
theorem bin_ok (op : Operator) : OpR X (binaryOp op) (rBin (binF op)) := by
  cases op
  case Add => exact add_ok
  case Sub => exact int_ok0 op_sub
  case Mult => exact mul_ok
  case Mod =>
    refine int_ok op_modN fun i j z e => ?_
    split at e
    · cases e
    · exact ⟨by assumption, (Option.some.inj e).symm⟩
  case FloorDiv =>
    refine int_ok divI fun i j z e => ?_
    split at e
    · exact ⟨by assumption, (Option.some.inj e).symm⟩
    · cases e
  case Pow =>
    refine int_ok op_pow fun i j z e => ?_
    split at e
    · exact ⟨powI_of (by assumption), (Option.some.inj e).symm⟩
    · cases e
  case LShift =>
    refine int_ok op_shl fun i j z e => ?_
    split at e
    · exact ⟨powI_of (by assumption), (Option.some.inj e).symm⟩
    · cases e
  case RShift =>
    refine int_ok op_shr fun i j z e => ?_
    split at e
    · exact ⟨by assumption, (Option.some.inj e).symm⟩
    · cases e
  case BitAnd => exact int_ok0 op_and
  all_goals exact fun pins s σ H x y v u Q I rx ry ⟨A, p, q, r, fr, hx, hy, e, k⟩ => by cases e

/-! ### comparisons -/
theorem OpR.imp {f : Value → Value → Sem Value} {r r' : R2} (h : OpR X f r) (m : ∀ x y H Q, r' x y H Q → r x y H Q) : OpR X f r' :=
  fun pins s σ H x y v u Q I rx ry q => h pins s σ H x y v u Q I rx ry (m _ _ _ _ q)
theorem eq_ok (hu : X.A.units + 100 < cLine) : OpR X (compareOp .Eq) (rCmp eqF) := by
  refine OpR.imp (op_eqD (by omega)) fun x y H Q ⟨A, p, q, b, hx, hy, e, k⟩ => ?_
  unfold eqF at e
  split at e
  · rename_i c
    rw [Bool.and_eq_true] at c
    cases e
    obtain ⟨d1, s1⟩ := hx.dp X.K c.1
    obtain ⟨d2, s2⟩ := hy.dp X.K c.2
    have n1 : nod p = true := (Bool.and_eq_true_iff.mp c.1).1
    have n2 : nod q = true := (Bool.and_eq_true_iff.mp c.2).1
    exact ⟨_, _, d1, d2, s1, s2, by rw [py_eqv p q n1 n2]; exact k⟩
  · cases e
theorem ne_ok (hu : X.A.units + 100 < cLine) : OpR X (compareOp .NotEq) (rCmp fun p q => (eqF p q).map (!·)) := by
  refine OpR.imp (op_neD (by omega)) fun x y H Q ⟨A, p, q, b, hx, hy, e, k⟩ => ?_
  obtain ⟨z, e0, rfl⟩ := Option.map_eq_some_iff.mp e
  clear e
  have e := e0
  clear e0
  unfold eqF at e
  split at e
  · rename_i c
    rw [Bool.and_eq_true] at c
    cases e
    obtain ⟨d1, s1⟩ := hx.dp X.K c.1
    obtain ⟨d2, s2⟩ := hy.dp X.K c.2
    have n1 : nod p = true := (Bool.and_eq_true_iff.mp c.1).1
    have n2 : nod q = true := (Bool.and_eq_true_iff.mp c.2).1
    exact ⟨_, _, d1, d2, s1, s2, by rw [py_eqv p q n1 n2]; exact k⟩
  · cases e
theorem lt_ok : OpR X (compareOp .Lt) (rCmp ltF) := by
  refine OpR.imp (op_lt.or op_lt_str) fun x y H Q ⟨A, p, q, b, hx, hy, e, k⟩ => ?_
  unfold ltF at e
  split at e
  · cases e
    rw [hx.int, hy.int]
    exact .inl ⟨_, _, rfl, rfl, k⟩
  · cases e
    rw [hx.str.1, hy.str.1]
    exact .inr ⟨_, _, rfl, rfl, by rw [mkS_list, mkS_list]; exact k⟩
  · cases e
theorem gt_ok : OpR X (compareOp .Gt) (rCmp fun p q => ltF q p) := by
  refine OpR.imp (op_gt.or op_gt_str) fun x y H Q ⟨A, p, q, b, hx, hy, e0, k⟩ => ?_
  have e : ltF q p = some b := e0
  clear e0
  unfold ltF at e
  split at e
  · cases e
    rw [hx.int, hy.int]
    exact .inl ⟨_, _, rfl, rfl, k⟩
  · cases e
    rw [hx.str.1, hy.str.1]
    exact .inr ⟨_, _, rfl, rfl, by rw [mkS_list, mkS_list]; exact k⟩
  · cases e
theorem notLt {i j : Int} : (!decide (j < i)) = decide (i ≤ j) := by
  by_cases h : j < i
  · rw [decide_eq_true h, decide_eq_false (by omega)]; rfl
  · rw [decide_eq_false h, decide_eq_true (by omega)]; rfl
theorem le_ok : OpR X (compareOp .LtE) (rCmp fun p q => (ltF q p).map (!·)) := by
  refine OpR.imp (op_le.or op_le_str) fun x y H Q ⟨A, p, q, b, hx, hy, e, k⟩ => ?_
  obtain ⟨z, e0, rfl⟩ := Option.map_eq_some_iff.mp e
  clear e
  have e := e0
  clear e0
  unfold ltF at e
  split at e
  · cases e
    rw [hx.int, hy.int]
    rw [notLt] at k
    exact .inl ⟨_, _, rfl, rfl, k⟩
  · cases e
    rw [hx.str.1, hy.str.1]
    exact .inr ⟨_, _, rfl, rfl, by rw [mkS_list, mkS_list]; exact k⟩
  · cases e
theorem ge_ok : OpR X (compareOp .GtE) (rCmp fun p q => (ltF p q).map (!·)) := by
  refine OpR.imp (op_ge.or op_ge_str) fun x y H Q ⟨A, p, q, b, hx, hy, e, k⟩ => ?_
  obtain ⟨z, e0, rfl⟩ := Option.map_eq_some_iff.mp e
  clear e
  have e := e0
  clear e0
  unfold ltF at e
  split at e
  · cases e
    rw [hx.int, hy.int]
    rw [notLt] at k
    exact .inl ⟨_, _, rfl, rfl, k⟩
  · cases e
    rw [hx.str.1, hy.str.1]
    exact .inr ⟨_, _, rfl, rfl, by rw [mkS_list, mkS_list]; exact k⟩
  · cases e
theorem isNon_v {A : AS} {H : Hp} {p : PV} {v : V} (h : Rb A H p v) : decide (v = .non) = isNon p := by
  rcases h with h | ⟨a, rfl, h⟩
  · cases h <;> rfl
  · cases p <;> first | rfl | exact (show False from h).elim
theorem is_ok : OpR X (compareOp .Is) (rCmp isF) := by
  refine OpR.imp (op_isN.or op_isBl) fun x y H Q ⟨A, p, q, b, hx, hy, e, k⟩ => ?_
  unfold isF at e
  split at e
  · cases e
    exact .inl ⟨hy.non, by rw [isNon_v hx]; exact k⟩
  · split at e
    · cases e
      exact .inr ⟨_, _, hx.bl, hy.bl, k⟩
    · cases e
  · cases e
theorem isnot_ok : OpR X (compareOp .IsNot) (rCmp fun p q => (isF p q).map (!·)) := by
  refine OpR.imp (op_notN.or op_notBl) fun x y H Q ⟨A, p, q, b, hx, hy, e, k⟩ => ?_
  obtain ⟨z, e0, rfl⟩ := Option.map_eq_some_iff.mp e
  clear e
  have e := e0
  clear e0
  unfold isF at e
  split at e
  · cases e
    exact .inl ⟨hy.non, by rw [isNon_v hx]; exact k⟩
  · split at e
    · cases e
      exact .inr ⟨_, _, hx.bl, hy.bl, k⟩
    · cases e
  · cases e
/-- in a tuple of data -/
theorem op_inT (hu : X.A.units + 100 < cLine) : OpR X (compareOp .In) (fun x y H Q => ∃ d ds, L2.Dp X.K H x d ∧ L2.Dp X.K H y (.tuple ds) ∧ SeqAt.shaped d = true ∧ SeqAt.shaped (.tuple ds) = true ∧ Q (.bl (ds.any fun z => PyData.eqv z d)) H) := by
  intro pins s σ H x y v u Q I rx ry ⟨d, ds, hd, he, sd, se, q⟩
  obtain ⟨as, r1⟩ := L2.Dp.reads I d x v hd rx
  obtain ⟨bs, r2⟩ := L2.Dp.reads I (.tuple ds) y u he ry
  exact SeqAt.in_tuple_reads r2 r1 (SeqAt.canLay_of_shaped se) (SeqAt.canLay_of_shaped sd) (room_in_shaped sd (by omega)) ⟨.bl _, H, I, rfl, q⟩
theorem op_notInT (hu : X.A.units + 100 < cLine) : OpR X (compareOp .NotIn) (fun x y H Q => ∃ d ds, L2.Dp X.K H x d ∧ L2.Dp X.K H y (.tuple ds) ∧ SeqAt.shaped d = true ∧ SeqAt.shaped (.tuple ds) = true ∧ Q (.bl (!ds.any fun z => PyData.eqv z d)) H) := by
  intro pins s σ H x y v u Q I rx ry ⟨d, ds, hd, he, sd, se, q⟩
  obtain ⟨as, r1⟩ := L2.Dp.reads I d x v hd rx
  obtain ⟨bs, r2⟩ := L2.Dp.reads I (.tuple ds) y u he ry
  exact SeqAt.notIn_tuple_reads r2 r1 (SeqAt.canLay_of_shaped se) (SeqAt.canLay_of_shaped sd) (room_in_shaped sd (by omega)) ⟨.bl _, H, I, rfl, q⟩
end
end Dk

set_option Elab.async false
set_option linter.all false
set_option autoImplicit false
set_option maxRecDepth 100000
set_option maxHeartbeats 1000000
/-! Dk5: in, subscripts, slices, truth, isinstance, built-in functions. -/
namespace Dk
open PySem PySem.Spec PyProof.Rows L2

theorem kyK_inj {a b : Ky} (h : kyK a = kyK b) : a = b := by
  cases a with
  | inl i => cases b with
    | inl j => exact congrArg Sum.inl (Sum.inl.inj h)
    | inr y => cases h
  | inr x => cases b with
    | inl j => cases h
    | inr y => exact congrArg Sum.inr (mkS_inj (Sum.inr.inj h))
theorem keysK_inj : ∀ {a b : List Ky}, a.map kyK = b.map kyK → a = b
  | [], [], _ => rfl
  | [], _ :: _, h => by cases h
  | _ :: _, [], h => by cases h
  | x :: xs, y :: ys, h => by
    rw [List.map_cons, List.map_cons] at h
    injection h with h1 h2
    rw [kyK_inj h1, keysK_inj h2]
theorem Rb.key {A : AS} {H : Hp} {p : PV} {v : V} {k : Ky} (h : Rb A H p v) (e : keyOf p = some k) : v = kV (kyK k) := by
  unfold keyOf at e
  split at e
  · cases e; rw [h.int]; rfl
  · cases e; rw [h.str.1]; rfl
  · cases e
theorem RpL.keys {A : AS} {H : Hp} : ∀ {ps : List PV} {vs : List V} {ks : List Ky}, RpL A H ps vs → keysOf ps = some ks → vs = (ks.map kyK).map kV
  | [], _, _, h, e => by
    cases h
    cases e; rfl
  | p :: ps, _, _, h, e => by
    cases h with
    | cons a b =>
      unfold keysOf at e
      split at e
      · rename_i k r e1 e2
        cases e
        rw [List.map_cons, List.map_cons, Rb.key (.inl a) e1, RpL.keys b e2]
      · cases e
theorem RpK.look {A : AS} {H : Hp} {k : Ky} : ∀ {kvs : List (Ky × PV)} {es : List (Key × V)}, RpK A H kvs es →
    (lookK kvs k = none ∧ valV es (kyK k) = none) ∨ ∃ p v, lookK kvs k = some p ∧ valV es (kyK k) = some v ∧ Rp A H p v
  | [], _, h => by cases h; exact .inl ⟨rfl, rfl⟩
  | (q, p) :: r, _, h => by
    cases h with
    | @cons _ _ _ v vs a b =>
      have ih := RpK.look (k := k) b
      by_cases e : q = k
      · subst e
        refine .inr ⟨p, v, by simp [lookK], by simp [valV], a⟩
      · have ne : ¬ kyK q = kyK k := fun z => e (kyK_inj z)
        have e1 : lookK ((q, p) :: r) k = lookK r k := by simp [lookK, e]
        have e2 : valV ((kyK q, v) :: vs) (kyK k) = valV vs (kyK k) := by simp [valV, ne]
        rw [e1, e2]
        exact ih
theorem RpT.look {A : AS} {H : Hp} {k : List Ky} : ∀ {kvs : List (List Ky × PV)} {es : List (List Key × V)}, RpT A H kvs es →
    (lookT kvs k = none ∧ valV es (k.map kyK) = none) ∨ ∃ p v, lookT kvs k = some p ∧ valV es (k.map kyK) = some v ∧ Rp A H p v
  | [], _, h => by cases h; exact .inl ⟨rfl, rfl⟩
  | (q, p) :: r, _, h => by
    cases h with
    | @cons _ _ _ v vs a b =>
      have ih := RpT.look (k := k) b
      by_cases e : q = k
      · subst e
        refine .inr ⟨p, v, by simp [lookT], by simp [valV], a⟩
      · have ne : ¬ q.map kyK = k.map kyK := fun z => e (keysK_inj z)
        have e1 : lookT ((q, p) :: r) k = lookT r k := by simp [lookT, e]
        have e2 : valV ((q.map kyK, v) :: vs) (k.map kyK) = valV vs (k.map kyK) := by simp [valV, ne]
        rw [e1, e2]
        exact ih
theorem RpK.look_some {A : AS} {H : Hp} {k : Ky} {kvs : List (Ky × PV)} {es : List (Key × V)} (h : RpK A H kvs es) : (valV es (kyK k)).isSome = (lookK kvs k).isSome := by
  rcases h.look (k := k) with ⟨a, b⟩ | ⟨p, v, a, b, _⟩ <;> rw [a, b] <;> rfl
section
variable {X : Cx}
theorem op_inDk (hu : X.A.units + 100 < cLine) : OpR X (compareOp .In) (fun x y H Q => ∃ a o, y = .ref a ∧ DGet H a x o ∧ Q (.bl o.isSome) H) := by
  intro pins s σ H x y v u Q I rx ry ⟨a, o, e, g, q⟩
  subst e; cases ry
  exact d_in (by omega) I g rx fun s3 I3 => ⟨.bl o.isSome, H, I3, rfl, q⟩
theorem op_notInDk (hu : X.A.units + 100 < cLine) : OpR X (compareOp .NotIn) (fun x y H Q => ∃ a o, y = .ref a ∧ DGet H a x o ∧ Q (.bl (!o.isSome)) H) := by
  intro pins s σ H x y v u Q I rx ry ⟨a, o, e, g, q⟩
  subst e; cases ry
  exact d_notIn (by omega) I g rx fun s3 I3 => ⟨.bl (!o.isSome), H, I3, rfl, q⟩
theorem in_ok (hu : X.A.units + 100 < cLine) : OpR X (compareOp .In) (rCmp inF) := by
  refine OpR.imp (op_in_sign.or ((op_inD (by omega)).or ((op_inT hu).or (op_inDk hu)))) fun x y H Q ⟨A, p, q, b, hx, hy, e, k⟩ => ?_
  unfold inF at e
  split at e
  · unfold inS at e
    split at e
    · cases e
      exact .inl ⟨_, _, hx.str.1, hy.str.1, by rw [mkS_list]; exact k⟩
    · cases e
  · split at e
    · rename_i xs c
      rw [Bool.and_eq_true] at c
      cases e
      obtain ⟨d1, s1⟩ := hx.dp X.K c.1
      obtain ⟨d2, s2⟩ := hy.dp X.K c.2
      have n1 : nod p = true := (Bool.and_eq_true_iff.mp c.1).1
      have n2 : nodL xs = true := (Bool.and_eq_true_iff.mp c.2).1
      exact .inr (.inl ⟨_, _, d1, d2, s1, s2, by rw [any_py n1 n2]; exact k⟩)
    · cases e
  · split at e
    · rename_i xs c
      rw [Bool.and_eq_true] at c
      cases e
      obtain ⟨d1, s1⟩ := hx.dp X.K c.1
      obtain ⟨d2, s2⟩ := hy.dp X.K c.2
      have n1 : nod p = true := (Bool.and_eq_true_iff.mp c.1).1
      have n2 : nodL xs = true := (Bool.and_eq_true_iff.mp c.2).1
      exact .inr (.inr (.inl ⟨_, _, d1, d2, s1, s2, by rw [any_py n1 n2]; exact k⟩))
    · cases e
  · obtain ⟨ky, e1, e2⟩ := Option.map_eq_some_iff.mp e
    obtain ⟨a, es, rfl, r, z, t⟩ := hy.dk
    rw [hx.key e1]
    refine .inr (.inr (.inr ⟨a, _, rfl, .inl ⟨es, kyK ky, r, rfl, rfl⟩, ?_⟩))
    rw [t.look_some, e2]
    exact k
  · cases e
theorem notin_ok (hu : X.A.units + 100 < cLine) : OpR X (compareOp .NotIn) (rCmp fun p q => (inF p q).map (!·)) := by
  refine OpR.imp (op_notIn_sign.or ((op_notInD (by omega)).or ((op_notInT hu).or (op_notInDk hu)))) fun x y H Q ⟨A, p, q, b, hx, hy, e0, k⟩ => ?_
  obtain ⟨z, e, rfl⟩ := Option.map_eq_some_iff.mp e0
  clear e0
  unfold inF at e
  split at e
  · unfold inS at e
    split at e
    · cases e
      exact .inl ⟨_, _, hx.str.1, hy.str.1, by rw [mkS_list]; exact k⟩
    · cases e
  · split at e
    · rename_i xs c
      rw [Bool.and_eq_true] at c
      cases e
      obtain ⟨d1, s1⟩ := hx.dp X.K c.1
      obtain ⟨d2, s2⟩ := hy.dp X.K c.2
      have n1 : nod p = true := (Bool.and_eq_true_iff.mp c.1).1
      have n2 : nodL xs = true := (Bool.and_eq_true_iff.mp c.2).1
      exact .inr (.inl ⟨_, _, d1, d2, s1, s2, by rw [any_py n1 n2]; exact k⟩)
    · cases e
  · split at e
    · rename_i xs c
      rw [Bool.and_eq_true] at c
      cases e
      obtain ⟨d1, s1⟩ := hx.dp X.K c.1
      obtain ⟨d2, s2⟩ := hy.dp X.K c.2
      have n1 : nod p = true := (Bool.and_eq_true_iff.mp c.1).1
      have n2 : nodL xs = true := (Bool.and_eq_true_iff.mp c.2).1
      exact .inr (.inr (.inl ⟨_, _, d1, d2, s1, s2, by rw [any_py n1 n2]; exact k⟩))
    · cases e
  · obtain ⟨ky, e1, e2⟩ := Option.map_eq_some_iff.mp e
    obtain ⟨a, es, rfl, r, z, t⟩ := hy.dk
    rw [hx.key e1]
    refine .inr (.inr (.inr ⟨a, _, rfl, .inl ⟨es, kyK ky, r, rfl, rfl⟩, ?_⟩))
    rw [t.look_some, e2]
    exact k
  · cases e
theorem cmp_ok (hu : X.A.units + 100 < cLine) (op : CmpOp) : OpR X (compareOp op) (rCmp (cmpF op)) := by
  cases op
  · exact eq_ok hu
  · exact ne_ok hu
  · exact lt_ok
  · exact le_ok
  · exact gt_ok
  · exact ge_ok
  · exact is_ok
  · exact isnot_ok
  · exact in_ok hu
  · exact notin_ok hu

/-! ### subscripts -/
def rIxP : R2 := fun x y H Q => ∃ A p q r, Rb A H p x ∧ Rb A H q y ∧ ixF p q = some r ∧ ∀ v, Rp A H r v → Q v H
theorem getI_rel {A : AS} {H : Hp} {ps : List PV} {vs : List V} {i : Int} {p : PV} (r : RpL A H ps vs) (e : getI ps i = some p) : ∃ v, atI vs i = some v ∧ Rp A H p v := by
  unfold getI atI at e
  obtain ⟨j, h1, h2⟩ := Option.bind_eq_some_iff.mp e
  obtain ⟨v, h3, h4⟩ := r.get' h2
  refine ⟨v, ?_, h4⟩
  unfold atI
  rw [← r.len, h1]
  exact h3
theorem ix_dict (hu : X.A.units + 100 < cLine) : IxR X (fun x y H Q => ∃ a v, x = .ref a ∧ DGet H a y (some v) ∧ Q v H) := by
  intro value slice pins s σ H x y v u Q I rx ry ⟨a, w, e, g, q⟩ hs
  subst e; cases rx
  exact tail_any (dict_typeIs I g) PySem.F.slot_dict_getitem.lookup (d_getItem (by omega) I g ry fun w' s' I' r' => ⟨w, H, I', r', q⟩) hs
theorem ixP_ok (hu : X.A.units + 100 < cLine) : IxR X rIxP := by
  intro value slice pins s σ H x y v u Q I rx ry ⟨A, p, q, r, hx, hy, e, k⟩ hs
  unfold ixF at e
  split at e
  · obtain ⟨a, vs, rfl, d, z, t⟩ := hx.lst
    obtain ⟨w, e1, e2⟩ := getI_rel t e
    rw [hy.int] at ry
    exact ix_list value slice pins s σ H _ _ v u Q I rx ry ⟨_, _, _, w, rfl, rfl, sqL d, e1, k w e2⟩ hs
  · obtain ⟨a, vs, rfl, d, z, t⟩ := hx.tup
    obtain ⟨w, e1, e2⟩ := getI_rel t e
    rw [hy.int] at ry
    exact ix_tup value slice pins s σ H _ _ v u Q I rx ry ⟨_, _, _, w, rfl, rfl, sqT d, e1, k w e2⟩ hs
  · obtain ⟨c, e1, e2⟩ := Option.map_eq_some_iff.mp e
    subst e2
    obtain ⟨h1, h2⟩ := hx.str
    rw [h1] at rx
    rw [hy.int] at ry
    have hc : c < 0x110000 := by
      unfold getI atI at e1
      obtain ⟨j, _, h4⟩ := Option.bind_eq_some_iff.mp e1
      exact h2.2 c (List.mem_of_getElem? h4)
    have ok : okS [c] := ⟨by rw [sizeLine_eq, List.length_singleton]; decide, fun d hd => by rw [List.mem_singleton.mp hd]; exact hc⟩
    refine ix_str value slice pins s σ H _ _ v u Q I rx ry ⟨_, _, c, rfl, rfl, by rw [mkS_len]; exact h2.1, ?_, k _ (.str [c] ok)⟩ hs
    rw [mkS_list]
    exact e1
  · obtain ⟨ky, e1, e2⟩ := Option.bind_eq_some_iff.mp e
    obtain ⟨a, es, rfl, d, z, t⟩ := hx.dk
    rw [hy.key e1] at ry
    rcases t.look (k := ky) with ⟨n, _⟩ | ⟨p', w, h1, h2, h3⟩
    · rw [n] at e2; cases e2
    · rw [h1] at e2; cases e2
      exact ix_dict hu value slice pins s σ H _ _ v u Q I rx ry ⟨a, w, rfl, .inl ⟨es, kyK ky, d, rfl, h2.symm⟩, k w h3⟩ hs
  · obtain ⟨ky, e1, e2⟩ := Option.bind_eq_some_iff.mp e
    obtain ⟨a, es, rfl, d, z, t⟩ := hx.dt
    obtain ⟨b, ks, rfl, d2, z2, t2⟩ := hy.tup
    rw [t2.keys e1] at d2
    rcases t.look (k := ky) with ⟨n, _⟩ | ⟨p', w, h1, h2, h3⟩
    · rw [n] at e2; cases e2
    · rw [h1] at e2; cases e2
      exact ix_dict hu value slice pins s σ H _ _ v u Q I rx ry ⟨a, w, rfl, .inr ⟨es, ky.map kyK, b, d, rfl, d2, h2.symm⟩, k w h3⟩ hs
  · cases e

/-! ### slices -/
theorem cut_rel {A : AS} {H : Hp} {ps : List PV} {vs : List V} {lo hi : Option Int} (r : RpL A H ps vs) : RpL A H (cut ps lo hi) (cutV vs lo hi) := by
  unfold cut cutV
  rw [r.len]
  exact (r.drop _).take _
theorem cut_whole {α : Type} {xs : List α} {lo hi : Option Int} (h : HT.sIx xs.length 0 lo = 0 ∧ HT.sIx xs.length xs.length hi = xs.length) : cut xs lo hi = xs := by
  unfold cut
  rw [h.1, h.2]
  simp
theorem cut_mem {α : Type} {xs : List α} {lo hi : Option Int} {x : α} (h : x ∈ cut xs lo hi) : x ∈ xs := List.mem_of_mem_drop (List.mem_of_mem_take h)
theorem cut_len {α : Type} (xs : List α) (lo hi : Option Int) : (cut xs lo hi).length ≤ xs.length := by
  unfold cut
  rw [List.length_take, List.length_drop]
  omega
def rSlP : V → Option Int → Option Int → Hp → VK → Prop := fun x lo hi H Q => ∃ A p r fr, Rb A H p x ∧ slF p lo hi = some (r, fr) ∧ ∀ v H', NV A H r fr v H' → Q v H'
theorem cutS_eq (s : List Nat) (lo hi : Option Int) : cutS (mkS s) lo hi = mkS (cut s lo hi) := by
  unfold cutS cut
  rw [mkS_list, mkS_len]
  rfl
theorem slP_ok : SlR X rSlP := by
  intro pins s σ H x v vl vu lo hi sl Q I rx hs pl pu ⟨A, p, r, fr, hx, e, k⟩
  unfold slF at e
  split at e
  · cases e
    obtain ⟨a, vs, rfl, d, z, t⟩ := hx.lst
    exact sl_list pins s σ H _ v vl vu lo hi sl Q I rx hs pl pu ⟨a, vs, rfl, sqL d, fun p hp => k _ _ (.lst (cut_rel t) hp (Nat.le_trans (cutV_length _ _ _) z))⟩
  · cases e
    obtain ⟨a, vs, rfl, d, z, t⟩ := hx.tup
    refine sl_tupA pins s σ H _ v vl vu lo hi sl Q I rx hs pl pu ⟨a, vs, rfl, sqT d, fun w => ?_, fun _ p hp => k _ _ (.tup (cut_rel t) hp (Nat.le_trans (cutV_length _ _ _) z))⟩
    refine k _ _ (.old ?_)
    rw [cut_whole (by rw [t.len]; exact w)]
    exact .tup d z t
  · cases e
    obtain ⟨h1, h2⟩ := hx.str
    rw [h1] at rx
    refine sl_str pins s σ H _ v vl vu lo hi sl Q I rx hs pl pu ⟨_, rfl, by rw [mkS_len]; exact h2.1, ?_⟩
    rw [cutS_eq]
    exact k _ _ (.old (.str _ ⟨Nat.le_trans (cut_len _ _ _) h2.1, fun c hc => h2.2 c (cut_mem hc)⟩))
  · cases e

/-! ### truth -/
theorem tru_rb {A : AS} {H : Hp} {p : PV} {v : V} {b : Bool} (h : Rb A H p v) (e : tru p = some b) : TruV X.K v H b := by
  cases p with
  | non => rw [h.non]; exact (Option.some.inj e).symm
  | bl c => rw [h.bl]; exact (Option.some.inj e).symm
  | int i => rw [h.int]; exact (Option.some.inj e).symm
  | str s =>
    obtain ⟨h1, h2⟩ := h.str
    rw [h1]
    refine ⟨by rw [mkS_len]; exact h2.1, ?_⟩
    rw [mkS_len, ← Option.some.inj e]
    cases s <;> rfl
  | lst xs =>
    obtain ⟨a, vs, rfl, d, z, t⟩ := h.lst
    refine .inl ⟨vs, sqL d, ?_⟩
    rw [← Option.some.inj e]
    cases t <;> rfl
  | tup xs =>
    obtain ⟨a, vs, rfl, d, z, t⟩ := h.tup
    refine .inr (.inl ⟨vs, sqT d, ?_⟩)
    rw [← Option.some.inj e]
    cases t <;> rfl
  | dk kvs => cases e
  | dt kvs => cases e
end
end Dk

set_option Elab.async false
set_option linter.all false
set_option autoImplicit false
set_option maxRecDepth 100000
set_option maxHeartbeats 1000000
/-! Dk6: isinstance, built-in functions, reversed slices. -/
namespace Dk
open PySem PySem.Spec PyProof.Rows L2

/-! ### isinstance -/
def Ty.nm : Ty → String
  | .int => "int" | .bool => "bool" | .str => "str" | .lst => "list" | .tup => "tuple" | .dict => "dict"
def Ty.up : Ty → List Ty
  | .bool => [.bool, .int]
  | t => [t]
theorem kit_own : ∀ (t c : Ty), kitB t.nm c.nm = some (decide (c ∈ t.up)) := by
  intro t c
  cases t <;> cases c <;> decide +kernel
theorem kit_non : ∀ (c : Ty), kitB "NoneType" c.nm = some false := by
  intro c
  cases c <;> decide +kernel
theorem kit_all {K : PySem.W.Frag} {t : String} {g : Ty → Bool} (h : ∀ c : Ty, kitB t c.nm = some (g c)) : ∀ ts : List Ty, PySem.W.kitAny K (.type t) (ts.map fun c => .type c.nm) = some (ts.any g)
  | [] => rfl
  | c :: cs => by
    refine kitAny_cons (kit_ty (h c)) (fun e => ?_) fun e => ?_
    · rw [List.any_cons, e]; exact kit_all h cs
    · rw [List.any_cons, e]; rfl
/-- the class of what is read, by its name -/
theorem ty_rb {K : PySem.W.Frag} {A : AS} {H : Hp} {p : PV} {v : V} (h : Rb A H p v) (n : ∀ k, p ≠ .dt k) : ∃ t : String, TyX K H v (.type t) ∧ ∀ c : Ty, kitB t c.nm = some (decide (c ∈ tyOf p)) := by
  cases p with
  | non => rw [h.non]; exact ⟨_, .base .non, kit_non⟩
  | bl b => rw [h.bl]; exact ⟨_, .base (.bl b), kit_own .bool⟩
  | int i => rw [h.int]; exact ⟨_, .base (.int i), kit_own .int⟩
  | str s => rw [h.str.1]; exact ⟨_, .base (.str _), kit_own .str⟩
  | lst xs =>
    obtain ⟨a, vs, rfl, d, z, t⟩ := h.lst
    rcases d with d | ⟨o, d⟩
    · exact ⟨_, .base (.lst d), kit_own .lst⟩
    · exact ⟨_, .base (.frz d), kit_own .lst⟩
  | tup xs =>
    obtain ⟨a, vs, rfl, d, z, t⟩ := h.tup
    exact ⟨_, .base (.tup d), kit_own .tup⟩
  | dk xs =>
    obtain ⟨a, vs, rfl, d, z, t⟩ := h.dk
    rcases d with d | ⟨o, d⟩
    · exact ⟨_, .base (.dK d), kit_own .dict⟩
    · exact ⟨_, .fDict d, kit_own .dict⟩
  | dt xs => exact absurd rfl (n xs)
theorem isi_one {K : PySem.W.Frag} {A : AS} {H : Hp} {p : PV} {v : V} {c : Ty} {b : Bool} (h : Rb A H p v) (e : isiF p [c] = some b) : ∃ t, TyX K H v t ∧ PySem.W.kitOne K t (.type c.nm) = some b := by
  have n : ∀ k, p ≠ .dt k := fun k z => by subst z; cases e
  obtain ⟨t, h1, h2⟩ := ty_rb (K := K) h n
  refine ⟨_, h1, kit_ty ?_⟩
  rw [h2 c]
  unfold isiF at e
  split at e
  · cases e
  · rw [← e]; simp
theorem isi_any {K : PySem.W.Frag} {A : AS} {H : Hp} {p : PV} {v : V} {cs : List Ty} {b : Bool} (h : Rb A H p v) (e : isiF p cs = some b) : ∃ t, TyX K H v t ∧ PySem.W.kitAny K t (cs.map fun c => .type c.nm) = some b := by
  have n : ∀ k, p ≠ .dt k := fun k z => by subst z; cases e
  obtain ⟨t, h1, h2⟩ := ty_rb (K := K) h n
  refine ⟨_, h1, ?_⟩
  rw [kit_all h2 cs]
  unfold isiF at e
  split at e
  · cases e
  · exact e

/-! ### built-in functions -/
/-- what is read, one after another -/
inductive RbL (A : AS) (H : Hp) : List PV → List V → Prop where
  | nil : RbL A H [] []
  | cons {p : PV} {ps : List PV} {v : V} {vs : List V} : Rb A H p v → RbL A H ps vs → RbL A H (p :: ps) (v :: vs)
theorem RbL.one {A : AS} {H : Hp} {p : PV} {vs : List V} (h : RbL A H [p] vs) : ∃ v, vs = [v] ∧ Rb A H p v := by
  cases h with | cons a b => cases b; exact ⟨_, rfl, a⟩
theorem RbL.two {A : AS} {H : Hp} {p q : PV} {vs : List V} (h : RbL A H [p, q] vs) : ∃ v w, vs = [v, w] ∧ Rb A H p v ∧ Rb A H q w := by
  cases h with | cons a b => obtain ⟨w, rfl, c⟩ := b.one; exact ⟨_, w, rfl, a, c⟩
theorem RbL.three {A : AS} {H : Hp} {p q r : PV} {vs : List V} (h : RbL A H [p, q, r] vs) : ∃ v w x, vs = [v, w, x] ∧ Rb A H p v ∧ Rb A H q w ∧ Rb A H r x := by
  cases h with | cons a b => obtain ⟨w, x, rfl, c, d⟩ := b.two; exact ⟨_, w, x, rfl, a, c, d⟩
def rCal (g : List PV → Option PB) : List V → Hp → VK → Prop := fun vs H Q => ∃ A ps r fr, (∀ a, A a → H a ≠ none) ∧ RbL A H ps vs ∧ g ps = some (r, fr) ∧ ∀ v H', NV A H r fr v H' → Q v H'
theorem ints_rel {A : AS} {H : Hp} : ∀ {ps : List PV} {vs : List V} {ns : List Int}, RpL A H ps vs → intsOf ps = some ns → vs = ns.map V.int
  | [], _, _, h, e => by cases h; cases e; rfl
  | p :: ps, _, _, h, e => by
    cases h with
    | cons a b =>
      cases p with
      | int i =>
        obtain ⟨r, e1, e2⟩ := Option.map_eq_some_iff.mp e
        subst e2
        cases a
        rw [List.map_cons, ints_rel b e1]
      | _ => cases e
theorem bls_rel {A : AS} {H : Hp} : ∀ {ps : List PV} {vs : List V} {ns : List Bool}, RpL A H ps vs → blsOf ps = some ns → vs = ns.map V.bl
  | [], _, _, h, e => by cases h; cases e; rfl
  | p :: ps, _, _, h, e => by
    cases h with
    | cons a b =>
      cases p with
      | bl i =>
        obtain ⟨r, e1, e2⟩ := Option.map_eq_some_iff.mp e
        subst e2
        cases a
        rw [List.map_cons, bls_rel b e1]
      | _ => cases e
theorem maxI_le : ∀ (xs : List Int) (m : Int), m ≤ maxI m xs ∧ (∀ y ∈ xs, y ≤ maxI m xs) ∧ (maxI m xs = m ∨ maxI m xs ∈ xs)
  | [], m => ⟨Int.le_refl _, fun _ h => (nomatch h), .inl rfl⟩
  | x :: xs, m => by
    obtain ⟨h1, h2, h3⟩ := maxI_le xs (if x > m then x else m)
    show m ≤ maxI (if x > m then x else m) xs ∧ (∀ y ∈ x :: xs, y ≤ maxI (if x > m then x else m) xs) ∧ (maxI (if x > m then x else m) xs = m ∨ maxI (if x > m then x else m) xs ∈ x :: xs)
    by_cases h : x > m
    · rw [if_pos h] at h1 h2 h3 ⊢
      refine ⟨by omega, fun y hy => ?_, .inr ?_⟩
      · rcases List.mem_cons.mp hy with rfl | hy
        · exact h1
        · exact h2 y hy
      · rcases h3 with h3 | h3
        · rw [h3]; exact List.mem_cons_self
        · exact List.mem_cons_of_mem _ h3
    · rw [if_neg h] at h1 h2 h3 ⊢
      refine ⟨h1, fun y hy => ?_, ?_⟩
      · rcases List.mem_cons.mp hy with rfl | hy
        · omega
        · exact h2 y hy
      · rcases h3 with h3 | h3
        · exact .inl h3
        · exact .inr (List.mem_cons_of_mem _ h3)
theorem minI_le : ∀ (xs : List Int) (m : Int), minI m xs ≤ m ∧ (∀ y ∈ xs, minI m xs ≤ y) ∧ (minI m xs = m ∨ minI m xs ∈ xs)
  | [], m => ⟨Int.le_refl _, fun _ h => (nomatch h), .inl rfl⟩
  | x :: xs, m => by
    obtain ⟨h1, h2, h3⟩ := minI_le xs (if x < m then x else m)
    show minI (if x < m then x else m) xs ≤ m ∧ (∀ y ∈ x :: xs, minI (if x < m then x else m) xs ≤ y) ∧ (minI (if x < m then x else m) xs = m ∨ minI (if x < m then x else m) xs ∈ x :: xs)
    by_cases h : x < m
    · rw [if_pos h] at h1 h2 h3 ⊢
      refine ⟨by omega, fun y hy => ?_, .inr ?_⟩
      · rcases List.mem_cons.mp hy with rfl | hy
        · exact h1
        · exact h2 y hy
      · rcases h3 with h3 | h3
        · rw [h3]; exact List.mem_cons_self
        · exact List.mem_cons_of_mem _ h3
    · rw [if_neg h] at h1 h2 h3 ⊢
      refine ⟨h1, fun y hy => ?_, ?_⟩
      · rcases List.mem_cons.mp hy with rfl | hy
        · omega
        · exact h2 y hy
      · rcases h3 with h3 | h3
        · exact .inl h3
        · exact .inr (List.mem_cons_of_mem _ h3)
section
variable {X : Cx}
theorem CallR.imp {f : Value} {r r' : List V → Hp → VK → Prop} (h : CallR X f r) (m : ∀ xs H Q, r' xs H Q → r xs H Q) : CallR X f r' :=
  fun pins s σ H xs us Q I r q => h pins s σ H xs us Q I r (m _ _ _ q)
theorem len_dk : CallR X (.builtin "len") (fun xs H Q => ∃ d kvs, xs = [.ref d] ∧ Rd H d (.dK kvs) ∧ Q (.int kvs.length) H) := by
  intro pins s σ H xs us Q I r ⟨d, kvs, e, h, q⟩
  subst e
  obtain ⟨u, rfl, ru⟩ := vals1 r
  cases ru
  obtain ⟨z, hd, vs, rel, dd⟩ := dk_rd I.hok h
  have hl : kvs.length = vs.length := Paired.length rel
  have hs := sizeLine_eq
  refine call_len_dict hd dd (by omega) ⟨.int kvs.length, H, I.tok _, ?_, q⟩
  rw [hl]
  exact ⟨_, rfl⟩
theorem lenB : CallR X (.builtin "len") (rCal lenF) := by
  refine CallR.imp (call_len.or len_dk) fun xs H Q ⟨A, ps, r, fr, al, rs, e, k⟩ => ?_
  unfold lenF at e
  split at e <;> first | cases e | skip
  · obtain ⟨v, rfl, h⟩ := rs.one
    obtain ⟨h1, h2⟩ := h.str
    subst h1
    exact .inl ⟨_, _, rfl, ⟨by rw [mkS_len]; exact h2.1, rfl⟩, by rw [mkS_len]; exact k _ _ (.old (.int _))⟩
  · obtain ⟨v, rfl, h⟩ := rs.one
    obtain ⟨a, vs, rfl, d, z, t⟩ := h.lst
    exact .inl ⟨_, _, rfl, .inl ⟨vs, sqL d, rfl⟩, by rw [← t.len]; exact k _ _ (.old (.int _))⟩
  · obtain ⟨v, rfl, h⟩ := rs.one
    obtain ⟨a, vs, rfl, d, z, t⟩ := h.tup
    exact .inl ⟨_, _, rfl, .inr ⟨vs, sqT d, rfl⟩, by rw [← t.len]; exact k _ _ (.old (.int _))⟩
  · obtain ⟨v, rfl, h⟩ := rs.one
    obtain ⟨a, vs, rfl, d, z, t⟩ := h.dk
    exact .inr ⟨_, _, rfl, d, by rw [← t.len]; exact k _ _ (.old (.int _))⟩
theorem absB : CallR X (.builtin "abs") (rCal absF) := by
  refine CallR.imp call_abs fun xs H Q ⟨A, ps, r, fr, al, rs, e, k⟩ => ?_
  unfold absF at e
  split at e <;> first | cases e | skip
  obtain ⟨v, rfl, h⟩ := rs.one
  rw [h.int]
  exact ⟨_, rfl, k _ _ (.old (.int _))⟩
theorem intB : CallR X (.type "int") (rCal intFn) := by
  refine CallR.imp call_int1 fun xs H Q ⟨A, ps, r, fr, al, rs, e, k⟩ => ?_
  unfold intFn at e
  split at e <;> first | cases e | skip
  · obtain ⟨v, rfl, h⟩ := rs.one
    rw [h.int]
    exact .inl ⟨_, rfl, k _ _ (.old (.int _))⟩
  · obtain ⟨v, rfl, h⟩ := rs.one
    rw [h.bl]
    exact .inr ⟨_, rfl, k _ _ (.old (.int _))⟩
theorem allB (hc : X.calm = true) : CallR X (.builtin "all") (rCal allF) := by
  refine CallR.imp (cr_all hc) fun xs H Q ⟨A, ps, r, fr, al, rs, e, k⟩ => ?_
  unfold allF at e
  split at e <;> first | cases e | skip
  obtain ⟨bs, e1, e2⟩ := Option.map_eq_some_iff.mp e
  cases e2
  obtain ⟨v, rfl, h⟩ := rs.one
  obtain ⟨a, vs, rfl, d, z, t⟩ := h.lst
  have := bls_rel t e1
  subst this
  exact ⟨a, bs, rfl, sqL d, k _ _ (.old (.bl _))⟩
theorem anyB (hc : X.calm = true) : CallR X (.builtin "any") (rCal anyF) := by
  refine CallR.imp (cr_any hc) fun xs H Q ⟨A, ps, r, fr, al, rs, e, k⟩ => ?_
  unfold anyF at e
  split at e <;> first | cases e | skip
  obtain ⟨bs, e1, e2⟩ := Option.map_eq_some_iff.mp e
  cases e2
  obtain ⟨v, rfl, h⟩ := rs.one
  obtain ⟨a, vs, rfl, d, z, t⟩ := h.lst
  have := bls_rel t e1
  subst this
  exact ⟨a, bs, rfl, sqL d, k _ _ (.old (.bl _))⟩
theorem sumB (hc : X.calm = true) : CallR X (.builtin "sum") (rCal sumF) := by
  refine CallR.imp (cr_sum hc) fun xs H Q ⟨A, ps, r, fr, al, rs, e, k⟩ => ?_
  unfold sumF at e
  split at e <;> first | cases e | skip
  obtain ⟨bs, e1, e2⟩ := Option.map_eq_some_iff.mp e
  cases e2
  obtain ⟨v, rfl, h⟩ := rs.one
  obtain ⟨a, vs, rfl, d, z, t⟩ := h.lst
  have := ints_rel t e1
  subst this
  exact ⟨a, bs, rfl, sqL d, k _ _ (.old (.int _))⟩
theorem maxB (hc : X.calm = true) : CallR X (.builtin "max") (rCal maxF) := by
  refine CallR.imp ((call_max2 hc).or ((call_max3Nu hc).or (cr_max hc))) fun xs H Q ⟨A, ps, r, fr, al, rs, e, k⟩ => ?_
  unfold maxF at e
  split at e <;> first | cases e | skip
  · obtain ⟨v, w, rfl, h1, h2⟩ := rs.two
    rw [h1.int, h2.int]
    exact .inl ⟨_, _, rfl, k _ _ (.old (.int _))⟩
  · rename_i i j l
    obtain ⟨v, w, x, rfl, h1, h2, h3⟩ := rs.three
    rw [h1.int, h2.int, h3.int]
    refine .inr (.inl ⟨_, _, _, .int (maxI i [j, l]), rfl, ?_, k _ _ (.old (.int _))⟩)
    have e1 : ∀ a b : Int, nuMax2 (.int a) (.int b) = some (.int (if b > a then b else a)) := fun a b => by
      show some (if decide (a < b) = true then V.int b else V.int a) = _
      by_cases q : a < b
      · rw [decide_eq_true q, if_pos rfl, if_pos q]
      · rw [decide_eq_false q, if_neg Bool.false_ne_true, if_neg q]
    show (nuMax2 (.int i) (.int j)).bind (fun m => nuMax2 m (.int l)) = _
    rw [e1]
    exact e1 _ _
  · unfold maxL at e
    split at e
    · rename_i n ns e1
      cases e
      obtain ⟨v, rfl, h⟩ := rs.one
      obtain ⟨a, vs, rfl, d, z, t⟩ := h.lst
      have := ints_rel t e1
      subst this
      refine .inr (.inr ⟨a, n :: ns, rfl, sqL d, Nat.succ_pos _, fun m hm hle => ?_⟩)
      obtain ⟨h1, h2, h3⟩ := maxI_le ns n
      have q1 : maxI n ns ≤ m := by
        rcases h3 with h3 | h3
        · rw [h3]; exact hle n List.mem_cons_self
        · exact hle _ (List.mem_cons_of_mem _ h3)
      have q2 : m ≤ maxI n ns := by
        rcases List.mem_cons.mp hm with e | hm
        · rw [e]; exact h1
        · exact h2 m hm
      rw [show m = maxI n ns by omega]
      exact k _ _ (.old (.int _))
    · cases e
theorem minB (hc : X.calm = true) : CallR X (.builtin "min") (rCal minF) := by
  refine CallR.imp ((call_min2 hc).or ((call_min3Nu hc).or (cr_min hc))) fun xs H Q ⟨A, ps, r, fr, al, rs, e, k⟩ => ?_
  unfold minF at e
  split at e <;> first | cases e | skip
  · obtain ⟨v, w, rfl, h1, h2⟩ := rs.two
    rw [h1.int, h2.int]
    exact .inl ⟨_, _, rfl, k _ _ (.old (.int _))⟩
  · rename_i i j l
    obtain ⟨v, w, x, rfl, h1, h2, h3⟩ := rs.three
    rw [h1.int, h2.int, h3.int]
    refine .inr (.inl ⟨_, _, _, .int (minI i [j, l]), rfl, ?_, k _ _ (.old (.int _))⟩)
    have e1 : ∀ a b : Int, nuMin2 (.int a) (.int b) = some (.int (if b < a then b else a)) := fun a b => by
      show some (if decide (b < a) = true then V.int b else V.int a) = _
      by_cases q : b < a
      · rw [decide_eq_true q, if_pos rfl, if_pos q]
      · rw [decide_eq_false q, if_neg Bool.false_ne_true, if_neg q]
    show (nuMin2 (.int i) (.int j)).bind (fun m => nuMin2 m (.int l)) = _
    rw [e1]
    exact e1 _ _
  · unfold minL at e
    split at e
    · rename_i n ns e1
      cases e
      obtain ⟨v, rfl, h⟩ := rs.one
      obtain ⟨a, vs, rfl, d, z, t⟩ := h.lst
      have := ints_rel t e1
      subst this
      refine .inr (.inr ⟨a, n :: ns, rfl, sqL d, Nat.succ_pos _, fun m hm hle => ?_⟩)
      obtain ⟨h1, h2, h3⟩ := minI_le ns n
      have q1 : m ≤ minI n ns := by
        rcases h3 with h3 | h3
        · rw [h3]; exact hle n List.mem_cons_self
        · exact hle _ (List.mem_cons_of_mem _ h3)
      have q2 : minI n ns ≤ m := by
        rcases List.mem_cons.mp hm with e | hm
        · rw [e]; exact h1
        · exact h2 m hm
      rw [show m = minI n ns by omega]
      exact k _ _ (.old (.int _))
    · cases e
theorem lstB : CallR X (.type "list") (rCal lstF) := by
  refine CallR.imp call_list_of fun xs H Q ⟨A, ps, r, fr, al, rs, e, k⟩ => ?_
  unfold lstF at e
  split at e <;> first | cases e | skip
  · obtain ⟨v, rfl, h⟩ := rs.one
    obtain ⟨a, vs, rfl, d, z, t⟩ := h.lst
    exact ⟨a, vs, rfl, .inl (sqL d), fun l hl => k _ _ (.lst t hl z)⟩
  · obtain ⟨v, rfl, h⟩ := rs.one
    obtain ⟨a, vs, rfl, d, z, t⟩ := h.tup
    exact ⟨a, vs, rfl, .inr (sqT d), fun l hl => k _ _ (.lst t hl z)⟩
theorem tupB : CallR X (.type "tuple") (rCal tupF) := by
  refine CallR.imp call_tuple_of fun xs H Q ⟨A, ps, r, fr, al, rs, e, k⟩ => ?_
  unfold tupF at e
  split at e <;> first | cases e | skip
  · obtain ⟨v, rfl, h⟩ := rs.one
    obtain ⟨a, vs, rfl, d, z, t⟩ := h.lst
    exact ⟨a, vs, rfl, .inl ⟨sqL d, fun l hl => k _ _ (.tup t hl z)⟩⟩
  · obtain ⟨v, rfl, h⟩ := rs.one
    obtain ⟨a, vs, rfl, d, z, t⟩ := h.tup
    exact ⟨a, vs, rfl, .inr ⟨sqT d, k _ _ (.old (.tup d z t))⟩⟩
end
end Dk

set_option Elab.async false
set_option linter.all false
set_option autoImplicit false
set_option maxRecDepth 100000
set_option maxHeartbeats 4000000
/-! Dk6s: sorted. -/
namespace Dk
open PySem PySem.Spec PyProof.Rows L2

/-! ### the order -/
theorem strLt_irr (s : List Nat) : strLt s s = false := decide_eq_false (List.lt_irrefl s)
theorem strLt_tri {s t : List Nat} (h : strLt s t = false) (k : strLt t s = false) : s = t :=
  List.le_antisymm (List.not_lt.mp (of_decide_eq_false k)) (List.not_lt.mp (of_decide_eq_false h))
theorem strLt_trans {s t u : List Nat} (h : strLt s t = true) (k : strLt t u = true) : strLt s u = true :=
  decide_eq_true (List.lt_trans (of_decide_eq_true h) (of_decide_eq_true k))
theorem ltKy_irr : ∀ x, ltKy x x = false
  | .inl i => decide_eq_false (Int.lt_irrefl i)
  | .inr s => strLt_irr s
theorem ltKy_tri : ∀ {x y}, ltKy x y = false → ltKy y x = false → x = y
  | .inl i, .inl j, h, k => by
    have a := of_decide_eq_false (p := i < j) h
    have b := of_decide_eq_false (p := j < i) k
    rw [show i = j by omega]
  | .inr s, .inr t, h, k => by rw [strLt_tri h k]
theorem ltKy_trans : ∀ {x y z}, ltKy x y = true → ltKy y z = true → ltKy x z = true
  | .inl i, .inl j, .inl k, h, g => by
    have a := of_decide_eq_true (p := i < j) h
    have b := of_decide_eq_true (p := j < k) g
    exact decide_eq_true (p := i < k) (by omega)
  | .inl i, .inl j, .inr k, h, g => rfl
  | .inl i, .inr j, .inr k, h, g => rfl
  | .inr i, .inr j, .inr k, h, g => strLt_trans h g
theorem lexKy_irr : ∀ xs, lexKy xs xs = false
  | [] => rfl
  | x :: xs => by
    show (if x = x then lexKy xs xs else ltKy x x) = false
    rw [if_pos rfl]
    exact lexKy_irr xs
theorem lexKy_tri : ∀ {xs ys}, lexKy xs ys = false → lexKy ys xs = false → xs = ys
  | [], [], _, _ => rfl
  | x :: xs, y :: ys, h, k => by
    have h : (if x = y then lexKy xs ys else ltKy x y) = false := h
    have k : (if y = x then lexKy ys xs else ltKy y x) = false := k
    by_cases e : x = y
    · subst e
      rw [if_pos rfl] at h k
      rw [lexKy_tri h k]
    · rw [if_neg e] at h
      rw [if_neg fun z => e z.symm] at k
      exact absurd (ltKy_tri h k) e
theorem lexKy_trans : ∀ {xs ys zs}, lexKy xs ys = true → lexKy ys zs = true → lexKy xs zs = true
  | [], _ :: _, _ :: _, _, _ => rfl
  | x :: xs, y :: ys, z :: zs, h, k => by
    have h : (if x = y then lexKy xs ys else ltKy x y) = true := h
    have k : (if y = z then lexKy ys zs else ltKy y z) = true := k
    show (if x = z then lexKy xs zs else ltKy x z) = true
    by_cases e : x = y
    · subst e
      rw [if_pos rfl] at h
      by_cases f : x = z
      · subst f
        rw [if_pos rfl] at k ⊢
        exact lexKy_trans h k
      · rw [if_neg f] at k ⊢
        exact k
    · rw [if_neg e] at h
      by_cases f : y = z
      · subst f
        rw [if_neg e]
        exact h
      · rw [if_neg f] at k
        have t := ltKy_trans h k
        by_cases g : x = z
        · subst g
          rw [ltKy_irr] at t
          cases t
        · rw [if_neg g]
          exact t
theorem swo_key {α : Type} (k : α → List Ky) : SrtO.Swo fun x y => lexKy (k x) (k y) := by
  refine ⟨fun x y h => ?_, fun x y z h1 h2 => ?_⟩
  · cases g : lexKy (k y) (k x) with
    | false => rfl
    | true =>
      have := lexKy_trans h g
      rw [lexKy_irr] at this
      cases this
  · cases g : lexKy (k z) (k x) with
    | false => rfl
    | true =>
      cases f : lexKy (k x) (k y) with
      | false =>
        rw [lexKy_tri f h1, h2] at g
        cases g
      | true =>
        have := lexKy_trans g f
        rw [h2] at this
        cases this

/-! ### the sorted list of trees -/
theorem insV_perm (x : PV) : ∀ xs, (insV x xs).Perm (x :: xs)
  | [] => List.Perm.refl _
  | y :: ys => by
    unfold insV
    split
    · exact ((insV_perm x ys).cons y).trans (List.Perm.swap x y ys)
    · exact List.Perm.refl _
theorem srtV_perm : ∀ xs, (srtV xs).Perm xs
  | [] => List.Perm.refl _
  | x :: xs => (insV_perm x _).trans ((srtV_perm xs).cons x)
theorem insV_srt (x : PV) : ∀ xs, xs.Pairwise (fun a b => ltv b a = false) → (insV x xs).Pairwise (fun a b => ltv b a = false)
  | [], _ => List.pairwise_singleton _ _
  | y :: ys, h => by
    obtain ⟨h1, h2⟩ := List.pairwise_cons.mp h
    have O := swo_key keyL
    unfold insV
    split
    · rename_i hl
      refine List.pairwise_cons.mpr ⟨fun z hz => ?_, insV_srt x ys h2⟩
      rcases List.mem_cons.mp ((insV_perm x ys).mem_iff.mp hz) with e | hz
      · subst e
        exact O.asym _ _ hl
      · exact h1 z hz
    · rename_i hl
      have hl : ltv y x = false := by
        cases q : ltv y x with
        | false => rfl
        | true => exact absurd q hl
      refine List.pairwise_cons.mpr ⟨fun z hz => ?_, h⟩
      rcases List.mem_cons.mp hz with e | hz
      · subst e; exact hl
      · exact O.tr _ _ _ hl (h1 z hz)
theorem srtV_srt : ∀ xs, (srtV xs).Pairwise (fun a b => ltv b a = false)
  | [] => List.Pairwise.nil
  | x :: xs => insV_srt x _ (srtV_srt xs)
/-- there is just one sorted list -/
theorem srt_uniq : ∀ {l m : List PV}, (∀ x ∈ l, ∀ y ∈ l, keyL x = keyL y → x = y) → l.Perm m → l.Pairwise (fun a b => ltv b a = false) → m.Pairwise (fun a b => ltv b a = false) → l = m
  | [], m, _, p, _, _ => (List.Perm.eq_nil p.symm).symm
  | x :: l, [], _, p, _, _ => absurd p.length_eq (by simp)
  | x :: l, y :: m, inj, p, hl, hm => by
    obtain ⟨l1, l2⟩ := List.pairwise_cons.mp hl
    obtain ⟨m1, m2⟩ := List.pairwise_cons.mp hm
    have hy : y ∈ x :: l := p.mem_iff.mpr List.mem_cons_self
    have hx : x ∈ y :: m := p.mem_iff.mp List.mem_cons_self
    have e1 : ltv y x = false := by
      rcases List.mem_cons.mp hy with e | h
      · subst e; exact lexKy_irr _
      · exact l1 y h
    have e2 : ltv x y = false := by
      rcases List.mem_cons.mp hx with e | h
      · subst e; exact lexKy_irr _
      · exact m1 x h
    have e : x = y := inj x List.mem_cons_self y hy (lexKy_tri e2 e1)
    subst e
    rw [srt_uniq (fun a ha b hb => inj a (List.mem_cons_of_mem _ ha) b (List.mem_cons_of_mem _ hb)) p.cons_inv l2 m2]
theorem keysOf_fm : ∀ {xs : List PV} {ks : List Ky}, keysOf xs = some ks → xs.filterMap keyOf = ks
  | [], _, h => by cases h; rfl
  | x :: xs, ks, h => by
    unfold keysOf at h
    split at h
    · rename_i k r e1 e2
      cases h
      rw [List.filterMap_cons, e1, keysOf_fm e2]
    · cases h
def kyV : Ky → PV
  | .inl i => .int i
  | .inr s => .str s
theorem keyOf_kyV {p : PV} {k : Ky} (h : keyOf p = some k) : p = kyV k := by
  cases p <;> cases h <;> rfl
theorem keysOf_kyV : ∀ {xs : List PV} {ks : List Ky}, keysOf xs = some ks → xs = ks.map kyV
  | [], _, h => by cases h; rfl
  | x :: xs, ks, h => by
    unfold keysOf at h
    split at h
    · rename_i k r e1 e2
      cases h
      rw [List.map_cons, ← keyOf_kyV e1, ← keysOf_kyV e2]
    · cases h
theorem row_of {b : List Bool} {p : PV} (h : isRow b p = true) : ∃ ks : List Ky, p = .tup (ks.map kyV) ∧ keysOf (ks.map kyV) = some ks ∧ keyL p = ks ∧ ks.map kyT = b := by
  unfold isRow at h
  split at h
  · rename_i xs
    split at h
    · rename_i ks e
      have := keysOf_kyV e
      subst this
      exact ⟨ks, rfl, e, keysOf_fm e, of_decide_eq_true h⟩
    · cases h
  · cases h
theorem int_of {p : PV} (h : isIntV p = true) : ∃ i, p = .int i := by
  cases p <;> first | exact ⟨_, rfl⟩ | cases h
theorem str_of {p : PV} (h : isStrV p = true) : ∃ i, p = .str i := by
  cases p <;> first | exact ⟨_, rfl⟩ | cases h
theorem sortable_inj {xs : List PV} (h : sortable xs = true) : ∀ x ∈ xs, ∀ y ∈ xs, keyL x = keyL y → x = y := by
  intro x hx y hy e
  unfold sortable at h
  rw [Bool.or_eq_true, Bool.or_eq_true, Bool.and_eq_true, List.all_eq_true, List.all_eq_true, List.all_eq_true] at h
  rcases h with (h | h) | ⟨_, h⟩
  · obtain ⟨i, rfl⟩ := int_of (h x hx)
    obtain ⟨j, rfl⟩ := int_of (h y hy)
    cases e; rfl
  · obtain ⟨i, rfl⟩ := str_of (h x hx)
    obtain ⟨j, rfl⟩ := str_of (h y hy)
    cases e; rfl
  · obtain ⟨ks, rfl, _, e1, _⟩ := row_of (h x hx)
    obtain ⟨ls, rfl, _, e2, _⟩ := row_of (h y hy)
    rw [e1, e2] at e
    rw [e]
theorem srt_is {xs l : List PV} (h : sortable xs = true) (p : l.Perm xs) (s : l.Pairwise (fun a b => ltv b a = false)) : l = srtV xs :=
  srt_uniq (fun x hx y hy => sortable_inj h x (p.mem_iff.mp hx) y (p.mem_iff.mp hy)) (p.trans (srtV_perm xs).symm) s (srtV_srt xs)

/-! ### values -/
inductive Rw1 : Value → Ky → Prop
  | int (i : Int) (t : Tok) : Rw1 (.int i t) (.inl i)
  | str (s : Str) (t : Tok) : Rw1 (.str s t) (.inr s.cps.toList)
inductive Rws : List Value → List Ky → Prop
  | nil : Rws [] []
  | cons {v : Value} {k : Ky} {vs : List Value} {ks : List Ky} : Rw1 v k → Rws vs ks → Rws (v :: vs) (k :: ks)
def v1 : Value → Ky
  | .int i _ => .inl i
  | .str s _ => .inr s.cps.toList
  | _ => .inl 0
def vk (h : Heap) : Value → List Ky
  | .ref a => match h.get? a with
    | some o => match o.data with
      | .seq xs _ => xs.toList.map v1
      | _ => []
    | none => []
  | v => [v1 v]
theorem Rws.v1 : ∀ {vs : List Value} {ks : List Ky}, Rws vs ks → vs.map Dk.v1 = ks
  | _, _, .nil => rfl
  | _, _, .cons (.int i t) r => by rw [List.map_cons, r.v1]; rfl
  | _, _, .cons (.str i t) r => by rw [List.map_cons, r.v1]; rfl
section
variable {prog : Program} {w : World} {A : Around} {E : Value → Shared → Prop} {s : Shared}
theorem kat_rows {Q : Bool → Shared → Prop} : ∀ {xs ys : List Value} {ks ls : List Ky} (i : Nat), Rws xs ks → Rws ys ls → ks.map kyT = ls.map kyT → Q (lexKy ks ls) s → PySem.W.KatLex prog w A true false Q (xs.zip ys) i s
  | _, _, _, _, i, .nil, .nil, _, h => PySem.W.kat_nil h
  | _, _, _, _, i, .nil, .cons _ _, e, h => by cases e
  | _, _, _, _, i, .cons _ _, .nil, e, h => by cases e
  | _, _, _, _, i, .cons (.int x t) r, .cons (.int y u) q, e, h => by
    rw [List.zip_cons_cons]
    refine PySem.W.kat_cons (SeqAt.EqAt.int_int x t y u prog w _ _ ?_)
    have h : Q (if (Sum.inl x : Ky) = .inl y then _ else decide (x < y)) s := h
    refine PySem.W.kat_go (fun e1 => ?_) (fun e1 => ?_)
    · have ex : x = y := by simpa using e1
      subst ex
      rw [if_pos rfl] at h
      exact PySem.W.kat_yes (kat_rows (i + 1) r q (List.cons.inj e).2 h)
    · have ex : ¬ x = y := by simpa using e1
      rw [if_neg fun z => ex (Sum.inl.inj z)] at h
      refine PySem.W.kat_no ?_
      cases hc : (true && i == 0) with
      | false => exact PySem.W.kat_one _ _ (PyProof.Rows.lt_int h)
      | true => exact oneLt_int h
  | _, _, _, _, i, .cons (.str x t) r, .cons (.str y u) q, e, h => by
    rw [List.zip_cons_cons]
    refine PySem.W.kat_cons (SeqAt.EqAt.str_str x t y u prog w _ _ ?_)
    have h : Q (if (Sum.inr x.cps.toList : Ky) = .inr y.cps.toList then _ else decide (x.cps.toList < y.cps.toList)) s := h
    refine PySem.W.kat_go (fun e1 => ?_) (fun e1 => ?_)
    · have ex : x = y := by simpa using e1
      subst ex
      rw [if_pos rfl] at h
      exact PySem.W.kat_yes (kat_rows (i + 1) r q (List.cons.inj e).2 h)
    · have ex : ¬ x = y := by simpa using e1
      have ne : ¬ x.cps.toList = y.cps.toList := fun z => ex (by
        cases x; cases y
        congr 1
        exact Array.toList_inj.mp z)
      rw [if_neg fun z => ne (Sum.inr.inj z)] at h
      refine PySem.W.kat_no ?_
      cases hc : (true && i == 0) with
      | false => exact PySem.W.kat_one _ _ (PyProof.Rows.lt_str h)
      | true => exact oneLt_str h
  | _, _, _, _, i, .cons (.int x t) r, .cons (.str y u) q, e, h => by cases e
  | _, _, _, _, i, .cons (.str x t) r, .cons (.int y u) q, e, h => by cases e
end
/-- a tuple of ints and texts in the heap -/
def RowAt (h : Heap) (u : Value) (ks : List Ky) : Prop := ∃ a o xs n, u = .ref a ∧ h.get? a = some o ∧ o.cls = .type "tuple" ∧ o.data = .seq xs n ∧ Rws xs.toList ks
theorem RowAt.keeps {h h' : Heap} {u : Value} {ks : List Ky} (p : RowAt h u ks) (k : ∀ b o, h.get? b = some o → o.cls = .type "tuple" → h'.get? b = some o) : RowAt h' u ks := by
  obtain ⟨a, o, xs, n, e, ho, hc, hd, r⟩ := p
  exact ⟨a, o, xs, n, e, k _ _ ho hc, hc, hd, r⟩
theorem RowAt.vk {h : Heap} {u : Value} {ks : List Ky} (p : RowAt h u ks) : vk h u = ks := by
  obtain ⟨a, o, xs, n, rfl, ho, hc, hd, r⟩ := p
  show (match h.get? a with | some o => (match o.data with | .seq xs _ => xs.toList.map v1 | _ => []) | none => []) = ks
  rw [ho]
  dsimp only
  rw [hd]
  exact r.v1
section
variable {prog : Program} {w : World} {A : Around} {E : Value → Shared → Prop} {s : Shared}
theorem row_cmp {h0 : Heap} {us : List Value} {b : List Bool} (hp : ∀ u ∈ us, ∃ ks, RowAt s.heap u ks ∧ vk h0 u = ks ∧ ks.map kyT = b) : SrtO.Cmp prog w A s (tuples' true) (fun p => p.1 ∈ us) (SrtO.lt2 fun v u => lexKy (vk h0 v) (vk h0 u)) := by
  intro p q hm hm'
  obtain ⟨ks, ⟨a, o, xs, n, e, ho, hc, hd, r⟩, k1, k2⟩ := hp _ hm
  obtain ⟨ls, ⟨a', o', xs', n', e', ho', hc', hd', r'⟩, k1', k2'⟩ := hp _ hm'
  show wpAny (model prog w) A (keyLt' (tuples' true) p.1 q.1) (fun r s' => s' = s ∧ r = lexKy (vk h0 p.1) (vk h0 q.1)) (fun _ _ => False) s
  rw [k1, k1', e, e']
  refine PySem.W.kat_lt ho hd ho' hd' ?_
  have len : ∀ {vs : List Value} {ks : List Ky}, Rws vs ks → vs.length = ks.length := fun {vs ks} h => by
    have := congrArg List.length h.v1
    rw [List.length_map] at this
    exact this
  have hl : xs.size = xs'.size := by
    have h1 := len r
    have h2 := len r'
    have h3 := congrArg List.length (k2.trans k2'.symm)
    rw [List.length_map, List.length_map] at h3
    rw [Array.length_toList] at h1 h2
    omega
  have hf : decide (xs.size < xs'.size) = false := decide_eq_false (by omega)
  rw [hf]
  exact kat_rows 0 r r' (k2.trans k2'.symm) ⟨rfl, rfl⟩
theorem row_sortable {h0 : Heap} {a : Addr} {us : List Value} {b : List Bool} (hb : b ≠ []) (h2 : 2 ≤ us.length) (hp : ∀ u ∈ us, ∃ ks, RowAt s.heap u ks ∧ vk h0 u = ks ∧ ks.map kyT = b) (ha : ∀ o, s.heap.get? a = some o → o.cls ≠ .type "tuple") : SrtO.SortableO prog w A s a us fun v u => lexKy (vk h0 v) (vk h0 u) := by
  intro h' keep
  have hp' : ∀ u ∈ us, ∃ ks, RowAt h' u ks ∧ vk h0 u = ks ∧ ks.map kyT = b := fun u hm => by
    obtain ⟨ks, r, k⟩ := hp u hm
    exact ⟨ks, r.keeps fun b o e c => keep b o (fun z => by subst z; exact ha o e c) e, k⟩
  match b, hb with
  | c :: b, _ =>
  have firsts : ∀ {vs : List Value}, (∀ u ∈ vs, ∃ ks, RowAt h' u ks ∧ vk h0 u = ks ∧ ks.map kyT = c :: b) → ∃ fs : List Value, PySem.W.KatTups h' vs fs ∧ fs.length = vs.length ∧ ∀ f ∈ fs, ∃ k, Rw1 f k ∧ kyT k = c := by
    intro vs
    induction vs with
    | nil => exact fun _ => ⟨[], PySem.W.KatTups.nil, rfl, fun _ hm => by simp at hm⟩
    | cons v vs ih =>
      intro hp
      obtain ⟨fs, h1, h2, h3⟩ := ih fun u hu => hp u (List.mem_cons_of_mem _ hu)
      obtain ⟨ks, ⟨a, o, xs, n, e, ho, hc, hd, r⟩, k1, k2⟩ := hp v List.mem_cons_self
      subst e
      match hx : xs.toList, ks, r, k2 with
      | [], [], _, k2 => cases k2
      | x :: xr, k :: kr, r, k2 =>
        cases r with
        | cons r1 r2 =>
        refine ⟨x :: fs, PySem.W.KatTups.cons ho hc hd (by rw [← Array.getElem?_toList, hx]; rfl) h1, by rw [List.length_cons, List.length_cons, h2], fun f hm => ?_⟩
        rcases List.mem_cons.mp hm with rfl | hm
        · exact ⟨k, r1, (List.cons.inj k2).1⟩
        · exact h3 f hm
  obtain ⟨fs, h1, h3, h4⟩ := firsts hp'
  refine ⟨tuples' true, fun Q E hq => ?_, row_cmp hp'⟩
  cases c with
  | false =>
    refine PySem.W.kat_kind (T := .type "int") h1 (by omega) (fun f hm => ?_) (by rfl) ?_
    · obtain ⟨k, r, e⟩ := h4 f hm
      cases r with
      | int i t => exact PySem.W.Looks.now
      | str x t => cases e
    · have e : (Value.type "int" != Value.type "tuple") = true := by first | decide +kernel | rfl | decide
      rw [e]
      exact hq
  | true =>
    refine PySem.W.kat_kind (T := .type "str") h1 (by omega) (fun f hm => ?_) (by rfl) ?_
    · obtain ⟨k, r, e⟩ := h4 f hm
      cases r with
      | int i t => cases e
      | str x t => exact PySem.W.Looks.now
    · have e : (Value.type "str" != Value.type "tuple") = true := by first | decide +kernel | rfl | decide
      rw [e]
      exact hq
theorem ints_sortable' {h0 : Heap} {a : Addr} {vs : List Value} {ns : List Int} (hI : IntsAre vs ns) (h2 : 2 ≤ vs.length) : SrtO.SortableO prog w A s a vs fun v u => lexKy (vk h0 v) (vk h0 u) := by
  intro h' _
  refine ⟨oneType', fun Q E hq => ?_, fun p q hm hm' => ?_⟩
  · match vs, hI, h2 with
    | v1 :: v2 :: rest, hI, _ =>
      rw [keyKind_ints hI]
      exact wpAny_pure hq
    | [], _, h => exact absurd h (by decide)
    | [v], _, h => exact absurd h (by simp)
  · obtain ⟨x, t, e⟩ := SrtO.ints_mem hI _ hm
    obtain ⟨y, u, e'⟩ := SrtO.ints_mem hI _ hm'
    show wpAny (model prog w) A (keyLt' oneType' p.1 q.1) (fun r s' => s' = _ ∧ r = lexKy (vk h0 p.1) (vk h0 q.1)) (fun _ _ => False) _
    rw [e, e', keyLt'_oneType]
    refine oneLt_int ⟨rfl, ?_⟩
    show decide (x < y) = (if (Sum.inl x : Ky) = .inl y then false else decide (x < y))
    by_cases z : x = y
    · subst z
      rw [if_pos rfl]
      exact decide_eq_false (Int.lt_irrefl x)
    · rw [if_neg fun q => z (Sum.inl.inj q)]
theorem strs_sortable' {h0 : Heap} {a : Addr} {vs : List Value} {ns : List Str} (hI : StrsAre vs ns) (h2 : 2 ≤ vs.length) : SrtO.SortableO prog w A s a vs fun v u => lexKy (vk h0 v) (vk h0 u) := by
  intro h' _
  refine ⟨oneType', fun Q E hq => ?_, fun p q hm hm' => ?_⟩
  · match vs, hI, h2 with
    | v1 :: v2 :: rest, hI, _ =>
      rw [keyKind_strs hI]
      exact wpAny_pure hq
    | [], _, h => exact absurd h (by decide)
    | [v], _, h => exact absurd h (by simp)
  · obtain ⟨x, t, e⟩ := hI.all _ hm
    obtain ⟨y, u, e'⟩ := hI.all _ hm'
    show wpAny (model prog w) A (keyLt' oneType' p.1 q.1) (fun r s' => s' = _ ∧ r = lexKy (vk h0 p.1) (vk h0 q.1)) (fun _ _ => False) _
    rw [e, e', keyLt'_oneType]
    refine oneLt_str ⟨rfl, ?_⟩
    show decide (x.cps.toList < y.cps.toList) = (if (Sum.inr x.cps.toList : Ky) = .inr y.cps.toList then false else decide (x.cps.toList < y.cps.toList))
    by_cases z : x.cps.toList = y.cps.toList
    · rw [z, if_pos rfl]
      exact decide_eq_false (List.lt_irrefl _)
    · rw [if_neg fun q => z (Sum.inr.inj q)]
end
/-- trees, how they are kept, the values -/
inductive R3 (A : AS) (H : Hp) (h : Heap) : List PV → List V → List Value → Prop
  | nil : R3 A H h [] [] []
  | cons {p : PV} {v : V} {u : Value} {ps : List PV} {vs : List V} {us : List Value} : Rp A H p v → RelV v u → R3 A H h ps vs us → R3 A H h (p :: ps) (v :: vs) (u :: us)
theorem R3.of {A : AS} {H : Hp} {h : Heap} : ∀ {ps : List PV} {vs : List V} {us : List Value}, RpL A H ps vs → Vals vs us → R3 A H h ps vs us
  | _, _, _, .nil, r => by cases r; exact .nil
  | _, _, _, .cons a b, r => by cases r with | cons c d => exact .cons a c (R3.of b d)
theorem R3.to {A : AS} {H : Hp} {h : Heap} : ∀ {ps : List PV} {vs : List V} {us : List Value}, R3 A H h ps vs us → RpL A H ps vs ∧ Vals vs us
  | _, _, _, .nil => ⟨.nil, .nil⟩
  | _, _, _, .cons a c r => ⟨.cons a r.to.1, .cons c r.to.2⟩
theorem R3.perm {A : AS} {H : Hp} {h : Heap} {us out : List Value} (q : us.Perm out) : ∀ {ps : List PV} {vs : List V}, R3 A H h ps vs us → ∃ ps' vs', ps'.Perm ps ∧ R3 A H h ps' vs' out := by
  induction q with
  | nil => exact fun {ps vs} r => ⟨ps, vs, List.Perm.refl _, r⟩
  | cons x _ ih =>
    intro ps vs r
    cases r with
    | cons a c r =>
      obtain ⟨ps', vs', p, r'⟩ := ih r
      exact ⟨_, _, p.cons _, .cons a c r'⟩
  | swap x y l =>
    intro ps vs r
    cases r with
    | cons a c r => cases r with
      | cons b d r => exact ⟨_, _, List.Perm.swap _ _ _, .cons b d (.cons a c r)⟩
  | trans _ _ ih1 ih2 =>
    intro ps vs r
    obtain ⟨ps1, vs1, p1, r1⟩ := ih1 r
    obtain ⟨ps2, vs2, p2, r2⟩ := ih2 r1
    exact ⟨ps2, vs2, p2.trans p1, r2⟩
theorem R3.all {A : AS} {H : Hp} {h : Heap} {P : PV → Value → Prop} : ∀ {ps : List PV} {vs : List V} {us : List Value}, R3 A H h ps vs us → (∀ p v u, p ∈ ps → Rp A H p v → RelV v u → P p u) → ∀ u ∈ us, ∃ p ∈ ps, P p u
  | _, _, _, .nil, _, u, m => by cases m
  | _, _, _, .cons a c r, f, u, m => by
    rcases List.mem_cons.mp m with e | m
    · subst e
      exact ⟨_, List.mem_cons_self, f _ _ _ List.mem_cons_self a c⟩
    · obtain ⟨p, hp, q⟩ := r.all (fun p v u m => f p v u (List.mem_cons_of_mem _ m)) u m
      exact ⟨p, List.mem_cons_of_mem _ hp, q⟩
theorem R3.keys {A : AS} {H : Hp} {h : Heap} {k : Value → List Ky} : ∀ {ps : List PV} {vs : List V} {us : List Value}, R3 A H h ps vs us → (∀ p v u, p ∈ ps → Rp A H p v → RelV v u → k u = keyL p) → us.map k = ps.map keyL
  | _, _, _, .nil, _ => rfl
  | _, _, _, .cons a c r, f => by
    rw [List.map_cons, List.map_cons, f _ _ _ List.mem_cons_self a c, r.keys fun p v u m => f p v u (List.mem_cons_of_mem _ m)]
section
variable {X : Cx}
theorem row_vals {A : AS} {H : Hp} : ∀ {ks : List Ky} {vs : List V} {us : List Value}, RpL A H (ks.map kyV) vs → Vals vs us → Rws us ks
  | [], _, _, r, q => by cases r; cases q; exact .nil
  | k :: ks, _, _, r, q => by
    cases r with
    | cons a b => cases q with
      | cons c d =>
        refine .cons ?_ (row_vals b d)
        cases k with
        | inl i =>
          cases a
          obtain ⟨t, rfl⟩ := c
          exact .int i t
        | inr x =>
          cases a with
          | str _ _ =>
          obtain ⟨t, rfl⟩ := c
          exact .str (mkS x) t
theorem sortB (hc : X.calm = true) : CallR X (.builtin "sorted") (rCal sortF) := by
  intro pins s σ H vs us Q I r h
  obtain ⟨A, ps, r0, fr, al, rs, e, k⟩ := h
  unfold sortF at e
  split at e
  · rename_i xs
    split at e
    · rename_i hs
      cases e
      obtain ⟨v, rfl, hb⟩ := rs.one
      obtain ⟨a, ws, rfl, d, z, t⟩ := hb.lst
      obtain ⟨its, rv, hl, hz⟩ := I.list (sqL d)
      obtain ⟨u, rfl, ru⟩ := vals1 r
      obtain rfl : u = Value.ref a := ru
      have r3 : R3 A H s.heap xs ws its := R3.of t rv
      have kind : ∀ p v u, p ∈ xs → Rp A H p v → RelV v u → (isIntV p = true → ∃ i t, u = Value.int i t) ∧ (isStrV p = true → ∃ i t, u = Value.str i t) ∧ (∀ b, isRow b p = true → ∃ ks, RowAt s.heap u ks ∧ ks.map kyT = b ∧ keyL p = ks) := by
        intro p v u _ hp hv
        refine ⟨fun q => ?_, fun q => ?_, fun b q => ?_⟩
        · obtain ⟨i, rfl⟩ := int_of q
          cases hp
          obtain ⟨t, rfl⟩ := hv
          exact ⟨i, t, rfl⟩
        · obtain ⟨i, rfl⟩ := str_of q
          cases hp
          obtain ⟨t, rfl⟩ := hv
          exact ⟨_, t, rfl⟩
        · obtain ⟨ks, rfl, _, e1, e2⟩ := row_of q
          cases hp with
          | tup ha _ hr =>
          obtain rfl : u = Value.ref _ := hv
          obtain ⟨_, its2, r2, o, ho, hc, n, hd⟩ := I.hok _ _ ha
          exact ⟨ks, ⟨_, o, _, n, rfl, ho, hc, hd, row_vals hr r2⟩, e2, e1⟩
      have keys : ∀ p v u, p ∈ xs → Rp A H p v → RelV v u → vk s.heap u = keyL p := by
        intro p v u hm hp hv
        have hs := hs
        unfold sortable at hs
        rw [Bool.or_eq_true, Bool.or_eq_true, Bool.and_eq_true, List.all_eq_true, List.all_eq_true, List.all_eq_true] at hs
        rcases hs with (hs | hs) | ⟨_, hs⟩
        · obtain ⟨i, rfl⟩ := int_of (hs p hm)
          cases hp
          obtain ⟨t, rfl⟩ := hv
          rfl
        · obtain ⟨i, rfl⟩ := str_of (hs p hm)
          cases hp
          obtain ⟨t, rfl⟩ := hv
          rfl
        · obtain ⟨ks, h1, h2, h3⟩ := (kind p v u hm hp hv).2.2 _ (hs p hm)
          rw [h1.vk, h3]
      refine SrtO.sorted_ord (swo_key (vk s.heap)) hl.isList (by rw [← rv.length]; exact hz) (fun h2 h₁ a' ha kk => ?_) fun out h1 h2 => ?_
      · have hs := hs
        unfold sortable at hs
        rw [Bool.or_eq_true, Bool.or_eq_true, Bool.and_eq_true, List.all_eq_true, List.all_eq_true, List.all_eq_true] at hs
        rcases hs with (hs | hs) | ⟨hb, hs⟩
        · refine ints_sortable' (ns := its.map SrtO.iv) (SrtO.ints_iv fun u hu => ?_) h2
          obtain ⟨p, hp, q⟩ := r3.all kind u hu
          exact q.1 (hs p hp)
        · have : ∀ vs : List Value, (∀ u ∈ vs, ∃ i t, u = Value.str i t) → ∃ ns, StrsAre vs ns := by
            intro vs
            induction vs with
            | nil => exact fun _ => ⟨[], .nil⟩
            | cons v vs ih =>
              intro h
              obtain ⟨ns, q⟩ := ih fun u hu => h u (List.mem_cons_of_mem _ hu)
              obtain ⟨i, t, rfl⟩ := h v List.mem_cons_self
              exact ⟨_, .cons i t q⟩
          obtain ⟨ns, q⟩ := this its fun u hu => by
            obtain ⟨p, hp, q⟩ := r3.all kind u hu
            exact q.2.1 (hs p hp)
          exact strs_sortable' q h2
        · refine row_sortable (s := { s with heap := h₁ }) (b := rowOf xs) (fun q => by rw [q] at hb; cases hb) h2 (fun u hu => ?_) fun o q => ?_
          · obtain ⟨p, hp, q⟩ := r3.all kind u hu
            obtain ⟨ks, q1, q2, q3⟩ := q.2.2 _ (hs p hp)
            exact ⟨ks, q1.keeps fun b o e _ => (kk b o e).2, q1.vk, q2⟩
          · have e' : some o = some (PyProof.Rows.seqObj "list" its.toArray 0) := q.symm.trans ha
            cases e'
            intro c
            exact absurd (Value.type.inj c) (by decide)
      · obtain ⟨ep, he'⟩ := PyProof.Rows.sortedAll_at s.heap its out.toArray
        obtain ⟨ps', ws', p1, r3'⟩ := R3.perm h2.perm.symm r3
        have mem : ∀ p, p ∈ ps' → p ∈ xs := fun p m => p1.mem_iff.mp m
        have hk := r3'.keys (k := vk s.heap) fun p v u m => keys p v u (mem p m)
        have srt : ps'.Pairwise (fun a b => ltv b a = false) := by
          have q1 : (out.map (vk s.heap)).Pairwise (fun a b => lexKy b a = false) := List.pairwise_map.mpr h1
          rw [hk] at q1
          exact List.pairwise_map.mp q1
        have es := srt_is hs p1 srt
        subst es
        obtain ⟨t1, t2⟩ := r3'.to
        have hlen : ws'.length ≤ sizeLine := by
          rw [← t1.len, p1.length_eq, t.len]
          exact z
        exact ⟨.ref _, upd H (s.heap.objs.size + 1) (.lst ws'), I.laid (t' := s.toks) (fun _ _ => PyProof.Rows.sortedAll_old) (Nat.le_succ _) ⟨hlen, out, ep, t2, he'⟩, rfl, k _ _ (.lst t1 (I.hok.fresh (Nat.le_succ _)) hlen)⟩
    · cases e
  · cases e
end
end Dk

set_option Elab.async false
set_option linter.all false
set_option autoImplicit false
set_option maxRecDepth 100000
set_option maxHeartbeats 1000000
/-! Dk7: the judgements between the interpreter and the layer; expressions. -/
namespace Dk
open PySem PySem.Spec PyProof.Rows L2

/-- what a value is, from (env, σ, H) to (env', σ', H') -/
def RV (F : AS) (env : En) (σ : Sg) (H : Hp) (env' : En) (σ' : Sg) (H' : Hp) (p : PV) (fr : Bool) (v : V) : Prop :=
  if fr = true then ∃ a, v = .ref a ∧ (Ow env σ a ∨ H a = none) ∧ ¬ F a ∧ ¬ Ow env' σ' a ∧ Mt (fun b => F b ∨ b = a) env' σ' H' ∧ Own (Av (fun b => F b ∨ b = a) env' σ') H' p a
  else Mt F env' σ' H' ∧ Rp (Av F env' σ') H' p v
/-- an expression's step -/
structure Xs (env : En) (σ : Sg) (H : Hp) (env' : En) (H' : Hp) : Prop where
  stp : Stp (Ow env σ) H H'
  sb : Sb env σ env'
theorem Xs.refl {env : En} {σ : Sg} {H : Hp} : Xs env σ H env H := ⟨Stp.refl, Sb.refl⟩
theorem Xs.trans {e1 e2 e3 : En} {σ : Sg} {H1 H2 H3 : Hp} (a : Xs e1 σ H1 e2 H2) (b : Xs e2 σ H2 e3 H3) : Xs e1 σ H1 e3 H3 :=
  ⟨a.stp.trans b.stp fun x h => .inl (a.sb.sub x h), a.sb.trans b.sb⟩
theorem Xs.new {env : En} {σ : Sg} {H H' : Hp} (s : Stp (fun _ => False) H H') : Xs env σ H env H' := ⟨s.mono fun _ z => z.elim, Sb.refl⟩
theorem av_up {F F' : AS} {env env' : En} {σ : Sg} (h1 : ∀ a, F' a → F a) (h2 : ∀ a, Ow env' σ a → Ow env σ a) : ∀ a, Av F' env' σ a → Av F env σ a := fun a h => h.imp (h1 a) (h2 a)
theorem RV.val {F : AS} {env : En} {σ : Sg} {H : Hp} {env' : En} {σ' : Sg} {H' : Hp} {p : PV} {fr : Bool} {v : V} (h : RV F env σ H env' σ' H' p fr v) : Mt F env' σ' H' ∧ Rp (Av F env' σ') H' p v := by
  unfold RV at h
  cases fr with
  | false => rw [if_neg (by decide)] at h; exact h
  | true =>
    rw [if_pos rfl] at h
    obtain ⟨a, rfl, _, nF, nO, m, o⟩ := h
    exact ⟨m.weak fun b z => .inl z, o.rp (fun z => z.elim nF nO) fun b z => .inl (z.imp .inl id)⟩
theorem RV.of {F : AS} {env : En} {σ : Sg} {H : Hp} {env' : En} {σ' : Sg} {H' : Hp} {p : PV} {v : V} (m : Mt F env' σ' H') (r : Rp (Av F env' σ') H' p v) : RV F env σ H env' σ' H' p false v := by
  unfold RV
  rw [if_neg (by decide)]
  exact ⟨m, r⟩
/-- seen from an earlier place -/
theorem RV.back {F F1 : AS} {env e1 : En} {σ : Sg} {H H1 : Hp} {e2 : En} {σ' : Sg} {H2 : Hp} {p : PV} {fr : Bool} {v : V} (h : RV F1 e1 σ H1 e2 σ' H2 p fr v) (up : ∀ a, F a → F1 a) (x : Xs env σ H e1 H1) : RV F env σ H e2 σ' H2 p fr v := by
  unfold RV at h ⊢
  cases fr with
  | false =>
    rw [if_neg (by decide)] at h ⊢
    exact ⟨h.1.weak up, h.2.mono fun a z => .inl (z.imp (up a) id)⟩
  | true =>
    rw [if_pos rfl] at h ⊢
    obtain ⟨a, rfl, n, nF, nO, m, o⟩ := h
    exact ⟨a, rfl, n.imp (x.sb.sub a) (x.stp.dom a), fun z => nF (up a z), nO, m.weak fun b z => z.imp (up b) id, o.mono fun b z => .inl (z.imp (fun q => q.imp (up b) id) id)⟩
theorem NV.rv {F : AS} {env : En} {σ : Sg} {H H' : Hp} {p : PV} {fr : Bool} {v : V} (m : Mt F env σ H) (n : NV (Av F env σ) H p fr v H') : RV F env σ H env σ H' p fr v := by
  obtain ⟨s, h⟩ := n
  unfold RV
  cases fr with
  | false =>
    rw [if_neg (by decide)] at h ⊢
    exact ⟨m.stp s (fun a z e => m.al a z (s.dom a e)) fun a z => .inl z, h⟩
  | true =>
    rw [if_pos rfl] at h ⊢
    obtain ⟨a, rfl, na, o⟩ := h
    refine ⟨a, rfl, .inr na, fun z => m.al a z na, fun z => m.there (.inr z) na, m.stp s (fun b z e => ?_) (fun b z => z.imp id fun e => by subst e; exact na), o.mono fun b z => .inl ?_⟩
    · rcases z with z | z
      · exact m.al b z (s.dom b e)
      · subst z; exact o.there e
    · rcases z with (z | z) | z
      · exact .inl (.inl z)
      · exact .inr z
      · exact .inl (.inr z)
theorem NV.imp {A A' : AS} {H H' : Hp} {p : PV} {fr : Bool} {v : V} (n : NV A H p fr v H') (m : ∀ a, A' a → A a) : NV A' H p fr v H' := by
  obtain ⟨s, h⟩ := n
  refine ⟨s, ?_⟩
  cases fr with
  | false => rw [if_neg (by decide)] at h ⊢; exact h.mono fun a z => .inl (m a z)
  | true =>
    rw [if_pos rfl] at h ⊢
    obtain ⟨a, e, na, o⟩ := h
    exact ⟨a, e, na, o.mono fun b z => .inl (z.imp (m b) id)⟩

/-! ### operands -/
def AgR (F : AS) (env : En) (σ : Sg) (H : Hp) (ag : Ag) (v : V) : Prop :=
  match ag with
  | .v p => Rp (Av F env σ) H p v
  | .s i => σ[i]? = some (some v)
  | .t p => ∃ a, v = .ref a ∧ F a ∧ Own (Av F env σ) H p a
/-- what is held apart may have grown -/
structure Or (F : AS) (env : En) (σ : Sg) (H : Hp) (env' : En) (H' : Hp) (F' : AS) : Prop where
  up : ∀ a, F a → F' a
  new : ∀ a, F' a → F a ∨ Ow env σ a ∨ H a = none
  mt : Mt F' env' σ H'
theorem Or.refl {F : AS} {env : En} {σ : Sg} {H : Hp} (m : Mt F env σ H) : Or F env σ H env H F := ⟨fun _ h => h, fun _ h => .inl h, m⟩
theorem Or.trans {F F1 F2 : AS} {e0 e1 e2 : En} {σ : Sg} {H0 H1 H2 : Hp} (x : Xs e0 σ H0 e1 H1) (a : Or F e0 σ H0 e1 H1 F1) (b : Or F1 e1 σ H1 e2 H2 F2) : Or F e0 σ H0 e2 H2 F2 :=
  ⟨fun z h => b.up z (a.up z h), fun z h => by
    rcases b.new z h with h | h | h
    · exact a.new z h
    · exact .inr (.inl (x.sb.sub z h))
    · exact .inr (.inr (x.stp.dom z h)), b.mt⟩
theorem AgR.move {F1 F2 : AS} {e1 e2 : En} {σ : Sg} {H1 H2 : Hp} {ag : Ag} {v : V} (h : AgR F1 e1 σ H1 ag v) (m : Mt F1 e1 σ H1) (x : Xs e1 σ H1 e2 H2) (o : Or F1 e1 σ H1 e2 H2 F2) : AgR F2 e2 σ H2 ag v := by
  have k : ∀ a, Av F2 e2 σ a → Av F1 e1 σ a ∨ H1 a = none := fun a z => by
    rcases z with z | z
    · rcases o.new a z with z | z | z
      · exact .inl (.inl z)
      · exact .inl (.inr z)
      · exact .inr z
    · exact .inl (.inr (x.sb.sub a z))
  cases ag with
  | v p => exact Rp.stp x.stp (fun a z => .inr z) k p v h
  | s i => exact h
  | t p =>
    obtain ⟨a, rfl, hF, ow⟩ := h
    refine ⟨a, rfl, o.up a hF, ow.stp x.stp (fun z => ?_) (fun b z => .inr z) k⟩
    obtain ⟨i, q, f, e, hf, q2⟩ := z
    obtain ⟨b, e1, nF, _⟩ := m.ow i q f e hf
    rw [q2] at e1
    cases e1
    exact nF hF
theorem AgR.rd {F : AS} {env : En} {σ : Sg} {H : Hp} {ag : Ag} {v : V} {p : PV} (m : Mt F env σ H) (h : AgR F env σ H ag v) (e : ag.rd env = some p) : Rb (Av F env σ) H p v := by
  cases ag with
  | v q => cases e; exact .inl h
  | t q =>
    cases e
    obtain ⟨a, rfl, _, o⟩ := h
    exact .inr ⟨a, rfl, o⟩
  | s i =>
    have e : rdSl i env = some p := e
    have h : σ[i]? = some (some v) := h
    unfold rdSl at e
    split at e
    · rename_i q f e1
      cases e
      by_cases hf : f = .fz
      · subst hf
        obtain ⟨w, e2, r⟩ := m.fz i _ e1
        rw [h] at e2; cases e2
        exact .inl r
      · obtain ⟨a, e2, _, o⟩ := m.ow i _ f e1 hf
        rw [h] at e2; cases e2
        exact .inr ⟨a, rfl, o⟩
    · cases e

def tE (f : En → Res PB) : TE := fun σ H Q => ∃ F env, Mt F env σ H ∧ match f env with
  | .ok r env' => ∀ v H', Xs env σ H env' H' → RV F env σ H env' σ H' r.1 r.2 v → Q v H'
  | .bad => False
def tO (f : En → Res Ag) : TE := fun σ H Q => ∃ F env, Mt F env σ H ∧ match f env with
  | .ok ag env' => ∀ v H' F', Xs env σ H env' H' → Or F env σ H env' H' F' → (∀ p, ag = .t p → ∀ a, v = .ref a → ¬ F a) → AgR F' env' σ H' ag v → Q v H'
  | .bad => False
def tB (f : En → Res Bool) : TT := fun σ H Q => ∃ F env, Mt F env σ H ∧ match f env with
  | .ok b env' => ∀ H', Xs env σ H env' H' → Mt F env' σ H' → Q b H'
  | .bad => False
theorem peI {X : Cx} {e : Expr} {t t' : TE} (h : PE X e t) (m : ∀ σ H Q, t' σ H Q → t σ H Q) : PE X e t' := ⟨fun pins s σ H Q I q => h.run pins s σ H Q I (m σ H Q q)⟩
theorem ptI {X : Cx} {e : Expr} {t t' : TT} (h : PT X e t) (m : ∀ σ H Q, t' σ H Q → t σ H Q) : PT X e t' := ⟨fun pins s σ H Q I q => h.run pins s σ H Q I (m σ H Q q)⟩
theorem pwI {X : Cx} {e : Expr} {t t' : TT} (h : PW X e t) (m : ∀ σ H Q, t' σ H Q → t σ H Q) : PW X e t' := ⟨fun wh pins s σ H Q I q => h.run wh pins s σ H Q I (m σ H Q q)⟩
theorem paI {X : Cx} {es : List Expr} {t t' : TA} (h : PA X es t) (m : ∀ σ H Q, t' σ H Q → t σ H Q) : PA X es t' := ⟨fun pos pins s σ H Q I q => h.run pos pins s σ H Q I (m σ H Q q)⟩

/-- the interpreter's answer is not bad -/
theorem bind_ok {α β : Type} {r : Res α} {k : α → En → Res β} {b : β} {e : En} (h : r.bind k = .ok b e) : ∃ a e1, r = .ok a e1 ∧ k a e1 = .ok b e := by
  cases r with
  | ok a e1 => exact ⟨a, e1, rfl, h⟩
  | bad => cases h
theorem opt_ok {α : Type} {o : Option α} {e e' : En} {a : α} (h : opt o e = .ok a e') : o = some a ∧ e' = e := by
  cases o with
  | some b => cases h; exact ⟨rfl, rfl⟩
  | none => cases h
theorem optE_ok {o : Option PV} {e e' : En} {a : PB} (h : optE o e = .ok a e') : o = some a.1 ∧ a.2 = false ∧ e' = e := by
  obtain ⟨h1, h2⟩ := opt_ok h
  obtain ⟨p, e1, e2⟩ := Option.map_eq_some_iff.mp h1
  subst e2
  exact ⟨e1, rfl, h2⟩
theorem tE_iff {f : En → Res PB} {σ : Sg} {H : Hp} {Q : VK} : tE f σ H Q ↔ ∃ F env r env', Mt F env σ H ∧ f env = .ok r env' ∧ ∀ v H', Xs env σ H env' H' → RV F env σ H env' σ H' r.1 r.2 v → Q v H' := by
  constructor
  · rintro ⟨F, env, m, h⟩
    cases e : f env with
    | ok r env' => rw [e] at h; exact ⟨F, env, r, env', m, e, h⟩
    | bad => rw [e] at h; exact h.elim
  · rintro ⟨F, env, r, env', m, e, h⟩
    exact ⟨F, env, m, by rw [e]; exact h⟩
theorem tO_iff {f : En → Res Ag} {σ : Sg} {H : Hp} {Q : VK} : tO f σ H Q ↔ ∃ F env r env', Mt F env σ H ∧ f env = .ok r env' ∧ ∀ v H' F', Xs env σ H env' H' → Or F env σ H env' H' F' → (∀ p, r = .t p → ∀ a, v = .ref a → ¬ F a) → AgR F' env' σ H' r v → Q v H' := by
  constructor
  · rintro ⟨F, env, m, h⟩
    cases e : f env with
    | ok r env' => rw [e] at h; exact ⟨F, env, r, env', m, e, h⟩
    | bad => rw [e] at h; exact h.elim
  · rintro ⟨F, env, r, env', m, e, h⟩
    exact ⟨F, env, m, by rw [e]; exact h⟩
theorem tB_iff {f : En → Res Bool} {σ : Sg} {H : Hp} {Q : Bool → Hp → Prop} : tB f σ H Q ↔ ∃ F env r env', Mt F env σ H ∧ f env = .ok r env' ∧ ∀ H', Xs env σ H env' H' → Mt F env' σ H' → Q r H' := by
  constructor
  · rintro ⟨F, env, m, h⟩
    cases e : f env with
    | ok r env' => rw [e] at h; exact ⟨F, env, r, env', m, e, h⟩
    | bad => rw [e] at h; exact h.elim
  · rintro ⟨F, env, r, env', m, e, h⟩
    exact ⟨F, env, m, by rw [e]; exact h⟩

section
variable {X : Cx}
/-! ### operands from expressions -/
theorem ev_ov {e : Expr} {f : En → Res PB} (h : PE X e (tE f)) : PE X e (tO fun env => (f env).bind fun x e1 => .ok (.v x.1) e1) := by
  refine peI h fun σ H Q q => ?_
  obtain ⟨F, env, r, env', m, e, k⟩ := tO_iff.mp q
  obtain ⟨x, e1, h1, h2⟩ := bind_ok e
  cases h2
  refine tE_iff.mpr ⟨F, env, x, _, m, h1, fun v H' xs rv => ?_⟩
  obtain ⟨m', r'⟩ := rv.val
  exact k v H' F xs ⟨fun _ z => z, fun _ z => .inl z, m'⟩ (fun p e => by cases e) r'
theorem ev_ot {e : Expr} {f : En → Res PB} (h : PE X e (tE f)) : PE X e (tO fun env => (f env).bind fun x e1 => if x.2 then .ok (.t x.1) e1 else .bad) := by
  refine peI h fun σ H Q q => ?_
  obtain ⟨F, env, r, env', m, e, k⟩ := tO_iff.mp q
  obtain ⟨x, e1, h1, h2⟩ := bind_ok e
  refine tE_iff.mpr ⟨F, env, x, e1, m, h1, fun v H' xs rv => ?_⟩
  cases hx : x.2 with
  | false => rw [hx] at h2; cases h2
  | true =>
    rw [hx] at h2
    cases h2
    unfold RV at rv
    rw [hx, if_pos rfl] at rv
    obtain ⟨a, rfl, n, nF, nO, m', o⟩ := rv
    refine k _ H' _ xs ⟨fun _ z => .inl z, fun b z => ?_, m'⟩ (fun p e b e' => by cases e'; exact nF) ⟨a, rfl, .inr rfl, o⟩
    rcases z with z | z
    · exact .inl z
    · subst z; exact .inr n
theorem ev_ob {x : Str} {i : Nat} {pos : Pos} (hN : X.N[i]? = some x) (hv : Vis X.env.scope x) (hd : (x == ("__debug__" : Str)) = false) (hcd : (x == ("__classdict__" : Str)) = false) :
    PE X (.Name x pos) (tO fun env => match rdSl i env with | some _ => .ok (.s i) env | none => .bad) := by
  refine peI (pe_var (i := i) hN hv hd hcd) fun σ H Q q => ?_
  obtain ⟨F, env, r, env', m, e, k⟩ := tO_iff.mp q
  split at e
  · rename_i p hp
    cases e
    unfold rdSl at hp
    split at hp
    · rename_i q' f e1
      by_cases hf : f = .fz
      · subst hf
        obtain ⟨w, e2, r⟩ := m.fz i _ e1
        exact ⟨w, e2, k w H F Xs.refl (Or.refl m) (fun p e => by cases e) e2⟩
      · obtain ⟨a, e2, _, o⟩ := m.ow i _ f e1 hf
        exact ⟨_, e2, k _ H F Xs.refl (Or.refl m) (fun p e => by cases e) e2⟩
    · cases hp
  · cases e

/-! ### two operands, one after another -/
theorem op2 {fa fb : En → Res Ag} {σ : Sg} {H : Hp} {R : V → V → Hp → Prop} {F : AS} {env e1 e2 : En} {x y : Ag} (m : Mt F env σ H) (ea : fa env = .ok x e1) (eb : fb e1 = .ok y e2)
    (k : ∀ v w H2 F2, Xs env σ H e2 H2 → Or F env σ H e2 H2 F2 → AgR F2 e2 σ H2 x v → AgR F2 e2 σ H2 y w → R v w H2) : tO fa σ H fun v H1 => tO fb σ H1 fun w H2 => R v w H2 := by
  refine tO_iff.mpr ⟨F, env, x, e1, m, ea, fun v H1 F1 x1 o1 _ r1 => ?_⟩
  refine tO_iff.mpr ⟨F1, e1, y, e2, o1.mt, eb, fun w H2 F2 x2 o2 _ r2 => ?_⟩
  exact k v w H2 F2 (x1.trans x2) (o1.trans x1 o2) (r1.move o1.mt x2 o2) r2
/-- an answer at the end of a row of operands -/
theorem fin_nv {F F2 : AS} {env e2 : En} {σ : Sg} {H H2 H3 : Hp} {p : PV} {fr : Bool} {v : V} (x : Xs env σ H e2 H2) (o : Or F env σ H e2 H2 F2) (n : NV (Av F2 e2 σ) H2 p fr v H3) : Xs env σ H e2 H3 ∧ RV F env σ H e2 σ H3 p fr v :=
  ⟨x.trans (Xs.new n.stp), (n.rv o.mt).back o.up x⟩
theorem fin_old {F F2 : AS} {env e2 : En} {σ : Sg} {H H2 : Hp} {p : PV} {v : V} (x : Xs env σ H e2 H2) (o : Or F env σ H e2 H2 F2) (r : Rp (Av F2 e2 σ) H2 p v) : RV F env σ H e2 σ H2 p false v :=
  RV.of (o.mt.weak o.up) (r.mono fun a z => .inl (z.imp (o.up a) id))

variable {a b c : Expr} {fa fb fc : En → Res Ag} {pos : Pos}
theorem ev_bin (op : Operator) (ha : PE X a (tO fa)) (hb : PE X b (tO fb)) : PE X (.BinOp a op b pos) (tE fun env => (fa env).bind fun x e1 => (fb e1).bind fun y e2 => match x.rd e2, y.rd e2 with
    | some p, some q => opt (binF op p q) e2
    | _, _ => .bad) := by
  refine peI (pe_op (bin_ok op) ha hb) fun σ H Q q => ?_
  obtain ⟨F, env, r, env', m, e, k⟩ := tE_iff.mp q
  obtain ⟨x, e1, h1, e⟩ := bind_ok e
  obtain ⟨y, e2, h2, e⟩ := bind_ok e
  split at e
  · rename_i p q hp hq
    obtain ⟨h3, rfl⟩ := opt_ok e
    refine op2 m h1 h2 fun v w H2 F2 xs o r1 r2 => ⟨_, p, q, r.1, r.2, r1.rd o.mt hp, r2.rd o.mt hq, h3, fun u H3 n => ?_⟩
    obtain ⟨k1, k2⟩ := fin_nv xs o n
    exact k u H3 k1 k2
  · cases e
theorem ev_neg (ha : PE X a (tO fa)) : PE X (.UnaryOp .USub a pos) (tE fun env => (fa env).bind fun x e1 => match x.rd e1 with
    | some (.int i) => .ok (.int (-i), false) e1
    | _ => .bad) := by
  refine peI (pe_un un_neg ha) fun σ H Q q => ?_
  obtain ⟨F, env, r, env', m, e, k⟩ := tE_iff.mp q
  obtain ⟨x, e1, h1, e⟩ := bind_ok e
  split at e
  · rename_i i hp
    cases e
    refine tO_iff.mpr ⟨F, env, x, _, m, h1, fun v H1 F1 xs o _ r1 => ?_⟩
    have := (r1.rd o.mt hp).int
    subst this
    exact ⟨i, rfl, k _ _ xs (fin_old xs o (.int _))⟩
  · cases e
theorem ev_cmp (hu : X.A.units + 100 < cLine) (op : CmpOp) (ha : PE X a (tO fa)) (hb : PE X b (tO fb)) (hm : behindInMarks op b = false) : PE X (.Compare a [op] [b] pos) (tE fun env => (fa env).bind fun x e1 => (fb e1).bind fun y e2 => match x.rd e2, y.rd e2 with
    | some p, some q => optE ((cmpF op p q).map .bl) e2
    | _, _ => .bad) := by
  refine peI (pe_cmpR (cmp_ok hu op) ha hb hm) fun σ H Q q => ?_
  obtain ⟨F, env, r, env', m, e, k⟩ := tE_iff.mp q
  obtain ⟨x, e1, h1, e⟩ := bind_ok e
  obtain ⟨y, e2, h2, e⟩ := bind_ok e
  split at e
  · rename_i p q hp hq
    obtain ⟨h3, h4, rfl⟩ := optE_ok e
    obtain ⟨c, h5, h6⟩ := Option.map_eq_some_iff.mp h3
    refine op2 m h1 h2 fun v w H2 F2 xs o r1 r2 => ⟨_, p, q, c, r1.rd o.mt hp, r2.rd o.mt hq, h5, k _ _ xs ?_⟩
    rw [← h6, h4]
    exact fin_old xs o (.bl c)
  · cases e
theorem tv_cmp (hu : X.A.units + 100 < cLine) (op : CmpOp) (ha : PE X a (tO fa)) (hb : PE X b (tO fb)) (hm : behindInMarks op b = false) : PT X (.Compare a [op] [b] pos) (tB fun env => (fa env).bind fun x e1 => (fb e1).bind fun y e2 => match x.rd e2, y.rd e2 with
    | some p, some q => opt (cmpF op p q) e2
    | _, _ => .bad) := by
  refine ptI (pt_cmpR (cmp_ok hu op) ha hb hm) fun σ H Q q => ?_
  obtain ⟨F, env, r, env', m, e, k⟩ := tB_iff.mp q
  obtain ⟨x, e1, h1, e⟩ := bind_ok e
  obtain ⟨y, e2, h2, e⟩ := bind_ok e
  split at e
  · rename_i p q hp hq
    obtain ⟨h3, rfl⟩ := opt_ok e
    exact op2 m h1 h2 fun v w H2 F2 xs o r1 r2 => ⟨_, p, q, r, r1.rd o.mt hp, r2.rd o.mt hq, h3, r, rfl, k _ xs (o.mt.weak o.up)⟩
  · cases e
/-- a op b op' c -/
theorem ev_chn (hu : X.A.units + 100 < cLine) (op op' : CmpOp) (ha : PE X a (tO fa)) (hb : PE X b (tO fb)) (hc : PE X c (tO fc)) (hm : lastMarks [op, op'] [b, c] = false) : PE X (.Compare a [op, op'] [b, c] pos) (tE fun env => (fa env).bind fun x e1 => (fb e1).bind fun y e2 => match x.rd e2, y.rd e2 with
    | some p, some q => (opt (cmpF op p q) e2).bind fun k e3 => if k then (fc e3).bind fun z e4 => match y.rd e4, z.rd e4 with
        | some q', some r => optE ((cmpF op' q' r).map .bl) e4
        | _, _ => .bad
      else .ok (.bl false, false) e3
    | _, _ => .bad) := by
  refine peI (pe_chain (cmp_ok hu op) (cmp_ok hu op') ha hb hc hm) fun σ H Q q => ?_
  obtain ⟨F, env, r, env', m, e, k⟩ := tE_iff.mp q
  obtain ⟨x, e1, h1, e⟩ := bind_ok e
  obtain ⟨y, e2, h2, e⟩ := bind_ok e
  split at e
  · rename_i p q hp hq
    obtain ⟨d, e3, h3, e⟩ := bind_ok e
    obtain ⟨h3', rfl⟩ := opt_ok h3
    refine op2 m h1 h2 fun v w H2 F2 xs o r1 r2 => ⟨_, p, q, d, r1.rd o.mt hp, r2.rd o.mt hq, h3', d, rfl, ?_⟩
    cases d with
    | false =>
      rw [if_neg Bool.false_ne_true] at e ⊢
      cases e
      exact k _ _ xs (fin_old xs o (.bl false))
    | true =>
      rw [if_pos rfl] at e ⊢
      obtain ⟨z, e4, h4, e⟩ := bind_ok e
      split at e
      · rename_i q' r' hq' hr'
        obtain ⟨h5, h6, rfl⟩ := optE_ok e
        obtain ⟨g, h7, h8⟩ := Option.map_eq_some_iff.mp h5
        refine tO_iff.mpr ⟨F2, e3, z, env', o.mt, h4, fun u H3 F3 x3 o3 _ r3 => ?_⟩
        have r2' := r2.move o.mt x3 o3
        refine ⟨_, q', r', g, r2'.rd o3.mt hq', r3.rd o3.mt hr', h7, k _ _ (xs.trans x3) ?_⟩
        rw [← h8, h6]
        exact fin_old (xs.trans x3) (o.trans xs o3) (.bl g)
      · cases e
  · cases e
theorem tv_chn (hu : X.A.units + 100 < cLine) (op op' : CmpOp) (ha : PE X a (tO fa)) (hb : PE X b (tO fb)) (hc : PE X c (tO fc)) (hm : lastMarks [op, op'] [b, c] = false) : PT X (.Compare a [op, op'] [b, c] pos) (tB fun env => (fa env).bind fun x e1 => (fb e1).bind fun y e2 => match x.rd e2, y.rd e2 with
    | some p, some q => (opt (cmpF op p q) e2).bind fun k e3 => if k then (fc e3).bind fun z e4 => match y.rd e4, z.rd e4 with
        | some q', some r => opt (cmpF op' q' r) e4
        | _, _ => .bad
      else .ok false e3
    | _, _ => .bad) := by
  refine ptI (pt_chain (cmp_ok hu op) (cmp_ok hu op') ha hb hc hm) fun σ H Q q => ?_
  obtain ⟨F, env, r, env', m, e, k⟩ := tB_iff.mp q
  obtain ⟨x, e1, h1, e⟩ := bind_ok e
  obtain ⟨y, e2, h2, e⟩ := bind_ok e
  split at e
  · rename_i p q hp hq
    obtain ⟨d, e3, h3, e⟩ := bind_ok e
    obtain ⟨h3', rfl⟩ := opt_ok h3
    refine op2 m h1 h2 fun v w H2 F2 xs o r1 r2 => ⟨_, p, q, d, r1.rd o.mt hp, r2.rd o.mt hq, h3', d, rfl, ?_⟩
    cases d with
    | false =>
      rw [if_neg Bool.false_ne_true] at e ⊢
      cases e
      exact ⟨false, rfl, k _ xs (o.mt.weak o.up)⟩
    | true =>
      rw [if_pos rfl] at e ⊢
      obtain ⟨z, e4, h4, e⟩ := bind_ok e
      split at e
      · rename_i q' r' hq' hr'
        obtain ⟨h5, rfl⟩ := opt_ok e
        refine tO_iff.mpr ⟨F2, e3, z, env', o.mt, h4, fun u H3 F3 x3 o3 _ r3 => ?_⟩
        have r2' := r2.move o.mt x3 o3
        exact ⟨_, q', r', r, r2'.rd o3.mt hq', r3.rd o3.mt hr', h5, r, rfl, k _ (xs.trans x3) (o3.mt.weak fun z h => o3.up z (o.up z h))⟩
      · cases e
  · cases e
end
end Dk

set_option Elab.async false
set_option linter.all false
set_option autoImplicit false
set_option maxRecDepth 100000
set_option maxHeartbeats 1000000
/-! Dk8: names, constants, truth, displays, subscripts, built-in calls. -/
namespace Dk
open PySem PySem.Spec PyProof.Rows L2

/-! ### a slot is given up, moved -/
theorem get_set_ne {env : En} {i j : Nat} {s : Sl} (h : j ≠ i) : (env.set i s)[j]? = env[j]? := List.getElem?_set_ne (Ne.symm h)
theorem get_set_eq {env : En} {i : Nat} {s t : Sl} (h : env[i]? = some t) : (env.set i s)[i]? = some s := by
  have : i < env.length := (List.getElem?_eq_some_iff.mp h).1
  exact List.getElem?_set_self this
/-- a slot that owned gives up (or is emptied) -/
theorem ow_set {env : En} {σ : Sg} {i : Nat} {s : Sl} {p : PV} {f : Fl} (h : env[i]? = some (some (p, f))) (hs : ∀ q g, s = some (q, g) → g = .fz) {a : Addr} (o : Ow (env.set i s) σ a) : ∃ j q g, j ≠ i ∧ env[j]? = some (some (q, g)) ∧ g ≠ .fz ∧ σ[j]? = some (some (.ref a)) := by
  obtain ⟨j, q, g, e, hg, e2⟩ := o
  by_cases z : j = i
  · subst z
    rw [get_set_eq h] at e
    cases e
    exact absurd (hs q g rfl) hg
  · rw [get_set_ne z] at e
    exact ⟨j, q, g, z, e, hg, e2⟩
theorem ow_set_sub {env : En} {σ : Sg} {i : Nat} {s : Sl} {p : PV} {f : Fl} (h : env[i]? = some (some (p, f))) (hs : ∀ q g, s = some (q, g) → g = .fz) : ∀ a, Ow (env.set i s) σ a → Ow env σ a := fun a o => by
  obtain ⟨j, q, g, _, e, hg, e2⟩ := ow_set h hs o
  exact ⟨j, q, g, e, hg, e2⟩
theorem ow_set_not {F : AS} {env : En} {σ : Sg} {H : Hp} {i : Nat} {s : Sl} {p : PV} {f : Fl} {a : Addr} (m : Mt F env σ H) (h : env[i]? = some (some (p, f))) (hf : f ≠ .fz) (ha : σ[i]? = some (some (.ref a))) (hs : ∀ q g, s = some (q, g) → g = .fz) : ¬ Ow (env.set i s) σ a := fun o => by
  obtain ⟨j, q, g, z, e, hg, e2⟩ := ow_set h hs o
  exact z (m.inj j i q g p f a e hg h hf e2 ha)
theorem Mt.give {F : AS} {env : En} {σ : Sg} {H : Hp} {i : Nat} {p : PV} (m : Mt F env σ H) (h : env[i]? = some (some (p, .own))) :
    Mt F (env.set i (some (p, .fz))) σ H ∧ Sb env σ (env.set i (some (p, .fz))) ∧ ∃ v, σ[i]? = some (some v) ∧ Rp (Av F (env.set i (some (p, .fz))) σ) H p v := by
  obtain ⟨a, ha, nF, o⟩ := m.ow i p .own h (by decide)
  have hs : ∀ q g, (some (p, Fl.fz) : Sl) = some (q, g) → g = .fz := fun q g e => by cases e; rfl
  have sub := ow_set_sub (σ := σ) h hs
  have nO := ow_set_not m h (by decide) ha hs
  have r : Rp (Av F (env.set i (some (p, .fz))) σ) H p (.ref a) := o.rp (fun z => z.elim nF nO) fun b z => .inl (z.imp id (sub b))
  refine ⟨⟨by rw [List.length_set]; exact m.len, m.al, fun j q e => ?_, fun j q f e hf => ?_, fun j k q f q' g b e hf e' hg e2 e3 => ?_⟩, ⟨sub, fun j q e => ?_⟩, _, ha, r⟩
  · by_cases z : j = i
    · subst z
      rw [get_set_eq h] at e; cases e
      exact ⟨_, ha, r⟩
    · rw [get_set_ne z] at e
      obtain ⟨v, e1, r1⟩ := m.fz j q e
      exact ⟨v, e1, r1.mono fun b z => .inl (z.imp id (sub b))⟩
  · by_cases z : j = i
    · subst z
      rw [get_set_eq h] at e; cases e
      exact absurd rfl hf
    · rw [get_set_ne z] at e
      obtain ⟨b, e1, n1, o1⟩ := m.ow j q f e hf
      exact ⟨b, e1, n1, o1.mono fun b z => .inl (z.imp id (sub b))⟩
  · have ne : ∀ {j : Nat} {q : PV} {f : Fl}, (env.set i (some (p, .fz)))[j]? = some (some (q, f)) → f ≠ .fz → env[j]? = some (some (q, f)) := fun {j q f} e hf => by
      by_cases z : j = i
      · subst z
        rw [get_set_eq h] at e; cases e
        exact absurd rfl hf
      · rw [get_set_ne z] at e; exact e
    exact m.inj j k q f q' g b (ne e hf) hf (ne e' hg) hg e2 e3
  · by_cases z : j = i
    · subst z; rw [h] at e; cases e
    · exact ⟨q, by rw [get_set_ne z]; exact e⟩
theorem Mt.take {F : AS} {env : En} {σ : Sg} {H : Hp} {i : Nat} {p : PV} (m : Mt F env σ H) (h : env[i]? = some (some (p, .own))) :
    Sb env σ (env.set i none) ∧ ∃ a, σ[i]? = some (some (.ref a)) ∧ Ow env σ a ∧ ¬ F a ∧ ¬ Ow (env.set i none) σ a ∧ Mt (fun b => F b ∨ b = a) (env.set i none) σ H ∧ Own (Av (fun b => F b ∨ b = a) (env.set i none) σ) H p a := by
  obtain ⟨a, ha, nF, o⟩ := m.ow i p .own h (by decide)
  have hs : ∀ q g, (none : Sl) = some (q, g) → g = .fz := fun q g e => by cases e
  have sub := ow_set_sub (σ := σ) h hs
  have nO := ow_set_not m h (by decide) ha hs
  have hO : Ow env σ a := ⟨i, p, .own, h, by decide, ha⟩
  have k : ∀ b, Av (fun b => F b ∨ b = a) (env.set i none) σ b → Av F env σ b ∨ H b = none := fun b z => by
    rcases z with (z | z) | z
    · exact .inl (.inl z)
    · subst z; exact .inl (.inr hO)
    · exact .inl (.inr (sub b z))
  have ne : ∀ {j : Nat} {q : PV} {f : Fl}, (env.set i none)[j]? = some (some (q, f)) → j ≠ i ∧ env[j]? = some (some (q, f)) := fun {j q f} e => by
    by_cases z : j = i
    · subst z
      rw [get_set_eq h] at e; cases e
    · rw [get_set_ne z] at e; exact ⟨z, e⟩
  refine ⟨⟨sub, fun j q e => ?_⟩, a, ha, hO, nF, nO, ⟨by rw [List.length_set]; exact m.len, fun b z => ?_, fun j q e => ?_, fun j q f e hf => ?_, fun j k' q f q' g b e hf e' hg e2 e3 => ?_⟩, o.mono k⟩
  · by_cases z : j = i
    · subst z; rw [h] at e; cases e
    · exact ⟨q, by rw [get_set_ne z]; exact e⟩
  · rcases z with z | z
    · exact m.al b z
    · subst z; exact o.there
  · obtain ⟨z, e⟩ := ne e
    obtain ⟨v, e1, r1⟩ := m.fz j q e
    exact ⟨v, e1, r1.mono k⟩
  · obtain ⟨z, e⟩ := ne e
    obtain ⟨b, e1, n1, o1⟩ := m.ow j q f e hf
    refine ⟨b, e1, fun y => y.elim n1 fun y => ?_, o1.mono k⟩
    subst y
    exact z (m.inj j i q f p .own b e hf h (by decide) e1 ha)
  · exact m.inj j k' q f q' g b (ne e).2 hf (ne e').2 hg e2 e3

/-- displays' items -/
def tD (f : En → Res (List PV)) : TA := fun σ H Q => ∃ F env, Mt F env σ H ∧ match f env with
  | .ok ps env' => ∀ vs H', Xs env σ H env' H' → Mt F env' σ H' → RpL (Av F env' σ) H' ps vs → Q vs H'
  | .bad => False
theorem tD_iff {f : En → Res (List PV)} {σ : Sg} {H : Hp} {Q : List V → Hp → Prop} : tD f σ H Q ↔ ∃ F env r env', Mt F env σ H ∧ f env = .ok r env' ∧ ∀ vs H', Xs env σ H env' H' → Mt F env' σ H' → RpL (Av F env' σ) H' r vs → Q vs H' := by
  constructor
  · rintro ⟨F, env, m, h⟩
    cases e : f env with
    | ok r env' => rw [e] at h; exact ⟨F, env, r, env', m, e, h⟩
    | bad => rw [e] at h; exact h.elim
  · rintro ⟨F, env, r, env', m, e, h⟩
    exact ⟨F, env, m, by rw [e]; exact h⟩
/-- an optional bound of a slice -/
def tI (f : En → Res (Option Int)) : L2.TO := fun σ H Q => ∃ F env, Mt F env σ H ∧ match f env with
  | .ok o env' => ∀ H', Xs env σ H env' H' → Mt F env' σ H' → Q o H'
  | .bad => False
theorem tI_iff {f : En → Res (Option Int)} {σ : Sg} {H : Hp} {Q : Option Int → Hp → Prop} : tI f σ H Q ↔ ∃ F env r env', Mt F env σ H ∧ f env = .ok r env' ∧ ∀ H', Xs env σ H env' H' → Mt F env' σ H' → Q r H' := by
  constructor
  · rintro ⟨F, env, m, h⟩
    cases e : f env with
    | ok r env' => rw [e] at h; exact ⟨F, env, r, env', m, e, h⟩
    | bad => rw [e] at h; exact h.elim
  · rintro ⟨F, env, r, env', m, e, h⟩
    exact ⟨F, env, m, by rw [e]; exact h⟩
theorem RpL.move {F1 F2 : AS} {e1 e2 : En} {σ : Sg} {H1 H2 : Hp} {ps : List PV} {vs : List V} (r : RpL (Av F1 e1 σ) H1 ps vs) (x : Xs e1 σ H1 e2 H2) (h : ∀ a, F2 a → F1 a) : RpL (Av F2 e2 σ) H2 ps vs :=
  RpL.stp x.stp (fun a z => .inr z) (fun a z => .inl (z.imp (h a) (x.sb.sub a))) _ _ r

section
variable {X : Cx} {pos : Pos}
theorem ev_var {x : Str} {i : Nat} (hN : X.N[i]? = some x) (hv : Vis X.env.scope x) (hd : (x == ("__debug__" : Str)) = false) (hcd : (x == ("__classdict__" : Str)) = false) :
    PE X (.Name x pos) (tE (rdVar i)) := by
  refine peI (pe_var (i := i) hN hv hd hcd) fun σ H Q q => ?_
  obtain ⟨F, env, r, env', m, e, k⟩ := tE_iff.mp q
  unfold rdVar at e
  split at e
  · rename_i p h
    cases e
    obtain ⟨v, e2, r⟩ := m.fz i _ h
    exact ⟨v, e2, k v H Xs.refl (RV.of m r)⟩
  · rename_i p h
    cases e
    obtain ⟨m', sb, v, e2, r⟩ := m.give h
    exact ⟨v, e2, k v H ⟨Stp.refl, sb⟩ (RV.of m' r)⟩
  · cases e
theorem ev_mv {x : Str} {i : Nat} (hN : X.N[i]? = some x) (hv : Vis X.env.scope x) (hd : (x == ("__debug__" : Str)) = false) (hcd : (x == ("__classdict__" : Str)) = false) :
    PE X (.Name x pos) (tE (mvVar i)) := by
  refine peI (pe_var (i := i) hN hv hd hcd) fun σ H Q q => ?_
  obtain ⟨F, env, r, env', m, e, k⟩ := tE_iff.mp q
  unfold mvVar at e
  split at e
  · rename_i p h
    cases e
    obtain ⟨v, e2, r⟩ := m.fz i _ h
    exact ⟨v, e2, k v H Xs.refl (RV.of m r)⟩
  · rename_i p h
    cases e
    obtain ⟨sb, a, e2, hO, nF, nO, m', o⟩ := m.take h
    refine ⟨_, e2, k _ H ⟨Stp.refl, sb⟩ ?_⟩
    unfold RV
    rw [if_pos rfl]
    exact ⟨a, rfl, .inl hO, nF, nO, m', o⟩
  · cases e
def Lt.v : Lt → V
  | .non => .non | .bl b => .bl b | .int i => .int i | .str s => .str (mkS s)
def Lt.ok : Lt → Bool
  | .str s => szl s.length && s.all (· < 0x110000)
  | _ => true
theorem Lt.rp {A : AS} {H : Hp} : ∀ {p : Lt}, p.ok = true → Rp A H p.pv p.v
  | .non, _ => .non
  | .bl b, _ => .bl b
  | .int i, _ => .int i
  | .str s, h => by
    have h : (szl s.length && s.all (· < 0x110000)) = true := h
    simp only [Bool.and_eq_true, List.all_eq_true, decide_eq_true_eq] at h
    exact .str s ⟨szl_le h.1, h.2⟩
/-- a value that is the same whatever the state -/
theorem ev_at {e : Expr} {p : Lt} (h : PE X e (tC p.v)) (ok : p.ok = true) : PE X e (tE fun env => .ok (p.pv, false) env) := by
  refine peI h fun σ H Q q => ?_
  obtain ⟨F, env, r, env', m, e, k⟩ := tE_iff.mp q
  cases e
  exact k _ H Xs.refl (RV.of m (Lt.rp ok))
theorem ev_con {e : Expr} {p : Lt} {o : Option Lt} (h : PE X e (tC p.v)) (ok : p.ok = true) (ho : o = some p) : PE X e (tE fun env => optE (o.map Lt.pv) env) := by
  subst ho
  exact ev_at h ok

/-! ### truth -/
theorem tru_k {F : AS} {env : En} {σ : Sg} {H : Hp} {ag : Ag} {v : V} {p : PV} {b : Bool} (m : Mt F env σ H) (h : AgR F env σ H ag v) (e : ag.rd env = some p) (t : tru p = some b) : TruV X.K v H b := tru_rb (h.rd m e) t
theorem tv_pl {e : Expr} {f : En → Res Ag} (h : PE X e (tO f)) (he : ∀ whole, isTrue e X.env whole = (do let v ← whole; standAt e.pos; holding [v] (truthy v))) : PT X e (tB fun env => (f env).bind fun x e1 => match x.rd e1 with
    | some p => opt (tru p) e1
    | none => .bad) := by
  refine ptI (pt_truth h he) fun σ H Q q => ?_
  obtain ⟨F, env, r, env', m, e, k⟩ := tB_iff.mp q
  obtain ⟨x, e1, h1, e⟩ := bind_ok e
  split at e
  · rename_i p hp
    obtain ⟨h3, rfl⟩ := opt_ok e
    refine tO_iff.mpr ⟨F, env, x, env', m, h1, fun v H1 F1 xs o _ r1 => ⟨r, tru_k o.mt r1 hp h3, k H1 xs (o.mt.weak o.up)⟩⟩
  · cases e
theorem tv_not {e : Expr} {f : En → Res Bool} (h : PT X e (tB f)) : PT X (.UnaryOp .Not e pos) (tB fun env => (f env).bind fun b e1 => .ok (!b) e1) := by
  refine ptI (pt_not h) fun σ H Q q => ?_
  obtain ⟨F, env, r, env', m, e, k⟩ := tB_iff.mp q
  obtain ⟨b, e1, h1, e⟩ := bind_ok e
  cases e
  exact tB_iff.mpr ⟨F, env, b, _, m, h1, fun H1 xs m1 => k H1 xs m1⟩
theorem tv_and {a b : Expr} {rest : List Expr} {f g : En → Res Bool} (ha : PT X a (tB f)) (hb : PW X (.BoolOp .And (b :: rest) pos) (tB g)) : PW X (.BoolOp .And (a :: b :: rest) pos) (tB fun env => (f env).bind fun k e1 => if k then g e1 else .ok false e1) := by
  refine pwI (pw_and ha hb) fun σ H Q q => ?_
  obtain ⟨F, env, r, env', m, e, k⟩ := tB_iff.mp q
  obtain ⟨c, e1, h1, e⟩ := bind_ok e
  refine tB_iff.mpr ⟨F, env, c, e1, m, h1, fun H1 xs m1 => ?_⟩
  cases c with
  | true =>
    rw [if_pos rfl] at e ⊢
    exact tB_iff.mpr ⟨F, e1, r, env', m1, e, fun H2 x2 m2 => k H2 (xs.trans x2) m2⟩
  | false =>
    rw [if_neg Bool.false_ne_true] at e ⊢
    cases e
    exact k H1 xs m1
theorem tv_or {a b : Expr} {rest : List Expr} {f g : En → Res Bool} (ha : PT X a (tB f)) (hb : PW X (.BoolOp .Or (b :: rest) pos) (tB g)) : PW X (.BoolOp .Or (a :: b :: rest) pos) (tB fun env => (f env).bind fun k e1 => if k then .ok true e1 else g e1) := by
  refine pwI (pw_or ha hb) fun σ H Q q => ?_
  obtain ⟨F, env, r, env', m, e, k⟩ := tB_iff.mp q
  obtain ⟨c, e1, h1, e⟩ := bind_ok e
  refine tB_iff.mpr ⟨F, env, c, e1, m, h1, fun H1 xs m1 => ?_⟩
  cases c with
  | true =>
    rw [if_pos rfl] at e ⊢
    cases e
    exact k H1 xs m1
  | false =>
    rw [if_neg Bool.false_ne_true] at e ⊢
    exact tB_iff.mpr ⟨F, e1, r, env', m1, e, fun H2 x2 m2 => k H2 (xs.trans x2) m2⟩
/-- not x as a value -/
theorem ev_not {e : Expr} {f : En → Res Ag} (h : PE X e (tO f)) : PE X (.UnaryOp .Not e pos) (tE fun env => (f env).bind fun x e1 => match x.rd e1 with
    | some p => optE ((tru p).map fun b => .bl !b) e1
    | none => .bad) := by
  refine peI (pe_notT h) fun σ H Q q => ?_
  obtain ⟨F, env, r, env', m, e, k⟩ := tE_iff.mp q
  obtain ⟨x, e1, h1, e⟩ := bind_ok e
  split at e
  · rename_i p hp
    obtain ⟨h2, h3, rfl⟩ := optE_ok e
    obtain ⟨b, h4, h5⟩ := Option.map_eq_some_iff.mp h2
    refine tO_iff.mpr ⟨F, env, x, env', m, h1, fun v H1 F1 xs o _ r1 => ⟨b, tru_k o.mt r1 hp h4, k _ H1 xs ?_⟩⟩
    rw [h3, ← h5]
    exact fin_old xs o (.bl _)
  · cases e
theorem rv_go {F : AS} {env e1 e2 : En} {σ : Sg} {H H1 : Hp} {Q : VK} {r : PB} {f : En → Res PB} (x1 : Xs env σ H e1 H1) (m1 : Mt F e1 σ H1) (e : f e1 = .ok r e2) (k : ∀ v H', Xs env σ H e2 H' → RV F env σ H e2 σ H' r.1 r.2 v → Q v H') : tE f σ H1 Q :=
  tE_iff.mpr ⟨F, e1, r, e2, m1, e, fun v H2 x2 rv => k v H2 (x1.trans x2) (rv.back (fun _ z => z) x1)⟩
theorem ev_ite {c a b : Expr} {f : En → Res Bool} {g h : En → Res PB} (hc : PT X c (tB f)) (ha : PE X a (tE g)) (hb : PE X b (tE h)) : PE X (.IfExp c a b pos) (tE fun env => (f env).bind fun k e1 => if k then g e1 else h e1) := by
  refine peI (pe_ifExp hc ha hb) fun σ H Q q => ?_
  obtain ⟨F, env, r, env', m, e, k⟩ := tE_iff.mp q
  obtain ⟨d, e1, h1, e⟩ := bind_ok e
  refine tB_iff.mpr ⟨F, env, d, e1, m, h1, fun H1 xs m1 => ?_⟩
  cases d with
  | true =>
    rw [if_pos rfl] at e ⊢
    exact rv_go xs m1 e k
  | false =>
    rw [if_neg Bool.false_ne_true] at e ⊢
    exact rv_go xs m1 e k
/-- the truth of what was just reckoned -/
theorem tru_rv {F : AS} {env e1 : En} {σ : Sg} {H H1 : Hp} {r : PB} {v : V} {b : Bool} (h : RV F env σ H e1 σ H1 r.1 r.2 v) (t : tru r.1 = some b) : TruV X.K v H1 b := tru_rb (A := Av F e1 σ) (.inl h.val.2) t
theorem ev_and {a b : Expr} {rest : List Expr} {f g : En → Res PB} (ha : PE X a (tE f)) (hb : PE X (.BoolOp .And (b :: rest) pos) (tE g)) : PE X (.BoolOp .And (a :: b :: rest) pos) (tE fun env => (f env).bind fun x e1 => (opt (tru x.1) e1).bind fun k e2 => if k then g e2 else .ok x e2) := by
  refine peI (pe_andT ha hb) fun σ H Q q => ?_
  obtain ⟨F, env, r, env', m, e, k⟩ := tE_iff.mp q
  obtain ⟨x, e1, h1, e⟩ := bind_ok e
  obtain ⟨d, e2, h2, e⟩ := bind_ok e
  obtain ⟨h2', rfl⟩ := opt_ok h2
  refine tE_iff.mpr ⟨F, env, x, e2, m, h1, fun v H1 xs rv => ⟨d, tru_rv rv h2', ?_⟩⟩
  cases d with
  | true =>
    rw [if_pos rfl] at e ⊢
    exact rv_go xs rv.val.1 e k
  | false =>
    rw [if_neg Bool.false_ne_true] at e ⊢
    cases e
    exact k v H1 xs rv
theorem ev_or {a b : Expr} {rest : List Expr} {f g : En → Res PB} (ha : PE X a (tE f)) (hb : PE X (.BoolOp .Or (b :: rest) pos) (tE g)) : PE X (.BoolOp .Or (a :: b :: rest) pos) (tE fun env => (f env).bind fun x e1 => (opt (tru x.1) e1).bind fun k e2 => if k then .ok x e2 else g e2) := by
  refine peI (pe_orT ha hb) fun σ H Q q => ?_
  obtain ⟨F, env, r, env', m, e, k⟩ := tE_iff.mp q
  obtain ⟨x, e1, h1, e⟩ := bind_ok e
  obtain ⟨d, e2, h2, e⟩ := bind_ok e
  obtain ⟨h2', rfl⟩ := opt_ok h2
  refine tE_iff.mpr ⟨F, env, x, e2, m, h1, fun v H1 xs rv => ⟨d, tru_rv rv h2', ?_⟩⟩
  cases d with
  | true =>
    rw [if_pos rfl] at e ⊢
    cases e
    exact k v H1 xs rv
  | false =>
    rw [if_neg Bool.false_ne_true] at e ⊢
    exact rv_go xs rv.val.1 e k

/-! ### displays -/
theorem ev_nil : PA X [] (tD fun env => .ok [] env) := by
  refine paI pa_nil fun σ H Q q => ?_
  obtain ⟨F, env, r, env', m, e, k⟩ := tD_iff.mp q
  cases e
  exact k [] H Xs.refl m .nil
theorem ev_cons {e : Expr} {es : List Expr} {f : En → Res PB} {g : En → Res (List PV)} (he : PE X e (tE f)) (hr : PA X es (tD g)) (hs : starEach (e :: es) X.env = (false, eval e X.env) :: starEach es X.env) : PA X (e :: es) (tD fun env => (f env).bind fun x e1 => (g e1).bind fun xs e2 => .ok (x.1 :: xs) e2) := by
  refine paI (pa_cons he hr hs) fun σ H Q q => ?_
  obtain ⟨F, env, r, env', m, e, k⟩ := tD_iff.mp q
  obtain ⟨x, e1, h1, e⟩ := bind_ok e
  obtain ⟨ps, e2, h2, e⟩ := bind_ok e
  cases e
  refine tE_iff.mpr ⟨F, env, x, e1, m, h1, fun v H1 x1 rv => tD_iff.mpr ⟨F, e1, ps, _, rv.val.1, h2, fun vs H2 x2 m2 r2 => k _ H2 (x1.trans x2) m2 (.cons ?_ r2)⟩⟩
  exact Rp.stp x2.stp (fun a z => .inr z) (fun a z => .inl (z.imp id (x2.sb.sub a))) _ _ rv.val.2
theorem items_rb {K : PySem.W.Frag} {A : AS} {H : Hp} {p : PV} {v : V} {xs : List PV} (h : Rb A H p v) (e : itemsOf p = some xs) : ∃ a vs, v = .ref a ∧ (SqT K H a vs ∨ SqL K H a vs) ∧ vs.length ≤ sizeLine ∧ RpL A H xs vs := by
  cases p with
  | lst ys =>
    cases e
    obtain ⟨a, vs, rfl, d, z, t⟩ := h.lst
    exact ⟨a, vs, rfl, .inr (sqL d), z, t⟩
  | tup ys =>
    cases e
    obtain ⟨a, vs, rfl, d, z, t⟩ := h.tup
    exact ⟨a, vs, rfl, .inl (sqT d), z, t⟩
  | _ => cases e
theorem ev_star {e : Expr} {es : List Expr} {p : Pos} {f : En → Res Ag} {g : En → Res (List PV)} (he : PE X e (tO f)) (hr : PA X es (tD g)) : PA X (.Starred e p :: es) (tD fun env => (f env).bind fun x e1 => match x.rd e1 with
    | some p => match itemsOf p with
      | some ys => (g e1).bind fun xs e2 => .ok (ys ++ xs) e2
      | none => .bad
    | none => .bad) := by
  refine paI (StX.pa_star he hr) fun σ H Q q => ?_
  obtain ⟨F, env, r, env', m, e, k⟩ := tD_iff.mp q
  obtain ⟨x, e1, h1, e⟩ := bind_ok e
  split at e
  · rename_i p hp
    split at e
    · rename_i ys hy
      obtain ⟨ps, e2, h2, e⟩ := bind_ok e
      cases e
      refine tO_iff.mpr ⟨F, env, x, e1, m, h1, fun v H1 F1 x1 o1 _ r1 => ?_⟩
      obtain ⟨a, vs, rfl, sq, _, t⟩ := items_rb (K := X.K) (r1.rd o1.mt hp) hy
      refine ⟨a, vs, rfl, sq, tD_iff.mpr ⟨F, e1, ps, _, o1.mt.weak o1.up, h2, fun ws H2 x2 m2 r2 => k _ H2 (x1.trans x2) m2 (RpL.app ?_ r2)⟩⟩
      exact RpL.move (F1 := F1) t x2 fun a z => o1.up a z
    · cases e
  · cases e
theorem ev_lst {es : List Expr} {f : En → Res (List PV)} (h : PA X es (tD f)) : PE X (.List es pos) (tE fun env => (f env).bind fun ps e1 => if szl ps.length then .ok (.lst ps, true) e1 else .bad) := by
  refine peI (pe_lst h) fun σ H Q q => ?_
  obtain ⟨F, env, r, env', m, e, k⟩ := tE_iff.mp q
  obtain ⟨ps, e1, h1, e⟩ := bind_ok e
  split at e
  · rename_i hz
    cases e
    refine tD_iff.mpr ⟨F, env, ps, _, m, h1, fun vs H1 x1 m1 r1 => ?_⟩
    have hz' := szl_le hz
    rw [r1.len] at hz'
    refine ⟨hz', fun p hp => ?_⟩
    have n : NV (Av F env' σ) H1 (.lst ps) true (.ref p) (upd H1 p (.lst vs)) := .lst r1 hp hz'
    obtain ⟨k1, k2⟩ := fin_nv x1 ⟨fun _ z => z, fun _ z => .inl z, m1⟩ n
    exact k _ _ k1 k2
  · cases e
theorem ev_tup {es : List Expr} {j : Nat} {f : En → Res (List PV)} (h : PA X es (tD f)) : PE X (.Tuple es j pos) (tE fun env => (f env).bind fun ps e1 => if szl ps.length then .ok (.tup ps, false) e1 else .bad) := by
  refine peI (pe_tup h) fun σ H Q q => ?_
  obtain ⟨F, env, r, env', m, e, k⟩ := tE_iff.mp q
  obtain ⟨ps, e1, h1, e⟩ := bind_ok e
  split at e
  · rename_i hz
    cases e
    refine tD_iff.mpr ⟨F, env, ps, _, m, h1, fun vs H1 x1 m1 r1 => ?_⟩
    have hz' := szl_le hz
    rw [r1.len] at hz'
    refine ⟨hz', fun p hp => ?_⟩
    have n : NV (Av F env' σ) H1 (.tup ps) false (.ref p) (upd H1 p (.tup vs)) := .tup r1 hp hz'
    obtain ⟨k1, k2⟩ := fin_nv x1 ⟨fun _ z => z, fun _ z => .inl z, m1⟩ n
    exact k _ _ k1 k2
  · cases e

/-! ### subscripts, slices -/
theorem ev_ix (hu : X.A.units + 100 < cLine) {a b : Expr} {fa fb : En → Res Ag} (ha : PE X a (tO fa)) (hb : PE X b (tO fb)) (hs : PlainIx b) : PE X (.Subscript a b pos) (tE fun env => (fa env).bind fun x e1 => (fb e1).bind fun y e2 => match x.rd e2, y.rd e2 with
    | some p, some q => optE (ixF p q) e2
    | _, _ => .bad) := by
  refine peI (pe_ix (ixP_ok hu) ha hb hs) fun σ H Q q => ?_
  obtain ⟨F, env, r, env', m, e, k⟩ := tE_iff.mp q
  obtain ⟨x, e1, h1, e⟩ := bind_ok e
  obtain ⟨y, e2, h2, e⟩ := bind_ok e
  split at e
  · rename_i p q hp hq
    obtain ⟨h3, h4, rfl⟩ := optE_ok e
    refine op2 m h1 h2 fun v w H2 F2 xs o r1 r2 => ⟨_, p, q, r.1, r1.rd o.mt hp, r2.rd o.mt hq, h3, fun u ru => k _ _ xs ?_⟩
    rw [h4]
    exact fin_old xs o ru
  · cases e
theorem ev_ino : L2.PO X none (tI fun env => .ok none env) := by
  refine ⟨fun pins s σ H Q I h => ?_⟩
  obtain ⟨F, env, r, env', m, e, k⟩ := tI_iff.mp h
  cases e
  exact po_none.run pins s σ H Q I (k H Xs.refl m)
theorem ev_isome {e : Expr} {f : En → Res PB} (h : PE X e (tE f)) : L2.PO X (some e) (tI fun env => (f env).bind fun x e1 => match x.1 with
    | .int i => .ok (some i) e1
    | _ => .bad) := by
  refine ⟨fun pins s σ H Q I q => ?_⟩
  obtain ⟨F, env, r, env', m, e, k⟩ := tI_iff.mp q
  obtain ⟨x, e1, h1, e⟩ := bind_ok e
  split at e
  · rename_i i hi
    cases e
    refine (po_some h).run pins s σ H Q I (tE_iff.mpr ⟨F, env, x, _, m, h1, fun v H1 xs rv => ?_⟩)
    obtain ⟨m1, r1⟩ := rv.val
    rw [hi] at r1
    cases r1
    exact ⟨i, rfl, k H1 xs m1⟩
  · cases e
theorem ev_sl {a : Expr} {lo hi : Option Expr} {p2 : Pos} {f : En → Res Ag} {g h : En → Res (Option Int)} (ha : PE X a (tO f)) (hl : L2.PO X lo (tI g)) (hh : L2.PO X hi (tI h)) : PE X (.Subscript a (.Slice lo hi none p2) pos) (tE fun env => (f env).bind fun x e1 => (g e1).bind fun l e2 => (h e2).bind fun u e3 => match x.rd e3 with
    | some p => opt (slF p l u) e3
    | none => .bad) := by
  refine peI (pe_slice slP_ok ha hl hh) fun σ H Q q => ?_
  obtain ⟨F, env, r, env', m, e, k⟩ := tE_iff.mp q
  obtain ⟨x, e1, h1, e⟩ := bind_ok e
  obtain ⟨l, e2, h2, e⟩ := bind_ok e
  obtain ⟨u, e3, h3, e⟩ := bind_ok e
  split at e
  · rename_i p hp
    obtain ⟨h4, rfl⟩ := opt_ok e
    refine tO_iff.mpr ⟨F, env, x, e1, m, h1, fun v H1 F1 x1 o1 _ r1 => tI_iff.mpr ⟨F1, e1, l, e2, o1.mt, h2, fun H2 x2 m2 => tI_iff.mpr ⟨F1, e2, u, env', m2, h3, fun H3 x3 m3 => ?_⟩⟩⟩
    have o3 : Or F1 e1 σ H1 env' H3 F1 := ⟨fun _ z => z, fun _ z => .inl z, m3⟩
    have r3 := r1.move o1.mt (x2.trans x3) o3
    refine ⟨_, p, r.1, r.2, r3.rd m3 hp, h4, fun w H4 n => ?_⟩
    obtain ⟨k1, k2⟩ := fin_nv (x1.trans (x2.trans x3)) (o1.trans x1 o3) n
    exact k _ _ k1 k2
  · cases e
end
end Dk

set_option Elab.async false
set_option linter.all false
set_option autoImplicit false
set_option maxRecDepth 100000
set_option maxHeartbeats 1000000
/-! Dk9: rows of operands, isinstance, built-in calls, pop. -/
namespace Dk
open PySem PySem.Spec PyProof.Rows L2

/-! ### rows of operands -/
inductive AgL (F : AS) (env : En) (σ : Sg) (H : Hp) : List Ag → List V → Prop where
  | nil : AgL F env σ H [] []
  | cons {a : Ag} {as : List Ag} {v : V} {vs : List V} : AgR F env σ H a v → AgL F env σ H as vs → AgL F env σ H (a :: as) (v :: vs)
theorem AgL.move {F1 F2 : AS} {e1 e2 : En} {σ : Sg} {H1 H2 : Hp} (m : Mt F1 e1 σ H1) (x : Xs e1 σ H1 e2 H2) (o : Or F1 e1 σ H1 e2 H2 F2) : ∀ {as : List Ag} {vs : List V}, AgL F1 e1 σ H1 as vs → AgL F2 e2 σ H2 as vs
  | _, _, .nil => .nil
  | _, _, .cons a b => .cons (a.move m x o) (AgL.move m x o b)
theorem AgL.rd {F : AS} {env : En} {σ : Sg} {H : Hp} (m : Mt F env σ H) : ∀ {as : List Ag} {vs : List V} {ps : List PV}, AgL F env σ H as vs → rdAll env as = some ps → RbL (Av F env σ) H ps vs
  | _, _, _, .nil, e => by cases e; exact .nil
  | _, _, _, .cons a b, e => by
    unfold rdAll at e
    split at e
    · rename_i p ps e1 e2
      cases e
      exact .cons (a.rd m e1) (AgL.rd m b e2)
    · cases e
def tmps : List Ag → List V → List V
  | .t _ :: r, v :: vs => v :: tmps r vs
  | _ :: r, _ :: vs => tmps r vs
  | _, _ => []
structure TmpOk (F : AS) (ags : List Ag) (vs : List V) : Prop where
  nd : (tmps ags vs).Nodup
  nF : ∀ a, V.ref a ∈ tmps ags vs → ¬ F a
theorem AgL.tmp {F : AS} {env : En} {σ : Sg} {H : Hp} : ∀ {as : List Ag} {vs : List V}, AgL F env σ H as vs → ∀ v ∈ tmps as vs, ∃ a, v = .ref a ∧ F a
  | _, _, .nil, v, h => by cases h
  | .v _ :: _, _, .cons _ b, v, h => AgL.tmp b v h
  | .s _ :: _, _, .cons _ b, v, h => AgL.tmp b v h
  | .t _ :: _, _, .cons a b, v, h => by
    rcases List.mem_cons.mp h with h | h
    · subst h
      obtain ⟨c, e, f, _⟩ := a
      exact ⟨c, e, f⟩
    · exact AgL.tmp b v h
def tL (f : En → Res (List Ag)) : TA := fun σ H Q => ∃ F env, Mt F env σ H ∧ match f env with
  | .ok ags env' => ∀ vs H' F', Xs env σ H env' H' → Or F env σ H env' H' F' → TmpOk F ags vs → AgL F' env' σ H' ags vs → Q vs H'
  | .bad => False
theorem tL_iff {f : En → Res (List Ag)} {σ : Sg} {H : Hp} {Q : List V → Hp → Prop} : tL f σ H Q ↔ ∃ F env r env', Mt F env σ H ∧ f env = .ok r env' ∧ ∀ vs H' F', Xs env σ H env' H' → Or F env σ H env' H' F' → TmpOk F r vs → AgL F' env' σ H' r vs → Q vs H' := by
  constructor
  · rintro ⟨F, env, m, h⟩
    cases e : f env with
    | ok r env' => rw [e] at h; exact ⟨F, env, r, env', m, e, h⟩
    | bad => rw [e] at h; exact h.elim
  · rintro ⟨F, env, r, env', m, e, h⟩
    exact ⟨F, env, m, by rw [e]; exact h⟩
/-- which expressions are not starred -/
def unst : Expr → Bool
  | .Starred _ _ => false
  | _ => true
theorem star_un {e : Expr} (h : unst e = true) (es : List Expr) (env : Env) : starEach (e :: es) env = (false, eval e env) :: starEach es env := by
  cases e <;> first | rfl | cases h
theorem back_un (pos : Pos) (env : Env) : ∀ {es : List Expr}, es.all unst = true → (backTo pos (starEach es env)).any (·.1) = false
  | [], _ => rfl
  | e :: es, h => by
    rw [List.all_cons, Bool.and_eq_true] at h
    have ih := back_un pos env h.2
    rw [star_un h.1]
    show (false || (backTo pos (starEach es env)).any (·.1)) = false
    rw [ih]
    rfl

section
variable {X : Cx} {pos : Pos}
theorem ev_lnil : PA X [] (tL fun env => .ok [] env) := by
  refine paI pa_nil fun σ H Q q => ?_
  obtain ⟨F, env, r, env', m, e, k⟩ := tL_iff.mp q
  cases e
  exact k [] H F Xs.refl (Or.refl m) ⟨List.nodup_nil, fun a h => by cases h⟩ .nil
theorem l_step {F : AS} {env : En} {σ : Sg} {H : Hp} {fa : En → Res Ag} {g : En → Res (List Ag)} {x : Ag} {e1 e2 : En} {as : List Ag} {Q : List V → Hp → Prop} (m : Mt F env σ H) (h1 : fa env = .ok x e1) (h2 : g e1 = .ok as e2)
    (k : ∀ vs H' F', Xs env σ H e2 H' → Or F env σ H e2 H' F' → TmpOk F (x :: as) vs → AgL F' e2 σ H' (x :: as) vs → Q vs H') : tO fa σ H fun v H1 => tL g σ H1 fun vs H2 => Q (v :: vs) H2 := by
  refine tO_iff.mpr ⟨F, env, x, e1, m, h1, fun v H1 F1 x1 o1 t1 r1 => ?_⟩
  refine tL_iff.mpr ⟨F1, e1, as, e2, o1.mt, h2, fun vs H2 F2 x2 o2 t2 r2 => ?_⟩
  refine k (v :: vs) H2 F2 (x1.trans x2) (o1.trans x1 o2) ?_ (.cons (r1.move o1.mt x2 o2) r2)
  cases x with
  | v p => exact ⟨t2.nd, fun a h z => t2.nF a h (o1.up a z)⟩
  | s i => exact ⟨t2.nd, fun a h z => t2.nF a h (o1.up a z)⟩
  | t p =>
    obtain ⟨a, rfl, f, _⟩ := r1
    refine ⟨List.nodup_cons.mpr ⟨fun h => t2.nF a h f, t2.nd⟩, fun b h z => ?_⟩
    rcases List.mem_cons.mp h with h | h
    · cases h
      exact t1 p rfl _ rfl z
    · exact t2.nF b h (o1.up b z)
theorem ev_lcons {e : Expr} {es : List Expr} {f : En → Res Ag} {g : En → Res (List Ag)} (he : PE X e (tO f)) (hr : PA X es (tL g)) (hs : starEach (e :: es) X.env = (false, eval e X.env) :: starEach es X.env) : PA X (e :: es) (tL fun env => (f env).bind fun x e1 => (g e1).bind fun xs e2 => .ok (x :: xs) e2) := by
  refine paI (pa_cons he hr hs) fun σ H Q q => ?_
  obtain ⟨F, env, r, env', m, e, k⟩ := tL_iff.mp q
  obtain ⟨x, e1, h1, e⟩ := bind_ok e
  obtain ⟨as, e2, h2, e⟩ := bind_ok e
  cases e
  exact l_step m h1 h2 k

/-! ### built-in calls -/
theorem ev_cal {e : Expr} {g : List PV → Option PB} {f : En → Res (List Ag)} (h : PE X e (tCB (rCal g) (tL f))) : PE X e (tE fun env => (f env).bind fun as e1 => match rdAll e1 as with
    | some ps => opt (g ps) e1
    | none => .bad) := by
  refine peI h fun σ H Q q => ?_
  obtain ⟨F, env, r, env', m, e, k⟩ := tE_iff.mp q
  obtain ⟨as, e1, h1, e⟩ := bind_ok e
  split at e
  · rename_i ps hp
    obtain ⟨h2, rfl⟩ := opt_ok e
    refine tL_iff.mpr ⟨F, env, as, env', m, h1, fun vs H1 F1 xs o _ r1 => ⟨_, ps, r.1, r.2, fun a z => o.mt.there z, r1.rd o.mt hp, h2, fun u H2 n => ?_⟩⟩
    obtain ⟨k1, k2⟩ := fin_nv xs o n
    exact k u H2 k1 k2
  · cases e

/-! ### isinstance -/
theorem Rb.stp {A A' : AS} {H H' : Hp} {p : PV} {v : V} (h : Rb A H p v) (s : Stp (fun _ => False) H H') (m : ∀ a, A' a → A a ∨ H a = none) : Rb A' H' p v := by
  rcases h with h | ⟨a, rfl, o⟩
  · exact .inl (Rp.stp s (fun _ z => z.elim) m _ _ h)
  · exact .inr ⟨a, rfl, o.stp s (fun z => z) (fun _ z => z.elim) m⟩
theorem ev_isi1 {e : Expr} {c : Ty} {f : En → Res Ag} (h : PE X e (tCB (rIsi X.K) (tCons (tO f) (tCons (tC (.ty c.nm)) tNil)))) : PE X e (tE fun env => (f env).bind fun x e1 => match x.rd e1 with
    | some p => optE ((isiF p [c]).map .bl) e1
    | none => .bad) := by
  refine peI h fun σ H Q q => ?_
  obtain ⟨F, env, r, env', m, e, k⟩ := tE_iff.mp q
  obtain ⟨x, e1, h1, e⟩ := bind_ok e
  split at e
  · rename_i p hp
    obtain ⟨h2, h3, rfl⟩ := optE_ok e
    obtain ⟨b, h4, h5⟩ := Option.map_eq_some_iff.mp h2
    refine tO_iff.mpr ⟨F, env, x, env', m, h1, fun v H1 F1 xs o _ r1 => ?_⟩
    obtain ⟨t, k1, k2⟩ := isi_one (K := X.K) (r1.rd o.mt hp) h4
    refine ⟨v, _, t, _, b, rfl, .ty _, k1, k2, k _ H1 xs ?_⟩
    rw [h3, ← h5]
    exact fin_old xs o (.bl b)
  · cases e
def tTys : List Ty → TA
  | [] => tNil
  | c :: cs => tCons (tC (.ty c.nm)) (tTys cs)
theorem tys_eq {σ : Sg} {H : Hp} : ∀ {cs : List Ty} {Q : List V → Hp → Prop}, Q (cs.map fun c => .ty c.nm) H → tTys cs σ H Q
  | [], _, h => h
  | c :: cs, Q, h => tys_eq (cs := cs) (Q := fun xs H1 => Q (.ty c.nm :: xs) H1) h
theorem clsv_tys : ∀ cs : List Ty, Paired ClsV (cs.map fun c => V.ty c.nm) (cs.map fun c => .type c.nm)
  | [] => .nil
  | c :: cs => .cons (.ty _) (clsv_tys cs)
theorem ev_isiT {e : Expr} {cs : List Ty} {f : En → Res Ag} (hz : cs.length ≤ 10) (h : PE X e (tCB (rIsiT X.K) (tCons (tO f) (tCons (tTup (tTys cs)) tNil)))) : PE X e (tE fun env => (f env).bind fun x e1 => match x.rd e1 with
    | some p => optE ((isiF p cs).map .bl) e1
    | none => .bad) := by
  refine peI h fun σ H Q q => ?_
  obtain ⟨F, env, r, env', m, e, k⟩ := tE_iff.mp q
  obtain ⟨x, e1, h1, e⟩ := bind_ok e
  split at e
  · rename_i p hp
    obtain ⟨h2, h3, rfl⟩ := optE_ok e
    obtain ⟨b, h4, h5⟩ := Option.map_eq_some_iff.mp h2
    refine tO_iff.mpr ⟨F, env, x, env', m, h1, fun v H1 F1 xs o _ r1 => ?_⟩
    have hs : (cs.map fun c => V.ty c.nm).length ≤ sizeLine := by rw [List.length_map, sizeLine_eq]; omega
    refine tys_eq ⟨hs, fun T hT => ?_⟩
    have st : Stp (fun _ => False) H1 (upd H1 T (.tup (cs.map fun c => V.ty c.nm))) := Stp.new hT
    obtain ⟨t, k1, k2⟩ := isi_any (K := X.K) ((r1.rd o.mt hp).stp st fun a z => .inl z) h4
    have n : NV (Av F1 env' σ) H1 (.bl b) false (.bl b) (upd H1 T (.tup (cs.map fun c => V.ty c.nm))) := ⟨st, by rw [if_neg (by decide)]; exact .bl b⟩
    obtain ⟨k3, k4⟩ := fin_nv xs o n
    refine ⟨v, T, _, t, _, b, rfl, upd_same, clsv_tys cs, k1, k2, k _ _ k3 ?_⟩
    rw [h3, ← h5]
    exact k4
  · cases e
end

/-! ### a slot's own object is written -/
theorem ow_put {env : En} {σ : Sg} {i : Nat} {p q : PV} {f : Fl} (h : env[i]? = some (some (p, f))) (a : Addr) : Ow (env.set i (some (q, f))) σ a ↔ Ow env σ a := by
  constructor
  · rintro ⟨j, r, g, e, hg, e2⟩
    by_cases z : j = i
    · subst z
      rw [get_set_eq h] at e
      cases e
      exact ⟨j, p, f, h, hg, e2⟩
    · rw [get_set_ne z] at e
      exact ⟨j, r, g, e, hg, e2⟩
  · rintro ⟨j, r, g, e, hg, e2⟩
    by_cases z : j = i
    · subst z
      rw [h] at e
      cases e
      exact ⟨j, q, f, get_set_eq h, hg, e2⟩
    · exact ⟨j, r, g, by rw [get_set_ne z]; exact e, hg, e2⟩
/-- writing at a: everything else stays -/
theorem Stp.wr {H : Hp} {a : Addr} {o u : HO} (h : H a = some u) (n : (∀ vs, u ≠ .tup vs) ∧ ∀ o w, u ≠ .frz o w) : Stp (fun b => b = a) H (upd H a o) :=
  ⟨fun b w e hb => by rw [upd_ne hb]; exact e, fun b vs e => by
    by_cases z : b = a
    · subst z; rw [h] at e; cases e; exact absurd rfl (n.1 vs)
    · rw [upd_ne z]; exact e, fun b w w' e => by
    by_cases z : b = a
    · subst z; rw [h] at e; cases e; exact absurd rfl (n.2 w w')
    · rw [upd_ne z]; exact e, fun b e => by
    by_cases z : b = a
    · subst z; rw [upd_same] at e; cases e
    · rw [upd_ne z] at e; exact e⟩
theorem Mt.put {F : AS} {env : En} {σ : Sg} {H : Hp} {i : Nat} {p q : PV} {f : Fl} {a : Addr} {o u : HO} (m : Mt F env σ H) (h : env[i]? = some (some (p, f))) (hf : f ≠ .fz) (ha : σ[i]? = some (some (.ref a))) (hu : H a = some u) (n : (∀ vs, u ≠ .tup vs) ∧ ∀ o w, u ≠ .frz o w)
    (ow : Own (Av F env σ) (upd H a o) q a) : Mt F (env.set i (some (q, f))) σ (upd H a o) ∧ Xs env σ H (env.set i (some (q, f))) (upd H a o) := by
  have hO : Ow env σ a := ⟨i, p, f, h, hf, ha⟩
  have s := Stp.wr (o := o) hu n
  have k : ∀ b, Av F (env.set i (some (q, f))) σ b → Av F env σ b ∨ H b = none := fun b z => .inl (z.imp id (ow_put h b).mp)
  have k1 : ∀ b, b = a → Av F env σ b := fun b e => by subst e; exact .inr hO
  refine ⟨⟨by rw [List.length_set]; exact m.len, fun b z e => m.al b z (s.dom b e), fun j r e => ?_, fun j r g e hg => ?_, fun j l r g r' g' b e hg e' hg' e2 e3 => ?_⟩, ⟨s.mono fun b e => by subst e; exact hO, fun b z => (ow_put h b).mp z, fun j r e => ?_⟩⟩
  · have z : j ≠ i := fun z => by subst z; rw [get_set_eq h] at e; cases e; exact hf rfl
    rw [get_set_ne z] at e
    obtain ⟨v, e1, r1⟩ := m.fz j r e
    exact ⟨v, e1, Rp.stp s k1 k _ _ r1⟩
  · by_cases z : j = i
    · subst z
      rw [get_set_eq h] at e
      cases e
      obtain ⟨b, e1, nF, _⟩ := m.ow j p f h hf
      rw [ha] at e1; cases e1
      exact ⟨a, ha, nF, ow.mono fun b z => .inl (z.imp id (ow_put h b).mp)⟩
    · rw [get_set_ne z] at e
      obtain ⟨b, e1, nF, o1⟩ := m.ow j r g e hg
      exact ⟨b, e1, nF, o1.stp s (fun e => by
        subst e
        exact z (m.inj j i r g p f b e hg h hf e1 ha)) k1 k⟩
  · have ne : ∀ {j : Nat} {r : PV} {g : Fl}, (env.set i (some (q, f)))[j]? = some (some (r, g)) → ∃ r', env[j]? = some (some (r', g)) := fun {j r g} e => by
      by_cases z : j = i
      · subst z
        rw [get_set_eq h] at e; cases e
        exact ⟨p, h⟩
      · rw [get_set_ne z] at e; exact ⟨r, e⟩
    obtain ⟨r1, e⟩ := ne e
    obtain ⟨r2, e'⟩ := ne e'
    exact m.inj j l r1 g r2 g' b e hg e' hg' e2 e3
  · by_cases z : j = i
    · subst z
      rw [h] at e; cases e
      exact ⟨q, get_set_eq h⟩
    · exact ⟨r, by rw [get_set_ne z]; exact e⟩
/-- the same for a list -/
theorem Mt.putL {F : AS} {env : En} {σ : Sg} {H : Hp} {i : Nat} {xs ys : List PV} {f : Fl} {a : Addr} {vs ws : List V} (m : Mt F env σ H) (h : env[i]? = some (some (.lst xs, f))) (hf : f ≠ .fz) (ha : σ[i]? = some (some (.ref a))) (hu : H a = some (.lst vs)) (hz : ws.length ≤ sizeLine) (r : RpL (Av F env σ) H ys ws) :
    Mt F (env.set i (some (.lst ys, f))) σ (upd H a (.lst ws)) ∧ Xs env σ H (env.set i (some (.lst ys, f))) (upd H a (.lst ws)) := by
  have n : (∀ ws, HO.lst vs ≠ .tup ws) ∧ ∀ o w, HO.lst vs ≠ .frz o w := ⟨fun _ e => by injection e, fun _ _ e => by injection e⟩
  refine m.put h hf ha hu n ⟨ws, upd_same, hz, RpL.stp (Stp.wr hu n) (fun b e => ?_) (fun b z => .inl z) _ _ r⟩
  subst e
  exact .inr ⟨i, _, f, h, hf, ha⟩
theorem chg_ok {i : Nat} {env e' : En} {f : PV → Option PV} (h : chg i env f = some e') : ∃ p g q, env[i]? = some (some (p, g)) ∧ g ≠ .fz ∧ f p = some q ∧ e' = env.set i (some (q, g)) := by
  unfold chg at h
  split at h
  · rename_i p hp
    obtain ⟨q, e1, e2⟩ := Option.map_eq_some_iff.mp h
    exact ⟨p, _, q, hp, by decide, e1, e2.symm⟩
  · rename_i p hp
    obtain ⟨q, e1, e2⟩ := Option.map_eq_some_iff.mp h
    exact ⟨p, _, q, hp, by decide, e1, e2.symm⟩
  · cases h
theorem chgR_ok {i : Nat} {env e' : En} {f : PV → Option (PV × PV)} {y : PV} (h : chgR i env f = some (y, e')) : ∃ p g q, env[i]? = some (some (p, g)) ∧ g ≠ .fz ∧ f p = some (y, q) ∧ e' = env.set i (some (q, g)) := by
  unfold chgR at h
  split at h
  · rename_i p hp
    obtain ⟨⟨q1, q2⟩, e1, e2⟩ := Option.map_eq_some_iff.mp h
    cases e2
    exact ⟨p, _, q2, hp, by decide, e1, rfl⟩
  · rename_i p hp
    obtain ⟨⟨q1, q2⟩, e1, e2⟩ := Option.map_eq_some_iff.mp h
    cases e2
    exact ⟨p, _, q2, hp, by decide, e1, rfl⟩
  · cases h
def rPopB : V → List V → Hp → VK → Prop := fun x vs H Q => ∃ l xs k y, x = .ref l ∧ H l = some (.lst xs) ∧ xs[k]? = some y ∧ Q y (upd H l (.lst (xs.eraseIdx k))) ∧ ((vs = [] ∧ k = xs.length - 1) ∨ ∃ i, vs = [.int i] ∧ -(2 ^ 63) ≤ i ∧ i < 2 ^ 63 ∧ seqIndex? i xs.length = some k)
theorem er_last {α : Type} : ∀ (l : List α), l.eraseIdx (l.length - 1) = l.dropLast
  | [] => rfl
  | [_] => rfl
  | a :: b :: r => by
    have ih := er_last (b :: r)
    show a :: (b :: r).eraseIdx ((b :: r).length - 1) = a :: (b :: r).dropLast
    rw [ih]
theorem mt_popB {X : Cx} : MtR X "list.pop" rPopB := by
  intro pins s σ H x xs v us Q I rx rv h
  obtain ⟨l, ys, k, y, rfl, e1, e2, q, h⟩ := h
  rcases h with ⟨rfl, rfl⟩ | ⟨i, rfl, h1, h2, h3⟩
  · rw [er_last] at q
    exact mt_pop pins s σ H _ _ v us Q I rx rv ⟨l, ys, y, rfl, rfl, e1, e2, q⟩
  · exact mt_popAt pins s σ H _ _ v us Q I rx rv ⟨l, ys, i, k, y, rfl, rfl, e1, h1, h2, h3, e2, q⟩
/-- a slot that may be written: its list -/
theorem Mt.own {F : AS} {env : En} {σ : Sg} {H : Hp} {i : Nat} {xs : List PV} {g : Fl} (m : Mt F env σ H) (h : env[i]? = some (some (.lst xs, g))) (hg : g ≠ .fz) : ∃ a vs, σ[i]? = some (some (.ref a)) ∧ H a = some (.lst vs) ∧ vs.length ≤ sizeLine ∧ RpL (Av F env σ) H xs vs := by
  obtain ⟨a, e1, _, vs, e2, z, r⟩ := m.ow i _ g h hg
  exact ⟨a, vs, e1, e2, z, r⟩
theorem pop_end {K : PySem.W.Frag} {F : AS} {env e1 : En} {σ : Sg} {H H1 : Hp} {i k : Nat} {xs : List PV} {y : PV} {g : Fl} {Q : VK} {r : PB} {e2 : En} (x1 : Xs env σ H e1 H1) (m : Mt F e1 σ H1) (h : e1[i]? = some (some (.lst xs, g))) (hg : g ≠ .fz) (hy : xs[k]? = some y)
    (er : r = (y, false)) (ee : e2 = e1.set i (some (.lst (xs.eraseIdx k), g))) (q : ∀ v H', Xs env σ H e2 H' → RV F env σ H e2 σ H' r.1 r.2 v → Q v H') :
    ∃ l vs v, σ[i]? = some (some (.ref l)) ∧ H1 l = some (.lst vs) ∧ vs.length = xs.length ∧ vs[k]? = some v ∧ Q v (upd H1 l (.lst (vs.eraseIdx k))) := by
  obtain ⟨a, vs, e3, e4, z, r3⟩ := m.own h hg
  obtain ⟨v, e5, rv⟩ := r3.get' hy
  have n : (∀ ws, HO.lst vs ≠ .tup ws) ∧ ∀ o w, HO.lst vs ≠ .frz o w := ⟨fun _ e => by injection e, fun _ _ e => by injection e⟩
  obtain ⟨m2, x2⟩ := m.putL h hg e3 e4 (Nat.le_trans (len_erase vs k) z) (r3.erase k)
  refine ⟨a, vs, v, e3, e4, r3.len.symm, e5, q v _ ?_ ?_⟩
  · rw [ee]; exact x1.trans x2
  · subst er ee
    have rp : Rp (Av F (e1.set i (some (.lst (xs.eraseIdx k), g))) σ) (upd H1 a (.lst (vs.eraseIdx k))) y v := Rp.stp (Stp.wr e4 n) (fun b e => by subst e; exact .inr ⟨i, _, g, h, hg, e3⟩) (fun b z => .inl (z.imp id (ow_put h b).mp)) _ _ rv
    exact (RV.of m2 rp).back (fun _ z => z) Xs.refl
/-- a slot, read -/
theorem Mt.slot {F : AS} {env : En} {σ : Sg} {H : Hp} {i : Nat} {p : PV} (m : Mt F env σ H) (e : rdSl i env = some p) : ∃ v, σ[i]? = some (some v) ∧ Rb (Av F env σ) H p v := by
  unfold rdSl at e
  split at e
  · rename_i q f e1
    cases e
    by_cases hf : f = .fz
    · subst hf
      obtain ⟨w, e2, r⟩ := m.fz i _ e1
      exact ⟨w, e2, .inl r⟩
    · obtain ⟨a, e2, _, o⟩ := m.ow i _ f e1 hf
      exact ⟨_, e2, .inr ⟨a, rfl, o⟩⟩
  · cases e
section
variable {X : Cx}
theorem popF_ok {xs ys : List PV} {y : PV} {ps : List PV} {A : AS} {H : Hp} {vs : List V} {n : Nat} (hn : n = xs.length) (r : RbL A H ps vs) (h : popF xs ps = some (y, ys)) : ∃ k, xs[k]? = some y ∧ ys = xs.eraseIdx k ∧ ((vs = [] ∧ k = n - 1) ∨ ∃ i, vs = [.int i] ∧ -(2 ^ 63) ≤ i ∧ i < 2 ^ 63 ∧ seqIndex? i n = some k) := by
  subst hn
  unfold popF at h
  split at h
  · obtain ⟨q, e1, e2⟩ := Option.map_eq_some_iff.mp h
    cases e2
    cases r
    exact ⟨_, e1, (er_last xs).symm, .inl ⟨rfl, rfl⟩⟩
  · rename_i i
    split at h
    · rename_i hi
      obtain ⟨k, e1, e2⟩ := Option.bind_eq_some_iff.mp h
      obtain ⟨q, e3, e4⟩ := Option.map_eq_some_iff.mp e2
      cases e4
      obtain ⟨v, rfl, rv⟩ := r.one
      have hi' : (decide (-(2 ^ 62) ≤ i) && decide (i < 2 ^ 62)) = true := hi
      simp only [Bool.and_eq_true, decide_eq_true_eq] at hi'
      exact ⟨k, e3, rfl, .inr ⟨i, by rw [rv.int], by omega, by omega, (L2.ixN_seq e1).1⟩⟩
    · cases h
  · cases h
theorem ev_pop {e : Expr} {i : Nat} {f : En → Res (List Ag)} (h : PE X e (tBM X.K "list" rPopB (tVar i) (tL f))) : PE X e (tE fun env => match rdSl i env with
    | some (.lst _) => (f env).bind fun as e1 => match rdAll e1 as with
      | some ps => (opt (chgR i e1 fun p => match p with
        | .lst l => (popF l ps).map fun r => (r.1, .lst r.2)
        | _ => none) e1).bind fun r _ => .ok (r.1, false) r.2
      | none => .bad
    | _ => .bad) := by
  refine peI h fun σ H Q q => ?_
  obtain ⟨F, env, r, env', m, e, k⟩ := tE_iff.mp q
  split at e
  · rename_i l0 hl0
    obtain ⟨as, e1, h1, e⟩ := bind_ok e
    split at e
    · rename_i ps hp
      obtain ⟨⟨y, e2⟩, e3, h2, e⟩ := bind_ok e
      obtain ⟨h2, rfl⟩ := opt_ok h2
      obtain ⟨p, g, q, hs, hg, hf, he⟩ := chgR_ok h2
      split at hf
      · rename_i l
        obtain ⟨⟨y', ys⟩, h5, h6⟩ := Option.map_eq_some_iff.mp hf
        cases h6
        cases e
        obtain ⟨v0, hv0, rb⟩ := m.slot hl0
        obtain ⟨a0, vs0, rfl, d, _, _⟩ := rb.lst
        refine ⟨_, hv0, .inl ⟨rfl, vs0, sqL d⟩, tL_iff.mpr ⟨F, env, as, e3, m, h1, fun vs H1 F1 xs o _ r1 => ?_⟩⟩
        obtain ⟨k1, e5, e6, e7⟩ := popF_ok rfl (r1.rd o.mt hp) h5
        subst e6
        obtain ⟨a, ws, v, z1, z2, z3, z4, z5⟩ := pop_end (K := X.K) (Q := Q) xs (o.mt.weak o.up) hs hg e5 rfl he k
        rw [hv0] at z1
        cases z1
        exact ⟨_, ws, k1, v, rfl, z2, z4, z5, by rw [z3]; exact e7⟩
      · cases hf
    · cases e
  · cases e
theorem ev_pop0 {e : Expr} {i : Nat} (h : PE X e (tBM0 X.K "list" rPopB (tVar i))) : PE X e (tBM X.K "list" rPopB (tVar i) (tL fun env => .ok [] env)) := by
  refine peI h fun σ H Q ⟨v, hv, ty, q⟩ => ?_
  obtain ⟨F, env, r, env', m, e, k⟩ := tL_iff.mp q
  cases e
  exact ⟨v, hv, ty, k [] H F Xs.refl (Or.refl m) ⟨List.nodup_nil, fun a h => by cases h⟩ .nil⟩
end
end Dk

set_option Elab.async false
set_option linter.all false
set_option autoImplicit false
set_option maxRecDepth 100000
set_option maxHeartbeats 4000000
/-! Dk9m: methods of texts. -/
namespace Dk
open PySem PySem.Spec PyProof.Rows L2

def rM (m : Mf) : V → List V → Hp → VK → Prop := fun x vs H Q => ∃ A p q y r fr, (∀ a, A a → H a ≠ none) ∧ Rb A H p x ∧ vs = [y] ∧ Rb A H q y ∧ mF m p [q] = some (r, fr) ∧ ∀ v H', NV A H r fr v H' → Q v H'
theorem okB_ok {s : List Nat} (h : okB s = true) : okS s := by
  unfold okB at h
  rw [Bool.and_eq_true, List.all_eq_true] at h
  exact ⟨szl_le h.1, fun c m => of_decide_eq_true (h.2 c m)⟩
theorem strs_rel {A : AS} {H : Hp} : ∀ {ps : List PV} {vs : List V} {ns : List (List Nat)}, RpL A H ps vs → strsOf ps = some ns → vs = (ns.map mkS).map V.str
  | [], _, _, h, e => by cases h; cases e; rfl
  | p :: ps, _, _, h, e => by
    cases h with
    | cons a b =>
      cases p with
      | str i =>
        obtain ⟨r, e1, e2⟩ := Option.map_eq_some_iff.mp e
        subst e2
        cases a
        rw [List.map_cons, List.map_cons, ← strs_rel b e1]
      | _ => cases e
theorem mF_str {m : Mf} {p q : PV} {r : PB} (h : mF m p [q] = some r) : ∃ s, p = .str s := by
  unfold mF at h
  split at h <;> first | exact ⟨_, rfl⟩ | cases h
theorem lens_mk (ss : List (List Nat)) : (ss.map mkS).map (·.length) = ss.map List.length := by
  induction ss with
  | nil => rfl
  | cons s ss ih => rw [List.map_cons, List.map_cons, List.map_cons, ih, mkS_len]
section
variable {X : Cx}
theorem MtR.imp {id : String} {r r' : V → List V → Hp → VK → Prop} (h : MtR X id r) (m : ∀ x ys H Q, r' x ys H Q → r x ys H Q) : MtR X id r' :=
  fun pins s σ H x xs v us Q I rx rxs q => h pins s σ H x xs v us Q I rx rxs (m _ _ _ _ q)
theorem mt_joinM : MtR X "str.join" (rM .join) := by
  refine MtR.imp mt_join fun x ys H Q ⟨A, p, q, y, r, fr, al, h1, e, h2, h3, k⟩ => ?_
  subst e
  obtain ⟨s, rfl⟩ := mF_str h3
  obtain ⟨rfl, _⟩ := h1.str
  have main : ∀ (xs : List PV) (a : Addr) (vs : List V), RpL A H xs vs → joinF s xs = some (r, fr) → (SqL X.K H a vs ∨ SqT X.K H a vs) → ∃ a' p, ∃ ys : List Str, V.str (mkS s) = .str a' ∧ [V.ref a] = [.ref p] ∧ (SqL X.K H p (ys.map V.str) ∨ SqT X.K H p (ys.map V.str)) ∧ (ys.map (·.length)).sum + ys.length * a'.length ≤ 16777216 ∧ Q (.str (Txt.join a' ys)) H := by
    intro xs a vs t e hs
    unfold joinF at e
    split at e
    · rename_i ss es
      split at e
      · rename_i hc
        cases e
        rw [Bool.and_eq_true, decide_eq_true_eq] at hc
        have ev := strs_rel t es
        subst ev
        refine ⟨mkS s, a, ss.map mkS, rfl, rfl, hs, ?_, ?_⟩
        · rw [lens_mk, List.length_map, mkS_len]
          exact hc.1
        · have ej : Txt.join (mkS s) (ss.map mkS) = mkS (TL.joinL s ss) := SX.join_S s ss
          rw [ej]
          exact k _ _ (.old (.str _ (okB_ok hc.2)))
      · cases e
    · cases e
  cases q with
  | lst xs =>
    obtain ⟨a, vs, rfl, d, z, t⟩ := h2.lst
    exact main xs a vs t h3 (.inl (sqL d))
  | tup xs =>
    obtain ⟨a, vs, rfl, d, z, t⟩ := h2.tup
    exact main xs a vs t h3 (.inr (sqT d))
  | _ => cases h3
theorem mt_splitM : MtR X "str.split" (rM .split) := by
  refine MtR.imp mt_split fun x ys H Q ⟨A, p, q, y, r, fr, al, h1, e, h2, h3, k⟩ => ?_
  subst e
  obtain ⟨s, rfl⟩ := mF_str h3
  obtain ⟨rfl, hs⟩ := h1.str
  cases q with
  | str b =>
    obtain ⟨rfl, hb⟩ := h2.str
    replace h3 : splitF s b = some (r, fr) := h3
    unfold splitF at h3
    split at h3
    · rename_i hc
      cases h3
      simp only [Bool.and_eq_true, decide_eq_true_eq, Bool.not_eq_true'] at hc
      obtain ⟨⟨⟨c1, c2⟩, c3⟩, c4, c5⟩ := hc
      have nb : b ≠ [] := fun z => by subst z; cases c1
      have es : Txt.split (mkS s) (mkS b) = (TL.spl b 0 [] s).map mkS := SX.split_S nb c2
      refine ⟨mkS s, mkS b, rfl, rfl, ?_, by rw [mkS_len]; exact c3, fun p hp => ?_⟩
      · rw [mkS_len]
        cases b with
        | nil => exact absurd rfl nb
        | cons _ _ => rfl
      · rw [es]
        refine k _ _ (.lst (xs := (TL.spl b 0 [] s).map .str) ?_ hp (by rw [List.length_map, List.length_map]; exact szl_le c5))
        generalize TL.spl b 0 [] s = l at c4
        induction l with
        | nil => exact .nil
        | cons x l ih =>
          rw [List.all_cons, Bool.and_eq_true] at c4
          exact .cons (.str _ (okB_ok c4.1)) (ih c4.2)
    · cases h3
  | _ => cases h3
/-- the receiver is no super() -/
def recvB : Expr → Bool
  | .Call (.Name _ _) [] [] _ => false
  | _ => true
theorem recv_ok {o : Expr} {nm : Str} {env : Env} {w : Sem Value} (h : recvB o = true) : attributeBase o nm env w = w := by
  unfold attributeBase
  split
  · cases h
  · rfl
theorem ev_mt1 {m : Mf} {e : Expr} {g : En → Res PB} {fe : En → Res Ag} (h : PE X e (tM1 (rM m) (tO fun env => (g env).bind fun x e1 => .ok (.v x.1) e1) (tO fe))) : PE X e (tE fun env => ((g env).bind fun x e1 => .ok (.v x.1) e1).bind fun (x : Ag) e1 => ((fe e1).bind fun y e2 => .ok [y] e2).bind fun as e2 => match x.rd e2, rdAll e2 as with
    | some p, some ps => opt (mF m p ps) e2
    | _, _ => .bad) := by
  refine peI h fun σ H Q q => ?_
  obtain ⟨F, env, r, env', m', e, k⟩ := tE_iff.mp q
  obtain ⟨x, e1, h1, e⟩ := bind_ok e
  obtain ⟨as, e2, h2, e⟩ := bind_ok e
  obtain ⟨y, e2', h2', h2⟩ := bind_ok h2
  cases h2
  split at e
  · rename_i p ps hp hps
    obtain ⟨h3, rfl⟩ := opt_ok e
    obtain ⟨⟨p0, fr0⟩, e1', g1, g2⟩ := bind_ok h1
    cases g2
    cases hp
    have hq : ∃ q, y.rd env' = some q ∧ ps = [q] := by
      unfold rdAll at hps
      split at hps
      · rename_i q qs hq hqs
        cases hps
        cases hqs
        exact ⟨q, hq, rfl⟩
      · cases hps
    obtain ⟨q, hq, rfl⟩ := hq
    obtain ⟨s, rfl⟩ := mF_str h3
    refine tO_iff.mpr ⟨F, env, _, _, m', h1, fun v H1 F1 x1 o1 _ r1 => ?_⟩
    have hv := (r1.rd o1.mt rfl).str
    refine ⟨⟨_, hv.1⟩, tO_iff.mpr ⟨F1, _, y, _, o1.mt, h2', fun w H2 F2 x2 o2 _ r2 => ?_⟩⟩
    have r3 := r1.move o1.mt x2 o2
    refine ⟨_, .str s, q, w, r.1, r.2, fun a z => o2.mt.there z, r3.rd o2.mt rfl, rfl, r2.rd o2.mt hq, h3, fun u H3 n => ?_⟩
    obtain ⟨k1, k2⟩ := fin_nv (x1.trans x2) (o1.trans x1 o2) n
    exact k u H3 k1 k2
  · cases e
end
end Dk

set_option Elab.async false
set_option linter.all false
set_option autoImplicit false
set_option maxRecDepth 100000
set_option maxHeartbeats 1000000
/-! Dk10: calls of the program's own functions. -/
namespace Dk
open PySem PySem.Spec PyProof.Rows L2

/-! ### what holds no list holds whatever is avoided -/
mutual
theorem Rp.nol {A A' : AS} {H : Hp} : ∀ (p : PV) (v : V), Rp A H p v → nol p = true → Rp A' H p v
  | .non, _, h, _ => by cases h; exact .non
  | .bl b, _, h, _ => by cases h; exact .bl b
  | .int i, _, h, _ => by cases h; exact .int i
  | .str s, _, h, _ => by cases h with | str _ k => exact .str s k
  | .lst xs, _, h, n => by cases n
  | .tup xs, _, h, n => by
    cases h with
    | tup r z q => exact .tup r z (RpL.nol xs _ q n)
  | .dk _, _, _, n => by cases n
  | .dt _, _, _, n => by cases n
theorem RpL.nol {A A' : AS} {H : Hp} : ∀ (ps : List PV) (vs : List V), RpL A H ps vs → nolL ps = true → RpL A' H ps vs
  | [], _, h, _ => by cases h; exact .nil
  | p :: ps, _, h, n => by
    cases h with
    | cons a b =>
      have n' : (Dk.nol p && nolL ps) = true := n
      rw [Bool.and_eq_true] at n'
      exact .cons (Rp.nol p _ a n'.1) (RpL.nol ps _ b n'.2)
end
theorem Own.flat {A A' : AS} {H : Hp} {p : PV} {a : Addr} (h : Own A H p a) (n : flatP p = true) : Own A' H p a := by
  cases p with
  | lst xs =>
    obtain ⟨vs, e, z, r⟩ := h
    exact ⟨vs, e, z, RpL.nol xs vs r n⟩
  | _ => cases n

/-! ### what a function promises -/
inductive PArg (A : AS) (H : Hp) : List Bool → List PV → List V → List Addr → Prop where
  | nil : PArg A H [] [] [] []
  | io {p : PV} {a : Addr} {f : List Bool} {ps : List PV} {vs : List V} {ia : List Addr} : Own A H p a → PArg A H f ps vs ia → PArg A H (true :: f) (p :: ps) (.ref a :: vs) (a :: ia)
  | vl {p : PV} {v : V} {f : List Bool} {ps : List PV} {vs : List V} {ia : List Addr} : Rp A H p v → PArg A H f ps vs ia → PArg A H (false :: f) (p :: ps) (v :: vs) ia
inductive OwnL (A : AS) (H : Hp) : List PV → List Addr → Prop where
  | nil : OwnL A H [] []
  | cons {q : PV} {a : Addr} {qs : List PV} {ia : List Addr} : Own A H q a → OwnL A H qs ia → OwnL A H (q :: qs) (a :: ia)
theorem OwnL.mono {A A' : AS} {H : Hp} (m : ∀ a, A' a → A a ∨ H a = none) : ∀ {qs : List PV} {ia : List Addr}, OwnL A H qs ia → OwnL A' H qs ia
  | _, _, .nil => .nil
  | _, _, .cons a b => .cons (a.mono m) (OwnL.mono m b)
theorem OwnL.flat {A A' : AS} {H : Hp} : ∀ {qs : List PV} {ia : List Addr}, OwnL A H qs ia → qs.all flatP = true → OwnL A' H qs ia
  | _, _, .nil, _ => .nil
  | _, _, .cons a b, n => by
    rw [List.all_cons, Bool.and_eq_true] at n
    exact .cons (a.flat n.1) (OwnL.flat b n.2)
/-- fr: the answer is a new list of the caller's -/
def Zf (fr : Bool) (v : V) : AS := fun a => fr = true ∧ v = .ref a
structure CRes (F : AS) (ia : List Addr) (H : Hp) (r : PV) (fr : Bool) (qs : List PV) (v : V) (H' : Hp) : Prop where
  stp : Stp (fun a => a ∈ ia) H H'
  val : if fr = true then ∃ a, v = .ref a ∧ H a = none ∧ Own (fun b => (F b ∨ b ∈ ia) ∨ Zf fr v b) H' r a else Rp (fun b => (F b ∨ b ∈ ia) ∨ Zf fr v b) H' r v
  ios : OwnL (fun b => (F b ∨ b ∈ ia) ∨ Zf fr v b) H' qs ia
def spF (call : Call) (io : List Bool) (f : Nat) : Sp := fun vs H Q _ => ∃ (F : AS) (ps : List PV) (ia : List Addr), (∀ a, F a → H a ≠ none) ∧ (∀ a ∈ ia, ¬ F a) ∧ ia.Nodup ∧ PArg (fun b => F b ∨ b ∈ ia) H io ps vs ia ∧ match call f ps with
  | .ok r fr qs => ∀ v H', CRes F ia H r fr qs v H' → Q v H'
  | .bad => False
theorem PArg.len {A : AS} {H : Hp} : ∀ {f : List Bool} {ps : List PV} {vs : List V} {ia : List Addr}, PArg A H f ps vs ia → vs.length = f.length
  | _, _, _, _, .nil => rfl
  | _, _, _, _, .io _ b => congrArg (· + 1) b.len
  | _, _, _, _, .vl _ b => congrArg (· + 1) b.len
theorem spF.len {call : Call} {io : List Bool} {f : Nat} {vs : List V} {H : Hp} {Q : VK} {E : XK} (h : spF call io f vs H Q E) : vs.length = io.length := by
  obtain ⟨F, ps, ia, _, _, _, p, _⟩ := h
  exact p.len

/-! ### a slot's object is given away and put back -/
theorem Mt.takeG {F : AS} {env : En} {σ : Sg} {H : Hp} {i : Nat} {p : PV} {g : Fl} {a : Addr} (m : Mt F env σ H) (h : env[i]? = some (some (p, g))) (hg : g ≠ .fz) (ha : σ[i]? = some (some (.ref a))) :
    Mt (fun b => F b ∨ b = a) (env.set i none) σ H ∧ ¬ F a ∧ ¬ Ow (env.set i none) σ a ∧ (∀ b, Av (fun b => F b ∨ b = a) (env.set i none) σ b → Av F env σ b) ∧ (∀ b, Ow env σ b → b = a ∨ Ow (env.set i none) σ b) := by
  obtain ⟨a', ha', nF, o⟩ := m.ow i p g h hg
  rw [ha] at ha'
  cases ha'
  have hs : ∀ q g, (none : Sl) = some (q, g) → g = .fz := fun q g e => by cases e
  have sub := ow_set_sub (σ := σ) h hs
  have nO := ow_set_not m h hg ha hs
  have hO : Ow env σ a := ⟨i, p, g, h, hg, ha⟩
  have k : ∀ b, Av (fun b => F b ∨ b = a) (env.set i none) σ b → Av F env σ b := fun b z => by
    rcases z with (z | z) | z
    · exact .inl z
    · subst z; exact .inr hO
    · exact .inr (sub b z)
  have ne : ∀ {j : Nat} {q : PV} {f : Fl}, (env.set i none)[j]? = some (some (q, f)) → j ≠ i ∧ env[j]? = some (some (q, f)) := fun {j q f} e => by
    have z : j ≠ i := fun z => by subst z; rw [get_set_eq h] at e; cases e
    rw [get_set_ne z] at e
    exact ⟨z, e⟩
  refine ⟨⟨by rw [List.length_set]; exact m.len, fun b z => ?_, fun j q e => ?_, fun j q f e hf => ?_, fun j l q f q' g' b e hf e' hg' e2 e3 => ?_⟩, nF, nO, k, fun b z => ?_⟩
  · rcases z with z | z
    · exact m.al b z
    · subst z; exact o.there
  · obtain ⟨_, e1⟩ := ne e
    obtain ⟨v, e2, r⟩ := m.fz j q e1
    exact ⟨v, e2, r.mono fun b z => .inl (k b z)⟩
  · obtain ⟨z, e1⟩ := ne e
    obtain ⟨b, e2, n2, o2⟩ := m.ow j q f e1 hf
    refine ⟨b, e2, fun w => ?_, o2.mono fun c z => .inl (k c z)⟩
    rcases w with w | w
    · exact n2 w
    · subst w
      exact z (m.inj j i q f p g b e1 hf h hg e2 ha)
  · exact m.inj j l q f q' g' b (ne e).2 hf (ne e').2 hg' e2 e3
  · obtain ⟨j, q, f, e, hf, e2⟩ := z
    by_cases w : j = i
    · subst w
      rw [ha] at e2; cases e2
      exact .inl rfl
    · exact .inr ⟨j, q, f, by rw [get_set_ne w]; exact e, hf, e2⟩
theorem Mt.back {F : AS} {env : En} {σ : Sg} {H : Hp} {i : Nat} {q : PV} {g : Fl} {a : Addr} (m : Mt (fun b => F b ∨ b = a) env σ H) (h : env[i]? = some none) (hg : g ≠ .fz) (ha : σ[i]? = some (some (.ref a))) (nF : ¬ F a) (o : Own (Av (fun b => F b ∨ b = a) env σ) H q a) :
    Mt F (env.set i (some (q, g))) σ H ∧ (∀ b, Ow (env.set i (some (q, g))) σ b ↔ b = a ∨ Ow env σ b) := by
  have hO : ∀ b, Ow (env.set i (some (q, g))) σ b ↔ b = a ∨ Ow env σ b := fun b => by
    constructor
    · rintro ⟨j, r, f, e, hf, e2⟩
      by_cases z : j = i
      · subst z
        rw [ha] at e2; cases e2
        exact .inl rfl
      · rw [get_set_ne z] at e
        exact .inr ⟨j, r, f, e, hf, e2⟩
    · rintro (z | ⟨j, r, f, e, hf, e2⟩)
      · subst z; exact ⟨i, q, g, get_set_eq h, hg, ha⟩
      · by_cases z : j = i
        · subst z; rw [h] at e; cases e
        · exact ⟨j, r, f, by rw [get_set_ne z]; exact e, hf, e2⟩
  have k : ∀ b, Av F (env.set i (some (q, g))) σ b → Av (fun b => F b ∨ b = a) env σ b := fun b z => by
    rcases z with z | z
    · exact .inl (.inl z)
    · rcases (hO b).mp z with z | z
      · exact .inl (.inr z)
      · exact .inr z
  refine ⟨⟨by rw [List.length_set]; exact m.len, fun b z => m.al b (.inl z), fun j r e => ?_, fun j r f e hf => ?_, fun j l r f r' f' b e hf e' hf' e2 e3 => ?_⟩, hO⟩
  · have z : j ≠ i := fun z => by subst z; rw [get_set_eq h] at e; cases e; exact hg rfl
    rw [get_set_ne z] at e
    obtain ⟨v, e1, rv⟩ := m.fz j r e
    exact ⟨v, e1, rv.mono fun b z => .inl (k b z)⟩
  · by_cases z : j = i
    · subst z
      rw [get_set_eq h] at e; cases e
      exact ⟨a, ha, nF, o.mono fun b z => .inl (k b z)⟩
    · rw [get_set_ne z] at e
      obtain ⟨b, e1, n1, o1⟩ := m.ow j r f e hf
      exact ⟨b, e1, fun w => n1 (.inl w), o1.mono fun b z => .inl (k b z)⟩
  · by_cases z : j = i
    · by_cases w : l = i
      · rw [z, w]
      · exfalso
        subst z
        rw [get_set_ne w] at e'
        rw [ha] at e2; cases e2
        obtain ⟨b, e4, n4, _⟩ := m.ow l r' f' e' hf'
        rw [e3] at e4; cases e4
        exact n4 (.inr rfl)
    · rw [get_set_ne z] at e
      by_cases w : l = i
      · exfalso
        subst w
        rw [ha] at e3; cases e3
        obtain ⟨b, e4, n4, _⟩ := m.ow j r f e hf
        rw [e2] at e4; cases e4
        exact n4 (.inr rfl)
      · rw [get_set_ne w] at e'
        exact m.inj j l r f r' f' b e hf e' hf' e2 e3
/-- a callee wrote what is held apart -/
theorem Mt.call {F Z O : AS} {env : En} {σ : Sg} {H H' : Hp} (m : Mt F env σ H) (s : Stp O H H') (hO : ∀ a, O a → F a) (hZ : ∀ a, Z a → H a = none ∧ H' a ≠ none) : Mt (fun b => F b ∨ Z b) env σ H' := by
  have k : ∀ b, Av (fun b => F b ∨ Z b) env σ b → Av F env σ b ∨ H b = none := fun b z => by
    rcases z with (z | z) | z
    · exact .inl (.inl z)
    · exact .inr (hZ b z).1
    · exact .inl (.inr z)
  refine ⟨m.len, fun b z e => ?_, fun j r e => ?_, fun j r f e hf => ?_, m.inj⟩
  · rcases z with z | z
    · exact m.al b z (s.dom b e)
    · exact (hZ b z).2 e
  · obtain ⟨v, e1, rv⟩ := m.fz j r e
    exact ⟨v, e1, Rp.stp s (fun a z => .inl (hO a z)) k _ _ rv⟩
  · obtain ⟨b, e1, n1, o1⟩ := m.ow j r f e hf
    refine ⟨b, e1, fun z => ?_, o1.stp s (fun z => n1 (hO b z)) (fun a z => .inl (hO a z)) k⟩
    rcases z with z | z
    · exact n1 z
    · exact o1.there (hZ b z).1

/-! ### the in-out arguments -/
inductive CA (σ : Sg) (F1 : AS) (O : Nat → Prop) : List Bool → List Ag → List V → List Addr → Prop where
  | nil : CA σ F1 O [] [] [] []
  | ioS {i : Nat} {a : Addr} {f : List Bool} {as : List Ag} {vs : List V} {ia : List Addr} : O i → σ[i]? = some (some (.ref a)) → CA σ F1 O f as vs ia → CA σ F1 O (true :: f) (.s i :: as) (.ref a :: vs) (a :: ia)
  | ioT {p : PV} {a : Addr} {f : List Bool} {as : List Ag} {vs : List V} {ia : List Addr} : F1 a → CA σ F1 O f as vs ia → CA σ F1 O (true :: f) (.t p :: as) (.ref a :: vs) (a :: ia)
  | vV {p : PV} {v : V} {f : List Bool} {as : List Ag} {vs : List V} {ia : List Addr} : CA σ F1 O f as vs ia → CA σ F1 O (false :: f) (.v p :: as) (v :: vs) ia
  | vS {i : Nat} {v : V} {f : List Bool} {as : List Ag} {vs : List V} {ia : List Addr} : σ[i]? = some (some v) → CA σ F1 O f as vs ia → CA σ F1 O (false :: f) (.s i :: as) (v :: vs) ia
theorem putIo_set {i : Nat} {s : Sl} : ∀ {f : List Bool} {as : List Ag} {qs : List PV} {env : En}, i ∉ slots as → putIo f as qs (env.set i s) = (putIo f as qs env).map (·.set i s)
  | [], [], [], env, _ => rfl
  | [], [], _ :: _, env, _ => rfl
  | [], _ :: _, _, env, _ => by unfold putIo; rfl
  | true :: f, [], _, env, _ => by unfold putIo; rfl
  | false :: f, [], _, env, _ => by unfold putIo; rfl
  | true :: f, .v _ :: r, qs, env, h => by unfold putIo; rfl
  | true :: f, .s j :: r, [], env, h => by unfold putIo; rfl
  | true :: f, .t _ :: r, [], env, h => by unfold putIo; rfl
  | true :: f, .t _ :: r, _ :: qs, env, h => by
    unfold putIo
    exact putIo_set (f := f) h
  | false :: f, .v _ :: r, qs, env, h => by
    unfold putIo
    exact putIo_set (f := f) h
  | false :: f, .t _ :: r, qs, env, h => by unfold putIo; rfl
  | false :: f, .s j :: r, qs, env, h => by
    unfold putIo
    exact putIo_set (f := f) fun z => h (List.mem_cons_of_mem _ z)
  | true :: f, .s j :: r, q :: qs, env, h => by
    have hj : j ≠ i := fun z => h (by subst z; exact List.mem_cons_self)
    have hr : i ∉ slots r := fun z => h (List.mem_cons_of_mem _ z)
    unfold putIo
    rw [get_set_ne hj]
    split
    · rw [List.set_comm _ _ (Ne.symm hj)]
      exact putIo_set (f := f) hr
    · rw [List.set_comm _ _ (Ne.symm hj)]
      exact putIo_set (f := f) hr
    · rfl
theorem put_back {σ : Sg} {F1 Z W T : AS} {O : Nat → Prop} {H H' : Hp} (s : Stp W H H') (hZ : ∀ a, Z a → H a = none ∧ H' a ≠ none) : ∀ {f : List Bool} {as : List Ag} {vs : List V} {ia : List Addr} {qs : List PV} {F : AS} {env e2 : En}, CA σ F1 O f as vs ia → (slots as).Nodup → Mt F env σ H → (∀ a, F1 a → F a) →
    (∀ a, W a → F a ∨ a ∈ ia) → (∀ b, Av F env σ b → T b) → (∀ b, Z b → T b) → OwnL T H' qs ia → putIo f as qs env = some e2 → Mt (fun b => F b ∨ Z b) e2 σ H' ∧ (∀ b, Ow e2 σ b ↔ Ow env σ b) ∧ ∀ (i : Nat) (p : PV), env[i]? = some (some (p, .io)) → ∃ q : PV, e2[i]? = some (some (q, .io)) := by
  intro f
  induction f with
  | nil =>
    intro as vs ia qs F env e2 c nd m hF hO hT hZT ol e
    cases c
    cases ol
    cases e
    exact ⟨m.call s (fun a z => (hO a z).elim id fun w => by cases w) hZ, fun b => Iff.rfl, fun i p e => ⟨p, e⟩⟩
  | cons b f ih =>
    intro as vs ia qs F env e2 c nd m hF hO hT hZT ol e
    cases c with
    | vV c => exact ih c nd m hF hO hT hZT ol e
    | vS _ c => exact ih c (List.nodup_cons.mp nd).2 m hF hO hT hZT ol e
    | @ioT p a _ as vs ia hFa c =>
      cases ol with
      | cons o ol =>
        refine ih c nd m hF (fun a z => ?_) hT hZT ol e
        rcases hO a z with w | w
        · exact .inl w
        · rcases List.mem_cons.mp w with w | w
          · subst w; exact .inl (hF _ hFa)
          · exact .inr w
    | @ioS i a _ as vs ia _ ha c =>
      cases ol with
      | @cons q _ qs _ o ol =>
        obtain ⟨ni, nd⟩ := List.nodup_cons.mp nd
        have main : ∀ {p : PV} {g : Fl}, env[i]? = some (some (p, g)) → g ≠ .fz → putIo f as qs (env.set i (some (q, g))) = some e2 → Mt (fun b => F b ∨ Z b) e2 σ H' ∧ (∀ b, Ow e2 σ b ↔ Ow env σ b) ∧ ∀ (i : Nat) (p : PV), env[i]? = some (some (p, .io)) → ∃ q : PV, e2[i]? = some (some (q, .io)) := fun {p g} h hg e => by
          obtain ⟨m1, nF, nO, k1, k2⟩ := m.takeG h hg ha
          have e3 : env.set i (some (q, g)) = (env.set i none).set i (some (q, g)) := by rw [List.set_set]
          rw [e3, putIo_set ni] at e
          obtain ⟨e', e4, e5⟩ := Option.map_eq_some_iff.mp e
          obtain ⟨m2, k3, k4⟩ := ih c nd m1 (fun b z => .inl (hF b z)) (fun b z => by
            rcases hO b z with w | w
            · exact .inl (.inl w)
            · rcases List.mem_cons.mp w with w | w
              · exact .inl (.inr w)
              · exact .inr w) (fun b z => hT b (k1 b z)) hZT ol e4
          have m2' : Mt (fun b => (fun b => F b ∨ Z b) b ∨ b = a) e' σ H' := m2.weak fun b z => by
            rcases z with (z | z) | z
            · exact .inl (.inl z)
            · exact .inr z
            · exact .inl (.inr z)
          have hi : e'[i]? = some none := by
            have hl : e'.length = env.length := by
              have h1 := m2.len
              have h2 := m.len
              omega
            have e6 : (env.set i none).set i none = env.set i none := by rw [List.set_set]
            have e7 := putIo_set (i := i) (s := none) (f := f) (as := as) (qs := qs) (env := env.set i none) ni
            rw [e6, e4] at e7
            have e8 : e' = e'.set i none := by simpa using e7
            have hlt : i < e'.length := by rw [hl]; exact (List.getElem?_eq_some_iff.mp h).1
            rw [e8]
            exact List.getElem?_set_self hlt
          have nZ : ¬ (F a ∨ Z a) := fun z => by
            rcases z with z | z
            · exact nF z
            · obtain ⟨a', e9, _, ow⟩ := m.ow i p g h hg
              rw [ha] at e9; cases e9
              exact ow.there (hZ a z).1
          obtain ⟨m3, k5⟩ := m2'.back (q := q) hi hg ha nZ (o.mono fun b z => by
            rcases z with (z | z) | z
            · rcases z with z | z
              · exact .inl (hT b (.inl z))
              · exact .inl (hZT b z)
            · subst z; exact .inl (hT b (k1 b (.inl (.inr rfl))))
            · exact .inl (hT b (k1 b (.inr ((k3 b).mp z)))))
          subst e5
          refine ⟨m3, fun b => ⟨fun z => ?_, fun z => ?_⟩, fun j r hr => ?_⟩
          · rcases (k5 b).mp z with z | z
            · subst z; exact ⟨i, p, g, h, hg, ha⟩
            · exact ow_set_sub h (fun q g e => by cases e) b ((k3 b).mp z)
          · rcases k2 b z with z | z
            · exact (k5 b).mpr (.inl z)
            · exact (k5 b).mpr (.inr ((k3 b).mpr z))
          · by_cases z : j = i
            · subst z
              rw [h] at hr; cases hr
              exact ⟨q, get_set_eq hi⟩
            · obtain ⟨q', w⟩ := k4 j r (by rw [get_set_ne z]; exact hr)
              exact ⟨q', by rw [get_set_ne z]; exact w⟩
        unfold putIo at e
        split at e
        · rename_i p hp
          exact main hp (by decide) e
        · rename_i p hp
          exact main hp (by decide) e
        · cases e

theorem apart_ok {f : List Bool} {ags : List Ag} (h : apart f ags = true) : f.all (!·) = true ∨ (slots ags).Nodup := by
  unfold apart at h
  rcases Bool.or_eq_true_iff.mp h with h | h
  · exact .inl h
  · exact .inr (of_decide_eq_true h)
/-- no in-out parameter: nothing is put -/
theorem putIo_no : ∀ {f : List Bool} {as : List Ag} {qs : List PV} {env e2 : En}, f.all (!·) = true → putIo f as qs env = some e2 → e2 = env ∧ qs = []
  | [], [], [], env, e2, _, h => by cases h; exact ⟨rfl, rfl⟩
  | [], [], _ :: _, env, _, _, h => by unfold putIo at h; cases h
  | [], _ :: _, _, env, _, _, h => by unfold putIo at h; cases h
  | true :: f, _, _, env, _, n, h => by cases n
  | false :: f, [], _, env, _, n, h => by unfold putIo at h; cases h
  | false :: f, .t _ :: _, _, env, _, n, h => by unfold putIo at h; cases h
  | false :: f, .v _ :: r, qs, env, e2, n, h => putIo_no (f := f) (as := r) n (by unfold putIo at h; exact h)
  | false :: f, .s _ :: r, qs, env, e2, n, h => putIo_no (f := f) (as := r) n (by unfold putIo at h; exact h)
/-- the lent slots that still own -/
def La (σ : Sg) : List Bool → List Ag → En → AS
  | false :: f, .s i :: r, env => fun b => ((∃ (p : PV) (g : Fl), env[i]? = some (some (p, g)) ∧ g ≠ .fz) ∧ σ[i]? = some (some (.ref b))) ∨ La σ f r env b
  | _ :: f, _ :: r, env => La σ f r env
  | _, _, _ => fun _ => False
theorem lent_ok {σ : Sg} {at' : Bool} {env : En} : ∀ {f : List Bool} {as : List Ag}, lent env at' f as = true → at' = true ∨ ∀ b, ¬ La σ f as env b
  | [], [], _ => .inr fun b z => z
  | [], _ :: _, _ => .inr fun b z => z
  | true :: _, [], _ => .inr fun b z => z
  | false :: _, [], _ => .inr fun b z => z
  | true :: f, .v _ :: r, h => lent_ok (f := f) (as := r) h
  | true :: f, .s _ :: r, h => lent_ok (f := f) (as := r) h
  | true :: f, .t _ :: r, h => lent_ok (f := f) (as := r) h
  | false :: f, .v _ :: r, h => lent_ok (f := f) (as := r) h
  | false :: f, .t _ :: r, h => lent_ok (f := f) (as := r) h
  | false :: f, .s i :: r, h => by
    have h' : ((at' || (match env[i]? with | some (some (_, .fz)) => true | _ => false)) && lent env at' f r) = true := h
    rw [Bool.and_eq_true, Bool.or_eq_true] at h'
    rcases h'.1 with h1 | h1
    · exact .inl h1
    · rcases lent_ok (σ := σ) (f := f) (as := r) h'.2 with h2 | h2
      · exact .inl h2
      · refine .inr fun b z => ?_
        rcases z with ⟨⟨p, g, e, hg⟩, _⟩ | z
        · rw [e] at h1
          cases g with
          | fz => exact hg rfl
          | own => cases h1
          | io => cases h1
        · exact h2 b z
/-- the slot owns -/
def Owns (env : En) (i : Nat) : Prop := ∃ (p : PV) (g : Fl), env[i]? = some (some (p, g)) ∧ g ≠ .fz
/-- the operands as the callee's arguments -/
theorem args_ca {F : AS} {env : En} {σ : Sg} {H : Hp} (m : Mt F env σ H) : ∀ {f : List Bool} {as : List Ag} {vs : List V} {qs : List PV} {env' e2 : En}, AgL F env σ H as vs → putIo f as qs env' = some e2 → (∀ i, Owns env' i → Owns env i) → ∃ ia, CA σ F (Owns env) f as vs ia
  | [], [], _, _, _, _, r, _, _ => by cases r; exact ⟨_, .nil⟩
  | [], _ :: _, _, _, _, _, r, e, _ => by unfold putIo at e; cases e
  | true :: f, [], _, _, _, _, r, e, _ => by unfold putIo at e; cases e
  | false :: f, [], _, _, _, _, r, e, _ => by unfold putIo at e; cases e
  | true :: f, .v _ :: as, _, _, _, _, r, e, _ => by unfold putIo at e; cases e
  | false :: f, .t _ :: as, _, _, _, _, r, e, _ => by unfold putIo at e; cases e
  | false :: f, .v _ :: as, _, _, _, _, .cons a r, e, k => by
    unfold putIo at e
    obtain ⟨ia, c⟩ := args_ca m (f := f) r e k
    exact ⟨ia, .vV c⟩
  | false :: f, .s i :: as, _, _, _, _, .cons a r, e, k => by
    unfold putIo at e
    obtain ⟨ia, c⟩ := args_ca m (f := f) r e k
    exact ⟨ia, .vS a c⟩
  | true :: f, .t p :: as, _, [], _, _, r, e, _ => by unfold putIo at e; cases e
  | true :: f, .s p :: as, _, [], _, _, r, e, _ => by unfold putIo at e; cases e
  | true :: f, .t p :: as, _, q :: qs, _, _, .cons a r, e, k => by
    unfold putIo at e
    obtain ⟨ia, c⟩ := args_ca m (f := f) r e k
    obtain ⟨b, rfl, hF, _⟩ := a
    exact ⟨b :: ia, .ioT hF c⟩
  | true :: f, .s i :: as, _, q :: qs, env', _, .cons (v := v) a r, e, k => by
    have main : ∀ {p : PV} {g : Fl} {e2 : En}, env'[i]? = some (some (p, g)) → g ≠ .fz → putIo f as qs (env'.set i (some (q, g))) = some e2 → ∃ ia, CA σ F (Owns env) (true :: f) (.s i :: as) (v :: _) ia := fun {p g e2} h hg e => by
      obtain ⟨p', g', h', hg'⟩ := k i ⟨p, g, h, hg⟩
      obtain ⟨b, e1, _, _⟩ := m.ow i p' g' h' hg'
      have a' : σ[i]? = some (some v) := a
      rw [e1] at a'
      cases a'
      obtain ⟨ia, c⟩ := args_ca m (f := f) r e fun j ⟨p, g2, w, hw⟩ => by
        by_cases z : j = i
        · subst z; exact ⟨p', g', h', hg'⟩
        · rw [get_set_ne z] at w
          exact k j ⟨p, g2, w, hw⟩
      exact ⟨b :: ia, .ioS ⟨p', g', h', hg'⟩ e1 c⟩
    unfold putIo at e
    split at e
    · rename_i p hp
      exact main hp (by decide) e
    · rename_i p hp
      exact main hp (by decide) e
    · cases e

theorem la_mem {σ : Sg} {env : En} {b : Addr} : ∀ {f : List Bool} {as : List Ag}, La σ f as env b → ∃ j ∈ slots as, Owns env j ∧ σ[j]? = some (some (.ref b))
  | [], [], h => h.elim
  | [], _ :: _, h => h.elim
  | true :: _, [], h => h.elim
  | false :: _, [], h => h.elim
  | true :: f, .v _ :: r, h => la_mem (f := f) (as := r) h
  | true :: f, .t _ :: r, h => la_mem (f := f) (as := r) h
  | false :: f, .v _ :: r, h => la_mem (f := f) (as := r) h
  | false :: f, .t _ :: r, h => la_mem (f := f) (as := r) h
  | true :: f, .s _ :: r, h => by
    obtain ⟨j, h1, h2⟩ := la_mem (f := f) (as := r) h
    exact ⟨j, List.mem_cons_of_mem _ h1, h2⟩
  | false :: f, .s i :: r, h => by
    rcases h with ⟨h1, h2⟩ | h
    · exact ⟨i, List.mem_cons_self, h1, h2⟩
    · obtain ⟨j, h1, h2⟩ := la_mem (f := f) (as := r) h
      exact ⟨j, List.mem_cons_of_mem _ h1, h2⟩
theorem ia_mem {σ : Sg} {F1 : AS} {O : Nat → Prop} {b : Addr} : ∀ {f : List Bool} {as : List Ag} {vs : List V} {ia : List Addr}, CA σ F1 O f as vs ia → b ∈ ia → (∃ j ∈ slots as, O j ∧ σ[j]? = some (some (.ref b))) ∨ (F1 b ∧ V.ref b ∈ tmps as vs)
  | _, _, _, _, .nil, h => by cases h
  | _, _, _, _, .vV c, h => by
    have := ia_mem c h
    exact this
  | _, _, _, _, .vS _ c, h => (ia_mem c h).imp (fun ⟨j, h1, h2⟩ => ⟨j, List.mem_cons_of_mem _ h1, h2⟩) id
  | _, _, _, _, .ioT hF c, h => by
    rcases List.mem_cons.mp h with h | h
    · subst h; exact .inr ⟨hF, List.mem_cons_self⟩
    · exact (ia_mem c h).imp id fun ⟨h1, h2⟩ => ⟨h1, List.mem_cons_of_mem _ h2⟩
  | _, _, _, _, .ioS (i := i) ho e c, h => by
    rcases List.mem_cons.mp h with h | h
    · subst h; exact .inl ⟨i, List.mem_cons_self, ho, e⟩
    · exact (ia_mem c h).imp (fun ⟨j, h1, h2⟩ => ⟨j, List.mem_cons_of_mem _ h1, h2⟩) id
theorem ia_no {σ : Sg} {F1 : AS} {O : Nat → Prop} : ∀ {f : List Bool} {as : List Ag} {vs : List V} {ia : List Addr}, CA σ F1 O f as vs ia → f.all (!·) = true → ia = []
  | _, _, _, _, .nil, _ => rfl
  | _, _, _, _, .vV c, h => ia_no c h
  | _, _, _, _, .vS _ c, h => ia_no c h
  | _, _, _, _, .ioT _ _, h => by cases h
  | _, _, _, _, .ioS _ _ _, h => by cases h
theorem own_inj {F : AS} {env : En} {σ : Sg} {H : Hp} {i j : Nat} {a : Addr} (m : Mt F env σ H) (hi : Owns env i) (hj : Owns env j) (ei : σ[i]? = some (some (.ref a))) (ej : σ[j]? = some (some (.ref a))) : i = j := by
  obtain ⟨p, g, h, hg⟩ := hi
  obtain ⟨q, g', h', hg'⟩ := hj
  exact m.inj i j p g q g' a h hg h' hg' ei ej
theorem own_nF {F : AS} {env : En} {σ : Sg} {H : Hp} {i : Nat} {a : Addr} (m : Mt F env σ H) (hi : Owns env i) (ei : σ[i]? = some (some (.ref a))) : ¬ F a := by
  obtain ⟨p, g, h, hg⟩ := hi
  obtain ⟨b, e, n, _⟩ := m.ow i p g h hg
  rw [ei] at e; cases e
  exact n
theorem own_ow {env : En} {σ : Sg} {i : Nat} {a : Addr} (hi : Owns env i) (ei : σ[i]? = some (some (.ref a))) : Ow env σ a := by
  obtain ⟨p, g, h, hg⟩ := hi
  exact ⟨i, p, g, h, hg, ei⟩
theorem ia_nd {F1 : AS} {env : En} {σ : Sg} {H : Hp} (m : Mt F1 env σ H) : ∀ {f : List Bool} {as : List Ag} {vs : List V} {ia : List Addr}, CA σ F1 (Owns env) f as vs ia → (slots as).Nodup → (tmps as vs).Nodup → ia.Nodup
  | _, _, _, _, .nil, _, _ => List.nodup_nil
  | _, _, _, _, .vV c, h1, h2 => ia_nd m c h1 h2
  | _, _, _, _, .vS _ c, h1, h2 => ia_nd m c (List.nodup_cons.mp h1).2 h2
  | _, _, _, _, .ioT hF c, h1, h2 => by
    obtain ⟨n2, h2⟩ := List.nodup_cons.mp h2
    refine List.nodup_cons.mpr ⟨fun z => ?_, ia_nd m c h1 h2⟩
    rcases ia_mem c z with ⟨j, _, ho, e⟩ | ⟨_, z⟩
    · exact own_nF m ho e hF
    · exact n2 z
  | _, _, _, _, .ioS (i := i) ho e c, h1, h2 => by
    obtain ⟨n1, h1⟩ := List.nodup_cons.mp h1
    refine List.nodup_cons.mpr ⟨fun z => ?_, ia_nd m c h1 h2⟩
    rcases ia_mem c z with ⟨j, hj, ho', e'⟩ | ⟨z, _⟩
    · have := own_inj m ho ho' e e'
      subst this
      exact n1 hj
    · exact own_nF m ho e z
theorem la_ia {F1 : AS} {env : En} {σ : Sg} {H : Hp} (m : Mt F1 env σ H) {b : Addr} : ∀ {f : List Bool} {as : List Ag} {vs : List V} {ia : List Addr}, CA σ F1 (Owns env) f as vs ia → (slots as).Nodup → La σ f as env b → b ∉ ia
  | _, _, _, _, .nil, _, h => h.elim
  | _, _, _, _, .vV c, h1, h => la_ia m c h1 h
  | _, _, _, _, .vS (i := i) e c, h1, h => by
    obtain ⟨n1, h1⟩ := List.nodup_cons.mp h1
    rcases h with ⟨ho, e'⟩ | h
    · intro z
      rcases ia_mem c z with ⟨j, hj, ho', e2⟩ | ⟨z, _⟩
      · have := own_inj m ho ho' e' e2
        subst this
        exact n1 hj
      · exact own_nF m ho e' z
    · exact la_ia m c h1 h
  | _, _, _, _, .ioT hF c, h1, h => fun z => by
    obtain ⟨j, hj, ho, e⟩ := la_mem h
    rcases List.mem_cons.mp z with z | z
    · subst z
      exact own_nF m ho e hF
    · exact la_ia m c h1 h z
  | _, _, _, _, .ioS (i := i) (f := f1) (as := as1) ho e c, h1, h => fun z => by
    obtain ⟨n1, h1⟩ := List.nodup_cons.mp h1
    rcases List.mem_cons.mp z with z | z
    · subst z
      obtain ⟨j, hj, ho', e'⟩ := la_mem (f := f1) (as := as1) h
      have := own_inj m ho ho' e e'
      subst this
      exact n1 hj
    · exact la_ia m c h1 h z
theorem args_p {F1 A B : AS} {env : En} {σ : Sg} {H : Hp} (m : Mt F1 env σ H) (hA : ∀ b, A b → Av F1 env σ b) (hB : ∀ b, B b → ¬ A b) : ∀ {f : List Bool} {as : List Ag} {vs : List V} {ia : List Addr} {ps : List PV}, CA σ F1 (Owns env) f as vs ia → AgL F1 env σ H as vs → rdAll env as = some ps → (∀ b, La σ f as env b → B b) → PArg A H f ps vs ia
  | _, _, _, _, _, .nil, r, e, _ => by cases e; exact .nil
  | _, _, _, _, _, .vV c, .cons a r, e, k => by
    unfold rdAll at e
    split at e
    · rename_i p ps e1 e2
      cases e; cases e1
      exact .vl (Rp.mono a fun b z => .inl (hA b z)) (args_p m hA hB c r e2 k)
    · cases e
  | _, _, _, _, _, .vS (i := i) ei c, .cons a r, e, k => by
    unfold rdAll at e
    split at e
    · rename_i p ps e1 e2
      cases e
      refine .vl ?_ (args_p m hA hB c r e2 fun b z => k b (.inr z))
      have e1 : rdSl i env = some p := e1
      unfold rdSl at e1
      split at e1
      · rename_i q g hq
        cases e1
        by_cases hg : g = .fz
        · subst hg
          obtain ⟨v, e3, rv⟩ := m.fz i _ hq
          rw [ei] at e3; cases e3
          exact rv.mono fun b z => .inl (hA b z)
        · obtain ⟨b, e3, n, o⟩ := m.ow i _ g hq hg
          rw [ei] at e3; cases e3
          exact o.rp (hB b (k b (.inl ⟨⟨_, g, hq, hg⟩, ei⟩))) fun b z => .inl (hA b z)
      · cases e1
    · cases e
  | _, _, _, _, _, .ioT hF c, .cons a r, e, k => by
    unfold rdAll at e
    split at e
    · rename_i p ps e1 e2
      cases e; cases e1
      obtain ⟨b, e3, _, o⟩ := a
      cases e3
      exact .io (o.mono fun b z => .inl (hA b z)) (args_p m hA hB c r e2 k)
    · cases e
  | _, _, _, _, _, .ioS (i := i) ho ei c, .cons a r, e, k => by
    unfold rdAll at e
    split at e
    · rename_i p ps e1 e2
      cases e
      obtain ⟨q, g, hq, hg⟩ := ho
      have e1 : rdSl i env = some p := e1
      unfold rdSl at e1
      rw [hq] at e1
      cases e1
      obtain ⟨b, e3, n, o⟩ := m.ow i _ g hq hg
      rw [ei] at e3; cases e3
      exact .io (o.mono fun b z => .inl (hA b z)) (args_p m hA hB c r e2 k)
    · cases e
theorem own_not_nol {A : AS} {H : Hp} {p : PV} {a : Addr} (o : Own A H p a) : nol p = false := by
  cases p with
  | lst _ => rfl
  | dk _ => rfl
  | dt _ => rfl
  | _ => exact (show False from o).elim
theorem call_core {call : Call} {f : Nat} {F F1 : AS} {env e1 e2 : En} {σ : Sg} {H H1 : Hp} {io : List Bool} {as : List Ag} {vs : List V} {ps qs : List PV} {r : PV} {fr : Bool} {Q : VK} {E : XK} (x : Xs env σ H e1 H1) (o : Or F env σ H e1 H1 F1) (t : TmpOk F as vs) (ag : AgL F1 e1 σ H1 as vs)
    (hp : rdAll e1 as = some ps) (ap : apart io as = true) (hc : call f ps = .ok r fr qs) (hl : lent e1 (nol r && qs.all flatP) io as = true) (hput : putIo io as qs e1 = some e2)
    (k : ∀ v H2, Xs env σ H e2 H2 → RV F env σ H e2 σ H2 r fr v → Q v H2) : spF call io f vs H1 Q E := by
  have m := o.mt
  obtain ⟨ia, c⟩ := args_ca m ag hput fun i h => h
  have hia : ∀ b ∈ ia, Av F1 e1 σ b := fun b hb => by
    rcases ia_mem c hb with ⟨j, _, ho, e⟩ | ⟨h, _⟩
    · exact .inr (own_ow ho e)
    · exact .inl h
  have nd : ia.Nodup ∧ ∀ b, La σ io as e1 b → b ∉ ia := by
    rcases apart_ok ap with h | h
    · have := ia_no c h
      subst this
      exact ⟨List.nodup_nil, fun b _ z => by cases z⟩
    · exact ⟨ia_nd m c h t.nd, fun b z => la_ia m c h z⟩
  refine ⟨fun b => Av F1 e1 σ b ∧ b ∉ ia ∧ ¬ La σ io as e1 b, ps, ia, fun b z => m.there z.1, fun b hb z => z.2.1 hb, nd.1, args_p m (B := fun b => La σ io as e1 b) (fun b z => z.elim (·.1) (hia b)) (fun b z w => w.elim (·.2.2 z) (nd.2 b z)) c ag hp fun b z => z, ?_⟩
  rw [hc]
  intro v H2 cr
  have hZ : ∀ a, Zf fr v a → H1 a = none ∧ H2 a ≠ none := fun a z => by
    have q := cr.val
    rw [if_pos z.1] at q
    obtain ⟨b, e, n, ow⟩ := q
    rw [z.2] at e; cases e
    exact ⟨n, ow.there⟩
  -- what is avoided
  have up : (∀ b, ¬ La σ io as e1 b) → ∀ b, Av F1 e1 σ b ∨ Zf fr v b → ((Av F1 e1 σ b ∧ b ∉ ia ∧ ¬ La σ io as e1 b) ∨ b ∈ ia) ∨ Zf fr v b := fun h b z => by
    rcases z with z | z
    · by_cases w : b ∈ ia
      · exact .inl (.inr w)
      · exact .inl (.inl ⟨z, w, h b⟩)
    · exact .inr z
  have ios : OwnL (fun b => Av F1 e1 σ b ∨ Zf fr v b) H2 qs ia := by
    rcases lent_ok (σ := σ) hl with h | h
    · rw [Bool.and_eq_true] at h
      exact cr.ios.flat h.2
    · exact cr.ios.mono fun b z => .inl (up h b z)
  have val : if fr = true then ∃ a, v = .ref a ∧ H1 a = none ∧ Own (fun b => Av F1 e1 σ b ∨ Zf fr v b) H2 r a else Rp (fun b => Av F1 e1 σ b ∨ Zf fr v b) H2 r v := by
    have q := cr.val
    cases fr with
    | true =>
      rw [if_pos rfl] at q ⊢
      obtain ⟨a, e, n, ow⟩ := q
      refine ⟨a, e, n, ?_⟩
      rcases lent_ok (σ := σ) hl with h | h
      · rw [Bool.and_eq_true, own_not_nol ow] at h
        cases h.1
      · exact ow.mono fun b z => .inl (up h b z)
    | false =>
      rw [if_neg (by decide)] at q ⊢
      rcases lent_ok (σ := σ) hl with h | h
      · rw [Bool.and_eq_true] at h
        exact q.nol _ _ h.1
      · exact q.mono fun b z => .inl (up h b z)
  have fin : Mt (fun b => F1 b ∨ Zf fr v b) e2 σ H2 ∧ (∀ b, Ow e2 σ b ↔ Ow e1 σ b) ∧ ∀ (i : Nat) (p : PV), e1[i]? = some (some (p, .io)) → ∃ q : PV, e2[i]? = some (some (q, .io)) := by
    rcases apart_ok ap with h | h
    · have e := ia_no c h
      obtain ⟨e3, _⟩ := putIo_no h hput
      subst e e3
      exact ⟨m.call cr.stp (fun a z => by cases z) hZ, fun b => Iff.rfl, fun i p e => ⟨p, e⟩⟩
    · exact put_back (T := fun b => Av F1 e1 σ b ∨ Zf fr v b) cr.stp hZ c h m (fun _ z => z) (fun a z => .inr z) (fun b z => .inl z) (fun b z => .inr z) ios hput
  obtain ⟨m2, ow2, io2⟩ := fin
  have s2 : Xs env σ H e2 H2 := by
    refine ⟨⟨fun a w e n => ?_, fun a ws e => cr.stp.tup _ _ (x.stp.tup _ _ e), fun a w u e => cr.stp.frz _ _ _ (x.stp.frz _ _ _ e), fun a e => x.stp.dom _ (cr.stp.dom _ e)⟩, x.sb.trans ⟨fun a z => (ow2 a).mp z, io2⟩⟩
    refine cr.stp.keep _ _ (x.stp.keep _ _ e n) fun z => ?_
    rcases ia_mem c z with ⟨j, _, ho, e'⟩ | ⟨hF, ht⟩
    · exact n (x.sb.sub a (own_ow ho e'))
    · rcases o.new a hF with z | z | z
      · exact t.nF a ht z
      · exact n z
      · rw [z] at e; cases e
  refine k v H2 s2 ?_
  have k3 : ∀ b, Av (fun b => F b ∨ Zf fr v b) e2 σ b → Av F1 e1 σ b ∨ Zf fr v b := fun b z => by
    rcases z with (z | z) | z
    · exact .inl (.inl (o.up b z))
    · exact .inr z
    · exact .inl (.inr ((ow2 b).mp z))
  unfold RV
  cases fr with
  | false =>
    rw [if_neg (by decide)] at val ⊢
    exact ⟨m2.weak fun b z => .inl (o.up b z), val.mono fun b z => .inl (k3 b (z.imp .inl id))⟩
  | true =>
    rw [if_pos rfl] at val ⊢
    obtain ⟨a, e, n, ow⟩ := val
    have hz : ∀ b, b = a → Zf true v b := fun b w => ⟨rfl, by rw [w]; exact e⟩
    refine ⟨a, e, .inr (x.stp.dom a n), fun z => m.al a (o.up a z) n, fun z => m.there (.inr ((ow2 a).mp z)) n, m2.weak fun b z => z.imp (o.up b) (hz b), ow.mono fun b z => .inl (k3 b ?_)⟩
    exact z.imp (fun w => w.imp id (hz b)) id

/-! ### the call as an expression -/
def arrV (sg : List Sr) (vs : List V) : List V :=
  match sg with
  | [] => vs
  | sg => sg.map fun
    | .a j => vs.getD j .non
    | .d p => p.v
def Sr.ok : Sr → Bool
  | .a _ => true
  | .d p => p.ok
theorem AgL.get {F : AS} {env : En} {σ : Sg} {H : Hp} : ∀ {as : List Ag} {vs : List V} {j : Nat} {a : Ag}, AgL F env σ H as vs → as[j]? = some a → AgR F env σ H a (vs.getD j .non)
  | _, _, _, _, .nil, e => by simp at e
  | _, _, 0, _, .cons a _, e => by simp at e; subst e; exact a
  | _, _, j + 1, _, .cons _ b, e => by
    have := AgL.get (j := j) b (by simpa using e)
    simpa using this
theorem arr_map {F : AS} {env : En} {σ : Sg} {H : Hp} {ags : List Ag} {vs : List V} (r : AgL F env σ H ags vs) (nt : ags.all (fun | .t _ => false | _ => true) = true) : ∀ {sg : List Sr} {as : List Ag}, sg.all Sr.ok = true → (sg.mapM fun
    | .a j => ags[j]?
    | .d p => some (Ag.v p.pv)) = some as → AgL F env σ H as (sg.map fun
    | .a j => vs.getD j .non
    | .d p => p.v) ∧ tmps as (sg.map fun
    | .a j => vs.getD j .non
    | .d p => p.v) = []
  | [], as, _, e => by
    simp at e; subst e
    exact ⟨.nil, rfl⟩
  | s :: sg, as, ok, e => by
    rw [List.all_cons, Bool.and_eq_true] at ok
    rw [List.mapM_cons] at e
    obtain ⟨a, e1, e2⟩ := Option.bind_eq_some_iff.mp e
    obtain ⟨as', e3, e4⟩ := Option.bind_eq_some_iff.mp e2
    cases e4
    obtain ⟨h1, h2⟩ := arr_map r nt ok.2 e3
    cases s with
    | a j =>
      have e1 : ags[j]? = some a := e1
      have n := List.all_eq_true.mp nt a (List.mem_of_getElem? e1)
      refine ⟨.cons (r.get e1) h1, ?_⟩
      cases a with
      | t _ => cases n
      | v _ => exact h2
      | s _ => exact h2
    | d p =>
      have e1 : some (Ag.v p.pv) = some a := e1
      cases e1
      exact ⟨.cons (Lt.rp ok.1) h1, h2⟩
theorem arr_ok {F F1 : AS} {env : En} {σ : Sg} {H : Hp} {ags as : List Ag} {vs : List V} {sg : List Sr} (r : AgL F1 env σ H ags vs) (t : TmpOk F ags vs) (ok : sg.all Sr.ok = true) (e : arrange sg ags = some as) : AgL F1 env σ H as (arrV sg vs) ∧ TmpOk F as (arrV sg vs) := by
  unfold arrange at e
  split at e
  · cases e
    exact ⟨r, t⟩
  · rename_i n
    split at e
    · rename_i nt
      obtain ⟨h1, h2⟩ := arr_map r nt ok e
      have e3 : arrV sg vs = sg.map fun
        | .a j => vs.getD j .non
        | .d p => p.v := by
        unfold arrV
        split
        · exact absurd rfl n
        · rfl
      rw [e3]
      exact ⟨h1, by rw [h2]; exact List.nodup_nil, fun a z => by rw [h2] at z; cases z⟩
    · cases e
section
variable {X : Cx}
theorem ev_call {C : Cn} {e : Expr} {f : Nat} {g : En → Res (List Ag)} {sg : List Sr} {E : XK} (ok : sg.all Sr.ok = true) (h : PE X e (fun σ H Q => tL g σ H fun vs H1 => spF C.call (C.io f) f (arrV sg vs) H1 Q E)) : PE X e (tE fun env => (g env).bind fun as e1 => callD C f sg as e1) := by
  refine peI h fun σ H Q q => ?_
  obtain ⟨F, env, r, env', m, e, k⟩ := tE_iff.mp q
  obtain ⟨ags, e1, h1, e⟩ := bind_ok e
  unfold callD at e
  split at e
  · cases e
  · rename_i as ha
    split at e
    · cases e
    · rename_i ps hp
      split at e
      · rename_i hap
        split at e
        · cases e
        · rename_i r' fr qs hc
          split at e
          · rename_i hl
            obtain ⟨e2, e3, h3, e5⟩ := bind_ok e
            obtain ⟨h3, rfl⟩ := opt_ok h3
            cases e5
            refine tL_iff.mpr ⟨F, env, ags, e3, m, h1, fun vs H1 F1 xs o t r1 => ?_⟩
            obtain ⟨r2, t2⟩ := arr_ok r1 t ok ha
            exact call_core xs o t2 r2 hp hap hc hl h3 k
          · cases e
      · cases e
end
end Dk

set_option Elab.async false
set_option linter.all false
set_option autoImplicit false
set_option maxRecDepth 100000
set_option maxHeartbeats 1000000
/-! Dk11: what is walked; statements. -/
namespace Dk
open PySem PySem.Spec PyProof.Rows L2

/-! ### what is walked -/
/-- n turns over J give the trees ys, while only O is written of what was at H0 -/
def WkOk (As O : AS) (H0 : Hp) (ys : List PV) (J : It) : Prop :=
  ys.length ≤ sizeLine ∧ ∃ (G : Hp → Prop) (Y : Nat → Hp → V → Hp → Prop), Walk J ys.length G Y ∧ (∀ H, Stp O H0 H → G H) ∧
    ∀ i H x H', i < ys.length → Stp O H0 H → Y i H x H' → ∃ y, ys[i]? = some y ∧ Stp (fun _ => False) H H' ∧ ∀ A' : AS, (∀ a, A' a → As a ∨ H0 a = none) → Rp A' H' y x
theorem sqL_stp {K : PySem.W.Frag} {O : AS} {H0 H : Hp} {a : Addr} {xs : List V} (r : Rd H0 a (.lst xs)) (n : ¬ O a) (s : Stp O H0 H) : SqL K H a xs := sqL (s.rd r n)
theorem sqT_stp {K : PySem.W.Frag} {O : AS} {H0 H : Hp} {a : Addr} {xs : List V} (r : H0 a = some (.tup xs)) (s : Stp O H0 H) : SqT K H a xs := sqT (s.tup a _ r)
theorem RpL.get2 {A : AS} {H : Hp} {ps : List PV} {vs : List V} {i : Nat} {v : V} {p : PV} (r : RpL A H ps vs) (e : vs[i]? = some v) (e2 : ps[i]? = some p) : Rp A H p v := by
  obtain ⟨q, h1, h2⟩ := r.get e
  rw [e2] at h1
  cases h1
  exact h2
theorem yat_ok {As O : AS} {H0 : Hp} {ys : List PV} {vs : List V} (r : RpL As H0 ys vs) (hO : ∀ a, O a → As a) (i : Nat) (H : Hp) (x : V) (H' : Hp) (hi : i < ys.length) (s : Stp O H0 H) (y : YAt vs i H x H') : ∃ y, ys[i]? = some y ∧ Stp (fun _ => False) H H' ∧ ∀ A' : AS, (∀ a, A' a → As a ∨ H0 a = none) → Rp A' H' y x := by
  obtain ⟨rfl, e⟩ := y
  obtain ⟨p, h1, h2⟩ := r.get e
  exact ⟨p, h1, Stp.refl, fun A' m => Rp.stp s hO m _ _ h2⟩
theorem wk_list {K : PySem.W.Frag} {As O : AS} {H0 : Hp} {ys : List PV} {vs : List V} {a : Addr} (d : Rd H0 a (.lst vs)) (n : ¬ O a) (z : vs.length ≤ sizeLine) (r : RpL As H0 ys vs) (hO : ∀ a, O a → As a) : WkOk As O H0 ys (Itl K a) := by
  refine ⟨by rw [r.len]; exact z, fun H => SqL K H a vs, YAt vs, by rw [r.len]; exact walk_list, fun H s => sqL_stp d n s, yat_ok r hO⟩
theorem wk_tup {K : PySem.W.Frag} {As O : AS} {H0 : Hp} {ys : List PV} {vs : List V} {a : Addr} (d : H0 a = some (.tup vs)) (z : vs.length ≤ sizeLine) (r : RpL As H0 ys vs) (hO : ∀ a, O a → As a) : WkOk As O H0 ys (Itt K a) := by
  refine ⟨by rw [r.len]; exact z, fun H => SqT K H a vs, YAt vs, by rw [r.len]; exact walk_tup, fun H s => sqT_stp d s, yat_ok r hO⟩
theorem rangeV_len : ∀ (n : Nat) (lo : Int), (rangeV lo n).length = n
  | 0, _ => rfl
  | n + 1, lo => by
    show (rangeV (lo + 1) n).length + 1 = n + 1
    rw [rangeV_len n]
theorem rangeV_get : ∀ (n : Nat) (lo : Int) (i : Nat), i < n → (rangeV lo n)[i]? = some (.int (lo + i))
  | n + 1, lo, 0, _ => by
    show some (PV.int lo) = _
    rw [show lo + ((0 : Nat) : Int) = lo by omega]
  | n + 1, lo, i + 1, h => by
    show (rangeV (lo + 1) n)[i]? = _
    rw [rangeV_get n (lo + 1) i (by omega), show lo + 1 + (i : Int) = lo + ((i + 1 : Nat) : Int) by omega]
theorem wk_range {As O : AS} {H0 : Hp} {lo : Int} {n : Nat} (z : n ≤ sizeLine) : WkOk As O H0 (rangeV lo n) (Itr lo n) := by
  refine ⟨by rw [rangeV_len]; exact z, fun _ => True, YFn fun i => .int (lo + i), by rw [rangeV_len]; exact walk_range, fun _ _ => trivial, fun i H x H' hi s y => ?_⟩
  rw [rangeV_len] at hi
  obtain ⟨rfl, rfl⟩ := y
  exact ⟨_, rangeV_get n lo i hi, Stp.refl, fun A' _ => .int _⟩
theorem wk_str {As O : AS} {H0 : Hp} {s : List Nat} (ok : okS s) : WkOk As O H0 (s.map fun c => .str [c]) (Its (mkS s)) := by
  have e : (s.map fun c => PV.str [c]).length = (mkS s).cps.size := by rw [List.length_map]; rfl
  refine ⟨by rw [List.length_map]; exact ok.1, fun _ => True, _, by rw [e]; exact walk_str, fun _ _ => trivial, fun i H x H' hi st y => ?_⟩
  obtain ⟨rfl, c, hc, rfl⟩ := y
  have hc' : s[i]? = some c := by simpa [mkS] using hc
  refine ⟨.str [c], by rw [List.getElem?_map, hc']; rfl, Stp.refl, fun A' _ => .str [c] ⟨by rw [sizeLine_eq]; exact Nat.le_of_ble_eq_true rfl, fun d hd => ?_⟩⟩
  rw [List.mem_singleton] at hd
  subst hd
  exact ok.2 _ (List.mem_of_getElem? hc')
theorem pair_rp {A' : AS} {H : Hp} {T : Addr} {p q : PV} {x y : V} (hT : H T = none) (r1 : Rp A' H p x) (r2 : Rp A' H q y) : Rp A' (upd H T (.tup [x, y])) (.tup [p, q]) (.ref T) := by
  have s : Stp (fun _ => False) H (upd H T (.tup [x, y])) := Stp.new hT
  refine .tup upd_same (by rw [sizeLine_eq]; exact Nat.le_of_ble_eq_true rfl) (.cons ?_ (.cons ?_ .nil))
  · exact Rp.stp s (fun _ z => z.elim) (fun a z => .inl z) _ _ r1
  · exact Rp.stp s (fun _ z => z.elim) (fun a z => .inl z) _ _ r2
theorem zipV_len : ∀ (xs ys : List PV), (zipV xs ys).length = min xs.length ys.length
  | [], _ => by simp [zipV]
  | _ :: _, [] => by simp [zipV]
  | x :: xs, y :: ys => by
    show (zipV xs ys).length + 1 = min (xs.length + 1) (ys.length + 1)
    rw [zipV_len xs ys]
    omega
theorem zipV_get : ∀ (xs ys : List PV) (i : Nat) (p q : PV), xs[i]? = some p → ys[i]? = some q → (zipV xs ys)[i]? = some (.tup [p, q])
  | [], _, _, _, _, h, _ => by simp at h
  | _ :: _, [], _, _, _, _, h => by simp at h
  | x :: xs, y :: ys, 0, p, q, h1, h2 => by
    simp at h1 h2
    subst h1 h2
    rfl
  | x :: xs, y :: ys, i + 1, p, q, h1, h2 => zipV_get xs ys i p q (by simpa using h1) (by simpa using h2)
theorem ypair_ok {As O : AS} {H0 : Hp} {xs ys : List PV} {vs ws : List V} (r1 : RpL As H0 xs vs) (r2 : RpL As H0 ys ws) (hO : ∀ a, O a → As a) (i : Nat) (H : Hp) (x : V) (H' : Hp) (s : Stp O H0 H) (y : YPair (fun i => vs[i]?) (fun i => ws[i]?) i H x H') :
    ∃ y, (zipV xs ys)[i]? = some y ∧ Stp (fun _ => False) H H' ∧ ∀ A' : AS, (∀ a, A' a → As a ∨ H0 a = none) → Rp A' H' y x := by
  obtain ⟨T, x, z, rfl, hT, rfl, e1, e2⟩ := y
  obtain ⟨p, h1, q1⟩ := r1.get e1
  obtain ⟨q, h2, q2⟩ := r2.get e2
  exact ⟨.tup [p, q], zipV_get _ _ i _ _ h1 h2, Stp.new hT, fun A' m => pair_rp hT (Rp.stp s hO m _ _ q1) (Rp.stp s hO m _ _ q2)⟩
theorem wk_zip {K : PySem.W.Frag} {As O : AS} {H0 : Hp} {xs ys : List PV} {vs ws : List V} {a b : Addr} (d : Rd H0 a (.lst vs)) (n : ¬ O a) (z : vs.length ≤ sizeLine) (r : RpL As H0 xs vs) (d2 : Rd H0 b (.lst ws)) (n2 : ¬ O b) (r2 : RpL As H0 ys ws) (hO : ∀ a, O a → As a) : WkOk As O H0 (zipV xs ys) (Itz K a b) := by
  have hl : (zipV xs ys).length = min vs.length ws.length := by rw [zipV_len, r.len, r2.len]
  refine ⟨by rw [hl]; omega, fun H => SqL K H a vs ∧ SqL K H b ws, _, walk_zip hl, fun H s => ⟨sqL_stp d n s, sqL_stp d2 n2 s⟩, fun i H x H' _ s y => ypair_ok r r2 hO i H x H' s y⟩
theorem walk_zipT {K : PySem.W.Frag} {a b : Addr} {xs ys : List V} {n : Nat} (hn : n = min xs.length ys.length) : Walk (RZ.ItzT K a b) n (fun H => SqT K H a xs ∧ SqT K H b ys) (YPair (fun i => xs[i]?) (fun i => ys[i]?)) := by
  subst hn
  refine ⟨fun i _ hi q => ?_, fun _ q => ⟨xs, ys, q.1, q.2, by omega⟩, fun i H v H' _ q y => ?_⟩
  · have h1 : i < xs.length := by omega
    have h2 : i < ys.length := by omega
    exact ⟨xs, ys, xs[i], ys[i], q.1, q.2, by simp [h1], by simp [h2]⟩
  · obtain ⟨T, x, z, h1, h2, h3, h4, h5⟩ := y
    exact ⟨T, x, z, h1, h2, h3, h4 xs q.1, h5 ys q.2⟩
theorem wk_zipT {K : PySem.W.Frag} {As O : AS} {H0 : Hp} {xs ys : List PV} {vs ws : List V} {a b : Addr} (d : H0 a = some (.tup vs)) (z : vs.length ≤ sizeLine) (r : RpL As H0 xs vs) (d2 : H0 b = some (.tup ws)) (r2 : RpL As H0 ys ws) (hO : ∀ a, O a → As a) : WkOk As O H0 (zipV xs ys) (RZ.ItzT K a b) := by
  have hl : (zipV xs ys).length = min vs.length ws.length := by rw [zipV_len, r.len, r2.len]
  refine ⟨by rw [hl]; omega, fun H => SqT K H a vs ∧ SqT K H b ws, _, walk_zipT hl, fun H s => ⟨sqT_stp d s, sqT_stp d2 s⟩, fun i H x H' _ s y => ypair_ok r r2 hO i H x H' s y⟩
theorem enumV_len : ∀ (xs : List PV) (n : Nat), (enumV n xs).length = xs.length
  | [], _ => rfl
  | x :: xs, n => by
    show (enumV (n + 1) xs).length + 1 = xs.length + 1
    rw [enumV_len xs]
theorem enumV_get : ∀ (xs : List PV) (n i : Nat) (p : PV), xs[i]? = some p → (enumV n xs)[i]? = some (.tup [.int (n + i : Nat), p])
  | [], _, _, _, h => by simp at h
  | x :: xs, n, 0, p, h => by
    simp at h; subst h; rfl
  | x :: xs, n, i + 1, p, h => by
    show (enumV (n + 1) xs)[i]? = _
    rw [enumV_get xs (n + 1) i p (by simpa using h), show n + 1 + i = n + (i + 1) by omega]
theorem wk_enum {K : PySem.W.Frag} {As O : AS} {H0 : Hp} {ys : List PV} {vs : List V} {a : Addr} (d : Rd H0 a (.lst vs)) (n : ¬ O a) (z : vs.length ≤ sizeLine) (r : RpL As H0 ys vs) (hO : ∀ a, O a → As a) : WkOk As O H0 (enumV 0 ys) (Ite K a) := by
  refine ⟨by rw [enumV_len, r.len]; exact z, fun H => SqL K H a vs, _, by rw [enumV_len, r.len]; exact walk_enum, fun H s => sqL_stp d n s, fun i H x H' hi s y => ?_⟩
  obtain ⟨T, x, w, rfl, hT, rfl, e1, e2⟩ := y
  cases e1
  obtain ⟨q, h2, q2⟩ := r.get e2
  exact ⟨_, enumV_get ys 0 i q h2, Stp.new hT, fun A' m => pair_rp hT (by rw [Nat.zero_add]; exact .int _) (Rp.stp s hO m _ _ q2)⟩

/-! ### operands that stay -/
/-- readable, and none of those written -/
def Sd (O A : AS) (H : Hp) (p : PV) (v : V) : Prop := Rp A H p v ∨ ∃ a, v = .ref a ∧ ¬ O a ∧ Own A H p a
theorem Sd.rb {O A : AS} {H : Hp} {p : PV} {v : V} (h : Sd O A H p v) : Rb A H p v := h.imp id fun ⟨a, e, _, o⟩ => ⟨a, e, o⟩
theorem Sd.lst {O A : AS} {H : Hp} {xs : List PV} {v : V} (hO : ∀ a, O a → A a) (h : Sd O A H (.lst xs) v) : ∃ a vs, v = .ref a ∧ Rd H a (.lst vs) ∧ ¬ O a ∧ vs.length ≤ sizeLine ∧ RpL A H xs vs := by
  rcases h with h | ⟨a, rfl, n, vs, e, z, r⟩
  · cases h with | lst n r z q => exact ⟨_, _, rfl, .inl r, fun w => n (hO _ w), z, q⟩
  · exact ⟨a, vs, rfl, .inl e, n, z, r⟩
inductive SdL (O A : AS) (H : Hp) : List PV → List V → Prop where
  | nil : SdL O A H [] []
  | cons {p : PV} {ps : List PV} {v : V} {vs : List V} : Sd O A H p v → SdL O A H ps vs → SdL O A H (p :: ps) (v :: vs)
theorem AgL.sd {F0 F : AS} {env : En} {σ : Sg} {H : Hp} (m : Mt F env σ H) : ∀ {as : List Ag} {vs : List V} {ps : List PV}, AgL F env σ H as vs → TmpOk F0 as vs → rdWAll env as = some ps → SdL (fun a => Ow env σ a ∨ F0 a) (Av F env σ) H ps vs
  | _, _, _, .nil, _, e => by cases e; exact .nil
  | _, _, _, .cons (a := ag) a b, t, e => by
    unfold rdWAll at e
    split at e
    · rename_i p ps e1 e2
      cases e
      cases ag with
      | v q => cases e1; exact .cons (.inl a) (AgL.sd m b ⟨t.nd, t.nF⟩ e2)
      | t q =>
        cases e1
        obtain ⟨c, rfl, hF, o⟩ := a
        refine .cons (.inr ⟨c, rfl, fun z => ?_, o⟩) (AgL.sd m b ⟨(List.nodup_cons.mp t.nd).2, fun d hd => t.nF d (List.mem_cons_of_mem _ hd)⟩ e2)
        rcases z with ⟨i, p, g, e1, hg, e2⟩ | z
        · obtain ⟨b, e3, n, _⟩ := m.ow i p g e1 hg
          rw [e2] at e3; cases e3
          exact n hF
        · exact t.nF c List.mem_cons_self z
      | s i =>
        have e1 : (match env[i]? with
          | some (some (p, .fz)) => some p
          | _ => none) = some p := e1
        split at e1
        · rename_i q e4
          cases e1
          obtain ⟨w, e2', r⟩ := m.fz i _ e4
          rw [show σ[i]? = some (some _) from a] at e2'; cases e2'
          exact .cons (.inl r) (AgL.sd m b ⟨t.nd, t.nF⟩ e2)
        · cases e1
    · cases e
theorem SdL.one {O A : AS} {H : Hp} {p : PV} {vs : List V} (h : SdL O A H [p] vs) : ∃ v, vs = [v] ∧ Sd O A H p v := by
  cases h with | cons a b => cases b; exact ⟨_, rfl, a⟩
theorem SdL.two {O A : AS} {H : Hp} {p q : PV} {vs : List V} (h : SdL O A H [p, q] vs) : ∃ v w, vs = [v, w] ∧ Sd O A H p v ∧ Sd O A H q w := by
  cases h with | cons a b => obtain ⟨w, rfl, c⟩ := b.one; exact ⟨_, w, rfl, a, c⟩
theorem WkOk.mono {As O O' : AS} {H0 : Hp} {ys : List PV} {J : It} (h : WkOk As O H0 ys J) (m : ∀ a, O' a → O a) : WkOk As O' H0 ys J := by
  obtain ⟨hz, G, Y, W, hG, hY⟩ := h
  exact ⟨hz, G, Y, W, fun H s => hG H (s.mono m), fun i H x H' hi s y => hY i H x H' hi (s.mono m) y⟩

/-! ### iterators -/
def tW (f : En → Res (List PV)) : TI := fun σ H R => ∃ F env, Mt F env σ H ∧ match f env with
  | .ok ys env' => ∀ J H' F', Xs env σ H env' H' → Or F env σ H env' H' F' → WkOk (Av F' env' σ) (fun a => Ow env' σ a ∨ F a) H' ys J → R J H'
  | .bad => False
theorem tW_iff {f : En → Res (List PV)} {σ : Sg} {H : Hp} {R : It → Hp → Prop} : tW f σ H R ↔ ∃ F env ys env', Mt F env σ H ∧ f env = .ok ys env' ∧ ∀ J H' F', Xs env σ H env' H' → Or F env σ H env' H' F' → WkOk (Av F' env' σ) (fun a => Ow env' σ a ∨ F a) H' ys J → R J H' := by
  constructor
  · rintro ⟨F, env, m, h⟩
    cases e : f env with
    | ok r env' => rw [e] at h; exact ⟨F, env, r, env', m, e, h⟩
    | bad => rw [e] at h; exact h.elim
  · rintro ⟨F, env, r, env', m, e, h⟩
    exact ⟨F, env, m, by rw [e]; exact h⟩
theorem piI {X : Cx} {tg e : Expr} {t t' : TI} (h : PI X tg e t) (m : ∀ σ H R, t' σ H R → t σ H R) : PI X tg e t' := ⟨fun pins s σ H R I q => h.run pins s σ H R I (m σ H R q)⟩
theorem wkX_ok {w : Wk} {as : List Ag} {env e' : En} {ys : List PV} (h : wkX w as env = .ok ys e') : ∃ ps, rdWAll env as = some ps ∧ wkF w ps = some ys ∧ e' = env := by
  unfold wkX at h
  split at h
  · rename_i ps hp
    obtain ⟨h1, h2⟩ := opt_ok h
    exact ⟨ps, hp, h1, h2⟩
  · cases h
section
variable {X : Cx} {tg : Expr}
def iAny (K : PySem.W.Frag) (te : TE) : TI := fun σ H R => te σ H fun x H1 => (∃ a, x = .ref a ∧ (((∃ xs, SqL K H1 a xs) ∧ R (Itl K a) H1) ∨ ((∃ xs, SqT K H1 a xs) ∧ R (Itt K a) H1)))
theorem pi_any {l : Expr} {tl : TE} (hl : PE X l tl) : PI X tg l (iAny X.K tl) := by
  refine ⟨fun pins s σ H R I h => ?_⟩
  refine thn (hl.run pins s σ H _ I h) fun v s1 ⟨x, H1, I1, r1, q1⟩ => ?_
  obtain ⟨a, e, q1⟩ := q1
  subst e
  cases r1
  rcases q1 with ⟨⟨xs, hq⟩, q⟩ | ⟨⟨xs, hq⟩, q⟩
  · obtain ⟨its, rv, p, hz⟩ := I1.list hq
    refine wpAny_pyIter_list p.isList ?_
    refine ⟨s1.heap.objs.size, [s1.heap.objs.size], _, _, H1, rfl, I1.kept (t' := s1.toks) fun b o e => Heap.get?_push_of_some _ e, turn_list a _, ⟨_, Heap.get?_push_size _ rfl, rfl, rfl⟩, fun b hb => ?_, q⟩
    have e : b = s1.heap.objs.size := by simpa using hb
    subst e
    exact I1.fpOk (Nat.le_refl _) (I1.hok.fresh (Nat.le_refl _))
  · obtain ⟨its, rv, p, hz⟩ := I1.tuple hq
    refine wpAny_pyIter_tuple (show s1.heap.IsTuple a its.toArray from p) ?_
    refine ⟨s1.heap.objs.size, [s1.heap.objs.size], _, _, H1, rfl, I1.kept (t' := s1.toks) fun b o e => Heap.get?_push_of_some _ e, turn_tuple a _, ⟨_, Heap.get?_push_size _ rfl, rfl, rfl⟩, fun b hb => ?_, q⟩
    have e : b = s1.heap.objs.size := by simpa using hb
    subst e
    exact I1.fpOk (Nat.le_refl _) (I1.hok.fresh (Nat.le_refl _))
/-- the operands' step, for all kinds -/
theorem it_ops {w : Wk} {f : En → Res (List Ag)} {σ : Sg} {H : Hp} {R : It → Hp → Prop} {U : List V → Hp → Prop} (q : tW (fun env => (f env).bind fun as e1 => wkX w as e1) σ H R)
    (k : ∀ (O A : AS) (H1 : Hp) (ps ys : List PV) (vs : List V), (∀ a, O a → A a) → SdL O A H1 ps vs → wkF w ps = some ys → (∀ J, WkOk A O H1 ys J → R J H1) → U vs H1) : tL f σ H U := by
  obtain ⟨F, env, ys, env', m, e, k1⟩ := tW_iff.mp q
  obtain ⟨as, e1, h1, e⟩ := bind_ok e
  obtain ⟨ps, h4, h5, rfl⟩ := wkX_ok e
  exact tL_iff.mpr ⟨F, env, as, env', m, h1, fun vs H1 F1 x1 o1 t1 r1 => k _ _ H1 ps ys vs (fun a z => z.elim .inr fun z => .inl (o1.up a z)) (r1.sd o1.mt t1 h4) h5 fun J w => k1 J H1 F1 x1 o1 w⟩
/-- one operand, as a row of one -/
theorem tO_tL {f : En → Res Ag} {σ : Sg} {H : Hp} {Q : VK} (h : tL (fun env => (f env).bind fun x e1 => .ok [x] e1) σ H fun vs H1 => ∃ v, vs = [v] ∧ Q v H1) : tO f σ H Q := by
  obtain ⟨F, env, as, env', m, e, k⟩ := tL_iff.mp h
  obtain ⟨x, e2, h2, h3⟩ := bind_ok e
  cases h3
  refine tO_iff.mpr ⟨F, env, x, env', m, h2, fun v H1 F1 x1 o1 t r1 => ?_⟩
  have key : TmpOk F [x] [v] := by
    cases x with
    | v p => exact ⟨List.nodup_nil, fun a h => by cases h⟩
    | s i => exact ⟨List.nodup_nil, fun a h => by cases h⟩
    | t p => exact ⟨List.nodup_cons.mpr ⟨(fun h => nomatch h), List.nodup_nil⟩, fun a h => by
        rcases List.mem_cons.mp h with h | h
        · exact t p rfl a h.symm
        · cases h⟩
  obtain ⟨v', e', q⟩ := k [v] H1 F1 x1 o1 key (.cons r1 .nil)
  cases e'
  exact q
theorem it_seq {e : Expr} {f : En → Res Ag} (h : PE X e (tO f)) : PI X tg e (tW fun env => ((f env).bind fun x e1 => .ok [x] e1).bind fun as e1 => wkX .seq as e1) := by
  refine piI (pi_any h) fun σ H R q => tO_tL (it_ops q fun O A H1 ps ys vs hO sd h5 k => ?_)
  have h5 : wkSeq ps = some ys := h5
  unfold wkSeq at h5
  split at h5 <;> first | cases h5 | skip
  · obtain ⟨w', rfl, sd1⟩ := sd.one
    obtain ⟨a, vs, rfl, d, n, z, t⟩ := sd1.lst hO
    exact ⟨_, rfl, a, rfl, .inl ⟨⟨vs, sqL d⟩, k _ (wk_list d n z t hO)⟩⟩
  · obtain ⟨w', rfl, sd1⟩ := sd.one
    obtain ⟨a, vs, rfl, d, z, t⟩ := sd1.rb.tup
    exact ⟨_, rfl, a, rfl, .inr ⟨⟨vs, sqT d⟩, k _ (wk_tup d z t hO)⟩⟩
theorem it_str {e : Expr} {f : En → Res Ag} (h : PE X e (tO f)) : PI X tg e (tW fun env => ((f env).bind fun x e1 => .ok [x] e1).bind fun as e1 => wkX .str as e1) := by
  refine piI (pi_str h) fun σ H R q => tO_tL (it_ops q fun O A H1 ps ys vs hO sd h5 k => ?_)
  have h5 : wkStr ps = some ys := h5
  unfold wkStr at h5
  split at h5 <;> first | cases h5 | skip
  obtain ⟨w', rfl, sd1⟩ := sd.one
  obtain ⟨e, ok⟩ := sd1.rb.str
  subst e
  exact ⟨_, rfl, _, rfl, k _ (wk_str ok)⟩
theorem rg_le {i : Int} (h : rgOk i = true) : -(2 ^ 62) ≤ i ∧ i < 2 ^ 62 := by
  have h : (decide (-(2 ^ 62) ≤ i) && decide (i < 2 ^ 62)) = true := h
  simp only [Bool.and_eq_true, decide_eq_true_eq] at h
  exact h
theorem it_range {a : Expr} {f : En → Res (List Ag)} {p pos : Pos} (hg : Gl X "range") (hm : X.mg "range" = none) (ha : PA X [a] (tL f)) (hs : starEach [a] X.env = [(false, eval a X.env)]) : PI X tg (.Call (.Name "range" p) [a] [] pos) (tW fun env => (f env).bind fun as e1 => wkX .range as e1) := by
  refine piI (pi_range1 hg hm ha hs) fun σ H R q => it_ops q fun O A H1 ps ys vs hO sd h5 k => ?_
  have h5 : wkRg1 ps = some ys := h5
  unfold wkRg1 at h5
  split at h5 <;> first | cases h5 | skip
  split at h5 <;> first | cases h5 | skip
  rename_i j hj
  rw [Bool.and_eq_true] at hj
  obtain ⟨w', rfl, sd1⟩ := sd.one
  have := sd1.rb.int
  subst this
  obtain ⟨q1, q2⟩ := rg_le hj.1
  exact ⟨j, rfl, q1, q2, k _ (wk_range (szl_le hj.2))⟩
theorem it_range2 {a b : Expr} {f : En → Res (List Ag)} {p pos : Pos} (hg : Gl X "range") (hm : X.mg "range" = none) (ha : PA X [a, b] (tL f)) (hs : starEach [a, b] X.env = [(false, eval a X.env), (false, eval b X.env)]) (hs2 : starEach [b] X.env = [(false, eval b X.env)]) : PI X tg (.Call (.Name "range" p) [a, b] [] pos) (tW fun env => (f env).bind fun as e1 => wkX .range2 as e1) := by
  refine piI (pi_range2 hg hm ha hs hs2) fun σ H R q => it_ops q fun O A H1 ps ys vs hO sd h5 k => ?_
  have h5 : wkRg2 ps = some ys := h5
  unfold wkRg2 at h5
  split at h5 <;> first | cases h5 | skip
  split at h5 <;> first | cases h5 | skip
  rename_i i j hj
  rw [Bool.and_eq_true, Bool.and_eq_true] at hj
  obtain ⟨w', w2, rfl, sd1, sd2⟩ := sd.two
  have := sd1.rb.int
  subst this
  have := sd2.rb.int
  subst this
  obtain ⟨q1, q2⟩ := rg_le hj.1.1
  obtain ⟨q3, q4⟩ := rg_le hj.1.2
  exact ⟨i, j, rfl, ⟨q1, q2, q3, q4⟩, k _ (wk_range (szl_le hj.2))⟩
theorem it_enum {e : Expr} {f : En → Res (List Ag)} {p pos tpos : Pos} {elts : List Expr} {kk : Nat} (hg : Gl X "enumerate") (hm : X.mg "enumerate" = none) (ha : PA X [e] (tL f)) (hs : starEach [e] X.env = [(false, eval e X.env)]) :
    PI X (.Tuple elts kk tpos) (.Call (.Name "enumerate" p) [e] [] pos) (tW fun env => (f env).bind fun as e1 => wkX .enum as e1) := by
  refine piI (pi_enum hg hm ha hs) fun σ H R q => it_ops q fun O A H1 ps ys vs hO sd h5 k => ?_
  have h5 : wkEnum ps = some ys := h5
  unfold wkEnum at h5
  split at h5 <;> first | cases h5 | skip
  obtain ⟨w', rfl, sd1⟩ := sd.one
  obtain ⟨a, vs, rfl, d, n, z, t⟩ := sd1.lst hO
  exact ⟨a, vs, rfl, sqL d, k _ (wk_enum d n z t hO)⟩
theorem it_zip {e e2 : Expr} {f : En → Res (List Ag)} {p pos tpos : Pos} {elts : List Expr} {kk : Nat} (hg : Gl X "zip") (hm : X.mg "zip" = none) (ha : PA X [e, e2] (tL f))
    (hs : starEach [e, e2] X.env = (false, eval e X.env) :: starEach [e2] X.env) (hpl : (backTo pos (starEach [e2] X.env)).any (·.1) = false) :
    PI X (.Tuple elts kk tpos) (.Call (.Name "zip" p) [e, e2] [] pos) (tW fun env => (f env).bind fun as e1 => wkX .zip as e1) := by
  refine piI (RZ.pi_zipA hg hm ha hs hpl) fun σ H R q => it_ops q fun O A H1 ps ys vs hO sd h5 k => ?_
  have h5 : wkZip ps = some ys := h5
  unfold wkZip at h5
  split at h5 <;> first | cases h5 | skip
  · obtain ⟨w', w2, rfl, sd1, sd2⟩ := sd.two
    obtain ⟨a, vs, rfl, d, n, z, t⟩ := sd1.lst hO
    obtain ⟨b, ws, rfl, d2, n2, z2, t2⟩ := sd2.lst hO
    exact ⟨a, b, vs, ws, rfl, .inl ⟨sqL d, sqL d2, k _ (wk_zip d n z t d2 n2 t2 hO)⟩⟩
  · obtain ⟨w', w2, rfl, sd1, sd2⟩ := sd.two
    obtain ⟨a, vs, rfl, d, z, t⟩ := sd1.rb.tup
    obtain ⟨b, ws, rfl, d2, z2, t2⟩ := sd2.rb.tup
    exact ⟨a, b, vs, ws, rfl, .inr ⟨sqT d, sqT d2, k _ (wk_zipT d z t d2 t2 hO)⟩⟩
end
end Dk

set_option Elab.async false
set_option linter.all false
set_option autoImplicit false
set_option maxRecDepth 100000
set_option maxHeartbeats 1000000
/-! Dk12: stores, statements. -/
namespace Dk
open PySem PySem.Spec PyProof.Rows L2

/-! ### stores -/
def fl (fr : Bool) : Fl := if fr then .own else .fz
theorem asgSl_ok {i : Nat} {p : PV} {fr : Bool} {env env' : En} (h : asgSl i p fr env = some env') : ∃ s : Sl, env[i]? = some s ∧ (∀ q, s ≠ some (q, .io)) ∧ env' = env.set i (some (p, fl fr)) := by
  unfold asgSl at h
  split at h
  · cases h
  · rename_i s n hs
    cases h
    exact ⟨s, hs, fun q e => n q e, rfl⟩
  · cases h
/-- what may be stored -/
def Stb (F : AS) (env : En) (σ : Sg) (H : Hp) (p : PV) (fr : Bool) (v : V) : Prop :=
  if fr = true then ∃ a, v = .ref a ∧ ¬ F a ∧ ¬ Ow env σ a ∧ Mt (fun b => F b ∨ b = a) env σ H ∧ Own (Av (fun b => F b ∨ b = a) env σ) H p a else Mt F env σ H ∧ Rp (Av F env σ) H p v
/-- behind a store -/
structure Asg (F : AS) (env : En) (σ : Sg) (H : Hp) (env' : En) (σ' : Sg) (Z : AS) : Prop where
  mt : Mt F env' σ' H
  ow : ∀ b, Ow env' σ' b → Ow env σ b ∨ Z b
  io : ∀ (j : Nat) (q : PV), env[j]? = some (some (q, .io)) → σ'[j]? = σ[j]? ∧ env'[j]? = some (some (q, .io))
theorem Stb.asg {F : AS} {env env' : En} {σ : Sg} {H : Hp} {i : Nat} {p : PV} {fr : Bool} {v : V} (t : Stb F env σ H p fr v) (h : asgSl i p fr env = some env') : Asg F env σ H env' (σ.set i (some v)) (Zf fr v) := by
  obtain ⟨s, hs, hn, rfl⟩ := asgSl_ok h
  have io : ∀ (j : Nat) (q : PV), env[j]? = some (some (q, .io)) → (σ.set i (some v))[j]? = σ[j]? ∧ (env.set i (some (p, fl fr)))[j]? = some (some (q, .io)) := fun j q e => by
    have z : j ≠ i := fun z => by
      subst z
      rw [hs] at e; cases e
      exact hn q rfl
    exact ⟨List.getElem?_set_ne (Ne.symm z), by rw [get_set_ne z]; exact e⟩
  have old : ∀ {F2 : AS}, Mt F2 env σ H → ∀ b, Ow (env.set i (some (p, fl fr))) (σ.set i (some v)) b → (∃ j q g, j ≠ i ∧ env[j]? = some (some (q, g)) ∧ g ≠ .fz ∧ σ[j]? = some (some (.ref b))) ∨ (fr = true ∧ v = .ref b) := fun {F2} m b ⟨j, q, g, e, hg, e2⟩ => by
    by_cases z : j = i
    · subst z
      rw [get_set_eq hs] at e
      cases e
      have hl : j < σ.length := by
        have := (List.getElem?_eq_some_iff.mp hs).1
        have h2 := m.len
        omega
      rw [List.getElem?_set_self hl] at e2
      cases e2
      cases fr with
      | true => exact .inr ⟨rfl, rfl⟩
      | false => exact absurd rfl hg
    · rw [get_set_ne z] at e
      rw [List.getElem?_set_ne (Ne.symm z)] at e2
      exact .inl ⟨j, q, g, z, e, hg, e2⟩
  have at' : ∀ {F2 : AS}, Mt F2 env σ H → (σ.set i (some v))[i]? = some (some v) := fun {F2} m => by
    have := (List.getElem?_eq_some_iff.mp hs).1
    have h2 := m.len
    exact List.getElem?_set_self (by omega)
  unfold Stb at t
  cases fr with
  | false =>
    rw [if_neg (by decide)] at t
    obtain ⟨m, r⟩ := t
    have ow : ∀ b, Ow (env.set i (some (p, fl false))) (σ.set i (some v)) b → Ow env σ b := fun b z => by
      rcases old m b z with ⟨j, q, g, _, e, hg, e2⟩ | ⟨z, _⟩
      · exact ⟨j, q, g, e, hg, e2⟩
      · cases z
    have k : ∀ b, Av F (env.set i (some (p, fl false))) (σ.set i (some v)) b → Av F env σ b ∨ H b = none := fun b z => .inl (z.imp id (ow b))
    refine ⟨⟨by rw [List.length_set, List.length_set]; exact m.len, m.al, fun j q e => ?_, fun j q g e hg => ?_, fun j l q g q' g' b e hg e' hg' e2 e3 => ?_⟩, fun b z => .inl (ow b z), io⟩
    · by_cases z : j = i
      · subst z
        rw [get_set_eq hs] at e; cases e
        exact ⟨v, at' m, r.mono k⟩
      · rw [get_set_ne z] at e
        obtain ⟨w, e1, r1⟩ := m.fz j q e
        exact ⟨w, by rw [List.getElem?_set_ne (Ne.symm z)]; exact e1, r1.mono k⟩
    · by_cases z : j = i
      · subst z
        rw [get_set_eq hs] at e; cases e
        exact absurd rfl hg
      · rw [get_set_ne z] at e
        obtain ⟨b, e1, n1, o1⟩ := m.ow j q g e hg
        exact ⟨b, by rw [List.getElem?_set_ne (Ne.symm z)]; exact e1, n1, o1.mono k⟩
    · have ne : ∀ {j : Nat} {q : PV} {g : Fl}, (env.set i (some (p, fl false)))[j]? = some (some (q, g)) → g ≠ .fz → j ≠ i ∧ env[j]? = some (some (q, g)) := fun {j q g} e hg => by
        by_cases z : j = i
        · subst z
          rw [get_set_eq hs] at e; cases e
          exact absurd rfl hg
        · rw [get_set_ne z] at e; exact ⟨z, e⟩
      obtain ⟨z1, e⟩ := ne e hg
      obtain ⟨z2, e'⟩ := ne e' hg'
      rw [List.getElem?_set_ne (Ne.symm z1)] at e2
      rw [List.getElem?_set_ne (Ne.symm z2)] at e3
      exact m.inj j l q g q' g' b e hg e' hg' e2 e3
  | true =>
    rw [if_pos rfl] at t
    obtain ⟨a, rfl, nF, nO, m, o⟩ := t
    have ow : ∀ b, Ow (env.set i (some (p, fl true))) (σ.set i (some (.ref a))) b → Ow env σ b ∨ b = a := fun b z => by
      rcases old m b z with ⟨j, q, g, _, e, hg, e2⟩ | ⟨_, z⟩
      · exact .inl ⟨j, q, g, e, hg, e2⟩
      · cases z; exact .inr rfl
    have k : ∀ b, Av F (env.set i (some (p, fl true))) (σ.set i (some (.ref a))) b → Av (fun b => F b ∨ b = a) env σ b ∨ H b = none := fun b z => .inl (by
      rcases z with z | z
      · exact .inl (.inl z)
      · exact (ow b z).elim .inr fun e => .inl (.inr e))
    refine ⟨⟨by rw [List.length_set, List.length_set]; exact m.len, fun b z => m.al b (.inl z), fun j q e => ?_, fun j q g e hg => ?_, fun j l q g q' g' b e hg e' hg' e2 e3 => ?_⟩, fun b z => (ow b z).imp id fun e => ⟨rfl, by rw [e]⟩, io⟩
    · have z : j ≠ i := fun z => by subst z; rw [get_set_eq hs] at e; cases e
      rw [get_set_ne z] at e
      obtain ⟨w, e1, r1⟩ := m.fz j q e
      exact ⟨w, by rw [List.getElem?_set_ne (Ne.symm z)]; exact e1, r1.mono k⟩
    · by_cases z : j = i
      · subst z
        rw [get_set_eq hs] at e; cases e
        exact ⟨a, at' m, nF, o.mono k⟩
      · rw [get_set_ne z] at e
        obtain ⟨b, e1, n1, o1⟩ := m.ow j q g e hg
        exact ⟨b, by rw [List.getElem?_set_ne (Ne.symm z)]; exact e1, fun w => n1 (.inl w), o1.mono k⟩
    · by_cases z : j = i
      · by_cases w : l = i
        · rw [z, w]
        · exfalso
          subst z
          rw [at' m] at e2; cases e2
          rw [get_set_ne w] at e'
          rw [List.getElem?_set_ne (Ne.symm w)] at e3
          obtain ⟨b, e1, n1, _⟩ := m.ow l q' g' e' hg'
          rw [e3] at e1; cases e1
          exact n1 (.inr rfl)
      · rw [get_set_ne z] at e
        rw [List.getElem?_set_ne (Ne.symm z)] at e2
        by_cases w : l = i
        · exfalso
          subst w
          rw [at' m] at e3; cases e3
          obtain ⟨b, e1, n1, _⟩ := m.ow j q g e hg
          rw [e2] at e1; cases e1
          exact n1 (.inr rfl)
        · rw [get_set_ne w] at e'
          rw [List.getElem?_set_ne (Ne.symm w)] at e3
          exact m.inj j l q g q' g' b e hg e' hg' e2 e3
theorem RV.stb {F : AS} {e0 env : En} {σ0 σ : Sg} {H0 H : Hp} {p : PV} {fr : Bool} {v : V} (h : RV F e0 σ0 H0 env σ H p fr v) : Stb F env σ H p fr v := by
  unfold RV at h
  unfold Stb
  cases fr with
  | false => exact h
  | true =>
    rw [if_pos rfl] at h ⊢
    obtain ⟨a, e, _, r⟩ := h
    exact ⟨a, e, r⟩
theorem RV.new {F : AS} {e0 env : En} {σ0 σ : Sg} {H0 H : Hp} {p : PV} {fr : Bool} {v : V} (h : RV F e0 σ0 H0 env σ H p fr v) {b : Addr} (z : Zf fr v b) : Ow e0 σ0 b ∨ H0 b = none := by
  unfold RV at h
  rw [if_pos z.1] at h
  obtain ⟨a, e, n, _⟩ := h
  rw [z.2] at e; cases e
  exact n
theorem Asg.trans {F : AS} {e0 e1 e2 : En} {σ0 σ1 σ2 : Sg} {H : Hp} {Z Z' : AS} (a : Asg F e0 σ0 H e1 σ1 Z) (b : Asg F e1 σ1 H e2 σ2 Z') : Asg F e0 σ0 H e2 σ2 (fun b => Z b ∨ Z' b) :=
  ⟨b.mt, fun x h => by
    rcases b.ow x h with h | h
    · rcases a.ow x h with h | h
      · exact .inl h
      · exact .inr (.inl h)
    · exact .inr (.inr h), fun j q e => by
    obtain ⟨h1, h2⟩ := a.io j q e
    obtain ⟨h3, h4⟩ := b.io j q h2
    exact ⟨h3.trans h1, h4⟩⟩
theorem Asg.mono {F : AS} {e0 e1 : En} {σ0 σ1 : Sg} {H : Hp} {Z Z' : AS} (a : Asg F e0 σ0 H e1 σ1 Z) (m : ∀ b, Z b → Z' b) : Asg F e0 σ0 H e1 σ1 Z' := ⟨a.mt, fun b z => (a.ow b z).imp id (m b), a.io⟩
/-! ### targets -/
def setAll (σ : Sg) : List Nat → List V → Sg
  | i :: is, v :: vs => setAll (σ.set i (some v)) is vs
  | _, _ => σ
theorem asgAll_ok {F : AS} {H : Hp} : ∀ {is : List Nat} {ps : List PV} {vs : List V} {env env' : En} {σ : Sg}, Mt F env σ H → RpL (Av F env σ) H ps vs → asgAll is ps env = some env' → Asg F env σ H env' (setAll σ is vs) (fun _ => False) ∧ is.length = vs.length
  | [], [], _, env, env', σ, m, r, h => by
    cases r
    cases h
    exact ⟨⟨m, fun b z => .inl z, fun j q e => ⟨rfl, e⟩⟩, rfl⟩
  | [], _ :: _, _, _, _, _, _, _, h => by unfold asgAll at h; cases h
  | _ :: _, [], _, _, _, _, _, _, h => by unfold asgAll at h; cases h
  | i :: is, p :: ps, _, env, env', σ, m, .cons (v := v) a r, h => by
    unfold asgAll at h
    obtain ⟨e1, h1, h2⟩ := Option.bind_eq_some_iff.mp h
    have t : Stb F env σ H p false v := by
      unfold Stb
      rw [if_neg (by decide)]
      exact ⟨m, a⟩
    have k1 := (t.asg h1).mono (Z' := fun _ => False) fun b z => by cases z.1
    obtain ⟨k2, k3⟩ := asgAll_ok (σ := σ.set i (some v)) k1.mt (r.mono fun b z => .inl (z.imp id fun z => (k1.ow b z).elim id False.elim)) h2
    exact ⟨(k1.trans k2).mono fun b z => z.elim id id, congrArg (· + 1) k3⟩
def gNms : List Nat → TGs
  | [] => gNil
  | i :: is => gCons (gName i) (gNms is)
theorem gNms_ok : ∀ {is : List Nat} {vs : List V} {σ : Sg} {H : Hp} {Q : Sg → Hp → Prop}, is.length = vs.length → Q (setAll σ is vs) H → gNms is vs σ H Q
  | [], [], _, _, _, _, q => ⟨rfl, q⟩
  | [], _ :: _, _, _, _, h, _ => by cases h
  | _ :: _, [], _, _, _, h, _ => by cases h
  | i :: is, v :: vs, σ, H, Q, h, q => ⟨v, vs, rfl, gNms_ok (Nat.succ.inj h) q⟩
/-- a tuple's or a list's items -/
def gIt (K : PySem.W.Frag) (is : List Nat) : TG := fun v σ H Q => gTup K is.length (gNms is) v σ H Q ∨ gUnl K is.length (gNms is) v σ H Q
def gTg (K : PySem.W.Frag) : Tg → TG
  | .nm i => gName i
  | .tp is => gIt K is
def tgIn (tg : Tg) (vs : List Nat) : Bool :=
  match tg with
  | .nm i => decide (i ∈ vs)
  | .tp is => is.all fun i => decide (i ∈ vs)
theorem wipe_set1 {σ : Sg} {i : Nat} {x : Option V} : ∀ {vs : List Nat}, i ∈ vs → wipe (σ.set i x) vs = wipe σ vs
  | v :: vs, h => by
    show (wipe (σ.set i x) vs).set v none = (wipe σ vs).set v none
    by_cases hv : i ∈ vs
    · rw [wipe_set1 hv]
    · have e : i = v := by
        rcases List.mem_cons.mp h with h | h
        · exact h
        · exact absurd h hv
      subst e
      clear h
      have gen : ∀ (σ : Sg) (ws : List Nat), (wipe (σ.set i x) ws).set i none = (wipe σ ws).set i none := fun σ ws => by
        induction ws with
        | nil => show (σ.set i x).set i none = σ.set i none; rw [List.set_set]
        | cons w ws ih =>
          show ((wipe (σ.set i x) ws).set w none).set i none = ((wipe σ ws).set w none).set i none
          by_cases e : w = i
          · subst e; rw [List.set_set, List.set_set]; exact ih
          · rw [List.set_comm _ _ e, List.set_comm _ _ e, ih]
      exact gen σ vs
theorem wipe_all {ws : List Nat} : ∀ {is : List Nat} {vs : List V} {σ : Sg}, (is.all fun i => decide (i ∈ ws)) = true → wipe (setAll σ is vs) ws = wipe σ ws
  | [], _, _, _ => rfl
  | _ :: _, [], _, _ => rfl
  | i :: is, v :: vs, σ, h => by
    rw [List.all_cons, Bool.and_eq_true, decide_eq_true_eq] at h
    show wipe (setAll (σ.set i (some v)) is vs) ws = wipe σ ws
    rw [wipe_all h.2, wipe_set1 h.1]
theorem g_ok {K : PySem.W.Frag} {F : AS} {env env' : En} {σ : Sg} {H : Hp} {tg : Tg} {p : PV} {v : V} {Q : Sg → Hp → Prop} (m : Mt F env σ H) (r : Rp (Av F env σ) H p v) (h : asgTg tg p env = some env')
    (k : ∀ σ', Asg F env σ H env' σ' (fun _ => False) → (∀ ws, tgIn tg ws = true → wipe σ' ws = wipe σ ws) → Q σ' H) : gTg K tg v σ H Q := by
  cases tg with
  | nm i =>
    have t : Stb F env σ H p false v := by
      unfold Stb
      rw [if_neg (by decide)]
      exact ⟨m, r⟩
    have k1 := (t.asg h).mono (Z' := fun _ => False) fun b z => by cases z.1
    exact k _ k1 fun ws hw => wipe_set1 (of_decide_eq_true hw)
  | tp is =>
    cases p with
    | tup ps =>
      cases r with
      | tup d z t =>
        obtain ⟨k1, k2⟩ := asgAll_ok m t h
        exact .inl ⟨_, _, rfl, sqT d, k2.symm, gNms_ok k2 (k _ k1 fun ws hw => wipe_all hw)⟩
    | lst ps =>
      cases r with
      | lst _ d z t =>
        obtain ⟨k1, k2⟩ := asgAll_ok m t h
        exact .inr ⟨_, _, rfl, sqL (.inl d), k2.symm, gNms_ok k2 (k _ k1 fun ws hw => wipe_all hw)⟩
    | _ => cases h

/-! ### statements -/
structure SS (F : AS) (env : En) (σ : Sg) (H : Hp) (env' : En) (σ' : Sg) (H' : Hp) : Prop where
  mt : Mt F env' σ' H'
  stp : Stp (Ow env σ) H H'
  ow : ∀ a, Ow env' σ' a → Ow env σ a ∨ H a = none
  io : ∀ (i : Nat) (p : PV), env[i]? = some (some (p, .io)) → σ'[i]? = σ[i]? ∧ ∃ q : PV, env'[i]? = some (some (q, .io))
theorem SS.refl {F : AS} {env : En} {σ : Sg} {H : Hp} (m : Mt F env σ H) : SS F env σ H env σ H := ⟨m, Stp.refl, fun _ z => .inl z, fun i p e => ⟨rfl, p, e⟩⟩
theorem SS.trans {F F1 : AS} {e0 e1 e2 : En} {σ0 σ1 σ2 : Sg} {H0 H1 H2 : Hp} (a : SS F1 e0 σ0 H0 e1 σ1 H1) (b : SS F e1 σ1 H1 e2 σ2 H2) : SS F e0 σ0 H0 e2 σ2 H2 :=
  ⟨b.mt, a.stp.trans b.stp a.ow, fun x h => (b.ow x h).elim (a.ow x) fun z => .inr (a.stp.dom x z), fun i p e => by
    obtain ⟨h1, q, h2⟩ := a.io i p e
    obtain ⟨h3, r, h4⟩ := b.io i q h2
    exact ⟨h3.trans h1, r, h4⟩⟩
theorem Xs.ss {F : AS} {env env' : En} {σ : Sg} {H H' : Hp} (x : Xs env σ H env' H') (m : Mt F env' σ H') : SS F env σ H env' σ H' := ⟨m, x.stp, fun a z => .inl (x.sb.sub a z), fun i p e => ⟨rfl, x.sb.io i p e⟩⟩
theorem SS.weak {F F' : AS} {env env' : En} {σ σ' : Sg} {H H' : Hp} (a : SS F env σ H env' σ' H') (m : ∀ b, F' b → F b) : SS F' env σ H env' σ' H' := ⟨a.mt.weak m, a.stp, a.ow, a.io⟩
/-- a store behind an expression -/
theorem SS.asg {F : AS} {env e1 e2 : En} {σ σ2 : Sg} {H H1 : Hp} {Z : AS} (x : Xs env σ H e1 H1) (a : Asg F e1 σ H1 e2 σ2 Z) (hZ : ∀ b, Z b → Ow env σ b ∨ H b = none) : SS F env σ H e2 σ2 H1 :=
  ⟨a.mt, x.stp, fun b z => (a.ow b z).elim (fun z => .inl (x.sb.sub b z)) (hZ b), fun i p e => by
    obtain ⟨q, h⟩ := x.sb.io i p e
    obtain ⟨h1, h2⟩ := a.io i q h
    exact ⟨h1, q, h2⟩⟩
theorem RV.from {F F1 : AS} {e0 e1 e2 : En} {σ0 σ1 σ2 : Sg} {H0 H1 H2 : Hp} {p : PV} {fr : Bool} {v : V} (h : RV F1 e1 σ1 H1 e2 σ2 H2 p fr v) (up : ∀ a, F a → F1 a) (ow : ∀ a, Ow e1 σ1 a → Ow e0 σ0 a ∨ H0 a = none) (dom : ∀ a, H1 a = none → H0 a = none) : RV F e0 σ0 H0 e2 σ2 H2 p fr v := by
  unfold RV at h ⊢
  cases fr with
  | false =>
    rw [if_neg (by decide)] at h ⊢
    exact ⟨h.1.weak up, h.2.mono fun a z => .inl (z.imp (up a) id)⟩
  | true =>
    rw [if_pos rfl] at h ⊢
    obtain ⟨a, e, n, nF, nO, m, o⟩ := h
    exact ⟨a, e, n.elim (ow a) fun z => .inr (dom a z), fun z => nF (up a z), nO, m.weak fun b z => z.imp (up b) id, o.mono fun b z => .inl (z.imp (fun q => q.imp (up b) id) id)⟩
def EndOk (D : Ends) (F : AS) (env : En) (σ : Sg) (H : Hp) (w : Fw) (env' : En) : Prop :=
  match w with
  | .nx => ∀ σ' H', SS F env σ H env' σ' H' → D.nx σ' H'
  | .ct => ∀ σ' H', SS F env σ H env' σ' H' → D.ct σ' H'
  | .bk => ∀ σ' H', SS F env σ H env' σ' H' → D.bk σ' H'
  | .rt p fr => ∀ v σ' H', SS F env σ H env' σ' H' → RV F env σ H env' σ' H' p fr v → D.rt v H'
def tS (f : En → Res Fw) : TS := fun D σ H => ∃ F env, Mt F env σ H ∧ match f env with
  | .ok w env' => EndOk D F env σ H w env'
  | .bad => False
theorem tS_iff {f : En → Res Fw} {D : Ends} {σ : Sg} {H : Hp} : tS f D σ H ↔ ∃ F env w env', Mt F env σ H ∧ f env = .ok w env' ∧ EndOk D F env σ H w env' := by
  constructor
  · rintro ⟨F, env, m, h⟩
    cases e : f env with
    | ok r env' => rw [e] at h; exact ⟨F, env, r, env', m, e, h⟩
    | bad => rw [e] at h; exact h.elim
  · rintro ⟨F, env, r, env', m, e, h⟩
    exact ⟨F, env, m, by rw [e]; exact h⟩
theorem psI {X : Cx} {s : Stmt} {t t' : TS} (h : PS X s t) (m : ∀ D σ H, t' D σ H → t D σ H) : PS X s t' := ⟨fun pins s σ H D I q => h.run pins s σ H D I (m D σ H q)⟩
theorem pssI {X : Cx} {s : List Stmt} {t t' : TS} (h : PSs X s t) (m : ∀ D σ H, t' D σ H → t D σ H) : PSs X s t' := ⟨fun pins s σ H D I q => h.run pins s σ H D I (m D σ H q)⟩
/-- a statement's end, seen from an earlier place -/
theorem EndOk.from {D D' : Ends} {F F1 : AS} {e0 e1 e2 : En} {σ0 σ1 : Sg} {H0 H1 : Hp} {w : Fw} (h : EndOk D F e0 σ0 H0 w e2) (s : SS F1 e0 σ0 H0 e1 σ1 H1) (up : ∀ a, F a → F1 a) (hn : w = .nx → D'.nx = D.nx) (hc : w = .ct → D'.ct = D.ct) (hb : w = .bk → D'.bk = D.bk) (hr : D'.rt = D.rt) : EndOk D' F1 e1 σ1 H1 w e2 := by
  cases w with
  | nx => intro σ' H' s'; rw [hn rfl]; exact h σ' H' ((s.trans s').weak up)
  | ct => intro σ' H' s'; rw [hc rfl]; exact h σ' H' ((s.trans s').weak up)
  | bk => intro σ' H' s'; rw [hb rfl]; exact h σ' H' ((s.trans s').weak up)
  | rt p fr => intro v σ' H' s' r; rw [hr]; exact h v σ' H' ((s.trans s').weak up) (r.from up s.ow s.stp.dom)
section
variable {X : Cx} {pos : Pos}
theorem s_pass : PS X (.Pass pos) (tS fun env => .ok .nx env) := psI ps_pass fun D σ H q => by
  obtain ⟨F, env, w, env', m, e, k⟩ := tS_iff.mp q
  cases e
  exact k σ H (SS.refl m)
theorem s_cont : PS X (.Continue pos) (tS fun env => .ok .ct env) := psI ps_continue fun D σ H q => by
  obtain ⟨F, env, w, env', m, e, k⟩ := tS_iff.mp q
  cases e
  exact k σ H (SS.refl m)
theorem s_brk : PS X (.Break pos) (tS fun env => .ok .bk env) := psI ps_break fun D σ H q => by
  obtain ⟨F, env, w, env', m, e, k⟩ := tS_iff.mp q
  cases e
  exact k σ H (SS.refl m)
theorem s_doc {x : Str} {j : Nat} {pos' : Pos} : PS X (.Expr (.Constant (.str x) j pos) pos') (tS fun env => .ok .nx env) := psI ps_doc fun D σ H q => by
  obtain ⟨F, env, w, env', m, e, k⟩ := tS_iff.mp q
  cases e
  exact k σ H (SS.refl m)
theorem s_never {s : Stmt} : PS X s (tS fun _ => .bad) := psI ps_never fun D σ H q => by
  obtain ⟨F, env, w, env', m, e, k⟩ := tS_iff.mp q
  cases e
theorem s_ret {e : Expr} {f : En → Res PB} (h : PE X e (tE f)) : PS X (.Return (some e) pos) (tS fun env => (f env).bind fun x e1 => .ok (.rt x.1 x.2) e1) := psI (ps_ret h) fun D σ H q => by
  obtain ⟨F, env, w, env', m, e, k⟩ := tS_iff.mp q
  obtain ⟨x, e1, h1, e⟩ := bind_ok e
  cases e
  exact tE_iff.mpr ⟨F, env, x, _, m, h1, fun v H1 x1 rv => k v σ H1 (x1.ss rv.val.1) rv⟩
theorem s_retN : PS X (.Return none pos) (tS fun env => .ok (.rt .non false) env) := psI ps_retN fun D σ H q => by
  obtain ⟨F, env, w, env', m, e, k⟩ := tS_iff.mp q
  cases e
  exact k _ σ H (SS.refl m) (RV.of m .non)
theorem s_ex {e : Expr} {f : En → Res PB} (h : PE X e (tE f)) (hs : swapsWith e none pos.line X.env = pure false) : PS X (.Expr e pos) (tS fun env => (f env).bind fun _ e1 => .ok .nx e1) := psI (ps_expr h hs) fun D σ H q => by
  obtain ⟨F, env, w, env', m, e, k⟩ := tS_iff.mp q
  obtain ⟨x, e1, h1, e⟩ := bind_ok e
  cases e
  exact tE_iff.mpr ⟨F, env, x, _, m, h1, fun v H1 x1 rv => k σ H1 (x1.ss rv.val.1)⟩
/-- what a store to a name asks -/
theorem set_k {f : En → Res PB} {i : Nat} {D : Ends} {σ : Sg} {H : Hp} (q : tS (fun env => (f env).bind fun x e1 => (opt (asgSl i x.1 x.2 e1) e1).bind fun e2 _ => .ok .nx e2) D σ H) : tE f σ H fun x H1 => gName i x σ H1 D.nx := by
  obtain ⟨F, env, w, env', m, e, k⟩ := tS_iff.mp q
  obtain ⟨x, e1, h1, e⟩ := bind_ok e
  obtain ⟨e2, e3, h2, e5⟩ := bind_ok e
  obtain ⟨h2', rfl⟩ := opt_ok h2
  cases e5
  exact tE_iff.mpr ⟨F, env, x, _, m, h1, fun v H1 x1 rv => k _ H1 (SS.asg x1 (rv.stb.asg h2') fun b z => rv.new z)⟩
theorem s_asg {e : Expr} {f : En → Res PB} {i : Nat} {x : Str} {pos' : Pos} (hN : X.N.Nodup) (hi : X.N[i]? = some x) (hx : X.env.scope.names.lookup x = some .local) (h : PE X e (tE f)) (hs : swapsWith e (some (.Name x pos')) pos.line X.env = pure false) :
    PS X (.Assign [.Name x pos'] e pos) (tS fun env => (f env).bind fun x e1 => (opt (asgSl i x.1 x.2 e1) e1).bind fun e2 _ => .ok .nx e2) := psI (ps_set hN hi (.inl hx) h hs (.inr hx)) fun D σ H q => set_k q
theorem s_iff {c : Expr} {a b : List Stmt} {f : En → Res Bool} {g h : En → Res Fw} (hc : PT X c (tB f)) (ha : PSs X a (tS g)) (hb : PSs X b (tS h)) : PS X (.If c a b pos) (tS fun env => (f env).bind fun k e1 => if k then g e1 else h e1) := psI (ps_if hc ha hb) fun D σ H q => by
  obtain ⟨F, env, w, env', m, e, k⟩ := tS_iff.mp q
  obtain ⟨d, e1, h1, e⟩ := bind_ok e
  refine tB_iff.mpr ⟨F, env, d, e1, m, h1, fun H1 x1 m1 => ?_⟩
  cases d with
  | true =>
    rw [if_pos rfl] at e ⊢
    exact tS_iff.mpr ⟨F, e1, w, env', m1, e, k.from (x1.ss m1) (fun _ z => z) (fun _ => rfl) (fun _ => rfl) (fun _ => rfl) rfl⟩
  | false =>
    rw [if_neg Bool.false_ne_true] at e ⊢
    exact tS_iff.mpr ⟨F, e1, w, env', m1, e, k.from (x1.ss m1) (fun _ z => z) (fun _ => rfl) (fun _ => rfl) (fun _ => rfl) rfl⟩
theorem ss_nil : PSs X [] (tS fun env => .ok .nx env) := pssI pss_nil fun D σ H q => by
  obtain ⟨F, env, w, env', m, e, k⟩ := tS_iff.mp q
  cases e
  exact k σ H (SS.refl m)
theorem ss_cons {s : Stmt} {r : List Stmt} {f g : En → Res Fw} (hs : PS X s (tS f)) (hr : PSs X r (tS g)) : PSs X (s :: r) (tS fun env => (f env).bind fun w e1 => match w with
    | .nx => g e1
    | w => .ok w e1) := pssI (pss_cons hs hr) fun D σ H q => by
  obtain ⟨F, env, w, env', m, e, k⟩ := tS_iff.mp q
  obtain ⟨w1, e1, h1, e⟩ := bind_ok e
  refine tS_iff.mpr ⟨F, env, w1, e1, m, h1, ?_⟩
  cases w1 with
  | nx =>
    intro σ1 H1 s1
    exact tS_iff.mpr ⟨F, e1, w, env', s1.mt, e, k.from s1 (fun _ z => z) (fun _ => rfl) (fun _ => rfl) (fun _ => rfl) rfl⟩
  | ct => cases e; exact k
  | bk => cases e; exact k
  | rt p fr => cases e; exact k

/-! ### loops -/
theorem s_for {tg iter : Expr} {body : List Stmt} {t : Tg} {f : En → Res (List PV)} {g : En → Res Fw} (hp : PassesOwn (model X.prog X.w) X.A X.env X.xe) (hc : X.calm = true) (hi : PI X tg iter (tW f)) (hg : PG X tg (gTg X.K t)) (hb : PSs X body (tS g)) (hs : ∀ x, foldedSetIterable iter X.env x = pure x) :
    PS X (.For tg iter body [] pos) (tS fun env => (f env).bind fun ys e1 => forLoop (asgTg t) g ys e1) := psI (ps_for hp hc hi hg hb hs) fun D σ H q => by
  obtain ⟨F, env, w, env', m, e, k⟩ := tS_iff.mp q
  obtain ⟨ys, e1, h1, e⟩ := bind_ok e
  refine tW_iff.mpr ⟨F, env, ys, e1, m, h1, fun J H1 F1 x1 o1 wk => ?_⟩
  obtain ⟨hz, G, Y, W, hG, hY⟩ := wk.mono (O' := Ow e1 σ) fun a z => .inl z
  have s0 : SS F1 env σ H e1 σ H1 := x1.ss o1.mt
  refine for_it W (fun i σ2 H2 => ∃ e2, SS F1 e1 σ H1 e2 σ2 H2 ∧ forLoop (asgTg t) g (ys.drop i) e2 = .ok w env') ⟨e1, SS.refl o1.mt, e⟩ (fun i σ2 H2 _ ⟨e2, s2, _⟩ => hG H2 s2.stp) ?_ ?_
  · rintro i x σ2 H2 H3 hi ⟨e2, s2, h2⟩ hy
    obtain ⟨y, hy1, hy2, hy3⟩ := hY i H2 x H3 hi s2.stp hy
    have ed : ys.drop i = y :: ys.drop (i + 1) := by
      have hlt : ys[i]? = some (ys[i]) := List.getElem?_eq_getElem hi
      rw [hlt] at hy1
      cases hy1
      exact List.drop_eq_getElem_cons hi
    rw [ed] at h2
    unfold forLoop at h2
    obtain ⟨e3, e4, h3, h5⟩ := bind_ok h2
    obtain ⟨h3', rfl⟩ := opt_ok h3
    obtain ⟨w1, e5, h4, h6⟩ := bind_ok h5
    clear h2 h5 h3
    have m3 : Mt F1 e4 σ2 H3 := s2.mt.stp hy2 (fun a z e => s2.mt.al a z (hy2.dom a e)) fun a z => .inl z
    have s3 : SS F1 e1 σ H1 e4 σ2 H3 := s2.trans ((Xs.new hy2).ss m3)
    refine g_ok m3 (hy3 _ fun a z => ?_) h3' fun σ4 as _ => ?_
    · rcases z with z | z
      · exact .inl (.inl z)
      · exact (s2.ow a z).imp .inr id
    · have s4 : SS F1 e1 σ H1 e3 σ4 H3 := s3.trans (SS.asg Xs.refl as fun b z => z.elim)
      refine tS_iff.mpr ⟨F1, e3, w1, e5, as.mt, h4, ?_⟩
      cases w1 with
      | nx => exact fun σ5 H5 s5 => ⟨e5, s4.trans s5, h6⟩
      | ct => exact fun σ5 H5 s5 => ⟨e5, s4.trans s5, h6⟩
      | bk =>
        cases h6
        exact fun σ5 H5 s5 => k σ5 H5 ((s0.trans (s4.trans s5)).weak o1.up)
      | rt p fr =>
        cases h6
        intro v σ5 H5 s5 r
        have s6 := s0.trans s4
        exact k v σ5 H5 ((s6.trans s5).weak o1.up) (r.from o1.up s6.ow s6.stp.dom)
  · rintro σ2 H2 ⟨e2, s2, h2⟩
    rw [List.drop_length] at h2
    cases h2
    exact k σ2 H2 ((s0.trans s2).weak o1.up)
theorem s_whl {c : Expr} {body : List Stmt} {f : En → Res Bool} {g : En → Res Fw} {n : Nat} (hp : PassesOwn (model X.prog X.w) X.A X.env X.xe) (hc : PT X c (tB f)) (hb : PSs X body (tS g)) :
    PS X (.While c body [] pos) (tS fun env => whlLoop f g n env) := psI (ps_while hp hc hb) fun D σ H q => by
  obtain ⟨F, env, w, env', m, e, k⟩ := tS_iff.mp q
  refine ⟨fun m σ2 H2 => ∃ e2, SS F env σ H e2 σ2 H2 ∧ whlLoop f g m e2 = .ok w env', ⟨n, env, SS.refl m, e⟩, ?_⟩
  rintro l σ2 H2 ⟨e2, s2, h2⟩
  cases l with
  | zero => cases h2
  | succ l =>
    unfold whlLoop at h2
    obtain ⟨b, e3, h3, h2⟩ := bind_ok h2
    refine tB_iff.mpr ⟨F, e2, b, e3, s2.mt, h3, fun H3 x3 m3 => ?_⟩
    have s3 := s2.trans (x3.ss m3)
    cases b with
    | false =>
      rw [if_neg Bool.false_ne_true] at h2 ⊢
      cases h2
      exact k σ2 H3 s3
    | true =>
      rw [if_pos rfl] at h2 ⊢
      obtain ⟨w1, e5, h4, h2⟩ := bind_ok h2
      refine ⟨fun σ' H' => ∃ e2, SS F env σ H e2 σ' H' ∧ whlLoop f g l e2 = .ok w env', fun σ' H' z => ⟨l, Nat.lt_succ_self _, z⟩, tS_iff.mpr ⟨F, e3, w1, e5, m3, h4, ?_⟩⟩
      cases w1 with
      | nx => exact fun σ5 H5 s5 => ⟨e5, s3.trans s5, h2⟩
      | ct => exact fun σ5 H5 s5 => ⟨e5, s3.trans s5, h2⟩
      | bk =>
        cases h2
        exact fun σ5 H5 s5 => k σ5 H5 (s3.trans s5)
      | rt p fr =>
        cases h2
        intro v σ5 H5 s5 r
        exact k v σ5 H5 (s3.trans s5) (r.from (fun _ z => z) s3.ow s3.stp.dom)
end
end Dk

set_option Elab.async false
set_option linter.all false
set_option autoImplicit false
set_option maxRecDepth 100000
set_option maxHeartbeats 1000000
/-! Dk13: the other statements. -/
namespace Dk
open PySem PySem.Spec PyProof.Rows L2

section
variable {X : Cx} {pos : Pos}
/-! ### targets -/
/-- a name as a target -/
structure NmOk (X : Cx) (x : Str) (i : Nat) : Prop where
  ix : X.N[i]? = some x
  loc : X.env.scope.names.lookup x = some .local ∨ (X.env.scope.names.lookup x = some .cell ∧ X.fn x = true)
theorem NmOk.pg {x : Str} {i : Nat} {p : Pos} (hN : X.N.Nodup) (h : NmOk X x i) : PG X (.Name x p) (gName i) := by
  rcases h.loc with l | ⟨l, f⟩
  · exact pg_name hN h.ix (.inl l) (.inr l)
  · exact pg_name hN h.ix (.inr l) (.inl f)
inductive NmsOk (X : Cx) : List Expr → List Nat → Prop where
  | nil : NmsOk X [] []
  | cons {x : Str} {i : Nat} {p : Pos} {es : List Expr} {is : List Nat} : NmOk X x i → NmsOk X es is → NmsOk X (.Name x p :: es) (i :: is)
theorem NmsOk.pgs (hN : X.N.Nodup) : ∀ {es : List Expr} {is : List Nat}, NmsOk X es is → PGs X es (gNms is)
  | _, _, .nil => pgs_nil
  | _, _, .cons h r => pgs_cons (h.pg hN) (r.pgs hN) rfl
theorem NmsOk.len : ∀ {es : List Expr} {is : List Nat}, NmsOk X es is → (assignEach es X.env).length = is.length
  | _, _, .nil => rfl
  | _, _, .cons h r => congrArg (· + 1) r.len
theorem NmsOk.no : ∀ {es : List Expr} {is : List Nat}, NmsOk X es is → (assignEach es X.env).findIdx? (·.1) = none
  | _, _, .nil => rfl
  | _, _, .cons (x := x) (p := p) (es := es) h r => by
    show ((false, assign (.Name x p) X.env) :: assignEach es X.env).findIdx? (·.1) = none
    rw [List.findIdx?_cons, r.no]
    rfl
theorem pg_it (hc : X.calm = true) (hN : X.N.Nodup) {es : List Expr} {is : List Nat} {k : Nat} (h : NmsOk X es is) : PG X (.Tuple es k pos) (gIt X.K is) :=
  ⟨fun pins s σ H v u Q I r q => q.elim (fun q => (pg_tup (k := k) (pos := pos) hc (h.pgs hN) h.len h.no).run pins s σ H v u Q I r q) fun q => (pg_unl (k := k) (pos := pos) hc (h.pgs hN) h.len h.no).run pins s σ H v u Q I r q⟩

theorem pg_tp (hc : X.calm = true) (hN : X.N.Nodup) {es : List Expr} {is : List Nat} {k : Nat} (h : NmsOk X es is) : PG X (.Tuple es k pos) (gTg X.K (.tp is)) := pg_it hc hN h

/-! ### a, b = .. -/
theorem rdW_rd {env : En} {ag : Ag} {p : PV} (h : ag.rdW env = some p) : ag.rd env = some p := by
  cases ag with
  | v q => exact h
  | t q => exact h
  | s i =>
    have h : (match env[i]? with
      | some (some (p, .fz)) => some p
      | _ => none) = some p := h
    split at h
    · rename_i q e
      cases h
      show rdSl i env = _
      unfold rdSl
      rw [e]
    · cases h
theorem s_tpa {es : List Expr} {is : List Nat} {k : Nat} {p : Pos} {e : Expr} {f : En → Res Ag} (hc : X.calm = true) (hN : X.N.Nodup) (h : NmsOk X es is) (he : PE X e (tO f)) (hs : swapsWithSole [.Tuple es k p] e pos.line X.env = pure false) (hw : swappedStores [.Tuple es k p] e X.env = pure none) :
    PS X (.Assign [.Tuple es k p] e pos) (tS fun env => (f env).bind fun x e1 => match x.rdW e1 with
    | some p => (opt ((itemsOf p).bind fun ps => asgAll is ps e1) e1).bind fun e2 _ => .ok .nx e2
    | none => .bad) := psI (ps_asg he (pg_it hc hN h) hs hw rfl) fun D σ H q => by
  obtain ⟨F, env, w, env', m, e, k⟩ := tS_iff.mp q
  obtain ⟨x, e1, h1, e⟩ := bind_ok e
  split at e
  · rename_i p hp
    obtain ⟨e2, e3, h2, h3⟩ := bind_ok e
    obtain ⟨h2', rfl⟩ := opt_ok h2
    obtain ⟨ps, h4, h5⟩ := Option.bind_eq_some_iff.mp h2'
    cases h3
    refine tO_iff.mpr ⟨F, env, x, e3, m, h1, fun v H1 F1 x1 o1 _ r1 => ?_⟩
    have fin : ∀ {vs : List V}, RpL (Av F1 e3 σ) H1 ps vs → is.length = vs.length ∧ D.nx (setAll σ is vs) H1 := fun {vs} t => by
      obtain ⟨a, b⟩ := asgAll_ok o1.mt t h5
      exact ⟨b, k _ H1 ((SS.asg x1 a fun b z => z.elim).weak o1.up)⟩
    have sd := r1.rd o1.mt (rdW_rd hp)
    cases p with
    | lst ys =>
      cases h4
      obtain ⟨a, vs, rfl, d, z, t⟩ := sd.lst
      obtain ⟨f1, f2⟩ := fin t
      exact .inr ⟨a, vs, rfl, sqL d, f1.symm, gNms_ok f1 f2⟩
    | tup ys =>
      cases h4
      obtain ⟨a, vs, rfl, d, z, t⟩ := sd.tup
      obtain ⟨f1, f2⟩ := fin t
      exact .inl ⟨a, vs, rfl, sqT d, f1.symm, gNms_ok f1 f2⟩
    | _ => cases h4
  · cases e

/-! ### a, b = c, d -/
inductive ParL (A : AS) (H : Hp) (F : AS) : List Ag → List V → Prop where
  | nil : ParL A H F [] []
  | v {p : PV} {v : V} {as : List Ag} {vs : List V} : Rp A H p v → ParL A H F as vs → ParL A H F (.v p :: as) (v :: vs)
  | t {p : PV} {a : Addr} {as : List Ag} {vs : List V} : F a → Own A H p a → ParL A H F as vs → ParL A H F (.t p :: as) (.ref a :: vs)
theorem ParL.less {A A' : AS} {H : Hp} {F F' : AS} (hA : ∀ b, A' b → A b) : ∀ {as : List Ag} {vs : List V}, ParL A H F as vs → (∀ b, F b → V.ref b ∈ tmps as vs → F' b) → ParL A' H F' as vs
  | _, _, .nil, _ => .nil
  | _, _, .v r q, h => .v (r.mono fun b z => .inl (hA b z)) (q.less hA h)
  | _, _, .t (a := a) f o q, h => .t (h a f List.mem_cons_self) (o.mono fun b z => .inl (hA b z)) (q.less hA fun b z w => h b z (List.mem_cons_of_mem _ w))
theorem ParL.of {F : AS} {env : En} {σ : Sg} {H : Hp} : ∀ {is : List Nat} {as : List Ag} {vs : List V} {env0 env' : En}, AgL F env σ H as vs → asgPar is as env0 = some env' → ParL (Av F env σ) H F as vs
  | [], [], _, _, _, r, _ => by cases r; exact .nil
  | [], _ :: _, _, _, _, _, h => by unfold asgPar at h; cases h
  | _ :: _, [], _, _, _, _, h => by unfold asgPar at h; cases h
  | _ :: _, .s _ :: _, _, _, _, _, h => by unfold asgPar at h; cases h
  | i :: is, .v p :: as, _, _, _, .cons a r, h => by
    unfold asgPar at h
    obtain ⟨e1, _, h2⟩ := Option.bind_eq_some_iff.mp h
    exact .v a (ParL.of r h2)
  | i :: is, .t p :: as, _, _, _, .cons a r, h => by
    unfold asgPar at h
    obtain ⟨e1, _, h2⟩ := Option.bind_eq_some_iff.mp h
    obtain ⟨b, rfl, f, o⟩ := a
    exact .t f o (ParL.of r h2)
theorem asgPar_ok {H : Hp} : ∀ {is : List Nat} {as : List Ag} {vs : List V} {F : AS} {env env' : En} {σ : Sg}, Mt F env σ H → ParL (Av F env σ) H F as vs → (tmps as vs).Nodup → asgPar is as env = some env' →
    ∃ F' : AS, Asg F' env σ H env' (setAll σ is vs) (fun b => V.ref b ∈ tmps as vs) ∧ (∀ b, F b → V.ref b ∉ tmps as vs → F' b) ∧ is.length = vs.length
  | [], [], _, F, env, env', σ, m, r, _, h => by
    cases r
    cases h
    exact ⟨F, ⟨m, fun b z => .inl z, fun j q e => ⟨rfl, e⟩⟩, fun b z _ => z, rfl⟩
  | [], _ :: _, _, _, _, _, _, _, _, _, h => by unfold asgPar at h; cases h
  | _ :: _, [], _, _, _, _, _, _, _, _, h => by unfold asgPar at h; cases h
  | _ :: _, .s _ :: _, _, _, _, _, _, _, _, _, h => by unfold asgPar at h; cases h
  | i :: is, .v p :: as, _, F, env, env', σ, m, .v (v := v) a r, nd, h => by
    unfold asgPar at h
    obtain ⟨e1, h1, h2⟩ := Option.bind_eq_some_iff.mp h
    have t : Stb F env σ H p false v := by
      unfold Stb
      rw [if_neg (by decide)]
      exact ⟨m, a⟩
    have k1 := (t.asg h1).mono (Z' := fun _ => False) fun b z => by cases z.1
    obtain ⟨F', k2, k3, k4⟩ := asgPar_ok (σ := σ.set i (some v)) k1.mt (r.less (fun b z => z.imp id fun z => (k1.ow b z).elim id False.elim) fun b z _ => z) nd h2
    exact ⟨F', ⟨k2.mt, fun b z => (k2.ow b z).elim (fun z => .inl ((k1.ow b z).elim id False.elim)) .inr, fun j q e => by
      obtain ⟨a1, a2⟩ := k1.io j q e
      obtain ⟨a3, a4⟩ := k2.io j q a2
      exact ⟨a3.trans a1, a4⟩⟩, k3, congrArg (· + 1) k4⟩
  | i :: is, .t p :: as, _, F, env, env', σ, m, .t (a := a) f o r, nd, h => by
    unfold asgPar at h
    obtain ⟨e1, h1, h2⟩ := Option.bind_eq_some_iff.mp h
    obtain ⟨n1, nd⟩ := List.nodup_cons.mp nd
    have m2 : Mt (fun b => (F b ∧ b ≠ a) ∨ b = a) env σ H := m.weak fun b z => by
      rcases z with z | z
      · exact z.1
      · rw [z]; exact f
    have t : Stb (fun b => F b ∧ b ≠ a) env σ H p true (.ref a) := by
      unfold Stb
      rw [if_pos rfl]
      refine ⟨a, rfl, fun z => z.2 rfl, fun z => ?_, m2, o.mono fun b z => .inl ?_⟩
      · obtain ⟨j, q, g, e, hg, e2⟩ := z
        obtain ⟨b, e3, n, _⟩ := m.ow j q g e hg
        rw [e2] at e3; cases e3
        exact n f
      · rcases z with (z | z) | z
        · exact .inl z.1
        · rw [z]; exact .inl f
        · exact .inr z
    have k1 := t.asg h1
    have up : ∀ b, Av (fun b => F b ∧ b ≠ a) e1 (σ.set i (some (.ref a))) b → Av F env σ b := fun b z => by
      rcases z with z | z
      · exact .inl z.1
      · rcases k1.ow b z with z | z
        · exact .inr z
        · cases z.2; exact .inl f
    obtain ⟨F', k2, k3, k4⟩ := asgPar_ok (σ := σ.set i (some (.ref a))) k1.mt (r.less up fun b z w => ⟨z, fun e => by subst e; exact n1 w⟩) nd h2
    refine ⟨F', ⟨k2.mt, fun b z => ?_, fun j q e => ?_⟩, fun b z w => k3 b ⟨z, fun e => w (by subst e; exact List.mem_cons_self)⟩ fun z => w (List.mem_cons_of_mem _ z), congrArg (· + 1) k4⟩
    · rcases k2.ow b z with z | z
      · rcases k1.ow b z with z | z
        · exact .inl z
        · exact .inr (by rw [show V.ref b = V.ref a from z.2.symm]; exact List.mem_cons_self)
      · exact .inr (List.mem_cons_of_mem _ z)
    · obtain ⟨a1, a2⟩ := k1.io j q e
      obtain ⟨a3, a4⟩ := k2.io j q a2
      exact ⟨a3.trans a1, a4⟩
theorem par_k {f : En → Res (List Ag)} {is : List Nat} {D : Ends} {σ : Sg} {H : Hp} (q : tS (fun env => (f env).bind fun ps e1 => (opt (asgPar is ps e1) e1).bind fun e2 _ => .ok .nx e2) D σ H) :
    tL f σ H fun vs H1 => is.length = vs.length ∧ ∀ H2, Stp (fun _ => False) H1 H2 → D.nx (setAll σ is vs) H2 := by
  obtain ⟨F, env, w, env', m, e, k⟩ := tS_iff.mp q
  obtain ⟨as, e1, h1, e⟩ := bind_ok e
  obtain ⟨e2, e3, h2, h3⟩ := bind_ok e
  obtain ⟨h2', rfl⟩ := opt_ok h2
  cases h3
  refine tL_iff.mpr ⟨F, env, as, e3, m, h1, fun vs H1 F1 x1 o1 t1 r1 => ?_⟩
  have main : ∀ H2, Stp (fun _ => False) H1 H2 → is.length = vs.length ∧ D.nx (setAll σ is vs) H2 := fun H2 s => by
    have x2 : Xs e3 σ H1 e3 H2 := Xs.new s
    have m2 : Mt F1 e3 σ H2 := o1.mt.stp s (fun a z e => o1.mt.al a z (s.dom a e)) fun a z => .inl z
    have o2 : Or F1 e3 σ H1 e3 H2 F1 := ⟨fun _ z => z, fun _ z => .inl z, m2⟩
    have r2 := r1.move o1.mt x2 o2
    obtain ⟨F', a, b, c⟩ := asgPar_ok m2 (ParL.of r2 h2') t1.nd h2'
    refine ⟨c, k _ H2 ((SS.asg (x1.trans x2) a fun d z => ?_).weak fun d z => b d (o1.up d z) fun w => t1.nF d w z)⟩
    obtain ⟨d, e, f⟩ := r1.tmp _ z
    cases e
    rcases o1.new _ f with w | w
    · exact absurd w (t1.nF _ z)
    · exact w
  exact ⟨(main H1 Stp.refl).1, fun H2 s => (main H2 s).2⟩

/-! ### plain names stored from the right -/
theorem sw2 {x y : Str} {px py pt : Pos} {a b : Expr} {kt k2 : Nat} {pt2 : Pos} {env : Env} (hk : env.scope.kind = .function) (ha : unst a = true) (hb : unst b = true) (hx : env.scope.names.lookup x = some .local) (hy : env.scope.names.lookup y = some .local) (hl : (py.line == px.line) = true) (hne : (x == y) = false)
    (hf : [a, b].all (foldedForSure 8) = false) (hc : [a, b].all (constantsAlone 8) = false) : swappedStores [.Tuple [.Name x px, .Name y py] kt pt] (.Tuple [a, b] k2 pt2) env = pure (some [x, y]) := by
  have kx : env.kindOf x = some .local := hx
  have ky : env.kindOf y = some .local := hy
  have hbk : env.blockKind = .function := by unfold Env.blockKind; rw [hk]; rfl
  have hne2 : (y == x) = false := by
    rw [beq_eq_false_iff_ne] at hne ⊢
    exact Ne.symm hne
  have hne3 : x ≠ y := by
    rw [beq_eq_false_iff_ne] at hne
    exact hne
  unfold swappedStores
  simp only [hbk, hf, hc, kx, ky, List.length, List.filterMap, List.head?, Option.map, Option.getD, Expr.pos, hl]
  simp [List.eraseDups, List.eraseDupsBy, List.eraseDupsBy.loop, hne, hne2, hne3, hl]
  intro h
  exfalso
  rcases h with h | h
  · cases a <;> first | exact absurd ha Bool.false_ne_true | exact absurd h Bool.false_ne_true
  · cases b <;> first | exact absurd hb Bool.false_ne_true | exact absurd h Bool.false_ne_true
theorem s_par2 {x y : Str} {px py pt : Pos} {a b : Expr} {kt k2 : Nat} {pt2 : Pos} {i j : Nat} {f : En → Res (List Ag)} (hc : X.calm = true) (hN : X.N.Nodup) (hi : X.N[i]? = some x) (hj : X.N[j]? = some y) (hij : i ≠ j) (hx : X.env.scope.names.lookup x = some .local) (hy : X.env.scope.names.lookup y = some .local) (ha : PA X [a, b] (tL f))
    (hw : swappedStores [.Tuple [.Name x px, .Name y py] kt pt] (.Tuple [a, b] k2 pt2) X.env = pure (some [x, y])) : PS X (.Assign [.Tuple [.Name x px, .Name y py] kt pt] (.Tuple [a, b] k2 pt2) pos) (tS fun env => (f env).bind fun ps e1 => (opt (asgPar [i, j] ps e1) e1).bind fun e2 _ => .ok .nx e2) :=
  psI (ps_par hc hN hi hj hij hx hy ha hw) fun D σ H q => by
    obtain ⟨F, env, r, env', m, e, k⟩ := tL_iff.mp (par_k q)
    refine tL_iff.mpr ⟨F, env, r, env', m, e, fun vs H1 F1 x1 o1 t1 r1 => ?_⟩
    obtain ⟨hl, k⟩ := k vs H1 F1 x1 o1 t1 r1
    match vs, hl with
    | [v, w], _ => exact ⟨v, w, rfl, k H1 Stp.refl⟩
theorem s_par3 {x y z : Str} {px py pz pt : Pos} {a b c : Expr} {kt k2 : Nat} {pt2 : Pos} {i j l : Nat} {f : En → Res (List Ag)} (hc : X.calm = true) (hN : X.N.Nodup) (hi : X.N[i]? = some x) (hj : X.N[j]? = some y) (hl : X.N[l]? = some z) (hij : i ≠ j) (hil : i ≠ l) (hjl : j ≠ l) (hx : X.env.scope.names.lookup x = some .local) (hy : X.env.scope.names.lookup y = some .local) (hz : X.env.scope.names.lookup z = some .local) (ha : PA X [a, b, c] (tL f))
    (hw : swappedStores [.Tuple [.Name x px, .Name y py, .Name z pz] kt pt] (.Tuple [a, b, c] k2 pt2) X.env = pure (some [x, y, z])) : PS X (.Assign [.Tuple [.Name x px, .Name y py, .Name z pz] kt pt] (.Tuple [a, b, c] k2 pt2) pos) (tS fun env => (f env).bind fun ps e1 => (opt (asgPar [i, j, l] ps e1) e1).bind fun e2 _ => .ok .nx e2) :=
  psI (ps_par3 hc hN hi hj hl hij hil hjl hx hy hz ha hw) fun D σ H q => by
    obtain ⟨F, env, r, env', m, e, k⟩ := tL_iff.mp (par_k q)
    refine tL_iff.mpr ⟨F, env, r, env', m, e, fun vs H1 F1 x1 o1 t1 r1 => ?_⟩
    obtain ⟨hl, k⟩ := k vs H1 F1 x1 o1 t1 r1
    match vs, hl with
    | [v, w, u], _ => exact ⟨v, w, u, rfl, k H1 Stp.refl⟩
/-- by a pair that is laid -/
theorem s_parG {es vs : List Expr} {is : List Nat} {k k2 : Nat} {p pt2 : Pos} {f : En → Res (List Ag)} (hc : X.calm = true) (hN : X.N.Nodup) (h : NmsOk X es is) (hz : is.length ≤ 1000) (ha : PA X vs (tL f)) (hs : swapsWithSole [.Tuple es k p] (.Tuple vs k2 pt2) pos.line X.env = pure false) (hw : swappedStores [.Tuple es k p] (.Tuple vs k2 pt2) X.env = pure none) :
    PS X (.Assign [.Tuple es k p] (.Tuple vs k2 pt2) pos) (tS fun env => (f env).bind fun ps e1 => (opt (asgPar is ps e1) e1).bind fun e2 _ => .ok .nx e2) :=
  psI (ps_asg (pe_tup ha) (pg_it hc hN h) hs hw rfl) fun D σ H q => by
    obtain ⟨F, env, r, env', m, e, k⟩ := tL_iff.mp (par_k q)
    refine tL_iff.mpr ⟨F, env, r, env', m, e, fun vs H1 F1 x1 o1 t1 r1 => ?_⟩
    obtain ⟨hl, k⟩ := k vs H1 F1 x1 o1 t1 r1
    refine ⟨by rw [← hl, sizeLine_eq]; omega, fun p hp => .inl ⟨p, vs, rfl, sqT upd_same, hl.symm, gNms_ok hl (k _ (Stp.new hp))⟩⟩

/-! ### a list or dict is written -/
theorem chg_k {F : AS} {env e1 : En} {σ : Sg} {H H1 : Hp} {i : Nat} {g : PV → Option PV} {e2 : En} (x : Xs env σ H e1 H1) (m : Mt F e1 σ H1) (h : chg i e1 g = some e2) {D : Ends} (k : EndOk D F env σ H .nx e2) :
    ∃ p q a, σ[i]? = some (some (.ref a)) ∧ g p = some q ∧ Own (Av F e1 σ) H1 p a ∧ ∀ o u, H1 a = some u → ((∀ vs, u ≠ .tup vs) ∧ ∀ o w, u ≠ .frz o w) → Own (Av F e1 σ) (upd H1 a o) q a → D.nx σ (upd H1 a o) := by
  obtain ⟨p, f, q, h1, hf, h2, rfl⟩ := chg_ok h
  obtain ⟨a, ha, nF, o⟩ := m.ow i p f h1 hf
  refine ⟨p, q, a, ha, h2, o, fun o u hu n ow => ?_⟩
  obtain ⟨m2, x2⟩ := m.put h1 hf ha hu n ow
  exact k σ _ ((x.trans x2).ss m2)
/-- its own address, as one of those avoided -/
theorem own_addr {F : AS} {e1 : En} {σ : Sg} {i : Nat} {g : PV → Option PV} {e2 : En} {a : Addr} (h : chg i e1 g = some e2) (ha : σ[i]? = some (some (.ref a))) : Av F e1 σ a := by
  obtain ⟨p, f, q, h1, hf, h2, rfl⟩ := chg_ok h
  exact .inr ⟨i, p, f, h1, hf, ha⟩
theorem lst_wr {vs : List V} : (∀ ws, HO.lst vs ≠ .tup ws) ∧ ∀ o w, HO.lst vs ≠ .frz o w := ⟨fun _ e => by injection e, fun _ _ e => by injection e⟩
theorem isLst_ok {i : Nat} {env : En} (h : isLst (rdSl i env) = true) : ∃ xs, rdSl i env = some (.lst xs) := by
  unfold isLst at h
  split at h
  · rename_i xs e
    exact ⟨xs, e⟩
  · cases h
theorem s_app {e : Expr} {i : Nat} {f : En → Res PB} (h : PE X e (tBM X.K "list" rAppend (tVar i) (tCons (tE f) tNil))) (hs : swapsWith e none pos.line X.env = pure false) :
    PS X (.Expr e pos) (tS fun env => if isLst (rdSl i env) then (f env).bind fun x e1 => (opt (chg i e1 fun p => appF p x.1) e1).bind fun e2 _ => .ok .nx e2 else .bad) := psI (ps_expr h hs) fun D σ H q => by
  obtain ⟨F, env, w, env', m, e, k⟩ := tS_iff.mp q
  split at e
  · rename_i hi
    obtain ⟨xs, hi⟩ := isLst_ok hi
    obtain ⟨x, e1, h1, e⟩ := bind_ok e
    obtain ⟨e2, e3, h2, h3⟩ := bind_ok e
    obtain ⟨h2', rfl⟩ := opt_ok h2
    cases h3
    obtain ⟨v0, hv0, rb⟩ := m.slot hi
    obtain ⟨a0, vs0, rfl, d, _, _⟩ := rb.lst
    refine ⟨_, hv0, .inl ⟨rfl, vs0, sqL d⟩, tE_iff.mpr ⟨F, env, x, e3, m, h1, fun v H1 x1 rv => ?_⟩⟩
    obtain ⟨m1, r1⟩ := rv.val
    obtain ⟨p, q, a, ha, hq, ow, fin⟩ := chg_k x1 m1 h2' k
    rw [hv0] at ha
    cases ha
    have hq : appF p x.1 = some q := hq
    cases p with
    | lst ys =>
      have hq : (if decide (ys.length < sizeLine) then some (PV.lst (ys ++ [x.1])) else none) = some q := hq
      split at hq
      · rename_i hz
        cases hq
        obtain ⟨vs, hu, z, t⟩ := ow
        have hz' : ys.length < sizeLine := of_decide_eq_true hz
        rw [t.len] at hz'
        refine ⟨_, vs, v, rfl, rfl, hu, hz', fin _ _ hu lst_wr ⟨_, upd_same, by rw [List.length_append]; simp; omega, ?_⟩⟩
        have s := Stp.wr (o := .lst (vs ++ [v])) hu lst_wr
        exact RpL.stp s (fun b e => by subst e; exact own_addr h2' hv0) (fun b z => .inl z) _ _ (t.app (.cons r1 .nil))
      · cases hq
    | _ => cases hq
  · cases e
theorem s_ext {e : Expr} {i : Nat} {f : En → Res Ag} (h : PE X e (tBM X.K "list" rExtend (tVar i) (tCons (tO f) tNil))) (hs : swapsWith e none pos.line X.env = pure false) :
    PS X (.Expr e pos) (tS fun env => if isLst (rdSl i env) then (f env).bind fun y e1 => match y.rd e1 with
      | some x => (opt (chg i e1 fun p => extF p x) e1).bind fun e2 _ => .ok .nx e2
      | none => .bad
    else .bad) := psI (ps_expr h hs) fun D σ H q => by
  obtain ⟨F, env, w, env', m, e, k⟩ := tS_iff.mp q
  split at e
  · rename_i hi
    obtain ⟨xs, hi⟩ := isLst_ok hi
    obtain ⟨y, e1, h1, e⟩ := bind_ok e
    split at e
    · rename_i x hx
      obtain ⟨e2, e3, h2, h3⟩ := bind_ok e
      obtain ⟨h2', rfl⟩ := opt_ok h2
      cases h3
      obtain ⟨v0, hv0, rb⟩ := m.slot hi
      obtain ⟨a0, vs0, rfl, d, _, _⟩ := rb.lst
      refine ⟨_, hv0, .inl ⟨rfl, vs0, sqL d⟩, tO_iff.mpr ⟨F, env, y, e3, m, h1, fun v H1 F1 x1 o1 _ r1 => ?_⟩⟩
      have r2 := r1.rd o1.mt hx
      have k' : EndOk D F1 env σ H .nx env' := fun σ' H' s => k σ' H' (s.weak o1.up)
      obtain ⟨p, q, a, ha, hq, ow, fin⟩ := chg_k x1 o1.mt h2' k'
      rw [hv0] at ha
      cases ha
      have hq : extF p x = some q := hq
      unfold extF at hq
      split at hq
      · rename_i xs ys
        split at hq
        · rename_i hz
          cases hq
          obtain ⟨vs, hu, z, t⟩ := ow
          obtain ⟨b, ws, rfl, hb, z2, t2⟩ := r2.lstM
          have hz' := szl_le hz
          rw [t.len, t2.len] at hz'
          refine ⟨_, b, vs, ws, rfl, rfl, hu, hb, hz', fin _ _ hu lst_wr ⟨_, upd_same, by rw [List.length_append]; omega, ?_⟩⟩
          have s := Stp.wr (o := .lst (vs ++ ws)) hu lst_wr
          exact RpL.stp s (fun b e => by subst e; exact own_addr h2' hv0) (fun b z => .inl z) _ _ (t.app t2)
        · cases hq
      · cases hq
    · cases e
  · cases e

/-! ### i += e -/
def ipF (op : Operator) : TIp := fun x y H Q => ∃ i j z, x = .int i ∧ y = .int j ∧ augF op i j = some z ∧ Q (.int z) H
theorem mulOk_fits {i j : Int} (h : mulOk i j = true) : IntMulOk i j := by
  simp only [mulOk, Bool.or_eq_true, decide_eq_true_eq] at h
  rcases h with (h | h) | h
  · exact IntMulOk.of_left (intBits_le_64 (by omega) (by omega))
  · exact IntMulOk.of_right (intBits_le_64 (by omega) (by omega))
  · exact CMulW.ok h
theorem ip_all (op : Operator) : PIp X op (ipF op) := by
  intro pins s σ H x y v u Q I r1 r2 h
  obtain ⟨i, j, z, rfl, rfl, hz, q⟩ := h
  obtain ⟨t, rfl⟩ := r1
  obtain ⟨t', rfl⟩ := r2
  unfold augF at hz
  split at hz
  · cases hz
    exact iadd_int ⟨.int _, H, I.tok _, ⟨_, rfl⟩, q⟩
  · cases hz
    exact isub_int ⟨.int _, H, I.tok _, ⟨_, rfl⟩, q⟩
  · split at hz
    · rename_i hm
      cases hz
      exact imul_int ⟨.int _, H, I.tok _, ⟨_, rfl⟩, q⟩ (mulOk_fits hm)
    · cases hz
  · cases hz
theorem s_aug {op : Operator} {e : Expr} {i : Nat} {x : Str} {pos' : Pos} {f : En → Res Ag} (hN : X.N.Nodup) (hi : X.N[i]? = some x) (hx : X.env.scope.names.lookup x = some .local) (he : PE X e (tO f)) :
    PS X (.AugAssign (.Name x pos') op e pos) (tS fun env => match rdSl i env with
    | some (.int a) => (f env).bind fun y e1 => match y.rd e1 with
      | some (.int b) => (opt (augF op a b) e1).bind fun z e2 => (opt (asgSl i (.int z) false e2) e2).bind fun e3 _ => .ok .nx e3
      | _ => .bad
    | _ => .bad) := psI (ps_aug hN hi (.inl hx) he (ip_all op) (.inr hx)) fun D σ H q => by
  obtain ⟨F, env, w, env', m, e, k⟩ := tS_iff.mp q
  split at e
  · rename_i a ha
    obtain ⟨y, e1, h1, e⟩ := bind_ok e
    split at e
    · rename_i b hb
      obtain ⟨z, e2, h2, e5⟩ := bind_ok e
      obtain ⟨h2', rfl⟩ := opt_ok h2
      obtain ⟨e4, e3, h3, h4⟩ := bind_ok e5
      obtain ⟨h3', rfl⟩ := opt_ok h3
      cases h4
      obtain ⟨v0, hv0, rb⟩ := m.slot ha
      have := rb.int
      subst this
      refine ⟨_, hv0, tO_iff.mpr ⟨F, env, y, e3, m, h1, fun v H1 F1 x1 o1 _ r1 => ?_⟩⟩
      have := (r1.rd o1.mt hb).int
      subst this
      refine ⟨a, b, z, rfl, rfl, h2', k _ H1 ?_⟩
      have t : Stb F e3 σ H1 (.int z) false (.int z) := by
        unfold Stb
        rw [if_neg (by decide)]
        exact ⟨o1.mt.weak o1.up, .int _⟩
      exact SS.asg x1 (t.asg h3') fun b z => by cases z.1
    · cases e
  · cases e
end
end Dk

set_option Elab.async false
set_option linter.all false
set_option autoImplicit false
set_option maxRecDepth 100000
set_option maxHeartbeats 1000000
/-! Dk14: stores to items; which way a row is stored; reversed slices. -/
namespace Dk
open PySem PySem.Spec PyProof.Rows L2

theorem sw3 {x y z : Str} {px py pz pt : Pos} {a b c : Expr} {kt k2 : Nat} {pt2 : Pos} {env : Env} (hk : env.scope.kind = .function) (ha : unst a = true) (hb : unst b = true) (hc' : unst c = true) (hx : env.scope.names.lookup x = some .local) (hy : env.scope.names.lookup y = some .local) (hz : env.scope.names.lookup z = some .local)
    (hl : (py.line == px.line) = true) (hl2 : (pz.line == px.line) = true) (h1 : (x == y) = false) (h2 : (x == z) = false) (h3 : (y == z) = false)
    (hf : [a, b, c].all (foldedForSure 8) = false) (hc : [a, b, c].all (constantsAlone 8) = false) : swappedStores [.Tuple [.Name x px, .Name y py, .Name z pz] kt pt] (.Tuple [a, b, c] k2 pt2) env = pure (some [x, y, z]) := by
  have kx : env.kindOf x = some .local := hx
  have ky : env.kindOf y = some .local := hy
  have kz : env.kindOf z = some .local := hz
  have hbk : env.blockKind = .function := by unfold Env.blockKind; rw [hk]; rfl
  have flip : ∀ {u v : Str}, (u == v) = false → (v == u) = false ∧ u ≠ v ∧ v ≠ u := fun {u v} h => by
    rw [beq_eq_false_iff_ne] at h ⊢
    exact ⟨Ne.symm h, h, Ne.symm h⟩
  obtain ⟨g1, g2, g2'⟩ := flip h1
  obtain ⟨g3, g4, g4'⟩ := flip h2
  obtain ⟨g5, g6, g6'⟩ := flip h3
  unfold swappedStores
  simp only [hbk, hf, hc, kx, ky, kz, List.length, List.filterMap, List.head?, Option.map, Option.getD, Expr.pos, hl, hl2]
  simp [List.eraseDups, List.eraseDupsBy, List.eraseDupsBy.loop, h1, h2, h3, g1, g2, g3, g4, g5, g6, g2', g4', g6', hl, hl2]
  intro h
  exfalso
  rcases h with h | h | h
  · cases a <;> first | exact absurd ha Bool.false_ne_true | exact absurd h Bool.false_ne_true
  · cases b <;> first | exact absurd hb Bool.false_ne_true | exact absurd h Bool.false_ne_true
  · cases c <;> first | exact absurd hc' Bool.false_ne_true | exact absurd h Bool.false_ne_true
def notTup : Expr → Bool
  | .Tuple _ _ _ => false
  | _ => true
theorem swN_val {ts : List Expr} {e : Expr} {env : Env} (h : notTup e = true) : swappedStores ts e env = pure none := by
  unfold swappedStores
  cases e <;> first | exact absurd h Bool.false_ne_true | (cases ts <;> first | rfl | skip)
  all_goals (rename_i a l; cases a <;> first | rfl | (cases l <;> rfl))
/-- too many, or all known ahead -/
theorem swN_tup {es vs : List Expr} {k k2 : Nat} {p p2 : Pos} {env : Env} (h : (!(es.length == 2 || es.length == 3) || vs.length != es.length) = true) : swappedStores [.Tuple es k p] (.Tuple vs k2 p2) env = pure none := by
  unfold swappedStores
  simp only [h, Bool.true_or]
  rfl
theorem swN_const {es vs : List Expr} {k k2 : Nat} {p p2 : Pos} {env : Env} (h : vs.all (foldedForSure 8) = true) : swappedStores [.Tuple es k p] (.Tuple vs k2 p2) env = pure none := by
  unfold swappedStores
  simp only [h]
  split
  · rfl
  · split
    · rfl
    · split
      · rfl
      · rfl
theorem sw_sub {e o i : Expr} {p : Pos} {l : Nat} {env : Env} : swapsWith e (some (.Subscript o i p)) l env = pure false := by
  unfold swapsWith
  cases e <;> rfl
theorem swS_tup {es : List Expr} {k : Nat} {p : Pos} {e : Expr} {l : Nat} {env : Env} : swapsWithSole [.Tuple es k p] e l env = pure false := by
  show swapsWith e (some (.Tuple es k p)) l env = pure false
  unfold swapsWith
  cases e <;> rfl
def notComp : Expr → Bool
  | .ListComp _ _ _ _ => false
  | .SetComp _ _ _ _ => false
  | .DictComp _ _ _ _ _ => false
  | _ => true
theorem sw_not {e : Expr} {t : Option Expr} {l : Nat} {env : Env} (h : notComp e = true) : swapsWith e t l env = pure false := by
  unfold swapsWith
  cases e <;> first | exact absurd h Bool.false_ne_true | rfl
section
variable {X : Cx} {pos : Pos}
theorem set_any (hu : X.A.units + 1 < cLine) : PSet X (fun o i v H Q => rSetL o i v H Q ∨ rSetD o i v H Q) := fun pins s σ H o i v ov iv u Q I ro ri rv h => h.elim (fun h => set_list pins s σ H o i v ov iv u Q I ro ri rv h) fun h => set_dict hu pins s σ H o i v ov iv u Q I ro ri rv h
theorem dk_wr {vs : List (Key × V)} : (∀ ws, HO.dK vs ≠ .tup ws) ∧ ∀ o w, HO.dK vs ≠ .frz o w := ⟨fun _ e => by injection e, fun _ _ e => by injection e⟩
theorem dt_wr {vs : List (List Key × V)} : (∀ ws, HO.dT vs ≠ .tup ws) ∧ ∀ o w, HO.dT vs ≠ .frz o w := ⟨fun _ e => by injection e, fun _ _ e => by injection e⟩
theorem RpK.any {A : AS} {H : Hp} {k : Ky} : ∀ {kvs : List (Ky × PV)} {es : List (Key × V)}, RpK A H kvs es → (es.any fun kv => decide (kv.1 = kyK k)) = (kvs.any fun kv => decide (kv.1 = k))
  | [], _, h => by cases h; rfl
  | (q, p) :: r, _, h => by
    cases h with
    | @cons _ _ _ v vs a b =>
      rw [List.any_cons, List.any_cons, RpK.any b]
      have : decide (kyK q = kyK k) = decide (q = k) := by
        by_cases e : q = k
        · subst e; simp
        · have ne : ¬ kyK q = kyK k := fun z => e (kyK_inj z)
          simp [e, ne]
      rw [this]
theorem RpK.map {A : AS} {H : Hp} {k : Ky} {x : PV} {v : V} (r : Rp A H x v) : ∀ {kvs : List (Ky × PV)} {es : List (Key × V)}, RpK A H kvs es → RpK A H (kvs.map fun kv => if kv.1 = k then (kv.1, x) else kv) (es.map fun kv => if kv.1 = kyK k then (kv.1, v) else kv)
  | [], _, h => by cases h; exact .nil
  | (q, p) :: t, _, h => by
    cases h with
    | @cons _ _ _ w vs a b =>
      rw [List.map_cons, List.map_cons]
      by_cases e : q = k
      · subst e
        rw [if_pos rfl, if_pos rfl]
        exact .cons r (RpK.map r b)
      · have ne : ¬ kyK q = kyK k := fun z => e (kyK_inj z)
        rw [if_neg e, if_neg ne]
        exact .cons a (RpK.map r b)
theorem RpK.app {A : AS} {H : Hp} : ∀ {ps qs : List (Ky × PV)} {vs ws : List (Key × V)}, RpK A H ps vs → RpK A H qs ws → RpK A H (ps ++ qs) (vs ++ ws)
  | _, _, _, _, .nil, h => h
  | _, _, _, _, .cons a b, h => .cons a (RpK.app b h)
theorem RpK.put {A : AS} {H : Hp} {k : Ky} {x : PV} {v : V} (r : Rp A H x v) {kvs : List (Ky × PV)} {es : List (Key × V)} (h : RpK A H kvs es) : RpK A H (Dk.putK kvs k x) (L2.putK es (kyK k) v) := by
  unfold Dk.putK L2.putK
  rw [h.any]
  split
  · exact h.map r
  · exact h.app (.cons r .nil)
theorem RpT.any {A : AS} {H : Hp} {k : List Ky} : ∀ {kvs : List (List Ky × PV)} {es : List (List Key × V)}, RpT A H kvs es → (es.any fun kv => decide (kv.1 = k.map kyK)) = (kvs.any fun kv => decide (kv.1 = k))
  | [], _, h => by cases h; rfl
  | (q, p) :: r, _, h => by
    cases h with
    | @cons _ _ _ v vs a b =>
      rw [List.any_cons, List.any_cons, RpT.any b]
      have : decide (q.map kyK = k.map kyK) = decide (q = k) := by
        by_cases e : q = k
        · subst e; simp
        · have ne : ¬ q.map kyK = k.map kyK := fun z => e (keysK_inj z)
          simp [e, ne]
      rw [this]
theorem RpT.map {A : AS} {H : Hp} {k : List Ky} {x : PV} {v : V} (r : Rp A H x v) : ∀ {kvs : List (List Ky × PV)} {es : List (List Key × V)}, RpT A H kvs es → RpT A H (kvs.map fun kv => if kv.1 = k then (kv.1, x) else kv) (es.map fun kv => if kv.1 = k.map kyK then (kv.1, v) else kv)
  | [], _, h => by cases h; exact .nil
  | (q, p) :: t, _, h => by
    cases h with
    | @cons _ _ _ w vs a b =>
      rw [List.map_cons, List.map_cons]
      by_cases e : q = k
      · subst e
        rw [if_pos rfl, if_pos rfl]
        exact .cons r (RpT.map r b)
      · have ne : ¬ q.map kyK = k.map kyK := fun z => e (keysK_inj z)
        rw [if_neg e, if_neg ne]
        exact .cons a (RpT.map r b)
theorem RpT.app {A : AS} {H : Hp} : ∀ {ps qs : List (List Ky × PV)} {vs ws : List (List Key × V)}, RpT A H ps vs → RpT A H qs ws → RpT A H (ps ++ qs) (vs ++ ws)
  | _, _, _, _, .nil, h => h
  | _, _, _, _, .cons a b, h => .cons a (RpT.app b h)
theorem RpT.put {A : AS} {H : Hp} {k : List Ky} {x : PV} {v : V} (r : Rp A H x v) {kvs : List (List Ky × PV)} {es : List (List Key × V)} (h : RpT A H kvs es) : RpT A H (Dk.putK kvs k x) (L2.putK es (k.map kyK) v) := by
  unfold Dk.putK L2.putK
  rw [h.any]
  split
  · exact h.map r
  · exact h.app (.cons r .nil)
theorem putK_len {κ V' : Type} [DecidableEq κ] (kvs : List (κ × V)) (k : κ) (v : V) : (L2.putK kvs k v).length ≤ kvs.length + 1 := by
  unfold L2.putK
  split
  · rw [List.length_map]; omega
  · rw [List.length_append]; exact Nat.le_refl _
theorem s_put {e ix : Expr} {x : Str} {px p : Pos} {i : Nat} {f : En → Res PB} {g : En → Res Ag} (hu : X.A.units + 1 < cLine) (he : PE X e (tE f)) (ho : PE X (.Name x px) (tVar i)) (hi : PE X ix (tO g))
    (ha : ∀ v, assign (.Subscript (.Name x px) ix p) X.env v = (do
      let ov ← holding [v] (eval (.Name x px) X.env)
      let iv ← holding [v, ov] (eval ix X.env)
      standAt p
      holding [v, ov, iv] (setItem ov iv v)
      release [v, ov, iv] [])) : PS X (.Assign [.Subscript (.Name x px) ix p] e pos) (tS fun env => (f env).bind fun x e1 => match rdSl i e1 with
    | some _ => (g e1).bind fun y e2 => match y.rd e2 with
      | some q => (opt (chg i e2 fun p => setF p q x.1) e2).bind fun e3 _ => .ok .nx e3
      | none => .bad
    | none => .bad) := psI (ps_asg he (pg_sub ho hi (set_any hu) ha) (show swapsWith e (some (.Subscript (.Name x px) ix p)) pos.line X.env = pure false from sw_sub) (by unfold swappedStores; cases e <;> rfl) rfl) fun D σ H q => by
  obtain ⟨F, env, w, env', m, e, k⟩ := tS_iff.mp q
  obtain ⟨x, e1, h1, e⟩ := bind_ok e
  split at e
  · rename_i p0 hp0
    obtain ⟨y, e2, h2, e⟩ := bind_ok e
    split at e
    · rename_i q hq
      obtain ⟨e3, e4, h3, h4⟩ := bind_ok e
      obtain ⟨h3', rfl⟩ := opt_ok h3
      cases h4
      refine tE_iff.mpr ⟨F, env, x, e1, m, h1, fun v H1 x1 rv => ?_⟩
      obtain ⟨m1, r1⟩ := rv.val
      obtain ⟨v0, hv0, _⟩ := m1.slot hp0
      refine ⟨v0, hv0, tO_iff.mpr ⟨F, e1, y, e4, m1, h2, fun u H2 F2 x2 o2 _ r2 => ?_⟩⟩
      have rb := r2.rd o2.mt hq
      have k' : EndOk D F2 env σ H .nx env' := fun σ' H' s => k σ' H' (s.weak o2.up)
      obtain ⟨p, q', a, hA, hs, ow, fin⟩ := chg_k (x1.trans x2) o2.mt h3' k'
      rw [hv0] at hA
      cases hA
      have hAv : Av F2 e4 σ a := own_addr h3' hv0
      -- the value as it stands behind the index
      have r3 : Rp (Av F2 e4 σ) H2 x.1 v := Rp.stp x2.stp (fun a z => .inr z) (fun b z => by
        rcases z with z | z
        · rcases o2.new b z with z | z | z
          · exact .inl (.inl z)
          · exact .inl (.inr z)
          · exact .inr z
        · exact .inl (.inr (x2.sb.sub b z))) _ _ r1
      have hs : setF p q x.1 = some q' := hs
      unfold setF at hs
      split at hs
      · rename_i xs j _
        obtain ⟨l, h5, h6⟩ := Option.map_eq_some_iff.mp hs
        subst h6
        obtain ⟨vs, hu', z, t⟩ := ow
        have hl : xs.length = vs.length := t.len
        refine .inl ⟨a, vs, j, l, rfl, rb.int, hu', by rw [← hl]; exact h5, fin _ _ hu' lst_wr ⟨_, upd_same, by rw [List.length_set]; exact z, ?_⟩⟩
        exact RpL.stp (Stp.wr hu' lst_wr) (fun b e => by subst e; exact hAv) (fun b z => .inl z) _ _ (t.set r3 l)
      · obtain ⟨ky, h5, h6⟩ := Option.bind_eq_some_iff.mp hs
        split at h6
        · rename_i kvs _ hz
          cases h6
          obtain ⟨es, hu', z, t⟩ := ow
          have hz' := szl_le hz
          rw [t.len] at hz'
          have e1 := rb.key h5
          subst e1
          refine .inr ⟨a, _, rfl, DPut.k hu' (by omega), fin _ _ hu' dk_wr ⟨_, upd_same, Nat.le_trans (putK_len (V' := V) es _ v) hz', ?_⟩⟩
          exact RpK.stp (Stp.wr hu' dk_wr) (fun b e => by subst e; exact hAv) (fun b z => .inl z) _ _ (t.put r3)
        · cases h6
      · obtain ⟨ky, h5, h6⟩ := Option.bind_eq_some_iff.mp hs
        split at h6
        · rename_i kvs _ hz
          cases h6
          obtain ⟨es, hu', z, t⟩ := ow
          have hz' := szl_le hz
          rw [t.len] at hz'
          obtain ⟨b, us, rfl, d, z2, t2⟩ := rb.tup
          have e1 := t2.keys h5
          subst e1
          refine .inr ⟨a, _, rfl, DPut.t hu' d (by omega), fin _ _ hu' dt_wr ⟨_, upd_same, Nat.le_trans (putK_len (V' := V) es _ v) hz', ?_⟩⟩
          exact RpT.stp (Stp.wr hu' dt_wr) (fun b e => by subst e; exact hAv) (fun b z => .inl z) _ _ (t.put r3)
        · cases h6
      · cases hs
    · cases e
  · cases e
end
end Dk

set_option Elab.async false
set_option linter.all false
set_option autoImplicit false
set_option maxRecDepth 100000
set_option maxHeartbeats 1000000
/-! Dk15: list comprehensions. -/
namespace Dk
open PySem PySem.Spec PyProof.Rows L2

/-! ### slots forgotten and put back -/
theorem Mt.wipe1 {F : AS} {env : En} {σ : Sg} {H : Hp} (m : Mt F env σ H) (i : Nat) : Mt F (env.set i none) (σ.set i none) H ∧ ∀ b, Ow (env.set i none) (σ.set i none) b → Ow env σ b := by
  have ne : ∀ {j : Nat} {q : PV} {g : Fl}, (env.set i none)[j]? = some (some (q, g)) → j ≠ i ∧ env[j]? = some (some (q, g)) ∧ ∀ {v : Option V}, σ[j]? = some v → (σ.set i none)[j]? = some v := fun {j q g} e => by
    by_cases z : j = i
    · subst z
      by_cases hl : j < env.length
      · rw [List.getElem?_set_self hl] at e; cases e
      · rw [List.getElem?_eq_none (by rw [List.length_set]; omega)] at e; cases e
    · rw [get_set_ne z] at e
      exact ⟨z, e, fun h => by rw [List.getElem?_set_ne (Ne.symm z)]; exact h⟩
  have back : ∀ {j : Nat} {v : Option V}, j ≠ i → (σ.set i none)[j]? = some v → σ[j]? = some v := fun z h => by
    rw [List.getElem?_set_ne (Ne.symm z)] at h
    exact h
  have ow : ∀ b, Ow (env.set i none) (σ.set i none) b → Ow env σ b := fun b ⟨j, q, g, e, hg, e2⟩ => by
    obtain ⟨z, e1, _⟩ := ne e
    exact ⟨j, q, g, e1, hg, back z e2⟩
  have k : ∀ b, Av F (env.set i none) (σ.set i none) b → Av F env σ b ∨ H b = none := fun b z => .inl (z.imp id (ow b))
  refine ⟨⟨by rw [List.length_set, List.length_set]; exact m.len, m.al, fun j q e => ?_, fun j q g e hg => ?_, fun j l q g q' g' b e hg e' hg' e2 e3 => ?_⟩, ow⟩
  · obtain ⟨z, e1, h⟩ := ne e
    obtain ⟨v, e2, r⟩ := m.fz j q e1
    exact ⟨v, h e2, r.mono k⟩
  · obtain ⟨z, e1, h⟩ := ne e
    obtain ⟨b, e2, n, o⟩ := m.ow j q g e1 hg
    exact ⟨b, h e2, n, o.mono k⟩
  · obtain ⟨z, e1, _⟩ := ne e
    obtain ⟨z', e1', _⟩ := ne e'
    exact m.inj j l q g q' g' b e1 hg e1' hg' (back z e2) (back z' e3)
theorem Mt.wipe {F : AS} {env : En} {σ : Sg} {H : Hp} (m : Mt F env σ H) : ∀ vs : List Nat, Mt F (wipeE env vs) (L2.wipe σ vs) H ∧ ∀ b, Ow (wipeE env vs) (L2.wipe σ vs) b → Ow env σ b
  | [] => ⟨m, fun _ z => z⟩
  | v :: vs => by
    obtain ⟨m1, k1⟩ := Mt.wipe m vs
    obtain ⟨m2, k2⟩ := m1.wipe1 v
    exact ⟨m2, fun b z => k1 b (k2 b z)⟩
theorem wipe_idem (σ : Sg) (vs : List Nat) : L2.wipe (L2.wipe σ vs) vs = L2.wipe σ vs := by
  have gen : ∀ (ws us : List Nat), (∀ v ∈ ws, v ∈ us) → L2.wipe (L2.wipe σ us) ws = L2.wipe σ us := fun ws us => by
    induction ws with
    | nil => intro _; rfl
    | cons w ws ih =>
      intro h
      show (L2.wipe (L2.wipe σ us) ws).set w none = _
      rw [ih fun v hv => h v (List.mem_cons_of_mem _ hv)]
      have hw := h w List.mem_cons_self
      clear h ih
      induction us with
      | nil => cases hw
      | cons u us ihu =>
        show ((L2.wipe σ us).set u none).set w none = (L2.wipe σ us).set u none
        by_cases e : u = w
        · subst e; rw [List.set_set]
        · rcases List.mem_cons.mp hw with hw | hw
          · exact absurd hw.symm e
          · rw [List.set_comm _ _ e, ihu hw]
  exact gen vs vs fun _ h => h
theorem wipeE_none {env : En} : ∀ {vs : List Nat} {i : Nat}, i ∈ vs → ∀ {p : PV} {g : Fl}, (wipeE env vs)[i]? ≠ some (some (p, g))
  | v :: vs, i, h, p, g => fun e => by
    have e : ((wipeE env vs).set v none)[i]? = some (some (p, g)) := e
    by_cases z : i = v
    · subst z
      by_cases hl : i < (wipeE env vs).length
      · rw [List.getElem?_set_self hl] at e; cases e
      · rw [List.getElem?_eq_none (by rw [List.length_set]; omega)] at e; cases e
    · rw [get_set_ne z] at e
      rcases List.mem_cons.mp h with h | h
      · exact z h
      · exact wipeE_none h e
theorem wipeE_out {env : En} : ∀ {vs : List Nat} {i : Nat}, i ∉ vs → (wipeE env vs)[i]? = env[i]?
  | [], _, _ => rfl
  | v :: vs, i, h => by
    have z : i ≠ v := fun z => h (by subst z; exact List.mem_cons_self)
    show ((wipeE env vs).set v none)[i]? = _
    rw [get_set_ne z]
    exact wipeE_out fun w => h (List.mem_cons_of_mem _ w)
theorem unwipe_out {e1 e2 : En} : ∀ {vs : List Nat} {i : Nat}, i ∉ vs → (unwipe e1 e2 vs)[i]? = e2[i]?
  | [], _, _ => rfl
  | v :: vs, i, h => by
    have z : i ≠ v := fun z => h (by subst z; exact List.mem_cons_self)
    show ((unwipe e1 e2 vs).set v _)[i]? = _
    rw [get_set_ne z]
    exact unwipe_out fun w => h (List.mem_cons_of_mem _ w)
theorem unwipe_len {e1 e2 : En} : ∀ {vs : List Nat}, (unwipe e1 e2 vs).length = e2.length
  | [] => rfl
  | v :: vs => by
    show ((unwipe e1 e2 vs).set v _).length = _
    rw [List.length_set]
    exact unwipe_len
theorem unwipe_in {e1 e2 : En} : ∀ {vs : List Nat} {i : Nat} {s : Sl}, i ∈ vs → e1[i]? = some s → i < e2.length → (unwipe e1 e2 vs)[i]? = some s
  | v :: vs, i, s, h, hs, hl => by
    show ((unwipe e1 e2 vs).set v (match e1[v]? with | some s => s | none => none))[i]? = some s
    by_cases z : i = v
    · subst z
      rw [List.getElem?_set_self (by rw [unwipe_len]; exact hl), hs]
    · rw [get_set_ne z]
      rcases List.mem_cons.mp h with h | h
      · exact absurd h z
      · exact unwipe_in h hs hl
theorem wipeOk_get {env : En} {vs : List Nat} {i : Nat} (h : wipeOk env vs = true) (hi : i ∈ vs) : env[i]? = some none ∨ ∃ p, env[i]? = some (some (p, .fz)) := by
  have := List.all_eq_true.mp h i hi
  split at this
  · rename_i e; exact .inl e
  · rename_i p e; exact .inr ⟨p, e⟩
  · cases this
theorem mem_or (i : Nat) (vs : List Nat) : i ∈ vs ∨ i ∉ vs := by
  by_cases h : i ∈ vs
  · exact .inl h
  · exact .inr h
/-- the block's end: its own names as they were -/
theorem Mt.unwipe {F F1 : AS} {e1 e2 : En} {σ : Sg} {H1 H : Hp} {vs : List Nat} (m1 : Mt F e1 σ H1) (m2 : Mt F1 e2 (L2.wipe σ vs) H) (s : Stp (Ow e1 σ) H1 H) (up : ∀ a, F1 a → F a ∨ H1 a = none) (ow : ∀ a, Ow e2 (L2.wipe σ vs) a → Ow e1 σ a) (ok : wipeOk e1 vs = true) :
    Mt F1 (Dk.unwipe e1 e2 vs) σ H ∧ ∀ b, Ow (Dk.unwipe e1 e2 vs) σ b ↔ Ow e2 (L2.wipe σ vs) b := by
  have len : e1.length = e2.length := by
    have h1 := m1.len
    have h2 := m2.len
    rw [wipe_length] at h2
    omega
  have inn : ∀ {i : Nat} {p : PV} {g : Fl}, i ∈ vs → (Dk.unwipe e1 e2 vs)[i]? = some (some (p, g)) → g = .fz ∧ e1[i]? = some (some (p, .fz)) := fun {i p g} hi e => by
    rcases wipeOk_get ok hi with h | ⟨q, h⟩
    · rw [unwipe_in hi h (by rw [← len]; exact (List.getElem?_eq_some_iff.mp h).1)] at e
      cases e
    · rw [unwipe_in hi h (by rw [← len]; exact (List.getElem?_eq_some_iff.mp h).1)] at e
      cases e
      exact ⟨rfl, h⟩
  have e2n : ∀ {i : Nat} {p : PV} {g : Fl}, i ∈ vs → e2[i]? = some (some (p, g)) → g ≠ .fz → False := fun {i p g} hi e hg => by
    obtain ⟨a, h, _⟩ := m2.ow i p g e hg
    exact (wipe_some h).2 hi
  have owi : ∀ b, Ow (Dk.unwipe e1 e2 vs) σ b ↔ Ow e2 (L2.wipe σ vs) b := fun b => by
    constructor
    · rintro ⟨i, p, g, e, hg, h⟩
      rcases mem_or i vs with hi | hi
      · exact absurd (inn hi e).1 hg
      · rw [unwipe_out hi] at e
        exact ⟨i, p, g, e, hg, by rw [wipe_out hi]; exact h⟩
    · rintro ⟨i, p, g, e, hg, h⟩
      obtain ⟨h1, hi⟩ := wipe_some h
      exact ⟨i, p, g, by rw [unwipe_out hi]; exact e, hg, h1⟩
  have k : ∀ b, Av F1 (Dk.unwipe e1 e2 vs) σ b → Av F1 e2 (L2.wipe σ vs) b ∨ H b = none := fun b z => .inl (z.imp id (owi b).mp)
  refine ⟨⟨by rw [unwipe_len]; have := m2.len; rw [wipe_length] at this; exact this, m2.al, fun i p e => ?_, fun i p g e hg => ?_, fun i j p g q g' b e hg e' hg' h h' => ?_⟩, owi⟩
  · rcases mem_or i vs with hi | hi
    · obtain ⟨_, h⟩ := inn hi e
      obtain ⟨v, h1, r⟩ := m1.fz i p h
      refine ⟨v, h1, Rp.stp s (fun a z => .inr z) (fun a z => ?_) _ _ r⟩
      rcases z with z | z
      · exact (up a z).imp .inl id
      · exact .inl (.inr (ow a ((owi a).mp z)))
    · rw [unwipe_out hi] at e
      obtain ⟨v, h1, r⟩ := m2.fz i p e
      rw [wipe_out hi] at h1
      exact ⟨v, h1, r.mono k⟩
  · rcases mem_or i vs with hi | hi
    · exact absurd (inn hi e).1 hg
    · rw [unwipe_out hi] at e
      obtain ⟨a, h1, n, o⟩ := m2.ow i p g e hg
      rw [wipe_out hi] at h1
      exact ⟨a, h1, n, o.mono k⟩
  · rcases mem_or i vs with hi | hi
    · exact absurd (inn hi e).1 hg
    · rcases mem_or j vs with hj | hj
      · exact absurd (inn hj e').1 hg'
      · rw [unwipe_out hi] at e
        rw [unwipe_out hj] at e'
        exact m2.inj i j p g q g' b e hg e' hg' (by rw [wipe_out hi]; exact h) (by rw [wipe_out hj]; exact h')

/-! ### a block's state: the new list stands at D -/
structure LS (F : AS) (e0 : En) (σ0 : Sg) (H0 : Hp) (D : Addr) (env : En) (σ : Sg) (H : Hp) (acc : List PV) : Prop where
  mt : Mt F env σ H
  hD : F D
  stp : Stp (fun a => Ow e0 σ0 a ∨ a = D) H0 H
  ow : ∀ a, Ow env σ a → Ow e0 σ0 a
  io : ∀ (i : Nat) (p : PV), e0[i]? = some (some (p, .io)) → ∃ q : PV, env[i]? = some (some (q, .io))
  acc : ∃ vs, H D = some (.lst vs) ∧ vs.length ≤ sizeLine ∧ RpL (Av F env σ) H acc vs
section
variable {F : AS} {e0 : En} {σ0 : Sg} {H0 : Hp} {D : Addr} {env : En} {σ : Sg} {H : Hp} {acc : List PV}
theorem LS.nO (s : LS F e0 σ0 H0 D env σ H acc) : ¬ Ow env σ D := fun ⟨i, p, g, e, hg, h⟩ => by
  obtain ⟨a, h1, n, _⟩ := s.mt.ow i p g e hg
  rw [h] at h1; cases h1
  exact n s.hD
theorem LS.xs {env' : En} {H' : Hp} (s : LS F e0 σ0 H0 D env σ H acc) (x : Xs env σ H env' H') (m : Mt F env' σ H') : LS F e0 σ0 H0 D env' σ H' acc := by
  obtain ⟨vs, h1, h2, h3⟩ := s.acc
  exact ⟨m, s.hD, s.stp.trans x.stp fun a z => .inl (.inl (s.ow a z)), fun a z => s.ow a (x.sb.sub a z), fun i p e => by
    obtain ⟨q, h⟩ := s.io i p e
    exact x.sb.io i q h, vs, x.stp.keep _ _ h1 s.nO, h2, RpL.move (F1 := F) h3 x fun a z => z⟩
theorem LS.as {env' : En} {σ' : Sg} (s : LS F e0 σ0 H0 D env σ H acc) (a : Asg F env σ H env' σ' (fun _ => False)) : LS F e0 σ0 H0 D env' σ' H acc := by
  obtain ⟨vs, h1, h2, h3⟩ := s.acc
  have k : ∀ b, Ow env' σ' b → Ow env σ b := fun b z => (a.ow b z).elim id False.elim
  exact ⟨a.mt, s.hD, s.stp, fun b z => s.ow b (k b z), fun i p e => by
    obtain ⟨q, h⟩ := s.io i p e
    exact ⟨q, (a.io i q h).2⟩, vs, h1, h2, h3.mono fun b z => .inl (z.imp id (k b))⟩
theorem LS.wipe {own : List Nat} (s : LS F e0 σ0 H0 D env σ H acc) (hn : ∀ i ∈ own, ∀ p, e0[i]? ≠ some (some (p, .io))) : LS F e0 σ0 H0 D (wipeE env own) (L2.wipe σ own) H acc := by
  obtain ⟨m, k⟩ := s.mt.wipe own
  obtain ⟨vs, h1, h2, h3⟩ := s.acc
  exact ⟨m, s.hD, s.stp, fun b z => s.ow b (k b z), fun i p e => by
    obtain ⟨q, h⟩ := s.io i p e
    refine ⟨q, ?_⟩
    rw [wipeE_out fun z => hn i z p e]
    exact h, vs, h1, h2, h3.mono fun b z => .inl (z.imp id (k b))⟩
theorem LS.push {p : PV} {v : V} {vs : List V} (s : LS F e0 σ0 H0 D env σ H acc) (hv : H D = some (.lst vs)) (hz : acc.length < sizeLine) (r : Rp (Av F env σ) H p v) : LS F e0 σ0 H0 D env σ (upd H D (.lst (vs ++ [v]))) (acc ++ [p]) := by
  obtain ⟨vs', h1, h2, h3⟩ := s.acc
  rw [hv] at h1; cases h1
  have w := Stp.wr (o := .lst (vs ++ [v])) hv lst_wr
  have m : Mt (fun b => F b ∨ False) env σ (upd H D (.lst (vs ++ [v]))) := s.mt.call w (fun a e => by subst e; exact s.hD) fun a z => z.elim
  rw [h3.len] at hz
  exact ⟨m.weak fun b z => .inl z, s.hD, s.stp.trans w fun a e => by subst e; exact .inl (.inr rfl), s.ow, s.io, _, upd_same, by rw [List.length_append]; simp; omega,
    RpL.stp w (fun a e => by subst e; exact .inl s.hD) (fun a z => .inl z) _ _ (h3.app (.cons r .nil))⟩
theorem LS.up {F' : AS} {env' : En} {H' : Hp} (s : LS F e0 σ0 H0 D env σ H acc) (x : Xs env σ H env' H') (o : Or F env σ H env' H' F') : LS F' e0 σ0 H0 D env' σ H' acc := by
  obtain ⟨vs, h1, h2, h3⟩ := s.acc
  exact ⟨o.mt, o.up D s.hD, s.stp.trans x.stp fun a z => .inl (.inl (s.ow a z)), fun a z => s.ow a (x.sb.sub a z), fun i p e => by
    obtain ⟨q, h⟩ := s.io i p e
    exact x.sb.io i q h, vs, x.stp.keep _ _ h1 s.nO, h2, RpL.stp x.stp (fun a z => .inr z) (fun a z => by
      rcases z with z | z
      · rcases o.new a z with z | z | z
        · exact .inl (.inl z)
        · exact .inl (.inr z)
        · exact .inr z
      · exact .inl (.inr (x.sb.sub a z))) _ _ h3⟩
theorem LS.down {F' : AS} (s : LS F' e0 σ0 H0 D env σ H acc) (h : ∀ a, F a → F' a) (hD : F D) : LS F e0 σ0 H0 D env σ H acc := by
  obtain ⟨vs, h1, h2, h3⟩ := s.acc
  exact ⟨s.mt.weak h, hD, s.stp, s.ow, s.io, vs, h1, h2, h3.mono fun b z => .inl (z.imp (h b) id)⟩
/-- a turn's store and tests -/
theorem LS.turn {K : PySem.W.Frag} {tg : Tg} {y : PV} {x : V} {H' : Hp} {e3 e4 : En} {ft : En → Res Bool} {b : Bool} {own : List Nat} {U : Bool → Sg → Hp → Prop} (s : LS F e0 σ0 H0 D env σ H acc) (hy : Stp (fun _ => False) H H') (r : Rp (Av F env σ) H' y x) (ha : asgTg tg y env = some e3) (ht : ft e3 = .ok b e4) (hin : tgIn tg own = true)
    (k : ∀ σ2 H3, L2.wipe σ2 own = L2.wipe σ own → LS F e0 σ0 H0 D e4 σ2 H3 acc → U b σ2 H3) : gTg K tg x σ H' fun σ2 H2 => L2.wipe σ2 own = L2.wipe σ own ∧ tB ft σ2 H2 fun b H3 => U b σ2 H3 := by
  have s1 : LS F e0 σ0 H0 D env σ H' acc := s.xs (Xs.new hy) (s.mt.stp hy (fun a z e => s.mt.al a z (hy.dom a e)) fun a z => .inl z)
  refine g_ok s1.mt r ha fun σ2 as hw => ⟨hw own hin, ?_⟩
  have s2 := s1.as as
  exact tB_iff.mpr ⟨F, e3, b, e4, s2.mt, ht, fun H3 x3 m3 => k σ2 H3 (hw own hin) (s2.xs x3 m3)⟩
/-- a turn's value -/
theorem LS.val {g : En → Res PB} {x : PB} {e5 : En} {N : Hp → Prop} (s : LS F e0 σ0 H0 D env σ H acc) (hg : g env = .ok x e5) (hz : acc.length < sizeLine) (k : ∀ H5, LS F e0 σ0 H0 D e5 σ H5 (acc ++ [x.1]) → N H5) :
    tE g σ H fun y H4 => ∃ vs, H4 D = some (.lst vs) ∧ vs.length < sizeLine ∧ N (upd H4 D (.lst (vs ++ [y]))) := by
  refine tE_iff.mpr ⟨F, env, x, e5, s.mt, hg, fun v H4 x4 rv => ?_⟩
  obtain ⟨m4, r4⟩ := rv.val
  have s4 := s.xs x4 m4
  obtain ⟨vs, h1, h2, h3⟩ := s4.acc
  refine ⟨vs, h1, by rw [← h3.len]; exact hz, k _ (s4.push h1 hz r4)⟩
end

theorem LS.base {F : AS} {e0 : En} {σ0 : Sg} {H0 : Hp} {D : Addr} {env : En} {σ : Sg} {H : Hp} {acc : List PV} (s : LS F e0 σ0 H0 D env σ H acc) : LS F env σ H D env σ H acc :=
  ⟨s.mt, s.hD, Stp.refl, fun _ z => z, fun i p e => ⟨p, e⟩, s.acc⟩
theorem LS.trans {F : AS} {e0 e1 e2 : En} {σ0 σ1 σ2 : Sg} {H0 H1 H2 : Hp} {D : Addr} {a1 a2 : List PV} (s : LS F e0 σ0 H0 D e1 σ1 H1 a1) (t : LS F e1 σ1 H1 D e2 σ2 H2 a2) : LS F e0 σ0 H0 D e2 σ2 H2 a2 :=
  ⟨t.mt, t.hD, s.stp.trans t.stp fun a z => .inl (z.imp (s.ow a) id), fun a z => s.ow a (t.ow a z), fun i p e => by
    obtain ⟨q, h⟩ := s.io i p e
    exact t.io i q h, t.acc⟩
theorem Stp.dead {O : AS} {H H' : Hp} {D : Addr} (s : Stp (fun a => O a ∨ a = D) H H') (h : H D = none) : Stp O H H' :=
  ⟨fun a o e n => s.keep a o e fun z => z.elim n fun w => (by subst w; rw [h] at e; cases e), s.tup, s.frz, s.dom⟩
theorem wipe_sub {σ : Sg} {own : List Nat} : ∀ {ws : List Nat}, (∀ v ∈ ws, v ∈ own) → L2.wipe (L2.wipe σ ws) own = L2.wipe σ own
  | [], _ => rfl
  | w :: ws, h => by
    show L2.wipe ((L2.wipe σ ws).set w none) own = _
    rw [wipe_set1 (h w List.mem_cons_self), wipe_sub fun v hv => h v (List.mem_cons_of_mem _ hv)]
theorem lcl_step {chk : Bool} {g : En → Res PB} {asg : PV → En → Option En} {ft : En → Res Bool} {own : List Nat} {y : PV} {ys acc accF : List PV} {env e2 : En}
    (h : lcLoop chk (fun e => (g e).bind fun x e' => .ok x.1 e') asg ft own (y :: ys) acc env = .ok accF e2) :
    ∃ e3 b e4, asg y env = some e3 ∧ ft e3 = .ok b e4 ∧ (b = false → lcLoop chk (fun e => (g e).bind fun x e' => .ok x.1 e') asg ft own ys acc (wipeE e4 own) = .ok accF e2) ∧
      (b = true → ∃ x e5, g e4 = .ok x e5 ∧ (chk = false ∨ acc.length + 1 ≤ sizeLine) ∧ lcLoop chk (fun e => (g e).bind fun x e' => .ok x.1 e') asg ft own ys (acc ++ [x.1]) (wipeE e5 own) = .ok accF e2) := by
  unfold lcLoop at h
  obtain ⟨e3, e3', h1, h2⟩ := bind_ok h
  obtain ⟨h1', rfl⟩ := opt_ok h1
  obtain ⟨b, e4, h3, h4⟩ := bind_ok h2
  refine ⟨e3, b, e4, h1', h3, fun hb => ?_, fun hb => ?_⟩
  · subst hb
    rw [if_neg Bool.false_ne_true] at h4
    exact h4
  · subst hb
    rw [if_pos rfl] at h4
    obtain ⟨x, e5, h5, h6⟩ := bind_ok h4
    obtain ⟨x', e5', h7, h8⟩ := bind_ok h5
    cases h8
    split at h6
    · rename_i hc
      refine ⟨x', _, h7, ?_, h6⟩
      rcases Bool.or_eq_true_iff.mp hc with hc | hc
      · exact .inl (by simpa using hc)
      · exact .inr (szl_le hc)
    · cases h6
/-- the turns, from any heap -/
theorem lc_go {J : It} {n : Nat} {G : Hp → Prop} {Y : Nat → Hp → V → Hp → Prop} (w : Walk J n G Y) {Hs : Hp} {Qd : Hp → Prop} {T : V → Hp → (Hp → Prop) → Prop} (Pv : Nat → Hp → Prop) (h0 : Pv 0 Hs) (hG : ∀ i H, i ≤ n → Pv i H → G H)
    (hs : ∀ i x H H', i < n → Pv i H → Y i H x H' → T x H' (Pv (i + 1))) (hd : ∀ H, Pv n H → Qd H) :
    ∃ W : Nat → Nat → Hp → Prop, (∃ m, W 0 m Hs) ∧ ∀ i m H, W i m H →
      (J.stop i H ∧ Qd H) ∨ (J.go i H ∧ ∃ Nx : Hp → Prop, (∀ H', Nx H' → ∃ m', m' < m ∧ W (i + 1) m' H') ∧ ∀ x H', J.yld i H x H' → T x H' Nx) := by
  refine ⟨fun i m H => m = n - i ∧ i ≤ n ∧ Pv i H, ⟨n, by simp, Nat.zero_le _, h0⟩, ?_⟩
  rintro i m H ⟨rfl, hi, p⟩
  have q := hG i H hi p
  by_cases hlt : i < n
  · exact .inr ⟨w.goes i H hlt q, Pv (i + 1), fun H' p' => ⟨n - (i + 1), by omega, rfl, hlt, p'⟩, fun x H' y => hs i x H H' hlt p (w.yields i H x H' hlt q y)⟩
  · have e : i = n := by omega
    subst e
    exact .inl ⟨w.stops H q, hd H p⟩
theorem drop_get {ys : List PV} {i : Nat} {y : PV} (h : ys[i]? = some y) : ys.drop i = y :: ys.drop (i + 1) := by
  obtain ⟨hi, e⟩ := List.getElem?_eq_some_iff.mp h
  rw [← e]
  exact List.drop_eq_getElem_cons hi
/-- the block's end: the new list is ours -/
theorem ls_end {F F1 : AS} {env e1 e2 : En} {σ : Sg} {H H1 H2 : Hp} {D : Addr} {own : List Nat} {acc : List PV} {Q : VK} (x1 : Xs env σ H e1 H1) (o1 : Or F env σ H e1 H1 F1) (hD : H1 D = none) (ok : wipeOk e1 own = true)
    (s : LS (fun b => F1 b ∨ b = D) e1 σ H1 D e2 (L2.wipe σ own) H2 acc) (k : ∀ v H', Xs env σ H (Dk.unwipe e1 e2 own) H' → RV F env σ H (Dk.unwipe e1 e2 own) σ H' (.lst acc) true v → Q v H') : Q (.ref D) H2 := by
  have st := s.stp.dead hD
  obtain ⟨m, ow⟩ := o1.mt.unwipe s.mt st (fun a z => z.imp id fun e => by subst e; exact hD) s.ow ok
  have nF : ¬ F D := fun z => o1.mt.al D (o1.up D z) hD
  have nO : ¬ Ow (Dk.unwipe e1 e2 own) σ D := fun z => s.nO ((ow D).mp z)
  obtain ⟨vs, h1, h2, h3⟩ := s.acc
  refine k _ H2 ⟨x1.stp.trans st fun a z => .inl (x1.sb.sub a z), fun a z => x1.sb.sub a (s.ow a ((ow a).mp z)), fun i p e => ?_⟩ ?_
  · obtain ⟨q, e1'⟩ := x1.sb.io i p e
    obtain ⟨r, e2'⟩ := s.io i q e1'
    rcases mem_or i own with hi | hi
    · rcases wipeOk_get ok hi with h | ⟨q', h⟩ <;> rw [h] at e1' <;> cases e1'
    · exact ⟨r, by rw [unwipe_out hi]; exact e2'⟩
  · unfold RV
    rw [if_pos rfl]
    exact ⟨D, rfl, .inr (x1.stp.dom D hD), nF, nO, m.weak fun b z => z.imp (o1.up b) id, vs, h1, h2, h3.mono fun b z => .inl (by
      rcases z with (z | z) | z
      · exact .inl (.inl (o1.up b z))
      · exact .inl (.inr z)
      · exact .inr ((ow b).mp z))⟩
theorem ls_start {F F1 : AS} {env e1 : En} {σ : Sg} {H H1 : Hp} {D : Addr} {own : List Nat} (o1 : Or F env σ H e1 H1 F1) (hD : H1 D = none) (ok : wipeOk e1 own = true) : LS (fun b => F1 b ∨ b = D) e1 σ H1 D (wipeE e1 own) (L2.wipe σ own) (upd H1 D (.lst [])) [] := by
  have s : LS (fun b => F1 b ∨ b = D) e1 σ H1 D e1 σ (upd H1 D (.lst [])) [] :=
    ⟨o1.mt.newF hD, .inr rfl, Stp.new hD, fun _ z => z, fun i p e => ⟨p, e⟩, [], upd_same, Nat.zero_le _, .nil⟩
  exact s.wipe fun i hi p e => by
    rcases wipeOk_get ok hi with h | ⟨q', h⟩ <;> rw [h] at e <;> cases e
theorem wk_av {As : AS} {F1 : AS} {e1 env : En} {σ σ' : Sg} {H1 : Hp} {D : Addr} (hD : H1 D = none) (ow : ∀ a, Ow env σ' a → Ow e1 σ a) : ∀ a, Av (fun b => F1 b ∨ b = D) env σ' a → Av F1 e1 σ a ∨ H1 a = none := fun a z => by
  rcases z with (z | z) | z
  · exact .inl (.inl z)
  · subst z; exact .inr hD
  · exact .inl (.inr (ow a z))
/-- the state ahead of turn i -/
def LcP (chk : Bool) (F : AS) (e1 : En) (σ0 : Sg) (H1 : Hp) (D : Addr) (σw : Sg) (own : List Nat) (g : En → Res PB) (tg : Tg) (ft : En → Res Bool) (ys accF : List PV) (e2 : En) (i : Nat) (H : Hp) : Prop :=
  ∃ env acc, LS F e1 σ0 H1 D env σw H acc ∧ (chk = true ∨ acc.length ≤ i) ∧ lcLoop chk (fun e => (g e).bind fun x e' => .ok x.1 e') (asgTg tg) ft own (ys.drop i) acc env = .ok accF e2
/-- a turn -/
theorem lcp_turn {K : PySem.W.Frag} {chk : Bool} {F : AS} {e1 : En} {σ0 σ : Sg} {H1 : Hp} {D : Addr} {own : List Nat} {g : En → Res PB} {tg : Tg} {ft : En → Res Bool} {ys accF : List PV} {e2 : En} {i : Nat} {H2 H3 : Hp} {x : V} {y : PV} (hin : tgIn tg own = true) (hn : ∀ i ∈ own, ∀ p, e1[i]? ≠ some (some (p, .io)))
    (hz : ys.length ≤ sizeLine) (p : LcP chk F e1 σ0 H1 D (L2.wipe σ own) own g tg ft ys accF e2 i H2) (hy1 : ys[i]? = some y) (hy2 : Stp (fun _ => False) H2 H3) (hy3 : ∀ env, (∀ a, Ow env (L2.wipe σ own) a → Ow e1 σ0 a) → Rp (Av F env (L2.wipe σ own)) H3 y x) :
    gTg K tg x (L2.wipe σ own) H3 fun σ2 H2 => L2.wipe σ2 own = L2.wipe σ own ∧ tB ft σ2 H2 fun b H3 =>
      if b = true then tE g σ2 H3 fun y H4 => ∃ acc, H4 D = some (.lst acc) ∧ acc.length < sizeLine ∧ LcP chk F e1 σ0 H1 D (L2.wipe σ own) own g tg ft ys accF e2 (i + 1) (upd H4 D (.lst (acc ++ [y]))) else LcP chk F e1 σ0 H1 D (L2.wipe σ own) own g tg ft ys accF e2 (i + 1) H3 := by
  obtain ⟨env2, acc, s, hl, hr⟩ := p
  rw [drop_get hy1] at hr
  have hi : i < ys.length := (List.getElem?_eq_some_iff.mp hy1).1
  obtain ⟨e3, b, e4, a1, a2, a3, a4⟩ := lcl_step hr
  have t := s.turn (K := K) (own := own) (U := fun b σ2 H3 => if b = true then tE g σ2 H3 fun y H4 => ∃ acc, H4 D = some (.lst acc) ∧ acc.length < sizeLine ∧ LcP chk F e1 σ0 H1 D (L2.wipe σ own) own g tg ft ys accF e2 (i + 1) (upd H4 D (.lst (acc ++ [y]))) else LcP chk F e1 σ0 H1 D (L2.wipe σ own) own g tg ft ys accF e2 (i + 1) H3) hy2 (hy3 _ s.ow) a1 a2 hin fun σ2 H4 hw s4 => ?_
  · rw [wipe_idem] at t
    exact t
  · rw [wipe_idem] at hw
    cases b with
    | false =>
      rw [if_neg Bool.false_ne_true]
      have s5 := s4.wipe hn
      rw [hw] at s5
      exact ⟨_, acc, s5, hl.imp id fun h => by omega, a3 rfl⟩
    | true =>
      rw [if_pos rfl]
      obtain ⟨x', e5, b1, b2, b3⟩ := a4 rfl
      have hz2 : acc.length < sizeLine := by
        rcases b2 with b2 | b2
        · rcases hl with hl | hl
          · rw [b2] at hl; cases hl
          · omega
        · exact b2
      refine s4.val (N := fun H => LcP chk F e1 σ0 H1 D (L2.wipe σ own) own g tg ft ys accF e2 (i + 1) H) b1 hz2 fun H5 s5 => ?_
      have s6 := s5.wipe hn
      rw [hw] at s6
      exact ⟨_, _, s6, hl.imp id fun h => by rw [List.length_append]; exact Nat.add_le_add_right h 1, b3⟩
theorem lc_k {K : PySem.W.Frag} {f : En → Res (List PV)} {tg : Tg} {ft : En → Res Bool} {g : En → Res PB} {own : List Nat} {σ : Sg} {H : Hp} {Q : VK} (hin : tgIn tg own = true)
    (q : tE (fun env => (f env).bind fun ys e1 => if wipeOk e1 own then (lcLoop false (fun e => (g e).bind fun x e' => .ok x.1 e') (asgTg tg) ft own ys [] (wipeE e1 own)).bind fun acc e2 => .ok (.lst acc, true) (unwipe e1 e2 own) else .bad) σ H Q) :
    tLc (tW f) (gTg K tg) (tB ft) (tE g) own σ H Q := by
  obtain ⟨F, env, r, env', m, e, k⟩ := tE_iff.mp q
  obtain ⟨ys, e1, h1, e⟩ := bind_ok e
  split at e
  · rename_i ok
    obtain ⟨accF, e2, h2, e⟩ := bind_ok e
    cases e
    refine tW_iff.mpr ⟨F, env, ys, e1, m, h1, fun J H1 F1 x1 o1 wk D hD => ?_⟩
    obtain ⟨hz, G, Y, W, hG, hY⟩ := wk.mono (O' := Ow e1 σ) fun a z => .inl z
    have hn : ∀ i ∈ own, ∀ p, e1[i]? ≠ some (some (p, .io)) := fun i hi p e => by
      rcases wipeOk_get ok hi with h | ⟨q', h⟩ <;> rw [h] at e <;> cases e
    refine lc_go (T := fun x H' N => gTg K tg x (L2.wipe σ own) H' fun σ2 H2 => L2.wipe σ2 own = L2.wipe σ own ∧ tB ft σ2 H2 fun b H3 =>
      if b = true then tE g σ2 H3 fun y H4 => ∃ acc, H4 D = some (.lst acc) ∧ acc.length < sizeLine ∧ N (upd H4 D (.lst (acc ++ [y]))) else N H3) W
      (LcP false (fun b => F1 b ∨ b = D) e1 σ H1 D (L2.wipe σ own) own g tg ft ys accF e2)
      ⟨_, [], ls_start o1 hD ok, .inr (Nat.zero_le _), h2⟩ (fun i H _ ⟨_, _, s, _⟩ => hG H (s.stp.dead hD)) ?_ ?_
    · rintro i x H2 H3 hi p y
      obtain ⟨env2, acc, s, _⟩ := id p
      obtain ⟨y, hy1, hy2, hy3⟩ := hY i H2 x H3 hi (s.stp.dead hD) y
      exact lcp_turn hin hn hz p hy1 hy2 fun env ow => hy3 _ (wk_av (As := fun _ => False) hD ow)
    · rintro H2 ⟨env2, acc, s, hl, hr⟩
      rw [List.drop_length] at hr
      cases hr
      exact ls_end x1 o1 hD ok s k
  · cases e

/-! ### two clauses -/
theorem lcl2_step {inner : List PV → En → Res (List PV)} {asg : PV → En → Option En} {ft : En → Res Bool} {own : List Nat} {y : PV} {ys acc accF : List PV} {env e2 : En} (h : lc2Loop inner asg ft own (y :: ys) acc env = .ok accF e2) :
    ∃ e3 b e4, asg y env = some e3 ∧ ft e3 = .ok b e4 ∧ (b = false → lc2Loop inner asg ft own ys acc (wipeE e4 own) = .ok accF e2) ∧
      (b = true → ∃ acc' e5, inner acc e4 = .ok acc' e5 ∧ lc2Loop inner asg ft own ys acc' (wipeE e5 own) = .ok accF e2) := by
  unfold lc2Loop at h
  obtain ⟨e3, e3', h1, h2⟩ := bind_ok h
  obtain ⟨h1', rfl⟩ := opt_ok h1
  obtain ⟨b, e4, h3, h4⟩ := bind_ok h2
  refine ⟨e3, b, e4, h1', h3, fun hb => ?_, fun hb => ?_⟩
  · subst hb
    rw [if_neg Bool.false_ne_true] at h4
    exact h4
  · subst hb
    rw [if_pos rfl] at h4
    exact bind_ok h4
theorem lc2_k {K : PySem.W.Frag} {f f1 : En → Res (List PV)} {tg tg1 : Tg} {ft ft1 : En → Res Bool} {g : En → Res PB} {own own1 : List Nat} {σ : Sg} {H : Hp} {Q : VK} (hin : tgIn tg own = true) (hin1 : tgIn tg1 own1 = true) (hsub : ∀ v ∈ own1, v ∈ own)
    (q : tE (fun env => (f env).bind fun ys e1 => if wipeOk e1 own then (lc2Loop (fun acc e => (f1 e).bind fun ys' e1' => if wipeOk e1' own1 then lcLoop true (fun e => (g e).bind fun x e' => .ok x.1 e') (asgTg tg1) ft1 own1 ys' acc (wipeE e1' own1) else .bad) (asgTg tg) ft own ys [] (wipeE e1 own)).bind fun acc e2 => .ok (.lst acc, true) (unwipe e1 e2 own) else .bad) σ H Q) :
    tLc2 (tW f) (gTg K tg) (tB ft) (tW f1) (gTg K tg1) (tB ft1) (tE g) own own1 σ H Q := by
  obtain ⟨F, env, r, env', m, e, k⟩ := tE_iff.mp q
  obtain ⟨ys, e1, h1, e⟩ := bind_ok e
  split at e
  · rename_i ok
    obtain ⟨accF, e2, h2, e⟩ := bind_ok e
    cases e
    refine tW_iff.mpr ⟨F, env, ys, e1, m, h1, fun J H1 F1 x1 o1 wk D hD => ?_⟩
    obtain ⟨hz, G, Y, W, hG, hY⟩ := wk.mono (O' := Ow e1 σ) fun a z => .inl z
    have hn : ∀ i ∈ own, ∀ p, e1[i]? ≠ some (some (p, .io)) := fun i hi p e => by
      rcases wipeOk_get ok hi with h | ⟨q', h⟩ <;> rw [h] at e <;> cases e
    let P : Nat → Hp → Prop := fun i H => ∃ env acc, LS (fun b => F1 b ∨ b = D) e1 σ H1 D env (L2.wipe σ own) H acc ∧ lc2Loop (fun acc e => (f1 e).bind fun ys' e1' => if wipeOk e1' own1 then lcLoop true (fun e => (g e).bind fun x e' => .ok x.1 e') (asgTg tg1) ft1 own1 ys' acc (wipeE e1' own1) else .bad) (asgTg tg) ft own (ys.drop i) acc env = .ok accF e2
    refine lc_go (T := fun x H' N => gTg K tg x (L2.wipe σ own) H' fun σ2 H2 => L2.wipe σ2 own = L2.wipe σ own ∧ tB ft σ2 H2 fun b H3 =>
      if b = true then tW f1 σ2 H3 fun J1 H4 => ∃ W1 : Nat → Nat → Hp → Prop, (∃ m, W1 0 m H4) ∧ ∀ j k H, W1 j k H →
        (J1.stop j H ∧ N H) ∨ (J1.go j H ∧ ∃ Nx1 : Hp → Prop, (∀ H', Nx1 H' → ∃ k', k' < k ∧ W1 (j + 1) k' H') ∧ ∀ x H', J1.yld j H x H' → gTg K tg1 x (L2.wipe σ2 own1) H' fun σ3 H5 => L2.wipe σ3 own1 = L2.wipe σ2 own1 ∧ tB ft1 σ3 H5 fun b H6 =>
          if b = true then tE g σ3 H6 fun y H7 => ∃ acc, H7 D = some (.lst acc) ∧ acc.length < sizeLine ∧ Nx1 (upd H7 D (.lst (acc ++ [y]))) else Nx1 H6)
      else N H3) W P ⟨_, [], ls_start o1 hD ok, h2⟩ (fun i H _ ⟨_, _, s, _⟩ => hG H (s.stp.dead hD)) ?_ ?_
    · rintro i x H2 H3 hi ⟨env2, acc, s, hr⟩ y
      obtain ⟨y, hy1, hy2, hy3⟩ := hY i H2 x H3 hi (s.stp.dead hD) y
      rw [drop_get hy1] at hr
      obtain ⟨e3, b, e4, a1, a2, a3, a4⟩ := lcl2_step hr
      have t := s.turn (K := K) (own := own) (U := fun b σ2 H3 => if b = true then tW f1 σ2 H3 fun J1 H4 => ∃ W1 : Nat → Nat → Hp → Prop, (∃ m, W1 0 m H4) ∧ ∀ j k H, W1 j k H →
        (J1.stop j H ∧ P (i + 1) H) ∨ (J1.go j H ∧ ∃ Nx1 : Hp → Prop, (∀ H', Nx1 H' → ∃ k', k' < k ∧ W1 (j + 1) k' H') ∧ ∀ x H', J1.yld j H x H' → gTg K tg1 x (L2.wipe σ2 own1) H' fun σ3 H5 => L2.wipe σ3 own1 = L2.wipe σ2 own1 ∧ tB ft1 σ3 H5 fun b H6 =>
          if b = true then tE g σ3 H6 fun y H7 => ∃ acc, H7 D = some (.lst acc) ∧ acc.length < sizeLine ∧ Nx1 (upd H7 D (.lst (acc ++ [y]))) else Nx1 H6)
        else P (i + 1) H3) hy2 (hy3 _ (wk_av (As := fun _ => False) hD s.ow)) a1 a2 hin fun σ2 H4 hw s4 => ?_
      · rw [wipe_idem] at t
        exact t
      · rw [wipe_idem] at hw
        cases b with
        | false =>
          rw [if_neg Bool.false_ne_true]
          have s5 := s4.wipe hn
          rw [hw] at s5
          exact ⟨_, acc, s5, a3 rfl⟩
        | true =>
          rw [if_pos rfl]
          obtain ⟨acc', e5, b1, b2⟩ := a4 rfl
          obtain ⟨ys1, e6, b3, b4⟩ := bind_ok b1
          have ok6 : wipeOk e6 own1 = true := by
            by_cases h : wipeOk e6 own1 = true
            · exact h
            · rw [if_neg h] at b4; cases b4
          rw [if_pos ok6] at b4
          refine tW_iff.mpr ⟨_, e4, ys1, e6, s4.mt, b3, fun J1 H6 F6 x6 o6 wk1 => ?_⟩
          have s6 := s4.up x6 o6
          obtain ⟨hz1, G1, Y1, W1, hG1, hY1⟩ := wk1.mono (O' := fun a => Ow e6 σ2 a ∨ a = D) fun a z => z.imp id fun e => .inr e
          have hn6 : ∀ i ∈ own1, ∀ p, e6[i]? ≠ some (some (p, .io)) := fun i hi p e => by
            rcases wipeOk_get ok6 hi with h | ⟨q', h⟩ <;> rw [h] at e <;> cases e
          refine lc_go (T := fun x H' N => gTg K tg1 x (L2.wipe σ2 own1) H' fun σ3 H5 => L2.wipe σ3 own1 = L2.wipe σ2 own1 ∧ tB ft1 σ3 H5 fun b H6 =>
            if b = true then tE g σ3 H6 fun y H7 => ∃ acc, H7 D = some (.lst acc) ∧ acc.length < sizeLine ∧ N (upd H7 D (.lst (acc ++ [y]))) else N H6) W1
            (LcP true F6 e6 σ2 H6 D (L2.wipe σ2 own1) own1 g tg1 ft1 ys1 acc' e5) ⟨_, acc, s6.base.wipe hn6, .inl rfl, b4⟩ (fun j H _ ⟨_, _, s, _⟩ => hG1 H s.stp) ?_ ?_
          · rintro j x H7 H8 hj p y
            obtain ⟨env7, acc7, s7, _⟩ := id p
            obtain ⟨y, z1, z2, z3⟩ := hY1 j H7 x H8 hj s7.stp y
            exact lcp_turn hin1 hn6 hz1 p z1 z2 fun env ow => z3 _ fun a z => .inl (z.imp id (ow a))
          · rintro H7 ⟨env7, acc7, s7, hl, hr7⟩
            rw [List.drop_length] at hr7
            cases hr7
            have s8 := ((s6.trans s7).down (F := fun b => F1 b ∨ b = D) o6.up (.inr rfl)).wipe hn
            rw [wipe_sub hsub, hw] at s8
            exact ⟨_, _, s8, b2⟩
    · rintro H2 ⟨env2, acc, s, hr⟩
      rw [List.drop_length] at hr
      cases hr
      exact ls_end x1 o1 hD ok s k
  · cases e
end Dk

set_option Elab.async false
set_option linter.all false
set_option autoImplicit false
set_option maxRecDepth 100000
set_option maxHeartbeats 1000000
/-! Dk16: reversed slices, calls of the program's functions as they are written. -/
namespace HT
open PySem PySem.Spec PyProof.Rows
section
variable {prog : Program} {w : World} {A : Around} {E : Value → Shared → Prop} {s : Shared}
theorem sliceApplied_rev {sl : Addr} {vs : Value} {n : Nat} {Q : Int × Int × Nat → Shared → Prop} (hs : s.heap.IsSliceOf sl .none .none vs) (ps : IsPart vs (some (-1)))
    (h : Q ((n : Int) - 1, -1, n) s) : wpAny (model prog w) A (Builtin.Slice.sliceApplied (.ref sl) (pure (n : Int))) Q E s := by
  obtain ⟨os, hos, hcs, hds⟩ := id hs
  unfold Builtin.Slice.sliceApplied Builtin.Slice.sliceFields
  refine wpAny_bind (wpAny_bind (wpAny_field hos hds (x := .none) rfl (wpAny_bind (wpAny_field hos hds (x := .none) rfl (wpAny_bind (wpAny_field hos hds (x := vs) rfl (wpAny_pure ?_)))))))
  refine wpAny_bind (slicePart_ ps ?_)
  show wpAny _ _ (if ((-1 : Int) == 0) = true then _ else _) _ _ s
  rw [if_neg (by decide)]
  refine wpAny_bind (slicePart_none (wpAny_bind (slicePart_none (wpAny_bind (wpAny_pure ?_)))))
  show wpAny _ _ (match Builtin.Slice.sliceAdjust none none (-1) (n : Int) with | (lo, hi) => pure (lo, (-1 : Int), Builtin.Slice.slicePlaces lo hi (-1))) _ _ s
  have e : Builtin.Slice.sliceAdjust none none (-1) (n : Int) = ((n : Int) - 1, -1) := rfl
  rw [e]
  have e2 : Builtin.Slice.slicePlaces ((n : Int) - 1) (-1) (-1) = n := by
    unfold Builtin.Slice.slicePlaces
    have h1 : ¬ ((-1 : Int) > 0) := by omega
    simp only [h1, if_false]
    by_cases hn : ((n : Int) - 1 > -1)
    · rw [if_pos hn]
      have : ((n : Int) - 1 - -1 - 1) / - -1 + 1 = n := by
        have e3 : (- -1 : Int) = 1 := by decide
        rw [e3, Int.ediv_one]
        omega
      rw [this]
      omega
    · rw [if_neg hn]
      omega
  show wpAny _ _ (pure ((n : Int) - 1, (-1 : Int), Builtin.Slice.slicePlaces ((n : Int) - 1) (-1) (-1))) _ _ s
  rw [e2]
  exact wpAny_pure h
theorem pick_rev (xs : Array Value) : ((List.range xs.size).filterMap fun (m : Nat) => xs[(((xs.size : Int) - 1) + (m : Int) * (-1)).toNat]?).toArray = xs.toList.reverse.toArray := by
  congr 1
  apply List.ext_getElem?
  intro i
  have gen : ∀ k, k ≤ xs.size → ((List.range k).filterMap fun (m : Nat) => xs[(((xs.size : Int) - 1) + (m : Int) * (-1)).toNat]?) = (xs.toList.reverse).take k := by
    intro k
    induction k with
    | zero => intro _; rfl
    | succ k ih =>
      intro hk
      rw [List.range_succ, List.filterMap_append, ih (by omega), List.take_add_one]
      congr 1
      have e1 : (((xs.size : Int) - 1) + (k : Int) * (-1)).toNat = xs.size - 1 - k := by omega
      have e2 : xs[xs.size - 1 - k]? = some (xs[xs.size - 1 - k]'(by omega)) := Array.getElem?_eq_getElem _
      have e3 : xs.toList.reverse[k]? = some (xs[xs.size - 1 - k]'(by omega)) := by
        rw [List.getElem?_reverse (by rw [Array.length_toList]; omega), Array.length_toList, Array.getElem?_toList, e2]
      simp only [List.filterMap_cons, List.filterMap_nil, e1, e2, e3]
      rfl
  rw [gen xs.size (Nat.le_refl _), List.take_of_length_le (by rw [List.length_reverse, Array.length_toList]; exact Nat.le_refl _)]
theorem getItem_tuple_rev {t sl : Addr} {items : Array Value} {vs : Value} {Q : Value → Shared → Prop} (ht : IsTup s.heap t items) (hs : s.heap.IsSliceOf sl .none .none vs) (ps : IsPart vs (some (-1)))
    (h : Q (.ref s.heap.objs.size) { s with heap := s.heap.push { cls := .type "tuple", data := .seq items.toList.reverse.toArray } })
    (hsz : items.size ≤ sizeLine) : wpAny (model prog w) A (getItem (.ref t) (.ref sl)) Q E s := by
  have htake : sizeOk (.seq items.toList.reverse.toArray) := by
    show items.toList.reverse.toArray.size ≤ sizeLine
    rw [List.size_toArray, List.length_reverse, Array.length_toList]
    exact hsz
  obtain ⟨os, hos, hcs, hds⟩ := id hs
  have hTs : s.TypeIs (.ref sl) "slice" := ⟨os, hos, hcs⟩
  unfold getItem
  try with_reducible refine wpAny_holding ?_
  first | refine wpAny_bind (wpAny_pure ?_) | skip
  refine wpAny_bind (wpAny_sequenceKey ht.typeIs (by decide) ?_)
  refine wpAny_bind (wpAny_callSpecial?_slot (name := Str.ofString "__getitem__") ht.typeIs PyProof.Rows.slot_tuple_getitem
    (wpAny_call_entry PyProof.Rows.slot_tuple_getitem ht.typeIs entry_tuple_getitem ?_ (args_tuple_getitem _ _)))
  show wpAny _ _ (Builtin.Tuple.tupleItemsOf (.ref t) >>= _) _ _ s
  refine wpAny_bind (tupleItemsOf_ ht ?_)
  refine wpAny_bind (wpAny_typeOf hTs ?_)
  rw [if_pos (by decide)]
  refine wpAny_bind (sliceApplied_rev hs ps ?_)
  have hno : ¬ ((((items.size : Int) - 1) == 0 && (-1 : Int) == 1 && items.size == items.size) = true) := by
    simp
  show wpAny _ _ (if (((items.size : Int) - 1) == 0 && (-1 : Int) == 1 && items.size == items.size) = true then _ else _) _ _ s
  rw [if_neg hno, pick_rev]
  first
    | exact wpAny_bind (m := Builtin.Tuple.tupleExact _) (wpAny_newObj_type (wpAny_pure ⟨_, rfl, wpAny_pure h⟩) htake)
    | exact wpAny_bind (m := Builtin.Tuple.tupleExact _) (wpAny_newObj_type (wpAny_bind (wpAny_pure (wpAny_pure ⟨_, rfl, wpAny_pure h⟩))) htake)
    | exact wpAny_bind (wpAny_bind (m := Builtin.Tuple.tupleExact _) (wpAny_newObj_type (wpAny_pure (wpAny_pure ⟨_, rfl, wpAny_pure h⟩)) htake))
    | exact wpAny_bind (wpAny_bind (m := Builtin.Tuple.tupleExact _) (wpAny_newObj_type (wpAny_pure ⟨_, rfl, wpAny_pure h⟩) htake))
end
end HT
namespace Dk
open PySem PySem.Spec PyProof.Rows L2

/-! ### xs[::-1] -/
def tRev (K : PySem.W.Frag) (te : TE) : TE := fun σ H Q => te σ H fun x H1 => ∃ a xs, x = .ref a ∧ ((SqL K H1 a xs ∧ ∀ p, H1 p = none → Q (.ref p) (upd H1 p (.lst xs.reverse))) ∨ (SqT K H1 a xs ∧ ∀ p, H1 p = none → Q (.ref p) (upd H1 p (.tup xs.reverse))))
section
variable {X : Cx} {pos : Pos}
theorem pe_rev {e : Expr} {te : TE} {k : Nat} {p1 p2 p3 : Pos} (he : PE X e te) : PE X (.Subscript e (.Slice none none (some (.UnaryOp .USub (.Constant (.int 1) k p1) p2)) p3) pos) (tRev X.K te) := by
  refine ⟨fun pins s σ H Q I h => ?_⟩
  refine Subscript_ (thn (he.run pins s σ H _ I h) fun v s1 ⟨x, H1, I1, r1, q1⟩ => ?_)
  obtain ⟨a, xs, ex, q⟩ := q1
  subst ex
  cases r1
  have hst : L2.PO X (some (.UnaryOp .USub (.Constant (.int 1) k p1) p2)) (tPart (tUn (rU fun i => .int (-i)) (tC (.int 1)))) := po_some (pe_un un_neg pe_int)
  refine wpAny_Slice (thn (po_none.run pins s1 σ H1 (fun o H2 => o = none ∧ H2 = H1) I1 ⟨rfl, rfl⟩) fun vl s2 ⟨l, H2, I2, pl, el, e2⟩ => ?_)
  subst el e2
  refine thn (po_none.run pins s2 σ H2 (fun o H3 => o = none ∧ H3 = H2) I2 ⟨rfl, rfl⟩) fun vu s3 ⟨u, H3, I3, pu, eu, e3⟩ => ?_
  subst eu e3
  refine thn (hst.run pins s3 σ H3 (fun o H4 => o = some (-1) ∧ H4 = H3) I3 ⟨1, rfl, -1, rfl, rfl, rfl⟩) fun vs s4 ⟨o, H4, I4, ps, eo, e4⟩ => ?_
  subst eo e4
  have I5 : Inv X pins σ H4 { s4 with heap := s4.heap.push { cls := .type "slice", data := .fields #[vl, vu, vs] } } := I4.kept (t' := s4.toks) fun b ob q => Heap.get?_push_of_some _ q
  show wpAny (model X.prog X.w) X.A (subscriptTail e (.Slice none none (some (.UnaryOp .USub (.Constant (.int 1) k p1) p2)) p3) (.ref a) (.ref s4.heap.objs.size)) (EP X pins σ Q) X.xe { s4 with heap := s4.heap.push { cls := .type "slice", data := .fields #[vl, vu, vs] } }
  rcases q with ⟨hx, q⟩ | ⟨hx, q⟩
  · obtain ⟨its, r, ht, hz⟩ := I5.list hx
    have hlen := r.length
    refine tail_any (ops := [.ref a, .ref s4.heap.objs.size]) ht.isList.typeIs (PySem.slot_list_getitem.lookup) ?_ (by with_unfolding_all rfl)
    refine wpAny_getItem_list_slice ht.isList (Heap.IsSliceOf.new _ vl vu vs) pl pu ps (by decide) ?_ (by rw [List.size_toArray]; omega)
    rw [PySem.W.krv_pick]
    refine ⟨.ref _, _, I5.laid (t' := s4.toks) (o := .lst xs.reverse) (fun b ob q => Heap.get?_push_of_some _ q) (Nat.le_refl _) ?_, rfl, q _ (I5.hok.fresh (Nat.le_refl _))⟩
    exact ⟨by rw [List.length_reverse]; exact hz, _, 0, r.reverse, Heap.get?_push_size _ rfl⟩
  · obtain ⟨its, r, ht, hz⟩ := I5.tuple hx
    have hlen := r.length
    have hvl : vl = .none := by cases pl; rfl
    have hvu : vu = .none := by cases pu; rfl
    subst hvl hvu
    refine tail_any (ops := [.ref a, .ref s4.heap.objs.size]) ht.typeIs (PyProof.Rows.slot_tuple_getitem.lookup) ?_ (by with_unfolding_all rfl)
    refine HT.getItem_tuple_rev ht (Heap.IsSliceOf.new _ .none .none vs) ps ?_ (by rw [List.size_toArray]; omega)
    refine ⟨.ref _, _, I5.laid (t' := s4.toks) (o := .tup xs.reverse) (fun b ob q => Heap.get?_push_of_some _ q) (Nat.le_refl _) ?_, rfl, q _ (I5.hok.fresh (Nat.le_refl _))⟩
    exact ⟨by rw [List.length_reverse]; exact hz, _, r.reverse, ⟨_, Heap.get?_push_size _ rfl, rfl, _, by simp; rfl⟩⟩
theorem ev_rev {e : Expr} {k : Nat} {p1 p2 p3 : Pos} {f : En → Res Ag} (h : PE X e (tO f)) : PE X (.Subscript e (.Slice none none (some (.UnaryOp .USub (.Constant (.int 1) k p1) p2)) p3) pos) (tE fun env => (f env).bind fun x e1 => match x.rd e1 with
    | some p => opt (revF p) e1
    | none => .bad) := by
  refine peI (pe_rev h) fun σ H Q q => ?_
  obtain ⟨F, env, r, env', m, e, k⟩ := tE_iff.mp q
  obtain ⟨x, e1, h1, e⟩ := bind_ok e
  split at e
  · rename_i p hp
    obtain ⟨h2, rfl⟩ := opt_ok e
    refine tO_iff.mpr ⟨F, env, x, env', m, h1, fun v H1 F1 xs o _ r1 => ?_⟩
    have rb := r1.rd o.mt hp
    cases p with
    | lst ys =>
      cases h2
      obtain ⟨a, vs, rfl, d, z, t⟩ := rb.lst
      refine ⟨a, vs, rfl, .inl ⟨sqL d, fun p hp => ?_⟩⟩
      have n : NV (Av F1 env' σ) H1 (.lst ys.reverse) true (.ref p) (upd H1 p (.lst vs.reverse)) := .lst t.rev hp (by rw [List.length_reverse]; exact z)
      obtain ⟨k1, k2⟩ := fin_nv xs o n
      exact k _ _ k1 k2
    | tup ys =>
      cases h2
      obtain ⟨a, vs, rfl, d, z, t⟩ := rb.tup
      refine ⟨a, vs, rfl, .inr ⟨sqT d, fun p hp => ?_⟩⟩
      have n : NV (Av F1 env' σ) H1 (.tup ys.reverse) false (.ref p) (upd H1 p (.tup vs.reverse)) := .tup t.rev hp (by rw [List.length_reverse]; exact z)
      obtain ⟨k1, k2⟩ := fin_nv xs o n
      exact k _ _ k1 k2
    | _ => cases h2
  · cases e

/-! ### list(range(n)), tuple(range(n)) -/
theorem rg_rel {A : AS} {H : Hp} : ∀ (n : Nat) (lo : Int), RpL A H (rangeV lo n) ((List.range n).map fun i => V.int (lo + (i : Nat)))
  | 0, _ => .nil
  | n + 1, lo => by
    rw [List.range_succ_eq_map, List.map_cons, List.map_map]
    refine .cons (by rw [show lo + ((0 : Nat) : Int) = lo by omega]; exact .int lo) ?_
    have e : ((fun i => V.int (lo + (i : Nat))) ∘ Nat.succ) = fun i : Nat => V.int (lo + 1 + (i : Nat)) := by
      funext i
      show V.int (lo + ((i + 1 : Nat) : Int)) = V.int (lo + 1 + (i : Nat))
      rw [show lo + ((i + 1 : Nat) : Int) = lo + 1 + (i : Nat) by omega]
    rw [e]
    exact rg_rel n (lo + 1)
theorem ev_rgL {e : Expr} {p pos : Pos} {f : En → Res Ag} {te : L2.St → Hp → (Int → Int → Hp → Prop) → Prop} (tup : Bool) {E : Expr} (h : PE X E (if tup then tTupRg (tRg1 (tO f)) else tLstRg (tRg1 (tO f)))) : PE X E (tE fun env => (f env).bind fun x e1 => match x.rd e1 with
    | some p => (opt (wkRg1 [p]) e1).bind fun ys e2 => if tup then .ok (.tup ys, false) e2 else .ok (.lst ys, true) e2
    | none => .bad) := by
  refine peI h fun σ H Q q => ?_
  obtain ⟨F, env, r, env', m, e, k⟩ := tE_iff.mp q
  obtain ⟨x, e1, h1, e⟩ := bind_ok e
  split at e
  · rename_i p hp
    obtain ⟨ys, e2, h2, h3⟩ := bind_ok e
    obtain ⟨h2', rfl⟩ := opt_ok h2
    have key : tO f σ H fun x H1 => ∃ n, x = .int n ∧ RgOk 0 n ∧ ∀ b, H1 b = none → Q (.ref b) (upd H1 b (if tup then .tup (rgV 0 n) else .lst (rgV 0 n))) := by
      refine tO_iff.mpr ⟨F, env, x, e2, m, h1, fun v H1 F1 x1 o1 _ r1 => ?_⟩
      have rb := r1.rd o1.mt hp
      unfold wkRg1 at h2'
      split at h2'
      · rename_i j hj
        cases hj
        split at h2'
        · rename_i c
          cases h2'
          rw [Bool.and_eq_true] at c
          obtain ⟨q1, q2⟩ := rg_le c.1
          have hz := szl_le c.2
          have := rb.int
          subst this
          refine ⟨j, rfl, ⟨by omega, by omega, q1, q2, by rw [sizeLine_eq] at hz; omega⟩, fun b hb => ?_⟩
          have ej : (j - 0).toNat = j.toNat := by omega
          have rel : RpL (Av F1 e2 σ) H1 (rangeV 0 j.toNat) (rgV 0 j) := by
            unfold rgV
            rw [ej]
            exact rg_rel j.toNat 0
          have hl : (rgV 0 j).length ≤ sizeLine := by rw [rgV_length, ej]; exact hz
          cases tup with
          | true =>
            rw [if_pos rfl] at h3 ⊢
            cases h3
            have n := NV.tup rel hb hl
            obtain ⟨k1, k2⟩ := fin_nv x1 o1 n
            exact k _ _ k1 k2
          | false =>
            rw [if_neg Bool.false_ne_true] at h3 ⊢
            cases h3
            have n := NV.lst rel hb hl
            obtain ⟨k1, k2⟩ := fin_nv x1 o1 n
            exact k _ _ k1 k2
        · cases h2'
      · cases h2'
    cases tup with
    | true =>
      rw [if_pos rfl]
      obtain ⟨F', env', ag, e3, m', e4, k'⟩ := tO_iff.mp key
      exact tO_iff.mpr ⟨F', env', ag, e3, m', e4, fun v H1 F1 x1 o1 t r1 => by
        obtain ⟨n, a, b, c⟩ := k' v H1 F1 x1 o1 t r1
        exact ⟨n, a, b, c⟩⟩
    | false =>
      rw [if_neg Bool.false_ne_true]
      obtain ⟨F', env', ag, e3, m', e4, k'⟩ := tO_iff.mp key
      exact tO_iff.mpr ⟨F', env', ag, e3, m', e4, fun v H1 F1 x1 o1 t r1 => by
        obtain ⟨n, a, b, c⟩ := k' v H1 F1 x1 o1 t r1
        exact ⟨n, a, b, c⟩⟩
  · cases e

/-! ### a call as it is written -/
/-- n values and the keywords ks, put as sg says -/
def Bd (K : PySem.W.Frag) (fd : FuncData) (ps : List Str) (n : Nat) (ks : List Str) (sg : List Sr) : Prop :=
  ∀ (s : Shared) (us ws : List Value), K.In s.heap → us.length = n → ws.length = ks.length → ∃ zs : List Value, BindsTo s fd ⟨us, ks.zip ws⟩ (ps.zip zs) ∧ ∀ vs : List V, Vals vs (us ++ ws) → Vals (arrV sg vs) zs
def tCallS (sp : Sp) (sg : List Sr) (n m : Nat) (E : XK) (t tk : TA) : TE := fun σ H Q => t σ H fun vs H1 => tk σ H1 fun zs H2 => vs.length = n ∧ zs.length = m ∧ sp (arrV sg (vs ++ zs)) H2 Q E
theorem run_fnS {CX : CXT} {k : Nat} {f : Addr} {fd : FuncData} {ps ks : List Str} {sp : Sp} {E : XK} {n : Nat} {sg : List Sr} {pins : List (Addr × Obj)} {σ : L2.St} {H : Hp} {s : Shared} {Q : VK} {us ws : List Value} {vs zs : List V} (F : FnOk X.prog X.w X.K X.mg X.base CX k f fd ps sp) (hr : Room k X.A) (hb : Bd X.K fd ps n ks sg) (hx : Passes CX X E)
    (I : Inv X pins σ H s) (r : Vals vs us) (rz : Vals zs ws) (hn : vs.length = n) (hm : zs.length = ks.length) (h : sp (arrV sg (vs ++ zs)) H Q E) : wpAny (model X.prog X.w) X.A (call (.ref f) us (ks.zip ws)) (EP X pins σ Q) X.xe s := by
  obtain ⟨qs, b, r2⟩ := hb s us ws I.kIn (by rw [← r.length]; exact hn) (by rw [← rz.length]; exact hm)
  refine wpAny_call (codeAny_mono (F.run X.A X.stack s H ⟨us, ks.zip ws⟩ qs (arrV sg (vs ++ zs)) Q E hr I.env0 b (r2 _ (r.append rz)) h) fun r s' hq => ?_)
  cases r with
  | error e => exact hx pins σ H s e s' I hq
  | ok fl =>
    cases fl with
    | ret u => exact I.after hq
    | next => exact False.elim hq
    | brk => exact False.elim hq
    | cont => exact False.elim hq
theorem kw_names (pos : Pos) : ∀ l : List Keyword, (backToKw pos (keywordEach l X.env)).filterMap (·.1) = l.filterMap (·.arg)
  | [] => rfl
  | ⟨nm, v, q⟩ :: l => by
    show ((nm, _) :: backToKw pos (keywordEach l X.env)).filterMap (·.1) = (⟨nm, v, q⟩ :: l : List Keyword).filterMap (·.arg)
    rw [List.filterMap_cons, List.filterMap_cons, kw_names pos l]
theorem kw_all (pos : Pos) : ∀ l : List Keyword, l.all (·.arg.isSome) = true → (backToKw pos (keywordEach l X.env)).all (·.1.isSome) = true ∧ (backToKw pos (keywordEach l X.env)).any (·.1.isNone) = false
  | [], _ => ⟨rfl, rfl⟩
  | ⟨nm, v, q⟩ :: l, h => by
    rw [List.all_cons, Bool.and_eq_true] at h
    obtain ⟨i1, i2⟩ := kw_all pos l h.2
    have h1 : nm.isSome = true := h.1
    show ((nm, _) :: backToKw pos (keywordEach l X.env)).all (·.1.isSome) = true ∧ ((nm, _) :: backToKw pos (keywordEach l X.env)).any (·.1.isNone) = false
    rw [List.all_cons, List.any_cons, i1, i2]
    cases nm with
    | none => cases h1
    | some _ => exact ⟨rfl, rfl⟩
theorem pe_callS {CX : CXT} {k : Nat} {f : Addr} {fd : FuncData} {ps ks : List Str} {sp : Sp} {E : XK} {n : Nat} {sg : List Sr} {x : Str} {p : Pos} {e : Expr} {es : List Expr} {kws : List Keyword} {t tk : TA} (F : FnOk X.prog X.w X.K X.mg X.base CX k f fd ps sp) (hr : Room k X.A) (hg : Gl X x) (hm : X.mg x = some (.ref f)) (hk : PySem.W.keepIn X.K (.ref f) = true) (hb : Bd X.K fd ps n ks sg) (hx : Passes CX X E)
    (ha : PA X (e :: es) t) (hkw : PK X kws tk) (hall : kws.all (·.arg.isSome) = true) (hks : kws.filterMap (·.arg) = ks) (hst : (e :: es).all unst = true) (hdb : (x == ("__debug__" : Str)) = false) :
    PE X (.Call (.Name x p) (e :: es) kws pos) (tCallS sp sg n ks.length E t tk) := by
  refine ⟨fun pins s σ H Q I h => ?_⟩
  refine wpAny_Call_Name_kw (ld_glob I hg hm ?_ hdb)
  rw [List.all_cons, Bool.and_eq_true] at hst
  have hs1 := star_un hst.1 es X.env
  refine PySem.W.callWith_KW (h₀ := X.base) I.ok.mod.kin hk (kw_all pos kws hall).1 (thn (ha.run pos pins s σ H _ I h) fun us s1 ⟨vs, H1, I1, r, q⟩ => ?_) ?_ hs1
  · refine thn (hkw.run pos pins s1 σ H1 _ I1 q) fun ws s2 ⟨zs, H2, I2, rz, hn, hm', q2⟩ => ⟨I2.kIn, ?_⟩
    rw [kw_names, hks]
    exact run_fnS F hr hb hx I2 r rz hn hm' q2
  · rw [(kw_all pos kws hall).2, back_un pos X.env (by rw [List.all_cons, hst.1, hst.2]; rfl)]
    rfl
theorem pe_callS0 {CX : CXT} {k : Nat} {f : Addr} {fd : FuncData} {ps ks : List Str} {sp : Sp} {E : XK} {sg : List Sr} {x : Str} {p : Pos} {kws : List Keyword} {tk : TA} (F : FnOk X.prog X.w X.K X.mg X.base CX k f fd ps sp) (hr : Room k X.A) (hg : Gl X x) (hm : X.mg x = some (.ref f)) (hk : PySem.W.keepIn X.K (.ref f) = true) (hb : Bd X.K fd ps 0 ks sg) (hx : Passes CX X E)
    (hkw : PK X kws tk) (hall : kws.all (·.arg.isSome) = true) (hks : kws.filterMap (·.arg) = ks) (hdb : (x == ("__debug__" : Str)) = false) :
    PE X (.Call (.Name x p) [] kws pos) (tCallS sp sg 0 ks.length E tNil tk) := by
  refine ⟨fun pins s σ H Q I h => ?_⟩
  refine wpAny_Call_Name_kw (ld_glob I hg hm ?_ hdb)
  refine PySem.W.callWith_KW0 (h₀ := X.base) I.ok.mod.kin hk (kw_all pos kws hall).1 ?_ (by rw [(kw_all pos kws hall).2]; rfl)
  refine thn (hkw.run pos pins s σ H _ I h) fun ws s2 ⟨zs, H2, I2, rz, hn, hm', q2⟩ => ⟨I2.kIn, ?_⟩
  rw [kw_names, hks]
  exact run_fnS (us := []) F hr hb hx I2 .nil rz hn hm' q2

/-! ### rows behind one another -/
theorem AgL.len {F : AS} {env : En} {σ : Sg} {H : Hp} : ∀ {as : List Ag} {vs : List V}, AgL F env σ H as vs → vs.length = as.length
  | _, _, .nil => rfl
  | _, _, .cons _ b => congrArg (· + 1) b.len
theorem AgL.app {F : AS} {env : En} {σ : Sg} {H : Hp} : ∀ {as bs : List Ag} {vs ws : List V}, AgL F env σ H as vs → AgL F env σ H bs ws → AgL F env σ H (as ++ bs) (vs ++ ws)
  | _, _, _, _, .nil, h => h
  | _, _, _, _, .cons a b, h => .cons a (AgL.app b h)
theorem tmps_app {F : AS} {env : En} {σ : Sg} {H : Hp} : ∀ {as bs : List Ag} {vs ws : List V}, AgL F env σ H as vs → tmps (as ++ bs) (vs ++ ws) = tmps as vs ++ tmps bs ws
  | _, _, _, _, .nil => rfl
  | .v _ :: _, bs, _, ws, .cons _ b => by
    have h := tmps_app (bs := bs) (ws := ws) b
    exact h
  | .s _ :: _, bs, _, ws, .cons _ b => by
    have h := tmps_app (bs := bs) (ws := ws) b
    exact h
  | .t _ :: _, bs, _, ws, .cons (v := v) _ b => by
    have h := tmps_app (bs := bs) (ws := ws) b
    exact congrArg (v :: ·) h
theorem tL2 {f g : En → Res (List Ag)} {n m : Nat} {σ : Sg} {H : Hp} {R : List V → Hp → Prop} (hf : ∀ env as e, f env = .ok as e → as.length = n) (hg : ∀ env as e, g env = .ok as e → as.length = m)
    (q : tL (fun env => (f env).bind fun as e1 => (g e1).bind fun bs e2 => .ok (as ++ bs) e2) σ H R) : tL f σ H fun vs H1 => tL g σ H1 fun zs H2 => vs.length = n ∧ zs.length = m ∧ R (vs ++ zs) H2 := by
  obtain ⟨F, env, r, env', mt, e, k⟩ := tL_iff.mp q
  obtain ⟨as, e1, h1, e⟩ := bind_ok e
  obtain ⟨bs, e2, h2, e⟩ := bind_ok e
  cases e
  refine tL_iff.mpr ⟨F, env, as, e1, mt, h1, fun vs H1 F1 x1 o1 t1 r1 => tL_iff.mpr ⟨F1, e1, bs, _, o1.mt, h2, fun zs H2 F2 x2 o2 t2 r2 => ?_⟩⟩
  have r1' := r1.move o1.mt x2 o2
  refine ⟨by rw [r1.len]; exact hf _ _ _ h1, by rw [r2.len]; exact hg _ _ _ h2, k _ H2 F2 (x1.trans x2) (o1.trans x1 o2) ⟨?_, fun a h => ?_⟩ (r1'.app r2)⟩
  · rw [tmps_app r1]
    refine List.nodup_append.mpr ⟨t1.nd, t2.nd, fun a ha b hb e => ?_⟩
    subst e
    obtain ⟨c, e, f⟩ := r1.tmp a ha
    subst e
    exact t2.nF c hb f
  · rw [tmps_app r1] at h
    rcases List.mem_append.mp h with h | h
    · exact t1.nF a h
    · exact fun z => t2.nF a h (o1.up a z)
/-- keywords' values -/
theorem ev_knil : PK X [] (tL fun env => .ok [] env) := ⟨fun pos pins s σ H Q I q => by
  obtain ⟨F, env, r, env', m, e, k⟩ := tL_iff.mp q
  cases e
  exact pk_nil.run pos pins s σ H Q I (k [] H F Xs.refl (Or.refl m) ⟨List.nodup_nil, fun a h => by cases h⟩ .nil)⟩
theorem ev_kcons {e : Expr} {nm : Option Str} {kpos : Pos} {kws : List Keyword} {f : En → Res Ag} {g : En → Res (List Ag)} (he : PE X e (tO f)) (hr : PK X kws (tL g)) : PK X (⟨nm, e, kpos⟩ :: kws) (tL fun env => (f env).bind fun x e1 => (g e1).bind fun xs e2 => .ok (x :: xs) e2) := ⟨fun pos pins s σ H Q I q => by
  obtain ⟨F, env, r, env', m, e', k⟩ := tL_iff.mp q
  obtain ⟨x, e1, h1, e'⟩ := bind_ok e'
  obtain ⟨as, e2, h2, e'⟩ := bind_ok e'
  cases e'
  exact (pk_cons he hr).run pos pins s σ H Q I (l_step m h1 h2 k)⟩
end
end Dk

set_option Elab.async false
set_option linter.all false
set_option autoImplicit false
set_option maxRecDepth 100000
set_option maxHeartbeats 1000000
/-! Dk17: is this IR that text? the tests. -/
namespace Dk
open PySem PySem.Spec PyProof.Rows L2

/-! ### the table -/
/-- a def: its name, its parameters, which are in-out, the ways it is called -/
structure FnI where
  name : Str
  ps : List Str
  io : List Bool
  shp : List (Nat × List Str × List Sr)
structure Tb where
  fn : Nat → Option FnI
  con : Nat → Option (Str × Lt)
  /-- built-in names that the text does not bind -/
  bl : List Str
/-- where a text stands: the slots' names, the scope -/
structure Sco where
  N : List Str
  sc : Scope
  fnS : Str → Bool

/-! ### names -/
def dbgB (x : Str) : Bool := !(x == ("__debug__" : Str)) && !(x == ("__classdict__" : Str)) && !(x == ("__name__" : Str))
def visB (sc : Scope) (x : Str) : Bool :=
  match sc.names.lookup x with
  | some .local => true
  | some .cell => true
  | some .free => true
  | _ => false
def glB (sc : Scope) (x : Str) : Bool :=
  match sc.names.lookup x with
  | some .globalImplicit => true
  | _ => false
def slB (Z : Sco) (i : Nat) (x : Str) : Bool := (match Z.N[i]? with | some y => y == x | none => false) && visB Z.sc x && dbgB x
def blB (G : Tb) (Z : Sco) (x : Str) : Bool := glB Z.sc x && G.bl.contains x && dbgB x
def nmB (Z : Sco) (i : Nat) (x : Str) : Bool := (match Z.N[i]? with | some y => y == x | none => false) && (match Z.sc.names.lookup x with
  | some .local => true
  | some .cell => Z.fnS x
  | _ => false)
def locB (Z : Sco) (i : Nat) (x : Str) : Bool := (match Z.N[i]? with | some y => y == x | none => false) && (match Z.sc.names.lookup x with
  | some .local => true
  | _ => false)
def nmsB (Z : Sco) : List Nat → List Expr → Bool
  | [], [] => true
  | i :: is, .Name x _ :: es => nmB Z i x && nmsB Z is es
  | _, _ => false
def tgB (Z : Sco) (t : Tg) (e : Expr) : Bool :=
  match t, e with
  | .nm i, .Name x _ => nmB Z i x
  | .tp is, .Tuple es _ _ => nmsB Z is es
  | _, _ => false
def isTup : Expr → Bool
  | .Tuple _ _ _ => true
  | _ => false
def strB (s : List Nat) (x : Str) : Bool := x == mkS s
def litB (p : Lt) (e : Expr) : Bool :=
  p.ok && match p, e with
  | .non, .Constant .none _ _ => true
  | .bl b, .Constant (.bool c) _ _ => b == c
  | .int i, .Constant (.int j) _ _ => i == j
  | .str s, .Constant (.str x) _ _ => strB s x
  | _, _ => false
def plainIxB : Expr → Bool
  | .Name _ _ => true
  | .Constant _ _ _ => true
  | .BinOp _ _ _ _ => true
  | .UnaryOp _ _ _ => true
  | .Call _ _ _ _ => true
  | .Subscript _ _ _ => true
  | .Tuple _ _ _ => true
  | _ => false
def plainTB : Expr → Bool
  | .UnaryOp .Not _ _ => false
  | .BoolOp _ _ _ => false
  | .IfExp _ _ _ _ => false
  | .Compare _ _ _ _ => false
  | _ => true
def notSetB : Expr → Bool
  | .Set _ _ _ => false
  | _ => true
def tyNm (t : Ty) : Str := Str.ofString t.nm
def tysB (G : Tb) (Z : Sco) : List Ty → List Expr → Bool
  | [], [] => true
  | t :: ts, .Name x _ :: es => x == tyNm t && blB G Z x && tysB G Z ts es
  | _, _ => false
def Bf.nm : Bf → Str
  | .len => "len" | .abs => "abs" | .int => "int" | .all => "all" | .any => "any" | .sum => "sum" | .max => "max" | .min => "min" | .lst => "list" | .tup => "tuple" | .sorted => "sorted" | .str => "str"
def Bf.has : Bf → Bool
  | _ => true
def olLen : OL → Nat
  | .nil => 0
  | .cons _ r => olLen r + 1
/-- the call's shape is one of the def's -/
def shpB (i : FnI) (n : Nat) (ks : List Str) (sg : List Sr) : Bool := i.shp.any fun s => decide (s = (n, ks, sg))
/-- in a comprehension's block -/
def blk (Z : Sco) (scope : Scope) : Sco := ⟨Z.N, relS scope Z.sc, fun x => match scope.names.lookup x with
  | some .cell => true
  | _ => false⟩
def ownP (N : List Str) (own : List Nat) : List (Str × Nat) := own.map fun i => (N.getD i ⟨#[]⟩, i)
def lcB (Z : Sco) (scope : Scope) (own : List Nat) (tg : Tg) (iter : Expr) : Bool := blkC Z.N Z.sc scope (ownP Z.N own) && tgIn tg own && notSetB iter
/-- the operands of what is walked -/
def wkZipE (G : Tb) (Z : Sco) (tg : Expr) : Expr → Option (List Expr)
  | .Call (.Name x _) [a, b] [] _ => if x == ("zip" : Str) && blB G Z x && isTup tg && unst a && unst b then some [a, b] else none
  | _ => none
def wkEnumE (G : Tb) (Z : Sco) (tg : Expr) : Expr → Option (List Expr)
  | .Call (.Name x _) [a] [] _ => if x == ("enumerate" : Str) && blB G Z x && isTup tg && unst a then some [a] else none
  | _ => none
def wkRg1E (G : Tb) (Z : Sco) : Expr → Option (List Expr)
  | .Call (.Name x _) [a] [] _ => if x == ("range" : Str) && blB G Z x && unst a then some [a] else none
  | _ => none
def wkRg2E (G : Tb) (Z : Sco) : Expr → Option (List Expr)
  | .Call (.Name x _) [a, b] [] _ => if x == ("range" : Str) && blB G Z x && unst a && unst b then some [a, b] else none
  | _ => none
def wkE (G : Tb) (Z : Sco) (w : Wk) (e tg : Expr) : Option (List Expr) :=
  match w with
  | .seq => some [e]
  | .str => some [e]
  | .zip => wkZipE G Z tg e
  | .enum => wkEnumE G Z tg e
  | .range => wkRg1E G Z e
  | .range2 => wkRg2E G Z e
/-! ### forms of expressions -/
def revA : Expr → Option Expr
  | .Subscript a (.Slice none none (some (.UnaryOp .USub (.Constant (.int n) _ _) _)) _) _ => if n = 1 then some a else none
  | _ => none
def isiA : Expr → Option (Str × Expr × Expr)
  | .Call (.Name x _) [a, t] [] _ => some (x, a, t)
  | _ => none
def cbA : Expr → Option (Str × Expr × List Expr)
  | .Call (.Name x _) (e :: es) [] _ => some (x, e, es)
  | _ => none
def rgA : Expr → Option (Str × Str × Expr)
  | .Call (.Name x _) [.Call (.Name y _) [a] [] _] [] _ => some (x, y, a)
  | _ => none
def metA : Expr → Option (Str × Str × Bool × List Expr)
  | .Call (.Attribute (.Name x _) m ap) es [] cp => some (x, m, ap.endLine == cp.line, es)
  | _ => none
def mtA : Expr → Option (Expr × Str × Bool × Expr)
  | .Call (.Attribute o m ap) [e] [] cp => some (o, m, ap.endLine == cp.line, e)
  | _ => none
theorem mtA_ok {a o e : Expr} {m : Str} {b : Bool} (h : mtA a = some (o, m, b, e)) : ∃ ap cp, a = .Call (.Attribute o m ap) [e] [] cp ∧ (ap.endLine == cp.line) = b := by
  unfold mtA at h
  split at h
  · cases h; exact ⟨_, _, rfl, rfl⟩
  · cases h
def Mf.nm : Mf → Str
  | .join => "join" | .split => "split" | .index => "index" | .count => "count" | .get => "get"
def Mf.has : Mf → Bool
  | .join => true
  | .split => true
  | _ => false
def lcA : Expr → Option (Expr × Expr × Expr × List Expr × Scope)
  | .ListComp e [⟨tg, iter, ifs, n⟩] scope _ => if n = 0 then some (e, tg, iter, ifs, scope) else none
  | _ => none
def lc2A : Expr → Option (Expr × Expr × Expr × List Expr × Expr × Expr × List Expr × Scope)
  | .ListComp e [⟨tg, iter, ifs, n⟩, ⟨tg1, iter1, ifs1, n1⟩] scope _ => if n = 0 ∧ n1 = 0 then some (e, tg, iter, ifs, tg1, iter1, ifs1, scope) else none
  | _ => none
theorem revA_ok {e a : Expr} (h : revA e = some a) : ∃ k p1 p2 p3 pos, e = .Subscript a (.Slice none none (some (.UnaryOp .USub (.Constant (.int 1) k p1) p2)) p3) pos := by
  unfold revA at h
  split at h
  · split at h
    · rename_i e1
      cases h
      subst e1
      exact ⟨_, _, _, _, _, rfl⟩
    · cases h
  · cases h
theorem isiA_ok {e a t : Expr} {x : Str} (h : isiA e = some (x, a, t)) : ∃ p pos, e = .Call (.Name x p) [a, t] [] pos := by
  unfold isiA at h
  split at h
  · cases h; exact ⟨_, _, rfl⟩
  · cases h
theorem cbA_ok {e a : Expr} {es : List Expr} {x : Str} (h : cbA e = some (x, a, es)) : ∃ p pos, e = .Call (.Name x p) (a :: es) [] pos := by
  unfold cbA at h
  split at h
  · cases h; exact ⟨_, _, rfl⟩
  · cases h
theorem rgA_ok {e a : Expr} {x y : Str} (h : rgA e = some (x, y, a)) : ∃ p p2 p3 pos, e = .Call (.Name x p) [.Call (.Name y p2) [a] [] p3] [] pos := by
  unfold rgA at h
  split at h
  · cases h; exact ⟨_, _, _, _, rfl⟩
  · cases h
theorem metA_ok {e : Expr} {es : List Expr} {x m : Str} {b : Bool} (h : metA e = some (x, m, b, es)) : ∃ p ap cp, e = .Call (.Attribute (.Name x p) m ap) es [] cp ∧ (ap.endLine == cp.line) = b := by
  unfold metA at h
  split at h
  · cases h; exact ⟨_, _, _, rfl, rfl⟩
  · cases h
theorem lcA_ok {a e tg iter : Expr} {ifs : List Expr} {scope : Scope} (h : lcA a = some (e, tg, iter, ifs, scope)) : ∃ pos, a = .ListComp e [⟨tg, iter, ifs, 0⟩] scope pos := by
  unfold lcA at h
  split at h
  · split at h
    · rename_i e1
      cases h
      subst e1
      exact ⟨_, rfl⟩
    · cases h
  · cases h
theorem lc2A_ok {a e tg iter tg1 iter1 : Expr} {ifs ifs1 : List Expr} {scope : Scope} (h : lc2A a = some (e, tg, iter, ifs, tg1, iter1, ifs1, scope)) : ∃ pos, a = .ListComp e [⟨tg, iter, ifs, 0⟩, ⟨tg1, iter1, ifs1, 0⟩] scope pos := by
  unfold lc2A at h
  split at h
  · split at h
    · rename_i e1
      cases h
      obtain ⟨e1, e2⟩ := e1
      subst e1 e2
      exact ⟨_, rfl⟩
    · cases h
  · cases h
def isiT (G : Tb) (Z : Sco) (ts : List Ty) : Expr → Bool
  | .Name y _ => match ts with
    | [t] => y == tyNm t && blB G Z y
    | _ => false
  | .Tuple es _ _ => tysB G Z ts es && decide (ts.length ≤ 10)
  | _ => false
mutual
def mE (G : Tb) (Z : Sco) : E → Expr → Bool
  | .lit p, e => litB p e
  | .var i, .Name x _ => slB Z i x
  | .mv i, .Name x _ => slB Z i x
  | .con k, .Name x _ => glB Z.sc x && dbgB x && match G.con k with | some (y, _) => y == x | none => false
  | .bin op a b, .BinOp a' op' b' _ => op == op' && mO G Z a a' && mO G Z b b'
  | .neg a, .UnaryOp .USub a' _ => mO G Z a a'
  | .cmp op a b, .Compare a' [op'] [b'] _ => op == op' && mO G Z a a' && mO G Z b b' && !behindInMarks op b'
  | .chn op o2 a b c, .Compare a' [op', o2'] [b', c'] _ => op == op' && o2 == o2' && mO G Z a a' && mO G Z b b' && mO G Z c c' && !lastMarks [op, o2] [b', c']
  | .notE a, .UnaryOp .Not a' _ => mO G Z a a'
  | .andE a b, .BoolOp .And (x :: y :: r) p => mE G Z a x && (match r with | [] => mE G Z b y | r => mE G Z b (.BoolOp .And (y :: r) p))
  | .orE a b, .BoolOp .Or (x :: y :: r) p => mE G Z a x && (match r with | [] => mE G Z b y | r => mE G Z b (.BoolOp .Or (y :: r) p))
  | .ite t a b, .IfExp c x y _ => mT G Z t c && mE G Z a x && mE G Z b y
  | .lstD xs, .List es _ => mD G Z xs es
  | .tupD xs, .Tuple es _ _ => mD G Z xs es
  | .ix a i, .Subscript a' i' _ => mO G Z a a' && mO G Z i i' && plainIxB i'
  | .sl a lo hi, .Subscript a' (.Slice l h none _) _ => mO G Z a a' && mP G Z lo l && mP G Z hi h
  | .rev a, e => (match revA e with
      | some a' => mO G Z a a'
      | none => false)
  | .isi a ts, e => (match isiA e with
      | some (x, a', t') => x == ("isinstance" : Str) && blB G Z x && mO G Z a a' && unst a' && isiT G Z ts t'
      | none => false)
  | .cb f xs, a => (match cbA a with
      | some (x, e, es) => x == f.nm && f.has && blB G Z x && (e :: es).all unst && mL G Z xs (e :: es)
      | none => false)
  | .rg tup o, a => (match rgA a with
      | some (x, y, a') => x == (if tup then ("tuple" : Str) else ("list" : Str)) && y == ("range" : Str) && blB G Z x && blB G Z y && unst a' && mO G Z o a'
      | none => false)
  | .mt m (.v eo) (.cons o1 .nil), a => (match mtA a with
      | some (o', nm, b, e') => nm == m.nm && m.has && b && recvB o' && unst e' && mE G Z eo o' && mO G Z o1 e'
      | none => false)
  | .pop i xs, a => (match metA a with
      | some (x, m, b, es) => slB Z i x && m == ("pop" : Str) && b && es.all unst && decide (es.length ≤ 1) && mL G Z xs es
      | none => false)
  | .call f xs kx sg, .Call (.Name x _) es kws _ => (match G.fn f with
      | some i => i.name == x && glB Z.sc x && dbgB x && shpB i (olLen xs) (kws.filterMap (·.arg)) sg && decide (olLen kx = (kws.filterMap (·.arg)).length) && kws.all (·.arg.isSome) && es.all unst && sg.all Sr.ok && mL G Z xs es && mK G Z kx kws
      | none => false)
  | .lc elt tg w xs ifs own, a => (match lcA a with
      | some (e, tg', iter, ifs', scope) => lcB Z scope own tg iter && (match wkE G Z w iter tg' with | some es => es.all unst && mL G Z xs es | none => false) && mTO G (blk Z scope) ifs ifs' && mE G (blk Z scope) elt e && tgB (blk Z scope) tg tg'
      | none => false)
  | .lc2 elt tg w xs ifs tg1 w1 xs1 ifs1 own own1, a => (match lc2A a with
      | some (e, tg', iter, ifs', tg1', iter1, ifs1', scope) => lcB Z scope own tg iter && (match wkE G Z w iter tg' with | some es => es.all unst && mL G Z xs es | none => false) && mTO G (blk Z scope) ifs ifs' && mE G (blk Z scope) elt e && tgB (blk Z scope) tg tg'
        && tgB (blk Z scope) tg1 tg1' && tgIn tg1 own1 && own1.all (fun v => decide (v ∈ own)) && notSetB iter1 && (match wkE G (blk Z scope) w1 iter1 tg1' with | some es => es.all unst && mL G (blk Z scope) xs1 es | none => false) && mTO G (blk Z scope) ifs1 ifs1'
      | none => false)
  | _, _ => false
def mO (G : Tb) (Z : Sco) : O → Expr → Bool
  | .v e, a => mE G Z e a
  | .b i, .Name x _ => slB Z i x
  | .t e, a => mE G Z e a
  | _, _ => false
def mL (G : Tb) (Z : Sco) : OL → List Expr → Bool
  | .nil, [] => true
  | .cons o r, e :: es => mO G Z o e && mL G Z r es
  | _, _ => false
def mK (G : Tb) (Z : Sco) : OL → List Keyword → Bool
  | .nil, [] => true
  | .cons o r, ⟨_, e, _⟩ :: es => mO G Z o e && mK G Z r es
  | _, _ => false
def mP (G : Tb) (Z : Sco) : PO → Option Expr → Bool
  | .none, none => true
  | .some e, some a => mE G Z e a
  | _, _ => false
def mD (G : Tb) (Z : Sco) : DL → List Expr → Bool
  | .nil, [] => true
  | .one e r, a :: es => unst a && mE G Z e a && mD G Z r es
  | .star o r, .Starred a _ :: es => mO G Z o a && mD G Z r es
  | _, _ => false
def mT (G : Tb) (Z : Sco) : T → Expr → Bool
  | .cmp op a b, .Compare a' [op'] [b'] _ => op == op' && mO G Z a a' && mO G Z b b' && !behindInMarks op b'
  | .chn op o2 a b c, .Compare a' [op', o2'] [b', c'] _ => op == op' && o2 == o2' && mO G Z a a' && mO G Z b b' && mO G Z c c' && !lastMarks [op, o2] [b', c']
  | .and a b, .BoolOp .And (x :: y :: r) p => mT G Z a x && (match r with | [] => mT G Z b y | r => mT G Z b (.BoolOp .And (y :: r) p))
  | .or a b, .BoolOp .Or (x :: y :: r) p => mT G Z a x && (match r with | [] => mT G Z b y | r => mT G Z b (.BoolOp .Or (y :: r) p))
  | .not t, .UnaryOp .Not a _ => mT G Z t a
  | .pl o, a => plainTB a && mO G Z o a
  | _, _ => false
def mTO (G : Tb) (Z : Sco) : TO → List Expr → Bool
  | .none, [] => true
  | .some t, [a] => mT G Z t a
  | _, _ => false
end
end Dk

set_option Elab.async false
set_option linter.all false
set_option autoImplicit false
set_option maxRecDepth 100000
set_option maxHeartbeats 2000000
/-! Dk18: what the tests say: expressions. -/
namespace Dk
open PySem PySem.Spec PyProof.Rows L2

/-- the table tells of X -/
structure CkOk (G : Tb) (C : Cn) (Z : Sco) (X : Cx) : Prop where
  N : X.N = Z.N
  sc : X.env.scope = Z.sc
  fn : ∀ x, Z.fnS x = true → X.fn x = true
  nd : Z.N.Nodup
  calm : X.calm = true
  hu : X.A.units + 100 < cLine
  bl : ∀ x, G.bl.contains x = true → X.mg x = none
  con : ∀ k x p, G.con k = some (x, p) → C.con k = some p ∧ p.ok = true ∧ ∃ u, X.mg x = some u ∧ RelV p.v u
  fns : ∀ f i, G.fn f = some i → C.io f = i.io ∧ ∃ (k : Nat) (adr : Addr) (fd : FuncData), FnOk X.prog X.w X.K X.mg X.base L2.CX0 k adr fd i.ps (spF C.call i.io f) ∧ Room k X.A ∧ X.mg i.name = some (.ref adr) ∧ PySem.W.keepIn X.K (.ref adr) = true ∧
    ∀ n ks sg, (n, ks, sg) ∈ i.shp → Bd X.K fd i.ps n ks sg
theorem CkOk.blk {G : Tb} {C : Cn} {Z : Sco} {X : Cx} (h : CkOk G C Z X) {scope : Scope} (s : Shared) (H : Hp) (c : Addr) (cl : List (Str × Addr)) (fp : List Addr) : CkOk G C (Dk.blk Z scope) (X.blk s H scope (compEnvC scope cl c X.env) fp) :=
  ⟨h.N, by show relS scope X.env.scope = relS scope Z.sc; rw [h.sc], fun x e => by
    have e : (match scope.names.lookup x with | some .cell => true | _ => false) = true := e
    show (scope.names.lookup x == some .cell) = true
    (split at e
     · rename_i h; rw [h]; rfl
     · cases e), h.nd, h.calm, h.hu, h.bl, h.con, h.fns⟩

/-! ### names -/
section
variable {G : Tb} {C : Cn} {Z : Sco} {X : Cx}
theorem dbg_ok {x : Str} (h : dbgB x = true) : (x == ("__debug__" : Str)) = false ∧ (x == ("__classdict__" : Str)) = false ∧ x ≠ "__name__" := by
  unfold dbgB at h
  simp only [Bool.and_eq_true, Bool.not_eq_true'] at h
  exact ⟨h.1.1, h.1.2, fun e => by rw [e] at h; exact absurd h.2 (by simp)⟩
theorem vis_ok {sc : Scope} {x : Str} (h : visB sc x = true) : Vis sc x := by
  unfold visB at h
  split at h
  · exact .inl ‹_›
  · exact .inr (.inl ‹_›)
  · exact .inr (.inr ‹_›)
  · cases h
theorem at_ok {N : List Str} {i : Nat} {x : Str} (h : (match N[i]? with | some y => y == x | none => false) = true) : N[i]? = some x := by
  split at h
  · rename_i y e
    rw [e, eq_of_beq h]
  · cases h
theorem sl_ok (h : CkOk G C Z X) {i : Nat} {x : Str} (e : slB Z i x = true) : X.N[i]? = some x ∧ Vis X.env.scope x ∧ (x == ("__debug__" : Str)) = false ∧ (x == ("__classdict__" : Str)) = false := by
  unfold slB at e
  rw [Bool.and_eq_true, Bool.and_eq_true] at e
  obtain ⟨d1, d2, _⟩ := dbg_ok e.2
  exact ⟨by rw [h.N]; exact at_ok e.1.1, by rw [h.sc]; exact vis_ok e.1.2, d1, d2⟩
theorem gl_ok (h : CkOk G C Z X) {x : Str} (e : glB Z.sc x = true) : Gl X x := by
  show X.env.scope.names.lookup x = some .globalImplicit
  rw [h.sc]
  unfold glB at e
  split at e
  · assumption
  · cases e
theorem bl_ok (h : CkOk G C Z X) {x : Str} (e : blB G Z x = true) : Gl X x ∧ X.mg x = none ∧ x ≠ "__name__" ∧ (x == ("__debug__" : Str)) = false := by
  unfold blB at e
  rw [Bool.and_eq_true, Bool.and_eq_true] at e
  obtain ⟨d1, d2, d3⟩ := dbg_ok e.2
  exact ⟨gl_ok h e.1.1, h.bl x e.1.2, d3, d1⟩
theorem nm_ok (h : CkOk G C Z X) {i : Nat} {x : Str} (e : nmB Z i x = true) : NmOk X x i := by
  unfold nmB at e
  rw [Bool.and_eq_true] at e
  refine ⟨by rw [h.N]; exact at_ok e.1, ?_⟩
  rw [h.sc]
  have e2 := e.2
  split at e2
  · exact .inl ‹_›
  · exact .inr ⟨‹_›, h.fn x e2⟩
  · cases e2
theorem nms_ok (h : CkOk G C Z X) : ∀ {is : List Nat} {es : List Expr}, nmsB Z is es = true → NmsOk X es is
  | [], [], _ => .nil
  | [], _ :: _, e => by cases e
  | i :: is, [], e => by cases e
  | i :: is, a :: es, e => by
    cases a with
    | Name x p =>
      have e : (nmB Z i x && nmsB Z is es) = true := e
      rw [Bool.and_eq_true] at e
      exact .cons (nm_ok h e.1) (nms_ok h e.2)
    | _ => cases e
theorem tg_ok (h : CkOk G C Z X) {t : Tg} {a : Expr} (e : tgB Z t a = true) : PG X a (gTg X.K t) := by
  have nd : X.N.Nodup := by rw [h.N]; exact h.nd
  cases t with
  | nm i => cases a with
    | Name x p => exact (nm_ok h e).pg nd
    | _ => cases e
  | tp is => cases a with
    | Tuple es k p => exact pg_tp h.calm nd (nms_ok h e)
    | _ => cases e

/-! ### literals -/
theorem lit_ok {p : Lt} {a : Expr} (e : litB p a = true) : PE X a (tE fun env => .ok (p.pv, false) env) := by
  unfold litB at e
  rw [Bool.and_eq_true] at e
  obtain ⟨e1, e2⟩ := e
  split at e2
  · exact ev_at (p := .non) pe_non e1
  · rename_i b c _ _
    rw [eq_of_beq e2] at e1 ⊢
    exact ev_at (p := .bl c) pe_bl e1
  · rename_i b c _ _
    rw [eq_of_beq e2] at e1 ⊢
    exact ev_at (p := .int c) pe_int e1
  · rename_i s x _ _
    have e3 : x = mkS s := eq_of_beq e2
    subst e3
    exact ev_at (p := .str s) pe_str e1
  · cases e2

/-! ### side conditions -/
theorem plainIx_ok {b : Expr} (h : plainIxB b = true) : PlainIx b := by
  cases b <;> first | exact absurd h Bool.false_ne_true | exact fun _ _ => rfl
theorem plainT_ok {e : Expr} {env : Env} (h : plainTB e = true) : ∀ whole, isTrue e env whole = (do let v ← whole; standAt e.pos; holding [v] (truthy v)) := by
  intro whole
  cases e with
  | UnaryOp op a p => cases op <;> first | exact absurd h Bool.false_ne_true | rfl
  | BoolOp _ _ _ => exact absurd h Bool.false_ne_true
  | IfExp _ _ _ _ => exact absurd h Bool.false_ne_true
  | Compare _ _ _ _ => exact absurd h Bool.false_ne_true
  | _ => rfl
theorem notSet_ok {e : Expr} (h : notSetB e = true) (env : Env) (x : Value) : foldedSetIterable e env x = pure x := by
  cases e <;> first | exact absurd h Bool.false_ne_true | rfl
theorem pw_of {op : BoolOp} {vs : List Expr} {p : Pos} {t : TT} (h : PT X (.BoolOp op vs p) t) : PW X (.BoolOp op vs p) t := ⟨fun wh pins s σ H Q I q => h.run pins s σ H Q I q⟩

/-! ### built-in functions -/
theorem strB' : CallR X (.type "str") (rCal strF) := by
  refine CallR.imp call_str_int fun xs H Q ⟨A, ps, r, fr, al, rs, e, k⟩ => ?_
  unfold strF at e
  split at e <;> first | cases e | skip
  split at e <;> first | cases e | skip
  rename_i i hi
  rw [Bool.and_eq_true, decide_eq_true_eq] at hi
  obtain ⟨v, rfl, h⟩ := rs.one
  rw [h.int]
  refine ⟨i, rfl, hi.1, ?_⟩
  have e1 : (Str.ofString (toString i)) = mkS ((toString i).toList.map Char.toNat) := by
    unfold Str.ofString mkS
    rw [cpsOfBytes_string]
  have n : NV A H (.str ((toString i).toList.map Char.toNat)) false (.str (mkS ((toString i).toList.map Char.toNat))) H := .old (.str _ ⟨szl_le hi.2, fun c hc => by
    obtain ⟨d, _, rfl⟩ := List.mem_map.mp hc
    have := d.valid
    simp only [UInt32.isValidChar, Nat.isValidChar] at this
    show d.val.toNat < 0x110000
    omega⟩)
  have q := k _ _ n
  rw [← e1] at q
  exact q
theorem bf_ok (h : CkOk G C Z X) {f : Bf} {e : Expr} {es : List Expr} {p pos : Pos} {t : TA} (hf : f.has = true) (hb : blB G Z f.nm = true) (hu : (e :: es).all unst = true) (ha : PA X (e :: es) t) : PE X (.Call (.Name f.nm p) (e :: es) [] pos) (tCB (rCal (bF f)) t) := by
  obtain ⟨g1, g2, g3, g4⟩ := bl_ok h hb
  rw [List.all_cons, Bool.and_eq_true] at hu
  have s1 := star_un hu.1 es X.env
  have s2 := back_un pos X.env hu.2
  cases f with
  | len => exact pe_callB lenB g1 g2 (by decide +kernel) ha g3 g4 s1 s2
  | abs => exact pe_callB absB g1 g2 (by decide +kernel) ha g3 g4 s1 s2
  | int => exact pe_callTy intB g1 g2 (by decide +kernel) ha g3 g4 s1 s2
  | all => exact pe_callB (allB h.calm) g1 g2 (by decide +kernel) ha g3 g4 s1 s2
  | any => exact pe_callB (anyB h.calm) g1 g2 (by decide +kernel) ha g3 g4 s1 s2
  | sum => exact pe_callB (sumB h.calm) g1 g2 (by decide +kernel) ha g3 g4 s1 s2
  | max => exact pe_callB (maxB h.calm) g1 g2 (by decide +kernel) ha g3 g4 s1 s2
  | min => exact pe_callB (minB h.calm) g1 g2 (by decide +kernel) ha g3 g4 s1 s2
  | lst => exact pe_callTy lstB g1 g2 (by decide +kernel) ha g3 g4 s1 s2
  | tup => exact pe_callTy tupB g1 g2 (by decide +kernel) ha g3 g4 s1 s2
  | sorted => exact pe_callB (sortB h.calm) g1 g2 (by decide +kernel) ha g3 g4 s1 s2
  | str => exact pe_callTy strB' g1 g2 (by decide +kernel) ha g3 g4 s1 s2
theorem ty_boot (t : Ty) : bootBuiltins (tyNm t) = some (.type t.nm) := by cases t <;> decide +kernel
theorem ty_pe (h : CkOk G C Z X) {t : Ty} {x : Str} {p : Pos} (e : (x == tyNm t) = true) (hb : blB G Z x = true) : PE X (.Name x p) (tC (.ty t.nm)) := by
  obtain ⟨g1, g2, g3, g4⟩ := bl_ok h hb
  have e := eq_of_beq e
  exact pe_bltn g1 g2 (by rw [e]; exact ty_boot t) rfl g3 g4
theorem tys_pe (h : CkOk G C Z X) : ∀ {ts : List Ty} {es : List Expr}, tysB G Z ts es = true → PA X es (tTys ts)
  | [], [], _ => pa_nil
  | [], _ :: _, e => by cases e
  | _ :: _, [], e => by cases e
  | t :: ts, a :: es, e => by
    cases a with
    | Name x p =>
      have e : (x == tyNm t && blB G Z x && tysB G Z ts es) = true := e
      rw [Bool.and_eq_true, Bool.and_eq_true] at e
      exact pa_cons (ty_pe h e.1.1 e.1.2) (tys_pe h e.2) rfl
    | _ => cases e
theorem isi_head (h : CkOk G C Z X) {x : Str} (e : (x == ("isinstance" : Str)) = true) (hb : blB G Z x = true) : Gl X x ∧ X.mg x = none ∧ bootBuiltins x = some (.builtin "isinstance") ∧ x ≠ "__name__" ∧ (x == ("__debug__" : Str)) = false := by
  obtain ⟨g1, g2, g3, g4⟩ := bl_ok h hb
  refine ⟨g1, g2, ?_, g3, g4⟩
  rw [eq_of_beq e]
  decide +kernel
theorem wk_bl (h : CkOk G C Z X) {x y : Str} (e : (x == y) = true) (hb : blB G Z x = true) : x = y ∧ Gl X y ∧ X.mg y = none := by
  obtain ⟨g1, g2, _⟩ := bl_ok h hb
  have := eq_of_beq e
  subst this
  exact ⟨rfl, g1, g2⟩
/-- what is walked, from its operands -/
theorem wk_ok (h : CkOk G C Z X) {w : Wk} {xs : OL} {iter tg : Expr} {es : List Expr} (he0 : wkE G Z w iter tg = some es) (hL : mL G Z xs es = true) (pa : PA X es (tL (dL C xs))) (po : ∀ o e, xs = .cons o .nil → es = [e] → PE X e (tO (dO C o))) : PI X tg iter (tW fun env => (dL C xs env).bind fun as e1 => wkX w as e1) := by
  have one : ∀ e, es = [e] → ∃ o, xs = .cons o .nil ∧ mO G Z o e = true := fun e he => by
    subst he
    cases xs with
    | nil => cases hL
    | cons o r =>
      have hL : (mO G Z o e && mL G Z r []) = true := hL
      rw [Bool.and_eq_true] at hL
      cases r with
      | nil => exact ⟨o, rfl, hL.1⟩
      | cons _ _ => exact absurd hL.2 Bool.false_ne_true
  cases w with
  | seq =>
    have e' : some [iter] = some es := he0
    cases e'
    obtain ⟨o, rfl, ho⟩ := one iter rfl
    exact it_seq (po o iter rfl rfl)
  | str =>
    have e' : some [iter] = some es := he0
    cases e'
    obtain ⟨o, rfl, ho⟩ := one iter rfl
    exact it_str (po o iter rfl rfl)
  | zip =>
    have he0 : wkZipE G Z tg iter = some es := he0
    unfold wkZipE at he0
    split at he0
    · rename_i x p a b pos _
      split at he0
      · rename_i c
        cases he0
        simp only [Bool.and_eq_true] at c
        obtain ⟨⟨⟨⟨c1, c2⟩, c3⟩, c4⟩, c5⟩ := c
        obtain ⟨rfl, g1, g2⟩ := wk_bl h c1 c2
        cases tg with
        | Tuple es k tp => exact it_zip g1 g2 pa (star_un c4 [b] X.env) (back_un pos X.env (by rw [List.all_cons, c5]; rfl))
        | _ => cases c3
      · cases he0
    · cases he0
  | enum =>
    have he0 : wkEnumE G Z tg iter = some es := he0
    unfold wkEnumE at he0
    split at he0
    · rename_i x p a pos _
      split at he0
      · rename_i c
        cases he0
        simp only [Bool.and_eq_true] at c
        obtain ⟨⟨⟨c1, c2⟩, c3⟩, c4⟩ := c
        obtain ⟨rfl, g1, g2⟩ := wk_bl h c1 c2
        cases tg with
        | Tuple es k tp => exact it_enum g1 g2 pa (star_un c4 [] X.env)
        | _ => cases c3
      · cases he0
    · cases he0
  | range =>
    have he0 : wkRg1E G Z iter = some es := he0
    unfold wkRg1E at he0
    split at he0
    · rename_i x p a pos _
      split at he0
      · rename_i c
        cases he0
        simp only [Bool.and_eq_true] at c
        obtain ⟨⟨c1, c2⟩, c3⟩ := c
        obtain ⟨rfl, g1, g2⟩ := wk_bl h c1 c2
        exact it_range g1 g2 pa (star_un c3 [] X.env)
      · cases he0
    · cases he0
  | range2 =>
    have he0 : wkRg2E G Z iter = some es := he0
    unfold wkRg2E at he0
    split at he0
    · rename_i x p a b pos _
      split at he0
      · rename_i c
        cases he0
        simp only [Bool.and_eq_true] at c
        obtain ⟨⟨⟨c1, c2⟩, c3⟩, c4⟩ := c
        obtain ⟨rfl, g1, g2⟩ := wk_bl h c1 c2
        exact it_range2 g1 g2 pa (by rw [star_un c3, star_un c4]; rfl) (star_un c4 [] X.env)
      · cases he0
    · cases he0
theorem dL_len : ∀ {xs : OL} {env : En} {as : List Ag} {e : En}, dL C xs env = .ok as e → as.length = olLen xs
  | .nil, env, as, e, h => by
    have h : Res.ok [] env = .ok as e := h
    cases h; rfl
  | .cons o r, env, as, e, h => by
    have h : ((dO C o env).bind fun x e1 => (dL C r e1).bind fun xs e2 => .ok (x :: xs) e2) = .ok as e := h
    obtain ⟨x, e1, _, h⟩ := bind_ok h
    obtain ⟨xs, e2, h2, h⟩ := bind_ok h
    cases h
    exact congrArg (· + 1) (dL_len h2)
end
end Dk

set_option Elab.async false
set_option linter.all false
set_option autoImplicit false
set_option maxRecDepth 100000
set_option maxHeartbeats 4000000
/-! Dk19: expressions keep what the interpreter says. -/
namespace Dk
open PySem PySem.Spec PyProof.Rows L2

theorem ptsI {X : Cx} {ifs : List Expr} {t t' : TT} (h : PTs X ifs t) (m : ∀ σ H Q, t' σ H Q → t σ H Q) : PTs X ifs t' := ⟨fun pins s σ H Q I q => h.run pins s σ H Q I (m σ H Q q)⟩
theorem pts_yes {X : Cx} : PTs X [] (tB fun env => .ok true env) := ptsI pts_nil fun σ H Q q => by
  obtain ⟨F, env, r, env', m, e, k⟩ := tB_iff.mp q
  cases e
  exact k H Xs.refl m
theorem shp_ok {i : FnI} {n : Nat} {ks : List Str} {sg : List Sr} (h : shpB i n ks sg = true) : (n, ks, sg) ∈ i.shp := by
  obtain ⟨s, h1, h2⟩ := List.any_eq_true.mp h
  have := of_decide_eq_true h2
  subst this
  exact h1
theorem blkP {N : List Str} {own : List Nat} : (ownP N own).map (·.2) = own := by
  unfold ownP
  rw [List.map_map]
  exact List.map_id _
theorem lc_blk {G : Tb} {C : Cn} {Z : Sco} {X : Cx} (h : CkOk G C Z X) {scope : Scope} {own : List Nat} {tg : Tg} {iter : Expr} (e : lcB Z scope own tg iter = true) : BlkOk X.N X.env.scope scope (ownP Z.N own) ∧ tgIn tg own = true ∧ notSetB iter = true := by
  unfold lcB at e
  rw [Bool.and_eq_true, Bool.and_eq_true] at e
  exact ⟨by rw [h.N, h.sc]; exact blkOk_by e.1.1, e.1.2, e.2⟩
theorem no_call {G : Tb} {C : Cn} {Z : Sco} {X : Cx} (h : CkOk G C Z X) {f : Nat} {i : FnI} {xs kx : OL} {sg : List Sr} {x : Str} {p pos : Pos} {es : List Expr} {kws : List Keyword} (hf : G.fn f = some i) (hn : i.name = x) (hg : Gl X x) (hd : (x == ("__debug__" : Str)) = false) (hs : (olLen xs, kws.filterMap (·.arg), sg) ∈ i.shp)
    (hk : olLen kx = (kws.filterMap (·.arg)).length) (hall : kws.all (·.arg.isSome) = true) (hu : es.all unst = true) (hsg : sg.all Sr.ok = true) (pa : PA X es (tL (dL C xs))) (pk : PK X kws (tL (dL C kx))) (h0 : es = [] → xs = .nil) :
    PE X (.Call (.Name x p) es kws pos) (tE fun env => ((dL C xs env).bind fun as e1 => (dL C kx e1).bind fun bs e2 => .ok (as ++ bs) e2).bind fun as e1 => callD C f sg as e1) := by
  obtain ⟨hio, k, adr, fd, F, hr, hm, hkp, hb⟩ := h.fns f i hf
  rw [hn] at hm
  have b := hb _ _ _ hs
  have main : PE X (.Call (.Name x p) es kws pos) (tCallS (spF C.call i.io f) sg (olLen xs) (kws.filterMap (·.arg)).length L2.E0 (tL (dL C xs)) (tL (dL C kx))) := by
    cases es with
    | nil =>
      have := h0 rfl
      subst this
      refine peI (pe_callS0 F hr hg hm hkp b pass0 pk hall rfl hd) fun σ H Q q => ?_
      obtain ⟨F', env, r, env', m, e, k⟩ := tL_iff.mp q
      have e : Res.ok [] env = .ok r env' := e
      cases e
      exact k [] H F' Xs.refl (Or.refl m) ⟨List.nodup_nil, fun a h => by cases h⟩ .nil
    | cons e es => exact pe_callS F hr hg hm hkp b pass0 pa pk hall rfl hu hd
  refine ev_call (E := L2.E0) hsg (peI main fun σ H Q q => ?_)
  have q2 := tL2 (n := olLen xs) (m := (kws.filterMap (·.arg)).length) (fun env as e h => dL_len h) (fun env as e h => by rw [← hk]; exact dL_len h) q
  rw [hio] at q2
  exact q2
section
variable {G : Tb} {C : Cn}
mutual
theorem mE_ok : ∀ (e : E) (Z : Sco) (X : Cx), CkOk G C Z X → ∀ a : Expr, mE G Z e a = true → PE X a (tE (dE C e))
  | .lit p, Z, X, h, a, q => lit_ok q
  | .var i, Z, X, h, a, q => by
    cases a with
    | Name x p =>
      obtain ⟨h1, h2, h3, h4⟩ := sl_ok h q
      exact ev_var h1 h2 h3 h4
    | _ => cases q
  | .mv i, Z, X, h, a, q => by
    cases a with
    | Name x p =>
      obtain ⟨h1, h2, h3, h4⟩ := sl_ok h q
      exact ev_mv h1 h2 h3 h4
    | _ => cases q
  | .con k, Z, X, h, a, q => by
    cases a with
    | Name x p =>
      have q : (glB Z.sc x && dbgB x && match G.con k with | some (y, _) => y == x | none => false) = true := q
      rw [Bool.and_eq_true, Bool.and_eq_true] at q
      obtain ⟨⟨q1, q2⟩, q3⟩ := q
      split at q3
      · rename_i y p hk
        have := eq_of_beq q3
        subst this
        obtain ⟨c1, c2, u, c3, c4⟩ := h.con k _ _ hk
        exact ev_con (pe_glob (gl_ok h q1) c3 c4 (dbg_ok q2).1) c2 c1
      · cases q3
    | _ => cases q
  | .bin op l r, Z, X, h, a, q => by
    cases a with
    | BinOp l' op' r' p =>
      have q : (op == op' && mO G Z l l' && mO G Z r r') = true := q
      rw [Bool.and_eq_true, Bool.and_eq_true] at q
      have := eq_of_beq q.1.1
      subst this
      exact ev_bin op (mO_ok l Z X h l' q.1.2) (mO_ok r Z X h r' q.2)
    | _ => cases q
  | .neg l, Z, X, h, a, q => by
    cases a with
    | UnaryOp op l' p => cases op with
      | USub => exact ev_neg (mO_ok l Z X h l' q)
      | _ => cases q
    | _ => cases q
  | .cmp op l r, Z, X, h, a, q => by
    cases a with
    | Compare l' ops rs p =>
      match ops, rs, q with
      | [op'], [r'], q =>
        have q : (op == op' && mO G Z l l' && mO G Z r r' && !behindInMarks op r') = true := q
        simp only [Bool.and_eq_true, Bool.not_eq_true'] at q
        have := eq_of_beq q.1.1.1
        subst this
        exact ev_cmp h.hu op (mO_ok l Z X h l' q.1.1.2) (mO_ok r Z X h r' q.1.2) q.2
      | [], _, q => cases q
      | [_], [], q => cases q
      | [_], _ :: _ :: _, q => cases q
      | _ :: _ :: _, _, q => cases q
    | _ => cases q
  | .chn op o2 l r t, Z, X, h, a, q => by
    cases a with
    | Compare l' ops rs p =>
      match ops, rs, q with
      | [op', o2'], [r', t'], q =>
        have q : (op == op' && o2 == o2' && mO G Z l l' && mO G Z r r' && mO G Z t t' && !lastMarks [op, o2] [r', t']) = true := q
        simp only [Bool.and_eq_true, Bool.not_eq_true'] at q
        have := eq_of_beq q.1.1.1.1.1
        subst this
        have := eq_of_beq q.1.1.1.1.2
        subst this
        exact ev_chn h.hu op o2 (mO_ok l Z X h l' q.1.1.1.2) (mO_ok r Z X h r' q.1.1.2) (mO_ok t Z X h t' q.1.2) q.2
      | [], _, q => cases q
      | [_], _, q => cases q
      | [_, _], [], q => cases q
      | [_, _], [_], q => cases q
      | [_, _], _ :: _ :: _ :: _, q => cases q
      | _ :: _ :: _ :: _, _, q => cases q
    | _ => cases q
  | .notE l, Z, X, h, a, q => by
    cases a with
    | UnaryOp op l' p => cases op with
      | Not => exact ev_not (mO_ok l Z X h l' q)
      | _ => cases q
    | _ => cases q
  | .andE l r, Z, X, h, a, q => by
    cases a with
    | BoolOp op vs p => cases op with
      | Or => cases q
      | And =>
        match vs, q with
        | [x, y], q =>
          have q : (mE G Z l x && mE G Z r y) = true := q
          rw [Bool.and_eq_true] at q
          exact ev_and (mE_ok l Z X h x q.1) (pe_one (mE_ok r Z X h y q.2))
        | x :: y :: z :: w, q =>
          have q : (mE G Z l x && mE G Z r (.BoolOp .And (y :: z :: w) p)) = true := q
          rw [Bool.and_eq_true] at q
          exact ev_and (mE_ok l Z X h x q.1) (mE_ok r Z X h _ q.2)
        | [], q => cases q
        | [_], q => cases q
    | _ => cases q
  | .orE l r, Z, X, h, a, q => by
    cases a with
    | BoolOp op vs p => cases op with
      | And => cases q
      | Or =>
        match vs, q with
        | [x, y], q =>
          have q : (mE G Z l x && mE G Z r y) = true := q
          rw [Bool.and_eq_true] at q
          exact ev_or (mE_ok l Z X h x q.1) (pe_one (mE_ok r Z X h y q.2))
        | x :: y :: z :: w, q =>
          have q : (mE G Z l x && mE G Z r (.BoolOp .Or (y :: z :: w) p)) = true := q
          rw [Bool.and_eq_true] at q
          exact ev_or (mE_ok l Z X h x q.1) (mE_ok r Z X h _ q.2)
        | [], q => cases q
        | [_], q => cases q
    | _ => cases q
  | .ite t l r, Z, X, h, a, q => by
    cases a with
    | IfExp c x y p =>
      have q : (mT G Z t c && mE G Z l x && mE G Z r y) = true := q
      rw [Bool.and_eq_true, Bool.and_eq_true] at q
      exact ev_ite (mT_ok t Z X h c q.1.1) (mE_ok l Z X h x q.1.2) (mE_ok r Z X h y q.2)
    | _ => cases q
  | .lstD xs, Z, X, h, a, q => by
    cases a with
    | List es p => exact ev_lst (mD_ok xs Z X h es q)
    | _ => cases q
  | .tupD xs, Z, X, h, a, q => by
    cases a with
    | Tuple es k p => exact ev_tup (mD_ok xs Z X h es q)
    | _ => cases q
  | .ix l i, Z, X, h, a, q => by
    cases a with
    | Subscript l' i' p =>
      have q : (mO G Z l l' && mO G Z i i' && plainIxB i') = true := q
      rw [Bool.and_eq_true, Bool.and_eq_true] at q
      exact ev_ix h.hu (mO_ok l Z X h l' q.1.1) (mO_ok i Z X h i' q.1.2) (plainIx_ok q.2)
    | _ => cases q
  | .sl l lo hi, Z, X, h, a, q => by
    cases a with
    | Subscript l' i' p => cases i' with
      | Slice lo' hi' st p2 => cases st with
        | none =>
          have q : (mO G Z l l' && mP G Z lo lo' && mP G Z hi hi') = true := q
          rw [Bool.and_eq_true, Bool.and_eq_true] at q
          exact ev_sl (mO_ok l Z X h l' q.1.1) (mP_ok lo Z X h lo' q.1.2) (mP_ok hi Z X h hi' q.2)
        | some _ => cases q
      | _ => cases q
    | _ => cases q
  | .rev l, Z, X, h, a, q => by
    replace q : (match revA a with
      | some a' => mO G Z l a'
      | none => false) = true := q
    split at q
    · rename_i a' e
      obtain ⟨k, p1, p2, p3, pos, rfl⟩ := revA_ok e
      exact ev_rev (mO_ok l Z X h a' q)
    · cases q
  | .isi l ts, Z, X, h, a, q => by
    replace q : (match isiA a with
      | some (x, a', t') => x == ("isinstance" : Str) && blB G Z x && mO G Z l a' && unst a' && isiT G Z ts t'
      | none => false) = true := q
    split at q
    · rename_i x a' t' e
      obtain ⟨p, pos, rfl⟩ := isiA_ok e
      simp only [Bool.and_eq_true] at q
      obtain ⟨⟨⟨⟨q1, q2⟩, q3⟩, q4⟩, q5⟩ := q
      obtain ⟨g1, g2, g3, g4, g5⟩ := isi_head h q1 q2
      have pa := mO_ok l Z X h a' q3
      cases t' with
      | Name y p2 =>
       match ts, q5 with
       | [t], q5 =>
        have q5 : (y == tyNm t && blB G Z y) = true := q5
        rw [Bool.and_eq_true] at q5
        exact ev_isi1 (pe_callB call_isi g1 g2 g3 (pa_cons pa (pa_cons (ty_pe h q5.1 q5.2) pa_nil rfl) (star_un q4 _ _)) g4 g5 (star_un q4 _ _) rfl)
       | [], q5 => cases q5
       | _ :: _ :: _, q5 => cases q5
      | Tuple es k p2 =>
        have q5 : (tysB G Z ts es && decide (ts.length ≤ 10)) = true := q5
        rw [Bool.and_eq_true, decide_eq_true_eq] at q5
        exact ev_isiT q5.2 (pe_callB call_isiT g1 g2 g3 (pa_cons pa (pa_cons (pe_tup (tys_pe h q5.1)) pa_nil rfl) (star_un q4 _ _)) g4 g5 (star_un q4 _ _) rfl)
      | _ => cases q5
    · cases q
  | .cb f xs, Z, X, h, a, q => by
    replace q : (match cbA a with
      | some (x, e, es) => x == f.nm && f.has && blB G Z x && (e :: es).all unst && mL G Z xs (e :: es)
      | none => false) = true := q
    split at q
    · rename_i x e es he
      obtain ⟨p, pos, rfl⟩ := cbA_ok he
      simp only [Bool.and_eq_true] at q
      obtain ⟨⟨⟨⟨q1, q2⟩, q3⟩, q4⟩, q5⟩ := q
      have := eq_of_beq q1
      subst this
      exact ev_cal (bf_ok h q2 q3 q4 (mL_ok xs Z X h _ q5 q4).1)
    · cases q
  | .rg tup o, Z, X, h, a, q => by
    replace q : (match rgA a with
      | some (x, y, a') => x == (if tup then ("tuple" : Str) else ("list" : Str)) && y == ("range" : Str) && blB G Z x && blB G Z y && unst a' && mO G Z o a'
      | none => false) = true := q
    split at q
    · rename_i x y a' e
      obtain ⟨p, p2, p3, pos, rfl⟩ := rgA_ok e
      simp only [Bool.and_eq_true] at q
      obtain ⟨⟨⟨⟨⟨q1, q2⟩, q3⟩, q4⟩, q5⟩, q6⟩ := q
      obtain ⟨rfl, g1, g2⟩ := wk_bl h q1 q3
      obtain ⟨rfl, g3, g4⟩ := wk_bl h q2 q4
      have pr := prg_1 (p := p2) (pos := p3) g3 g4 (mO_ok o Z X h a' q6) (star_un q5 [] _)
      cases tup with
      | true => exact ev_rgL (e := a') (p := p) (pos := p) (te := tRg1 (tO (dO C o))) true (pe_tupRg h.calm g1 g2 pr rfl)
      | false => exact ev_rgL (e := a') (p := p) (pos := p) (te := tRg1 (tO (dO C o))) false (pe_listRg h.calm g1 g2 pr rfl)
    · cases q
  | .mt m (.v eo) (.cons o1 .nil), Z, X, h, a, q => by
    replace q : (match mtA a with
      | some (o', nm, b, e') => nm == m.nm && m.has && b && recvB o' && unst e' && mE G Z eo o' && mO G Z o1 e'
      | none => false) = true := q
    split at q
    · rename_i o' nm b e' he
      obtain ⟨ap, cp, rfl, hb⟩ := mtA_ok he
      simp only [Bool.and_eq_true] at q
      obtain ⟨⟨⟨⟨⟨⟨q1, q2⟩, q3⟩, q4⟩, q5⟩, q6⟩, q7⟩ := q
      have := eq_of_beq q1
      subst this
      rw [q3] at hb
      have po := ev_ov (mE_ok eo Z X h o' q6)
      have pa := mO_ok o1 Z X h e' q7
      have key : PE X (.Call (.Attribute o' m.nm ap) [e'] [] cp) (tM1 (rM m) (tO (dO C (.v eo))) (tO (dO C o1))) := by
        cases m with
        | join => exact pe_m1 PySem.F.slot_str_join PySem.F.type_str_join mt_joinM po pa (star_un q5 [] _) (recv_ok q4) hb
        | split => exact pe_m1 PySem.F.slot_str_split PySem.F.type_str_split mt_splitM po pa (star_un q5 [] _) (recv_ok q4) hb
        | _ => cases q2
      exact ev_mt1 (g := dE C eo) (fe := dO C o1) key
    · cases q
  | .mt m (.b i) xs, Z, X, h, a, q => by cases q
  | .mt m (.t e) xs, Z, X, h, a, q => by cases q
  | .mt m (.v eo) .nil, Z, X, h, a, q => by cases q
  | .mt m (.v eo) (.cons o1 (.cons o2 r)), Z, X, h, a, q => by cases q
  | .pop i xs, Z, X, h, a, q => by
    replace q : (match metA a with
      | some (x, m, b, es) => slB Z i x && m == ("pop" : Str) && b && es.all unst && decide (es.length ≤ 1) && mL G Z xs es
      | none => false) = true := q
    split at q
    · rename_i x m b es he
      obtain ⟨p, ap, cp, rfl, hb⟩ := metA_ok he
      simp only [Bool.and_eq_true, decide_eq_true_eq] at q
      obtain ⟨⟨⟨⟨⟨q1, q2⟩, q3⟩, q4⟩, q5⟩, q6⟩ := q
      have := eq_of_beq q2
      subst this
      rw [q3] at hb
      obtain ⟨h1, h2, h3, h4⟩ := sl_ok h q1
      have pv := pe_var (pos := p) h1 h2 h3 h4
      have pl := (mL_ok xs Z X h _ q6 q4).1
      cases es with
      | nil =>
        cases xs with
        | nil => exact ev_pop (ev_pop0 (pe_bm0 PySem.F.plainAttrs_list PySem.F.slot_list_pop PySem.F.type_list_pop mt_popB pv rfl hb))
        | cons _ _ => cases q6
      | cons e es =>
        cases es with
        | nil =>
          have u : unst e = true := by
            rw [List.all_cons, Bool.and_eq_true] at q4
            exact q4.1
          have s1 := star_un u [] X.env
          exact ev_pop (pe_bm PySem.F.plainAttrs_list PySem.F.slot_list_pop PySem.F.type_list_pop mt_popB pv pl rfl (by rw [s1]; rfl) hb s1 rfl)
        | cons _ _ => exact absurd q5 (by simp)
    · cases q
  | .call f xs kx sg, Z, X, h, a, q => by
    cases a with
    | Call fn es kws pos => cases fn with
      | Name x p =>
        replace q : (match G.fn f with
          | some i => i.name == x && glB Z.sc x && dbgB x && shpB i (olLen xs) (kws.filterMap (·.arg)) sg && decide (olLen kx = (kws.filterMap (·.arg)).length) && kws.all (·.arg.isSome) && es.all unst && sg.all Sr.ok && mL G Z xs es && mK G Z kx kws
          | none => false) = true := q
        split at q
        · rename_i i hf
          simp only [Bool.and_eq_true, decide_eq_true_eq] at q
          obtain ⟨⟨⟨⟨⟨⟨⟨⟨⟨q1, q2⟩, q3⟩, q4⟩, q5⟩, q6⟩, q7⟩, q8⟩, q9⟩, q10⟩ := q
          refine no_call h hf (eq_of_beq q1) (gl_ok h q2) (dbg_ok q3).1 (shp_ok q4) q5 q6 q7 q8 (mL_ok xs Z X h es q9 q7).1 (mK_ok kx Z X h kws q10) fun e => ?_
          subst e
          cases xs with
          | nil => rfl
          | cons _ _ => cases q9
        · cases q
      | _ => cases q
    | _ => cases q
  | .lc elt tg w xs ifs own, Z, X, h, a, q => by
    replace q : (match lcA a with
      | some (e, tg', iter, ifs', scope) => lcB Z scope own tg iter && (match wkE G Z w iter tg' with | some es => es.all unst && mL G Z xs es | none => false) && mTO G (blk Z scope) ifs ifs' && mE G (blk Z scope) elt e && tgB (blk Z scope) tg tg'
      | none => false) = true := q
    split at q
    · rename_i e tg' iter ifs' scope he
      obtain ⟨pos, rfl⟩ := lcA_ok he
      simp only [Bool.and_eq_true] at q
      obtain ⟨⟨⟨⟨q1, q2⟩, q3⟩, q4⟩, q5⟩ := q
      obtain ⟨b1, b2, b3⟩ := lc_blk h q1
      split at q2
      · rename_i es hw
        rw [Bool.and_eq_true] at q2
        have pi := wk_ok h hw q2.2 (mL_ok xs Z X h es q2.2 q2.1).1 (mL_ok xs Z X h es q2.2 q2.1).2
        refine peI (pe_lc (g := gTg X.K tg) h.calm (by rw [h.N]; exact h.nd) pi b1 (fun s H c cl fp => tg_ok (h.blk s H c cl fp) q5) (fun s H c cl fp => mTO_ok ifs _ _ (h.blk s H c cl fp) ifs' q3) (fun s H c cl fp => mE_ok elt _ _ (h.blk s H c cl fp) e q4) (notSet_ok b3 _)) fun σ H Q q => ?_
        rw [blkP]
        exact lc_k b2 q
      · cases q2
    · cases q
  | .lc2 elt tg w xs ifs tg1 w1 xs1 ifs1 own own1, Z, X, h, a, q => by
    replace q : (match lc2A a with
      | some (e, tg', iter, ifs', tg1', iter1, ifs1', scope) => lcB Z scope own tg iter && (match wkE G Z w iter tg' with | some es => es.all unst && mL G Z xs es | none => false) && mTO G (blk Z scope) ifs ifs' && mE G (blk Z scope) elt e && tgB (blk Z scope) tg tg'
        && tgB (blk Z scope) tg1 tg1' && tgIn tg1 own1 && own1.all (fun v => decide (v ∈ own)) && notSetB iter1 && (match wkE G (blk Z scope) w1 iter1 tg1' with | some es => es.all unst && mL G (blk Z scope) xs1 es | none => false) && mTO G (blk Z scope) ifs1 ifs1'
      | none => false) = true := q
    split at q
    · rename_i e tg' iter ifs' tg1' iter1 ifs1' scope he
      obtain ⟨pos, rfl⟩ := lc2A_ok he
      simp only [Bool.and_eq_true] at q
      obtain ⟨⟨⟨⟨⟨⟨⟨⟨⟨⟨q1, q2⟩, q3⟩, q4⟩, q5⟩, r1⟩, r2⟩, r3⟩, r4⟩, r5⟩, r6⟩ := q
      obtain ⟨b1, b2, b3⟩ := lc_blk h q1
      have hsub : ∀ v ∈ own1, v ∈ own := fun v hv => of_decide_eq_true (List.all_eq_true.mp r3 v hv)
      split at q2
      · rename_i es hw
        rw [Bool.and_eq_true] at q2
        have pi := wk_ok h hw q2.2 (mL_ok xs Z X h es q2.2 q2.1).1 (mL_ok xs Z X h es q2.2 q2.1).2
        split at r5
        · rename_i es1 hw1
          rw [Bool.and_eq_true] at r5
          have pi1 : ∀ (s : Shared) (H : Hp) (c : Addr) (cl : List (Str × Addr)) (fp : List Addr), PI (X.blk s H scope (compEnvC scope cl c X.env) fp) tg1' iter1 (tW fun env => (dL C xs1 env).bind fun as e1 => wkX w1 as e1) := fun s H c cl fp => by
            have h' := h.blk s H c cl fp (scope := scope)
            have pl := mL_ok xs1 _ _ h' es1 r5.2 r5.1
            exact wk_ok h' hw1 r5.2 pl.1 pl.2
          refine peI (pe_lc2 (g := gTg X.K tg) (g1 := gTg X.K tg1) (vs1 := own1) h.calm (by rw [h.N]; exact h.nd) pi b1 (by rw [blkP]; exact hsub) (fun s H c cl fp => tg_ok (h.blk s H c cl fp) q5) (fun s H c cl fp => mTO_ok ifs _ _ (h.blk s H c cl fp) ifs' q3) pi1 (fun s H c cl fp => tg_ok (h.blk s H c cl fp) r1) (fun s H c cl fp => mTO_ok ifs1 _ _ (h.blk s H c cl fp) ifs1' r6) (fun s H c cl fp => mE_ok elt _ _ (h.blk s H c cl fp) e q4) (notSet_ok b3 _) (fun env => notSet_ok r4 env)) fun σ H Q q => ?_
          rw [blkP]
          exact lc2_k b2 r2 hsub q
        · cases r5
      · cases q2
    · cases q
theorem mO_ok : ∀ (o : O) (Z : Sco) (X : Cx), CkOk G C Z X → ∀ a : Expr, mO G Z o a = true → PE X a (tO (dO C o))
  | .v e, Z, X, h, a, q => ev_ov (mE_ok e Z X h a q)
  | .b i, Z, X, h, a, q => by
    cases a with
    | Name x p =>
      obtain ⟨h1, h2, h3, h4⟩ := sl_ok h q
      exact ev_ob h1 h2 h3 h4
    | _ => cases q
  | .t e, Z, X, h, a, q => ev_ot (mE_ok e Z X h a q)
theorem mL_ok : ∀ (o : OL) (Z : Sco) (X : Cx), CkOk G C Z X → ∀ es : List Expr, mL G Z o es = true → es.all unst = true → PA X es (tL (dL C o)) ∧ ∀ (o' : O) (e' : Expr), o = .cons o' .nil → es = [e'] → PE X e' (tO (dO C o'))
  | .nil, Z, X, h, [], q, u => ⟨ev_lnil, fun _ _ e _ => by cases e⟩
  | .nil, Z, X, h, _ :: _, q, u => by cases q
  | .cons o r, Z, X, h, [], q, u => by cases q
  | .cons o r, Z, X, h, e :: es, q, u => by
    have q : (mO G Z o e && mL G Z r es) = true := q
    rw [Bool.and_eq_true] at q
    rw [List.all_cons, Bool.and_eq_true] at u
    have p1 := mO_ok o Z X h e q.1
    refine ⟨ev_lcons p1 (mL_ok r Z X h es q.2 u.2).1 (star_un u.1 es X.env), fun o' e' e1 e2 => ?_⟩
    cases e1
    cases e2
    exact p1
theorem mK_ok : ∀ (o : OL) (Z : Sco) (X : Cx), CkOk G C Z X → ∀ es : List Keyword, mK G Z o es = true → PK X es (tL (dL C o))
  | .nil, Z, X, h, [], q => ev_knil
  | .nil, Z, X, h, _ :: _, q => by cases q
  | .cons o r, Z, X, h, [], q => by cases q
  | .cons o r, Z, X, h, ⟨nm, e, kp⟩ :: es, q => by
    have q : (mO G Z o e && mK G Z r es) = true := q
    rw [Bool.and_eq_true] at q
    exact ev_kcons (mO_ok o Z X h e q.1) (mK_ok r Z X h es q.2)
theorem mP_ok : ∀ (o : PO) (Z : Sco) (X : Cx), CkOk G C Z X → ∀ a : Option Expr, mP G Z o a = true → L2.PO X a (tI (dP C o))
  | .none, Z, X, h, none, q => ev_ino
  | .none, Z, X, h, some _, q => by cases q
  | .some e, Z, X, h, none, q => by cases q
  | .some e, Z, X, h, some a, q => ev_isome (mE_ok e Z X h a q)
theorem mD_ok : ∀ (o : DL) (Z : Sco) (X : Cx), CkOk G C Z X → ∀ es : List Expr, mD G Z o es = true → PA X es (tD (dD C o))
  | .nil, Z, X, h, [], q => ev_nil
  | .nil, Z, X, h, _ :: _, q => by cases q
  | .one e r, Z, X, h, [], q => by cases q
  | .one e r, Z, X, h, a :: es, q => by
    have q : (unst a && mE G Z e a && mD G Z r es) = true := q
    rw [Bool.and_eq_true, Bool.and_eq_true] at q
    exact ev_cons (mE_ok e Z X h a q.1.2) (mD_ok r Z X h es q.2) (star_un q.1.1 es X.env)
  | .star o r, Z, X, h, [], q => by cases q
  | .star o r, Z, X, h, a :: es, q => by
    cases a with
    | Starred a' p =>
      have q : (mO G Z o a' && mD G Z r es) = true := q
      rw [Bool.and_eq_true] at q
      exact ev_star (mO_ok o Z X h a' q.1) (mD_ok r Z X h es q.2)
    | _ => cases q
theorem mT_ok : ∀ (t : T) (Z : Sco) (X : Cx), CkOk G C Z X → ∀ a : Expr, mT G Z t a = true → PT X a (tB (dT C t))
  | .cmp op l r, Z, X, h, a, q => by
    cases a with
    | Compare l' ops rs p =>
      match ops, rs, q with
      | [op'], [r'], q =>
        have q : (op == op' && mO G Z l l' && mO G Z r r' && !behindInMarks op r') = true := q
        simp only [Bool.and_eq_true, Bool.not_eq_true'] at q
        have := eq_of_beq q.1.1.1
        subst this
        exact tv_cmp h.hu op (mO_ok l Z X h l' q.1.1.2) (mO_ok r Z X h r' q.1.2) q.2
      | [], _, q => cases q
      | [_], [], q => cases q
      | [_], _ :: _ :: _, q => cases q
      | _ :: _ :: _, _, q => cases q
    | _ => cases q
  | .chn op o2 l r t, Z, X, h, a, q => by
    cases a with
    | Compare l' ops rs p =>
      match ops, rs, q with
      | [op', o2'], [r', t'], q =>
        have q : (op == op' && o2 == o2' && mO G Z l l' && mO G Z r r' && mO G Z t t' && !lastMarks [op, o2] [r', t']) = true := q
        simp only [Bool.and_eq_true, Bool.not_eq_true'] at q
        have := eq_of_beq q.1.1.1.1.1
        subst this
        have := eq_of_beq q.1.1.1.1.2
        subst this
        exact tv_chn h.hu op o2 (mO_ok l Z X h l' q.1.1.1.2) (mO_ok r Z X h r' q.1.1.2) (mO_ok t Z X h t' q.1.2) q.2
      | [], _, q => cases q
      | [_], _, q => cases q
      | [_, _], [], q => cases q
      | [_, _], [_], q => cases q
      | [_, _], _ :: _ :: _ :: _, q => cases q
      | _ :: _ :: _ :: _, _, q => cases q
    | _ => cases q
  | .and l r, Z, X, h, a, q => by
    cases a with
    | BoolOp op vs p => cases op with
      | Or => cases q
      | And =>
        match vs, q with
        | [x, y], q =>
          have q : (mT G Z l x && mT G Z r y) = true := q
          rw [Bool.and_eq_true] at q
          exact (tv_and (mT_ok l Z X h x q.1) (pw_and1 (mT_ok r Z X h y q.2))).pt
        | x :: y :: z :: w, q =>
          have q : (mT G Z l x && mT G Z r (.BoolOp .And (y :: z :: w) p)) = true := q
          rw [Bool.and_eq_true] at q
          exact (tv_and (mT_ok l Z X h x q.1) (pw_of (mT_ok r Z X h _ q.2))).pt
        | [], q => cases q
        | [_], q => cases q
    | _ => cases q
  | .or l r, Z, X, h, a, q => by
    cases a with
    | BoolOp op vs p => cases op with
      | And => cases q
      | Or =>
        match vs, q with
        | [x, y], q =>
          have q : (mT G Z l x && mT G Z r y) = true := q
          rw [Bool.and_eq_true] at q
          exact (tv_or (mT_ok l Z X h x q.1) (pw_or1 (mT_ok r Z X h y q.2))).pt
        | x :: y :: z :: w, q =>
          have q : (mT G Z l x && mT G Z r (.BoolOp .Or (y :: z :: w) p)) = true := q
          rw [Bool.and_eq_true] at q
          exact (tv_or (mT_ok l Z X h x q.1) (pw_of (mT_ok r Z X h _ q.2))).pt
        | [], q => cases q
        | [_], q => cases q
    | _ => cases q
  | .not t, Z, X, h, a, q => by
    cases a with
    | UnaryOp op l' p => cases op with
      | Not => exact tv_not (mT_ok t Z X h l' q)
      | _ => cases q
    | _ => cases q
  | .pl o, Z, X, h, a, q => by
    have q : (plainTB a && mO G Z o a) = true := q
    rw [Bool.and_eq_true] at q
    exact tv_pl (mO_ok o Z X h a q.2) (plainT_ok q.1)
theorem mTO_ok : ∀ (t : TO) (Z : Sco) (X : Cx), CkOk G C Z X → ∀ es : List Expr, mTO G Z t es = true → PTs X es (tB (dTO C t))
  | .none, Z, X, h, [], q => pts_yes
  | .none, Z, X, h, _ :: _, q => by cases q
  | .some t, Z, X, h, [], q => by cases q
  | .some t, Z, X, h, [a], q => pts_one (mT_ok t Z X h a q)
  | .some t, Z, X, h, _ :: _ :: _, q => by cases q
end
end
end Dk

set_option Elab.async false
set_option linter.all false
set_option autoImplicit false
set_option maxRecDepth 100000
set_option maxHeartbeats 4000000
/-! Dk20: statements keep what the interpreter says. -/
namespace Dk
open PySem PySem.Spec PyProof.Rows L2

/-! ### which stores -/
theorem sw_lc {elt : Expr} {gs : List Comprehension} {scope : Scope} {pos py : Pos} {y : Str} {l : Nat} {env : Env} (hk : env.scope.kind = .function) :
    swapsWith (.ListComp elt gs scope pos) (some (.Name y py)) l env = pure ((env.kindOf y == some .local) && py.line == pos.line && !(scope.names.any fun (n, k) => n == y && (k == .local || k == .cell))) := by
  have hb : env.blockKind = .function := by unfold Env.blockKind; rw [hk]; rfl
  unfold swapsWith
  simp only [hb, Expr.pos]
  rfl
def swLC (sc : Scope) (y : Str) (py : Pos) : Expr → Bool
  | .ListComp _ _ scope pos => (sc.names.lookup y == some .local) && py.line == pos.line && !(scope.names.any fun (n, k) => n == y && (k == .local || k == .cell))
  | _ => false
def isLC : Expr → Bool
  | .ListComp _ _ _ _ => true
  | _ => false
def allLoc (sc : Scope) (l : Nat) : List Expr → Bool
  | [] => true
  | .Name x p :: es => (sc.names.lookup x == some .local) && p.line == l && allLoc sc l es
  | _ => false
theorem swN_cell2 {x y : Str} {px py pt : Pos} {vs : List Expr} {kt k2 : Nat} {pt2 : Pos} {env : Env} (h : ((env.kindOf x == some .local) && (env.kindOf y == some .local) && py.line == px.line) = false) : swappedStores [.Tuple [.Name x px, .Name y py] kt pt] (.Tuple vs k2 pt2) env = pure none := by
  unfold swappedStores
  simp only [List.length, List.filterMap, List.head?, Option.map, Option.getD, Expr.pos, beq_self_eq_true, Bool.and_true]
  split
  · rfl
  split
  · rfl
  rcases Bool.eq_false_or_eq_true (env.kindOf x == some NameKind.local) with hx | hx <;> rcases Bool.eq_false_or_eq_true (env.kindOf y == some NameKind.local) with hy | hy <;> rcases Bool.eq_false_or_eq_true (py.line == px.line) with hl | hl <;> simp only [hx, hy, hl] at h <;> simp only [hx, hy, hl, Bool.and_self, Bool.and_false, Bool.false_and, Bool.true_and, Bool.and_true, if_true, if_false, Bool.false_eq_true] <;> first | rfl | exact absurd h (by simp)
theorem swN_cell3 {x y z : Str} {px py pz pt : Pos} {vs : List Expr} {kt k2 : Nat} {pt2 : Pos} {env : Env} (h : ((env.kindOf x == some .local) && ((env.kindOf y == some .local) && py.line == px.line) && ((env.kindOf z == some .local) && pz.line == px.line)) = false) : swappedStores [.Tuple [.Name x px, .Name y py, .Name z pz] kt pt] (.Tuple vs k2 pt2) env = pure none := by
  unfold swappedStores
  simp only [List.length, List.filterMap, List.head?, Option.map, Option.getD, Expr.pos, beq_self_eq_true, Bool.and_true]
  split
  · rfl
  split
  · rfl
  rcases Bool.eq_false_or_eq_true (env.kindOf x == some NameKind.local) with hx | hx <;> rcases Bool.eq_false_or_eq_true ((env.kindOf y == some NameKind.local) && py.line == px.line) with hy | hy <;> rcases Bool.eq_false_or_eq_true ((env.kindOf z == some NameKind.local) && pz.line == px.line) with hl | hl <;> simp only [hx, hy, hl] at h <;> simp only [hx, hy, hl, Bool.and_self, Bool.and_false, Bool.false_and, Bool.true_and, Bool.and_true, if_true, if_false, Bool.false_eq_true] <;> first | rfl | exact absurd h (by simp)

/-! ### the tests -/
def par2B (Z : Sco) (is : List Nat) (es vs : List Expr) : Bool :=
  match is, es, vs with
  | [i, j], [.Name x px, .Name y py], [a, b] => locB Z i x && locB Z j y && decide (i ≠ j) && py.line == px.line && !(x == y) && unst a && unst b && !([a, b].all (foldedForSure 8)) && !([a, b].all (constantsAlone 8))
  | _, _, _ => false
def par3B (Z : Sco) (is : List Nat) (es vs : List Expr) : Bool :=
  match is, es, vs with
  | [i, j, l], [.Name x px, .Name y py, .Name z pz], [a, b, c] => locB Z i x && locB Z j y && locB Z l z && decide (i ≠ j) && decide (i ≠ l) && decide (j ≠ l) && py.line == px.line && pz.line == px.line && !(x == y) && !(x == z) && !(y == z) && unst a && unst b && unst c
      && !([a, b, c].all (foldedForSure 8)) && !([a, b, c].all (constantsAlone 8))
  | _, _, _ => false
def cellsB (sc : Scope) : List Expr → Bool
  | [.Name x px, .Name y py] => !((sc.names.lookup x == some .local) && (sc.names.lookup y == some .local) && py.line == px.line)
  | [.Name x px, .Name y py, .Name z pz] => !((sc.names.lookup x == some .local) && ((sc.names.lookup y == some .local) && py.line == px.line) && ((sc.names.lookup z == some .local) && pz.line == px.line))
  | _ => false
def parNB (sc : Scope) (es vs : List Expr) : Bool := (!(es.length == 2 || es.length == 3) || vs.length != es.length) || vs.all (foldedForSure 8) || cellsB sc es
theorem parN_ok {sc : Scope} {es vs : List Expr} {k k2 : Nat} {p p2 : Pos} {env : Env} (h : parNB sc es vs = true) (hs : env.scope = sc) : swappedStores [.Tuple es k p] (.Tuple vs k2 p2) env = pure none := by
  unfold parNB at h
  rcases Bool.or_eq_true_iff.mp h with h | h
  · rcases Bool.or_eq_true_iff.mp h with h | h
    · exact swN_tup h
    · exact swN_const h
  · unfold cellsB at h
    split at h
    · rw [Bool.not_eq_true'] at h
      subst hs
      exact swN_cell2 h
    · rw [Bool.not_eq_true'] at h
      subst hs
      exact swN_cell3 h
    · cases h
mutual
def mS (G : Tb) (Z : Sco) : S → Stmt → Bool
  | .pass, .Pass _ => true
  | .pass, .Expr (.Constant (.str _) _ _) _ => true
  | .ret e, .Return (some a) _ => mE G Z e a
  | .retN, .Return none _ => true
  | .never, _ => true
  | .cont, .Continue _ => true
  | .brk, .Break _ => true
  | .asg i e, .Assign [.Name x p] a _ => nmB Z i x && mE G Z e a && (notComp a || isLC a)
  | .par is xs, .Assign [.Tuple es _ _] (.Tuple vs _ _) _ => nmsB Z is es && vs.all unst && mL G Z xs vs && (par2B Z is es vs || par3B Z is es vs || parNB Z.sc es vs) && decide (is.length ≤ 1000)
  | .tpa is o, .Assign [.Tuple es _ _] a _ => nmsB Z is es && notTup a && mO G Z o a
  | .put i k e, .Assign [.Subscript (.Name x _) ix _] a _ => slB Z i x && plainIxB ix && mO G Z k ix && mE G Z e a
  | .aug op i o, .AugAssign (.Name x _) op' a _ => nmB Z i x && op == op' && mO G Z o a
  | .app i e, .Expr a _ => (match metA a with
      | some (x, m, b, [a']) => slB Z i x && m == ("append" : Str) && b && unst a' && mE G Z e a'
      | _ => false)
  | .ext i o, .Expr a _ => (match metA a with
      | some (x, m, b, [a']) => slB Z i x && m == ("extend" : Str) && b && unst a' && mO G Z o a'
      | _ => false)
  | .ex e, .Expr a _ => notComp a && mE G Z e a
  | .iff t a b, .If c x y _ => mT G Z t c && mSL G Z a x && mSL G Z b y
  | .for tg w xs body, .For t' iter b [] _ => tgB Z tg t' && notSetB iter && (match wkE G Z w iter t' with | some es => es.all unst && mL G Z xs es | none => false) && mSL G Z body b
  | .whl t body, .While c b [] _ => mT G Z t c && mSL G Z body b
  | _, _ => false
def mSL (G : Tb) (Z : Sco) : SL → List Stmt → Bool
  | .nil, [] => true
  | .cons s r, x :: xs => mS G Z s x && mSL G Z r xs
  | _, _ => false
end
structure StOk (G : Tb) (C : Cn) (Z : Sco) (X : Cx) : Prop where
  ck : CkOk G C Z X
  hp : PassesOwn (model X.prog X.w) X.A X.env X.xe
  kind : Z.sc.kind = .function
theorem asg_sub {x : Str} {px p : Pos} {ix : Expr} {env : Env} (h : plainIxB ix = true) : ∀ v, assign (.Subscript (.Name x px) ix p) env v = (do
    let ov ← holding [v] (eval (.Name x px) env)
    let iv ← holding [v, ov] (eval ix env)
    standAt p
    holding [v, ov, iv] (setItem ov iv v)
    release [v, ov, iv] []) := by
  intro v
  cases ix <;> first | exact absurd h Bool.false_ne_true | rfl
section
variable {X : Cx} {pos : Pos}
theorem NmOk.lo {x : Str} {i : Nat} (h : NmOk X x i) : Loc X.env.scope x ∧ (X.fn x = true ∨ X.env.scope.names.lookup x = some .local) := by
  rcases h.loc with l | ⟨l, f⟩
  · exact ⟨.inl l, .inr l⟩
  · exact ⟨.inr l, .inl f⟩
theorem s_asgN {e : Expr} {f : En → Res PB} {i : Nat} {x : Str} {pos' : Pos} (hN : X.N.Nodup) (hx : NmOk X x i) (h : PE X e (tE f)) (hs : swapsWith e (some (.Name x pos')) pos.line X.env = pure false) :
    PS X (.Assign [.Name x pos'] e pos) (tS fun env => (f env).bind fun x e1 => (opt (asgSl i x.1 x.2 e1) e1).bind fun e2 _ => .ok .nx e2) := psI (ps_set hN hx.ix hx.lo.1 h hs hx.lo.2) fun D σ H q => set_k q
theorem s_augN {op : Operator} {e : Expr} {i : Nat} {x : Str} {pos' : Pos} {f : En → Res Ag} (hN : X.N.Nodup) (hx : NmOk X x i) (he : PE X e (tO f)) :
    PS X (.AugAssign (.Name x pos') op e pos) (tS fun env => match rdSl i env with
    | some (.int a) => (f env).bind fun y e1 => match y.rd e1 with
      | some (.int b) => (opt (augF op a b) e1).bind fun z e2 => (opt (asgSl i (.int z) false e2) e2).bind fun e3 _ => .ok .nx e3
      | _ => .bad
    | _ => .bad) := psI (ps_aug hN hx.ix hx.lo.1 he (ip_all op) hx.lo.2) fun D σ H q => by
  obtain ⟨F, env, w, env', m, e, k⟩ := tS_iff.mp q
  split at e
  · rename_i a ha
    obtain ⟨y, e1, h1, e⟩ := bind_ok e
    split at e
    · rename_i b hb
      obtain ⟨z, e2, h2, e5⟩ := bind_ok e
      obtain ⟨h2', rfl⟩ := opt_ok h2
      obtain ⟨e4, e3, h3, h4⟩ := bind_ok e5
      obtain ⟨h3', rfl⟩ := opt_ok h3
      cases h4
      obtain ⟨v0, hv0, rb⟩ := m.slot ha
      have := rb.int
      subst this
      refine ⟨_, hv0, tO_iff.mpr ⟨F, env, y, e3, m, h1, fun v H1 F1 x1 o1 _ r1 => ?_⟩⟩
      have := (r1.rd o1.mt hb).int
      subst this
      refine ⟨a, b, z, rfl, rfl, h2', k _ H1 ?_⟩
      have t : Stb F e3 σ H1 (.int z) false (.int z) := by
        unfold Stb
        rw [if_neg (by decide)]
        exact ⟨o1.mt.weak o1.up, .int _⟩
      exact SS.asg x1 (t.asg h3') fun b z => by cases z.1
    · cases e
  · cases e
end
/-- name = [..] -/
theorem asg_lc {G : Tb} {C : Cn} {Z : Sco} {X : Cx} (h : StOk G C Z X) {i : Nat} {e : E} {x : Str} {p pos : Pos} {a : Expr} (hx : NmOk X x i) (q : mE G Z e a = true) (ha : isLC a = true) :
    PS X (.Assign [.Name x p] a pos) (tS fun env => (dE C e env).bind fun x e1 => (opt (asgSl i x.1 x.2 e1) e1).bind fun e2 _ => .ok .nx e2) := by
  have hN : X.N.Nodup := by rw [h.ck.N]; exact h.ck.nd
  have hk : X.env.scope.kind = .function := by rw [h.ck.sc]; exact h.kind
  cases a with
  | ListComp elt gs scope lp =>
    have sw := sw_lc (elt := elt) (gs := gs) (scope := scope) (pos := lp) (py := p) (y := x) (l := pos.line) hk
    cases hb : ((X.env.kindOf x == some .local) && p.line == lp.line && !(scope.names.any fun (n, k) => n == x && (k == .local || k == .cell))) with
    | false =>
      rw [hb] at sw
      exact s_asgN hN hx (mE_ok e Z X h.ck _ q) sw
    | true =>
      rw [hb] at sw
      have hl : X.env.scope.names.lookup x = some .local := by
        simp only [Bool.and_eq_true] at hb
        exact eq_of_beq hb.1.1
      cases e with
      | lc elt' tg w xs ifs own =>
        replace q : (match lcA (.ListComp elt gs scope lp) with
          | some (e, tg', iter, ifs', scope) => lcB Z scope own tg iter && (match wkE G Z w iter tg' with | some es => es.all unst && mL G Z xs es | none => false) && mTO G (blk Z scope) ifs ifs' && mE G (blk Z scope) elt' e && tgB (blk Z scope) tg tg'
          | none => false) = true := q
        split at q
        · rename_i e tg' iter ifs' scope' he
          obtain ⟨pos', he'⟩ := lcA_ok he
          cases he'
          simp only [Bool.and_eq_true] at q
          obtain ⟨⟨⟨⟨q1, q2⟩, q3⟩, q4⟩, q5⟩ := q
          obtain ⟨b1, b2, b3⟩ := lc_blk h.ck q1
          split at q2
          · rename_i es hw
            rw [Bool.and_eq_true] at q2
            have pi := wk_ok h.ck hw q2.2 (mL_ok xs Z X h.ck es q2.2 q2.1).1 (mL_ok xs Z X h.ck es q2.2 q2.1).2
            refine psI (ps_setLc (g := gTg X.K tg) h.ck.calm hN hx.ix hl sw pi b1 (fun s H c cl fp => tg_ok (h.ck.blk s H c cl fp) q5) (fun s H c cl fp => mTO_ok ifs _ _ (h.ck.blk s H c cl fp) ifs' q3) (fun s H c cl fp => mE_ok elt' _ _ (h.ck.blk s H c cl fp) elt q4) (notSet_ok b3 _)) fun D σ H q => ?_
            rw [blkP]
            exact lc_k b2 (set_k q)
          · cases q2
        · cases q
      | lc2 elt' tg w xs ifs tg1 w1 xs1 ifs1 own own1 =>
        replace q : (match lc2A (.ListComp elt gs scope lp) with
          | some (e, tg', iter, ifs', tg1', iter1, ifs1', scope) => lcB Z scope own tg iter && (match wkE G Z w iter tg' with | some es => es.all unst && mL G Z xs es | none => false) && mTO G (blk Z scope) ifs ifs' && mE G (blk Z scope) elt' e && tgB (blk Z scope) tg tg'
            && tgB (blk Z scope) tg1 tg1' && tgIn tg1 own1 && own1.all (fun v => decide (v ∈ own)) && notSetB iter1 && (match wkE G (blk Z scope) w1 iter1 tg1' with | some es => es.all unst && mL G (blk Z scope) xs1 es | none => false) && mTO G (blk Z scope) ifs1 ifs1'
          | none => false) = true := q
        split at q
        · rename_i e tg' iter ifs' tg1' iter1 ifs1' scope' he
          obtain ⟨pos', he'⟩ := lc2A_ok he
          cases he'
          simp only [Bool.and_eq_true] at q
          obtain ⟨⟨⟨⟨⟨⟨⟨⟨⟨⟨q1, q2⟩, q3⟩, q4⟩, q5⟩, r1⟩, r2⟩, r3⟩, r4⟩, r5⟩, r6⟩ := q
          obtain ⟨b1, b2, b3⟩ := lc_blk h.ck q1
          have hsub : ∀ v ∈ own1, v ∈ own := fun v hv => of_decide_eq_true (List.all_eq_true.mp r3 v hv)
          split at q2
          · rename_i es hw
            rw [Bool.and_eq_true] at q2
            have pi := wk_ok h.ck hw q2.2 (mL_ok xs Z X h.ck es q2.2 q2.1).1 (mL_ok xs Z X h.ck es q2.2 q2.1).2
            split at r5
            · rename_i es1 hw1
              rw [Bool.and_eq_true] at r5
              have pi1 : ∀ (s : Shared) (H : Hp) (c : Addr) (cl : List (Str × Addr)) (fp : List Addr), PI (X.blk s H scope (compEnvC scope cl c X.env) fp) tg1' iter1 (tW fun env => (dL C xs1 env).bind fun as e1 => wkX w1 as e1) := fun s H c cl fp => by
                have h' := h.ck.blk s H c cl fp (scope := scope)
                have pl := mL_ok xs1 _ _ h' es1 r5.2 r5.1
                exact wk_ok h' hw1 r5.2 pl.1 pl.2
              refine psI (ps_setLc2 (g := gTg X.K tg) (g1 := gTg X.K tg1) (vs1 := own1) h.ck.calm hN hx.ix hl sw pi b1 (by rw [blkP]; exact hsub) (fun s H c cl fp => tg_ok (h.ck.blk s H c cl fp) q5) (fun s H c cl fp => mTO_ok ifs _ _ (h.ck.blk s H c cl fp) ifs' q3) pi1 (fun s H c cl fp => tg_ok (h.ck.blk s H c cl fp) r1) (fun s H c cl fp => mTO_ok ifs1 _ _ (h.ck.blk s H c cl fp) ifs1' r6) (fun s H c cl fp => mE_ok elt' _ _ (h.ck.blk s H c cl fp) elt q4) (notSet_ok b3 _) (fun env => notSet_ok r4 env)) fun D σ H q => ?_
              rw [blkP]
              exact lc2_k b2 r2 hsub (set_k q)
            · cases r5
          · cases q2
        · cases q
      | lit p =>
        have q : litB p (.ListComp elt gs scope lp) = true := q
        unfold litB at q
        rw [Bool.and_eq_true] at q
        cases p <;> cases q.2
      | mt m o xs => cases o with
        | v eo => cases xs with
          | nil => exact absurd q Bool.false_ne_true
          | cons o1 r => cases r with
            | nil => exact absurd q Bool.false_ne_true
            | cons o2 r => exact absurd q Bool.false_ne_true
        | b i => exact absurd q Bool.false_ne_true
        | t e => exact absurd q Bool.false_ne_true
      | _ => exact absurd q Bool.false_ne_true
  | _ => cases ha
section
variable {G : Tb} {C : Cn}
theorem loc_ok {Z : Sco} {X : Cx} (h : CkOk G C Z X) {i : Nat} {x : Str} (e : locB Z i x = true) : X.N[i]? = some x ∧ X.env.scope.names.lookup x = some .local := by
  unfold locB at e
  rw [Bool.and_eq_true] at e
  refine ⟨by rw [h.N]; exact at_ok e.1, ?_⟩
  rw [h.sc]
  have e2 := e.2
  split at e2
  · assumption
  · cases e2
theorem par_ok {Z : Sco} {X : Cx} (h : StOk G C Z X) {is : List Nat} {es vs : List Expr} {k k2 : Nat} {p p2 pos : Pos} {xs : OL} (q1 : nmsB Z is es = true) (q2 : vs.all unst = true) (q3 : mL G Z xs vs = true) (q4 : (par2B Z is es vs || par3B Z is es vs || parNB Z.sc es vs) = true) (q5 : is.length ≤ 1000) :
    PS X (.Assign [.Tuple es k p] (.Tuple vs k2 p2) pos) (tS fun env => (dL C xs env).bind fun ps e1 => (opt (asgPar is ps e1) e1).bind fun e2 _ => .ok .nx e2) := by
  have hN : X.N.Nodup := by rw [h.ck.N]; exact h.ck.nd
  have hk : X.env.scope.kind = .function := by rw [h.ck.sc]; exact h.kind
  have pl := (mL_ok xs Z X h.ck vs q3 q2).1
  rcases Bool.or_eq_true_iff.mp q4 with q4 | q4
  · rcases Bool.or_eq_true_iff.mp q4 with q4 | q4
    · unfold par2B at q4
      split at q4
      · simp only [Bool.and_eq_true, decide_eq_true_eq, Bool.not_eq_true'] at q4
        obtain ⟨⟨⟨⟨⟨⟨⟨⟨r1, r2⟩, r3⟩, r4⟩, r5⟩, r6⟩, r7⟩, r8⟩, r9⟩ := q4
        obtain ⟨i1, l1⟩ := loc_ok h.ck r1
        obtain ⟨i2, l2⟩ := loc_ok h.ck r2
        exact s_par2 h.ck.calm hN i1 i2 r3 l1 l2 pl (sw2 hk r6 r7 l1 l2 r4 r5 r8 r9)
      · cases q4
    · unfold par3B at q4
      split at q4
      · simp only [Bool.and_eq_true, decide_eq_true_eq, Bool.not_eq_true'] at q4
        obtain ⟨⟨⟨⟨⟨⟨⟨⟨⟨⟨⟨⟨⟨⟨⟨r1, r2⟩, r3⟩, n1⟩, n2⟩, n3⟩, p1⟩, p2⟩, d1⟩, d2⟩, d3⟩, u1⟩, u2⟩, u3⟩, r8⟩, r9⟩ := q4
        obtain ⟨i1, l1⟩ := loc_ok h.ck r1
        obtain ⟨i2, l2⟩ := loc_ok h.ck r2
        obtain ⟨i3, l3⟩ := loc_ok h.ck r3
        exact s_par3 h.ck.calm hN i1 i2 i3 n1 n2 n3 l1 l2 l3 pl (sw3 hk u1 u2 u3 l1 l2 l3 p1 p2 d1 d2 d3 r8 r9)
      · cases q4
  · exact s_parG h.ck.calm hN (nms_ok h.ck q1) q5 pl swS_tup (parN_ok q4 h.ck.sc)
theorem met_ok {Z : Sco} {X : Cx} (h : CkOk G C Z X) {i : Nat} {x : Str} {p : Pos} (q : slB Z i x = true) : PE X (.Name x p) (tVar i) := by
  obtain ⟨h1, h2, h3, h4⟩ := sl_ok h q
  exact pe_var h1 h2 h3 h4
mutual
theorem mS_ok : ∀ (s : S) (Z : Sco) (X : Cx), StOk G C Z X → ∀ a : Stmt, mS G Z s a = true → PS X a (tS (dS C s))
  | .pass, Z, X, h, a, q => by
    cases a with
    | Pass p => exact s_pass
    | Expr v p => cases v with
      | Constant c k p2 => cases c with
        | str x => exact s_doc
        | _ => cases q
      | _ => cases q
    | _ => cases q
  | .ret e, Z, X, h, a, q => by
    cases a with
    | Return v p => cases v with
      | some v => exact s_ret (mE_ok e Z X h.ck v q)
      | none => cases q
    | _ => cases q
  | .retN, Z, X, h, a, q => by
    cases a with
    | Return v p => cases v with
      | some v => cases q
      | none => exact s_retN
    | _ => cases q
  | .never, Z, X, h, a, q => s_never
  | .cont, Z, X, h, a, q => by
    cases a with
    | Continue p => exact s_cont
    | _ => cases q
  | .brk, Z, X, h, a, q => by
    cases a with
    | Break p => exact s_brk
    | _ => cases q
  | .asg i e, Z, X, h, a, q => by
    cases a with
    | Assign ts v p =>
      match ts, q with
      | [t], q =>
        cases t with
        | Name x px =>
          have q : (nmB Z i x && mE G Z e v && (notComp v || isLC v)) = true := q
          rw [Bool.and_eq_true, Bool.and_eq_true] at q
          obtain ⟨⟨q1, q2⟩, q3⟩ := q
          have hx := nm_ok h.ck q1
          rcases Bool.or_eq_true_iff.mp q3 with q3 | q3
          · exact s_asgN (by rw [h.ck.N]; exact h.ck.nd) hx (mE_ok e Z X h.ck v q2) (sw_not q3)
          · exact asg_lc h hx q2 q3
        | _ => cases q
      | [], q => cases q
      | t :: _ :: _, q => cases t <;> first | cases q | (cases v <;> cases q) | (rename_i b _ _; cases b <;> cases q)
    | _ => cases q
  | .par is xs, Z, X, h, a, q => by
    cases a with
    | Assign ts v p =>
      match ts, q with
      | [t], q =>
        cases t with
        | Tuple es k pt => cases v with
          | Tuple vs k2 p2 =>
            have q : (nmsB Z is es && vs.all unst && mL G Z xs vs && (par2B Z is es vs || par3B Z is es vs || parNB Z.sc es vs) && decide (is.length ≤ 1000)) = true := q
            rw [Bool.and_eq_true, Bool.and_eq_true, Bool.and_eq_true, Bool.and_eq_true] at q
            exact par_ok h q.1.1.1.1 q.1.1.1.2 q.1.1.2 q.1.2 (of_decide_eq_true q.2)
          | _ => cases q
        | _ => cases q
      | [], q => cases q
      | t :: _ :: _, q => cases t <;> first | cases q | (cases v <;> cases q) | (rename_i b _ _; cases b <;> cases q)
    | _ => cases q
  | .tpa is o, Z, X, h, a, q => by
    cases a with
    | Assign ts v p =>
      match ts, q with
      | [t], q =>
        cases t with
        | Tuple es k pt =>
          have q : (nmsB Z is es && notTup v && mO G Z o v) = true := q
          rw [Bool.and_eq_true, Bool.and_eq_true] at q
          exact s_tpa h.ck.calm (by rw [h.ck.N]; exact h.ck.nd) (nms_ok h.ck q.1.1) (mO_ok o Z X h.ck v q.2) swS_tup (swN_val q.1.2)
        | _ => cases q
      | [], q => cases q
      | t :: _ :: _, q => cases t <;> first | cases q | (cases v <;> cases q) | (rename_i b _ _; cases b <;> cases q)
    | _ => cases q
  | .put i k e, Z, X, h, a, q => by
    cases a with
    | Assign ts v p =>
      match ts, q with
      | [t], q =>
        cases t with
        | Subscript b ix p2 => cases b with
          | Name x px =>
            have q : (slB Z i x && plainIxB ix && mO G Z k ix && mE G Z e v) = true := q
            rw [Bool.and_eq_true, Bool.and_eq_true, Bool.and_eq_true] at q
            have hu := h.ck.hu
            exact s_put (by omega) (mE_ok e Z X h.ck v q.2) (met_ok h.ck q.1.1.1) (mO_ok k Z X h.ck ix q.1.2) (asg_sub q.1.1.2)
          | _ => cases q
        | _ => cases q
      | [], q => cases q
      | t :: _ :: _, q => cases t <;> first | cases q | (cases v <;> cases q) | (rename_i b _ _; cases b <;> cases q)
    | _ => cases q
  | .aug op i o, Z, X, h, a, q => by
    cases a with
    | AugAssign t op' v p => cases t with
      | Name x px =>
        have q : (nmB Z i x && op == op' && mO G Z o v) = true := q
        rw [Bool.and_eq_true, Bool.and_eq_true] at q
        have := eq_of_beq q.1.2
        subst this
        exact s_augN (by rw [h.ck.N]; exact h.ck.nd) (nm_ok h.ck q.1.1) (mO_ok o Z X h.ck v q.2)
      | _ => cases q
    | _ => cases q
  | .app i e, Z, X, h, a, q => by
    cases a with
    | Expr v p =>
      replace q : (match metA v with
        | some (x, m, b, [a']) => slB Z i x && m == ("append" : Str) && b && unst a' && mE G Z e a'
        | _ => false) = true := q
      split at q
      · rename_i x m b a' he
        obtain ⟨p1, ap, cp, rfl, hb⟩ := metA_ok he
        simp only [Bool.and_eq_true] at q
        obtain ⟨⟨⟨⟨q1, q2⟩, q3⟩, q4⟩, q5⟩ := q
        have := eq_of_beq q2
        subst this
        rw [q3] at hb
        have s1 := star_un q4 [] X.env
        exact s_app (pe_bm PySem.F.plainAttrs_list PySem.F.slot_list_append PySem.F.type_list_append mt_append (met_ok h.ck q1) (pa_cons (mE_ok e Z X h.ck a' q5) pa_nil s1) rfl (by rw [s1]; rfl) hb s1 rfl) (sw_not rfl)
      · cases q
    | _ => cases q
  | .ext i o, Z, X, h, a, q => by
    cases a with
    | Expr v p =>
      replace q : (match metA v with
        | some (x, m, b, [a']) => slB Z i x && m == ("extend" : Str) && b && unst a' && mO G Z o a'
        | _ => false) = true := q
      split at q
      · rename_i x m b a' he
        obtain ⟨p1, ap, cp, rfl, hb⟩ := metA_ok he
        simp only [Bool.and_eq_true] at q
        obtain ⟨⟨⟨⟨q1, q2⟩, q3⟩, q4⟩, q5⟩ := q
        have := eq_of_beq q2
        subst this
        rw [q3] at hb
        have s1 := star_un q4 [] X.env
        exact s_ext (pe_bm PySem.F.plainAttrs_list PySem.F.slot_list_extend PySem.F.type_list_extend mt_extend (met_ok h.ck q1) (pa_cons (mO_ok o Z X h.ck a' q5) pa_nil s1) rfl (by rw [s1]; rfl) hb s1 rfl) (sw_not rfl)
      · cases q
    | _ => cases q
  | .ex e, Z, X, h, a, q => by
    cases a with
    | Expr v p =>
      have q : (notComp v && mE G Z e v) = true := q
      rw [Bool.and_eq_true] at q
      exact s_ex (mE_ok e Z X h.ck v q.2) (sw_not q.1)
    | _ => cases q
  | .iff t a b, Z, X, h, st, q => by
    cases st with
    | If c x y p =>
      have q : (mT G Z t c && mSL G Z a x && mSL G Z b y) = true := q
      rw [Bool.and_eq_true, Bool.and_eq_true] at q
      exact s_iff (mT_ok t Z X h.ck c q.1.1) (mSL_ok a Z X h x q.1.2) (mSL_ok b Z X h y q.2)
    | _ => cases q
  | .for tg w xs body, Z, X, h, st, q => by
    cases st with
    | For t' iter b els p =>
      match els, q with
      | [], q =>
        have q : (tgB Z tg t' && notSetB iter && (match wkE G Z w iter t' with | some es => es.all unst && mL G Z xs es | none => false) && mSL G Z body b) = true := q
        rw [Bool.and_eq_true, Bool.and_eq_true, Bool.and_eq_true] at q
        obtain ⟨⟨⟨q1, q2⟩, q3⟩, q4⟩ := q
        split at q3
        · rename_i es hw
          rw [Bool.and_eq_true] at q3
          have pl := mL_ok xs Z X h.ck es q3.2 q3.1
          exact s_for h.hp h.ck.calm (wk_ok h.ck hw q3.2 pl.1 pl.2) (tg_ok h.ck q1) (mSL_ok body Z X h b q4) (notSet_ok q2 _)
        · cases q3
      | _ :: _, q => cases q
    | _ => cases q
  | .whl t body, Z, X, h, st, q => by
    cases st with
    | While c b els p =>
      match els, q with
      | [], q =>
        have q : (mT G Z t c && mSL G Z body b) = true := q
        rw [Bool.and_eq_true] at q
        exact s_whl h.hp (mT_ok t Z X h.ck c q.1) (mSL_ok body Z X h b q.2)
      | _ :: _, q => cases q
    | _ => cases q
theorem mSL_ok : ∀ (s : SL) (Z : Sco) (X : Cx), StOk G C Z X → ∀ a : List Stmt, mSL G Z s a = true → PSs X a (tS (dSL C s))
  | .nil, Z, X, h, [], q => ss_nil
  | .nil, Z, X, h, _ :: _, q => by cases q
  | .cons s r, Z, X, h, [], q => by cases q
  | .cons s r, Z, X, h, a :: as, q => by
    have q : (mS G Z s a && mSL G Z r as) = true := q
    rw [Bool.and_eq_true] at q
    exact ss_cons (mS_ok s Z X h a q.1) (mSL_ok r Z X h as q.2)
end
end
end Dk

set_option Elab.async false
set_option linter.all false
set_option autoImplicit false
set_option maxRecDepth 100000
set_option maxHeartbeats 4000000
/-! Dk21: functions, programs. -/
namespace Dk
open PySem PySem.Spec PyProof.Rows L2

/-! ### a def's entry -/
theorem entry_len : ∀ {f : List Bool} {ps : List PV} {e : En}, entry f ps = some e → e.length = f.length
  | [], [], e, h => by cases h; rfl
  | [], _ :: _, e, h => by cases h
  | _ :: _, [], e, h => by cases h
  | io :: f, p :: ps, e, h => by
    have h : (entry f ps).map (fun e => some (p, if io then .io else .fz) :: e) = some e := h
    obtain ⟨e', h1, h2⟩ := Option.map_eq_some_iff.mp h
    subst h2
    exact congrArg (· + 1) (entry_len h1)
theorem parg_at {A : AS} {H : Hp} : ∀ {f : List Bool} {ps : List PV} {vs : List V} {ia : List Addr} {e : En}, PArg A H f ps vs ia → entry f ps = some e → ∀ (i : Nat) (p : PV) (g : Fl), e[i]? = some (some (p, g)) →
    (g = .fz ∧ f[i]? = some false ∧ ∃ v, vs[i]? = some v ∧ Rp A H p v) ∨ (g = .io ∧ f[i]? = some true ∧ ∃ a, vs[i]? = some (.ref a) ∧ a ∈ ia ∧ Own A H p a)
  | _, _, _, _, _, .nil, h, i, p, g, e => by
    cases h
    simp at e
  | _, _, _, _, _, .io (p := p0) (ps := ps) (f := f) (a := a) o r, h, i, p, g, e => by
    have h : (entry f ps).map (fun e => some (p0, Fl.io) :: e) = some _ := h
    obtain ⟨e', h1, h2⟩ := Option.map_eq_some_iff.mp h
    subst h2
    cases i with
    | zero =>
      simp at e
      obtain ⟨rfl, rfl⟩ := e
      exact .inr ⟨rfl, rfl, a, rfl, List.mem_cons_self, o⟩
    | succ i =>
      rcases parg_at r h1 i p g (by simpa using e) with ⟨e1, e2, v, e3, e4⟩ | ⟨e1, e2, b, e3, e4, e5⟩
      · exact .inl ⟨e1, by simpa using e2, v, by simpa using e3, e4⟩
      · exact .inr ⟨e1, by simpa using e2, b, by simpa using e3, List.mem_cons_of_mem _ e4, e5⟩
  | _, _, _, _, _, .vl (p := p0) (ps := ps) (f := f) (v := v0) o r, h, i, p, g, e => by
    have h : (entry f ps).map (fun e => some (p0, Fl.fz) :: e) = some _ := h
    obtain ⟨e', h1, h2⟩ := Option.map_eq_some_iff.mp h
    subst h2
    cases i with
    | zero =>
      simp at e
      obtain ⟨rfl, rfl⟩ := e
      exact .inl ⟨rfl, rfl, v0, rfl, o⟩
    | succ i =>
      rcases parg_at r h1 i p g (by simpa using e) with ⟨e1, e2, v, e3, e4⟩ | ⟨e1, e2, b, e3, e4, e5⟩
      · exact .inl ⟨e1, by simpa using e2, v, by simpa using e3, e4⟩
      · exact .inr ⟨e1, by simpa using e2, b, by simpa using e3, e4, e5⟩
theorem parg_mem {A : AS} {H : Hp} {a : Addr} : ∀ {f : List Bool} {ps : List PV} {vs : List V} {ia : List Addr} {e : En}, PArg A H f ps vs ia → entry f ps = some e → a ∈ ia → ∃ (i : Nat) (p : PV), e[i]? = some (some (p, .io)) ∧ vs[i]? = some (.ref a)
  | _, _, _, _, _, .nil, h, m => by cases m
  | _, _, _, _, _, .io (p := p0) (ps := ps) (f := f) o r, h, m => by
    have h : (entry f ps).map (fun e => some (p0, Fl.io) :: e) = some _ := h
    obtain ⟨e', h1, h2⟩ := Option.map_eq_some_iff.mp h
    subst h2
    rcases List.mem_cons.mp m with m | m
    · subst m; exact ⟨0, p0, rfl, rfl⟩
    · obtain ⟨i, p, e1, e2⟩ := parg_mem r h1 m
      exact ⟨i + 1, p, by simpa using e1, by simpa using e2⟩
  | _, _, _, _, _, .vl (p := p0) (ps := ps) (f := f) o r, h, m => by
    have h : (entry f ps).map (fun e => some (p0, Fl.fz) :: e) = some _ := h
    obtain ⟨e', h1, h2⟩ := Option.map_eq_some_iff.mp h
    subst h2
    obtain ⟨i, p, e1, e2⟩ := parg_mem r h1 m
    exact ⟨i + 1, p, by simpa using e1, by simpa using e2⟩
theorem parg_mem2 {A : AS} {H : Hp} : ∀ {f : List Bool} {ps : List PV} {vs : List V} {ia : List Addr}, PArg A H f ps vs ia → ∀ (k : Nat) (b : Addr), f[k]? = some true → vs[k]? = some (.ref b) → b ∈ ia
  | _, _, _, _, .nil, k, b, h, _ => by simp at h
  | _, _, _, _, .io o r, k, b, h, e => by
    cases k with
    | zero => simp at e; subst e; exact List.mem_cons_self
    | succ k => exact List.mem_cons_of_mem _ (parg_mem2 r k b (by simpa using h) (by simpa using e))
  | _, _, _, _, .vl o r, k, b, h, e => by
    cases k with
    | zero => simp at h
    | succ k => exact parg_mem2 r k b (by simpa using h) (by simpa using e)
theorem parg_inj {A : AS} {H : Hp} {a : Addr} : ∀ {f : List Bool} {ps : List PV} {vs : List V} {ia : List Addr}, PArg A H f ps vs ia → ia.Nodup → ∀ (i j : Nat), f[i]? = some true → f[j]? = some true → vs[i]? = some (.ref a) → vs[j]? = some (.ref a) → i = j
  | _, _, _, _, .nil, _, i, j, h, _, _, _ => by simp at h
  | _, _, _, _, .io (f := f) (vs := vs) (ia := ia) o r, nd, i, j, hi, hj, ei, ej => by
    obtain ⟨n1, nd⟩ := List.nodup_cons.mp nd
    have mem := parg_mem2 r
    cases i with
    | zero => cases j with
      | zero => rfl
      | succ j =>
        simp at ei ej hj
        subst ei
        exact absurd (mem j _ hj ej) n1
    | succ i => cases j with
      | zero =>
        simp at ei ej hi
        subst ej
        exact absurd (mem i _ hi ei) n1
      | succ j => rw [parg_inj r nd i j (by simpa using hi) (by simpa using hj) (by simpa using ei) (by simpa using ej)]
  | _, _, _, _, .vl o r, nd, i, j, hi, hj, ei, ej => by
    cases i with
    | zero => simp at hi
    | succ i => cases j with
      | zero => simp at hj
      | succ j => rw [parg_inj r nd i j (by simpa using hi) (by simpa using hj) (by simpa using ei) (by simpa using ej)]
theorem parg_vl {A : AS} {H : Hp} : ∀ {f : List Bool} {ps : List PV} {vs : List V} {ia : List Addr}, PArg A H f ps vs ia → ps.length = f.length
  | _, _, _, _, .nil => rfl
  | _, _, _, _, .io _ r => congrArg (· + 1) (parg_vl r)
  | _, _, _, _, .vl _ r => congrArg (· + 1) (parg_vl r)
/-- the in-out parameters at the end -/
theorem exit_own {A A' : AS} {H H' : Hp} : ∀ {f : List Bool} {ps : List PV} {vs : List V} {ia : List Addr} {e : En} {qs : List PV}, PArg A H f ps vs ia → exitIo f e = some qs → (∀ (i : Nat) (a : Addr) (q : PV), f[i]? = some true → vs[i]? = some (.ref a) → e[i]? = some (some (q, .io)) → Own A' H' q a) → OwnL A' H' qs ia
  | _, _, _, _, e, qs, .nil, h, _ => by
    cases e <;> (cases h; exact .nil)
  | _, _, _, _, e, qs, .io (f := f) r o, h, k => by
    cases e with
    | nil => cases h
    | cons s e =>
      match s, h with
      | some (q, .io), h =>
        have h : (exitIo f e).map (q :: ·) = some qs := h
        obtain ⟨qs', h1, h2⟩ := Option.map_eq_some_iff.mp h
        subst h2
        exact .cons (k 0 _ q rfl rfl rfl) (exit_own o h1 fun i a q e1 e2 e3 => k (i + 1) a q (by simpa using e1) (by simpa using e2) (by simpa using e3))
      | none, h => cases h
      | some (q, .fz), h => cases h
      | some (q, .own), h => cases h
  | _, _, _, _, e, qs, .vl (f := f) r o, h, k => by
    cases e with
    | nil => cases h
    | cons s e =>
      have h : exitIo f e = some qs := h
      exact exit_own o h fun i a q e1 e2 e3 => k (i + 1) a q (by simpa using e1) (by simpa using e2) (by simpa using e3)
/-- the state at a def's entry -/
theorem entry_mt {F : AS} {H : Hp} {f : List Bool} {ps : List PV} {vs : List V} {ia : List Addr} {e : En} {N : List Str} (al : ∀ a, F a → H a ≠ none) (nF : ∀ a ∈ ia, ¬ F a) (nd : ia.Nodup) (r : PArg (fun b => F b ∨ b ∈ ia) H f ps vs ia) (he : entry f ps = some e) (hN : vs.length ≤ N.length) :
    Mt F (e ++ List.replicate (N.length - e.length) none) (L2.start N vs) H ∧ ∀ a, Ow (e ++ List.replicate (N.length - e.length) none) (L2.start N vs) a ↔ a ∈ ia := by
  have hl : e.length = vs.length := by rw [entry_len he, r.len]
  have ge : ∀ {i : Nat} {p : PV} {g : Fl}, (e ++ List.replicate (N.length - e.length) none)[i]? = some (some (p, g)) → e[i]? = some (some (p, g)) := fun {i p g} h => by
    by_cases hi : i < e.length
    · rw [List.getElem?_append_left hi] at h; exact h
    · rw [List.getElem?_append_right (by omega), List.getElem?_replicate] at h
      split at h <;> cases h
  have ge' : ∀ {i : Nat} {s : Sl}, e[i]? = some s → (e ++ List.replicate (N.length - e.length) none)[i]? = some s := fun {i s} h => by
    rw [List.getElem?_append_left (List.getElem?_eq_some_iff.mp h).1]; exact h
  have gs : ∀ {i : Nat} {v : V}, vs[i]? = some v → (L2.start N vs)[i]? = some (some v) := fun {i v} h => by
    unfold L2.start
    have hi := (List.getElem?_eq_some_iff.mp h).1
    rw [List.getElem?_append_left (by rw [List.length_map]; exact hi), List.getElem?_map, h]
    rfl
  have gs' : ∀ {i : Nat} {v : V}, (L2.start N vs)[i]? = some (some v) → vs[i]? = some v := fun {i v} h => by
    unfold L2.start at h
    by_cases hi : i < vs.length
    · rw [List.getElem?_append_left (by rw [List.length_map]; exact hi), List.getElem?_map] at h
      cases e : vs[i]? with
      | none => rw [e] at h; cases h
      | some w => rw [e] at h; cases h; rfl
    · rw [List.getElem?_append_right (by rw [List.length_map]; omega), List.getElem?_replicate] at h
      split at h <;> cases h
  have ow : ∀ a, Ow (e ++ List.replicate (N.length - e.length) none) (L2.start N vs) a ↔ a ∈ ia := fun a => by
    constructor
    · rintro ⟨i, p, g, h, hg, h2⟩
      rcases parg_at r he i p g (ge h) with ⟨e1, _⟩ | ⟨_, _, b, e3, e4, _⟩
      · exact absurd e1 hg
      · rw [gs' h2] at e3; cases e3
        exact e4
    · intro h
      obtain ⟨i, p, e1, e2⟩ := parg_mem r he h
      exact ⟨i, p, .io, ge' e1, by decide, gs e2⟩
  have av : ∀ a, Av F (e ++ List.replicate (N.length - e.length) none) (L2.start N vs) a → (F a ∨ a ∈ ia) ∨ H a = none := fun a z => .inl (z.imp id (ow a).mp)
  refine ⟨⟨?_, al, fun i p h => ?_, fun i p g h hg => ?_, fun i j p g q g' a h hg h' hg' h2 h3 => ?_⟩, ow⟩
  · unfold L2.start
    rw [List.length_append, List.length_append, List.length_replicate, List.length_replicate, List.length_map, hl]
  · rcases parg_at r he i p _ (ge h) with ⟨_, _, v, e2, e3⟩ | ⟨e1, _⟩
    · exact ⟨v, gs e2, e3.mono av⟩
    · cases e1
  · rcases parg_at r he i p _ (ge h) with ⟨e1, _⟩ | ⟨_, _, a, e2, e3, e4⟩
    · exact absurd e1 hg
    · exact ⟨a, gs e2, nF a e3, e4.mono av⟩
  · rcases parg_at r he i p _ (ge h) with ⟨e1, _⟩ | ⟨_, f1, _⟩
    · exact absurd e1 hg
    · rcases parg_at r he j q _ (ge h') with ⟨e1, _⟩ | ⟨_, f2, _⟩
      · exact absurd e1 hg'
      · exact parg_inj r nd i j f1 f2 (gs' h2) (gs' h3)

/-! ### a def -/
structure Df where
  name : Str
  ps : List Str
  N : List Str
  io : List Bool
  body : SL
  shp : List (Nat × List Str × List Sr)
def Df.fn (d : Df) : Fn := ⟨d.io, d.N.length, d.body⟩
def Df.fi (d : Df) : FnI := ⟨d.name, d.ps, d.io, d.shp⟩
def scopeB (N P : List Str) (sc : Scope) : Bool :=
  (match sc.kind with | .function => true | _ => false) && !sc.isCoroutine && !sc.isGenerator && decide N.Nodup && decide (N.take P.length = P) && (P.all fun x => match sc.names.lookup x with | some .local => true | some .cell => true | _ => false) && (sc.names.all fun y => match y.2 with | .free => false | _ => true)
theorem scope_ok {N P : List Str} {sc : Scope} (h : scopeB N P sc = true) : FnScope N P sc := by
  unfold scopeB at h
  simp only [Bool.and_eq_true, Bool.not_eq_true', decide_eq_true_eq, List.all_eq_true] at h
  obtain ⟨⟨⟨⟨⟨⟨h1, h2⟩, h3⟩, h4⟩, h5⟩, h6⟩, h7⟩ := h
  refine ⟨?_, h2, h3, h4, h5, fun x hx => ?_, fun y hy e => ?_⟩
  · split at h1
    · assumption
    · cases h1
  · have := h6 x hx
    split at this
    · exact .inl ‹_›
    · exact .inr ‹_›
    · cases this
  · have := h7 y hy
    rw [e] at this
    cases this
/-- is the def st as d tells -/
def dfB (G : Tb) (d : Df) (st : Stmt) : Bool :=
  scopeB d.N d.ps (defScope st) && decide (d.io.length = d.ps.length) && mSL G ⟨d.N, defScope st, fun _ => true⟩ d.body (defBody st)
section
variable {P : Program} {w : World} {K : PySem.W.Frag} {mg : Str → Option Value} {base : Heap}
theorem run_body {C : Cn} {F : AS} {ia : List Addr} {H : Hp} {d : Df} {f : Nat} {ps qs : List PV} {vs : List V} {r : PV} {fr : Bool} {Q : VK} (al : ∀ a, F a → H a ≠ none) (nF : ∀ a ∈ ia, ¬ F a) (nd : ia.Nodup) (pa : PArg (fun b => F b ∨ b ∈ ia) H d.io ps vs ia) (hN : vs.length ≤ d.N.length)
    (e : runFn C d.fn ps = .ok r fr qs) (k : ∀ v H', CRes F ia H r fr qs v H' → Q v H') : tS (dSL C d.body) { nx := fun _ H' => Q .non H', rt := Q } (L2.start d.N vs) H := by
  unfold runFn at e
  split at e
  · cases e
  · rename_i e0 he0
    have he0 : entry d.io ps = some e0 := he0
    obtain ⟨m, ow⟩ := entry_mt (N := d.N) al nF nd pa he0 hN
    have ioO : ∀ {env : En} {σ : Sg} {H' : Hp}, SS F (e0 ++ List.replicate (d.N.length - e0.length) none) (L2.start d.N vs) H env σ H' → ∀ a ∈ ia, Ow env σ a := fun {env σ H'} s a ha => by
      obtain ⟨i, p, e1, e2⟩ := parg_mem pa he0 ha
      have e1' : (e0 ++ List.replicate (d.N.length - e0.length) none)[i]? = some (some (p, .io)) := by rw [List.getElem?_append_left (List.getElem?_eq_some_iff.mp e1).1]; exact e1
      have e2' : (L2.start d.N vs)[i]? = some (some (.ref a)) := by
        unfold L2.start
        rw [List.getElem?_append_left (by rw [List.length_map]; exact (List.getElem?_eq_some_iff.mp e2).1), List.getElem?_map, e2]
        rfl
      obtain ⟨h1, q, h2⟩ := s.io i p e1'
      exact ⟨i, q, .io, h2, by decide, h1.trans e2'⟩
    have ios : ∀ {A' : AS} {env : En} {σ : Sg} {H' : Hp} {qs : List PV}, SS F (e0 ++ List.replicate (d.N.length - e0.length) none) (L2.start d.N vs) H env σ H' → exitIo d.io env = some qs → (∀ (i : Nat) (a : Addr) (q : PV), env[i]? = some (some (q, .io)) → σ[i]? = some (some (.ref a)) → Own A' H' q a) → OwnL A' H' qs ia := fun {A' env σ H' qs} s hx own => by
      refine exit_own pa hx fun i a q e1 e2 e3 => own i a q e3 ?_
      -- the slot is where it was
      have hlt : i < e0.length := by rw [entry_len he0]; exact (List.getElem?_eq_some_iff.mp e1).1
      obtain ⟨s0, hs0⟩ : ∃ s0, e0[i]? = some s0 := ⟨_, List.getElem?_eq_getElem hlt⟩
      have : ∃ p, e0[i]? = some (some (p, .io)) := by
        clear e3 own hx s
        have gen : ∀ {f : List Bool} {ps : List PV} {e : En} {i : Nat}, entry f ps = some e → f[i]? = some true → ∃ p, e[i]? = some (some (p, .io)) := by
          intro f
          induction f with
          | nil => intro ps e i h1 h2; simp at h2
          | cons b f ih =>
            intro ps e i h1 h2
            cases ps with
            | nil => cases h1
            | cons p ps =>
              have h1 : (entry f ps).map (fun e => some (p, if b then .io else .fz) :: e) = some e := h1
              obtain ⟨e', h3, h4⟩ := Option.map_eq_some_iff.mp h1
              subst h4
              cases i with
              | zero =>
                simp at h2
                subst h2
                exact ⟨p, rfl⟩
              | succ i =>
                obtain ⟨q, hq⟩ := ih h3 (by simpa using h2)
                exact ⟨q, by simpa using hq⟩
        exact gen he0 e1
      obtain ⟨p, hp⟩ := this
      have hp' : (e0 ++ List.replicate (d.N.length - e0.length) none)[i]? = some (some (p, .io)) := by rw [List.getElem?_append_left hlt]; exact hp
      obtain ⟨h1, _⟩ := s.io i p hp'
      rw [h1]
      unfold L2.start
      rw [List.getElem?_append_left (by rw [List.length_map]; exact (List.getElem?_eq_some_iff.mp e2).1), List.getElem?_map, e2]
      rfl
    have e : (match dSL C d.body (e0 ++ List.replicate (d.N.length - e0.length) none) with
      | .ok .nx e => match exitIo d.io e with
        | some ios => FRes.ok .non false ios
        | none => .bad
      | .ok (.rt p fr) e => match exitIo d.io e with
        | some ios => FRes.ok p fr ios
        | none => .bad
      | _ => .bad) = .ok r fr qs := e
    split at e
    · rename_i env hr
      split at e
      · rename_i ios' hx
        cases e
        refine tS_iff.mpr ⟨F, _, _, env, m, hr, fun σ' H' s => k _ H' ?_⟩
        have up : ∀ b, (F b ∨ b ∈ ia) ∨ Zf false V.non b → Av F env σ' b ∨ H' b = none := fun b z => by
          rcases z with (z | z) | z
          · exact .inl (.inl z)
          · exact .inl (.inr (ioO s b z))
          · cases z.1
        refine ⟨s.stp.mono fun a z => (ow a).mp z, ?_, ios s hx fun i a q h1 h2 => ?_⟩
        · rw [if_neg (by decide)]; exact .non
        · obtain ⟨b, h3, _, o⟩ := s.mt.ow i q .io h1 (by decide)
          rw [h2] at h3; cases h3
          exact o.mono up
      · cases e
    · rename_i p fr' env hr
      split at e
      · rename_i ios' hx
        cases e
        refine tS_iff.mpr ⟨F, _, _, env, m, hr, fun v σ' H' s rv => k v H' ?_⟩
        cases fr with
        | false =>
          unfold RV at rv
          rw [if_neg (by decide)] at rv
          have up : ∀ b, (F b ∨ b ∈ ia) ∨ Zf false v b → Av F env σ' b ∨ H' b = none := fun b z => by
            rcases z with (z | z) | z
            · exact .inl (.inl z)
            · exact .inl (.inr (ioO s b z))
            · cases z.1
          refine ⟨s.stp.mono fun a z => (ow a).mp z, ?_, ios s hx fun i a q h1 h2 => ?_⟩
          · rw [if_neg (by decide)]
            exact rv.2.mono up
          · obtain ⟨b, h3, _, o⟩ := s.mt.ow i q .io h1 (by decide)
            rw [h2] at h3; cases h3
            exact o.mono up
        | true =>
          unfold RV at rv
          rw [if_pos rfl] at rv
          obtain ⟨a, rfl, hn, nF', nO, m', o⟩ := rv
          have up : ∀ b, (F b ∨ b ∈ ia) ∨ Zf true (.ref a) b → Av (fun b => F b ∨ b = a) env σ' b ∨ H' b = none := fun b z => by
            rcases z with (z | z) | z
            · exact .inl (.inl (.inl z))
            · exact .inl (.inr (ioO s b z))
            · have e : V.ref a = V.ref b := z.2
              cases e
              exact .inl (.inl (.inr rfl))
          have hna : H a = none := by
            rcases hn with hn | hn
            · exact absurd (ioO s a ((ow a).mp hn)) nO
            · exact hn
          refine ⟨s.stp.mono fun a z => (ow a).mp z, ?_, ios s hx fun i b q h1 h2 => ?_⟩
          · rw [if_pos rfl]
            exact ⟨a, rfl, hna, o.mono up⟩
          · obtain ⟨c, h3, _, o2⟩ := m'.ow i q .io h1 (by decide)
            rw [h2] at h3; cases h3
            exact o2.mono up
      · cases e
    · cases e
end
end Dk

set_option Elab.async false
set_option linter.all false
set_option autoImplicit false
set_option maxRecDepth 100000
set_option maxHeartbeats 4000000
/-! Dk22: programs. -/
namespace Dk
open PySem PySem.Spec PyProof.Rows L2

def tbOf (ds : List Df) (cs : List (Str × Lt)) (bl : List Str) : Tb := ⟨fun f => ds[f]?.map Df.fi, fun k => cs[k]?, bl⟩
def pgOf (ds : List Df) (cs : List (Str × Lt)) : Pg := ⟨fun f => ds[f]?.map Df.fn, fun k => (cs[k]?).map (·.2)⟩
/-- what the top has written -/
structure TopK (K : PySem.W.Frag) (mg : Str → Option Value) (ds : List Df) (cs : List (Str × Lt)) (bl : List Str) (sts : Nat → Stmt) (adr : Nat → Addr) (fd : Nat → FuncData) : Prop where
  ck : ∀ (f : Nat) (d : Df), ds[f]? = some d → dfB (tbOf ds cs bl) d (sts f) = true
  cok : ∀ (k : Nat) (x : Str) (p : Lt), cs[k]? = some (x, p) → p.ok = true ∧ ∃ u, mg x = some u ∧ RelV p.v u
  bl : ∀ x, bl.contains x = true → mg x = none
  fn : ∀ (f : Nat) (d : Df), ds[f]? = some d → Fun K d.name d.name (sts f) (adr f) (fd f)
  mg : ∀ (f : Nat) (d : Df), ds[f]? = some d → mg d.name = some (.ref (adr f))
  bd : ∀ (f : Nat) (d : Df), ds[f]? = some d → ∀ (n : Nat) (ks : List Str) (sg : List Sr), (n, ks, sg) ∈ d.shp → Bd K (fd f) d.ps n ks sg
section
variable {P : Program} {w : World} {K : PySem.W.Frag} {mg : Str → Option Value} {base : Heap} {ds : List Df} {cs : List (Str × Lt)} {bl : List Str} {sts : Nat → Stmt} {adr : Nat → Addr} {fd : Nat → FuncData}
/-- the interpreter's context, so deep -/
def cnOf (ds : List Df) (cs : List (Str × Lt)) (t : Nat) : Cn := ⟨(pgOf ds cs).io, (pgOf ds cs).call t, (pgOf ds cs).con⟩
theorem io_of {f : Nat} {d : Df} (h : ds[f]? = some d) : (pgOf ds cs).io f = d.io := by
  unfold Pg.io pgOf
  simp only [h, Option.map]
  rfl
/-- at a place in the text: the defs are known so deep -/
theorem ck_of {t : Nat} {Z : Sco} {X : Cx} (T : TopK X.K X.mg ds cs bl sts adr fd) (F : ∀ f d, ds[f]? = some d → FnOk X.prog X.w X.K X.mg X.base L2.CX0 t (adr f) (fd f) d.ps (spF ((pgOf ds cs).call t) d.io f)) (hr : Room t X.A) (hN : X.N = Z.N) (hs : X.env.scope = Z.sc) (hf : ∀ x, Z.fnS x = true → X.fn x = true) (nd : Z.N.Nodup) (hc : X.calm = true) : CkOk (tbOf ds cs bl) (cnOf ds cs t) Z X := by
  have hu := hr.un
  refine ⟨hN, hs, hf, nd, hc, by omega, T.bl, fun k x p e => ?_, fun f i e => ?_⟩
  · have e : cs[k]? = some (x, p) := e
    obtain ⟨h1, u, h2, h3⟩ := T.cok k x p e
    refine ⟨?_, h1, u, h2, h3⟩
    show (cs[k]?).map (·.2) = some p
    rw [e]
    rfl
  · obtain ⟨d, hd, hi⟩ := Option.map_eq_some_iff.mp (show ds[f]?.map Df.fi = some i from e)
    subst hi
    exact ⟨io_of hd, t, adr f, fd f, F f d hd, hr, T.mg f d hd, (T.fn f d hd).kp, fun n ks sg hm => T.bd f d hd n ks sg hm⟩
theorem pg_ok (T : TopK K mg ds cs bl sts adr fd) : ∀ (t f : Nat) (d : Df), ds[f]? = some d → FnOk P w K mg base L2.CX0 t (adr f) (fd f) d.ps (spF ((pgOf ds cs).call t) d.io f)
  | 0, f, d, hd => by
    have ck := T.ck f d hd
    unfold dfB at ck
    rw [Bool.and_eq_true, Bool.and_eq_true, decide_eq_true_eq] at ck
    refine ⟨fun vs H Q E h => by rw [h.len]; exact ck.1.2, fun A outer s H args us vs Q E hr e0 hb hv h => ?_⟩
    obtain ⟨F, ps, ia, _, _, _, _, h⟩ := h
    exact h.elim
  | t + 1, f, d, hd => by
    have ck := T.ck f d hd
    unfold dfB at ck
    rw [Bool.and_eq_true, Bool.and_eq_true, decide_eq_true_eq] at ck
    have S := scope_ok ck.1.1
    have hpl : d.ps.length ≤ d.N.length := by
      have := congrArg List.length S.pre
      rw [List.length_take] at this
      omega
    refine (T.fn f d hd).ok S (fun vs H Q E h => by rw [h.len]; exact ck.1.2) fun cdv A outer s H vs Q E hr h => ?_
    have vl := h.len
    obtain ⟨F, ps, ia, al, nF, nd, pa, h⟩ := h
    refine ⟨tS (dSL (cnOf ds cs t) d.body), mSL_ok d.body ⟨d.N, defScope (sts f), fun _ => true⟩ _ ⟨ck_of T (fun f d hd => pg_ok T t f d hd) hr rfl rfl (fun _ _ => rfl) S.nd rfl, PassesOwn.never, S.kind⟩ _ ck.2, ?_⟩
    have e : (pgOf ds cs).call (t + 1) f ps = runFn (cnOf ds cs t) d.fn ps := by
      show (match ds[f]?.map Df.fn with | some g => runFn _ g ps | none => .bad) = _
      rw [hd]
      rfl
    rw [e] at h
    cases er : runFn (cnOf ds cs t) d.fn ps with
    | bad => rw [er] at h; exact h.elim
    | ok r fr qs =>
      rw [er] at h
      exact run_body (f := f) al nF nd pa (by rw [vl, ck.1.2]; exact hpl) er h
end
end Dk

set_option Elab.async false
set_option linter.all false
set_option autoImplicit false
set_option maxRecDepth 100000
set_option maxHeartbeats 4000000
/-! Dk23: the script's cells, the law's top. -/
namespace Dk
open PySem PySem.Spec PyProof.Rows L2

theorem sqL_keep {K : PySem.W.Frag} {O : AS} {H H' : Hp} {a : Addr} {xs : List V} (h : SqL K H a xs) (s : Stp O H H') (nO : ¬ O a) : SqL K H' a xs := by
  rcases h with h | h
  · exact .inl (s.rd h nO)
  · exact .inr h
/-- what cells promises -/
def spCells (K : PySem.W.Frag) : Sp := fun vs H Q _ => ∃ (a : Addr) (ns : List Int) (t : Int), vs = [.ref a, .int t] ∧ SqL K H a (ns.map V.int) ∧ ns.length ≤ 63 ∧ 1 ≤ t ∧ t ≤ 3 ∧
  ∀ (cs : List Int) (H' : Hp) (p : Addr), Stp (fun _ => False) H H' → H p = none → H' p = some (.lst (cs.map V.int)) → 1 ≤ cs.length → cs.length ≤ 3 → Q (.ref p) H'
section
variable {X : Cx} {nS nT nC nK nE nA : Str} {p1 p2 p3 p4 p5 p6 p7 p8 p9 p10 p11 p12 p13 p14 p15 p16 p17 p18 p19 p20 p21 p22 p23 p24 p25 p26 p27 p28 p29 p30 p31 p32 p33 p34 p35 p36 p37 p38 p39 p40 p41 p42 p43 p44 p45 : Pos} {k1 k2 k3 k4 k5 k6 : Nat}
/-- a local at a place -/
structure LcAt (X : Cx) (x : Str) (i : Nat) : Prop where
  ix : X.N[i]? = some x
  loc : X.env.scope.names.lookup x = some .local
  d1 : (x == ("__debug__" : Str)) = false
  d2 : (x == ("__classdict__" : Str)) = false
theorem LcAt.pv {x : Str} {i : Nat} {p : Pos} (h : LcAt X x i) : PE X (.Name x p) (tVar i) := pe_var h.ix (.inl h.loc) h.d1 h.d2
abbrev cellsA (nS nT nC : Str) (p1 p2 p3 p4 p5 p6 p7 p8 p9 p10 p11 p12 : Pos) (k1 : Nat) : Stmt :=
  .Assign [.Name nC p1] (.BoolOp .Or [.Call (.Name "list" p2) [.Subscript (.Name nS p3) (.Slice none (some (.Name nT p4)) none p5) p6] [] p7, .List [.Constant (.int 0) k1 p8] p9] p10) p11
abbrev cellsBody (nS nT nC nK nE nA : Str) (p1 p2 p3 p4 p5 p6 p7 p8 p9 p10 p11 p12 p13 p14 p15 p16 p17 p18 p19 p20 p21 p22 p23 p24 p25 p26 p27 p28 p29 p30 p31 p32 p33 p34 p35 p36 p37 p38 p39 p40 p41 p42 p43 p44 p45 : Pos) (k1 k2 k3 k4 k5 : Nat) : List Stmt :=
  [cellsA nS nT nC p1 p2 p3 p4 p5 p6 p7 p8 p9 p10 p11 p12 k1,
   .For (.Tuple [.Name nK p13, .Name nE p14] k2 p15) (.Call (.Name "enumerate" p16) [.Subscript (.Name nS p17) (.Slice (some (.Name nT p18)) (some (.Constant (.int 63) k3 p19)) none p20) p21] [] p22)
     [.Assign [.Name nA p23] (.BinOp (.Call (.Name "int" p24) [.Name nK p25] [] p26) .Mod (.Name nT p27) p28) p29,
      .Assign [.Subscript (.Name nC p30) (.Name nA p31) p32] (.BinOp (.Subscript (.Name nC p33) (.Name nA p34) p35) .Add (.BinOp (.Name nE p36) .Mult (.BinOp (.Name nK p37) .Add (.Constant (.int 2) k4 p38) p39) p40) p41) p42] [] p43,
   .Return (some (.Name nC p44)) p45]
theorem len_cut {ns : List Int} {t : Int} (h1 : 1 ≤ t) (h2 : t ≤ 3) : cutV (ns.map V.int) none (some t) = (ns.take t.toNat).map V.int := by
  have e : HT.sIx (ns.map V.int).length (ns.map V.int).length (some t) = min t.toNat ns.length := by
    show (if t < 0 then _ else min t.toNat (ns.map V.int).length) = _
    rw [if_neg (by omega), List.length_map]
  unfold cutV
  rw [e]
  show ((ns.map V.int).drop 0).take (min t.toNat ns.length - 0) = _
  rw [List.drop_zero, Nat.sub_zero, List.map_take]
  by_cases h : t.toNat ≤ ns.length
  · rw [Nat.min_eq_left h]
  · rw [Nat.min_eq_right (by omega), List.take_of_length_le (by rw [List.length_map]; exact Nat.le_refl _), List.take_of_length_le (by rw [List.length_map]; omega)]
theorem cut_map {ns : List Int} {lo hi : Option Int} : ∃ ms : List Int, cutV (ns.map V.int) lo hi = ms.map V.int ∧ ms.length ≤ ns.length - HT.sIx ns.length 0 lo := by
  unfold cutV
  rw [← List.map_drop, ← List.map_take]
  refine ⟨_, rfl, ?_⟩
  rw [List.length_take, List.length_drop]
  rw [List.length_map]
  exact Nat.min_le_right _ _
/-- cells' body -/
theorem cells_ok (hN : X.N.Nodup) (hc : X.calm = true) (hp : PassesOwn (model X.prog X.w) X.A X.env X.xe) (h0 : LcAt X nS 0) (h1 : LcAt X nT 1) (h2 : LcAt X nC 2) (h3 : LcAt X nK 3) (h4 : LcAt X nE 4) (h5 : LcAt X nA 5)
    (gl : Gl X "list") (ml : X.mg "list" = none) (ge : Gl X "enumerate") (me : X.mg "enumerate" = none) (gi : Gl X "int") (mi : X.mg "int" = none) {vs : List V} {H : Hp} {Q : VK} {E : XK} (sp : spCells X.K vs H Q E) :
    ∃ t, PSs X (cellsBody nS nT nC nK nE nA p1 p2 p3 p4 p5 p6 p7 p8 p9 p10 p11 p12 p13 p14 p15 p16 p17 p18 p19 p20 p21 p22 p23 p24 p25 p26 p27 p28 p29 p30 p31 p32 p33 p34 p35 p36 p37 p38 p39 p40 p41 p42 p43 p44 p45 k1 k2 k3 k4 k5) t ∧ t { nx := fun _ H' => Q .non H', rt := Q } (vs.map some ++ [none, none, none, none]) H := by
  obtain ⟨a, ns, t, rfl, hS, hl, ht1, ht3, q⟩ := sp
  refine ⟨_, pss_cons (ps_set hN h2.ix (.inl h2.loc) (pe_orT (pe_callTy call_list_of gl ml (by decide +kernel) (pa_cons (pe_slice sl_list h0.pv po_none (po_some h1.pv)) pa_nil)) (pe_one (pe_lst (pa_cons pe_int pa_nil)))) rfl (.inr h2.loc))
    (pss_cons (ps_for hp hc (pi_enum ge me (pa_cons (pe_slice sl_list h0.pv (po_some h1.pv) (po_some pe_int)) pa_nil) rfl)
        (pg_tup hc (pgs_cons (pg_name hN h3.ix (.inl h3.loc) (.inr h3.loc)) (pgs_cons (pg_name hN h4.ix (.inl h4.loc) (.inr h4.loc)) pgs_nil)))
        (pss_cons (ps_set hN h5.ix (.inl h5.loc) (pe_op op_modN (pe_callTy call_int1 gi mi (by decide +kernel) (pa_cons h3.pv pa_nil)) h1.pv) rfl (.inr h5.loc))
          (pss_one (ps_asg (pe_op op_add (pe_ix ix_list h2.pv h5.pv (fun _ _ => rfl)) (pe_op op_mul h4.pv (pe_op op_add h3.pv pe_int))) (pg_sub h2.pv h5.pv set_list)))))
      (pss_one (ps_ret h2.pv))), ?_⟩
  -- the first cells
  have rest : ∀ (cs : List Int) (H1 : Hp) (p : Addr), Stp (fun _ => False) H H1 → H p = none → H1 p = some (.lst (cs.map V.int)) → 1 ≤ cs.length → cs.length ≤ 3 → (t ≤ ns.length → (cs.length : Int) = t) →
      (tSeq (tFor (iEnum X.K (tCons (tSl (rSlL X.K) (tVar 0) (tPart (tVar 1)) (tPart (tC (.int 63)))) tNil)) (gTup X.K 2 (gCons (gName 3) (gCons (gName 4) gNil)))
        (tSeq (tAsg (tOp (rI (fun _ j => j ≠ 0) fun i j => .int (i.fmod j)) (tCB (fun xs H Q => (∃ i, xs = [.int i] ∧ Q (.int i) H) ∨ ∃ k, xs = [.bl k] ∧ Q (.int (if k then 1 else 0)) H) (tCons (tVar 3) tNil)) (tVar 1)) (gName 5))
          (tAsg (tOp (rI0 fun i j => .int (i + j)) (tOp (rIxL X.K) (tVar 2) (tVar 5)) (tOp (rI CMul fun i j => .int (i * j)) (tVar 4) (tOp (rI0 fun i j => .int (i + j)) (tVar 3) (tC (.int 2))))) (gSub (tVar 2) (tVar 5) rSetL)))) (tRet (tVar 2)))
      { nx := fun _ H' => Q .non H', rt := Q } [some (.ref a), some (.int t), some (.ref p), none, none, none] H1 := by
    intro cs H1 p s1 np ep c1 c3 ct
    have hS1 := sqL_keep hS s1 (fun z => z)
    refine ⟨.ref a, rfl, .int t, rfl, t, rfl, 63, rfl, a, ns.map V.int, rfl, hS1, fun L hL => ?_⟩
    obtain ⟨ms, em, hm⟩ := cut_map (ns := ns) (lo := some t) (hi := some 63)
    rw [em]
    have npL : p ≠ L := ne_of_none ep hL
    refine ⟨L, ms.map V.int, rfl, .inl (.inl upd_same), ?_⟩
    have ml' : ms.length ≤ 63 := by omega
    refine for_it (walk_enum (xs := ms.map V.int)) (fun i σ H2 => ∃ (cs' : List Int) (x3 x4 x5 : Option V), σ = [some (.ref a), some (.int t), some (.ref p), x3, x4, x5] ∧ Stp (fun _ => False) H H2 ∧ H2 p = some (.lst (cs'.map V.int)) ∧ cs'.length = cs.length ∧ H2 L = some (.lst (ms.map V.int)))
      ⟨cs, none, none, none, rfl, s1.trans (Stp.new (O := fun _ => False) hL) fun _ z => z.elim, by rw [upd_ne npL]; exact ep, rfl, upd_same⟩ (fun i σ H2 _ ⟨_, _, _, _, _, _, _, _, e⟩ => .inl (.inl e)) ?_ ?_
    · rintro i v σ H2 H3 hi ⟨cs', x3, x4, x5, rfl, s2, ep2, lc, eL⟩ ⟨T, x, y, rfl, hT, rfl, e1, e2⟩
      cases e1
      rw [List.length_map] at hi
      have e2 : (ms.map V.int)[i]? = some y := e2
      rw [List.getElem?_map] at e2
      obtain ⟨z, ez, ezy⟩ := Option.map_eq_some_iff.mp e2
      subst ezy
      have nTp : p ≠ T := ne_of_none ep2 hT
      have nTL : L ≠ T := ne_of_none eL hT
      refine ⟨T, [.int (i : Nat), .int z], rfl, .inl (.inl upd_same), rfl, _, _, rfl, _, _, rfl, rfl, ?_⟩
      -- at = k % top
      refine ⟨.int (i : Nat), rfl, .inl ⟨_, rfl, .int t, rfl, _, t, rfl, rfl, by omega, ?_⟩⟩
      have hms : 0 < ms.length := by omega
      have htn : t ≤ ns.length := by
        have : HT.sIx ns.length 0 (some t) = min t.toNat ns.length := by
          show (if t < 0 then _ else min t.toNat ns.length) = _
          rw [if_neg (by omega)]
        omega
      have hct := ct htn
      have hmod : ((i : Nat) : Int).fmod t = (i : Int) % t := Int.fmod_eq_emod_of_nonneg _ (by omega)
      have hnn : 0 ≤ (i : Int) % t := Int.emod_nonneg _ (by omega)
      have hlt : (i : Int) % t < t := Int.emod_lt_of_pos _ (by omega)
      obtain ⟨j, hj⟩ : ∃ j : Nat, ((i : Nat) : Int).fmod t = (j : Int) := ⟨((i : Int) % t).toNat, by rw [hmod]; omega⟩
      have hjl : j < cs'.length := by
        rw [hmod] at hj
        omega
      obtain ⟨c, hcj⟩ : ∃ c, cs'[j]? = some c := ⟨_, List.getElem?_eq_getElem hjl⟩
      show gName 5 (.int (((i : Nat) : Int).fmod t)) _ _ _
      rw [hj]
      have ep3 : (upd H2 T (.tup [.int (i : Nat), .int z])) p = some (.lst (cs'.map V.int)) := by rw [upd_ne nTp]; exact ep2
      refine ⟨.ref p, rfl, .int j, rfl, p, cs'.map V.int, j, .int c, rfl, rfl, .inl (.inl ep3), ?_, .int z, rfl, .int (i : Nat), rfl, _, 2, rfl, rfl, z, _, rfl, rfl, .inr ⟨by omega, by omega⟩, c, _, rfl, rfl, .ref p, rfl, .int j, rfl, p, cs'.map V.int, j, j, rfl, rfl, ep3, ?_, ?_⟩
      · exact atI_nat (j := j) (by rw [List.getElem?_map, hcj]; rfl)
      · unfold ixN
        rw [if_pos (by omega), List.length_map, if_pos (by omega)]
        simp
      · refine ⟨cs'.set j (c + z * ((i : Nat) + 2)), _, _, _, rfl, ?_, ?_, by rw [List.length_set]; exact lc, ?_⟩
        · refine ⟨fun b o e n => ?_, fun b us e => ?_, fun b o u e => ?_, fun b e => ?_⟩
          · have nb : b ≠ p := ne_of_none e np
            rw [upd_ne nb, upd_ne (ne_of_none (s2.keep b o e (fun z => z)) hT)]
            exact s2.keep b o e fun z => z
          · have nb : b ≠ p := ne_of_none e np
            rw [upd_ne nb, upd_ne (ne_of_none (s2.tup b _ e) hT)]
            exact s2.tup b _ e
          · have nb : b ≠ p := ne_of_none e np
            rw [upd_ne nb, upd_ne (ne_of_none (s2.frz b _ _ e) hT)]
            exact s2.frz b _ _ e
          · by_cases nb : b = p
            · rw [nb]; exact np
            · rw [upd_ne nb] at e
              by_cases nt : b = T
              · rw [nt, upd_same] at e; cases e
              · rw [upd_ne nt] at e
                exact s2.dom b e
        · rw [upd_same, List.map_set]
        · rw [upd_ne (Ne.symm npL), upd_ne nTL]
          exact eL
    · rintro σ H2 ⟨cs', x3, x4, x5, rfl, s2, ep2, lc, eL⟩
      exact ⟨.ref p, rfl, q cs' H2 p s2 np ep2 (by omega) (by omega)⟩
  -- list(script[:top]) or [0]
  refine ⟨.ref a, rfl, .int t, rfl, t, rfl, a, ns.map V.int, rfl, hS, fun M hM => ?_⟩
  rw [len_cut ht1 ht3]
  refine ⟨M, (ns.take t.toNat).map V.int, rfl, .inl (.inl (.inl upd_same)), fun L hL => ?_⟩
  have nML : M ≠ L := fun e => by
    subst e
    rw [upd_same] at hL; cases hL
  have hLH : H L = none := by
    rw [upd_ne (Ne.symm nML)] at hL
    exact hL
  have s1 : Stp (fun _ => False) H (upd (upd H M (.lst ((ns.take t.toNat).map V.int))) L (.lst ((ns.take t.toNat).map V.int))) := (Stp.new (O := fun _ => False) hM).trans (Stp.new (O := fun _ => False) hL) fun _ z => z.elim
  cases hns : ns with
  | nil =>
    subst hns
    refine ⟨false, .inl ⟨_, .inl (.inl upd_same), by simp⟩, ?_⟩
    rw [if_neg Bool.false_ne_true]
    refine ⟨by rw [sizeLine_eq]; exact Nat.le_of_ble_eq_true rfl, fun p hp => ?_⟩
    have hpL : p ≠ L := fun e => by subst e; rw [upd_same] at hp; cases hp
    have hpM : p ≠ M := fun e => by subst e; rw [upd_ne hpL, upd_same] at hp; cases hp
    have hpH : H p = none := by rw [upd_ne hpL, upd_ne hpM] at hp; exact hp
    exact rest [0] _ p (s1.trans (Stp.new (O := fun _ => False) hp) fun _ z => z.elim) hpH upd_same (Nat.le_refl _) (by simp) (fun h => by simp at h; omega)
  | cons n r =>
    have hpos : 0 < (ns.take t.toNat).length := by
      rw [hns, List.length_take, List.length_cons]
      omega
    refine ⟨true, .inl ⟨_, .inl (.inl upd_same), ?_⟩, ?_⟩
    · rw [← hns]
      cases hq : (ns.take t.toNat).map V.int with
      | nil =>
        have := congrArg List.length hq
        rw [List.length_map] at this
        have t2 : (ns.take t.toNat).length = 0 := this
        omega
      | cons _ _ => rfl
    · rw [if_pos rfl, ← hns]
      refine rest (ns.take t.toNat) _ L s1 hLH upd_same hpos (by rw [List.length_take]; omega) fun h => ?_
      rw [List.length_take]
      omega
end
end Dk

set_option Elab.async false
set_option linter.all false
set_option autoImplicit false
set_option maxRecDepth 100000
set_option maxHeartbeats 4000000
/-! Dk24: the law's top. -/
namespace Dk
open PySem PySem.Spec PyProof.Rows L2

/-! ### cells as a def -/
def nmLoc (sc : Scope) (x : Str) : Bool := (match sc.names.lookup x with | some .local => true | _ => false) && !(x == ("__debug__" : Str)) && !(x == ("__classdict__" : Str))
theorem nmLoc_ok {X : Cx} {sc : Scope} {x : Str} {i : Nat} (hs : X.env.scope = sc) (hi : X.N[i]? = some x) (h : nmLoc sc x = true) : LcAt X x i := by
  unfold nmLoc at h
  rw [Bool.and_eq_true, Bool.and_eq_true, Bool.not_eq_true', Bool.not_eq_true'] at h
  refine ⟨hi, ?_, h.1.2, h.2⟩
  rw [hs]
  have h1 := h.1.1
  split at h1
  · assumption
  · cases h1
theorem glB_gl {X : Cx} {sc : Scope} {x : Str} (hs : X.env.scope = sc) (h : glB sc x = true) : Gl X x := by
  show X.env.scope.names.lookup x = some .globalImplicit
  rw [hs]
  unfold glB at h
  split at h
  · assumption
  · cases h
def cellsB' (sc : Scope) (nS nT nC nK nE nA : Str) : Bool :=
  scopeB [nS, nT, nC, nK, nE, nA] [nS, nT] sc && nmLoc sc nS && nmLoc sc nT && nmLoc sc nC && nmLoc sc nK && nmLoc sc nE && nmLoc sc nA && glB sc "list" && glB sc "enumerate" && glB sc "int"
section
variable {P : Program} {w : World} {K : PySem.W.Frag} {mg : Str → Option Value} {base : Heap}
variable {nS nT nC nK nE nA : Str} {p1 p2 p3 p4 p5 p6 p7 p8 p9 p10 p11 p12 p13 p14 p15 p16 p17 p18 p19 p20 p21 p22 p23 p24 p25 p26 p27 p28 p29 p30 p31 p32 p33 p34 p35 p36 p37 p38 p39 p40 p41 p42 p43 p44 p45 : Pos} {k1 k2 k3 k4 k5 k6 : Nat}
theorem cells_fn {x : Str} {st : Stmt} {adr : Addr} {fd : FuncData} (F : Fun K x x st adr fd) (hb : defBody st = cellsBody nS nT nC nK nE nA p1 p2 p3 p4 p5 p6 p7 p8 p9 p10 p11 p12 p13 p14 p15 p16 p17 p18 p19 p20 p21 p22 p23 p24 p25 p26 p27 p28 p29 p30 p31 p32 p33 p34 p35 p36 p37 p38 p39 p40 p41 p42 p43 p44 p45 k1 k2 k3 k4 k5)
    (hc : cellsB' (defScope st) nS nT nC nK nE nA = true) (ml : mg "list" = none) (me : mg "enumerate" = none) (mi : mg "int" = none) (t : Nat) : FnOk P w K mg base L2.CX0 (t + 1) adr fd [nS, nT] (spCells K) := by
  unfold cellsB' at hc
  simp only [Bool.and_eq_true] at hc
  obtain ⟨⟨⟨⟨⟨⟨⟨⟨⟨c0, c1⟩, c2⟩, c3⟩, c4⟩, c5⟩, c6⟩, c7⟩, c8⟩, c9⟩ := hc
  have S := scope_ok c0
  refine F.ok S (fun vs H Q E h => ?_) fun cdv A outer s H vs Q E hr h => ?_
  · obtain ⟨a, ns, t, rfl, _⟩ := h
    rfl
  · rw [hb]
    have vl : vs.length = 2 := by
      obtain ⟨a, ns, t, rfl, _⟩ := h
      rfl
    have st0 : L2.start [nS, nT, nC, nK, nE, nA] vs = vs.map some ++ [none, none, none, none] := by
      unfold L2.start
      rw [vl]
      rfl
    rw [st0]
    exact cells_ok S.nd rfl PassesOwn.never (nmLoc_ok rfl rfl c1) (nmLoc_ok rfl rfl c2) (nmLoc_ok rfl rfl c3) (nmLoc_ok rfl rfl c4) (nmLoc_ok rfl rfl c5) (nmLoc_ok rfl rfl c6)
      (glB_gl rfl c7) ml (glB_gl rfl c8) me (glB_gl rfl c9) mi h

/-! ### the law -/
def spLaw (K : PySem.W.Frag) : Sp := fun vs H Q _ => ∃ (a : Addr) (ns : List Int), vs = [.ref a] ∧ SqL K H a (ns.map V.int) ∧ ns.length ≤ 63 ∧ ∀ H', Q (.bl true) H'
/-- nothing known of the slots -/
theorem mt_none {n : Nat} {σ : Sg} {H : Hp} (h : σ.length = n) : Mt (fun _ => False) (List.replicate n none) σ H := by
  have no : ∀ {i : Nat} {p : PV} {g : Fl}, (List.replicate n (none : Sl))[i]? ≠ some (some (p, g)) := fun {i p g} e => by
    rw [List.getElem?_replicate] at e
    split at e <;> cases e
  exact ⟨by rw [List.length_replicate, h], fun _ z => z.elim, fun i p e => absurd e no, fun i p g e _ => absurd e no, fun i j p g q g' a e => absurd e no⟩
/-- one new list in the second slot -/
def envC (n : Nat) (cs : List Int) : En := (List.replicate n none).set 1 (some (.lst (cs.map PV.int), .own))
theorem ints_rp {A : AS} {H : Hp} : ∀ cs : List Int, RpL A H (cs.map PV.int) (cs.map V.int)
  | [] => .nil
  | c :: cs => .cons (.int c) (ints_rp cs)
theorem mt_cells {n : Nat} {σ : Sg} {H : Hp} {p : Addr} {cs : List Int} (h : σ.length = n) (h1 : σ[1]? = some (some (.ref p))) (hp : H p = some (.lst (cs.map V.int))) (hz : cs.length ≤ sizeLine) : Mt (fun _ => False) (envC n cs) σ H := by
  have h1n : 1 < n := by rw [← h]; exact (List.getElem?_eq_some_iff.mp h1).1
  have ge : ∀ {i : Nat} {q : PV} {g : Fl}, (envC n cs)[i]? = some (some (q, g)) → i = 1 ∧ q = .lst (cs.map PV.int) ∧ g = .own := fun {i q g} e => by
    unfold envC at e
    by_cases z : i = 1
    · subst z
      rw [List.getElem?_set_self (by rw [List.length_replicate]; exact h1n)] at e
      cases e
      exact ⟨rfl, rfl, rfl⟩
    · rw [get_set_ne z, List.getElem?_replicate] at e
      split at e <;> cases e
  refine ⟨by unfold envC; rw [List.length_set, List.length_replicate, h], fun _ z => z.elim, fun i q e => ?_, fun i q g e hg => ?_, fun i j q g q' g' a e hg e' hg' _ _ => ?_⟩
  · obtain ⟨_, _, z⟩ := ge e
    cases z
  · obtain ⟨rfl, rfl, rfl⟩ := ge e
    exact ⟨p, h1, fun z => z, _, hp, by rw [List.length_map]; exact hz, ints_rp cs⟩
  · rw [(ge e).1, (ge e').1]
variable {ds : List Df} {cs : List (Str × Lt)} {bl : List Str} {sts : Nat → Stmt} {adr : Nat → Addr} {fd : Nat → FuncData}
variable {nL nX : Str} {q1 q2 q3 q4 q5 q6 q7 q8 q9 : Pos}
/-- [if ..: return False;] cells = _law_cells(script, n); return .. -/
theorem law_fn {N : List Str} {t n : Nat} {x : Str} {st : Stmt} {a0 : Addr} {fd0 : FuncData} {aC : Addr} {fdC : FuncData} {psC : List Str} {head : List Stmt} {c e : Expr} {t0 : T} {eF : E} (T : TopK K mg ds cs bl sts adr fd) (F : Fun K x x st a0 fd0) (FC : FnOk P w K mg base L2.CX0 t aC fdC psC (spCells K)) (mC : mg nX = some (.ref aC)) (kC : PySem.W.keepIn K (.ref aC) = true) (bC : Bd K fdC psC 2 [] [])
    (hb : defBody st = head ++ [.Assign [.Name nC q1] (.Call (.Name nX q2) [.Name nS q3, .Constant (.int n) k1 q4] [] q5) q6, .Return (some e) q7])
    (hh : head = [] ∨ head = [.If c [.Return (some (.Constant (.bool false) k2 q8)) q9] [] p1])
    (hs : scopeB N [nS] (defScope st) = true) (hN1 : N[1]? = some nC) (hnC : nmB ⟨N, defScope st, fun _ => true⟩ 1 nC = true) (hnS : nmLoc (defScope st) nS = true) (hnX : glB (defScope st) nX = true) (hdX : dbgB nX = true) (hn1 : 1 ≤ n) (hn3 : n ≤ 3)
    (he : mE (tbOf ds cs bl) ⟨N, defScope st, fun _ => true⟩ eF e = true) (ht : head = [] ∨ mT (tbOf ds cs bl) ⟨N, defScope st, fun _ => true⟩ t0 c = true)
    (vt : head = [] ∨ ∃ env, dT (cnOf ds cs t) t0 (List.replicate N.length none) = .ok false env)
    (ve : ∀ zs : List Int, 1 ≤ zs.length → zs.length ≤ 3 → ∃ fr env, dE (cnOf ds cs t) eF (envC N.length zs) = .ok (.bl true, fr) env) :
    FnOk P w K mg base L2.CX0 (t + 1) a0 fd0 [nS] (spLaw K) := by
  have S := scope_ok hs
  have hN0 : N[0]? = some nS := by
    have := S.pre
    cases N with
    | nil => cases this
    | cons y r => cases this; rfl
  refine F.ok S (fun vs H Q E h => ?_) fun cdv A outer s H vs Q E hr h => ?_
  · obtain ⟨a, ns, rfl, _⟩ := h
    rfl
  · obtain ⟨a, ns, rfl, hS, hl, q⟩ := h
    rw [hb]
    -- the context
    have ck := ck_of (Z := ⟨N, defScope st, fun _ => true⟩) (X := (cxOf L2.CX0 P w K mg base N x (defScope st) a0 cdv A outer s H E).nox) T (fun f d hd => pg_ok T t f d hd) hr rfl rfl (fun _ _ => rfl) S.nd rfl
    have so : StOk (tbOf ds cs bl) (cnOf ds cs t) ⟨N, defScope st, fun _ => true⟩ (cxOf L2.CX0 P w K mg base N x (defScope st) a0 cdv A outer s H E).nox := ⟨ck, PassesOwn.never, S.kind⟩
    have hx := nm_ok ck hnC
    have hs0 := nmLoc_ok (X := (cxOf L2.CX0 P w K mg base N x (defScope st) a0 cdv A outer s H E).nox) rfl hN0 hnS
    have lN : 1 < N.length := (List.getElem?_eq_some_iff.mp hN1).1
    have pc : PS (cxOf L2.CX0 P w K mg base N x (defScope st) a0 cdv A outer s H E).nox (.Assign [.Name nC q1] (.Call (.Name nX q2) [.Name nS q3, .Constant (.int n) k1 q4] [] q5) q6) (tAsg (tCallS (spCells K) [] 2 0 L2.E0 (tCons (tVar 0) (tCons (tC (.int n)) tNil)) tNil) (gName 1)) :=
      ps_set S.nd hx.ix hx.lo.1 (pe_callS (ks := []) FC hr (glB_gl rfl hnX) mC kC bC pass0 (pa_cons hs0.pv (pa_cons pe_int pa_nil)) pk_nil rfl rfl rfl (dbg_ok hdX).1) rfl hx.lo.2
    have pr := ps_ret (pos := q7) (mE_ok eF _ _ ck e he)
    have tail : ∀ (σ : Sg) (H1 : Hp), σ = L2.start N [.ref a] → SqL K H1 a (ns.map V.int) → tSeq (tAsg (tCallS (spCells K) [] 2 0 L2.E0 (tCons (tVar 0) (tCons (tC (.int n)) tNil)) tNil) (gName 1)) (tRet (tE (dE (cnOf ds cs t) eF))) { nx := fun _ H' => Q .non H', rt := Q } σ H1 := by
      rintro σ H1 rfl hS1
      have g0 : (L2.start N [V.ref a])[0]? = some (some (.ref a)) := rfl
      refine ⟨_, g0, ⟨rfl, rfl, a, ns, n, rfl, hS1, hl, by omega, by omega, fun zs H2 p s2 np ep z1 z3 => ?_⟩⟩
      have sl : ((L2.start N [V.ref a]).set 1 (some (.ref p))).length = N.length := by
        rw [List.length_set]
        unfold L2.start
        rw [List.length_append, List.length_map, List.length_replicate]
        show 1 + (N.length - 1) = N.length
        omega
      have g1 : ((L2.start N [V.ref a]).set 1 (some (.ref p)))[1]? = some (some (.ref p)) := List.getElem?_set_self (by rw [List.length_set] at sl; omega)
      obtain ⟨fr, env, ev⟩ := ve zs z1 z3
      refine tE_iff.mpr ⟨fun _ => False, _, _, env, mt_cells sl g1 ep (by rw [sizeLine_eq]; omega), ev, fun v H3 x3 rv => ?_⟩
      have r := rv.val.2
      cases r
      exact q H3
    rcases hh with rfl | rfl
    · exact ⟨_, pss_cons pc (pss_one pr), tail _ H rfl hS⟩
    · have ht := ht.resolve_left (by simp)
      obtain ⟨env, vt⟩ := vt.resolve_left (by simp)
      refine ⟨_, pss_cons (ps_if (mT_ok t0 _ _ ck c ht) (pss_one (ps_ret pe_bl)) pss_nil) (pss_cons pc (pss_one pr)), ?_⟩
      have sl : (L2.start N [V.ref a]).length = N.length := by
        unfold L2.start
        rw [List.length_append, List.length_map, List.length_replicate]
        show 1 + (N.length - 1) = N.length
        omega
      refine tB_iff.mpr ⟨fun _ => False, _, false, env, mt_none sl, vt, fun H1 x1 m1 => ?_⟩
      rw [if_neg Bool.false_ne_true]
      refine tail _ H1 rfl (sqL_keep hS x1.stp fun z => ?_)
      obtain ⟨i, p, g, e, _⟩ := z
      rw [List.getElem?_replicate] at e
      split at e <;> cases e
end
end Dk

set_option Elab.async false
set_option linter.all false
set_option autoImplicit false
set_option maxRecDepth 100000
set_option maxHeartbeats 4000000
/-! Dk25: what a generated top needs. -/
namespace Dk
open PySem PySem.Spec PyProof.Rows L2
def AllI {α : Type} (P : Nat → α → Prop) : Nat → List α → Prop
  | _, [] => True
  | n, d :: r => P n d ∧ AllI P (n + 1) r
theorem allI' {α : Type} {P : Nat → α → Prop} : ∀ {l : List α} {n : Nat}, AllI P n l → ∀ f d, l[f]? = some d → P (n + f) d
  | [], _, _, f, d, h => by cases h
  | x :: l, n, h, 0, d, e => by
    cases e
    exact h.1
  | x :: l, n, h, f + 1, d, e => by
    have := allI' h.2 f d e
    rw [show n + 1 + f = n + (f + 1) by omega] at this
    exact this
theorem allI {α : Type} {P : Nat → α → Prop} {l : List α} (h : AllI P 0 l) (f : Nat) (d : α) (e : l[f]? = some d) : P f d := by
  have := allI' h f d e
  rw [Nat.zero_add] at this
  exact this
def AllM {α : Type} (P : α → Prop) : List α → Prop
  | [] => True
  | d :: r => P d ∧ AllM P r
theorem allM {α : Type} {P : α → Prop} : ∀ {l : List α}, AllM P l → ∀ x, x ∈ l → P x
  | [], _, x, h => by cases h
  | y :: l, h, x, e => by
    cases e with
    | head => exact h.1
    | tail _ m => exact allM h.2 x m
/-- the tables fit, def by def -/
theorem ck_all {ds : List Df} {cs : List (Str × Lt)} {bl : List Str} {sts : Nat → Stmt} (h : ((List.range ds.length).all fun f => match ds[f]? with | some d => dfB (tbOf ds cs bl) d (sts f) | none => false) = true) (f : Nat) (d : Df) (e : ds[f]? = some d) : dfB (tbOf ds cs bl) d (sts f) = true := by
  have l : f < ds.length := (List.getElem?_eq_some_iff.mp e).1
  have := List.all_eq_true.mp h f (List.mem_range.mpr l)
  rw [e] at this
  exact this
theorem bl_all {bl : List Str} {mg : Str → Option Value} (h : AllM (fun x => mg x = none) bl) (x : Str) (e : bl.contains x = true) : mg x = none := allM h x (List.contains_iff_mem.mp e)
end Dk

set_option Elab.async false
set_option linter.all false
set_option autoImplicit false
set_option maxRecDepth 100000
set_option maxHeartbeats 4000000
/-! Dk26: reckoning with the interpreter: equations for simp. -/
namespace Dk
open PySem PySem.Spec PyProof.Rows L2

/-- simp leaves alone what a later argument's type names -/
def Tag {α : Sort _} (x : α) : Type := Unit
def tag {α : Sort _} (x : α) : Tag x := ()
theorem Res.bind_ok {α β : Type} (a : α) (e : En) (f : α → En → Res β) : (Res.ok a e).bind f = f a e := id rfl
theorem Res.bind_bad {α β : Type} (f : α → En → Res β) : (Res.bad : Res α).bind f = .bad := id rfl
def bnd {α β : Type} (r : Res α) (f : α → En → Res β) (u : Tag f) : Res β := r.bind f
@[simp ↓] theorem Res.bind_bnd {α β : Type} (r : Res α) (f : α → En → Res β) : r.bind f = bnd r f (tag f) := id rfl
@[simp] theorem bnd_ok {α β : Type} (a : α) (e : En) (f : α → En → Res β) (u : Tag f) : bnd (Res.ok a e) f u = f a e := id rfl
@[simp] theorem bnd_bad {α β : Type} (f : α → En → Res β) (u : Tag f) : bnd (Res.bad : Res α) f u = .bad := id rfl
@[simp] theorem bnd_ite {α β : Type} {c : Prop} [Decidable c] (x y : Res α) (f : α → En → Res β) (u : Tag f) : bnd (if c then x else y) f u = if c then bnd x f u else bnd y f u := by
  split <;> rfl
@[simp] theorem opt_some {α : Type} (a : α) (e : En) : opt (some a) e = .ok a e := id rfl
@[simp] theorem opt_none {α : Type} (e : En) : opt (none : Option α) e = .bad := id rfl
@[simp] theorem optE_some (p : PV) (e : En) : optE (some p) e = .ok (p, false) e := id rfl
@[simp] theorem optE_none (e : En) : optE none e = .bad := id rfl

/-- a value out of two options -/
def both {α : Type} (x y : Option PV) (f : PV → PV → Res α) : Res α :=
  match x, y with
  | some p, some q => f p q
  | _, _ => .bad
def bothT {α : Type} (x y : Option PV) (f : PV → PV → Res α) (u : Tag f) : Res α := both x y f
@[simp ↓] theorem both_T {α : Type} (x y : Option PV) (f : PV → PV → Res α) : both x y f = bothT x y f (tag f) := id rfl
@[simp] theorem both_some {α : Type} (p q : PV) (f : PV → PV → Res α) (u : Tag f) : bothT (some p) (some q) f u = f p q := id rfl
def oneA {α β : Type} (x : Option β) (f : β → Res α) : Res α :=
  match x with
  | some p => f p
  | none => .bad
def oneT {α β : Type} (x : Option β) (f : β → Res α) (u : Tag f) : Res α := oneA x f
@[simp ↓] theorem one_T {α β : Type} (x : Option β) (f : β → Res α) : oneA x f = oneT x f (tag f) := id rfl
@[simp] theorem oneA_some {α β : Type} (p : β) (f : β → Res α) (u : Tag f) : oneT (some p) f u = f p := id rfl
def one {α : Type} (x : Option PV) (f : PV → Res α) : Res α :=
  match x with
  | some p => f p
  | none => .bad
def many {α : Type} (x : Option (List PV)) (f : List PV → Res α) : Res α :=
  match x with
  | some p => f p
  | none => .bad
@[simp ↓] theorem one_A {α : Type} (x : Option PV) (f : PV → Res α) : one x f = oneT x f (tag f) := by cases x <;> rfl
@[simp ↓] theorem many_A {α : Type} (x : Option (List PV)) (f : List PV → Res α) : many x f = oneT x f (tag f) := by cases x <;> rfl
/-- a test -/
def bfi {α : Type} (k : Bool) (x y : Res α) : Res α := if k then x else y
def bfiT {α : Type} (k : Bool) (x y : Res α) (u : Tag x) (v : Tag y) : Res α := bfi k x y
@[simp ↓] theorem bfi_T {α : Type} (k : Bool) (x y : Res α) : bfi k x y = bfiT k x y (tag x) (tag y) := id rfl
@[simp] theorem bfi_true {α : Type} (x y : Res α) (u : Tag x) (v : Tag y) : bfiT true x y u v = x := id rfl
@[simp] theorem bfi_false {α : Type} (x y : Res α) (u : Tag x) (v : Tag y) : bfiT false x y u v = y := id rfl
theorem bfi_eq {α : Type} (k : Bool) (x y : Res α) : bfi k x y = if k then x else y := rfl
theorem bfi_bind {α β : Type} (k : Bool) (x y : Res α) (f : α → En → Res β) : (bfi k x y).bind f = bfi k (x.bind f) (y.bind f) := by cases k <;> rfl

/-! ### the primitives -/
@[simp] theorem pv_non : Lt.non.pv = .non := id rfl
@[simp] theorem pv_bl (b : Bool) : (Lt.bl b).pv = .bl b := id rfl
@[simp] theorem pv_int (i : Int) : (Lt.int i).pv = .int i := id rfl
@[simp] theorem pv_str (s : List Nat) : (Lt.str s).pv = .str s := id rfl
@[simp] theorem tru_non : tru .non = some false := id rfl
@[simp] theorem tru_bl (b : Bool) : tru (.bl b) = some b := id rfl
@[simp] theorem tru_int (i : Int) : tru (.int i) = some (i != 0) := id rfl
@[simp] theorem tru_str (s : List Nat) : tru (.str s) = some (!s.isEmpty) := id rfl
@[simp] theorem tru_lst (s : List PV) : tru (.lst s) = some (!s.isEmpty) := id rfl
@[simp] theorem tru_tup (s : List PV) : tru (.tup s) = some (!s.isEmpty) := id rfl
@[simp] theorem bi_true : bi true = 1 := id rfl
@[simp] theorem bi_false : bi false = 0 := id rfl
@[simp] theorem rdVar_eq (i : Nat) (env : En) : rdVar i env = match env[i]? with
  | some (some (p, .fz)) => .ok (p, false) env
  | some (some (p, .own)) => .ok (p, false) (env.set i (some (p, .fz)))
  | _ => .bad := rfl
@[simp] theorem mvVar_eq (i : Nat) (env : En) : mvVar i env = match env[i]? with
  | some (some (p, .fz)) => .ok (p, false) env
  | some (some (p, .own)) => .ok (p, true) (env.set i none)
  | _ => .bad := rfl
@[simp] theorem rdSl_eq (i : Nat) (env : En) : rdSl i env = match env[i]? with
  | some (some (p, _)) => some p
  | _ => none := rfl
@[simp] theorem rd_v (env : En) (p : PV) : (Ag.v p).rd env = some p := id rfl
@[simp] theorem rd_t (env : En) (p : PV) : (Ag.t p).rd env = some p := id rfl
@[simp] theorem rd_s (env : En) (i : Nat) : (Ag.s i).rd env = rdSl i env := id rfl
@[simp] theorem rdAll_nil (env : En) : rdAll env [] = some [] := id rfl
def cons2 {α : Type} (x : Option α) (y : Option (List α)) : Option (List α) :=
  match x, y with
  | some p, some ps => some (p :: ps)
  | _, _ => none
@[simp] theorem cons2_some {α : Type} (p : α) (ps : List α) : cons2 (some p) (some ps) = some (p :: ps) := id rfl
@[simp] theorem rdAll_cons (env : En) (a : Ag) (r : List Ag) : rdAll env (a :: r) = cons2 (a.rd env) (rdAll env r) := by
  show (match a.rd env, rdAll env r with | some p, some ps => some (p :: ps) | _, _ => none) = _
  cases a.rd env <;> cases rdAll env r <;> rfl
@[simp] theorem rdW_v (env : En) (p : PV) : (Ag.v p).rdW env = some p := id rfl
@[simp] theorem rdW_t (env : En) (p : PV) : (Ag.t p).rdW env = some p := id rfl
@[simp] theorem rdW_s (env : En) (i : Nat) : (Ag.s i).rdW env = match env[i]? with
    | some (some (p, .fz)) => some p
    | _ => none := rfl
@[simp] theorem rdWAll_nil (env : En) : rdWAll env [] = some [] := id rfl
@[simp] theorem rdWAll_cons (env : En) (a : Ag) (r : List Ag) : rdWAll env (a :: r) = cons2 (a.rdW env) (rdWAll env r) := by
  show (match a.rdW env, rdWAll env r with | some p, some ps => some (p :: ps) | _, _ => none) = _
  cases a.rdW env <;> cases rdWAll env r <;> rfl
/-- a slot of a loop: nothing known, or read only -/
def fzs (x : Sl) : Prop := x = none ∨ ∃ p, x = some (p, .fz)
@[simp] theorem fzs_none : fzs none := .inl rfl
@[simp] theorem fzs_fz (p : PV) : fzs (some (p, .fz)) := .inr ⟨p, rfl⟩
def slotSet (x : Sl) (e : En) : Option En :=
  match x with
  | some (_, .io) => none
  | _ => some e
@[simp] theorem slotSet_none (e : En) : slotSet none e = some e := id rfl
@[simp] theorem slotSet_fz (p : PV) (e : En) : slotSet (some (p, .fz)) e = some e := id rfl
@[simp] theorem slotSet_own (p : PV) (e : En) : slotSet (some (p, .own)) e = some e := id rfl
@[simp] theorem slotSet_fzs {x : Sl} (h : fzs x) (e : En) : slotSet x e = some e := by
  rcases h with rfl | ⟨_, rfl⟩ <;> rfl
@[simp] theorem asgSl_eq (i : Nat) (p : PV) (fr : Bool) (env : En) : asgSl i p fr env = match env[i]? with
  | some x => slotSet x (env.set i (some (p, if fr then .own else .fz)))
  | none => none := by
  unfold asgSl slotSet
  cases env[i]? with
  | none => rfl
  | some x => cases x with
    | none => rfl
    | some q => obtain ⟨p', f⟩ := q; cases f <;> rfl
@[simp] theorem asgAll_nil (env : En) : asgAll [] [] env = some env := id rfl
@[simp] theorem asgAll_cons (i : Nat) (is : List Nat) (p : PV) (ps : List PV) (env : En) : asgAll (i :: is) (p :: ps) env = (asgSl i p false env).bind fun env' => asgAll is ps env' := id rfl
@[simp] theorem asgTg_nm (i : Nat) (p : PV) (env : En) : asgTg (.nm i) p env = asgSl i p false env := id rfl
@[simp] theorem asgTg_tup (is : List Nat) (ps : List PV) (env : En) : asgTg (.tp is) (.tup ps) env = asgAll is ps env := id rfl
@[simp] theorem asgTg_lst (is : List Nat) (ps : List PV) (env : En) : asgTg (.tp is) (.lst ps) env = asgAll is ps env := id rfl
@[simp] theorem wipeE_nil (env : En) : wipeE env [] = env := id rfl
@[simp] theorem wipeE_cons (env : En) (v : Nat) (vs : List Nat) : wipeE env (v :: vs) = (wipeE env vs).set v none := id rfl
@[simp] theorem unwipe_nil (env env' : En) : unwipe env env' [] = env' := id rfl
@[simp] theorem unwipe_cons (env env' : En) (v : Nat) (vs : List Nat) : unwipe env env' (v :: vs) = (unwipe env env' vs).set v (match env[v]? with | some s => s | none => none) := id rfl
@[simp] theorem wipeOk_nil (env : En) : wipeOk env [] = true := id rfl
@[simp] theorem wipeOk_cons (env : En) (i : Nat) (vs : List Nat) : wipeOk env (i :: vs) = ((match env[i]? with
  | some none => true
  | some (some (_, .fz)) => true
  | _ => false) && wipeOk env vs) := rfl
@[simp] theorem wkX_eq (w : Wk) (as : List Ag) (env : En) : wkX w as env = many (rdWAll env as) fun ps => opt (wkF w ps) env := by
  unfold wkX many
  cases rdWAll env as <;> rfl
@[simp] theorem wk_seq_lst (xs : List PV) : wkF .seq [.lst xs] = some xs := id rfl
@[simp] theorem wk_seq_tup (xs : List PV) : wkF .seq [.tup xs] = some xs := id rfl
@[simp] theorem wk_str_e (s : List Nat) : wkF .str [.str s] = some (s.map fun c => .str [c]) := id rfl
@[simp] theorem wk_zip_lst (xs ys : List PV) : wkF .zip [.lst xs, .lst ys] = some (zipV xs ys) := id rfl
@[simp] theorem wk_zip_tup (xs ys : List PV) : wkF .zip [.tup xs, .tup ys] = some (zipV xs ys) := id rfl
@[simp] theorem wk_enum_e (xs : List PV) : wkF .enum [.lst xs] = some (enumV 0 xs) := id rfl
@[simp] theorem wk_range_e (j : Int) : wkF .range [.int j] = if rgOk j && szl j.toNat then some (rangeV 0 j.toNat) else none := id rfl
@[simp] theorem wk_range2_e (i j : Int) : wkF .range2 [.int i, .int j] = if (rgOk i && rgOk j) && szl (j - i).toNat then some (rangeV i (j - i).toNat) else none := id rfl

@[simp] theorem bin_add_int (i j : Int) : binF .Add (.int i) (.int j) = some (.int (i + j), false) := id rfl
@[simp] theorem bin_add_str (x y : List Nat) : binF .Add (.str x) (.str y) = if szl (x.length + y.length) then some (.str (x ++ y), false) else none := id rfl
@[simp] theorem bin_add_lst (x y : List PV) : binF .Add (.lst x) (.lst y) = if szl (x.length + y.length) then some (.lst (x ++ y), true) else none := id rfl
@[simp] theorem bin_add_tup (x y : List PV) : binF .Add (.tup x) (.tup y) = if szl (x.length + y.length) then some (.tup (x ++ y), false) else none := id rfl
@[simp] theorem bin_sub (i j : Int) : binF .Sub (.int i) (.int j) = some (.int (i - j), false) := id rfl
@[simp] theorem bin_mul_int (i j : Int) : binF .Mult (.int i) (.int j) = if mulOk i j then some (.int (i * j), false) else none := id rfl
@[simp] theorem bin_mul_lst (xs : List PV) (k : Int) : binF .Mult (.lst xs) (.int k) = if repOk xs.length k then some (.lst (List.replicate k.toNat xs).flatten, true) else none := id rfl
@[simp] theorem bin_mul_tup (xs : List PV) (k : Int) : binF .Mult (.tup xs) (.int k) = if repOk xs.length k && decide (2 ≤ k) && !xs.isEmpty then some (.tup (List.replicate k.toNat xs).flatten, false) else none := id rfl
@[simp] theorem bin_fdiv (i j : Int) : binF .FloorDiv (.int i) (.int j) = (if divOk j then some (i.fdiv j) else none).map fun z => (.int z, false) := id rfl
@[simp] theorem bin_mod (i j : Int) : binF .Mod (.int i) (.int j) = (if j = 0 then none else some (i.fmod j)).map fun z => (.int z, false) := id rfl
@[simp] theorem bin_pow (i j : Int) : binF .Pow (.int i) (.int j) = (if powOk i j then some (i ^ j.toNat) else none).map fun z => (.int z, false) := id rfl

@[simp] theorem cmp_eq (p q : PV) : cmpF .Eq p q = if cod p && cod q then some (eqv p q) else none := id rfl
@[simp] theorem cmp_ne (p q : PV) : cmpF .NotEq p q = if cod p && cod q then some (!eqv p q) else none := by
  show (eqF p q).map (!·) = _
  unfold eqF
  split <;> rfl
@[simp] theorem cmp_lt (i j : Int) : cmpF .Lt (.int i) (.int j) = some (decide (i < j)) := id rfl
@[simp] theorem cmp_gt (i j : Int) : cmpF .Gt (.int i) (.int j) = some (decide (j < i)) := id rfl
@[simp] theorem cmp_le (i j : Int) : cmpF .LtE (.int i) (.int j) = some (decide (i ≤ j)) := by
  show some (!decide (j < i)) = _
  congr 1
  by_cases h : j < i
  · simp [h]
  · simp [h]; omega
@[simp] theorem cmp_ge (i j : Int) : cmpF .GtE (.int i) (.int j) = some (decide (j ≤ i)) := by
  show some (!decide (i < j)) = _
  congr 1
  by_cases h : i < j
  · simp [h]
  · simp [h]; omega
@[simp] theorem cmp_ltS (i j : List Nat) : cmpF .Lt (.str i) (.str j) = some (strLt i j) := id rfl
@[simp] theorem cmp_gtS (i j : List Nat) : cmpF .Gt (.str i) (.str j) = some (strLt j i) := id rfl
@[simp] theorem cmp_is_non (p : PV) : cmpF .Is p .non = some (isNon p) := id rfl
@[simp] theorem cmp_isnot_non (p : PV) : cmpF .IsNot p .non = some (!isNon p) := id rfl
@[simp] theorem cmp_is_bl (a b : Bool) : cmpF .Is (.bl a) (.bl b) = some (decide (a = b)) := id rfl
@[simp] theorem cmp_isnot_bl (a b : Bool) : cmpF .IsNot (.bl a) (.bl b) = some (!decide (a = b)) := id rfl
@[simp] theorem isNon_non : isNon .non = true := id rfl
@[simp] theorem isNon_bl (b : Bool) : isNon (.bl b) = false := id rfl
@[simp] theorem isNon_int (b : Int) : isNon (.int b) = false := id rfl
@[simp] theorem isNon_str (b : List Nat) : isNon (.str b) = false := id rfl
@[simp] theorem isNon_lst (b : List PV) : isNon (.lst b) = false := id rfl
@[simp] theorem isNon_tup (b : List PV) : isNon (.tup b) = false := id rfl
@[simp] theorem cmp_in_lst (p : PV) (xs : List PV) : cmpF .In p (.lst xs) = if cod p && cod (.lst xs) then some (anyEq p xs) else none := id rfl
@[simp] theorem cmp_in_tup (p : PV) (xs : List PV) : cmpF .In p (.tup xs) = if cod p && cod (.tup xs) then some (anyEq p xs) else none := id rfl
@[simp] theorem cmp_notin_lst (p : PV) (xs : List PV) : cmpF .NotIn p (.lst xs) = if cod p && cod (.lst xs) then some (!anyEq p xs) else none := by
  show (if cod p && cod (.lst xs) then some (anyEq p xs) else none).map (!·) = _
  split <;> rfl
@[simp] theorem cmp_notin_tup (p : PV) (xs : List PV) : cmpF .NotIn p (.tup xs) = if cod p && cod (.tup xs) then some (!anyEq p xs) else none := by
  show (if cod p && cod (.tup xs) then some (anyEq p xs) else none).map (!·) = _
  split <;> rfl

@[simp] theorem ix_lst (xs : List PV) (i : Int) : ixF (.lst xs) (.int i) = getI xs i := id rfl
@[simp] theorem ix_tup (xs : List PV) (i : Int) : ixF (.tup xs) (.int i) = getI xs i := id rfl
@[simp] theorem ix_str (s : List Nat) (i : Int) : ixF (.str s) (.int i) = (getI s i).map fun c => .str [c] := id rfl
@[simp] theorem sl_lst (xs : List PV) (lo hi : Option Int) : slF (.lst xs) lo hi = some (.lst (cut xs lo hi), true) := id rfl
@[simp] theorem sl_tup (xs : List PV) (lo hi : Option Int) : slF (.tup xs) lo hi = some (.tup (cut xs lo hi), false) := id rfl
@[simp] theorem sl_str (xs : List Nat) (lo hi : Option Int) : slF (.str xs) lo hi = some (.str (cut xs lo hi), false) := id rfl
@[simp] theorem rev_lst (xs : List PV) : revF (.lst xs) = some (.lst xs.reverse, true) := id rfl
@[simp] theorem rev_tup (xs : List PV) : revF (.tup xs) = some (.tup xs.reverse, false) := id rfl
@[simp] theorem ty_non : tyOf .non = [] := id rfl
@[simp] theorem ty_bl (b : Bool) : tyOf (.bl b) = [.bool, .int] := id rfl
@[simp] theorem ty_int (b : Int) : tyOf (.int b) = [.int] := id rfl
@[simp] theorem ty_str (b : List Nat) : tyOf (.str b) = [.str] := id rfl
@[simp] theorem ty_lst (b : List PV) : tyOf (.lst b) = [.lst] := id rfl
@[simp] theorem ty_tup (b : List PV) : tyOf (.tup b) = [.tup] := id rfl
def anyTy (ts us : List Ty) : Bool := ts.any fun t => decide (t ∈ us)
theorem isiF_nod {p : PV} (h : nod p = true) (ts : List Ty) : isiF p ts = some (anyTy ts (tyOf p)) := by
  cases p <;> first | rfl | cases h
@[simp] theorem isi_non (ts : List Ty) : isiF .non ts = some (anyTy ts []) := id rfl
@[simp] theorem isi_bl (b : Bool) (ts : List Ty) : isiF (.bl b) ts = some (anyTy ts [.bool, .int]) := id rfl
@[simp] theorem isi_int (b : Int) (ts : List Ty) : isiF (.int b) ts = some (anyTy ts [.int]) := id rfl
@[simp] theorem isi_str (b : List Nat) (ts : List Ty) : isiF (.str b) ts = some (anyTy ts [.str]) := id rfl
@[simp] theorem isi_lst (b : List PV) (ts : List Ty) : isiF (.lst b) ts = some (anyTy ts [.lst]) := id rfl
@[simp] theorem isi_tup (b : List PV) (ts : List Ty) : isiF (.tup b) ts = some (anyTy ts [.tup]) := id rfl
@[simp] theorem isi_dk (b : List (Ky × PV)) (ts : List Ty) : isiF (.dk b) ts = some (anyTy ts [.dict]) := id rfl
@[simp] theorem anyTy_nil (us : List Ty) : anyTy [] us = false := id rfl
@[simp] theorem anyTy_cons (t : Ty) (ts us : List Ty) : anyTy (t :: ts) us = (decide (t ∈ us) || anyTy ts us) := id rfl

@[simp] theorem b_len_str (s : List Nat) : bF .len [.str s] = some (.int s.length, false) := id rfl
@[simp] theorem b_len_lst (s : List PV) : bF .len [.lst s] = some (.int s.length, false) := id rfl
@[simp] theorem b_len_tup (s : List PV) : bF .len [.tup s] = some (.int s.length, false) := id rfl
@[simp] theorem b_len_dk (s : List (Ky × PV)) : bF .len [.dk s] = some (.int s.length, false) := id rfl
@[simp] theorem b_abs (i : Int) : bF .abs [.int i] = some (.int (if i < 0 then -i else i), false) := id rfl
@[simp] theorem b_int (i : Int) : bF .int [.int i] = some (.int i, false) := id rfl
@[simp] theorem b_intB (i : Bool) : bF .int [.bl i] = some (.int (bi i), false) := id rfl
@[simp] theorem b_all (xs : List PV) : bF .all [.lst xs] = (blsOf xs).map fun bs => (.bl (bs.all id), false) := id rfl
@[simp] theorem b_any (xs : List PV) : bF .any [.lst xs] = (blsOf xs).map fun bs => (.bl (bs.any id), false) := id rfl
@[simp] theorem b_sum (xs : List PV) : bF .sum [.lst xs] = (intsOf xs).map fun ns => (.int ns.sum, false) := id rfl
@[simp] theorem b_max2 (i j : Int) : bF .max [.int i, .int j] = some (.int (if j > i then j else i), false) := id rfl
@[simp] theorem b_min2 (i j : Int) : bF .min [.int i, .int j] = some (.int (if j < i then j else i), false) := id rfl
@[simp] theorem b_maxL (xs : List PV) : bF .max [.lst xs] = maxL xs := id rfl
@[simp] theorem b_minL (xs : List PV) : bF .min [.lst xs] = minL xs := id rfl
@[simp] theorem b_lst_lst (xs : List PV) : bF .lst [.lst xs] = some (.lst xs, true) := id rfl
@[simp] theorem b_lst_tup (xs : List PV) : bF .lst [.tup xs] = some (.lst xs, true) := id rfl
@[simp] theorem b_tup_lst (xs : List PV) : bF .tup [.lst xs] = some (.tup xs, false) := id rfl
@[simp] theorem b_tup_tup (xs : List PV) : bF .tup [.tup xs] = some (.tup xs, false) := id rfl
@[simp] theorem blsOf_map {α : Type} (f : α → Bool) : ∀ xs : List α, blsOf (xs.map fun x => PV.bl (f x)) = some (xs.map f)
  | [] => rfl
  | x :: xs => by
    show (blsOf (xs.map fun x => PV.bl (f x))).map (f x :: ·) = _
    rw [blsOf_map f xs]
    rfl
@[simp] theorem blsOf_mapC {α : Type} (f : α → Bool) (xs : List α) : blsOf (xs.map (PV.bl ∘ f)) = some (xs.map f) := blsOf_map f xs
@[simp] theorem blsOf_bl (xs : List Bool) : blsOf (xs.map PV.bl) = some xs := by
  have := blsOf_map id xs
  rw [List.map_id] at this
  exact this
@[simp] theorem blsOf_nil : blsOf [] = some [] := id rfl
@[simp] theorem blsOf_cons (b : Bool) (r : List PV) : blsOf (.bl b :: r) = (blsOf r).map (b :: ·) := id rfl
@[simp] theorem intsOf_nil : intsOf [] = some [] := id rfl
@[simp] theorem intsOf_cons (b : Int) (r : List PV) : intsOf (.int b :: r) = (intsOf r).map (b :: ·) := id rfl
@[simp] theorem intsOf_map {α : Type} (f : α → Int) : ∀ xs : List α, intsOf (xs.map fun x => PV.int (f x)) = some (xs.map f)
  | [] => rfl
  | x :: xs => by
    show (intsOf (xs.map fun x => PV.int (f x))).map (f x :: ·) = _
    rw [intsOf_map f xs]
    rfl
@[simp] theorem intsOf_int (xs : List Int) : intsOf (xs.map PV.int) = some xs := by
  have := intsOf_map id xs
  rw [List.map_id] at this
  exact this

/-! ### arguments -/
def arrG (ags : List Ag) : List Sr → Option (List Ag)
  | [] => some []
  | .a j :: r => cons2 (ags[j]?) (arrG ags r)
  | .d p :: r => cons2 (some (.v p.pv)) (arrG ags r)
@[simp] theorem arrG_nil (ags : List Ag) : arrG ags [] = some [] := id rfl
@[simp] theorem arrG_a (ags : List Ag) (j : Nat) (r : List Sr) : arrG ags (.a j :: r) = cons2 (ags[j]?) (arrG ags r) := id rfl
@[simp] theorem arrG_d (ags : List Ag) (p : Lt) (r : List Sr) : arrG ags (.d p :: r) = cons2 (some (.v p.pv)) (arrG ags r) := id rfl
@[simp] theorem arrange_nil (ags : List Ag) : arrange [] ags = some ags := id rfl
theorem arr_mapM (ags : List Ag) : ∀ sg : List Sr, sg.mapM (fun | .a j => ags[j]? | .d p => some (.v p.pv)) = arrG ags sg
  | [] => rfl
  | .a j :: r => by
    rw [List.mapM_cons, arr_mapM ags r, arrG_a]
    show (ags[j]? >>= fun x => arrG ags r >>= fun y => pure (x :: y)) = _
    generalize ags[j]? = z
    cases z <;> cases arrG ags r <;> rfl
  | .d p :: r => by
    rw [List.mapM_cons, arr_mapM ags r, arrG_d]
    cases arrG ags r <;> rfl
def isTag : Ag → Bool
  | .t _ => true
  | _ => false
@[simp] theorem isTag_v (p : PV) : isTag (.v p) = false := id rfl
@[simp] theorem isTag_s (i : Nat) : isTag (.s i) = false := id rfl
@[simp] theorem isTag_t (p : PV) : isTag (.t p) = true := id rfl
@[simp] theorem arrange_cons (s : Sr) (sg : List Sr) (ags : List Ag) : arrange (s :: sg) ags = if ags.any isTag then none else arrG ags (s :: sg) := by
  rw [← arr_mapM]
  show (if ags.all (fun | .t _ => false | _ => true) then _ else none) = _
  have e : ags.all (fun | .t _ => false | _ => true) = !ags.any isTag := by
    induction ags with
    | nil => rfl
    | cons a r h =>
      rw [List.all_cons, h, List.any_cons, Bool.not_or]
      cases a <;> rfl
  rw [e]
  cases ags.any isTag <;> rfl
@[simp] theorem putIo_nil (env : En) : putIo [] [] [] env = some env := id rfl
@[simp] theorem putIo_s (f : List Bool) (i : Nat) (r : List Ag) (p : PV) (ios : List PV) (env : En) : putIo (true :: f) (.s i :: r) (p :: ios) env = match env[i]? with
    | some (some (_, .own)) => putIo f r ios (env.set i (some (p, .own)))
    | some (some (_, .io)) => putIo f r ios (env.set i (some (p, .io)))
    | _ => none := rfl
@[simp] theorem putIo_t (f : List Bool) (q : PV) (r : List Ag) (p : PV) (ios : List PV) (env : En) : putIo (true :: f) (.t q :: r) (p :: ios) env = putIo f r ios env := id rfl
@[simp] theorem putIo_fv (f : List Bool) (q : PV) (r : List Ag) (ios : List PV) (env : En) : putIo (false :: f) (.v q :: r) ios env = putIo f r ios env := id rfl
@[simp] theorem putIo_fs (f : List Bool) (i : Nat) (r : List Ag) (ios : List PV) (env : En) : putIo (false :: f) (.s i :: r) ios env = putIo f r ios env := id rfl
def isFz (env : En) (i : Nat) : Bool := match env[i]? with | some (some (_, .fz)) => true | _ => false
@[simp] theorem isFz_eq (env : En) (i : Nat) : isFz env i = match env[i]? with | some (some (_, .fz)) => true | _ => false := id rfl
@[simp] theorem lent_nil (env : En) (k : Bool) : lent env k [] [] = true := id rfl
@[simp] theorem lent_s (env : En) (k : Bool) (f : List Bool) (i : Nat) (r : List Ag) : lent env k (false :: f) (.s i :: r) = ((k || isFz env i) && lent env k f r) := id rfl
@[simp] theorem lent_ts (env : En) (k : Bool) (f : List Bool) (i : Nat) (r : List Ag) : lent env k (true :: f) (.s i :: r) = lent env k f r := id rfl
@[simp] theorem lent_v (env : En) (k : Bool) (b : Bool) (f : List Bool) (p : PV) (r : List Ag) : lent env k (b :: f) (.v p :: r) = lent env k f r := by cases b <;> rfl
@[simp] theorem lent_t (env : En) (k : Bool) (b : Bool) (f : List Bool) (p : PV) (r : List Ag) : lent env k (b :: f) (.t p :: r) = lent env k f r := by cases b <;> rfl
@[simp] theorem slots_nil : slots [] = [] := id rfl
@[simp] theorem slots_s (i : Nat) (r : List Ag) : slots (.s i :: r) = i :: slots r := id rfl
@[simp] theorem slots_v (p : PV) (r : List Ag) : slots (.v p :: r) = slots r := id rfl
@[simp] theorem slots_t (p : PV) (r : List Ag) : slots (.t p :: r) = slots r := id rfl
@[simp] theorem apart_eq (f : List Bool) (ags : List Ag) : apart f ags = (f.all (!·) || decide (slots ags).Nodup) := id rfl
@[simp] theorem nol_non : nol .non = true := id rfl
@[simp] theorem nol_bl (b : Bool) : nol (.bl b) = true := id rfl
@[simp] theorem nol_int (b : Int) : nol (.int b) = true := id rfl
@[simp] theorem nol_str (b : List Nat) : nol (.str b) = true := id rfl
@[simp] theorem nol_lst (b : List PV) : nol (.lst b) = false := id rfl
@[simp] theorem nol_tup (b : List PV) : nol (.tup b) = nolL b := id rfl
@[simp] theorem nolL_nil : nolL [] = true := id rfl
@[simp] theorem nolL_cons (x : PV) (b : List PV) : nolL (x :: b) = (nol x && nolL b) := id rfl
@[simp] theorem flatP_lst (b : List PV) : flatP (.lst b) = nolL b := id rfl
/-- what a call yields -/
def got (C : Cn) (f : Nat) (as : List Ag) (env : En) : FRes → Res PB
  | .bad => .bad
  | .ok r fr ios => bfi (lent env (nol r && ios.all flatP) (C.io f) as) ((opt (putIo (C.io f) as ios env) env).bind fun env' _ => .ok (r, fr) env') .bad
@[simp] theorem got_ok (C : Cn) (f : Nat) (as : List Ag) (env : En) (r : PV) (fr : Bool) (ios : List PV) : got C f as env (.ok r fr ios) = bfi (lent env (nol r && ios.all flatP) (C.io f) as) ((opt (putIo (C.io f) as ios env) env).bind fun env' _ => .ok (r, fr) env') .bad := id rfl
@[simp] theorem callD_eq (C : Cn) (f : Nat) (sg : List Sr) (ags : List Ag) (env : En) : callD C f sg ags env = oneA (arrange sg ags) fun as => many (rdAll env as) fun ps => bfi (apart (C.io f) as) (got C f as env (C.call f ps)) .bad := by
  unfold callD oneA many bfi got
  cases arrange sg ags with
  | none => rfl
  | some as =>
    dsimp only
    cases rdAll env as with
    | none => rfl
    | some ps =>
      dsimp only
      split
      · cases C.call f ps with
        | bad => rfl
        | ok r fr ios => rfl
      · rfl

/-! ### expressions -/
section
variable (C : Cn) (env : En)
@[simp] theorem dE_lit (p : Lt) : dE C (.lit p) env = .ok (p.pv, false) env := by rw [dE]
@[simp] theorem dE_var (i : Nat) : dE C (.var i) env = rdVar i env := by rw [dE]
@[simp] theorem dE_mv (i : Nat) : dE C (.mv i) env = mvVar i env := by rw [dE]
@[simp] theorem dE_con (k : Nat) : dE C (.con k) env = optE ((C.con k).map Lt.pv) env := by rw [dE]
@[simp] theorem dE_bin (op : Operator) (a b : O) : dE C (.bin op a b) env = (dO C a env).bind fun x e1 => (dO C b e1).bind fun y e2 => both (x.rd e2) (y.rd e2) fun p q => opt (binF op p q) e2 := by rw [dE]; rfl
def negR (env : En) : Option PV → Res PB
  | some (.int i) => .ok (.int (-i), false) env
  | _ => .bad
@[simp] theorem negR_int (i : Int) : negR env (some (.int i)) = .ok (.int (-i), false) env := id rfl
@[simp] theorem dE_neg (a : O) : dE C (.neg a) env = (dO C a env).bind fun x e1 => negR e1 (x.rd e1) := by rw [dE]; rfl
@[simp] theorem dE_cmp (op : CmpOp) (a b : O) : dE C (.cmp op a b) env = (dO C a env).bind fun x e1 => (dO C b e1).bind fun y e2 => both (x.rd e2) (y.rd e2) fun p q => optE ((cmpF op p q).map .bl) e2 := by rw [dE]; rfl
@[simp] theorem dE_chn (op op' : CmpOp) (a b c : O) : dE C (.chn op op' a b c) env = (dO C a env).bind fun x e1 => (dO C b e1).bind fun y e2 => both (x.rd e2) (y.rd e2) fun p q => (opt (cmpF op p q) e2).bind fun k e3 => bfi k ((dO C c e3).bind fun z e4 => both (y.rd e4) (z.rd e4) fun q' r => optE ((cmpF op' q' r).map .bl) e4) (.ok (.bl false, false) e3) := by rw [dE]; rfl
@[simp] theorem dE_not (a : O) : dE C (.notE a) env = (dO C a env).bind fun x e1 => one (x.rd e1) fun p => optE ((tru p).map fun b => .bl !b) e1 := by rw [dE]; rfl
@[simp] theorem dE_and (a b : E) : dE C (.andE a b) env = (dE C a env).bind fun x e1 => (opt (tru x.1) e1).bind fun k e2 => bfi k (dE C b e2) (.ok x e2) := by rw [dE]; rfl
@[simp] theorem dE_or (a b : E) : dE C (.orE a b) env = (dE C a env).bind fun x e1 => (opt (tru x.1) e1).bind fun k e2 => bfi k (.ok x e2) (dE C b e2) := by rw [dE]; rfl
@[simp] theorem dE_ite (t : T) (a b : E) : dE C (.ite t a b) env = (dT C t env).bind fun k e1 => bfi k (dE C a e1) (dE C b e1) := by rw [dE]; rfl
@[simp] theorem dE_lst (xs : DL) : dE C (.lstD xs) env = (dD C xs env).bind fun ps e1 => bfi (szl ps.length) (.ok (.lst ps, true) e1) .bad := by rw [dE]; rfl
@[simp] theorem dE_tup (xs : DL) : dE C (.tupD xs) env = (dD C xs env).bind fun ps e1 => bfi (szl ps.length) (.ok (.tup ps, false) e1) .bad := by rw [dE]; rfl
@[simp] theorem dE_ix (a i : O) : dE C (.ix a i) env = (dO C a env).bind fun x e1 => (dO C i e1).bind fun y e2 => both (x.rd e2) (y.rd e2) fun p q => optE (ixF p q) e2 := by rw [dE]; rfl
@[simp] theorem dE_sl (a : O) (lo hi : PO) : dE C (.sl a lo hi) env = (dO C a env).bind fun x e1 => (dP C lo e1).bind fun l e2 => (dP C hi e2).bind fun h e3 => one (x.rd e3) fun p => opt (slF p l h) e3 := by rw [dE]; rfl
@[simp] theorem dE_rev (a : O) : dE C (.rev a) env = (dO C a env).bind fun x e1 => one (x.rd e1) fun p => opt (revF p) e1 := by rw [dE]; rfl
@[simp] theorem dE_isi (a : O) (ts : List Ty) : dE C (.isi a ts) env = (dO C a env).bind fun x e1 => one (x.rd e1) fun p => optE ((isiF p ts).map .bl) e1 := by rw [dE]; rfl
@[simp] theorem dE_cb (f : Bf) (xs : OL) : dE C (.cb f xs) env = (dL C xs env).bind fun as e1 => many (rdAll e1 as) fun ps => opt (bF f ps) e1 := by rw [dE]; rfl
@[simp] theorem dE_rg (tup : Bool) (a : O) : dE C (.rg tup a) env = (dO C a env).bind fun x e1 => one (x.rd e1) fun p => (opt (wkRg1 [p]) e1).bind fun ys e2 => bfi tup (.ok (.tup ys, false) e2) (.ok (.lst ys, true) e2) := by rw [dE]; rfl
@[simp] theorem wkRg1_eq (j : Int) : wkRg1 [.int j] = if rgOk j && szl j.toNat then some (rangeV 0 j.toNat) else none := id rfl
@[simp] theorem dE_call (f : Nat) (xs kx : OL) (sg : List Sr) : dE C (.call f xs kx sg) env = ((dL C xs env).bind fun as e1 => (dL C kx e1).bind fun bs e2 => .ok (as ++ bs) e2).bind fun as e1 => callD C f sg as e1 := by rw [dE]
@[simp] theorem dE_mt (m : Mf) (o : O) (xs : OL) : dE C (.mt m o xs) env = (dO C o env).bind fun x e1 => (dL C xs e1).bind fun as e2 => one (x.rd e2) fun p => many (rdAll e2 as) fun ps => opt (mF m p ps) e2 := by
  rw [dE]
  congr 1
  funext x e1
  congr 1
  funext as e2
  cases x.rd e2 <;> cases rdAll e2 as <;> rfl
@[simp] theorem mF_joinL (s : List Nat) (xs : List PV) : mF .join (.str s) [.lst xs] = joinF s xs := id rfl
@[simp] theorem mF_joinT (s : List Nat) (xs : List PV) : mF .join (.str s) [.tup xs] = joinF s xs := id rfl
@[simp] theorem mF_split (s b : List Nat) : mF .split (.str s) [.str b] = splitF s b := id rfl
def popR (i : Nat) (env : En) (ps : List PV) : Res PB := (opt (chgR i env fun p => match p with
        | .lst l => (popF l ps).map fun r => (r.1, .lst r.2)
        | _ => none) env).bind fun r _ => .ok (r.1, false) r.2
@[simp] theorem dE_pop (i : Nat) (xs : OL) : dE C (.pop i xs) env = bfi (isLst (rdSl i env)) ((dL C xs env).bind fun as e1 => many (rdAll e1 as) fun ps => popR i e1 ps) .bad := by
  rw [dE]
  unfold isLst bfi
  split
  · rw [if_pos rfl]
    rfl
  · rfl
/-- a comprehension behind what it walks -/
def lcR (C : Cn) (elt : E) (tg : Tg) (ifs : TO) (own : List Nat) (ys : List PV) (env : En) : Res PB :=
  (lcLoop false (fun e => (dE C elt e).bind fun x e' => .ok x.1 e') (asgTg tg) (dTO C ifs) own ys [] (wipeE env own)).bind fun acc e2 => .ok (.lst acc, true) (unwipe env e2 own)
@[simp] theorem dE_lc (elt : E) (tg : Tg) (w : Wk) (xs : OL) (ifs : TO) (own : List Nat) : dE C (.lc elt tg w xs ifs own) env = ((dL C xs env).bind fun as e1 => wkX w as e1).bind fun ys e1 => bfi (wipeOk e1 own) (lcR C elt tg ifs own ys e1) .bad := by rw [dE]; rfl
def lc2R (C : Cn) (elt : E) (tg : Tg) (ifs : TO) (tg1 : Tg) (w1 : Wk) (xs1 : OL) (ifs1 : TO) (own own1 : List Nat) (ys : List PV) (env : En) : Res PB :=
  (lc2Loop (fun acc e => ((dL C xs1 e).bind fun as e1' => wkX w1 as e1').bind fun ys' e1' =>
          if wipeOk e1' own1 then lcLoop true (fun e => (dE C elt e).bind fun x e' => .ok x.1 e') (asgTg tg1) (dTO C ifs1) own1 ys' acc (wipeE e1' own1) else .bad) (asgTg tg) (dTO C ifs) own ys [] (wipeE env own)).bind fun acc e2 => .ok (.lst acc, true) (unwipe env e2 own)
@[simp] theorem dE_lc2 (elt : E) (tg : Tg) (w : Wk) (xs : OL) (ifs : TO) (tg1 : Tg) (w1 : Wk) (xs1 : OL) (ifs1 : TO) (own own1 : List Nat) : dE C (.lc2 elt tg w xs ifs tg1 w1 xs1 ifs1 own own1) env = ((dL C xs env).bind fun as e1 => wkX w as e1).bind fun ys e1 => bfi (wipeOk e1 own) (lc2R C elt tg ifs tg1 w1 xs1 ifs1 own own1 ys e1) .bad := by rw [dE]; rfl
@[simp] theorem dO_v (e : E) : dO C (.v e) env = (dE C e env).bind fun x e1 => .ok (.v x.1) e1 := by rw [dO]
def slR (i : Nat) (env : En) : Option PV → Res Ag
  | some _ => .ok (.s i) env
  | none => .bad
@[simp] theorem slR_some (i : Nat) (p : PV) : slR i env (some p) = .ok (.s i) env := id rfl
@[simp] theorem dO_b (i : Nat) : dO C (.b i) env = slR i env (rdSl i env) := by
  rw [dO]
  unfold slR
  cases rdSl i env <;> rfl
@[simp] theorem dO_t (e : E) : dO C (.t e) env = (dE C e env).bind fun x e1 => bfi x.2 (.ok (.t x.1) e1) .bad := by rw [dO]; rfl
@[simp] theorem dL_nil : dL C .nil env = .ok [] env := by rw [dL]
@[simp] theorem dL_cons (o : O) (r : OL) : dL C (.cons o r) env = (dO C o env).bind fun x e1 => (dL C r e1).bind fun xs e2 => .ok (x :: xs) e2 := by rw [dL]
@[simp] theorem dP_none : dP C .none env = .ok none env := by rw [dP]
def intR (env : En) : PV → Res (Option Int)
  | .int i => .ok (some i) env
  | _ => .bad
@[simp] theorem intR_int (i : Int) : intR env (.int i) = .ok (some i) env := id rfl
@[simp] theorem dP_some (e : E) : dP C (.some e) env = (dE C e env).bind fun x e1 => intR e1 x.1 := by
  rw [dP]
  rfl
@[simp] theorem dD_nil : dD C .nil env = .ok [] env := by rw [dD]
@[simp] theorem dD_one (e : E) (r : DL) : dD C (.one e r) env = (dE C e env).bind fun x e1 => (dD C r e1).bind fun xs e2 => .ok (x.1 :: xs) e2 := by rw [dD]
@[simp] theorem dD_star (e : O) (r : DL) : dD C (.star e r) env = (dO C e env).bind fun x e1 => one (x.rd e1) fun p => many (itemsOf p) fun ys => (dD C r e1).bind fun xs e2 => .ok (ys ++ xs) e2 := by rw [dD]; rfl
@[simp] theorem itemsOf_lst (xs : List PV) : itemsOf (.lst xs) = some xs := id rfl
@[simp] theorem itemsOf_tup (xs : List PV) : itemsOf (.tup xs) = some xs := id rfl
@[simp] theorem dT_cmp (op : CmpOp) (a b : O) : dT C (.cmp op a b) env = (dO C a env).bind fun x e1 => (dO C b e1).bind fun y e2 => both (x.rd e2) (y.rd e2) fun p q => opt (cmpF op p q) e2 := by rw [dT]; rfl
@[simp] theorem dT_chn (op op' : CmpOp) (a b c : O) : dT C (.chn op op' a b c) env = (dO C a env).bind fun x e1 => (dO C b e1).bind fun y e2 => both (x.rd e2) (y.rd e2) fun p q => (opt (cmpF op p q) e2).bind fun k e3 => bfi k ((dO C c e3).bind fun z e4 => both (y.rd e4) (z.rd e4) fun q' r => opt (cmpF op' q' r) e4) (.ok false e3) := by rw [dT]; rfl
@[simp] theorem dT_and (a b : T) : dT C (.and a b) env = (dT C a env).bind fun k e1 => bfi k (dT C b e1) (.ok false e1) := by rw [dT]; rfl
@[simp] theorem dT_or (a b : T) : dT C (.or a b) env = (dT C a env).bind fun k e1 => bfi k (.ok true e1) (dT C b e1) := by rw [dT]; rfl
@[simp] theorem dT_not (t : T) : dT C (.not t) env = (dT C t env).bind fun b e1 => .ok (!b) e1 := by rw [dT]
@[simp] theorem dT_pl (e : O) : dT C (.pl e) env = (dO C e env).bind fun x e1 => one (x.rd e1) fun p => opt (tru p) e1 := by rw [dT]; rfl
@[simp] theorem dTO_none : dTO C .none env = .ok true env := by rw [dTO]
@[simp] theorem dTO_some (t : T) : dTO C (.some t) env = dT C t env := by rw [dTO]
end
end Dk

set_option Elab.async false
set_option linter.all false
set_option autoImplicit false
set_option maxRecDepth 100000
set_option maxHeartbeats 4000000
/-! Dk27: statements, loops, defs. -/
namespace Dk
open PySem PySem.Spec PyProof.Rows L2
section
variable (C : Cn) (env : En)
/-- what follows a statement -/
def nxt (C : Cn) (r : SL) (env : En) : Fw → Res Fw
  | .nx => dSL C r env
  | .ct => .ok .ct env
  | .bk => .ok .bk env
  | .rt p fr => .ok (.rt p fr) env
@[simp] theorem nxt_nx (r : SL) : nxt C r env .nx = dSL C r env := id rfl
@[simp] theorem nxt_ct (r : SL) : nxt C r env .ct = .ok .ct env := id rfl
@[simp] theorem nxt_bk (r : SL) : nxt C r env .bk = .ok .bk env := id rfl
@[simp] theorem nxt_rt (r : SL) (p : PV) (fr : Bool) : nxt C r env (.rt p fr) = .ok (.rt p fr) env := id rfl
@[simp] theorem dSL_nil : dSL C .nil env = .ok .nx env := by rw [dSL]
@[simp] theorem dSL_cons (s : S) (r : SL) : dSL C (.cons s r) env = (dS C s env).bind fun w e1 => nxt C r e1 w := by
  rw [dSL]
  congr 1
  funext w e1
  cases w <;> rfl
@[simp] theorem dS_pass : dS C .pass env = .ok .nx env := by rw [dS]
@[simp] theorem dS_ret (e : E) : dS C (.ret e) env = (dE C e env).bind fun x e1 => .ok (.rt x.1 x.2) e1 := by rw [dS]
@[simp] theorem dS_retN : dS C .retN env = .ok (.rt .non false) env := by rw [dS]
@[simp] theorem dS_never : dS C .never env = .bad := by rw [dS]
@[simp] theorem dS_cont : dS C .cont env = .ok .ct env := by rw [dS]
@[simp] theorem dS_brk : dS C .brk env = .ok .bk env := by rw [dS]
@[simp] theorem dS_asg (i : Nat) (e : E) : dS C (.asg i e) env = (dE C e env).bind fun x e1 => (opt (asgSl i x.1 x.2 e1) e1).bind fun e2 _ => .ok .nx e2 := by rw [dS]
@[simp] theorem dS_par (is : List Nat) (xs : OL) : dS C (.par is xs) env = (dL C xs env).bind fun ps e1 => (opt (asgPar is ps e1) e1).bind fun e2 _ => .ok .nx e2 := by rw [dS]
@[simp] theorem dS_tpa (is : List Nat) (e : O) : dS C (.tpa is e) env = (dO C e env).bind fun x e1 => one (x.rdW e1) fun p => (opt ((itemsOf p).bind fun ps => asgAll is ps e1) e1).bind fun e2 _ => .ok .nx e2 := by rw [dS]; rfl
@[simp] theorem dS_put (i : Nat) (k : O) (e : E) : dS C (.put i k e) env = (dE C e env).bind fun x e1 => one (rdSl i e1) fun _ => (dO C k e1).bind fun y e2 => one (y.rd e2) fun q => (opt (chg i e2 fun p => setF p q x.1) e2).bind fun e3 _ => .ok .nx e3 := by rw [dS]; rfl
def augI (f : Int → Res Fw) : Option PV → Res Fw
  | some (.int a) => f a
  | _ => .bad
def augT (f : Int → Res Fw) (u : Tag f) (x : Option PV) : Res Fw := augI f x
@[simp ↓] theorem aug_T (f : Int → Res Fw) (x : Option PV) : augI f x = augT f (tag f) x := id rfl
@[simp] theorem augI_int (f : Int → Res Fw) (u : Tag f) (a : Int) : augT f u (some (.int a)) = f a := id rfl
@[simp] theorem dS_aug (op : Operator) (i : Nat) (e : O) : dS C (.aug op i e) env = augI (fun a => (dO C e env).bind fun y e1 => augI (fun b => (opt (augF op a b) e1).bind fun z e2 => (opt (asgSl i (.int z) false e2) e2).bind fun e3 _ => .ok .nx e3) (y.rd e1)) (rdSl i env) := by rw [dS]; rfl
@[simp] theorem dS_app (i : Nat) (e : E) : dS C (.app i e) env = bfi (isLst (rdSl i env)) ((dE C e env).bind fun x e1 => (opt (chg i e1 fun p => appF p x.1) e1).bind fun e2 _ => .ok .nx e2) .bad := by rw [dS]; rfl
@[simp] theorem dS_ext (i : Nat) (e : O) : dS C (.ext i e) env = bfi (isLst (rdSl i env)) ((dO C e env).bind fun y e1 => one (y.rd e1) fun x => (opt (chg i e1 fun p => extF p x) e1).bind fun e2 _ => .ok .nx e2) .bad := by rw [dS]; rfl
@[simp] theorem dS_ex (e : E) : dS C (.ex e) env = (dE C e env).bind fun _ e1 => .ok .nx e1 := by rw [dS]
@[simp] theorem dS_iff (t : T) (a b : SL) : dS C (.iff t a b) env = (dT C t env).bind fun k e1 => bfi k (dSL C a e1) (dSL C b e1) := by rw [dS]; rfl
@[simp] theorem dS_for (tg : Tg) (w : Wk) (xs : OL) (body : SL) : dS C (.for tg w xs body) env = ((dL C xs env).bind fun as e1 => wkX w as e1).bind fun ys e1 => forLoop (asgTg tg) (dSL C body) ys e1 := by rw [dS]
@[simp] theorem dS_whl (t : T) (body : SL) : dS C (.whl t body) env = whlLoop (dT C t) (dSL C body) wFuel env := by rw [dS]
@[simp] theorem isLst_lst (xs : List PV) : isLst (some (.lst xs)) = true := id rfl
@[simp] theorem chg_eq (i : Nat) (f : PV → Option PV) : chg i env f = match env[i]? with
  | some (some (p, .own)) => (f p).map fun q => env.set i (some (q, .own))
  | some (some (p, .io)) => (f p).map fun q => env.set i (some (q, .io))
  | _ => none := rfl
@[simp] theorem chgR_eq (i : Nat) (f : PV → Option (PV × PV)) : chgR i env f = match env[i]? with
  | some (some (p, .own)) => (f p).map fun q => (q.1, env.set i (some (q.2, .own)))
  | some (some (p, .io)) => (f p).map fun q => (q.1, env.set i (some (q.2, .io)))
  | _ => none := rfl
@[simp] theorem asgPar_nil : asgPar [] [] env = some env := id rfl
@[simp] theorem asgPar_v (i : Nat) (is : List Nat) (p : PV) (ps : List Ag) : asgPar (i :: is) (.v p :: ps) env = (asgSl i p false env).bind fun env' => asgPar is ps env' := id rfl
@[simp] theorem asgPar_t (i : Nat) (is : List Nat) (p : PV) (ps : List Ag) : asgPar (i :: is) (.t p :: ps) env = (asgSl i p true env).bind fun env' => asgPar is ps env' := id rfl
@[simp] theorem set_lst (xs : List PV) (i : Int) (x : PV) : setF (.lst xs) (.int i) x = (L2.ixN xs.length i).map fun j => .lst (xs.set j x) := id rfl
@[simp] theorem app_lst (xs : List PV) (x : PV) : appF (.lst xs) x = if decide (xs.length < sizeLine) then some (.lst (xs ++ [x])) else none := id rfl
@[simp] theorem ext_lst (xs ys : List PV) : extF (.lst xs) (.lst ys) = if szl (xs.length + ys.length) then some (.lst (xs ++ ys)) else none := id rfl
@[simp] theorem aug_add (a b : Int) : augF .Add a b = some (a + b) := id rfl
@[simp] theorem aug_sub (a b : Int) : augF .Sub a b = some (a - b) := id rfl

/-! ### a def's run -/
def finW (ios : List Bool) (env : En) (r : PV) (fr : Bool) : FRes :=
  match exitIo ios env with
  | some qs => .ok r fr qs
  | none => .bad
def fin (ios : List Bool) : Res Fw → FRes
  | .ok .nx e => finW ios e .non false
  | .ok (.rt p fr) e => finW ios e p fr
  | _ => .bad
@[simp] theorem fin_nx (ios : List Bool) : fin ios (.ok .nx env) = finW ios env .non false := id rfl
@[simp] theorem fin_rt (ios : List Bool) (p : PV) (fr : Bool) : fin ios (.ok (.rt p fr) env) = finW ios env p fr := id rfl
@[simp] theorem fin_ite (ios : List Bool) {c : Prop} [Decidable c] (x y : Res Fw) : fin ios (if c then x else y) = if c then fin ios x else fin ios y := by split <;> rfl
@[simp] theorem exitIo_nil : exitIo [] env = some [] := by cases env <;> rfl
@[simp] theorem exitIo_t (f : List Bool) (p : PV) (e : En) : exitIo (true :: f) (some (p, .io) :: e) = (exitIo f e).map (p :: ·) := id rfl
@[simp] theorem exitIo_f (f : List Bool) (s : Sl) (e : En) : exitIo (false :: f) (s :: e) = exitIo f e := id rfl
@[simp] theorem finW_eq (ios : List Bool) (r : PV) (fr : Bool) : finW ios env r fr = match exitIo ios env with
  | some qs => .ok r fr qs
  | none => .bad := rfl
def startE (ios : List Bool) (n : Nat) (ps : List PV) : Option En := (entry ios ps).map fun e0 => e0 ++ List.replicate (n - e0.length) none
theorem run_eq (f : Fn) (ps : List PV) {e : En} (h : startE f.ios f.n ps = some e) : runFn C f ps = fin f.ios (dSL C f.body e) := by
  unfold startE at h
  obtain ⟨e0, h1, h2⟩ := Option.map_eq_some_iff.mp h
  unfold runFn
  rw [h1]
  dsimp only
  rw [h2]
  cases dSL C f.body e with
  | bad => rfl
  | ok w e' => cases w with
    | nx =>
      show _ = finW f.ios e' .non false
      unfold finW
      first
        | rfl
        | (dsimp only; done)
        | (dsimp only; generalize exitIo f.ios e' = z; cases z <;> rfl)
    | rt p fr =>
      show _ = finW f.ios e' p fr
      unfold finW
      first
        | rfl
        | (dsimp only; done)
        | (dsimp only; generalize exitIo f.ios e' = z; cases z <;> rfl)
    | ct => rfl
    | bk => rfl
end
/-- a program's meaning -/
def Pg.cn (P : Pg) (t : Nat) : Cn := ⟨P.io, P.call t, P.con⟩
theorem cnOf_eq (ds : List Df) (cs : List (Str × Lt)) (t : Nat) : cnOf ds cs t = (pgOf ds cs).cn t := rfl
@[simp] theorem cn_call (P : Pg) (t : Nat) : (P.cn t).call = P.call t := id rfl
@[simp] theorem cn_io (P : Pg) (t : Nat) : (P.cn t).io = P.io := id rfl
@[simp] theorem cn_con (P : Pg) (t : Nat) : (P.cn t).con = P.con := id rfl
theorem call_eq {P : Pg} {t f : Nat} {ps : List PV} {d : Fn} (h : P.fn f = some d) {e : En} (he : startE d.ios d.n ps = some e) : P.call (t + 1) f ps = fin d.ios (dSL (P.cn t) d.body e) := by
  rw [← run_eq _ _ _ he]
  show (match P.fn f with | some g => runFn ⟨P.io, P.call t, P.con⟩ g ps | none => .bad) = _
  rw [h]
  rfl
theorem io_eq {P : Pg} {f : Nat} {d : Fn} (h : P.fn f = some d) : P.io f = d.ios := by
  unfold Pg.io
  rw [h]

/-! ### comprehensions -/
section
variable {elt : En → Res PV} {asg : PV → En → Option En} {tst : En → Res Bool} {own : List Nat} {env : En}
/-- one turn -/
def lcStep (elt : En → Res PV) (asg : PV → En → Option En) (tst : En → Res Bool) (own : List Nat) (p : PV) (env : En) : Res (Option PV) :=
  (opt (asg p env) env).bind fun env1 _ => (tst env1).bind fun b env2 => bfi b ((elt env2).bind fun x env3 => .ok (some x) (wipeE env3 own)) (.ok none (wipeE env2 own))
theorem lc_cons (p : PV) (ps acc : List PV) (env : En) : lcLoop false elt asg tst own (p :: ps) acc env = (lcStep elt asg tst own p env).bind fun o e => lcLoop false elt asg tst own ps (acc ++ o.toList) e := by
  show ((opt (asg p env) env).bind fun env1 _ => (tst env1).bind fun b env2 =>
    if b then (elt env2).bind fun x env3 => if !false || szl (acc.length + 1) then lcLoop false elt asg tst own ps (acc ++ [x]) (wipeE env3 own) else .bad
    else lcLoop false elt asg tst own ps acc (wipeE env2 own)) = _
  unfold lcStep
  cases asg p env with
  | none => rfl
  | some e1 =>
    simp only [opt_some, Res.bind_ok]
    cases tst e1 with
    | bad => rfl
    | ok b e2 =>
      simp only [Res.bind_ok]
      cases b with
      | false => simp
      | true =>
        simp only [bfi_true]
        cases elt e2 with
        | bad => rfl
        | ok x e3 => simp
/-- .. in a second clause -/
theorem lc_consT (p : PV) (ps acc : List PV) (env : En) (h : acc.length < sizeLine) : lcLoop true elt asg tst own (p :: ps) acc env = (lcStep elt asg tst own p env).bind fun o e => lcLoop true elt asg tst own ps (acc ++ o.toList) e := by
  have hz : szl (acc.length + 1) = true := by
    unfold szl
    rw [decide_eq_true_eq]
    exact h
  show ((opt (asg p env) env).bind fun env1 _ => (tst env1).bind fun b env2 =>
    if b then (elt env2).bind fun x env3 => if !true || szl (acc.length + 1) then lcLoop true elt asg tst own ps (acc ++ [x]) (wipeE env3 own) else .bad
    else lcLoop true elt asg tst own ps acc (wipeE env2 own)) = _
  unfold lcStep
  rw [hz]
  cases asg p env with
  | none => rfl
  | some e1 =>
    simp only [opt_some, Res.bind_ok]
    cases tst e1 with
    | bad => rfl
    | ok b e2 =>
      simp only [Res.bind_ok]
      cases b with
      | false => simp
      | true =>
        simp only [bfi_true]
        cases elt e2 with
        | bad => rfl
        | ok x e3 => simp
/-- turns that change nothing else -/
theorem lc_pure {α : Type} (enc : α → PV) (g : α → Option PV) : ∀ (xs : List α) (acc : List PV), (∀ a ∈ xs, lcStep elt asg tst own (enc a) env = .ok (g a) env) → lcLoop false elt asg tst own (xs.map enc) acc env = .ok (acc ++ xs.filterMap g) env
  | [], acc, _ => by simp [lcLoop]
  | x :: xs, acc, h => by
    rw [List.map_cons, lc_cons, h x List.mem_cons_self, Res.bind_ok, lc_pure enc g xs _ fun a m => h a (List.mem_cons_of_mem _ m), List.filterMap_cons]
    cases g x <;> simp
theorem lc_pureT {α : Type} (enc : α → PV) (g : α → Option PV) : ∀ (xs : List α) (acc : List PV), acc.length + xs.length ≤ sizeLine → (∀ a ∈ xs, lcStep elt asg tst own (enc a) env = .ok (g a) env) → lcLoop true elt asg tst own (xs.map enc) acc env = .ok (acc ++ xs.filterMap g) env
  | [], acc, _, _ => by simp [lcLoop]
  | x :: xs, acc, hz, h => by
    have hl : (x :: xs).length = xs.length + 1 := rfl
    rw [hl] at hz
    rw [List.map_cons, lc_consT _ _ _ _ (by omega), h x List.mem_cons_self, Res.bind_ok, lc_pureT enc g xs _ (by
      rw [List.length_append]
      have : (g x).toList.length ≤ 1 := by cases g x <;> simp
      omega) fun a m => h a (List.mem_cons_of_mem _ m), List.filterMap_cons]
    cases g x <;> simp
theorem lc_map {α : Type} (enc : α → PV) (g : α → PV) (xs : List α) (acc : List PV) (h : ∀ a ∈ xs, lcStep elt asg tst own (enc a) env = .ok (some (g a)) env) : lcLoop false elt asg tst own (xs.map enc) acc env = .ok (acc ++ xs.map g) env := by
  rw [lc_pure enc (fun a => some (g a)) xs acc h]
  congr 2
  induction xs with
  | nil => rfl
  | cons x xs k => rw [List.filterMap_cons, k fun a m => h a (List.mem_cons_of_mem _ m)]; rfl
theorem lc_filter {α : Type} (enc : α → PV) (g : α → PV) (c : α → Bool) (xs : List α) (acc : List PV) (h : ∀ a ∈ xs, lcStep elt asg tst own (enc a) env = .ok (if c a then some (g a) else none) env) : lcLoop false elt asg tst own (xs.map enc) acc env = .ok (acc ++ (xs.filter c).map g) env := by
  rw [lc_pure enc (fun a => if c a then some (g a) else none) xs acc h]
  congr 2
  clear h
  induction xs with
  | nil => rfl
  | cons x xs k =>
    rw [List.filterMap_cons, k, List.filter_cons]
    cases c x <;> rfl
/-- turns that change the rest: any relation R of item and outcome, U of the rest -/
theorem lc_draw {α : Type} (enc : α → PV) (U : En → Prop) (R : α → Option PV → Prop) : ∀ (xs : List α) (acc : List PV) (env : En), U env → (∀ a ∈ xs, ∀ e, U e → ∃ o e', lcStep elt asg tst own (enc a) e = .ok o e' ∧ U e' ∧ R a o) → ∃ (os : List (Option PV)) (e' : En), lcLoop false elt asg tst own (xs.map enc) acc env = .ok (acc ++ os.filterMap id) e' ∧ U e' ∧ os.length = xs.length ∧ ∀ (i : Nat) (a : α) (o : Option PV), xs[i]? = some a → os[i]? = some o → R a o
  | [], acc, env, u, _ => ⟨[], env, by simp [lcLoop], u, rfl, fun i a o e => by simp at e⟩
  | x :: xs, acc, env, u, h => by
    obtain ⟨o, e1, h1, u1, r1⟩ := h x List.mem_cons_self env u
    obtain ⟨os, e2, h2, u2, l2, r2⟩ := lc_draw enc U R xs (acc ++ o.toList) e1 u1 fun a m => h a (List.mem_cons_of_mem _ m)
    refine ⟨o :: os, e2, ?_, u2, by simp [l2], fun i a p ea eo => ?_⟩
    · rw [List.map_cons, lc_cons, h1, Res.bind_ok, h2]
      cases o <;> simp
    · cases i with
      | zero => simp at ea eo; subst ea; subst eo; exact r1
      | succ i => exact r2 i a p (by simpa using ea) (by simpa using eo)
/-! two clauses -/
def lc2Step (inner : List PV → En → Res (List PV)) (asg : PV → En → Option En) (tst : En → Res Bool) (own : List Nat) (p : PV) (acc : List PV) (env : En) : Res (List PV) :=
  (opt (asg p env) env).bind fun env1 _ => (tst env1).bind fun b env2 => bfi b ((inner acc env2).bind fun acc' env3 => .ok acc' (wipeE env3 own)) (.ok acc (wipeE env2 own))
theorem lc2_cons {inner : List PV → En → Res (List PV)} (p : PV) (ps acc : List PV) (env : En) : lc2Loop inner asg tst own (p :: ps) acc env = (lc2Step inner asg tst own p acc env).bind fun acc' e => lc2Loop inner asg tst own ps acc' e := by
  show ((opt (asg p env) env).bind fun env1 _ => (tst env1).bind fun b env2 =>
    if b then (inner acc env2).bind fun acc' env3 => lc2Loop inner asg tst own ps acc' (wipeE env3 own)
    else lc2Loop inner asg tst own ps acc (wipeE env2 own)) = _
  unfold lc2Step
  cases asg p env with
  | none => rfl
  | some e1 =>
    simp only [opt_some, Res.bind_ok]
    cases tst e1 with
    | bad => rfl
    | ok b e2 =>
      simp only [Res.bind_ok]
      cases b with
      | false => simp
      | true =>
        simp only [bfi_true]
        cases inner acc e2 with
        | bad => rfl
        | ok x e3 => simp
theorem lc2_pure {α : Type} {inner : List PV → En → Res (List PV)} (enc : α → PV) (g : α → List PV) (N : Nat) : ∀ (xs : List α) (acc : List PV), acc.length + (xs.map fun a => (g a).length).sum ≤ N → (∀ a ∈ xs, ∀ acc, acc.length + (g a).length ≤ N → lc2Step inner asg tst own (enc a) acc env = .ok (acc ++ g a) env) → lc2Loop inner asg tst own (xs.map enc) acc env = .ok (acc ++ xs.flatMap g) env
  | [], acc, _, _ => by simp [lc2Loop]
  | x :: xs, acc, hz, h => by
    rw [List.map_cons, List.sum_cons] at hz
    rw [List.map_cons, lc2_cons, h x List.mem_cons_self acc (by omega), Res.bind_ok, lc2_pure enc g N xs _ (by rw [List.length_append]; omega) fun a m => h a (List.mem_cons_of_mem _ m), List.flatMap_cons, List.append_assoc]
/-! .. of an expression -/
def eStep (C : Cn) (elt : E) (tg : Tg) (ifs : TO) (own : List Nat) (p : PV) (env : En) : Res (Option PV) :=
  lcStep (fun e => (dE C elt e).bind fun x e' => .ok x.1 e') (asgTg tg) (dTO C ifs) own p env
@[simp] theorem eStep_eq (C : Cn) (elt : E) (tg : Tg) (ifs : TO) (own : List Nat) (p : PV) (env : En) : eStep C elt tg ifs own p env = (opt (asgTg tg p env) env).bind fun env1 _ => (dTO C ifs env1).bind fun b env2 => bfi b ((dE C elt env2).bind fun x env3 => .ok (some x.1) (wipeE env3 own)) (.ok none (wipeE env2 own)) := by
  unfold eStep lcStep
  congr 1
  funext e1 _
  congr 1
  funext b e2
  cases b with
  | false => rfl
  | true =>
    simp only [bfi_true]
    cases dE C elt e2 <;> rfl
theorem lcR_opt {C : Cn} {elt : E} {tg : Tg} {ifs : TO} {own : List Nat} {env e0 : En} {α : Type} {xs : List α} (enc : α → PV) (g : α → Option PV) (hw : wipeE env own = e0) (h : ∀ a ∈ xs, eStep C elt tg ifs own (enc a) e0 = .ok (g a) e0) : lcR C elt tg ifs own (xs.map enc) env = .ok (.lst (xs.filterMap g), true) (unwipe env e0 own) := by
  unfold lcR
  rw [hw, lc_pure enc g xs [] h]
  rfl
theorem lcR_map {C : Cn} {elt : E} {tg : Tg} {ifs : TO} {own : List Nat} {env e0 : En} {α : Type} {xs : List α} (enc : α → PV) (g : α → PV) (hw : wipeE env own = e0) (h : ∀ a ∈ xs, eStep C elt tg ifs own (enc a) e0 = .ok (some (g a)) e0) : lcR C elt tg ifs own (xs.map enc) env = .ok (.lst (xs.map g), true) (unwipe env e0 own) := by
  unfold lcR
  rw [hw, lc_map enc g xs [] h]
  rfl
theorem lcR_fil {C : Cn} {elt : E} {tg : Tg} {ifs : TO} {own : List Nat} {env e0 : En} {α : Type} {xs : List α} (enc : α → PV) (g : α → PV) (c : α → Bool) (hw : wipeE env own = e0) (h : ∀ a ∈ xs, eStep C elt tg ifs own (enc a) e0 = .ok (if c a then some (g a) else none) e0) : lcR C elt tg ifs own (xs.map enc) env = .ok (.lst ((xs.filter c).map g), true) (unwipe env e0 own) := by
  unfold lcR
  rw [hw, lc_filter enc g c xs [] h]
  rfl
theorem lcR_mapI {C : Cn} {elt : E} {tg : Tg} {ifs : TO} {own : List Nat} {env e0 : En} {xs : List PV} (g : PV → PV) (hw : wipeE env own = e0) (h : ∀ a ∈ xs, eStep C elt tg ifs own a e0 = .ok (some (g a)) e0) : lcR C elt tg ifs own xs env = .ok (.lst (xs.map g), true) (unwipe env e0 own) := by
  have := lcR_map (env := env) id g hw h
  rw [List.map_id] at this
  exact this
theorem lcR_filI {C : Cn} {elt : E} {tg : Tg} {ifs : TO} {own : List Nat} {env e0 : En} {xs : List PV} (g : PV → PV) (c : PV → Bool) (hw : wipeE env own = e0) (h : ∀ a ∈ xs, eStep C elt tg ifs own a e0 = .ok (if c a then some (g a) else none) e0) : lcR C elt tg ifs own xs env = .ok (.lst ((xs.filter c).map g), true) (unwipe env e0 own) := by
  have := lcR_fil (env := env) id g c hw h
  rw [List.map_id] at this
  exact this
/-- .. that draws: U of how many turns are left and the rest -/
theorem lcR_draw {C : Cn} {elt : E} {tg : Tg} {ifs : TO} {own : List Nat} {α : Type} (enc : α → PV) (U : Nat → En → Prop) (R : α → Option PV → Prop) : ∀ (xs : List α) (acc : List PV) (env : En), U xs.length env → (∀ a ∈ xs, ∀ n e, U (n + 1) e → ∃ o e', eStep C elt tg ifs own (enc a) e = .ok o e' ∧ U n e' ∧ R a o) → ∃ (os : List (Option PV)) (e' : En), lcLoop false (fun e => (dE C elt e).bind fun x e' => .ok x.1 e') (asgTg tg) (dTO C ifs) own (xs.map enc) acc env = .ok (acc ++ os.filterMap id) e' ∧ U 0 e' ∧ os.length = xs.length ∧ ∀ (i : Nat) (a : α) (o : Option PV), xs[i]? = some a → os[i]? = some o → R a o
  | [], acc, env, u, _ => ⟨[], env, by simp [lcLoop], u, rfl, fun i a o e => by simp at e⟩
  | x :: xs, acc, env, u, h => by
    obtain ⟨o, e1, h1, u1, r1⟩ := h x List.mem_cons_self xs.length env u
    obtain ⟨os, e2, h2, u2, l2, r2⟩ := lcR_draw enc U R xs (acc ++ o.toList) e1 u1 fun a m => h a (List.mem_cons_of_mem _ m)
    refine ⟨o :: os, e2, ?_, u2, by simp [l2], fun i a p ea eo => ?_⟩
    · rw [List.map_cons, lc_cons]
      show (eStep C elt tg ifs own (enc x) env).bind _ = _
      rw [h1, Res.bind_ok, h2]
      cases o <;> simp
    · cases i with
      | zero => simp at ea eo; subst ea; subst eo; exact r1
      | succ i => exact r2 i a p (by simpa using ea) (by simpa using eo)
/-- an inner clause behind what it walks -/
def lcT (C : Cn) (elt : E) (tg : Tg) (ifs : TO) (own : List Nat) (ys acc : List PV) (env : En) : Res (List PV) :=
  lcLoop true (fun e => (dE C elt e).bind fun x e' => .ok x.1 e') (asgTg tg) (dTO C ifs) own ys acc (wipeE env own)
def e2Step (C : Cn) (elt : E) (tg : Tg) (ifs : TO) (tg1 : Tg) (w1 : Wk) (xs1 : OL) (ifs1 : TO) (own own1 : List Nat) (p : PV) (acc : List PV) (env : En) : Res (List PV) :=
  lc2Step (fun acc e => ((dL C xs1 e).bind fun as e1' => wkX w1 as e1').bind fun ys' e1' =>
          if wipeOk e1' own1 then lcLoop true (fun e => (dE C elt e).bind fun x e' => .ok x.1 e') (asgTg tg1) (dTO C ifs1) own1 ys' acc (wipeE e1' own1) else .bad) (asgTg tg) (dTO C ifs) own p acc env
@[simp] theorem e2Step_eq (C : Cn) (elt : E) (tg : Tg) (ifs : TO) (tg1 : Tg) (w1 : Wk) (xs1 : OL) (ifs1 : TO) (own own1 : List Nat) (p : PV) (acc : List PV) (env : En) : e2Step C elt tg ifs tg1 w1 xs1 ifs1 own own1 p acc env = (opt (asgTg tg p env) env).bind fun env1 _ => (dTO C ifs env1).bind fun b env2 => bfi b ((((dL C xs1 env2).bind fun as e1' => wkX w1 as e1').bind fun ys' e1' => bfi (wipeOk e1' own1) (lcT C elt tg1 ifs1 own1 ys' acc e1') .bad).bind fun acc' env3 => .ok acc' (wipeE env3 own)) (.ok acc (wipeE env2 own)) := id rfl
theorem lc2R_pure {C : Cn} {elt : E} {tg : Tg} {ifs : TO} {tg1 : Tg} {w1 : Wk} {xs1 : OL} {ifs1 : TO} {own own1 : List Nat} {env e0 : En} {α : Type} {xs : List α} (enc : α → PV) (g : α → List PV) (hw : wipeE env own = e0) (hz : (xs.map fun a => (g a).length).sum ≤ sizeLine) (h : ∀ a ∈ xs, ∀ acc, acc.length + (g a).length ≤ sizeLine → e2Step C elt tg ifs tg1 w1 xs1 ifs1 own own1 (enc a) acc e0 = .ok (acc ++ g a) e0) : lc2R C elt tg ifs tg1 w1 xs1 ifs1 own own1 (xs.map enc) env = .ok (.lst (xs.flatMap g), true) (unwipe env e0 own) := by
  unfold lc2R
  rw [hw, lc2_pure enc g sizeLine xs [] (by simpa using hz) h]
  rfl
theorem lcT_opt {C : Cn} {elt : E} {tg : Tg} {ifs : TO} {own : List Nat} {env e0 : En} {α : Type} {xs : List α} {acc : List PV} (enc : α → PV) (g : α → Option PV) (hw : wipeE env own = e0) (hz : acc.length + xs.length ≤ sizeLine) (h : ∀ a ∈ xs, eStep C elt tg ifs own (enc a) e0 = .ok (g a) e0) : lcT C elt tg ifs own (xs.map enc) acc env = .ok (acc ++ xs.filterMap g) e0 := by
  unfold lcT
  rw [hw, lc_pureT enc g xs acc hz h]
theorem lcT_map {C : Cn} {elt : E} {tg : Tg} {ifs : TO} {own : List Nat} {env e0 : En} {α : Type} {xs : List α} {acc : List PV} (enc : α → PV) (g : α → PV) (hw : wipeE env own = e0) (hz : acc.length + xs.length ≤ sizeLine) (h : ∀ a ∈ xs, eStep C elt tg ifs own (enc a) e0 = .ok (some (g a)) e0) : lcT C elt tg ifs own (xs.map enc) acc env = .ok (acc ++ xs.map g) e0 := by
  rw [lcT_opt enc (fun a => some (g a)) hw hz h]
  congr 2
  clear h hz
  induction xs with
  | nil => rfl
  | cons x xs k => rw [List.filterMap_cons, k]; rfl
theorem lcT_mapI {C : Cn} {elt : E} {tg : Tg} {ifs : TO} {own : List Nat} {env e0 : En} {xs : List PV} {acc : List PV} (g : PV → PV) (hw : wipeE env own = e0) (hz : acc.length + xs.length ≤ sizeLine) (h : ∀ a ∈ xs, eStep C elt tg ifs own a e0 = .ok (some (g a)) e0) : lcT C elt tg ifs own xs acc env = .ok (acc ++ xs.map g) e0 := by
  have := lcT_map (env := env) (acc := acc) id g hw hz h
  rw [List.map_id] at this
  exact this
/-- .. that draws which items stay -/
theorem lcR_drawF {C : Cn} {elt : E} {tg : Tg} {ifs : TO} {own : List Nat} {α : Type} (enc g : α → PV) (U : Nat → En → Prop) (xs : List α) (env : En) (u : U xs.length (wipeE env own)) (h : ∀ a ∈ xs, ∀ n e, U (n + 1) e → ∃ (b : Bool) (e' : En), eStep C elt tg ifs own (enc a) e = .ok (if b then some (g a) else none) e' ∧ U n e') : ∃ (sub : List α) (e' : En), sub.Sublist xs ∧ lcR C elt tg ifs own (xs.map enc) env = .ok (.lst (sub.map g), true) (unwipe env e' own) ∧ U 0 e' := by
  have key : ∀ (xs : List α) (acc : List PV) (e : En), U xs.length e → (∀ a ∈ xs, ∀ n e, U (n + 1) e → ∃ (b : Bool) (e' : En), eStep C elt tg ifs own (enc a) e = .ok (if b then some (g a) else none) e' ∧ U n e') → ∃ (sub : List α) (e' : En), sub.Sublist xs ∧ lcLoop false (fun e => (dE C elt e).bind fun x e' => .ok x.1 e') (asgTg tg) (dTO C ifs) own (xs.map enc) acc e = .ok (acc ++ sub.map g) e' ∧ U 0 e' := by
    intro xs
    induction xs with
    | nil => exact fun acc e u _ => ⟨[], e, List.Sublist.slnil, by simp [lcLoop], u⟩
    | cons x xs ih =>
      intro acc e u h
      obtain ⟨b, e1, h1, u1⟩ := h x List.mem_cons_self xs.length e u
      obtain ⟨sub, e2, s2, h2, u2⟩ := ih (acc ++ (if b then some (g x) else none).toList) e1 u1 fun a m => h a (List.mem_cons_of_mem _ m)
      refine ⟨if b then x :: sub else sub, e2, ?_, ?_, u2⟩
      · cases b
        · exact List.Sublist.cons _ s2
        · exact List.Sublist.cons₂ _ s2
      · rw [List.map_cons, lc_cons]
        show (eStep C elt tg ifs own (enc x) e).bind _ = _
        rw [h1, Res.bind_ok, h2]
        cases b <;> simp
  obtain ⟨sub, e', s, h1, h2⟩ := key xs [] _ u h
  refine ⟨sub, e', s, ?_, h2⟩
  unfold lcR
  rw [h1]
  rfl
/-- .. what each turn yields, of its item and what it draws -/
theorem lcR_drawM {C : Cn} {elt : E} {tg : Tg} {ifs : TO} {own : List Nat} {α : Type} (enc : α → PV) (U : Nat → En → Prop) (R : α → PV → Prop) (xs : List α) (env : En) (u : U xs.length (wipeE env own)) (h : ∀ a ∈ xs, ∀ n e, U (n + 1) e → ∃ (p : PV) (e' : En), eStep C elt tg ifs own (enc a) e = .ok (some p) e' ∧ U n e' ∧ R a p) : ∃ (ps : List PV) (e' : En), lcR C elt tg ifs own (xs.map enc) env = .ok (.lst ps, true) (unwipe env e' own) ∧ U 0 e' ∧ ps.length = xs.length ∧ ∀ (i : Nat) (a : α) (p : PV), xs[i]? = some a → ps[i]? = some p → R a p := by
  have key : ∀ (xs : List α) (acc : List PV) (e : En), U xs.length e → (∀ a ∈ xs, ∀ n e, U (n + 1) e → ∃ (p : PV) (e' : En), eStep C elt tg ifs own (enc a) e = .ok (some p) e' ∧ U n e' ∧ R a p) → ∃ (ps : List PV) (e' : En), lcLoop false (fun e => (dE C elt e).bind fun x e' => .ok x.1 e') (asgTg tg) (dTO C ifs) own (xs.map enc) acc e = .ok (acc ++ ps) e' ∧ U 0 e' ∧ ps.length = xs.length ∧ ∀ (i : Nat) (a : α) (p : PV), xs[i]? = some a → ps[i]? = some p → R a p := by
    intro xs
    induction xs with
    | nil => exact fun acc e u _ => ⟨[], e, by simp [lcLoop], u, rfl, fun i a p e => by simp at e⟩
    | cons x xs ih =>
      intro acc e u h
      obtain ⟨p, e1, h1, u1, r1⟩ := h x List.mem_cons_self xs.length e u
      obtain ⟨ps, e2, h2, u2, l2, r2⟩ := ih (acc ++ [p]) e1 u1 fun a m => h a (List.mem_cons_of_mem _ m)
      refine ⟨p :: ps, e2, ?_, u2, by simp [l2], fun i a q ea eo => ?_⟩
      · rw [List.map_cons, lc_cons]
        show (eStep C elt tg ifs own (enc x) e).bind _ = _
        rw [h1, Res.bind_ok]
        show lcLoop _ _ _ _ _ _ (acc ++ [p]) _ = _
        rw [h2]
        simp
      · cases i with
        | zero => simp at ea eo; subst ea; subst eo; exact r1
        | succ i => exact r2 i a q (by simpa using ea) (by simpa using eo)
  obtain ⟨ps, e', h1, h2, h3, h4⟩ := key xs [] _ u h
  refine ⟨ps, e', ?_, h2, h3, h4⟩
  unfold lcR
  rw [h1]
  rfl
/-! loops -/
variable {body : En → Res Fw}
/-- a turn: the target, the body -/
def forStep (asg : PV → En → Option En) (body : En → Res Fw) (p : PV) (env : En) : Res Fw := (opt (asg p env) env).bind fun env1 _ => body env1
theorem forLoop_nil (env : En) : forLoop asg body [] env = .ok .nx env := rfl
theorem forLoop_nx {p : PV} {ps : List PV} {env e' : En} (h : forStep asg body p env = .ok .nx e') : forLoop asg body (p :: ps) env = forLoop asg body ps e' := by
  show ((opt (asg p env) env).bind fun env1 _ => (body env1).bind fun w env2 => match w with
    | .nx => forLoop asg body ps env2 | .ct => forLoop asg body ps env2 | .bk => .ok .nx env2 | .rt p fr => .ok (.rt p fr) env2) = _
  unfold forStep at h
  cases ha : asg p env with
  | none => rw [ha] at h; cases h
  | some e1 =>
    rw [ha] at h
    simp only [opt_some, Res.bind_ok] at h ⊢
    rw [h]
    rfl
theorem forLoop_ct {p : PV} {ps : List PV} {env e' : En} (h : forStep asg body p env = .ok .ct e') : forLoop asg body (p :: ps) env = forLoop asg body ps e' := by
  show ((opt (asg p env) env).bind fun env1 _ => (body env1).bind fun w env2 => match w with
    | .nx => forLoop asg body ps env2 | .ct => forLoop asg body ps env2 | .bk => .ok .nx env2 | .rt p fr => .ok (.rt p fr) env2) = _
  unfold forStep at h
  cases ha : asg p env with
  | none => rw [ha] at h; cases h
  | some e1 =>
    rw [ha] at h
    simp only [opt_some, Res.bind_ok] at h ⊢
    rw [h]
    rfl
theorem forLoop_rt {p : PV} {ps : List PV} {env e' : En} {r : PV} {fr : Bool} (h : forStep asg body p env = .ok (.rt r fr) e') : forLoop asg body (p :: ps) env = .ok (.rt r fr) e' := by
  show ((opt (asg p env) env).bind fun env1 _ => (body env1).bind fun w env2 => match w with
    | .nx => forLoop asg body ps env2 | .ct => forLoop asg body ps env2 | .bk => .ok .nx env2 | .rt p fr => .ok (.rt p fr) env2) = _
  unfold forStep at h
  cases ha : asg p env with
  | none => rw [ha] at h; cases h
  | some e1 =>
    rw [ha] at h
    simp only [opt_some, Res.bind_ok] at h ⊢
    rw [h]
    rfl
/-- no turn leaves the loop: a state that is folded -/
theorem for_fold {α σ : Type} (enc : α → PV) (V : σ → En → Prop) (f : σ → α → σ) : ∀ (xs : List α) (s : σ) (env : En), V s env → (∀ a ∈ xs, ∀ s e, V s e → ∃ e', forStep asg body (enc a) e = .ok .nx e' ∧ V (f s a) e') → ∃ e', forLoop asg body (xs.map enc) env = .ok .nx e' ∧ V (xs.foldl f s) e'
  | [], s, env, v, _ => ⟨env, rfl, v⟩
  | x :: xs, s, env, v, h => by
    obtain ⟨e1, h1, v1⟩ := h x List.mem_cons_self s env v
    obtain ⟨e2, h2, v2⟩ := for_fold enc V f xs (f s x) e1 v1 fun a m => h a (List.mem_cons_of_mem _ m)
    exact ⟨e2, by rw [List.map_cons, forLoop_nx h1, h2], v2⟩
@[simp] theorem forStep_eq (p : PV) (env : En) : forStep asg body p env = (opt (asg p env) env).bind fun env1 _ => body env1 := id rfl
/-- .. by what was walked -/
theorem for_pre' {α : Type} (enc : α → PV) (V : List α → En → Prop) : ∀ (xs pre : List α) (env : En), V pre env → (∀ pr a post e, pre ++ xs = pr ++ a :: post → V pr e → ∃ e', forStep asg body (enc a) e = .ok .nx e' ∧ V (pr ++ [a]) e') → ∃ e', forLoop asg body (xs.map enc) env = .ok .nx e' ∧ V (pre ++ xs) e'
  | [], pre, env, v, _ => ⟨env, rfl, by rw [List.append_nil]; exact v⟩
  | x :: xs, pre, env, v, h => by
    obtain ⟨e1, h1, v1⟩ := h pre x xs env rfl v
    obtain ⟨e2, h2, v2⟩ := for_pre' enc V xs (pre ++ [x]) e1 v1 (by simpa using h)
    exact ⟨e2, by rw [List.map_cons, forLoop_nx h1, h2], by simpa using v2⟩
theorem for_pre {α : Type} (enc : α → PV) (V : List α → En → Prop) (xs : List α) (env : En) (v : V [] env) (h : ∀ pr a post e, xs = pr ++ a :: post → V pr e → ∃ e', forStep asg body (enc a) e = .ok .nx e' ∧ V (pr ++ [a]) e') : ∃ e', forLoop asg body (xs.map enc) env = .ok .nx e' ∧ V xs e' := by
  have := for_pre' enc V xs [] env v (by simpa using h)
  simpa using this
/-- .. any turn: an invariant over the rest -/
theorem for_inv {α : Type} (enc : α → PV) (I : List α → En → Prop) (Q : Fw → En → Prop) (hn : ∀ e, I [] e → Q .nx e) : ∀ (xs : List α) (env : En), I xs env → (∀ a r e, I (a :: r) e → ∃ w e', forStep asg body (enc a) e = .ok w e' ∧ ((w = .nx ∨ w = .ct) ∧ I r e' ∨ ∃ p fr, w = .rt p fr ∧ Q w e')) → ∃ w e', forLoop asg body (xs.map enc) env = .ok w e' ∧ Q w e'
  | [], env, v, _ => ⟨.nx, env, rfl, hn env v⟩
  | x :: xs, env, v, h => by
    obtain ⟨w, e1, h1, k⟩ := h x xs env v
    rcases k with ⟨k | k, v1⟩ | ⟨p, fr, k, q⟩
    · subst k
      obtain ⟨w2, e2, h2, v2⟩ := for_inv enc I Q hn xs e1 v1 h
      exact ⟨w2, e2, by rw [List.map_cons, forLoop_nx h1, h2], v2⟩
    · subst k
      obtain ⟨w2, e2, h2, v2⟩ := for_inv enc I Q hn xs e1 v1 h
      exact ⟨w2, e2, by rw [List.map_cons, forLoop_ct h1, h2], v2⟩
    · subst k
      exact ⟨_, e1, by rw [List.map_cons, forLoop_rt h1], q⟩
theorem whl_inv {tst : En → Res Bool} (I : Nat → En → Prop) (Q : Fw → En → Prop) (h : ∀ m e, I m e → ∃ b e', tst e = .ok b e' ∧ (b = false → Q .nx e') ∧ (b = true → ∃ w e'', body e' = .ok w e'' ∧ ((w = .nx ∨ w = .ct) ∧ (∃ m', m' < m ∧ I m' e'') ∨ ∃ p fr, w = .rt p fr ∧ Q w e''))) : ∀ (n m : Nat) (env : En), I m env → m < n → ∃ w e', whlLoop tst body n env = .ok w e' ∧ Q w e'
  | 0, _, _, _, hn => absurd hn (Nat.not_lt_zero _)
  | n + 1, m, env, v, hn => by
    obtain ⟨b, e1, h1, h2, h3⟩ := h m env v
    have eq : whlLoop tst body (n + 1) env = (tst env).bind fun b env1 => if b then (body env1).bind fun w env2 => match w with
      | .nx => whlLoop tst body n env2 | .ct => whlLoop tst body n env2 | .bk => .ok .nx env2 | .rt p fr => .ok (.rt p fr) env2
      else .ok .nx env1 := rfl
    rw [eq, h1]
    cases b with
    | false => exact ⟨.nx, e1, rfl, h2 rfl⟩
    | true =>
      obtain ⟨w, e2, hb, k⟩ := h3 rfl
      simp only [Res.bind_ok, if_pos, hb]
      rcases k with ⟨k | k, m', lm, v'⟩ | ⟨p, fr, k, q⟩
      · subst k
        exact whl_inv I Q h n m' e2 v' (by omega)
      · subst k
        exact whl_inv I Q h n m' e2 v' (by omega)
      · subst k
        exact ⟨_, e2, rfl, q⟩
end
end Dk

set_option Elab.async false
set_option linter.all false
set_option autoImplicit false
set_option maxRecDepth 100000
set_option maxHeartbeats 4000000
/-! Dk28: draws. -/
namespace Dk
open PySem PySem.Spec PyProof.Rows L2

/-- the box of draws, so many draws left -/
def Urn (k : Nat) (p : PV) : Prop := ∃ a b c : Int, p = .lst [.int a, .int b, .int c] ∧ 0 ≤ a ∧ 0 ≤ b ∧ b < 2 ^ 62 ∧ 0 ≤ c ∧ c + k ≤ 2 ^ 62
theorem Urn.mono {k k' : Nat} {p : PV} (h : Urn k p) (l : k' ≤ k) : Urn k' p := by
  obtain ⟨a, b, c, e, h1, h2, h3, h4, h5⟩ := h
  exact ⟨a, b, c, e, h1, h2, h3, h4, by omega⟩
def bTake : SL := (.cons (.iff (.cmp .Gt (.v (.ix (.b 0) (.v (.lit (.int 0))))) (.v (.lit (.int 0))))
    (.cons (.asg 5 (.bin .Mod (.v (.cb .int (.cons (.v (.ix (.b 0) (.v (.lit (.int 0))))) .nil))) (.b 1)))
    (.cons (.put 0 (.v (.lit (.int 0))) (.bin .FloorDiv (.v (.ix (.b 0) (.v (.lit (.int 0))))) (.b 1)))
    (.cons (.ret (.mv 5))
    .nil)))
    .nil)
    (.cons (.put 0 (.v (.lit (.int 2))) (.bin .Add (.v (.ix (.b 0) (.v (.lit (.int 2))))) (.v (.lit (.int 1)))))
    (.cons (.asg 2 (.bin .Mod (.v (.cb .int (.cons (.v (.bin .Mult (.v (.bin .Add (.v (.ix (.b 0) (.v (.lit (.int 1))))) (.v (.bin .Mult (.v (.lit (.int 48271))) (.v (.ix (.b 0) (.v (.lit (.int 2))))))))) (.v (.bin .Add (.v (.lit (.int 39373))) (.v (.ix (.b 0) (.v (.lit (.int 2))))))))) .nil))) (.v (.lit (.int 2147483647)))))
    (.cons (.asg 3 (.bin .Add (.v (.bin .Mod (.v (.cb .int (.cons (.b 2) .nil))) (.v (.lit (.int 40009))))) (.v (.lit (.int 7)))))
    (.cons (.asg 4 (.bin .Mod (.v (.cb .int (.cons (.v (.bin .Mult (.v (.bin .Add (.v (.bin .Add (.b 2) (.v (.ix (.b 0) (.v (.lit (.int 2))))))) (.v (.bin .FloorDiv (.v (.ix (.b 0) (.v (.lit (.int 1))))) (.v (.lit (.int 1000003))))))) (.b 3))) .nil))) (.v (.lit (.int 2147483629)))))
    (.cons (.ret (.bin .Mod (.v (.cb .int (.cons (.v (.bin .FloorDiv (.v (.bin .Mod (.v (.cb .int (.cons (.v (.bin .Add (.v (.bin .Mult (.b 4) (.v (.lit (.int 48271))))) (.b 2))) .nil))) (.v (.lit (.int 2147483587))))) (.v (.lit (.int 64))))) .nil))) (.b 1)))
    .nil))))))
def fnTake : Fn := ⟨[true, false], 6, bTake⟩
theorem getI_nat {α : Type} (xs : List α) (n : Nat) : getI xs (n : Int) = xs[n]? := by
  unfold getI atI L2.ixN
  by_cases h : n < xs.length
  · simp [h]
  · simp [h]
@[simp] theorem getI_0 {α : Type} (xs : List α) : getI xs 0 = xs[0]? := getI_nat xs 0
@[simp] theorem getI_1 {α : Type} (xs : List α) : getI xs 1 = xs[1]? := getI_nat xs 1
@[simp] theorem getI_2 {α : Type} (xs : List α) : getI xs 2 = xs[2]? := getI_nat xs 2
@[simp] theorem getI_3 {α : Type} (xs : List α) : getI xs 3 = xs[3]? := getI_nat xs 3
theorem ixN_nat (n k : Nat) (h : k < n) : L2.ixN n (k : Int) = some k := by
  unfold L2.ixN
  simp [h]
theorem ixN3_0 : L2.ixN 3 0 = some 0 := rfl
theorem ixN3_2 : L2.ixN 3 2 = some 2 := rfl
theorem mulOkR {i j : Int} (h1 : -(2 ^ 64) < j) (h2 : j < 2 ^ 64) : mulOk i j = true := by
  unfold mulOk
  have : j.natAbs < 2 ^ 64 := by omega
  simp [this]
theorem mulOkL {i j : Int} (h1 : -(2 ^ 64) < i) (h2 : i < 2 ^ 64) : mulOk i j = true := by
  unfold mulOk
  have : i.natAbs < 2 ^ 64 := by omega
  simp [this]
theorem divOkP {j : Int} (h1 : 0 < j) (h2 : j < 1073741824) : divOk j = true := by
  unfold divOk
  have : j.natAbs < 1073741824 := by omega
  have : j ≠ 0 := by omega
  simp [*]
theorem take_ok {P : Pg} {f : Nat} (hf : P.fn f = some fnTake) (t k : Nat) {u : PV} {n : Int} (hu : Urn (k + 1) u) (h1 : 0 < n) (h2 : n < 1073741824) : ∃ (r : Int) (u' : PV), 0 ≤ r ∧ r < n ∧ Urn k u' ∧ P.call (t + 1) f [u, .int n] = .ok (.int r) false [u'] := by
  obtain ⟨a, b, c, rfl, ha, hb, hb2, hc, hk⟩ := hu
  have hn : n ≠ 0 := by omega
  have hdv := divOkP h1 h2
  rw [call_eq hf (e := [some (.lst [.int a, .int b, .int c], .io), some (.int n, .fz), none, none, none, none]) rfl]
  show ∃ r u', _ ∧ _ ∧ _ ∧ fin [true, false] (dSL _ bTake _) = _
  unfold bTake
  by_cases hp : 0 < a
  · refine ⟨a.fmod n, .lst [.int (a.fdiv n), .int b, .int c], ?_, ?_, ⟨_, _, _, rfl, ?_, hb, hb2, hc, by omega⟩, ?_⟩
    · rw [Int.fmod_eq_emod_of_nonneg _ (by omega)]; exact Int.emod_nonneg _ hn
    · rw [Int.fmod_eq_emod_of_nonneg _ (by omega)]; exact Int.emod_lt_of_pos _ h1
    · rw [Int.fdiv_eq_ediv_of_nonneg _ (by omega)]; exact Int.ediv_nonneg ha (by omega)
    · simp [hp, hn, hdv, ixN3_0]
  · have e1 := mulOkL (i := 48271) (j := c + 1) (by omega) (by omega)
    have e2 : ∀ i, mulOk i (39373 + (c + 1)) = true := fun i => mulOkR (by omega) (by omega)
    have f1 : ∀ x m : Int, 0 < m → 0 ≤ x.fmod m ∧ x.fmod m < m := fun x m hm => by
      rw [Int.fmod_eq_emod_of_nonneg _ (by omega)]
      exact ⟨Int.emod_nonneg _ (by omega), Int.emod_lt_of_pos _ hm⟩
    have e3 : ∀ i x : Int, mulOk i (x.fmod 40009 + 7) = true := fun i x => by
      have := f1 x 40009 (by omega)
      exact mulOkR (by omega) (by omega)
    have e4 : ∀ x : Int, mulOk x 48271 = true := fun x => mulOkR (by omega) (by omega)
    have d1 : divOk 1000003 = true := divOkP (by omega) (by omega)
    have d2 : divOk 64 = true := divOkP (by omega) (by omega)
    obtain ⟨x, hx⟩ : ∃ x : Int, fin [true, false] (dSL (P.cn t) bTake [some (.lst [.int a, .int b, .int c], .io), some (.int n, .fz), none, none, none, none]) = .ok (.int (x.fmod n)) false [.lst [.int a, .int b, .int (c + 1)]] := by
      unfold bTake
      refine ⟨?x, ?e⟩
      case e =>
        simp [hp, hn, ixN3_2, e1, e2, e3, e4, d1, d2]
        rfl
    exact ⟨_, .lst [.int a, .int b, .int (c + 1)], (f1 x n h1).1, (f1 x n h1).2, ⟨_, _, _, rfl, ha, hb, hb2, by omega, by omega⟩, hx⟩
end Dk

set_option Elab.async false
set_option linter.all false
set_option autoImplicit false
set_option maxRecDepth 100000
set_option maxHeartbeats 4000000
/-! Dk29: what the laws share: same, lists. -/
namespace Dk
open PySem PySem.Spec PyProof.Rows L2
theorem zip_self : ∀ xs : List PV, zipV xs xs = xs.map fun x => PV.tup [x, x]
  | [] => rfl
  | x :: xs => by
    show PV.tup [x, x] :: zipV xs xs = _
    rw [zip_self xs]; rfl
mutual
theorem eqv_refl : ∀ p : PV, nod p = true → eqv p p = true
  | .non, _ => rfl
  | .bl b, _ => by simp [eqv]
  | .int b, _ => by simp [eqv]
  | .str b, _ => by simp [eqv]
  | .lst xs, h => eqvL_refl xs h
  | .tup xs, h => eqvL_refl xs h
theorem eqvL_refl : ∀ p : List PV, nodL p = true → eqvL p p = true
  | [], _ => rfl
  | x :: xs, h => by
    have h : (nod x && nodL xs) = true := h
    rw [Bool.and_eq_true] at h
    show (eqv x x && eqvL xs xs) = true
    rw [eqv_refl x h.1, eqvL_refl xs h.2]
    rfl
end
theorem nodL_mem : ∀ {xs : List PV}, nodL xs = true → ∀ x ∈ xs, nod x = true
  | _ :: xs, h, x, m => by
    have h : (nod _ && nodL xs) = true := h
    rw [Bool.and_eq_true] at h
    rcases List.mem_cons.mp m with m | m
    · subst m; exact h.1
    · exact nodL_mem h.2 x m
theorem depL_mem : ∀ {xs : List PV} {n : Nat}, depL xs ≤ n → ∀ x ∈ xs, dep x ≤ n
  | y :: xs, n, h, x, m => by
    have h : max (dep y) (depL xs) ≤ n := h
    rcases List.mem_cons.mp m with m | m
    · subst m; omega
    · exact depL_mem (by omega) x m
theorem nodL_of : ∀ {xs : List PV}, (∀ x ∈ xs, nod x = true) → nodL xs = true
  | [], _ => rfl
  | y :: xs, h => by
    show (nod y && nodL xs) = true
    rw [h y List.mem_cons_self, nodL_of fun x m => h x (List.mem_cons_of_mem _ m)]
    rfl
theorem depL_of : ∀ {xs : List PV} {n : Nat}, (∀ x ∈ xs, dep x ≤ n) → depL xs ≤ n
  | [], n, _ => Nat.zero_le n
  | y :: xs, n, h => by
    show max (dep y) (depL xs) ≤ n
    have := h y List.mem_cons_self
    have := depL_of (n := n) fun x m => h x (List.mem_cons_of_mem _ m)
    omega
/-- data, so deep at most -/
def Dat (n : Nat) (p : PV) : Prop := nod p = true ∧ dep p ≤ n
theorem Dat.mono {n m : Nat} {p : PV} (h : Dat n p) (l : n ≤ m) : Dat m p := ⟨h.1, Nat.le_trans h.2 l⟩
theorem Dat.lst {n : Nat} {xs : List PV} (h : ∀ x ∈ xs, Dat n x) : Dat (n + 1) (.lst xs) := ⟨nodL_of fun x m => (h x m).1, Nat.succ_le_succ (depL_of fun x m => (h x m).2)⟩
theorem Dat.tup {n : Nat} {xs : List PV} (h : ∀ x ∈ xs, Dat n x) : Dat (n + 1) (.tup xs) := ⟨nodL_of fun x m => (h x m).1, Nat.succ_le_succ (depL_of fun x m => (h x m).2)⟩
theorem Dat.ofLst {n : Nat} {xs : List PV} (h : Dat (n + 1) (.lst xs)) : ∀ x ∈ xs, Dat n x := fun x m => ⟨nodL_mem h.1 x m, depL_mem (Nat.le_of_succ_le_succ h.2) x m⟩
theorem Dat.ofTup {n : Nat} {xs : List PV} (h : Dat (n + 1) (.tup xs)) : ∀ x ∈ xs, Dat n x := fun x m => ⟨nodL_mem h.1 x m, depL_mem (Nat.le_of_succ_le_succ h.2) x m⟩
theorem Dat.cod {n : Nat} {p : PV} (h : Dat n p) (l : n ≤ 60) : cod p = true := by
  unfold Dk.cod
  rw [h.1, decide_eq_true (Nat.le_trans h.2 l)]
  rfl
@[simp] theorem Dat_non (n : Nat) : Dat n .non := ⟨rfl, Nat.zero_le _⟩
@[simp] theorem Dat_bl (n : Nat) (b : Bool) : Dat n (.bl b) := ⟨rfl, Nat.zero_le _⟩
@[simp] theorem Dat_int (n : Nat) (b : Int) : Dat n (.int b) := ⟨rfl, Nat.zero_le _⟩
@[simp] theorem Dat_str (n : Nat) (b : List Nat) : Dat n (.str b) := ⟨rfl, Nat.zero_le _⟩
@[simp] theorem Dat_lst (n : Nat) (xs : List PV) : Dat (n + 1) (.lst xs) ↔ ∀ x ∈ xs, Dat n x := ⟨Dat.ofLst, Dat.lst⟩
@[simp] theorem Dat_tup (n : Nat) (xs : List PV) : Dat (n + 1) (.tup xs) ↔ ∀ x ∈ xs, Dat n x := ⟨Dat.ofTup, Dat.tup⟩
@[simp] theorem cod_non : cod .non = true := id rfl
@[simp] theorem cod_bl (b : Bool) : cod (.bl b) = true := id rfl
@[simp] theorem cod_int (b : Int) : cod (.int b) = true := id rfl
@[simp] theorem cod_str (b : List Nat) : cod (.str b) = true := id rfl
@[simp] theorem cod_nil : cod (.lst []) = true := id rfl
@[simp] theorem cod_nilT : cod (.tup []) = true := id rfl
@[simp] theorem eqv_bl (a b : Bool) : eqv (.bl a) (.bl b) = decide (a = b) := by rw [eqv]; cases a <;> cases b <;> rfl
@[simp] theorem eqv_int (a b : Int) : eqv (.int a) (.int b) = decide (a = b) := by rw [eqv]; rfl
@[simp] theorem eqv_str (a b : List Nat) : eqv (.str a) (.str b) = decide (a = b) := by rw [eqv, Bool.eq_iff_iff, beq_iff_eq, decide_eq_true_eq]
@[simp] theorem eqv_lst (a b : List PV) : eqv (.lst a) (.lst b) = eqvL a b := by rw [eqv]
@[simp] theorem eqv_tup (a b : List PV) : eqv (.tup a) (.tup b) = eqvL a b := by rw [eqv]
@[simp] theorem eqvL_nil : eqvL [] [] = true := by rw [eqvL]
@[simp] theorem eqvL_cons (x y : PV) (xs ys : List PV) : eqvL (x :: xs) (y :: ys) = (eqv x y && eqvL xs ys) := by rw [eqvL]
@[simp] theorem eqvL_nc (y : PV) (ys : List PV) : eqvL [] (y :: ys) = false := by simp [eqvL]
@[simp] theorem eqvL_cn (y : PV) (ys : List PV) : eqvL (y :: ys) [] = false := by simp [eqvL]
theorem eqvL_nil_r (xs : List PV) : eqvL xs [] = xs.isEmpty := by cases xs <;> simp

theorem blsOf_append : ∀ {xs ys : List PV} {a b : List Bool}, blsOf xs = some a → blsOf ys = some b → blsOf (xs ++ ys) = some (a ++ b)
  | [], ys, a, b, h, k => by cases h; exact k
  | .bl x :: xs, ys, a, b, h, k => by
    rw [blsOf_cons] at h
    obtain ⟨a', h1, rfl⟩ := Option.map_eq_some_iff.mp h
    rw [List.cons_append, blsOf_cons, blsOf_append h1 k]
    rfl
theorem blsOf_flatMap {α : Type} {g : α → List PV} {f : α → List Bool} (h : ∀ a, blsOf (g a) = some (f a)) : ∀ xs : List α, blsOf (xs.flatMap g) = some (xs.flatMap f)
  | [] => rfl
  | x :: xs => by
    rw [List.flatMap_cons, List.flatMap_cons]
    exact blsOf_append (h x) (blsOf_flatMap h xs)
theorem szLine : sizeLine = 16777216 := rfl
theorem sum_const {α : Type} (n : Nat) : ∀ xs : List α, (xs.map fun _ => n).sum = xs.length * n
  | [] => by simp
  | x :: xs => by rw [List.map_cons, List.sum_cons, sum_const n xs, List.length_cons, Nat.succ_mul]; omega
theorem zipV_map {α β : Type} (f : α → PV) (g : β → PV) : ∀ (xs : List α) (ys : List β), zipV (xs.map f) (ys.map g) = (xs.zip ys).map fun q => PV.tup [f q.1, g q.2]
  | [], _ => by cases ‹List β› <;> rfl
  | _ :: _, [] => rfl
  | x :: xs, y :: ys => by
    show PV.tup [f x, g y] :: zipV (xs.map f) (ys.map g) = _
    rw [zipV_map f g xs ys]
    rfl
theorem cut_from1_ {α : Type} (xs : List α) : cut xs (some 1) none = xs.tail := by
  unfold cut HT.sIx
  cases xs with
  | nil => rfl
  | cons x xs => simp
@[simp] theorem szl_s {n : Nat} (h : n ≤ 1000) : szl n = true := by
  unfold szl
  rw [decide_eq_true_eq, szLine]
  omega
@[simp] theorem rgOk_s {i : Int} (h1 : -1000 ≤ i) (h2 : i ≤ 1000) : rgOk i = true := by
  unfold rgOk
  rw [decide_eq_true (show -(2 ^ 62) ≤ i by omega), decide_eq_true (show i < 2 ^ 62 by omega)]
  rfl
@[simp] theorem mulOk_L {i j : Int} (h1 : -18446744073709551616 < i) (h2 : i < 18446744073709551616) : mulOk i j = true := mulOkL h1 h2
@[simp] theorem mulOk_R {i j : Int} (h1 : -18446744073709551616 < j) (h2 : j < 18446744073709551616) : mulOk i j = true := mulOkR h1 h2
@[simp] theorem divOk_s {j : Int} (h1 : 0 < j) (h2 : j < 1073741824) : divOk j = true := divOkP h1 h2
@[simp] theorem repOk_s {n : Nat} {k : Int} (h1 : -9223372036854775808 ≤ k) (h2 : k ≤ 1000) (h3 : n ≤ 1000) : repOk n k = true := by
  unfold repOk
  simp
  omega
@[simp] theorem bfi_decide {α : Type} {c : Prop} [Decidable c] (x y : Res α) (u : Tag x) (v : Tag y) : bfiT (decide c) x y u v = if c then x else y := by
  unfold bfiT bfi
  simp
@[simp] theorem bfi_not {α : Type} (k : Bool) (x y : Res α) (u : Tag x) (v : Tag y) : bfiT (!k) x y u v = bfiT k y x v u := by cases k <;> rfl
@[simp] theorem ite_okO {c : Prop} [Decidable c] (a b : Option PV) (e : En) : (if c then Res.ok a e else Res.ok b e) = Res.ok (if c then a else b) e := by split <;> rfl
@[simp] theorem fil_emp {α : Type} (c : α → Bool) (xs : List α) : (xs.filter c).isEmpty = xs.all fun x => !c x := by
  induction xs with
  | nil => rfl
  | cons x xs h =>
    rw [List.filter_cons, List.all_cons, ← h]
    cases c x <;> rfl
@[simp] theorem map_emp {α β : Type} (f : α → β) (xs : List α) : (xs.map f).isEmpty = xs.isEmpty := by cases xs <;> rfl
theorem rangeV_eq : ∀ (n : Nat) (lo : Int), rangeV lo n = (List.range n).map fun (k : Nat) => PV.int (lo + (k : Int))
  | 0, _ => rfl
  | n + 1, lo => by
    show PV.int lo :: rangeV (lo + 1) n = _
    rw [rangeV_eq n, List.range_succ_eq_map, List.map_cons, List.map_map]
    congr 1
    · simp
    · apply List.map_congr_left
      intro k _
      show PV.int _ = PV.int _
      congr 1
      simp
      omega
@[simp] theorem cast_eq_1 (n : Nat) : ((n : Int) = 1) ↔ n = 1 := by omega
@[simp] theorem cast_eq_2 (n : Nat) : ((n : Int) = 2) ↔ n = 2 := by omega
@[simp] theorem cast_eq_3 (n : Nat) : ((n : Int) = 3) ↔ n = 3 := by omega
@[simp] theorem cast_eq_4 (n : Nat) : ((n : Int) = 4) ↔ n = 4 := by omega
@[simp] theorem cast_eq_5 (n : Nat) : ((n : Int) = 5) ↔ n = 5 := by omega
@[simp] theorem cast_eq_6 (n : Nat) : ((n : Int) = 6) ↔ n = 6 := by omega
@[simp] theorem cast_eq_7 (n : Nat) : ((n : Int) = 7) ↔ n = 7 := by omega
@[simp] theorem cast_eq_8 (n : Nat) : ((n : Int) = 8) ↔ n = 8 := by omega
@[simp] theorem cast_eq_9 (n : Nat) : ((n : Int) = 9) ↔ n = 9 := by omega
@[simp] theorem cast_eq_10 (n : Nat) : ((n : Int) = 10) ↔ n = 10 := by omega
@[simp] theorem lt_sz {n : Nat} (h : n ≤ 1000) : n < sizeLine := by rw [szLine]; omega
@[simp] theorem getI_last {α : Type} (l : List α) (b : α) : getI (l ++ [b]) (-1) = some b := by
  unfold getI L2.atI L2.ixN
  rw [List.length_append, List.length_singleton, if_neg (by omega), if_pos (by omega)]
  show (l ++ [b])[((-1 : Int) + ((l.length + 1 : Nat) : Int)).toNat]? = _
  rw [show ((-1 : Int) + ((l.length + 1 : Nat) : Int)).toNat = l.length by omega]
  simp
@[simp] theorem ixN_last (n : Nat) : L2.ixN (n + 1) (-1) = some n := by
  unfold L2.ixN
  rw [if_neg (by omega), if_pos (by omega)]
  congr 1
  omega
@[simp] theorem eqvL_snoc (l : List PV) (b : PV) : eqvL (l ++ [b]) [] = false := by
  rw [eqvL_nil_r]
  cases l <;> rfl
@[simp] theorem cut_to {α : Type} (xs : List α) {i : Int} (h : 0 ≤ i) : cut xs none (some i) = xs.take i.toNat := by
  unfold cut HT.sIx
  simp only [if_neg (show ¬ i < 0 by omega), List.drop_zero, Nat.sub_zero]
  by_cases l : i.toNat ≤ xs.length
  · rw [Nat.min_eq_left l]
  · rw [Nat.min_eq_right (by omega), List.take_of_length_le (Nat.le_refl _), List.take_of_length_le (by omega)]
@[simp] theorem cut_from {α : Type} (xs : List α) {i : Int} (h : 0 ≤ i) : cut xs (some i) none = xs.drop i.toNat := by
  unfold cut HT.sIx
  simp only [if_neg (show ¬ i < 0 by omega)]
  by_cases l : i.toNat ≤ xs.length
  · rw [Nat.min_eq_left l, List.take_of_length_le (by rw [List.length_drop]; omega)]
  · rw [Nat.min_eq_right (by omega), List.drop_eq_nil_of_le (Nat.le_refl _), List.drop_eq_nil_of_le (by omega), List.take_nil]
@[simp] theorem cut_neg1 {α : Type} (xs : List α) : cut xs none (some (-1)) = xs.dropLast := by
  unfold cut HT.sIx
  simp only [if_pos (show (-1 : Int) < 0 by omega), List.drop_zero, Nat.sub_zero]
  rw [List.dropLast_eq_take]
  congr 1
  omega
theorem cut_mid {α : Type} (xs : List α) {i j : Int} (h : 0 ≤ i) (k : 0 ≤ j) : cut xs (some i) (some j) = (xs.take j.toNat).drop i.toNat := by
  unfold cut HT.sIx
  simp only [if_neg (show ¬ i < 0 by omega), if_neg (show ¬ j < 0 by omega)]
  rw [List.drop_take]
  by_cases l : i.toNat ≤ xs.length
  · rw [Nat.min_eq_left l]
    by_cases l2 : j.toNat ≤ xs.length
    · rw [Nat.min_eq_left l2]
    · rw [Nat.min_eq_right (by omega), List.take_of_length_le (by rw [List.length_drop]; omega), List.take_of_length_le (by rw [List.length_drop]; omega)]
  · rw [Nat.min_eq_right (show xs.length ≤ i.toNat by omega), List.drop_eq_nil_of_le (Nat.le_refl _), List.drop_eq_nil_of_le (show xs.length ≤ i.toNat by omega), List.take_nil, List.take_nil]
@[simp] theorem rangeV_0 (n : Nat) : rangeV 0 n = (List.range n).map fun (k : Nat) => PV.int (k : Int) := by
  rw [rangeV_eq]
  simp
theorem anyEq_int (v : Int) : ∀ ns : List Int, anyEq (.int v) (ns.map .int) = decide (v ∈ ns)
  | [] => rfl
  | n :: ns => by
    show (eqv (.int n) (.int v) || anyEq (.int v) (ns.map .int)) = _
    rw [anyEq_int v ns, eqv_int, Bool.eq_iff_iff]
    simp
    constructor
    · rintro (h | h)
      · exact .inl h.symm
      · exact .inr h
    · rintro (h | h)
      · exact .inl h.symm
      · exact .inr h
theorem cod_ints (ns : List Int) : cod (.lst (ns.map .int)) = true := Dat.cod (n := 1) (Dat.lst fun x m => by
  obtain ⟨r, _, rfl⟩ := List.mem_map.mp m
  simp) (by omega)
/-! ### box -/
def bBox (c : Int) : SL := (.cons (.asg 2 (.ite (.cmp .Lt (.b 1) (.v (.cb .len (.cons (.b 0) .nil)))) (.ix (.b 0) (.b 1)) (.lit (.int 0))))
    (.cons (.ret (.lstD (.one (.bin .Mult (.v (.cb .abs (.cons (.b 2) .nil))) (.v (.cb .int (.cons (.v (.cmp .GtE (.v (.cb .abs (.cons (.b 2) .nil))) (.v (.bin .Pow (.v (.lit (.int 10))) (.v (.lit (.int 18))))))) .nil)))) (.one (.bin .Add (.v (.bin .Add (.v (.bin .Mod (.v (.cb .int (.cons (.b 2) .nil))) (.v (.lit (.int 2305843009213693951))))) (.v (.bin .Mult (.v (.lit (.int 39373))) (.b 1))))) (.v (.lit (.int c)))) (.one (.lit (.int 0)) .nil)))))
    .nil))
def fnBox (c : Int) : Fn := ⟨[false, false], 3, bBox c⟩
theorem box_ok {P : Pg} {f : Nat} {c : Int} (hf : P.fn f = some (fnBox c)) (hc : 0 ≤ c) (hc2 : c < 10000000000) (t : Nat) (zs : List Int) (k : Nat) (hk : k < zs.length) (h3 : zs.length ≤ 3) : ∃ u, Urn 1000000000000000000 u ∧ P.call (t + 1) f [.lst (zs.map .int), .int k] = .ok u true [] := by
  rw [call_eq hf (e := [some (.lst (zs.map .int), .fz), some (.int k, .fz), none]) rfl]
  show ∃ u, Urn 1000000000000000000 u ∧ fin [false, false] (dSL _ (bBox c) _) = _
  unfold bBox
  have e1 : getI (zs.map PV.int) (k : Int) = some (.int (zs[k]'hk)) := by
    rw [getI_nat, List.getElem?_map, List.getElem?_eq_getElem hk]
    rfl
  generalize zs[k]'hk = z at e1
  have pw : powOk 10 18 = true := rfl
  have m1 : ∀ (i : Int) (b : Bool), mulOk i (bi b) = true := fun i b => by
    cases b <;> exact mulOkR (by simp) (by simp)
  have m2 : mulOk 39373 (k : Int) = true := mulOkL (by omega) (by omega)
  simp [hk, e1, pw, m1, m2]
  refine ⟨_, _, _, rfl, ?_, ?_, ?_, by omega, by omega⟩
  · refine Int.mul_nonneg ?_ ?_
    · split <;> omega
    · have bn : ∀ b : Bool, 0 ≤ bi b := fun b => by cases b <;> simp
      exact bn _
  · rw [Int.fmod_eq_emod_of_nonneg _ (by omega)]
    have := Int.emod_nonneg z (show (2305843009213693951 : Int) ≠ 0 by omega)
    omega
  · rw [Int.fmod_eq_emod_of_nonneg _ (by omega)]
    have := Int.emod_lt_of_pos z (show (0 : Int) < 2305843009213693951 by omega)
    omega
/-! ### the head's test -/
def isFalse : Res Bool → Bool
  | .ok false _ => true
  | _ => false
theorem isFalse_ok {r : Res Bool} (h : isFalse r = true) : ∃ env, r = .ok false env := by
  unfold isFalse at h
  split at h
  · exact ⟨_, rfl⟩
  · cases h
/-! ### same -/
def bSame (f : Nat) : SL := (.cons (.iff (.pl (.v (.isi (.b 1) [.lst, .tup])))
    (.cons (.iff (.or (.cmp .NotEq (.v (.isi (.b 0) [.lst])) (.v (.isi (.b 1) [.lst]))) (.cmp .NotEq (.v (.isi (.b 0) [.tup])) (.v (.isi (.b 1) [.tup]))))
    (.cons (.ret (.lit (.bl false)))
    .nil)
    .nil)
    (.cons (.ret (.andE (.cmp .Eq (.v (.cb .len (.cons (.b 0) .nil))) (.v (.cb .len (.cons (.b 1) .nil)))) (.cb .all (.cons (.v (.lc (.call f (.cons (.v (.var 2)) (.cons (.v (.var 3)) .nil)) .nil []) (.tp [2, 3]) .zip (.cons (.v (.var 0)) (.cons (.v (.var 1)) .nil)) .none [2, 3])) .nil))))
    .nil))
    .nil)
    (.cons (.iff (.or (.cmp .Is (.b 1) (.v (.lit .non))) (.pl (.v (.isi (.b 1) [.bool, .str]))))
    (.cons (.ret (.andE (.cmp .Eq (.b 0) (.b 1)) (.andE (.cmp .Eq (.v (.isi (.b 0) [.bool])) (.v (.isi (.b 1) [.bool]))) (.cmp .Eq (.v (.cmp .Is (.b 0) (.v (.lit .non)))) (.v (.cmp .Is (.b 1) (.v (.lit .non))))))))
    .nil)
    .nil)
    (.cons (.ret (.andE (.isi (.b 0) [.int]) (.andE (.notE (.v (.isi (.b 0) [.bool]))) (.cmp .Eq (.b 0) (.b 1)))))
    .nil)))
def fnSame (f : Nat) : Fn := ⟨[false, false], 4, bSame f⟩
theorem same_refl {P : Pg} {f : Nat} (hf : P.fn f = some (fnSame f)) : ∀ (t : Nat) (p : PV) (n : Nat), Dat n p → n ≤ 60 → n < t → P.call t f [p, p] = .ok (.bl true) false []
  | 0, _, _, _, _, h => absurd h (Nat.not_lt_zero _)
  | t + 1, p, n, d, hn, ht => by
    have hio := io_eq hf
    rw [call_eq hf (e := [some (p, .fz), some (p, .fz), none, none]) rfl]
    show fin [false, false] (dSL _ (bSame f) _) = _
    have ih : ∀ xs : List PV, (∀ x ∈ xs, ∃ m, m < n ∧ Dat m x) → ∀ x ∈ xs, P.call t f [x, x] = .ok (.bl true) false [] := fun xs h x m => by
      obtain ⟨m, h1, h2⟩ := h x m
      exact same_refl hf t x m h2 (by omega) (by omega)
    unfold bSame
    cases p with
    | non => simp [d.cod hn]; rfl
    | bl b => simp [d.cod hn]
    | int i => simp [d.cod hn]
    | str i => simp [d.cod hn]
    | lst xs =>
      cases n with
      | zero => exact absurd d.2 (by simp [dep])
      | succ n =>
      have ih := ih xs fun x m => ⟨n, by omega, d.ofLst x m⟩
      simp [zip_self]
      rw [lcR_map (fun x => PV.tup [x, x]) (fun _ => .bl true) rfl]
      · simp
      · intro a m
        simp [ih a m, hio, fnSame]
    | tup xs =>
      cases n with
      | zero => exact absurd d.2 (by simp [dep])
      | succ n =>
      have ih := ih xs fun x m => ⟨n, by omega, d.ofTup x m⟩
      simp [zip_self]
      rw [lcR_map (fun x => PV.tup [x, x]) (fun _ => .bl true) rfl]
      · simp
      · intro a m
        simp [ih a m, hio, fnSame]
    | dk x => cases d.1
    | dt x => cases d.1
/-! ### lists -/
mutual
def listsV : PV → PV
  | .lst xs => .lst (listsL xs)
  | .tup xs => .lst (listsL xs)
  | p => p
def listsL : List PV → List PV
  | [] => []
  | x :: xs => listsV x :: listsL xs
end
theorem listsL_map : ∀ xs : List PV, listsL xs = xs.map listsV
  | [] => by rw [listsL]; rfl
  | x :: xs => by rw [listsL, listsL_map xs]; rfl
@[simp] theorem listsV_lst (xs : List PV) : listsV (.lst xs) = .lst (xs.map listsV) := by rw [listsV, listsL_map]
@[simp] theorem listsV_tup (xs : List PV) : listsV (.tup xs) = .lst (xs.map listsV) := by rw [listsV, listsL_map]
@[simp] theorem listsV_non : listsV .non = .non := by simp [listsV]
@[simp] theorem listsV_bl (b : Bool) : listsV (.bl b) = .bl b := by simp [listsV]
@[simp] theorem listsV_int (b : Int) : listsV (.int b) = .int b := by simp [listsV]
@[simp] theorem listsV_str (b : List Nat) : listsV (.str b) = .str b := by simp [listsV]
def bLists (f : Nat) : SL := (.cons (.ret (.ite (.pl (.v (.isi (.b 0) [.lst, .tup]))) (.lc (.call f (.cons (.v (.var 1)) .nil) .nil []) (.nm 1) .seq (.cons (.v (.var 0)) .nil) .none [1]) (.var 0)))
    .nil)
def fnLists (f : Nat) : Fn := ⟨[false], 2, bLists f⟩
theorem lists_ok {P : Pg} {f : Nat} (hf : P.fn f = some (fnLists f)) : ∀ (t : Nat) (p : PV) (n : Nat), Dat n p → n < t → ∃ fr, P.call t f [p] = .ok (listsV p) fr []
  | 0, _, _, _, h => absurd h (Nat.not_lt_zero _)
  | t + 1, p, n, d, ht => by
    have hio := io_eq hf
    rw [call_eq hf (e := [some (p, .fz), none]) rfl]
    show ∃ fr, fin [false] (dSL _ (bLists f) _) = _
    have ih : ∀ xs : List PV, (∀ x ∈ xs, ∃ m, m < n ∧ Dat m x) → ∀ x ∈ xs, ∃ fr, P.call t f [x] = .ok (listsV x) fr [] := fun xs h x m => by
      obtain ⟨m, h1, h2⟩ := h x m
      exact lists_ok hf t x m h2 (by omega)
    unfold bLists
    cases p with
    | non => simp
    | bl b => simp
    | int i => simp
    | str i => simp
    | lst xs =>
      cases n with
      | zero => exact absurd d.2 (by simp [dep])
      | succ n =>
      have ih := ih xs fun x m => ⟨n, by omega, d.ofLst x m⟩
      simp
      rw [lcR_mapI listsV rfl]
      · simp
      · intro a m
        obtain ⟨fr, h⟩ := ih a m
        simp [h, hio, fnLists]
    | tup xs =>
      cases n with
      | zero => exact absurd d.2 (by simp [dep])
      | succ n =>
      have ih := ih xs fun x m => ⟨n, by omega, d.ofTup x m⟩
      simp
      rw [lcR_mapI listsV rfl]
      · simp
      · intro a m
        obtain ⟨fr, h⟩ := ih a m
        simp [h, hio, fnLists]
    | dk x => cases d.1
    | dt x => cases d.1
end Dk

set_option Elab.async false
set_option linter.all false
set_option autoImplicit false
set_option maxRecDepth 100000
set_option maxHeartbeats 4000000
/-! Dk30: what the laws share: the second same, tupled, houses, of, pick. -/
namespace Dk
open PySem PySem.Spec PyProof.Rows L2

/-! ### the second same -/
def bSame2 (f : Nat) : SL := (.cons (.iff (.pl (.v (.isi (.b 1) [.lst, .tup])))
    (.cons (.iff (.cmp .NotEq (.v (.isi (.b 0) [.lst])) (.v (.isi (.b 1) [.lst])))
    (.cons (.ret (.lit (.bl false)))
    .nil)
    .nil)
    (.cons (.iff (.cmp .NotEq (.v (.isi (.b 0) [.tup])) (.v (.isi (.b 1) [.tup])))
    (.cons (.ret (.lit (.bl false)))
    .nil)
    .nil)
    (.cons (.ret (.andE (.cmp .Eq (.v (.cb .len (.cons (.b 0) .nil))) (.v (.cb .len (.cons (.b 1) .nil)))) (.cb .all (.cons (.v (.lc (.call f (.cons (.v (.var 3)) (.cons (.v (.var 4)) .nil)) .nil []) (.tp [3, 4]) .zip (.cons (.v (.var 0)) (.cons (.v (.var 1)) .nil)) .none [3, 4])) .nil))))
    .nil)))
    .nil)
    (.cons (.iff (.or (.cmp .Is (.b 1) (.v (.lit .non))) (.pl (.v (.isi (.b 1) [.bool, .str]))))
    (.cons (.asg 2 (.andE (.cmp .Eq (.v (.isi (.b 0) [.bool])) (.v (.isi (.b 1) [.bool]))) (.cmp .Eq (.v (.cmp .Is (.b 0) (.v (.lit .non)))) (.v (.cmp .Is (.b 1) (.v (.lit .non)))))))
    (.cons (.ret (.andE (.var 2) (.cmp .Eq (.b 0) (.b 1))))
    .nil))
    .nil)
    (.cons (.ret (.andE (.isi (.b 0) [.int]) (.andE (.notE (.v (.isi (.b 0) [.bool]))) (.cmp .Eq (.b 0) (.b 1)))))
    .nil)))
def fnSame2 (f : Nat) : Fn := ⟨[false, false], 5, bSame2 f⟩
theorem eqv_non : eqv .non .non = true := by rw [eqv]
theorem same2_refl {P : Pg} {f : Nat} (hf : P.fn f = some (fnSame2 f)) : ∀ (t : Nat) (p : PV) (n : Nat), Dat n p → n ≤ 60 → n < t → P.call t f [p, p] = .ok (.bl true) false []
  | 0, _, _, _, _, h => absurd h (Nat.not_lt_zero _)
  | t + 1, p, n, d, hn, ht => by
    have hio := io_eq hf
    rw [call_eq hf (e := [some (p, .fz), some (p, .fz), none, none, none]) rfl]
    show fin [false, false] (dSL _ (bSame2 f) _) = _
    have ih : ∀ xs : List PV, (∀ x ∈ xs, ∃ m, m < n ∧ Dat m x) → ∀ x ∈ xs, P.call t f [x, x] = .ok (.bl true) false [] := fun xs h x m => by
      obtain ⟨m, h1, h2⟩ := h x m
      exact same2_refl hf t x m h2 (by omega) (by omega)
    unfold bSame2
    cases p with
    | non => simp [eqv_non]
    | bl b => simp
    | int i => simp
    | str i => simp
    | lst xs =>
      cases n with
      | zero => exact absurd d.2 (by simp [dep])
      | succ n =>
      have ih := ih xs fun x m => ⟨n, by omega, d.ofLst x m⟩
      simp [zip_self]
      rw [lcR_map (fun x => PV.tup [x, x]) (fun _ => .bl true) rfl]
      · simp
      · intro a m
        simp [ih a m, hio, fnSame2]
    | tup xs =>
      cases n with
      | zero => exact absurd d.2 (by simp [dep])
      | succ n =>
      have ih := ih xs fun x m => ⟨n, by omega, d.ofTup x m⟩
      simp [zip_self]
      rw [lcR_map (fun x => PV.tup [x, x]) (fun _ => .bl true) rfl]
      · simp
      · intro a m
        simp [ih a m, hio, fnSame2]
    | dk x => cases d.1
    | dt x => cases d.1

/-! ### tupled -/
mutual
def tupV : PV → PV
  | .lst xs => .tup (tupL xs)
  | .tup xs => .tup (tupL xs)
  | p => p
def tupL : List PV → List PV
  | [] => []
  | x :: xs => tupV x :: tupL xs
end
theorem tupL_map : ∀ xs : List PV, tupL xs = xs.map tupV
  | [] => by rw [tupL]; rfl
  | x :: xs => by rw [tupL, tupL_map xs]; rfl
@[simp] theorem tupV_lst (xs : List PV) : tupV (.lst xs) = .tup (xs.map tupV) := by rw [tupV, tupL_map]
@[simp] theorem tupV_tup (xs : List PV) : tupV (.tup xs) = .tup (xs.map tupV) := by rw [tupV, tupL_map]
@[simp] theorem tupV_non : tupV .non = .non := by simp [tupV]
@[simp] theorem tupV_bl (b : Bool) : tupV (.bl b) = .bl b := by simp [tupV]
@[simp] theorem tupV_int (b : Int) : tupV (.int b) = .int b := by simp [tupV]
@[simp] theorem tupV_str (b : List Nat) : tupV (.str b) = .str b := by simp [tupV]
def bTupled (f : Nat) : SL := (.cons (.ret (.ite (.pl (.v (.isi (.b 0) [.lst, .tup]))) (.cb .tup (.cons (.v (.lc (.call f (.cons (.v (.var 1)) .nil) .nil []) (.nm 1) .seq (.cons (.v (.var 0)) .nil) .none [1])) .nil)) (.var 0)))
    .nil)
def fnTupled (f : Nat) : Fn := ⟨[false], 2, bTupled f⟩
theorem tupled_ok {P : Pg} {f : Nat} (hf : P.fn f = some (fnTupled f)) : ∀ (t : Nat) (p : PV) (n : Nat), Dat n p → n < t → P.call t f [p] = .ok (tupV p) false []
  | 0, _, _, _, h => absurd h (Nat.not_lt_zero _)
  | t + 1, p, n, d, ht => by
    have hio := io_eq hf
    rw [call_eq hf (e := [some (p, .fz), none]) rfl]
    show fin [false] (dSL _ (bTupled f) _) = _
    have ih : ∀ xs : List PV, (∀ x ∈ xs, ∃ m, m < n ∧ Dat m x) → ∀ x ∈ xs, P.call t f [x] = .ok (tupV x) false [] := fun xs h x m => by
      obtain ⟨m, h1, h2⟩ := h x m
      exact tupled_ok hf t x m h2 (by omega)
    unfold bTupled
    cases p with
    | non => simp
    | bl b => simp
    | int i => simp
    | str i => simp
    | lst xs =>
      cases n with
      | zero => exact absurd d.2 (by simp [dep])
      | succ n =>
      have ih := ih xs fun x m => ⟨n, by omega, d.ofLst x m⟩
      simp
      rw [lcR_mapI tupV rfl]
      · simp
      · intro a m
        simp [ih a m, hio, fnTupled]
    | tup xs =>
      cases n with
      | zero => exact absurd d.2 (by simp [dep])
      | succ n =>
      have ih := ih xs fun x m => ⟨n, by omega, d.ofTup x m⟩
      simp
      rw [lcR_mapI tupV rfl]
      · simp
      · intro a m
        simp [ih a m, hio, fnTupled]
    | dk x => cases d.1
    | dt x => cases d.1

/-! ### trees as rows of two texts -/
def prS (w : List Nat × List Nat) : PV := .tup [.str w.1, .str w.2]
def prSL (w : List Nat × List Nat) : PV := .lst [.str w.1, .str w.2]
theorem dat_prS (w : List Nat × List Nat) : Dat 1 (prS w) := Dat.tup fun x m => by simp at m; rcases m with m | m <;> subst m <;> simp
theorem dat_prSs (ws : List (List Nat × List Nat)) : ∀ x ∈ ws.map prS, Dat 1 x := fun x m => by
  obtain ⟨r, _, rfl⟩ := List.mem_map.mp m
  exact dat_prS r
theorem dat_prSL (w : List Nat × List Nat) : Dat 1 (prSL w) := Dat.lst fun x m => by simp at m; rcases m with m | m <;> subst m <;> simp
theorem dat_prSLs (ws : List (List Nat × List Nat)) : ∀ x ∈ ws.map prSL, Dat 1 x := fun x m => by
  obtain ⟨r, _, rfl⟩ := List.mem_map.mp m
  exact dat_prSL r
theorem tupV_prS (ws : List (List Nat × List Nat)) : (ws.map prS).map tupV = ws.map prS := by
  rw [List.map_map]
  apply List.map_congr_left
  intro w _
  simp [prS]
theorem tupV_prSL (ws : List (List Nat × List Nat)) : (ws.map prSL).map tupV = ws.map prS := by
  rw [List.map_map]
  apply List.map_congr_left
  intro w _
  simp [prS, prSL]
theorem listsV_prS (ws : List (List Nat × List Nat)) : (ws.map prS).map listsV = ws.map prSL := by
  rw [List.map_map]
  apply List.map_congr_left
  intro w _
  simp [prS, prSL]
def bHouses (f : Nat) : SL := (.cons (.ret (.cb .tup (.cons (.v (.lc (.var 1) (.tp [1, 2]) .seq (.cons (.v (.call f (.cons (.v (.var 0)) .nil) .nil [])) .nil) .none [1, 2])) .nil)))
    .nil)
def fnHouses (f : Nat) : Fn := ⟨[false], 3, bHouses f⟩
theorem houses_ok {P : Pg} {f g : Nat} (hf : P.fn f = some (fnHouses g)) (hg : P.fn g = some (fnTupled g)) (t : Nat) (ws : List (List Nat × List Nat)) {p : PV} (hp : p = .tup (ws.map prS) ∨ p = .lst (ws.map prSL)) : P.call (t + 4) f [p] = .ok (.tup (ws.map fun w => .str w.1)) false [] := by
  have hio := io_eq hg
  have ht : P.call (t + 3) g [p] = .ok (.tup (ws.map prS)) false [] := by
    rcases hp with rfl | rfl
    · rw [tupled_ok hg (t + 3) _ 2 (Dat.tup (dat_prSs ws)) (by omega), tupV_tup, tupV_prS]
    · rw [tupled_ok hg (t + 3) _ 2 (Dat.lst (dat_prSLs ws)) (by omega), tupV_lst, tupV_prSL]
  rw [call_eq hf (e := [some (p, .fz), none, none]) rfl]
  show fin [false] (dSL _ (bHouses g) _) = _
  unfold bHouses
  simp [ht, hio, fnTupled]
  rw [lcR_map prS (fun w => .str w.1) rfl]
  · simp
  · intro w m
    simp [prS]

/-! ### one of some, some of some -/
def bOf (f : Nat) : SL := (.cons (.ret (.ix (.b 1) (.v (.call f (.cons (.b 0) (.cons (.v (.cb .len (.cons (.b 1) .nil))) .nil)) .nil []))))
    .nil)
def fnOf (f : Nat) : Fn := ⟨[true, false], 2, bOf f⟩
theorem of_ok {P : Pg} {f g : Nat} (hf : P.fn f = some (fnOf g)) (hg : P.fn g = some fnTake) (t k : Nat) {u : PV} {xs : List PV} (hu : Urn (k + 1) u) (h1 : 0 < xs.length) (h2 : xs.length ≤ 1000) {p : PV} (hp : p = .lst xs ∨ p = .tup xs) : ∃ (x : PV) (u' : PV), x ∈ xs ∧ Urn k u' ∧ P.call (t + 2) f [u, p] = .ok x false [u'] := by
  have hio := io_eq hg
  obtain ⟨r, u', r0, r1, hu', hc⟩ := take_ok hg t k (n := xs.length) hu (by omega) (by omega)
  obtain ⟨n, rfl⟩ : ∃ n : Nat, r = n := ⟨r.toNat, by omega⟩
  have hn : n < xs.length := by omega
  refine ⟨xs[n], u', List.getElem_mem hn, hu', ?_⟩
  have gi : getI xs (n : Int) = some xs[n] := by rw [getI_nat, List.getElem?_eq_getElem hn]
  rw [call_eq hf (e := [some (u, .io), some (p, .fz)]) rfl]
  show fin [true, false] (dSL _ (bOf g) _) = _
  unfold bOf
  rcases hp with rfl | rfl <;> simp [hc, hio, fnTake, gi]
def bPickL (f : Nat) : SL := (.cons (.app 5 (.pop 4 (.cons (.v (.call f (.cons (.b 0) (.cons (.v (.cb .len (.cons (.b 4) .nil))) .nil)) .nil [])) .nil)))
    .nil)
def bPick (f : Nat) : SL := (.cons (.par [4, 5] (.cons (.t (.cb .lst (.cons (.b 1) .nil))) (.cons (.t (.lstD .nil)) .nil)))
    (.cons (.for (.nm 3) .range (.cons (.v (.cb .min (.cons (.b 2) (.cons (.v (.cb .len (.cons (.b 4) .nil))) .nil)))) .nil) (bPickL f))
    (.cons (.ret (.mv 5))
    .nil)))
def fnPick (f : Nat) : Fn := ⟨[true, false, false], 6, bPick f⟩
theorem erase_perm : ∀ (xs : List PV) (n : Nat) (h : n < xs.length), (xs[n] :: xs.eraseIdx n).Perm xs
  | x :: xs, 0, _ => List.Perm.refl _
  | x :: xs, n + 1, h => by
    have hn : n < xs.length := by simpa using h
    have := erase_perm xs n hn
    show (xs[n]'hn :: x :: xs.eraseIdx n).Perm (x :: xs)
    exact (List.Perm.swap _ _ _).trans (this.cons x)
theorem pick_ok {P : Pg} {f g : Nat} (hf : P.fn f = some (fnPick g)) (hg : P.fn g = some fnTake) (t k : Nat) {u : PV} {xs : List PV} {m : Nat} (hm : m ≤ xs.length) (hu : Urn (k + m) u) (h2 : xs.length ≤ 200) {p : PV} (hp : p = .lst xs ∨ p = .tup xs) {mm : Int} (hmm : min mm.toNat xs.length = m ∧ 0 ≤ mm) : ∃ (ys zs : List PV) (u' : PV), ys.length = m ∧ (ys ++ zs).Perm xs ∧ Urn k u' ∧ P.call (t + 2) f [u, p, .int mm] = .ok (.lst ys) true [u'] := by
  have hio := io_eq hg
  have e1 : (if (xs.length : Int) < mm then (xs.length : Int) else mm) = (m : Int) := by
    split <;> omega
  rw [call_eq hf (e := [some (u, .io), some (p, .fz), some (.int mm, .fz), none, none, none]) rfl]
  show ∃ (ys zs : List PV) (u' : PV), _ ∧ _ ∧ _ ∧ fin [true, false, false] (dSL _ (bPick g) _) = _
  unfold bPick
  have step : ∀ (n : Nat) (pr : List Nat) (a : Nat) (post : List Nat) (e : En), List.range m = pr ++ a :: post → (∃ (ys zs : List PV) (u : PV) (x : Sl), e = [some (u, .io), some (p, .fz), some (.int mm, .fz), x, some (.lst zs, .own), some (.lst ys, .own)] ∧ (x = none ∨ ∃ q, x = some (q, .fz)) ∧ ys.length = pr.length ∧ (ys ++ zs).Perm xs ∧ Urn (k + (m - pr.length)) u) →
      ∃ e', forStep (asgTg (.nm 3)) (dSL (P.cn (t + 1)) (bPickL g)) (.int a) e = .ok .nx e' ∧ ∃ (ys zs : List PV) (u : PV) (x : Sl), e' = [some (u, .io), some (p, .fz), some (.int mm, .fz), x, some (.lst zs, .own), some (.lst ys, .own)] ∧ (x = none ∨ ∃ q, x = some (q, .fz)) ∧ ys.length = (pr ++ [a]).length ∧ (ys ++ zs).Perm xs ∧ Urn (k + (m - (pr ++ [a]).length)) u := by
    rintro _ pr a post e hr ⟨ys, zs, u, x, rfl, hx, hy, hpm, hu⟩
    have hrl := congrArg List.length hr
    rw [List.length_range, List.length_append, List.length_cons] at hrl
    have hpl := hpm.length_eq
    rw [List.length_append] at hpl
    obtain ⟨r, u', r0, r1, hu', hc⟩ := take_ok hg t (k + (m - (pr.length + 1))) (n := zs.length) (hu.mono (by omega)) (by omega) (by omega)
    obtain ⟨n, rfl⟩ : ∃ n : Nat, r = n := ⟨r.toNat, by omega⟩
    have hn : n < zs.length := by omega
    refine ⟨[some (u', .io), some (p, .fz), some (.int mm, .fz), some (.int a, .fz), some (.lst (zs.eraseIdx n), .own), some (.lst (ys ++ [zs[n]]), .own)], ?_, ys ++ [zs[n]], zs.eraseIdx n, u', _, rfl, .inr ⟨_, rfl⟩, by simp [hy], ?_, by simpa using hu'⟩
    · unfold bPickL
      have z : ys.length ≤ 1000 := by omega
      have g1 : rgOk (n : Int) = true := rgOk_s (by omega) (by omega)
      have g2 : L2.ixN zs.length (n : Int) = some n := ixN_nat _ _ hn
      have g3 : zs[n]? = some zs[n] := List.getElem?_eq_getElem hn
      rcases hx with rfl | ⟨q, rfl⟩ <;> simp [hc, hio, fnTake, popR, popF, g1, g2, g3, z]
    · rw [List.append_assoc]
      exact ((erase_perm zs n hn).append_left ys).trans hpm
  obtain ⟨e', h1, ys, zs, u', x, rfl, hx, hy, hpm, hu'⟩ := for_pre (asg := asgTg (.nm 3)) (body := dSL (P.cn (t + 1)) (bPickL g)) (fun (n : Nat) => PV.int (n : Int)) (fun pr e => ∃ (ys zs : List PV) (u : PV) (x : Sl), e = [some (u, .io), some (p, .fz), some (.int mm, .fz), x, some (.lst zs, .own), some (.lst ys, .own)] ∧ (x = none ∨ ∃ q, x = some (q, .fz)) ∧ ys.length = pr.length ∧ (ys ++ zs).Perm xs ∧ Urn (k + (m - pr.length)) u) (List.range m) [some (u, .io), some (p, .fz), some (.int mm, .fz), none, some (.lst xs, .own), some (.lst [], .own)] ⟨[], xs, u, none, rfl, .inl rfl, rfl, List.Perm.refl _, hu⟩ (step 0)
  refine ⟨ys, zs, u', by simpa using hy, hpm, hu'.mono (by omega), ?_⟩
  have z1 : rgOk (m : Int) = true := rgOk_s (by omega) (by omega)
  have z2 : m ≤ 1000 := by omega
  rcases hp with rfl | rfl <;> simp [e1, z1, z2, h1]
/-! ### sorted rows -/
theorem perm_map_inv {α β : Type} (f : α → β) {l : List β} {m : List β} (h : l.Perm m) : ∀ xs : List α, m = xs.map f → ∃ ys : List α, ys.Perm xs ∧ l = ys.map f := by
  intro xs e
  subst e
  have key : ∀ {m l : List β}, m.Perm l → ∀ xs : List α, m = xs.map f → ∃ ys : List α, ys.Perm xs ∧ l = ys.map f := by
    intro m l h
    induction h with
    | nil => exact fun xs e => ⟨xs, List.Perm.refl _, e⟩
    | cons x _ ih =>
      intro xs e
      cases xs with
      | nil => cases e
      | cons y xs =>
        rw [List.map_cons] at e
        obtain ⟨e1, e2⟩ := List.cons.inj e
        obtain ⟨ys, p, e3⟩ := ih xs e2
        exact ⟨y :: ys, p.cons y, by rw [List.map_cons, ← e1, ← e3]⟩
    | swap x y l =>
      intro xs e
      match xs, e with
      | a :: b :: xs, e =>
        rw [List.map_cons, List.map_cons] at e
        obtain ⟨e1, e2⟩ := List.cons.inj e
        obtain ⟨e3, e4⟩ := List.cons.inj e2
        exact ⟨b :: a :: xs, List.Perm.swap _ _ _, by rw [List.map_cons, List.map_cons, ← e1, ← e3, ← e4]⟩
      | [], e => cases e
      | [a], e => cases e
    | trans _ _ ih1 ih2 =>
      intro xs e
      obtain ⟨ys, p1, e1⟩ := ih1 xs e
      obtain ⟨zs, p2, e2⟩ := ih2 ys e1
      exact ⟨zs, p2.trans p1, e2⟩
  exact key h.symm xs rfl
theorem sortable_prS (ws : List (List Nat × List Nat)) : sortable (ws.map prS) = true := by
  cases ws with
  | nil => rfl
  | cons w ws =>
    have h : ∀ x ∈ (w :: ws).map prS, isRow (rowOf ((w :: ws).map prS)) x = true := fun x m => by
      obtain ⟨r, _, rfl⟩ := List.mem_map.mp m
      rfl
    unfold sortable
    rw [List.all_eq_true.mpr h]
    simp [rowOf, prS, keysOf, keyOf]
theorem srt_prS (ws : List (List Nat × List Nat)) : ∃ vs : List (List Nat × List Nat), vs.Perm ws ∧ srtV (ws.map prS) = vs.map prS := by
  obtain ⟨vs, p, e⟩ := perm_map_inv prS (srtV_perm (ws.map prS)) ws rfl
  exact ⟨vs, p, e⟩
@[simp] theorem b_sorted (xs : List PV) : bF .sorted [.lst xs] = if sortable xs then some (.lst (srtV xs), true) else none := id rfl
theorem enumV_eq : ∀ (xs : List PV) (n : Nat), enumV n xs = (xs.zipIdx n).map fun q => PV.tup [.int q.2, q.1]
  | [], _ => rfl
  | x :: xs, n => by
    show PV.tup [.int n, x] :: enumV (n + 1) xs = _
    rw [enumV_eq xs (n + 1), List.zipIdx_cons, List.map_cons]
end Dk

set_option Elab.async false
set_option linter.all false
set_option autoImplicit false
set_option maxRecDepth 100000
set_option maxHeartbeats 4000000
/-! Dk31: drawn names, drawn trees (k00 to k15). -/
namespace Dk
open PySem PySem.Spec PyProof.Rows L2

/-! ### mixed -/
def bMixedL (f : Nat) : SL := (.cons (.app 4 (.pop 3 (.cons (.v (.call f (.cons (.b 0) (.cons (.v (.cb .len (.cons (.b 3) .nil))) .nil)) .nil [])) .nil)))
    .nil)
def bMixed (f : Nat) : SL := (.cons (.par [3, 4] (.cons (.t (.cb .lst (.cons (.b 1) .nil))) (.cons (.t (.lstD .nil)) .nil)))
    (.cons (.for (.nm 2) .range (.cons (.v (.cb .len (.cons (.b 1) .nil))) .nil) (bMixedL f))
    (.cons (.ret (.mv 4))
    .nil)))
def fnMixed (f : Nat) : Fn := ⟨[true, false], 5, bMixed f⟩
theorem mixed_ok {P : Pg} {f g : Nat} (hf : P.fn f = some (fnMixed g)) (hg : P.fn g = some fnTake) (t k : Nat) {u : PV} {xs : List PV} (hu : Urn (k + xs.length) u) (h2 : xs.length ≤ 200) : ∃ (ys : List PV) (u' : PV), ys.Perm xs ∧ Urn k u' ∧ P.call (t + 2) f [u, .lst xs] = .ok (.lst ys) true [u'] := by
  have hio := io_eq hg
  rw [call_eq hf (e := [some (u, .io), some (.lst xs, .fz), none, none, none]) rfl]
  show ∃ (ys : List PV) (u' : PV), _ ∧ _ ∧ fin [true, false] (dSL _ (bMixed g) _) = _
  unfold bMixed
  have step : ∀ (pr : List Nat) (a : Nat) (post : List Nat) (e : En), List.range xs.length = pr ++ a :: post → (∃ (ys zs : List PV) (u : PV) (x : Sl), e = [some (u, .io), some (.lst xs, .fz), x, some (.lst zs, .own), some (.lst ys, .own)] ∧ fzs x ∧ ys.length = pr.length ∧ (ys ++ zs).Perm xs ∧ Urn (k + (xs.length - pr.length)) u) →
      ∃ e', forStep (asgTg (.nm 2)) (dSL (P.cn (t + 1)) (bMixedL g)) (.int a) e = .ok .nx e' ∧ ∃ (ys zs : List PV) (u : PV) (x : Sl), e' = [some (u, .io), some (.lst xs, .fz), x, some (.lst zs, .own), some (.lst ys, .own)] ∧ fzs x ∧ ys.length = (pr ++ [a]).length ∧ (ys ++ zs).Perm xs ∧ Urn (k + (xs.length - (pr ++ [a]).length)) u := by
    rintro pr a post e hr ⟨ys, zs, u, x, rfl, hx, hy, hpm, hu⟩
    have hrl := congrArg List.length hr
    rw [List.length_range, List.length_append, List.length_cons] at hrl
    have hpl := hpm.length_eq
    rw [List.length_append] at hpl
    obtain ⟨r, u', r0, r1, hu', hc⟩ := take_ok hg t (k + (xs.length - (pr.length + 1))) (n := zs.length) (hu.mono (by omega)) (by omega) (by omega)
    obtain ⟨n, rfl⟩ : ∃ n : Nat, r = n := ⟨r.toNat, by omega⟩
    have hn : n < zs.length := by omega
    refine ⟨[some (u', .io), some (.lst xs, .fz), some (.int a, .fz), some (.lst (zs.eraseIdx n), .own), some (.lst (ys ++ [zs[n]]), .own)], ?_, ys ++ [zs[n]], zs.eraseIdx n, u', _, rfl, .inr ⟨_, rfl⟩, by simp [hy], ?_, by simpa using hu'⟩
    · unfold bMixedL
      have z : ys.length ≤ 1000 := by omega
      have g1 : rgOk (n : Int) = true := rgOk_s (by omega) (by omega)
      have g2 : L2.ixN zs.length (n : Int) = some n := ixN_nat _ _ hn
      have g3 : zs[n]? = some zs[n] := List.getElem?_eq_getElem hn
      rcases hx with rfl | ⟨q, rfl⟩ <;> simp [hc, hio, fnTake, popR, popF, g1, g2, g3, z]
    · rw [List.append_assoc]
      exact ((erase_perm zs n hn).append_left ys).trans hpm
  obtain ⟨e', h1, ys, zs, u', x, rfl, hx, hy, hpm, hu'⟩ := for_pre (asg := asgTg (.nm 2)) (body := dSL (P.cn (t + 1)) (bMixedL g)) (fun (n : Nat) => PV.int (n : Int)) (fun pr e => ∃ (ys zs : List PV) (u : PV) (x : Sl), e = [some (u, .io), some (.lst xs, .fz), x, some (.lst zs, .own), some (.lst ys, .own)] ∧ fzs x ∧ ys.length = pr.length ∧ (ys ++ zs).Perm xs ∧ Urn (k + (xs.length - pr.length)) u) (List.range xs.length) [some (u, .io), some (.lst xs, .fz), none, some (.lst xs, .own), some (.lst [], .own)] ⟨[], xs, u, none, rfl, .inl rfl, rfl, List.Perm.refl _, hu⟩ step
  have hz : zs = [] := by
    have hpl := hpm.length_eq
    rw [List.length_append] at hpl
    have : ys.length = xs.length := by simpa using hy
    exact List.eq_nil_of_length_eq_zero (by omega)
  subst hz
  rw [List.append_nil] at hpm
  refine ⟨ys, u', hpm, hu'.mono (by omega), ?_⟩
  have z1 : rgOk (xs.length : Int) = true := rgOk_s (by omega) (by omega)
  have z2 : xs.length ≤ 1000 := by omega
  simp [z1, z2, h1]

/-! ### names -/
def signs : List Nat := [97, 98, 99, 100, 101, 102, 103, 104, 105, 106, 107, 108, 109, 110, 111, 112, 113, 114, 115, 116, 117, 118, 119, 120, 121, 122]
def lett (c : Nat) : Prop := 97 ≤ c ∧ c ≤ 122
def Name (s : List Nat) : Prop := 1 ≤ s.length ∧ s.length ≤ 8 ∧ ∀ c ∈ s, lett c
def bTags (g h : Nat) : SL := (.cons (.asg 2 (.lit (.str [97, 98, 99, 100, 101, 102, 103, 104, 105, 106, 107, 108, 109, 110, 111, 112, 113, 114, 115, 116, 117, 118, 119, 120, 121, 122])))
    (.cons (.par [6, 7] (.cons (.v (.call g (.cons (.b 0) (.cons (.v (.lit (.int 26))) .nil)) .nil [])) (.cons (.v (.call h (.cons (.b 0) (.cons (.v (.lstD (.one (.lit (.int 1)) (.one (.lit (.int 3)) (.one (.lit (.int 7)) (.one (.lit (.int 11)) (.one (.lit (.int 25)) .nil))))))) .nil)) .nil [])) .nil)))
    (.cons (.asg 3 (.lc (.ix (.b 2) (.v (.bin .Mod (.v (.cb .int (.cons (.v (.bin .Add (.b 6) (.v (.bin .Mult (.b 7) (.b 8))))) .nil))) (.v (.lit (.int 26)))))) (.nm 8) .range (.cons (.v (.cb .max (.cons (.v (.lit (.int 8))) (.cons (.b 1) .nil)))) .nil) .none [8]))
    (.cons (.iff (.and (.cmp .Lt (.b 1) (.v (.lit (.int 9)))) (.cmp .Eq (.v (.call g (.cons (.b 0) (.cons (.v (.lit (.int 4))) .nil)) .nil [])) (.v (.lit (.int 0)))))
    (.cons (.ret (.cb .sorted (.cons (.v (.lc (.mt .join (.v (.lit (.str []))) (.cons (.v (.sl (.b 3) .none (.some (.bin .Add (.b 8) (.v (.lit (.int 1))))))) .nil)) (.nm 8) .range (.cons (.v (.var 1)) .nil) .none [8])) .nil)))
    .nil)
    .nil)
    (.cons (.asg 4 (.mt .join (.v (.lit (.str []))) (.cons (.v (.lc (.ix (.b 2) (.v (.call g (.cons (.b 0) (.cons (.v (.lit (.int 26))) .nil)) .nil []))) (.nm 9) .range (.cons (.v (.call h (.cons (.b 0) (.cons (.v (.lstD (.one (.lit (.int 0)) (.one (.lit (.int 0)) (.one (.lit (.int 1)) (.one (.lit (.int 5)) (.one (.lit (.int 7)) .nil))))))) .nil)) .nil [])) .nil) .none [9])) .nil)))
    (.cons (.asg 5 (.call g (.cons (.b 0) (.cons (.v (.bin .Add (.v (.cb .len (.cons (.b 4) .nil))) (.v (.lit (.int 1))))) .nil)) .nil []))
    (.cons (.ret (.cb .sorted (.cons (.v (.lc (.bin .Add (.v (.bin .Add (.v (.sl (.b 4) .none (.some (.var 5)))) (.v (.ix (.b 3) (.b 8))))) (.v (.sl (.b 4) (.some (.var 5)) .none))) (.nm 8) .range (.cons (.v (.var 1)) .nil) .none [8])) .nil)))
    .nil)))))))
def fnTags (g h : Nat) : Fn := ⟨[true, false], 10, bTags g h⟩
theorem strsOf_map : ∀ xs : List (List Nat), strsOf (xs.map .str) = some xs
  | [] => rfl
  | x :: xs => by
    show (strsOf (xs.map .str)).map (x :: ·) = _
    rw [strsOf_map xs]; rfl
theorem joinL_nil : ∀ xs : List (List Nat), TL.joinL [] xs = xs.flatten
  | [] => rfl
  | [x] => by simp [TL.joinL]
  | x :: y :: r => by
    show x ++ ([] ++ TL.joinL [] (y :: r)) = _
    rw [joinL_nil (y :: r)]
    rfl
theorem okB_lett {s : List Nat} (h : s.length ≤ 1000) (k : ∀ c ∈ s, lett c) : okB s = true := by
  unfold okB
  rw [szl_s h, Bool.true_and, List.all_eq_true]
  intro c m
  have := (k c m).2
  exact decide_eq_true (by omega)
/-- '' joins signs -/
theorem join_signs (cs : List Nat) (h : cs.length ≤ 1000) (k : ∀ c ∈ cs, lett c) : joinF [] (cs.map fun c => .str [c]) = some (.str cs, false) := by
  unfold joinF
  have e : (cs.map fun c => PV.str [c]) = (cs.map fun c => [c]).map .str := by rw [List.map_map]; rfl
  have f : (cs.map fun c => [c]).flatten = cs := by
    clear h k e
    induction cs with
    | nil => rfl
    | cons c cs ih => rw [List.map_cons, List.flatten_cons, ih]; rfl
  have l : ((cs.map fun c => [c]).map List.length).sum = cs.length := by
    clear h k e f
    induction cs with
    | nil => rfl
    | cons c cs ih => rw [List.map_cons, List.map_cons, List.sum_cons, ih, List.length_cons]; simp; omega
  rw [e, strsOf_map]
  dsimp only
  rw [l, joinL_nil, f, okB_lett h k, if_pos]
  simp
  omega
theorem sortable_strs (ss : List (List Nat)) : sortable (ss.map .str) = true := by
  have : (ss.map PV.str).all isStrV = true := List.all_eq_true.mpr fun x m => by
    obtain ⟨s, _, rfl⟩ := List.mem_map.mp m
    rfl
  unfold sortable
  rw [this]
  simp
theorem srt_strs (ss : List (List Nat)) : ∃ vs : List (List Nat), vs.Perm ss ∧ srtV (ss.map .str) = vs.map .str := by
  obtain ⟨vs, p, e⟩ := perm_map_inv PV.str (srtV_perm (ss.map .str)) ss rfl
  exact ⟨vs, p, e⟩
theorem signs_lett : ∀ c ∈ signs, lett c := by
  have : signs.all (fun c => decide (97 ≤ c) && decide (c ≤ 122)) = true := by decide
  intro c m
  have := List.all_eq_true.mp this c m
  simp at this
  exact this
/-- the k-th sign of a row -/
def rowC (f b k : Nat) : Nat := 97 + (f + b * k) % 26
theorem row_inj {f b j k : Nat} (hb : b = 1 ∨ b = 3 ∨ b = 7 ∨ b = 11 ∨ b = 25) (hj : j < 26) (hk : k < 26) (h : rowC f b j = rowC f b k) : j = k := by
  unfold rowC at h
  rcases hb with rfl | rfl | rfl | rfl | rfl <;> omega
theorem row_lett (f b k : Nat) : lett (rowC f b k) := by
  unfold rowC lett
  omega
theorem row_sign (f b k : Nat) : getI signs (((f : Int) + (b : Int) * (k : Int)).fmod 26) = some (rowC f b k) := by
  have e : ((f : Int) + (b : Int) * (k : Int)).fmod 26 = (((f + b * k) % 26 : Nat) : Int) := by
    rw [Int.fmod_eq_emod_of_nonneg _ (by omega)]
    simp
  rw [e, getI_nat]
  have l : (f + b * k) % 26 < 26 := Nat.mod_lt _ (by omega)
  unfold rowC
  generalize (f + b * k) % 26 = n at l
  have : ∀ n < 26, signs[n]? = some (97 + n) := by decide
  exact this n l
theorem tags_ok {P : Pg} {f g h : Nat} (hf : P.fn f = some (fnTags g h)) (hg : P.fn g = some fnTake) (hh : P.fn h = some (fnOf g)) (t k : Nat) {u : PV} {m : Nat} (hm : m ≤ 8) (hu : Urn (k + 12) u) : ∃ (ss : List (List Nat)) (u' : PV), ss.length = m ∧ ss.Nodup ∧ (∀ s ∈ ss, Name s) ∧ Urn k u' ∧ P.call (t + 3) f [u, .int m] = .ok (.lst (ss.map .str)) true [u'] := by
  have hio := io_eq hg
  have hio2 := io_eq hh
  rw [call_eq hf (e := [some (u, .io), some (.int m, .fz), none, none, none, none, none, none, none, none]) rfl]
  show ∃ (ss : List (List Nat)) (u' : PV), _ ∧ _ ∧ _ ∧ _ ∧ fin [true, false] (dSL _ (bTags g h) _) = _
  unfold bTags
  obtain ⟨r, u1, r0, r1, hu1, hc1⟩ := take_ok hg (t + 1) (k + 11) (n := 26) hu (by omega) (by omega)
  obtain ⟨fi, rfl⟩ : ∃ n : Nat, r = n := ⟨r.toNat, by omega⟩
  obtain ⟨x, u2, hx, hu2, hc2⟩ := of_ok hh hg t (k + 10) (u := u1) (xs := [.int 1, .int 3, .int 7, .int 11, .int 25]) hu1 (by simp) (by simp) (.inl rfl)
  obtain ⟨b, hb, rfl⟩ : ∃ b : Nat, (b = 1 ∨ b = 3 ∨ b = 7 ∨ b = 11 ∨ b = 25) ∧ x = .int b := by
    simp at hx
    rcases hx with rfl | rfl | rfl | rfl | rfl
    · exact ⟨1, by simp, rfl⟩
    · exact ⟨3, by simp, rfl⟩
    · exact ⟨7, by simp, rfl⟩
    · exact ⟨11, by simp, rfl⟩
    · exact ⟨25, by simp, rfl⟩
  have mo : ∀ k : Nat, mulOk (b : Int) (k : Int) = true := fun k => mulOkL (by omega) (by omega)
  have mx : ¬ (8 < (m : Int)) := by omega
  have m9 : (m : Int) < 9 := by omega
  have mz : rgOk (m : Int) = true := rgOk_s (by omega) (by omega)
  have mz2 : m ≤ 1000 := by omega
  have row : ∀ (env : En) (x8 : Sl), env = [some (u2, .io), some (.int m, .fz), some (.str signs, .fz), none, none, none, some (.int fi, .fz), some (.int b, .fz), none, none] → lcR (P.cn (t + 2)) (.ix (.b 2) (.v (.bin .Mod (.v (.cb .int (.cons (.v (.bin .Add (.b 6) (.v (.bin .Mult (.b 7) (.b 8))))) .nil))) (.v (.lit (.int 26)))))) (.nm 8) .none [8] ((List.range 8).map fun (k : Nat) => PV.int (k : Int)) env = .ok (.lst ((List.range 8).map fun k => .str [rowC fi b k]), true) env := by
    rintro env x8 rfl
    rw [lcR_map (fun (k : Nat) => PV.int (k : Int)) (fun k => .str [rowC fi b k]) rfl]
    · simp
    · intro k m
      simp [mo, row_sign]
  have row := row _ none rfl
  have sg : signs = [97, 98, 99, 100, 101, 102, 103, 104, 105, 106, 107, 108, 109, 110, 111, 112, 113, 114, 115, 116, 117, 118, 119, 120, 121, 122] := rfl
  rw [sg] at row
  obtain ⟨r4, u3, r40, r41, hu3, hc3⟩ := take_ok hg (t + 1) (k + 9) (u := u2) (n := 4) hu2 (by omega) (by omega)
  have fin1 : ∀ F : Nat → List Nat, (∀ i j, i < j → j < m → F i ≠ F j) → ∃ vs : List (List Nat), vs.length = m ∧ vs.Nodup ∧ (∀ s ∈ vs, ∃ k < m, s = F k) ∧ sortable ((List.range m).map fun k => PV.str (F k)) = true ∧ srtV ((List.range m).map fun k => PV.str (F k)) = vs.map .str := by
    intro F hF
    have e : (List.range m).map (fun k => PV.str (F k)) = ((List.range m).map F).map .str := by rw [List.map_map]; rfl
    obtain ⟨vs, p1, p2⟩ := srt_strs ((List.range m).map F)
    refine ⟨vs, by rw [p1.length_eq]; simp, p1.nodup_iff.mpr ?_, fun s hs => ?_, by rw [e]; exact sortable_strs _, by rw [e]; exact p2⟩
    · refine List.pairwise_map.mpr ?_
      refine List.Pairwise.imp_of_mem ?_ (List.pairwise_lt_range (n := m))
      intro i j hi hj hij
      exact hF i j hij (List.mem_range.mp hj)
    · obtain ⟨k, hk, rfl⟩ := List.mem_map.mp (p1.mem_iff.mp hs)
      exact ⟨k, List.mem_range.mp hk, rfl⟩
  by_cases h4 : r4 = 0
  · subst h4
    have rl : (List.range 8).map (fun k => PV.str [rowC fi b k]) = ((List.range 8).map (rowC fi b)).map fun c => PV.str [c] := by rw [List.map_map]; rfl
    obtain ⟨vs, v1, v2, v3, v4, v5⟩ := fin1 (fun k => ((List.range 8).map (rowC fi b)).take (k + 1)) (fun i j hij hj e => by
      have := congrArg List.length e
      simp at this
      omega)
    have pre : lcR (P.cn (t + 2)) (.mt .join (.v (.lit (.str []))) (.cons (.v (.sl (.b 3) .none (.some (.bin .Add (.b 8) (.v (.lit (.int 1))))))) .nil)) (.nm 8) .none [8] ((List.range m).map fun (k : Nat) => PV.int (k : Int)) [some (u3, .io), some (.int m, .fz), some (.str signs, .fz), some (.lst ((List.range 8).map fun k => .str [rowC fi b k]), .own), none, none, some (.int fi, .fz), some (.int b, .fz), none, none] = .ok (.lst ((List.range m).map fun k => PV.str (((List.range 8).map (rowC fi b)).take (k + 1))), true) [some (u3, .io), some (.int m, .fz), some (.str signs, .fz), some (.lst ((List.range 8).map fun k => .str [rowC fi b k]), .own), none, none, some (.int fi, .fz), some (.int b, .fz), none, none] := by
      rw [lcR_map (fun (k : Nat) => PV.int (k : Int)) (fun k => PV.str (((List.range 8).map (rowC fi b)).take (k + 1))) rfl]
      · simp
      · intro k hk
        have ck : cut ((List.range 8).map fun k => PV.str [rowC fi b k]) none (some ((k : Int) + 1)) = ((((List.range 8).map (rowC fi b)).take (k + 1)).map fun c => PV.str [c]) := by
          rw [cut_to _ (by omega), rl, List.map_take]
          congr 1
        have jk := join_signs (((List.range 8).map (rowC fi b)).take (k + 1)) (by simp; omega) (fun c hc => by
          obtain ⟨j, _, rfl⟩ := List.mem_map.mp (List.mem_of_mem_take hc)
          exact row_lett _ _ _)
        have jk2 : joinF [] (List.take (k + 1) (List.map ((fun c => PV.str [c]) ∘ rowC fi b) (List.range 8))) = some (PV.str (((List.range 8).map (rowC fi b)).take (k + 1)), false) := by
          rw [← List.map_map, ← List.map_take]
          exact jk
        simp [ck, jk2]
    rw [sg] at pre
    refine ⟨vs, u3, v1, v2, fun s hs => ?_, hu3.mono (by omega), ?_⟩
    · obtain ⟨k, hk, rfl⟩ := v3 s hs
      refine ⟨by simp; omega, by simp; omega, fun c hc => ?_⟩
      obtain ⟨j, _, rfl⟩ := List.mem_map.mp (List.mem_of_mem_take hc)
      exact row_lett _ _ _
    · simp [hc1, hio, fnTake, hc2, hio2, fnOf, mx, row, m9, hc3, mz, mz2, pre, v4, v5]
  · obtain ⟨x, u4, hx, hu4, hc4⟩ := of_ok hh hg t (k + 8) (u := u3) (xs := [.int 0, .int 0, .int 1, .int 5, .int 7]) hu3 (by simp) (by simp) (.inl rfl)
    obtain ⟨n, hn, rfl⟩ : ∃ n : Nat, n ≤ 7 ∧ x = .int n := by
      simp at hx
      rcases hx with rfl | rfl | rfl | rfl
      · exact ⟨0, by omega, rfl⟩
      · exact ⟨1, by omega, rfl⟩
      · exact ⟨5, by omega, rfl⟩
      · exact ⟨7, by omega, rfl⟩
    -- the stem
    obtain ⟨ps, e', g1, ⟨u5, rfl, hu5⟩, g2, g3⟩ := lcR_drawM (C := P.cn (t + 2)) (elt := .ix (.b 2) (.v (.call g (.cons (.b 0) (.cons (.v (.lit (.int 26))) .nil)) .nil []))) (tg := .nm 9) (ifs := .none) (own := [9]) (fun (k : Nat) => PV.int (k : Int)) (fun j e => ∃ u, e = [some (u, .io), some (.int m, .fz), some (.str signs, .fz), some (.lst ((List.range 8).map fun k => .str [rowC fi b k]), .own), none, none, some (.int fi, .fz), some (.int b, .fz), none, none] ∧ Urn (j + (k + 1)) u) (fun _ p => ∃ c, lett c ∧ p = .str [c]) (List.range n) [some (u4, .io), some (.int m, .fz), some (.str signs, .fz), some (.lst ((List.range 8).map fun k => .str [rowC fi b k]), .own), none, none, some (.int fi, .fz), some (.int b, .fz), none, none] ⟨u4, rfl, hu4.mono (by simp; omega)⟩ (by
      rintro a _ j e ⟨u, rfl, hu⟩
      obtain ⟨r, u', r0, r1, hu', hc⟩ := take_ok hg (t + 1) (j + (k + 1)) (u := u) (n := 26) (hu.mono (by omega)) (by omega) (by omega)
      obtain ⟨q, rfl⟩ : ∃ n : Nat, r = n := ⟨r.toNat, by omega⟩
      have hq : q < 26 := by omega
      have gs : getI signs (q : Int) = some (97 + q) := by
        rw [getI_nat]
        have : ∀ n < 26, signs[n]? = some (97 + n) := by decide
        exact this q hq
      refine ⟨.str [97 + q], _, ?_, ⟨u', rfl, hu'⟩, 97 + q, ⟨by omega, by omega⟩, rfl⟩
      simp [hc, hio, fnTake, gs])
    rw [List.length_range] at g2
    obtain ⟨st, rfl, hst⟩ : ∃ st : List Nat, ps = st.map (fun c => PV.str [c]) ∧ ∀ c ∈ st, lett c := by
      clear g1
      have : ∀ (ps : List PV), (∀ p ∈ ps, ∃ c, lett c ∧ p = .str [c]) → ∃ st : List Nat, ps = st.map (fun c => PV.str [c]) ∧ ∀ c ∈ st, lett c := by
        intro ps
        induction ps with
        | nil => exact fun _ => ⟨[], rfl, fun c m => by cases m⟩
        | cons p ps ih =>
          intro h
          obtain ⟨st, e, hs⟩ := ih fun q m => h q (List.mem_cons_of_mem _ m)
          obtain ⟨c, hc, rfl⟩ := h p List.mem_cons_self
          refine ⟨c :: st, by rw [e]; rfl, fun d m => ?_⟩
          rcases List.mem_cons.mp m with rfl | m
          · exact hc
          · exact hs d m
      refine this ps fun p hp => ?_
      obtain ⟨i, hi⟩ := List.mem_iff_getElem?.mp hp
      have hl : i < n := by
        have := (List.getElem?_eq_some_iff.mp hi).1
        omega
      exact g3 i i p (by simp [hl]) hi
    rw [List.length_map] at g2
    have jst := join_signs st (by omega) hst
    obtain ⟨r6, u6, r60, r61, hu6, hc6⟩ := take_ok hg (t + 1) k (u := u5) (n := st.length + 1) (hu5.mono (by omega)) (by omega) (by omega)
    obtain ⟨at', rfl⟩ : ∃ n : Nat, r6 = n := ⟨r6.toNat, by omega⟩
    have hat : at' ≤ st.length := by omega
    obtain ⟨vs, v1, v2, v3, v4, v5⟩ := fin1 (fun k => st.take at' ++ rowC fi b k :: st.drop at') (fun i j hij hj e => by
      have e := List.append_cancel_left e
      have := row_inj hb (by omega) (by omega) (List.cons.inj e).1
      omega)
    have ni : ∀ j < m, getI ((List.range 8).map fun k => PV.str [rowC fi b k]) (j : Int) = some (.str [rowC fi b j]) := fun j hj => by
      rw [getI_nat, List.getElem?_map, List.getElem?_range (by omega)]
      rfl
    have fl : lcR (P.cn (t + 2)) (.bin .Add (.v (.bin .Add (.v (.sl (.b 4) .none (.some (.var 5)))) (.v (.ix (.b 3) (.b 8))))) (.v (.sl (.b 4) (.some (.var 5)) .none))) (.nm 8) .none [8] ((List.range m).map fun (k : Nat) => PV.int (k : Int)) [some (u6, .io), some (.int m, .fz), some (.str signs, .fz), some (.lst ((List.range 8).map fun k => .str [rowC fi b k]), .own), some (.str st, .fz), some (.int at', .fz), some (.int fi, .fz), some (.int b, .fz), none, none] = .ok (.lst ((List.range m).map fun k => PV.str (st.take at' ++ rowC fi b k :: st.drop at')), true) [some (u6, .io), some (.int m, .fz), some (.str signs, .fz), some (.lst ((List.range 8).map fun k => .str [rowC fi b k]), .own), some (.str st, .fz), some (.int at', .fz), some (.int fi, .fz), some (.int b, .fz), none, none] := by
      rw [lcR_map (fun (k : Nat) => PV.int (k : Int)) (fun k => PV.str (st.take at' ++ rowC fi b k :: st.drop at')) rfl]
      · simp
      · intro j hj
        have z1 : szl (min at' st.length + 1) = true := szl_s (by omega)
        have z2 : szl (min at' st.length + 1 + (st.length - at')) = true := szl_s (by omega)
        simp [ni j (List.mem_range.mp hj), z1, z2]
    rw [sg] at g1 fl
    have g1' := g1
    simp at g1'
    refine ⟨vs, u6, v1, v2, fun s hs => ?_, hu6, ?_⟩
    · obtain ⟨j, hj, rfl⟩ := v3 s hs
      refine ⟨by simp only [List.length_append, List.length_cons]; omega, by simp; omega, fun c hc => ?_⟩
      rcases List.mem_append.mp hc with hc | hc
      · exact hst c (List.mem_of_mem_take hc)
      · rcases List.mem_cons.mp hc with rfl | hc
        · exact row_lett _ _ _
        · exact hst c (List.mem_of_mem_drop hc)
    · have n1 : rgOk (n : Int) = true := rgOk_s (by omega) (by omega)
      have n2 : n ≤ 1000 := by omega
      simp [hc1, hio, fnTake, hc2, hio2, fnOf, mx, row, m9, hc3, h4, hc4, n1, n2, g1', jst, hc6, mz, mz2, fl, v4, v5]

/-! ### names in a drawn order, a drawn tree -/
def bNames (g h : Nat) : SL := (.cons (.ret (.call g (.cons (.b 0) (.cons (.v (.call h (.cons (.b 0) (.cons (.v (.var 1)) .nil)) .nil [])) .nil)) .nil []))
    .nil)
def fnNames (g h : Nat) : Fn := ⟨[true, false], 2, bNames g h⟩
/-- the numbers of the defs that draw -/
structure DrawFns (P : Pg) (fT fO fM fG fN : Nat) : Prop where
  take : P.fn fT = some fnTake
  of : P.fn fO = some (fnOf fT)
  mixed : P.fn fM = some (fnMixed fT)
  tags : P.fn fG = some (fnTags fT fO)
  names : P.fn fN = some (fnNames fM fG)
theorem names_ok {P : Pg} {fT fO fM fG fN : Nat} (D : DrawFns P fT fO fM fG fN) (t k : Nat) {u : PV} {m : Nat} (hm : m ≤ 8) (hu : Urn (k + m + 12) u) : ∃ (ss : List (List Nat)) (u' : PV), ss.length = m ∧ ss.Nodup ∧ (∀ s ∈ ss, Name s) ∧ Urn k u' ∧ P.call (t + 4) fN [u, .int m] = .ok (.lst (ss.map .str)) true [u'] := by
  have i1 := io_eq D.mixed
  have i2 := io_eq D.tags
  obtain ⟨ss, u1, h1, h2, h3, hu1, hc1⟩ := tags_ok D.tags D.take D.of t (k + m) hm hu
  obtain ⟨ys, u2, p, hu2, hc2⟩ := mixed_ok D.mixed D.take (t + 1) k (u := u1) (xs := ss.map .str) (hu1.mono (by simp; omega)) (by simp; omega)
  obtain ⟨vs, q, rfl⟩ := perm_map_inv PV.str p ss rfl
  refine ⟨vs, u2, by rw [q.length_eq]; exact h1, q.nodup_iff.mpr h2, fun s hs => h3 s (q.mem_iff.mp hs), hu2, ?_⟩
  rw [call_eq D.names (e := [some (u, .io), some (.int m, .fz)]) rfl]
  show fin [true, false] (dSL _ (bNames fM fG) _) = _
  unfold bNames
  simp [hc1, hc2, i1, i2, fnMixed, fnTags]
def bTreeL (h : Nat) : SL := (.cons (.app 3 (.tupD (.one (.var 5) (.one (.call h (.cons (.b 0) (.cons (.v (.bin .Add (.v (.bin .Add (.v (.lstD (.one (.lit (.str [])) .nil))) (.v (.sl (.b 2) .none (.some (.var 4)))))) (.v (.sl (.b 2) (.some (.cb .max (.cons (.v (.lit (.int 0))) (.cons (.v (.bin .Sub (.b 4) (.v (.lit (.int 1))))) .nil)))) (.some (.var 4)))))) .nil)) .nil []) .nil))))
    .nil)
def bTree (g h : Nat) : SL := (.cons (.par [2, 3] (.cons (.v (.call g (.cons (.b 0) (.cons (.v (.var 1)) .nil)) .nil [])) (.cons (.t (.lstD .nil)) .nil)))
    (.cons (.for (.tp [4, 5]) .enum (.cons (.v (.var 2)) .nil) (bTreeL h))
    (.cons (.ret (.cb .tup (.cons (.v (.cb .sorted (.cons (.b 3) .nil))) .nil)))
    .nil)))
def fnTree (g h : Nat) : Fn := ⟨[true, false], 6, bTree g h⟩
/-- each hangs on the source or on one ahead of it -/
def Hung (qs : List (List Nat × List Nat)) : Prop := ∀ (k : Nat) (w : List Nat × List Nat), qs[k]? = some w → w.2 = [] ∨ w.2 ∈ (qs.take k).map (·.1)
/-- a drawn tree -/
structure Drawn (m : Nat) (ws : List (List Nat × List Nat)) : Prop where
  len : ws.length = m
  name : ∀ w ∈ ws, Name w.1
  nodup : (ws.map (·.1)).Nodup
  rise : ws.Pairwise fun a b => strLt a.1 b.1 = true
  hung : ∃ qs, qs.Perm ws ∧ Hung qs
theorem tree_ok {P : Pg} {fT fO fM fG fN fR : Nat} (D : DrawFns P fT fO fM fG fN) (hR : P.fn fR = some (fnTree fN fO)) (t k : Nat) {u : PV} {m : Nat} (hm : m ≤ 8) (hu : Urn (k + m + m + 12) u) : ∃ (ws : List (List Nat × List Nat)) (u' : PV), Drawn m ws ∧ Urn k u' ∧ P.call (t + 5) fR [u, .int m] = .ok (.tup (ws.map prS)) false [u'] := by
  have i1 := io_eq D.names
  have i2 := io_eq D.of
  obtain ⟨nms, u1, hn1, hn2, hn3, hu1, hc1⟩ := names_ok D t (k + m) hm hu
  rw [call_eq hR (e := [some (u, .io), some (.int m, .fz), none, none, none, none]) rfl]
  show ∃ (ws : List (List Nat × List Nat)) (u' : PV), _ ∧ _ ∧ fin [true, false] (dSL _ (bTree fN fO) _) = _
  unfold bTree
  have step : ∀ (pre : List (List Nat × Nat)) (a : List Nat × Nat) (post : List (List Nat × Nat)) (e : En), nms.zipIdx = pre ++ a :: post → (∃ (ws : List (List Nat × List Nat)) (u : PV) (x4 x5 : Sl), e = [some (u, .io), some (.int m, .fz), some (.lst (nms.map .str), .fz), some (.lst (ws.map prS), .own), x4, x5] ∧ fzs x4 ∧ fzs x5 ∧ ws.map (·.1) = pre.map (·.1) ∧ Hung ws ∧ Urn (k + (m - pre.length)) u) →
      ∃ e', forStep (asgTg (.tp [4, 5])) (dSL (P.cn (t + 4)) (bTreeL fO)) (.tup [.int a.2, .str a.1]) e = .ok .nx e' ∧ ∃ (ws : List (List Nat × List Nat)) (u : PV) (x4 x5 : Sl), e' = [some (u, .io), some (.int m, .fz), some (.lst (nms.map .str), .fz), some (.lst (ws.map prS), .own), x4, x5] ∧ fzs x4 ∧ fzs x5 ∧ ws.map (·.1) = (pre ++ [a]).map (·.1) ∧ Hung ws ∧ Urn (k + (m - (pre ++ [a]).length)) u := by
    rintro pre a post e he ⟨ws, u, x4, x5, rfl, h4, h5, hw, hh, hu⟩
    have hl := congrArg List.length he
    rw [List.length_zipIdx, List.length_append, List.length_cons] at hl
    have hwl := congrArg List.length hw
    rw [List.length_map, List.length_map] at hwl
    have ha : a.2 = pre.length ∧ pre.map (·.1) = nms.take pre.length := by
      have e1 : nms.zipIdx[pre.length]? = some a := by rw [he]; simp
      rw [List.getElem?_zipIdx] at e1
      obtain ⟨z, e2, e3⟩ := Option.map_eq_some_iff.mp e1
      refine ⟨by rw [← e3]; simp, ?_⟩
      have := congrArg (fun l => (l.take pre.length).map (·.1)) he
      simp only [List.take_left'] at this
      rw [List.map_take] at this
      have z := List.zipIdx_map_fst 0 nms
      have z : nms.zipIdx.map (·.1) = nms := by simpa using z
      rw [z] at this
      exact this.symm
    have mxe : (if 1 < (a.2 : Int) then (a.2 : Int) - 1 else 0) = ((a.2 - 1 : Nat) : Int) := by split <;> omega
    obtain ⟨x, u', hx, hu', hc⟩ := of_ok D.of D.take (t + 2) (k + (m - (pre.length + 1))) (u := u) (xs := .str [] :: ((nms.map PV.str).take a.2 ++ ((nms.map PV.str).take a.2).drop (a.2 - 1))) (hu.mono (by omega)) (by simp) (by simp; omega) (.inl rfl)
    obtain ⟨s, rfl, hs⟩ : ∃ s, x = .str s ∧ (s = [] ∨ s ∈ ws.map (·.1)) := by
      rcases List.mem_cons.mp hx with e | hx
      · exact ⟨_, e, .inl rfl⟩
      · have : x ∈ (nms.map PV.str).take a.2 := by
          rcases List.mem_append.mp hx with hx | hx
          · exact hx
          · exact List.mem_of_mem_drop hx
        rw [← List.map_take] at this
        obtain ⟨s, hs, e⟩ := List.mem_map.mp this
        exact ⟨s, e.symm, .inr (by rw [hw, ha.2, ← ha.1]; exact hs)⟩
    refine ⟨[some (u', .io), some (.int m, .fz), some (.lst (nms.map .str), .fz), some (.lst ((ws ++ [(a.1, s)]).map prS), .own), some (.int a.2, .fz), some (.str a.1, .fz)], ?_, ws ++ [(a.1, s)], u', _, _, rfl, .inr ⟨_, rfl⟩, .inr ⟨_, rfl⟩, by simp [hw], ?_, by simpa using hu'⟩
    · have eb : ∀ b, forStep (asgTg (.tp [4, 5])) (dSL (P.cn (t + 4)) b) (.tup [.int a.2, .str a.1]) [some (u, .io), some (.int m, .fz), some (.lst (nms.map .str), .fz), some (.lst (ws.map prS), .own), x4, x5] = dSL (P.cn (t + 4)) b [some (u, .io), some (.int m, .fz), some (.lst (nms.map .str), .fz), some (.lst (ws.map prS), .own), some (.int a.2, .fz), some (.str a.1, .fz)] := fun b => by
        rcases h4 with rfl | ⟨_, rfl⟩ <;> rcases h5 with rfl | ⟨_, rfl⟩ <;> simp
      rw [eb]
      unfold bTreeL
      have z0 : ws.length ≤ 1000 := by omega
      have z2 : szl (1 + min a.2 nms.length) = true := szl_s (by omega)
      have z1 : szl (min a.2 nms.length + 1) = true := szl_s (by omega)
      have z3 : szl (min a.2 nms.length + 1 + (min a.2 nms.length - (a.2 - 1))) = true := szl_s (by omega)
      have cm : ∀ i : Int, i = ((a.2 - 1 : Nat) : Int) → cut (nms.map PV.str) (some i) (some (a.2 : Int)) = ((nms.map PV.str).take a.2).drop (a.2 - 1) := fun i hi => by
        subst hi
        rw [cut_mid _ (by omega) (by omega)]
        simp
      have cm := cm _ mxe
      simp [z0, z1, z2, z3, cm, hc, i2, fnOf, prS]
    · intro j w hj
      rw [List.getElem?_append] at hj
      split at hj
      · rename_i hjl
        rw [List.take_append_of_le_length (by omega)]
        exact hh j w hj
      · rename_i hjl
        have e0 : j = ws.length := by
          have := (List.getElem?_eq_some_iff.mp hj).1
          simp at this
          omega
        subst e0
        simp at hj
        subst hj
        rw [List.take_append_of_le_length (Nat.le_refl _), List.take_length]
        exact hs
  have hen : enumV 0 (nms.map PV.str) = nms.zipIdx.map fun (q : List Nat × Nat) => PV.tup [.int q.2, .str q.1] := by
    rw [enumV_eq, List.zipIdx_map, List.map_map]
    rfl
  obtain ⟨e', g1, ws, u2, x4, x5, rfl, h4, h5, hw, hh, hu2⟩ := for_pre (asg := asgTg (.tp [4, 5])) (body := dSL (P.cn (t + 4)) (bTreeL fO)) (fun (q : List Nat × Nat) => PV.tup [.int q.2, .str q.1]) _ nms.zipIdx [some (u1, .io), some (.int m, .fz), some (.lst (nms.map .str), .fz), some (.lst [], .own), none, none] ⟨[], u1, none, none, rfl, .inl rfl, .inl rfl, rfl, (fun k w e => by simp at e), hu1⟩ step
  have hw1 : ws.map (·.1) = nms := by
    rw [hw]
    have := List.zipIdx_map_fst 0 nms
    simpa using this
  have hwl := congrArg List.length hw1
  rw [List.length_map] at hwl
  obtain ⟨vs, p1, p2⟩ := srt_prS ws
  have nd : (vs.map (·.1)).Nodup := by
    have := (p1.map (·.1)).nodup_iff.mpr (by rw [hw1]; exact hn2)
    exact this
  refine ⟨vs, u2, ⟨by rw [p1.length_eq]; omega, fun w mw => ?_, nd, ?_, ws, p1.symm, hh⟩, hu2.mono (by omega), ?_⟩
  · have : w ∈ ws := p1.mem_iff.mp mw
    exact hn3 _ (by rw [← hw1]; exact List.mem_map_of_mem this)
  · have s1 := srtV_srt (ws.map prS)
    rw [p2] at s1
    have s1 := List.pairwise_map.mp s1
    have s2 : vs.Pairwise fun a b => a.1 ≠ b.1 := List.pairwise_map.mp nd
    refine (s1.and s2).imp fun {a b} h => ?_
    have h1 : (if (Sum.inr b.1 : Ky) = Sum.inr a.1 then lexKy [.inr b.2] [.inr a.2] else strLt b.1 a.1) = false := h.1
    rw [if_neg fun z => h.2 (Sum.inr.inj z).symm] at h1
    cases h2 : strLt a.1 b.1 with
    | true => rfl
    | false => exact absurd (strLt_tri h2 h1) h.2
  · simp [hc1, i1, fnNames, hen, g1, sortable_prS, p2]
end Dk

set_option Elab.async false
set_option linter.all false
set_option autoImplicit false
set_option maxRecDepth 100000
set_option maxHeartbeats 4000000
namespace Dk.k06
open PySem PySem.Spec PyProof.Rows L2 Dk

/-- tupled -/
def b0 : SL := (.cons (.ret (.ite (.pl (.v (.isi (.b 0) [.lst, .tup]))) (.cb .tup (.cons (.v (.lc (.call 0 (.cons (.v (.var 1)) .nil) .nil []) (.nm 1) .seq (.cons (.v (.var 0)) .nil) .none [1])) .nil)) (.var 0)))
    .nil)
def d0 : Df := ⟨"tupled", ["value"], ["value", "part"], [false], b0, [(1, [], [])]⟩
/-- houses -/
def b1 : SL := (.cons (.ret (.cb .tup (.cons (.v (.lc (.var 1) (.tp [1, 2]) .seq (.cons (.v (.call 0 (.cons (.v (.var 0)) .nil) .nil [])) .nil) .none [1, 2])) .nil)))
    .nil)
def d1 : Df := ⟨"houses", ["tree"], ["tree", "house", "head"], [false], b1, [(1, [], [])]⟩
/-- is_run -/
def b2 : SL := (.cons (.asg 2 (.tupD (.one (.con 0) (.star (.v (.call 1 (.cons (.v (.var 0)) .nil) .nil [])) .nil))))
    (.cons (.ret (.andE (.isi (.b 1) [.tup]) (.cb .all (.cons (.v (.lc (.andE (.isi (.b 3) [.str]) (.cmp .In (.b 3) (.b 2))) (.nm 3) .seq (.cons (.v (.var 1)) .nil) .none [3])) .nil))))
    .nil))
def d2 : Df := ⟨"is_run", ["tree", "thing"], ["tree", "thing", "known", "deed"], [false, false], b2, [(0, ["thing", "tree"], [.a 1, .a 0]), (2, [], [])]⟩
/-- _law_box -/
def b3 : SL := (.cons (.asg 2 (.ite (.cmp .Lt (.b 1) (.v (.cb .len (.cons (.b 0) .nil)))) (.ix (.b 0) (.b 1)) (.lit (.int 0))))
    (.cons (.ret (.lstD (.one (.bin .Mult (.v (.cb .abs (.cons (.b 2) .nil))) (.v (.cb .int (.cons (.v (.cmp .GtE (.v (.cb .abs (.cons (.b 2) .nil))) (.v (.bin .Pow (.v (.lit (.int 10))) (.v (.lit (.int 18))))))) .nil)))) (.one (.bin .Add (.v (.bin .Add (.v (.bin .Mod (.v (.cb .int (.cons (.b 2) .nil))) (.v (.lit (.int 2305843009213693951))))) (.v (.bin .Mult (.v (.lit (.int 39373))) (.b 1))))) (.v (.lit (.int 1053206)))) (.one (.lit (.int 0)) .nil)))))
    .nil))
def d3 : Df := ⟨"_law_box", ["_law_script", "_law_k"], ["_law_script", "_law_k", "_law_cell"], [false, false], b3, [(2, [], [])]⟩
/-- _law_take -/
def b4 : SL := (.cons (.iff (.cmp .Gt (.v (.ix (.b 0) (.v (.lit (.int 0))))) (.v (.lit (.int 0))))
    (.cons (.asg 5 (.bin .Mod (.v (.cb .int (.cons (.v (.ix (.b 0) (.v (.lit (.int 0))))) .nil))) (.b 1)))
    (.cons (.put 0 (.v (.lit (.int 0))) (.bin .FloorDiv (.v (.ix (.b 0) (.v (.lit (.int 0))))) (.b 1)))
    (.cons (.ret (.mv 5))
    .nil)))
    .nil)
    (.cons (.put 0 (.v (.lit (.int 2))) (.bin .Add (.v (.ix (.b 0) (.v (.lit (.int 2))))) (.v (.lit (.int 1)))))
    (.cons (.asg 2 (.bin .Mod (.v (.cb .int (.cons (.v (.bin .Mult (.v (.bin .Add (.v (.ix (.b 0) (.v (.lit (.int 1))))) (.v (.bin .Mult (.v (.lit (.int 48271))) (.v (.ix (.b 0) (.v (.lit (.int 2))))))))) (.v (.bin .Add (.v (.lit (.int 39373))) (.v (.ix (.b 0) (.v (.lit (.int 2))))))))) .nil))) (.v (.lit (.int 2147483647)))))
    (.cons (.asg 3 (.bin .Add (.v (.bin .Mod (.v (.cb .int (.cons (.b 2) .nil))) (.v (.lit (.int 40009))))) (.v (.lit (.int 7)))))
    (.cons (.asg 4 (.bin .Mod (.v (.cb .int (.cons (.v (.bin .Mult (.v (.bin .Add (.v (.bin .Add (.b 2) (.v (.ix (.b 0) (.v (.lit (.int 2))))))) (.v (.bin .FloorDiv (.v (.ix (.b 0) (.v (.lit (.int 1))))) (.v (.lit (.int 1000003))))))) (.b 3))) .nil))) (.v (.lit (.int 2147483629)))))
    (.cons (.ret (.bin .Mod (.v (.cb .int (.cons (.v (.bin .FloorDiv (.v (.bin .Mod (.v (.cb .int (.cons (.v (.bin .Add (.v (.bin .Mult (.b 4) (.v (.lit (.int 48271))))) (.b 2))) .nil))) (.v (.lit (.int 2147483587))))) (.v (.lit (.int 64))))) .nil))) (.b 1)))
    .nil))))))
def d4 : Df := ⟨"_law_take", ["_law_urn", "_law_low_so"], ["_law_urn", "_law_low_so", "_law_once", "_law_far", "_law_twice", "_law_drawn"], [true, false], b4, [(2, [], [])]⟩
/-- _law_of -/
def b5 : SL := (.cons (.ret (.ix (.b 1) (.v (.call 4 (.cons (.b 0) (.cons (.v (.cb .len (.cons (.b 1) .nil))) .nil)) .nil []))))
    .nil)
def d5 : Df := ⟨"_law_of", ["_law_urn", "_law_some_so"], ["_law_urn", "_law_some_so"], [true, false], b5, [(2, [], [])]⟩
/-- _law_same -/
def b6 : SL := (.cons (.iff (.pl (.v (.isi (.b 1) [.lst, .tup])))
    (.cons (.iff (.or (.cmp .NotEq (.v (.isi (.b 0) [.lst])) (.v (.isi (.b 1) [.lst]))) (.cmp .NotEq (.v (.isi (.b 0) [.tup])) (.v (.isi (.b 1) [.tup]))))
    (.cons (.ret (.lit (.bl false)))
    .nil)
    .nil)
    (.cons (.ret (.andE (.cmp .Eq (.v (.cb .len (.cons (.b 0) .nil))) (.v (.cb .len (.cons (.b 1) .nil)))) (.cb .all (.cons (.v (.lc (.call 6 (.cons (.v (.var 2)) (.cons (.v (.var 3)) .nil)) .nil []) (.tp [2, 3]) .zip (.cons (.v (.var 0)) (.cons (.v (.var 1)) .nil)) .none [2, 3])) .nil))))
    .nil))
    .nil)
    (.cons (.iff (.or (.cmp .Is (.b 1) (.v (.lit .non))) (.pl (.v (.isi (.b 1) [.bool, .str]))))
    (.cons (.ret (.andE (.cmp .Eq (.b 0) (.b 1)) (.andE (.cmp .Eq (.v (.isi (.b 0) [.bool])) (.v (.isi (.b 1) [.bool]))) (.cmp .Eq (.v (.cmp .Is (.b 0) (.v (.lit .non)))) (.v (.cmp .Is (.b 1) (.v (.lit .non))))))))
    .nil)
    .nil)
    (.cons (.ret (.andE (.isi (.b 0) [.int]) (.andE (.notE (.v (.isi (.b 0) [.bool]))) (.cmp .Eq (.b 0) (.b 1)))))
    .nil)))
def d6 : Df := ⟨"_law_same", ["_law_got", "_law_goal"], ["_law_got", "_law_goal", "_law_mine_so", "_law_own"], [false, false], b6, [(2, [], [])]⟩
/-- _law_lists -/
def b7 : SL := (.cons (.ret (.ite (.pl (.v (.isi (.b 0) [.lst, .tup]))) (.lc (.call 7 (.cons (.v (.var 1)) .nil) .nil []) (.nm 1) .seq (.cons (.v (.var 0)) .nil) .none [1]) (.var 0)))
    .nil)
def d7 : Df := ⟨"_law_lists", ["_law_thing_so"], ["_law_thing_so", "_law_bit"], [false], b7, [(1, [], [])]⟩
/-- _law_mixed -/
def b8l0 : SL := (.cons (.app 4 (.pop 3 (.cons (.v (.call 4 (.cons (.b 0) (.cons (.v (.cb .len (.cons (.b 3) .nil))) .nil)) .nil [])) .nil)))
    .nil)
def b8 : SL := (.cons (.par [3, 4] (.cons (.t (.cb .lst (.cons (.b 1) .nil))) (.cons (.t (.lstD .nil)) .nil)))
    (.cons (.for (.nm 2) .range (.cons (.v (.cb .len (.cons (.b 1) .nil))) .nil) b8l0)
    (.cons (.ret (.mv 4))
    .nil)))
def d8 : Df := ⟨"_law_mixed", ["_law_urn", "_law_pool"], ["_law_urn", "_law_pool", "_law_turn", "_law_rest_so", "_law_found"], [true, false], b8, [(2, [], [])]⟩
/-- _law_tags -/
def b9 : SL := (.cons (.asg 2 (.lit (.str [97, 98, 99, 100, 101, 102, 103, 104, 105, 106, 107, 108, 109, 110, 111, 112, 113, 114, 115, 116, 117, 118, 119, 120, 121, 122])))
    (.cons (.par [6, 7] (.cons (.v (.call 4 (.cons (.b 0) (.cons (.v (.lit (.int 26))) .nil)) .nil [])) (.cons (.v (.call 5 (.cons (.b 0) (.cons (.v (.lstD (.one (.lit (.int 1)) (.one (.lit (.int 3)) (.one (.lit (.int 7)) (.one (.lit (.int 11)) (.one (.lit (.int 25)) .nil))))))) .nil)) .nil [])) .nil)))
    (.cons (.asg 3 (.lc (.ix (.b 2) (.v (.bin .Mod (.v (.cb .int (.cons (.v (.bin .Add (.b 6) (.v (.bin .Mult (.b 7) (.b 8))))) .nil))) (.v (.lit (.int 26)))))) (.nm 8) .range (.cons (.v (.cb .max (.cons (.v (.lit (.int 8))) (.cons (.b 1) .nil)))) .nil) .none [8]))
    (.cons (.iff (.and (.cmp .Lt (.b 1) (.v (.lit (.int 9)))) (.cmp .Eq (.v (.call 4 (.cons (.b 0) (.cons (.v (.lit (.int 4))) .nil)) .nil [])) (.v (.lit (.int 0)))))
    (.cons (.ret (.cb .sorted (.cons (.v (.lc (.mt .join (.v (.lit (.str []))) (.cons (.v (.sl (.b 3) .none (.some (.bin .Add (.b 8) (.v (.lit (.int 1))))))) .nil)) (.nm 8) .range (.cons (.v (.var 1)) .nil) .none [8])) .nil)))
    .nil)
    .nil)
    (.cons (.asg 4 (.mt .join (.v (.lit (.str []))) (.cons (.v (.lc (.ix (.b 2) (.v (.call 4 (.cons (.b 0) (.cons (.v (.lit (.int 26))) .nil)) .nil []))) (.nm 9) .range (.cons (.v (.call 5 (.cons (.b 0) (.cons (.v (.lstD (.one (.lit (.int 0)) (.one (.lit (.int 0)) (.one (.lit (.int 1)) (.one (.lit (.int 5)) (.one (.lit (.int 7)) .nil))))))) .nil)) .nil [])) .nil) .none [9])) .nil)))
    (.cons (.asg 5 (.call 4 (.cons (.b 0) (.cons (.v (.bin .Add (.v (.cb .len (.cons (.b 4) .nil))) (.v (.lit (.int 1))))) .nil)) .nil []))
    (.cons (.ret (.cb .sorted (.cons (.v (.lc (.bin .Add (.v (.bin .Add (.v (.sl (.b 4) .none (.some (.var 5)))) (.v (.ix (.b 3) (.b 8))))) (.v (.sl (.b 4) (.some (.var 5)) .none))) (.nm 8) .range (.cons (.v (.var 1)) .nil) .none [8])) .nil)))
    .nil)))))))
def d9 : Df := ⟨"_law_tags", ["_law_urn", "_law_many_so"], ["_law_urn", "_law_many_so", "_law_signs", "_law_row_so", "_law_stem", "_law_at_so", "_law_first_so", "_law_by_so", "_law_k", "_law_turn"], [true, false], b9, [(2, [], [])]⟩
/-- _law_names -/
def b10 : SL := (.cons (.ret (.call 8 (.cons (.b 0) (.cons (.v (.call 9 (.cons (.b 0) (.cons (.v (.var 1)) .nil)) .nil [])) .nil)) .nil []))
    .nil)
def d10 : Df := ⟨"_law_names", ["_law_urn", "_law_many_so"], ["_law_urn", "_law_many_so"], [true, false], b10, [(2, [], [])]⟩
/-- _law_other -/
def b11 : SL := (.cons (.asg 1 (.lstD (.one (.lit (.str [122, 121])) (.one (.lit (.str [120, 119])) (.one (.lit (.str [118, 117])) (.one (.lit (.str [116, 115])) (.one (.lit (.str [114, 113])) (.one (.lit (.str [112, 111])) (.one (.lit (.str [110, 109])) (.one (.lit (.str [108, 107])) (.one (.lit (.str [106, 105])) (.one (.lit (.str [104, 103])) (.one (.lit (.str [102, 101])) (.one (.lit (.str [100, 99])) .nil))))))))))))))
    (.cons (.ret (.ix (.v (.lc (.var 2) (.nm 2) .seq (.cons (.v (.var 1)) .nil) (.some (.cmp .NotIn (.b 2) (.b 0))) [2])) (.v (.lit (.int 0)))))
    .nil))
def d11 : Df := ⟨"_law_other", ["_law_tags_here"], ["_law_tags_here", "_law_pool", "_law_own"], [false], b11, [(1, [], [])]⟩
/-- _law_under -/
def b12 : SL := (.cons (.ret (.cmp .Eq (.v (.lc (.var 2) (.nm 2) .seq (.cons (.v (.var 0)) .nil) (.some (.cmp .NotIn (.b 2) (.b 1))) [2])) (.v (.lstD .nil))))
    .nil)
def d12 : Df := ⟨"_law_under", ["_law_near", "_law_far"], ["_law_near", "_law_far", "_law_own"], [false, false], b12, [(2, [], [])]⟩
/-- _law_tree -/
def b13l0 : SL := (.cons (.app 3 (.tupD (.one (.var 5) (.one (.call 5 (.cons (.b 0) (.cons (.v (.bin .Add (.v (.bin .Add (.v (.lstD (.one (.lit (.str [])) .nil))) (.v (.sl (.b 2) .none (.some (.var 4)))))) (.v (.sl (.b 2) (.some (.cb .max (.cons (.v (.lit (.int 0))) (.cons (.v (.bin .Sub (.b 4) (.v (.lit (.int 1))))) .nil)))) (.some (.var 4)))))) .nil)) .nil []) .nil))))
    .nil)
def b13 : SL := (.cons (.par [2, 3] (.cons (.v (.call 10 (.cons (.b 0) (.cons (.v (.var 1)) .nil)) .nil [])) (.cons (.t (.lstD .nil)) .nil)))
    (.cons (.for (.tp [4, 5]) .enum (.cons (.v (.var 2)) .nil) b13l0)
    (.cons (.ret (.cb .tup (.cons (.v (.cb .sorted (.cons (.b 3) .nil))) .nil)))
    .nil)))
def d13 : Df := ⟨"_law_tree", ["_law_urn", "_law_many_so"], ["_law_urn", "_law_many_so", "_law_queue_so", "_law_found", "_law_k", "_law_own"], [true, false], b13, [(2, [], [])]⟩
/-- _law_host -/
def b14 : SL := (.cons (.asg 1 (.lc (.mt .split (.v (.var 2)) (.cons (.v (.lit (.str [32]))) .nil)) (.nm 2) .seq (.cons (.v (.mt .split (.v (.var 0)) (.cons (.v (.lit (.str [59, 32]))) .nil))) .nil) .none [2]))
    (.cons (.ret (.cb .tup (.cons (.v (.lc (.tupD (.one (.ix (.b 3) (.v (.lit (.int 0)))) (.one (.ite (.cmp .Gt (.v (.cb .len (.cons (.b 3) .nil))) (.v (.lit (.int 1)))) (.ix (.b 3) (.v (.lit (.int 1)))) (.lit (.str []))) .nil))) (.nm 3) .seq (.cons (.v (.var 1)) .nil) .none [3])) .nil)))
    .nil))
def d14 : Df := ⟨"_law_host", ["_law_flat"], ["_law_flat", "_law_words_so", "_law_piece", "_law_own"], [false], b14, [(1, [], [])]⟩
/-- _law_deeds -/
def b15 : SL := (.cons (.asg 3 (.bin .Add (.v (.bin .Mult (.v (.lstD (.one (.lit (.str [])) .nil))) (.v (.bin .Add (.v (.lit (.int 1))) (.v (.cb .min (.cons (.v (.lit (.int 2))) (.cons (.v (.cb .len (.cons (.b 1) .nil))) .nil)))))))) (.v (.lc (.var 5) (.tp [5, 6]) .seq (.cons (.v (.var 1)) .nil) .none [5, 6]))))
    (.cons (.ret (.cb .tup (.cons (.v (.lc (.call 5 (.cons (.b 0) (.cons (.v (.var 3)) .nil)) .nil []) (.nm 4) .range (.cons (.v (.call 4 (.cons (.b 0) (.cons (.v (.bin .Add (.b 2) (.v (.lit (.int 1))))) .nil)) .nil [])) .nil) .none [4])) .nil)))
    .nil))
def d15 : Df := ⟨"_law_deeds", ["_law_urn", "_law_host_here", "_law_most_so"], ["_law_urn", "_law_host_here", "_law_most_so", "_law_pool", "_law_turn", "_law_own", "_law_peak_so"], [true, false, false], b15, [(3, [], [])]⟩
/-- _law_fits -/
def b16 : SL := (.cons (.iff (.or (.not (.pl (.v (.isi (.b 1) [.tup])))) (.cmp .NotEq (.v (.lc (.var 2) (.nm 2) .seq (.cons (.v (.var 1)) .nil) (.some (.not (.pl (.v (.isi (.b 2) [.str]))))) [2])) (.v (.lstD .nil))))
    (.cons (.ret (.lit (.bl false)))
    .nil)
    .nil)
    (.cons (.ret (.call 12 (.cons (.v (.var 1)) (.cons (.v (.bin .Add (.v (.lstD (.one (.lit (.str [])) .nil))) (.v (.lc (.var 2) (.tp [2, 3]) .seq (.cons (.v (.var 0)) .nil) .none [2, 3])))) .nil)) .nil []))
    .nil))
def d16 : Df := ⟨"_law_fits", ["_law_host_here", "_law_bit"], ["_law_host_here", "_law_bit", "_law_own", "_law_head"], [false, false], b16, [(2, [], [])]⟩
/-- _law_by_hand_right -/
def b17 : SL := (.cons (.asg 0 (.call 14 (.cons (.v (.lit (.str [97, 32, 109, 59, 32, 98, 32, 109, 59, 32, 99, 32, 97, 59, 32, 109]))) .nil) .nil []))
    (.cons (.asg 1 (.lstD (.one (.tupD .nil) (.one (.tupD (.one (.lit (.str [])) .nil)) (.one (.tupD (.one (.lit (.str [109])) .nil)) (.one (.tupD (.one (.lit (.str [99])) (.one (.lit (.str [97])) (.one (.lit (.str [109])) (.one (.lit (.str [])) .nil))))) (.one (.tupD (.one (.lit (.str [])) (.one (.lit (.str [])) (.one (.lit (.str [109])) (.one (.lit (.str [109])) (.one (.lit (.str [97])) (.one (.lit (.str [98])) (.one (.lit (.str [99])) (.one (.lit (.str [97])) .nil))))))))) (.one (.bin .Mult (.v (.tupD (.one (.lit (.str [109])) .nil))) (.v (.lit (.int 300)))) .nil))))))))
    (.cons (.asg 1 (.bin .Add (.b 1) (.v (.lstD (.one (.bin .Mult (.v (.tupD (.one (.lit (.str [])) (.one (.lit (.str [99])) .nil)))) (.v (.lit (.int 99)))) .nil)))))
    (.cons (.asg 2 (.lstD (.one (.tupD (.one (.lit (.str [120])) .nil)) (.one (.tupD (.one (.lit (.str [])) (.one (.lit (.str [120])) .nil))) (.one (.tupD (.one (.lit (.str [65])) .nil)) (.one (.tupD (.one (.lit (.str [109, 109])) .nil)) (.one (.tupD (.one (.lit (.str [32])) .nil)) (.one (.tupD (.one (.lit (.str [])) (.one (.lit (.str [109, 32])) .nil))) (.one (.lstD (.one (.lit (.str [])) .nil)) (.one (.lstD (.one (.lit (.str [109])) .nil)) (.one (.lstD .nil) (.one (.lit (.str [])) (.one (.lit (.str [109])) (.one (.lit (.str [97, 98, 99])) (.one (.lit .non) (.one (.lit (.int 0)) (.one (.lit (.int 1)) .nil)))))))))))))))))
    (.cons (.asg 2 (.bin .Add (.b 2) (.v (.lstD (.one (.lit (.bl true)) (.one (.tupD (.one (.lit .non) .nil)) (.one (.tupD (.one (.lit (.int 0)) .nil)) .nil)))))))
    (.cons (.asg 2 (.bin .Add (.b 2) (.v (.lstD (.one (.tupD (.one (.lit (.str [109])) (.one (.lit (.int 1)) .nil))) (.one (.tupD (.one (.lit (.str [109])) (.one (.lit .non) .nil))) (.one (.tupD (.one (.tupD (.one (.lit (.str [109])) .nil)) .nil)) (.one (.tupD (.one (.tupD .nil) .nil)) (.one (.tupD (.one (.lit (.str [109])) (.one (.tupD (.one (.lit (.str [])) .nil)) .nil))) (.one (.tupD (.one (.lstD (.one (.lit (.str [109])) .nil)) .nil)) (.one (.tupD (.one (.lit (.str [109])) (.one (.lit (.bl true)) .nil))) (.one (.tupD (.one (.tupD (.one (.lit (.str [97])) (.one (.lit (.str [109])) .nil))) .nil)) .nil))))))))))))
    (.cons (.asg 2 (.bin .Add (.b 2) (.v (.lstD (.one (.tupD (.one (.lit (.str [])) (.one (.lit (.str [109])) (.one (.lit (.str [100])) .nil)))) .nil)))))
    (.cons (.asg 3 (.lstD (.one (.lc (.call 2 (.cons (.v (.var 0)) (.cons (.v (.var 5)) .nil)) .nil []) (.nm 5) .seq (.cons (.v (.var 1)) .nil) .none [5]) (.one (.lc (.call 2 (.cons (.v (.var 0)) (.cons (.v (.var 5)) .nil)) .nil []) (.nm 5) .seq (.cons (.v (.var 2)) .nil) .none [5]) .nil))))
    (.cons (.asg 3 (.bin .Add (.b 3) (.v (.lstD (.one (.lc (.call 16 (.cons (.v (.var 0)) (.cons (.v (.var 5)) .nil)) .nil []) (.nm 5) .seq (.cons (.v (.bin .Add (.b 1) (.b 2))) .nil) .none [5]) .nil)))))
    (.cons (.asg 3 (.bin .Add (.b 3) (.v (.lstD (.one (.call 2 (.cons (.v (.tupD .nil)) (.cons (.v (.tupD .nil)) .nil)) .nil []) (.one (.call 2 (.cons (.v (.tupD .nil)) (.cons (.v (.tupD (.one (.lit (.str [])) (.one (.lit (.str [])) .nil)))) .nil)) .nil []) (.one (.call 2 (.cons (.v (.tupD .nil)) (.cons (.v (.tupD (.one (.lit (.str [109])) .nil))) .nil)) .nil []) (.one (.call 2 (.cons (.v (.tupD (.one (.tupD (.one (.lit (.str [109])) (.one (.lit (.str [])) .nil))) .nil))) (.cons (.v (.tupD (.one (.lit (.str [109])) (.one (.lit (.str [])) .nil)))) .nil)) .nil []) .nil))))))))
    (.cons (.asg 3 (.bin .Add (.b 3) (.v (.lstD (.one (.call 2 (.cons (.v (.tupD .nil)) (.cons (.v (.lit .non)) .nil)) .nil []) .nil)))))
    (.cons (.asg 3 (.bin .Add (.b 3) (.v (.lstD (.one (.call 2 (.cons (.v (.call 7 (.cons (.v (.var 0)) .nil) .nil [])) (.cons (.v (.ix (.b 1) (.v (.lit (.int 4))))) .nil)) .nil []) (.one (.call 2 .nil (.cons (.v (.tupD (.one (.lit (.str [97])) (.one (.lit (.str [97])) .nil)))) (.cons (.v (.var 0)) .nil)) [.a 1, .a 0]) .nil))))))
    (.cons (.asg 3 (.bin .Add (.b 3) (.v (.lstD (.one (.call 2 .nil (.cons (.v (.lstD (.one (.lit (.str [97])) .nil))) (.cons (.v (.call 7 (.cons (.v (.var 0)) .nil) .nil [])) .nil)) [.a 1, .a 0]) .nil)))))
    (.cons (.asg 4 (.lstD (.one (.bin .Mult (.v (.lstD (.one (.lit (.bl true)) .nil))) (.v (.lit (.int 7)))) (.one (.bin .Mult (.v (.lstD (.one (.lit (.bl false)) .nil))) (.v (.cb .len (.cons (.b 2) .nil)))) (.one (.bin .Add (.v (.bin .Mult (.v (.lstD (.one (.lit (.bl true)) .nil))) (.v (.lit (.int 7))))) (.v (.bin .Mult (.v (.lstD (.one (.lit (.bl false)) .nil))) (.v (.cb .len (.cons (.b 2) .nil)))))) (.one (.lit (.bl true)) (.one (.lit (.bl true)) (.one (.lit (.bl false)) (.one (.lit (.bl true)) (.one (.lit (.bl false)) .nil))))))))))
    (.cons (.asg 4 (.bin .Add (.b 4) (.v (.lstD (.one (.lit (.bl true)) (.one (.lit (.bl true)) (.one (.lit (.bl false)) .nil)))))))
    (.cons (.ret (.call 6 (.cons (.v (.var 3)) (.cons (.v (.var 4)) .nil)) .nil []))
    .nil))))))))))))))))
def d17 : Df := ⟨"_law_by_hand_right", [], ["_law_host_here", "_law_fine", "_law_odd", "_law_got", "_law_goal", "_law_own"], [], b17, [(0, [], [])]⟩
/-- _law_right -/
def b18l0 : SL := (.cons (.asg 10 (.call 4 (.cons (.b 0) (.cons (.v (.bin .Add (.v (.cb .len (.cons (.b 8) .nil))) (.v (.lit (.int 1))))) .nil)) .nil []))
    (.cons (.asg 11 (.call 5 (.cons (.b 0) (.cons (.v (.lstD (.one (.lit (.str [])) (.one (.lit (.str [97])) (.one (.lit (.str [97, 98])) (.one (.var 3) (.one (.bin .Add (.b 3) (.b 3)) (.one (.lit .non) (.one (.lit (.int 0)) (.one (.tupD .nil) (.one (.tupD (.one (.lit (.str [])) .nil)) (.one (.lit (.str [109])) (.one (.lit (.int 1)) (.one (.lit (.bl true)) (.one (.lstD (.one (.var 3) .nil)) .nil))))))))))))))) .nil)) .nil []))
    (.cons (.app 4 (.bin .Add (.v (.bin .Add (.v (.sl (.b 8) .none (.some (.var 10)))) (.v (.tupD (.one (.var 11) .nil))))) (.v (.sl (.b 8) (.some (.bin .Add (.b 10) (.v (.call 4 (.cons (.b 0) (.cons (.v (.lit (.int 2))) .nil)) .nil [])))) .none))))
    .nil)))
def b18l1 : SL := (.cons (.asg 2 (.call 13 (.cons (.b 0) (.cons (.v (.call 4 (.cons (.b 0) (.cons (.v (.lit (.int 9))) .nil)) .nil [])) .nil)) .nil []))
    (.cons (.par [8, 9] (.cons (.v (.call 15 (.cons (.b 0) (.cons (.v (.var 2)) (.cons (.v (.lit (.int 12))) .nil))) .nil [])) (.cons (.v (.call 7 (.cons (.v (.var 2)) .nil) .nil [])) .nil)))
    (.cons (.asg 3 (.call 11 (.cons (.v (.lc (.var 12) (.tp [12, 13]) .seq (.cons (.v (.var 2)) .nil) .none [12, 13])) .nil) .nil []))
    (.cons (.asg 4 (.lstD (.one (.var 8) (.one (.rev (.b 8)) (.one (.cb .lst (.cons (.b 8) .nil)) (.one (.bin .Add (.b 8) (.v (.tupD (.one (.var 3) .nil)))) (.one (.bin .Add (.v (.tupD (.one (.var 3) .nil))) (.b 8)) (.one (.bin .Add (.b 8) (.v (.sl (.b 8) .none (.some (.lit (.int 1)))))) .nil))))))))
    (.cons (.asg 4 (.bin .Add (.b 4) (.v (.lstD (.one (.tupD (.one (.var 8) .nil)) .nil)))))
    (.cons (.for (.nm 5) .range (.cons (.v (.lit (.int 5))) .nil) b18l0)
    (.cons (.asg 6 (.lc (.call 16 (.cons (.v (.var 2)) (.cons (.v (.var 12)) .nil)) .nil []) (.nm 12) .seq (.cons (.v (.var 4)) .nil) .none [12]))
    (.cons (.asg 7 (.lstD (.one (.lc (.call 2 (.cons (.v (.var 2)) (.cons (.v (.var 12)) .nil)) .nil []) (.nm 12) .seq (.cons (.v (.var 4)) .nil) .none [12]) (.one (.call 2 (.cons (.v (.var 9)) (.cons (.v (.var 8)) .nil)) .nil []) (.one (.call 2 (.cons (.v (.var 9)) (.cons (.v (.ix (.b 4) (.v (.lit (.int 1))))) .nil)) .nil []) (.one (.var 9) .nil))))))
    (.cons (.iff (.or (.cmp .IsNot (.v (.ix (.b 6) (.v (.lit (.int 0))))) (.v (.lit (.bl true)))) (.not (.pl (.v (.call 6 (.cons (.v (.var 7)) (.cons (.v (.lstD (.one (.var 6) (.one (.lit (.bl true)) (.one (.ix (.b 6) (.v (.lit (.int 1)))) (.one (.call 7 (.cons (.v (.var 2)) .nil) .nil []) .nil)))))) .nil)) .nil [])))))
    (.cons (.ret (.lit (.bl false)))
    .nil)
    .nil)
    .nil)))))))))
def b18 : SL := (.cons (.for (.nm 1) .range (.cons (.v (.lit (.int 8))) .nil) b18l1)
    (.cons (.ret (.lit (.bl true)))
    .nil))
def d18 : Df := ⟨"_law_right", ["_law_urn"], ["_law_urn", "_law_turn", "_law_host_here", "_law_far", "_law_things", "_law_lap", "_law_goal", "_law_got", "_law_row_so", "_law_soft", "_law_k", "_law_odd", "_law_own", "_law_head"], [true], b18, [(1, [], [])]⟩
def ds : List Df := [d0, d1, d2, d3, d4, d5, d6, d7, d8, d9, d10, d11, d12, d13, d14, d15, d16, d17, d18]
def cs : List (Str × Lt) := [("SOURCE", .str [])]
def bls : List Str := ["abs", "all", "bool", "enumerate", "int", "isinstance", "len", "list", "max", "min", "range", "sorted", "str", "tuple", "zip"]
def ixs : List Nat := [1, 4, 6, 8, 9, 11, 12, 13, 14, 15, 16, 17, 18, 19, 20, 21, 22, 23, 24]
def sts (f : Nat) : Stmt := PySem.Challenge.pw_versionsdown_k06_runs_or_not.main.body.getD (ixs.getD f 0) (.Pass ⟨0, 0, 0, 0⟩)
def lawN : List Str := ["_law_script", "_law_cells_here", "_law_k"]
def lawE : E := (.andE (.call 17 .nil .nil []) (.cb .all (.cons (.v (.lc (.call 18 (.cons (.t (.call 3 (.cons (.v (.var 1)) (.cons (.v (.var 2)) .nil)) .nil [])) .nil) .nil []) (.nm 2) .range (.cons (.v (.cb .len (.cons (.b 1) .nil))) .nil) .none [2])) .nil)))
abbrev P : Pg := pgOf ds cs
theorem fn0 : P.fn 0 = some ⟨[false], 2, b0⟩ := id rfl
@[simp] theorem io0 : (pgOf ds cs).io 0 = [false] := id rfl
theorem fn1 : P.fn 1 = some ⟨[false], 3, b1⟩ := id rfl
@[simp] theorem io1 : (pgOf ds cs).io 1 = [false] := id rfl
theorem fn2 : P.fn 2 = some ⟨[false, false], 4, b2⟩ := id rfl
@[simp] theorem io2 : (pgOf ds cs).io 2 = [false, false] := id rfl
theorem fn3 : P.fn 3 = some ⟨[false, false], 3, b3⟩ := id rfl
@[simp] theorem io3 : (pgOf ds cs).io 3 = [false, false] := id rfl
theorem fn4 : P.fn 4 = some ⟨[true, false], 6, b4⟩ := id rfl
@[simp] theorem io4 : (pgOf ds cs).io 4 = [true, false] := id rfl
theorem fn5 : P.fn 5 = some ⟨[true, false], 2, b5⟩ := id rfl
@[simp] theorem io5 : (pgOf ds cs).io 5 = [true, false] := id rfl
theorem fn6 : P.fn 6 = some ⟨[false, false], 4, b6⟩ := id rfl
@[simp] theorem io6 : (pgOf ds cs).io 6 = [false, false] := id rfl
theorem fn7 : P.fn 7 = some ⟨[false], 2, b7⟩ := id rfl
@[simp] theorem io7 : (pgOf ds cs).io 7 = [false] := id rfl
theorem fn8 : P.fn 8 = some ⟨[true, false], 5, b8⟩ := id rfl
@[simp] theorem io8 : (pgOf ds cs).io 8 = [true, false] := id rfl
theorem fn9 : P.fn 9 = some ⟨[true, false], 10, b9⟩ := id rfl
@[simp] theorem io9 : (pgOf ds cs).io 9 = [true, false] := id rfl
theorem fn10 : P.fn 10 = some ⟨[true, false], 2, b10⟩ := id rfl
@[simp] theorem io10 : (pgOf ds cs).io 10 = [true, false] := id rfl
theorem fn11 : P.fn 11 = some ⟨[false], 3, b11⟩ := id rfl
@[simp] theorem io11 : (pgOf ds cs).io 11 = [false] := id rfl
theorem fn12 : P.fn 12 = some ⟨[false, false], 3, b12⟩ := id rfl
@[simp] theorem io12 : (pgOf ds cs).io 12 = [false, false] := id rfl
theorem fn13 : P.fn 13 = some ⟨[true, false], 6, b13⟩ := id rfl
@[simp] theorem io13 : (pgOf ds cs).io 13 = [true, false] := id rfl
theorem fn14 : P.fn 14 = some ⟨[false], 4, b14⟩ := id rfl
@[simp] theorem io14 : (pgOf ds cs).io 14 = [false] := id rfl
theorem fn15 : P.fn 15 = some ⟨[true, false, false], 7, b15⟩ := id rfl
@[simp] theorem io15 : (pgOf ds cs).io 15 = [true, false, false] := id rfl
theorem fn16 : P.fn 16 = some ⟨[false, false], 4, b16⟩ := id rfl
@[simp] theorem io16 : (pgOf ds cs).io 16 = [false, false] := id rfl
theorem fn17 : P.fn 17 = some ⟨[], 6, b17⟩ := id rfl
@[simp] theorem io17 : (pgOf ds cs).io 17 = [] := id rfl
theorem fn18 : P.fn 18 = some ⟨[true], 14, b18⟩ := id rfl
@[simp] theorem io18 : (pgOf ds cs).io 18 = [true] := id rfl
@[simp] theorem con0 : (pgOf ds cs).con 0 = some (.str []) := id rfl

theorem ck : ((List.range ds.length).all fun f => match ds[f]? with | some d => dfB (tbOf ds cs bls) d (sts f) | none => false) = true := by decide +kernel
end Dk.k06

set_option Elab.async false
set_option linter.all false
set_option autoImplicit false
set_option maxRecDepth 100000
set_option maxHeartbeats 4000000
namespace Dk.k06
open PySem PySem.Spec PyProof.Rows L2 Dk
theorem D : DrawFns P 4 5 8 9 10 := ⟨fn4, fn5, fn8, fn9, fn10⟩
def isD (ns : List (List Nat)) : PV → Bool
  | .str s => decide (s ∈ [] :: ns)
  | _ => false
def isStr : PV → Bool
  | .str _ => true
  | _ => false
def isRun (ns : List (List Nat)) : PV → Bool
  | .tup xs => xs.all (isD ns)
  | _ => false
theorem anyEq_str (v : List Nat) : ∀ ns : List (List Nat), anyEq (.str v) (ns.map .str) = decide (v ∈ ns)
  | [] => rfl
  | n :: ns => by
    show (eqv (.str n) (.str v) || anyEq (.str v) (ns.map .str)) = _
    rw [anyEq_str v ns, eqv_str, Bool.eq_iff_iff]
    simp
    constructor
    · rintro (h | h)
      · exact .inl h.symm
      · exact .inr h
    · rintro (h | h)
      · exact .inl h.symm
      · exact .inr h
theorem dat_strs (ns : List (List Nat)) : ∀ x ∈ ns.map PV.str, Dat 0 x := fun x m => by
  obtain ⟨r, _, rfl⟩ := List.mem_map.mp m
  simp
theorem cod_strsT (ns : List (List Nat)) : cod (.tup (ns.map .str)) = true := Dat.cod (n := 1) (Dat.tup (dat_strs ns)) (by omega)
theorem cod_strsL (ns : List (List Nat)) : cod (.lst (ns.map .str)) = true := Dat.cod (n := 1) (Dat.lst (dat_strs ns)) (by omega)
theorem run_ok (t : Nat) {n : Nat} (ws : List (List Nat × List Nat)) (hw : ws.length ≤ 200) {q : PV} (hq : q = .tup (ws.map prS) ∨ q = .lst (ws.map prSL)) (p : PV) (hp : Dat n p) (hn : n ≤ 50) : P.call (t + 5) 2 [q, p] = .ok (.bl (isRun (ws.map (·.1)) p)) false [] := by
  rw [call_eq fn2 (e := [some (q, .fz), some (p, .fz), none, none]) rfl]
  show fin [false, false] (dSL _ b2 _) = _
  unfold b2
  have hh := houses_ok (P := P) (f := 1) (g := 0) fn1 fn0 t ws hq
  have z : ws.length + 1 ≤ 1000 := by omega
  have kn : (PV.str [] :: ws.map fun w => PV.str w.1) = ([] :: ws.map (·.1)).map .str := by rw [List.map_cons, List.map_map]; rfl
  cases p with
  | tup xs =>
    cases n with
    | zero => exact absurd hp.2 (by simp [dep])
    | succ n =>
    have hx := hp.ofTup
    simp [hh, z]
    rw [kn]
    rw [lcR_mapI (fun x => .bl (isD (ws.map (·.1)) x)) rfl]
    · simp [isRun]
    · intro x m
      have := hx x m
      cases x with
      | str s =>
        have c1 := cod_strsT ([] :: ws.map (·.1))
        have c2 := anyEq_str s ([] :: ws.map (·.1))
        simp at c1 c2
        simp [isD, c1, c2]
      | dk x => cases this.1
      | dt x => cases this.1
      | _ => simp [isD]
  | dk x => cases hp.1
  | dt x => cases hp.1
  | _ => simp [hh, z, isRun]
theorem under_ok (t : Nat) (xs : List PV) (hx : ∀ x ∈ xs, ∃ s, x = .str s) (ns : List (List Nat)) : P.call (t + 1) 12 [.tup xs, .lst (ns.map .str)] = .ok (.bl (xs.all fun x => match x with | .str s => decide (s ∈ ns) | _ => false)) false [] := by
  rw [call_eq fn12 (e := [some (.tup xs, .fz), some (.lst (ns.map .str), .fz), none]) rfl]
  show fin [false, false] (dSL _ b12 _) = _
  unfold b12
  simp
  rw [lcR_filI id (fun x => !(match x with | .str s => decide (s ∈ ns) | _ => false)) rfl]
  rotate_left
  · intro x m
    obtain ⟨s, rfl⟩ := hx x m
    simp [cod_strsL, anyEq_str]
  have cd : ∀ c : PV → Bool, cod (.lst (xs.filter c)) = true := fun c => Dat.cod (n := 1) (Dat.lst fun x m => by
    obtain ⟨s, rfl⟩ := hx x (List.mem_filter.mp m).1
    simp) (by omega)
  simp [cd, eqvL_nil_r]
theorem fits_ok (t : Nat) {n : Nat} (ws : List (List Nat × List Nat)) (hw : ws.length ≤ 200) (p : PV) (hp : Dat n p) (hn : n ≤ 50) : P.call (t + 2) 16 [.tup (ws.map prS), p] = .ok (.bl (isRun (ws.map (·.1)) p)) false [] := by
  rw [call_eq fn16 (e := [some (.tup (ws.map prS), .fz), some (p, .fz), none, none]) rfl]
  show fin [false, false] (dSL _ b16 _) = _
  unfold b16
  cases p with
  | tup xs =>
    cases n with
    | zero => exact absurd hp.2 (by simp [dep])
    | succ n =>
    have hx := hp.ofTup
    simp
    rw [lcR_filI id (fun x => !isStr x) rfl]
    rotate_left
    · intro x m
      have := hx x m
      cases x <;> first | (simp [isStr]; done) | cases this.1
    have cd : ∀ c : PV → Bool, cod (.lst (xs.filter c)) = true := fun c => Dat.cod (n := n + 1) (Dat.lst fun x m => hx x (List.mem_filter.mp m).1) (by omega)
    cases hs : xs.all isStr with
    | false =>
      have : xs.all (isD (ws.map (·.1))) = false := by
        cases h : xs.all (isD (ws.map (·.1))) with
        | false => rfl
        | true =>
          have : xs.all isStr = true := List.all_eq_true.mpr fun x m => by
            have := List.all_eq_true.mp h x m
            cases x <;> first | rfl | cases this
          rw [this] at hs
          cases hs
      simp [cd, eqvL_nil_r, hs, isRun, this]
    | true =>
      simp [cd, eqvL_nil_r, hs]
      rw [lcR_map prS (fun w => .str w.1) rfl]
      rotate_left
      · intro w m
        simp [prS]
      have st : ∀ x ∈ xs, ∃ s, x = .str s := fun x m => by
        have := List.all_eq_true.mp hs x m
        cases x <;> first | exact ⟨_, rfl⟩ | cases this
      have hu := under_ok t xs st ([] :: ws.map (·.1))
      rw [List.map_cons, List.map_map] at hu
      have hu : P.call (t + 1) 12 [.tup xs, .lst (.str [] :: ws.map fun w => .str w.1)] = _ := hu
      have z : 1 + ws.length ≤ 1000 := by omega
      have e : (xs.all fun x => match x with | .str s => decide (s ∈ [] :: ws.map (·.1)) | _ => false) = xs.all (isD (ws.map (·.1))) := by
        congr 1
      rw [e] at hu
      simp [z, hu, isRun]
  | dk x => cases hp.1
  | dt x => cases hp.1
  | _ => simp [isRun]
end Dk.k06

set_option Elab.async false
set_option linter.all false
set_option autoImplicit false
set_option maxRecDepth 100000
set_option maxHeartbeats 4000000
namespace Dk.k06
open PySem PySem.Spec PyProof.Rows L2 Dk
def far12 : List (List Nat) := [[122, 121], [120, 119], [118, 117], [116, 115], [114, 113], [112, 111], [110, 109], [108, 107], [106, 105], [104, 103], [102, 101], [100, 99]]
theorem sub_len {α : Type} [DecidableEq α] : ∀ (xs ys : List α), xs.Nodup → (∀ x ∈ xs, x ∈ ys) → xs.length ≤ ys.length
  | [], _, _, _ => Nat.zero_le _
  | x :: xs, ys, nd, h => by
    obtain ⟨n1, n2⟩ := List.nodup_cons.mp nd
    have hx := h x List.mem_cons_self
    have := sub_len xs (ys.erase x) n2 fun y hy => by
      have hne : y ≠ x := fun e => by subst e; exact n1 hy
      exact (List.mem_erase_of_ne hne).mpr (h y (List.mem_cons_of_mem _ hy))
    rw [List.length_erase_of_mem hx] at this
    have hp : 0 < ys.length := List.length_pos_of_mem hx
    rw [List.length_cons]
    omega
theorem other_ok (t : Nat) (ns : List (List Nat)) (h : ns.length ≤ 8) : ∃ s : List Nat, s.length = 2 ∧ P.call (t + 1) 11 [.lst (ns.map .str)] = .ok (.str s) false [] := by
  rw [call_eq fn11 (e := [some (.lst (ns.map .str), .fz), none, none]) rfl]
  show ∃ s : List Nat, _ ∧ fin [false] (dSL _ b11 _) = _
  unfold b11
  have lc : lcR (P.cn t) (.var 2) (.nm 2) (.some (.cmp .NotIn (.b 2) (.b 0))) [2] (far12.map .str) [some (.lst (ns.map .str), .fz), some (.lst (far12.map .str), .fz), none] = .ok (.lst ((far12.filter fun s => !decide (s ∈ ns)).map .str), true) [some (.lst (ns.map .str), .fz), some (.lst (far12.map .str), .fz), none] := by
    rw [lcR_fil PV.str PV.str (fun s => !decide (s ∈ ns)) rfl]
    · simp
    · intro s m
      simp [cod_strsL, anyEq_str]
  have e : far12.map PV.str = [.str [122, 121], .str [120, 119], .str [118, 117], .str [116, 115], .str [114, 113], .str [112, 111], .str [110, 109], .str [108, 107], .str [106, 105], .str [104, 103], .str [102, 101], .str [100, 99]] := rfl
  rw [e] at lc
  cases hf : far12.filter (fun s => !decide (s ∈ ns)) with
  | nil =>
    exfalso
    have sub : ∀ x ∈ far12, x ∈ ns := fun x m => by
      have := List.filter_eq_nil_iff.mp hf x m
      simpa using this
    have := sub_len far12 ns (by decide) sub
    have l : far12.length = 12 := rfl
    omega
  | cons s r =>
    rw [hf] at lc
    have hs : s ∈ far12 := by
      have : s ∈ far12.filter (fun s => !decide (s ∈ ns)) := by rw [hf]; exact List.mem_cons_self
      exact (List.mem_filter.mp this).1
    have l : ∀ s ∈ far12, s.length = 2 := by decide
    refine ⟨s, l s hs, ?_⟩
    simp [lc]
theorem deeds_ok (t k : Nat) (ws : List (List Nat × List Nat)) (hw : ws.length ≤ 8) (u : PV) (hu : Urn (k + 13) u) : ∃ (row : List (List Nat)) (u' : PV), row.length ≤ 12 ∧ (∀ s ∈ row, s ∈ [] :: ws.map (·.1)) ∧ Urn k u' ∧ P.call (t + 3) 15 [u, .tup (ws.map prS), .int 12] = .ok (.tup (row.map .str)) false [u'] := by
  rw [call_eq fn15 (e := [some (u, .io), some (.tup (ws.map prS), .fz), some (.int 12, .fz), none, none, none, none]) rfl]
  show ∃ (row : List (List Nat)) (u' : PV), _ ∧ _ ∧ _ ∧ fin [true, false, false] (dSL _ b15 _) = _
  unfold b15
  obtain ⟨j, hj, hj2⟩ : ∃ j : Nat, (1 + (if (ws.length : Int) < 2 then (ws.length : Int) else 2)) = (j : Int) ∧ 1 ≤ j ∧ j ≤ 3 := by
    split
    · exact ⟨1 + ws.length, by omega, by omega, by omega⟩
    · exact ⟨3, by omega, by omega, by omega⟩
  have lc1 : lcR (P.cn (t + 2)) (.var 5) (.tp [5, 6]) .none [5, 6] (ws.map prS) [some (u, .io), some (.tup (ws.map prS), .fz), some (.int 12, .fz), none, none, none, none] = .ok (.lst (ws.map fun w => .str w.1), true) [some (u, .io), some (.tup (ws.map prS), .fz), some (.int 12, .fz), none, none, none, none] := by
    rw [lcR_map prS (fun w => .str w.1) rfl]
    · simp
    · intro w m
      simp [prS]
  obtain ⟨r, u1, r0, r1, hu1, hc1⟩ := take_ok (P := P) (f := 4) fn4 (t + 1) (k + 12) (n := 13) hu (by omega) (by omega)
  obtain ⟨n, rfl⟩ : ∃ n : Nat, r = n := ⟨r.toNat, by omega⟩
  have hpl : (List.replicate j [PV.str []]).flatten ++ (ws.map fun w => PV.str w.1) = (List.replicate j ([] : List Nat) ++ ws.map (·.1)).map .str := by
    rw [List.map_append, List.map_map, List.map_replicate]
    congr 1
    rcases (show j = 1 ∨ j = 2 ∨ j = 3 by omega) with rfl | rfl | rfl <;> rfl
  obtain ⟨ps, e', g1, ⟨u2, f2, hf2, rfl, hu2⟩, g2, g3⟩ := lcR_drawM (C := P.cn (t + 2)) (elt := .call 5 (.cons (.b 0) (.cons (.v (.var 3)) .nil)) .nil []) (tg := .nm 4) (ifs := .none) (own := [4]) (fun (k : Nat) => PV.int (k : Int)) (fun i e => ∃ (u : PV) (f : Fl), (f = .own ∨ f = .fz) ∧ e = [some (u, .io), some (.tup (ws.map prS), .fz), some (.int 12, .fz), some (.lst ((List.replicate j ([] : List Nat) ++ ws.map (·.1)).map .str), f), none, none, none] ∧ Urn (i + k) u) (fun _ p => ∃ s, s ∈ [] :: ws.map (·.1) ∧ p = .str s) (List.range n) [some (u1, .io), some (.tup (ws.map prS), .fz), some (.int 12, .fz), some (.lst ((List.replicate j ([] : List Nat) ++ ws.map (·.1)).map .str), .own), none, none, none] ⟨u1, .own, .inl rfl, rfl, hu1.mono (by simp; omega)⟩ (by
    rintro a _ i e ⟨u, f, hf, rfl, hu⟩
    obtain ⟨x, u', hx, hu', hc⟩ := of_ok (P := P) (f := 5) (g := 4) fn5 fn4 t (i + k) (u := u) (xs := (List.replicate j ([] : List Nat) ++ ws.map (·.1)).map .str) (hu.mono (by omega)) (by simp; omega) (by simp; omega) (.inl rfl)
    obtain ⟨s, hs, rfl⟩ := List.mem_map.mp hx
    refine ⟨.str s, [some (u', .io), some (.tup (ws.map prS), .fz), some (.int 12, .fz), some (.lst ((List.replicate j ([] : List Nat) ++ ws.map (·.1)).map .str), .fz), none, none, none], ?_, ⟨u', .fz, .inr rfl, rfl, hu'⟩, s, ?_, rfl⟩
    · have hc' := hc
      simp at hc'
      rcases hf with rfl | rfl <;> simp [hc']
    · rcases List.mem_append.mp hs with hs | hs
      · rw [(List.mem_replicate.mp hs).2]; exact List.mem_cons_self
      · exact List.mem_cons_of_mem _ hs)
  rw [List.length_range] at g2
  obtain ⟨row, rfl, hrow⟩ : ∃ row : List (List Nat), ps = row.map .str ∧ ∀ s ∈ row, s ∈ [] :: ws.map (·.1) := by
    clear g1
    have : ∀ (ps : List PV), (∀ p ∈ ps, ∃ s, s ∈ [] :: ws.map (·.1) ∧ p = .str s) → ∃ row : List (List Nat), ps = row.map .str ∧ ∀ s ∈ row, s ∈ [] :: ws.map (·.1) := by
      intro ps
      induction ps with
      | nil => exact fun _ => ⟨[], rfl, fun c m => by cases m⟩
      | cons p ps ih =>
        intro h
        obtain ⟨st, e, hs⟩ := ih fun q m => h q (List.mem_cons_of_mem _ m)
        obtain ⟨c, hc, rfl⟩ := h p List.mem_cons_self
        refine ⟨c :: st, by rw [e]; rfl, fun d m => ?_⟩
        rcases List.mem_cons.mp m with rfl | m
        · exact hc
        · exact hs d m
    refine this ps fun p hp => ?_
    obtain ⟨i, hi⟩ := List.mem_iff_getElem?.mp hp
    have hl : i < n := by
      have := (List.getElem?_eq_some_iff.mp hi).1
      omega
    exact g3 i i p (by simp [hl]) hi
  rw [List.length_map] at g2
  refine ⟨row, u2, by omega, hrow, hu2.mono (by omega), ?_⟩
  have g1' := g1
  simp [Function.comp_def] at g1'
  have z1 : repOk 1 (j : Int) = true := repOk_s (by omega) (by omega) (by omega)
  have z2 : szl (j + ws.length) = true := szl_s (by omega)
  have n1 : rgOk (n : Int) = true := rgOk_s (by omega) (by omega)
  have n2 : n ≤ 1000 := by omega
  simp [hj, z1, lc1, z2, hc1, n1, n2, g1']
end Dk.k06

set_option Elab.async false
set_option linter.all false
set_option autoImplicit false
set_option maxRecDepth 100000
set_option maxHeartbeats 4000000
namespace Dk.k06
open PySem PySem.Spec PyProof.Rows L2 Dk
/-- things so far: data -/
def Ths (ts : List PV) : Prop := ∀ x ∈ ts, Dat 6 x
/-- the environment of a turn -/
def envT (u : PV) (x1 : PV) (host far : PV) (things : PV) (f4 : Fl) (x5 x6 x7 : Sl) (row soft : PV) (x10 x11 : Sl) : En := [some (u, .io), some (x1, .fz), some (host, .fz), some (far, .fz), some (things, f4), x5, x6, x7, some (row, .fz), some (soft, .fz), x10, x11, none, none]
theorem lap_ok (t k : Nat) (u x1 host soft : PV) (far : List Nat) (hfar : far.length = 2) (row : List (List Nat)) (hrow : row.length ≤ 12) (ts : List PV) (hts : Ths ts) (hl : ts.length ≤ 50) (x5 x6 x7 x10 x11 : Sl) (h5 : fzs x5) (h10 : fzs x10) (h11 : fzs x11) (a : Nat) (hu : Urn (k + 3) u) : ∃ (y : PV) (u' : PV) (y10 y11 : Sl), fzs y10 ∧ fzs y11 ∧ Dat 6 y ∧ Urn k u' ∧ forStep (asgTg (.nm 5)) (dSL (P.cn (t + 3)) b18l0) (.int a) (envT u x1 host (.str far) (.lst ts) .own x5 x6 x7 (.tup (row.map .str)) soft x10 x11) = .ok .nx (envT u' x1 host (.str far) (.lst (ts ++ [y])) .own (some (.int a, .fz)) x6 x7 (.tup (row.map .str)) soft y10 y11) := by
  unfold envT
  obtain ⟨r, u1, r0, r1, hu1, hc1⟩ := take_ok (P := P) (f := 4) fn4 (t + 2) (k + 2) (n := row.length + 1) hu (by omega) (by omega)
  obtain ⟨n, rfl⟩ : ∃ n : Nat, r = n := ⟨r.toNat, by omega⟩
  obtain ⟨x, u2, hx, hu2, hc2⟩ := of_ok (P := P) (f := 5) (g := 4) fn5 fn4 (t + 1) (k + 1) (u := u1) (xs := [.str [], .str [97], .str [97, 98], .str far, .str (far ++ far), .non, .int 0, .tup [], .tup [.str []], .str [109], .int 1, .bl true, .lst [.str far]]) hu1 (by simp) (by simp) (.inl rfl)
  have dx : Dat 4 x := by
    simp at hx
    rcases hx with rfl | rfl | rfl | rfl | rfl | rfl | rfl | rfl | rfl | rfl | rfl | rfl | rfl <;> simp
  obtain ⟨q, u3, q0, q1, hu3, hc3⟩ := take_ok (P := P) (f := 4) fn4 (t + 2) k (u := u2) (n := 2) hu2 (by omega) (by omega)
  obtain ⟨j, rfl⟩ : ∃ n : Nat, q = n := ⟨q.toNat, by omega⟩
  refine ⟨.tup ((row.map .str).take n ++ x :: (row.map .str).drop (n + j)), u3, some (.int n, .fz), some (x, .fz), .inr ⟨_, rfl⟩, .inr ⟨_, rfl⟩, ?_, hu3, ?_⟩
  · refine Dat.tup (n := 5) fun y m => ?_
    have ds : ∀ y ∈ row.map PV.str, Dat 5 y := fun y m => (dat_strs row y m).mono (by omega)
    rcases List.mem_append.mp m with m | m
    · exact ds y (List.mem_of_mem_take m)
    · rcases List.mem_cons.mp m with rfl | m
      · exact dx.mono (by omega)
      · exact ds y (List.mem_of_mem_drop m)
  · have eb : ∀ b, forStep (asgTg (.nm 5)) (dSL (P.cn (t + 3)) b) (.int a) [some (u, .io), some (x1, .fz), some (host, .fz), some (.str far, .fz), some (.lst ts, .own), x5, x6, x7, some (.tup (row.map .str), .fz), some (soft, .fz), x10, x11, none, none] = dSL (P.cn (t + 3)) b [some (u, .io), some (x1, .fz), some (host, .fz), some (.str far, .fz), some (.lst ts, .own), some (.int a, .fz), x6, x7, some (.tup (row.map .str), .fz), some (soft, .fz), x10, x11, none, none] := fun b => by
      rcases h5 with rfl | ⟨_, rfl⟩ <;> simp
    rw [eb]
    unfold b18l0
    have z0 : ts.length ≤ 1000 := by omega
    have zf : szl (far.length + far.length) = true := szl_s (by omega)
    have z1 : szl (min n row.length + 1) = true := szl_s (by omega)
    have z2 : szl (min n row.length + 1 + (row.length - (n + j))) = true := szl_s (by omega)
    have cf : cut (row.map PV.str) (some ((n : Int) + (j : Int))) none = (row.map PV.str).drop (n + j) := by
      rw [cut_from _ (by omega)]
      congr 1
    rcases h10 with rfl | ⟨_, rfl⟩ <;> rcases h11 with rfl | ⟨_, rfl⟩ <;> simp [hc1, zf, hc2, hc3, z0, z1, z2, cf]
theorem laps_ok (t k : Nat) (u x1 host soft : PV) (far : List Nat) (hfar : far.length = 2) (row : List (List Nat)) (hrow : row.length ≤ 12) (ts : List PV) (hts : Ths ts) (hl : ts.length ≤ 40) (x5 x6 x7 x10 x11 : Sl) (h5 : fzs x5) (h10 : fzs x10) (h11 : fzs x11) (hu : Urn (k + 15) u) : ∃ (ys : List PV) (u' : PV) (y5 y10 y11 : Sl), fzs y5 ∧ fzs y10 ∧ fzs y11 ∧ ys.length = 5 ∧ Ths ys ∧ Urn k u' ∧ forLoop (asgTg (.nm 5)) (dSL (P.cn (t + 3)) b18l0) ((List.range 5).map fun (k : Nat) => PV.int (k : Int)) (envT u x1 host (.str far) (.lst ts) .own x5 x6 x7 (.tup (row.map .str)) soft x10 x11) = .ok .nx (envT u' x1 host (.str far) (.lst (ts ++ ys)) .own y5 x6 x7 (.tup (row.map .str)) soft y10 y11) := by
  obtain ⟨e', h1, ys, u', y5, y10, y11, rfl, g5, g10, g11, gl, gt, hu'⟩ := for_pre (asg := asgTg (.nm 5)) (body := dSL (P.cn (t + 3)) b18l0) (fun (k : Nat) => PV.int (k : Int)) (fun pr e => ∃ (ys : List PV) (u : PV) (y5 y10 y11 : Sl), e = envT u x1 host (.str far) (.lst (ts ++ ys)) .own y5 x6 x7 (.tup (row.map .str)) soft y10 y11 ∧ fzs y5 ∧ fzs y10 ∧ fzs y11 ∧ ys.length = pr.length ∧ Ths ys ∧ Urn (k + (5 - pr.length) * 3) u) (List.range 5) (envT u x1 host (.str far) (.lst ts) .own x5 x6 x7 (.tup (row.map .str)) soft x10 x11) ⟨[], u, x5, x10, x11, by rw [List.append_nil], h5, h10, h11, rfl, (fun x m => by cases m), hu⟩ (by
    rintro pr a post e he ⟨ys, u, y5, y10, y11, rfl, g5, g10, g11, gl, gt, hu⟩
    have hpl := congrArg List.length he
    rw [List.length_range, List.length_append, List.length_cons] at hpl
    obtain ⟨y, u', z10, z11, q10, q11, dy, hu', hs⟩ := lap_ok t (k + (5 - (pr.length + 1)) * 3) u x1 host soft far hfar row hrow (ts ++ ys) (fun x m => by
      rcases List.mem_append.mp m with m | m
      · exact hts x m
      · exact gt x m) (by rw [List.length_append]; omega) y5 x6 x7 y10 y11 g5 g10 g11 a (hu.mono (by omega))
    refine ⟨_, hs, ys ++ [y], u', _, z10, z11, by rw [List.append_assoc], .inr ⟨_, rfl⟩, q10, q11, by simp [gl], fun x m => ?_, by simpa using hu'⟩
    rcases List.mem_append.mp m with m | m
    · exact gt x m
    · simp at m; subst m; exact dy)
  exact ⟨ys, u', y5, y10, y11, g5, g10, g11, by simpa using gl, gt, hu'.mono (by omega), h1⟩
theorem turn_ok (t k : Nat) (u : PV) (a : Nat) (x1 x2 x3 x4 x5 x6 x7 x8 x9 x10 x11 : Sl) (h1 : fzs x1) (h2 : fzs x2) (h3 : fzs x3) (h4 : fzs x4) (h5 : fzs x5) (h6 : fzs x6) (h7 : fzs x7) (h8 : fzs x8) (h9 : fzs x9) (h10 : fzs x10) (h11 : fzs x11) (hu : Urn (k + 60) u) : ∃ (u' : PV) (y1 y2 y3 y4 y5 y6 y7 y8 y9 y10 y11 : Sl), (fzs y1 ∧ fzs y2 ∧ fzs y3 ∧ fzs y4 ∧ fzs y5 ∧ fzs y6 ∧ fzs y7 ∧ fzs y8 ∧ fzs y9 ∧ fzs y10 ∧ fzs y11) ∧ Urn k u' ∧ forStep (asgTg (.nm 1)) (dSL (P.cn (t + 9)) b18l1) (.int a) [some (u, .io), x1, x2, x3, x4, x5, x6, x7, x8, x9, x10, x11, none, none] = .ok .nx [some (u', .io), y1, y2, y3, y4, y5, y6, y7, y8, y9, y10, y11, none, none] := by
  obtain ⟨r, u1, r0, r1, hu1, hc1⟩ := take_ok (P := P) (f := 4) fn4 (t + 8) (k + 59) (n := 9) hu (by omega) (by omega)
  obtain ⟨m, rfl⟩ : ∃ n : Nat, r = n := ⟨r.toNat, by omega⟩
  obtain ⟨ws, u2, hd, hu2, hc2⟩ := tree_ok D fn13 (t + 4) (k + 29) (u := u1) (m := m) (by omega) (hu1.mono (by omega))
  have hwl : ws.length ≤ 8 := by rw [hd.len]; omega
  obtain ⟨row, u3, hrl, hrow, hu3, hc3⟩ := deeds_ok (t + 6) (k + 15) ws hwl u2 (hu2.mono (by omega))
  obtain ⟨fr, hc4⟩ := lists_ok (P := P) (f := 7) fn7 (t + 9) (.tup (ws.map prS)) 2 (Dat.tup (dat_prSs ws)) (by omega)
  rw [listsV_tup, listsV_prS] at hc4
  obtain ⟨far, hfar, hc5⟩ := other_ok (t + 8) (ws.map (·.1)) (by simpa using hwl)
  rw [List.map_map] at hc5
  have hc5 : P.call (t + 9) 11 [.lst (ws.map fun w => PV.str w.1)] = .ok (.str far) false [] := hc5
  have ds : ∀ y ∈ row.map PV.str, Dat 5 y := fun y m => (dat_strs row y m).mono (by omega)
  have base : Ths [.tup (row.map .str), .tup (row.map .str).reverse, .lst (row.map .str), .tup (row.map .str ++ [.str far]), .tup (.str far :: row.map .str), .tup (row.map .str ++ (row.map .str).take 1), .tup [.tup (row.map .str)]] := by
    intro x m
    simp only [List.mem_cons, List.not_mem_nil, or_false] at m
    rcases m with rfl | rfl | rfl | rfl | rfl | rfl | rfl
    · exact Dat.tup ds
    · exact Dat.tup fun y m => ds y (List.mem_reverse.mp m)
    · exact Dat.lst ds
    · refine Dat.tup fun y m => ?_
      rcases List.mem_append.mp m with m | m
      · exact ds y m
      · simp at m; subst m; simp
    · refine Dat.tup fun y m => ?_
      rcases List.mem_cons.mp m with rfl | m
      · simp
      · exact ds y m
    · refine Dat.tup fun y m => ?_
      rcases List.mem_append.mp m with m | m
      · exact ds y m
      · exact ds y (List.mem_of_mem_take m)
    · refine Dat.tup fun y m => ?_
      simp at m; subst m
      exact Dat.tup fun y m => (dat_strs row y m).mono (by omega)
  obtain ⟨ys, u4, y5, y10, y11, g5, g10, g11, gl, gt, hu4, hlp⟩ := laps_ok (t + 6) k u3 (.int a) (.tup (ws.map prS)) (.lst (ws.map prSL)) far hfar row hrl _ base (by simp) x5 x6 x7 x10 x11 h5 h10 h11 hu3
  unfold envT at hlp
  have all : Ths ([.tup (row.map .str), .tup (row.map .str).reverse, .lst (row.map .str), .tup (row.map .str ++ [.str far]), .tup (.str far :: row.map .str), .tup (row.map .str ++ (row.map .str).take 1), .tup [.tup (row.map .str)]] ++ ys) := fun x m => by
    rcases List.mem_append.mp m with m | m
    · exact base x m
    · exact gt x m
  have rowT : isRun (ws.map (·.1)) (.tup (row.map .str)) = true := by
    show (row.map PV.str).all (isD (ws.map (·.1))) = true
    rw [List.all_map, List.all_eq_true]
    intro s m
    exact decide_eq_true (hrow s m)
  unfold b18l1
  have lcF : ∀ (things : PV) (x4 x6 : Sl) (f : Fl), lcR (P.cn (t + 9)) (.var 12) (.tp [12, 13]) .none [12, 13] (ws.map prS) [some (u3, .io), some (.int a, .fz), some (.tup (ws.map prS), .fz), x3, x4, x5, x6, x7, some (.tup (row.map .str), .fz), some (.lst (ws.map prSL), .fz), x10, x11, none, none] = .ok (.lst (ws.map fun w => PV.str w.1), true) [some (u3, .io), some (.int a, .fz), some (.tup (ws.map prS), .fz), x3, x4, x5, x6, x7, some (.tup (row.map .str), .fz), some (.lst (ws.map prSL), .fz), x10, x11, none, none] := fun things x4 x6 f => by
    rw [lcR_map prS (fun w => .str w.1) rfl]
    · simp
    · intro w m
      simp [prS]
  have zr : szl (row.length + 1) = true := szl_s (by omega)
  have zr2 : szl (1 + row.length) = true := szl_s (by omega)
  have zr3 : szl (row.length + min 1 row.length) = true := szl_s (by omega)
  have lcF := lcF .non x4 x6 .fz
  have fit : ∀ p : PV, Dat 6 p → P.call (t + 9) 16 [.tup (ws.map prS), p] = .ok (.bl (isRun (ws.map (·.1)) p)) false [] := fun p dp => fits_ok (t + 7) ws (by omega) p dp (by omega)
  have run1 : ∀ p : PV, Dat 6 p → P.call (t + 9) 2 [.tup (ws.map prS), p] = .ok (.bl (isRun (ws.map (·.1)) p)) false [] := fun p dp => run_ok (t + 4) ws (by omega) (.inl rfl) p dp (by omega)
  have run2 : ∀ p : PV, Dat 6 p → P.call (t + 9) 2 [.lst (ws.map prSL), p] = .ok (.bl (isRun (ws.map (·.1)) p)) false [] := fun p dp => run_ok (t + 4) ws (by omega) (.inr rfl) p dp (by omega)
  generalize hT : [PV.tup (row.map .str), .tup (row.map .str).reverse, .lst (row.map .str), .tup (row.map .str ++ [.str far]), .tup (.str far :: row.map .str), .tup (row.map .str ++ (row.map .str).take 1), .tup [.tup (row.map .str)]] ++ ys = things at hlp all
  have th0 : things[0]? = some (.tup (row.map .str)) := by rw [← hT]; rfl
  have th1 : things[1]? = some (.tup (row.map .str).reverse) := by rw [← hT]; rfl
  have dR : Dat 6 (.tup (row.map .str)) := Dat.tup ds
  have dR2 : Dat 6 (.tup (row.map .str).reverse) := Dat.tup fun y m => ds y (List.mem_reverse.mp m)
  have rr := run2 _ dR
  rw [rowT] at rr
  have sm := same_refl (P := P) (f := 6) fn6 (t + 9) (.lst [.lst (things.map fun x => PV.bl (isRun (ws.map (·.1)) x)), .bl true, .bl (isRun (ws.map (·.1)) (.tup (row.map .str).reverse)), .lst (ws.map prSL)]) 5 (by
    refine Dat.lst (n := 4) fun x m => ?_
    simp only [List.mem_cons, List.not_mem_nil, or_false] at m
    rcases m with rfl | rfl | rfl | rfl
    · refine Dat.lst (n := 3) fun x m => ?_
      obtain ⟨y, _, rfl⟩ := List.mem_map.mp m
      simp
    · simp
    · simp
    · exact Dat.lst fun x m => (dat_prSLs ws x m).mono (by omega)) (by omega) (by omega)
  refine ⟨u4, some (.int a, .fz), some (.tup (ws.map prS), .fz), some (.str far, .fz), some (.lst things, .fz), y5, some (.lst (things.map fun x => PV.bl (isRun (ws.map (·.1)) x)), .fz), some (.lst [.lst (things.map fun x => PV.bl (isRun (ws.map (·.1)) x)), .bl true, .bl (isRun (ws.map (·.1)) (.tup (row.map .str).reverse)), .lst (ws.map prSL)], .fz), some (.tup (row.map .str), .fz), some (.lst (ws.map prSL), .fz), y10, y11, by simp [g5, g10, g11], hu4, ?_⟩
  simp [h1, h2, h3, h4, h5, h6, h7, h8, h9, h10, h11, hc1, hc2, hc3, hc4, hc5, lcF, zr, zr2, zr3, hlp]
  rw [lcR_mapI (fun x => .bl (isRun (ws.map (·.1)) x)) rfl]
  rotate_left
  · intro x m
    simp [fit x (all x m)]
  simp [h6, h7]
  rw [lcR_mapI (fun x => .bl (isRun (ws.map (·.1)) x)) rfl]
  rotate_left
  · intro x m
    simp [run1 x (all x m)]
  simp [h7, rr, th1, run2 _ dR2, th0, rowT, hc4, sm]
theorem right_ok (t k : Nat) (u : PV) (hu : Urn (k + 8 * 60) u) : ∃ u', Urn k u' ∧ P.call (t + 10) 18 [u] = .ok (.bl true) false [u'] := by
  rw [call_eq fn18 (e := [some (u, .io), none, none, none, none, none, none, none, none, none, none, none, none, none]) rfl]
  show ∃ u', Urn k u' ∧ fin [true] (dSL _ b18 _) = _
  unfold b18
  obtain ⟨e', h1, u', x1, x2, x3, x4, x5, x6, x7, x8, x9, x10, x11, rfl, hs, hu'⟩ := for_pre (asg := asgTg (.nm 1)) (body := dSL (P.cn (t + 9)) b18l1) (fun (n : Nat) => PV.int (n : Int)) (fun pr e => ∃ u x1 x2 x3 x4 x5 x6 x7 x8 x9 x10 x11, e = [some (u, .io), x1, x2, x3, x4, x5, x6, x7, x8, x9, x10, x11, none, none] ∧ (fzs x1 ∧ fzs x2 ∧ fzs x3 ∧ fzs x4 ∧ fzs x5 ∧ fzs x6 ∧ fzs x7 ∧ fzs x8 ∧ fzs x9 ∧ fzs x10 ∧ fzs x11) ∧ Urn (k + (8 - pr.length) * 60) u) (List.range 8) [some (u, .io), none, none, none, none, none, none, none, none, none, none, none, none, none] ⟨u, none, none, none, none, none, none, none, none, none, none, none, rfl, by simp, hu⟩ (by
    rintro pre a post e he ⟨u, x1, x2, x3, x4, x5, x6, x7, x8, x9, x10, x11, rfl, ⟨h1, h2, h3, h4, h5, h6, h7, h8, h9, h10, h11⟩, hu⟩
    have hl := congrArg List.length he
    rw [List.length_range, List.length_append, List.length_cons] at hl
    obtain ⟨u', y1, y2, y3, y4, y5, y6, y7, y8, y9, y10, y11, hy, hu', hf⟩ := turn_ok t (k + (8 - (pre.length + 1)) * 60) u a x1 x2 x3 x4 x5 x6 x7 x8 x9 x10 x11 h1 h2 h3 h4 h5 h6 h7 h8 h9 h10 h11 (hu.mono (by omega))
    exact ⟨_, hf, u', y1, y2, y3, y4, y5, y6, y7, y8, y9, y10, y11, rfl, hy, by rw [List.length_append]; exact hu'⟩)
  exact ⟨u', hu'.mono (by omega), by simp [h1]⟩
end Dk.k06

set_option Elab.async false
set_option linter.all false
set_option autoImplicit false
set_option maxRecDepth 100000
set_option maxHeartbeats 4000000
namespace Dk.k06
open PySem PySem.Spec PyProof.Rows L2 Dk
def datB (n : Nat) (p : PV) : Bool := nod p && decide (dep p ≤ n)
theorem dat_all {n : Nat} {L : List PV} (h : L.all (datB n) = true) : ∀ x ∈ L, Dat n x := fun x m => by
  have h := List.all_eq_true.mp h x m
  unfold datB at h
  rw [Bool.and_eq_true, decide_eq_true_eq] at h
  exact h
def hostW : List (List Nat × List Nat) := [([97], [109]), ([98], [109]), ([99], [97]), ([109], [])]
theorem sp1 : splitF [97, 32, 109, 59, 32, 98, 32, 109, 59, 32, 99, 32, 97, 59, 32, 109] [59, 32] = some (.lst [.str [97, 32, 109], .str [98, 32, 109], .str [99, 32, 97], .str [109]], true) := by kernel_rfl
theorem sp2 : splitF [97, 32, 109] [32] = some (.lst [.str [97], .str [109]], true) := by kernel_rfl
theorem sp3 : splitF [98, 32, 109] [32] = some (.lst [.str [98], .str [109]], true) := by kernel_rfl
theorem sp4 : splitF [99, 32, 97] [32] = some (.lst [.str [99], .str [97]], true) := by kernel_rfl
theorem sp5 : splitF [109] [32] = some (.lst [.str [109]], true) := by kernel_rfl
theorem host_ok (t : Nat) : P.call (t + 1) 14 [.str [97, 32, 109, 59, 32, 98, 32, 109, 59, 32, 99, 32, 97, 59, 32, 109]] = .ok (.tup (hostW.map prS)) false [] := by
  rw [call_eq fn14 (e := [some (.str [97, 32, 109, 59, 32, 98, 32, 109, 59, 32, 99, 32, 97, 59, 32, 109], .fz), none, none, none]) rfl]
  show fin [false] (dSL _ b14 _) = _
  unfold b14
  simp [sp1]
  rw [lcR_mapI (fun x => match x with | .str s => (match splitF s [32] with | some (p, _) => p | none => .non) | p => p) rfl]
  rotate_left
  · intro x m
    simp only [List.mem_cons, List.not_mem_nil, or_false] at m
    rcases m with rfl | rfl | rfl | rfl <;> simp [sp2, sp3, sp4, sp5]
  simp [sp2, sp3, sp4, sp5]
  rw [lcR_mapI (fun x => match x with | .lst [.str a, .str b] => prS (a, b) | .lst [.str a] => prS (a, []) | p => p) rfl]
  rotate_left
  · intro x m
    simp only [List.mem_cons, List.not_mem_nil, or_false] at m
    rcases m with rfl | rfl | rfl | rfl <;> simp [prS]
  simp [prS, hostW]
theorem hand_ok (t : Nat) : P.call (t + 12) 17 [] = .ok (.bl true) false [] := by
  rw [call_eq fn17 (e := [none, none, none, none, none, none]) rfl]
  show fin [] (dSL _ b17 _) = _
  unfold b17
  have run1 : ∀ p : PV, Dat 6 p → P.call (t + 11) 2 [.tup (hostW.map prS), p] = .ok (.bl (isRun (hostW.map (·.1)) p)) false [] := fun p dp => run_ok (t + 6) hostW (by decide) (.inl rfl) p dp (by omega)
  have run2 : ∀ p : PV, Dat 6 p → P.call (t + 11) 2 [.lst (hostW.map prSL), p] = .ok (.bl (isRun (hostW.map (·.1)) p)) false [] := fun p dp => run_ok (t + 6) hostW (by decide) (.inr rfl) p dp (by omega)
  have run0 : ∀ p : PV, Dat 6 p → P.call (t + 11) 2 [.tup [], p] = .ok (.bl (isRun [] p)) false [] := fun p dp => run_ok (t + 6) [] (by decide) (.inl rfl) p dp (by omega)
  have runm : ∀ p : PV, Dat 6 p → P.call (t + 11) 2 [.tup [.tup [.str [109], .str []]], p] = .ok (.bl (isRun [[109]] p)) false [] := fun p dp => run_ok (t + 6) [([109], [])] (by decide) (.inl rfl) p dp (by omega)
  have fit : ∀ p : PV, Dat 6 p → P.call (t + 11) 16 [.tup (hostW.map prS), p] = .ok (.bl (isRun (hostW.map (·.1)) p)) false [] := fun p dp => fits_ok (t + 9) hostW (by decide) p dp (by omega)
  have r300 : (List.replicate 300 [PV.str [109]]).flatten = List.replicate 300 (PV.str [109]) := by simp
  have rp1 : repOk 1 300 = true := by decide +kernel
  have rp2 : repOk 2 99 = true := by decide +kernel
  simp [host_ok (t + 10), rp1, rp2]
  rw [lcR_mapI (fun x => .bl (isRun (hostW.map (·.1)) x)) rfl]
  rotate_left
  · intro x m
    have := run1 x (dat_all (by decide +kernel) x m)
    simp [this]
  simp
  rw [lcR_mapI (fun x => .bl (isRun (hostW.map (·.1)) x)) rfl]
  rotate_left
  · intro x m
    have := run1 x (dat_all (by decide +kernel) x m)
    simp [this]
  simp
  rw [lcR_mapI (fun x => .bl (isRun (hostW.map (·.1)) x)) rfl]
  rotate_left
  · intro x m
    have := fit x (dat_all (by decide +kernel) x m)
    simp [this]
  simp
  obtain ⟨fr, hl⟩ := lists_ok (P := P) (f := 7) fn7 (t + 11) (.tup (hostW.map prS)) 2 (Dat.tup (dat_prSs hostW)) (by omega)
  rw [listsV_tup, listsV_prS] at hl
  have e1 := run0 (.tup []) (by simp)
  have e2 := run0 (.tup [.str [], .str []]) (by simp)
  have e3 := run0 (.tup [.str [109]]) (by simp)
  have e4 := runm (.tup [.str [109], .str []]) (by simp)
  have e5 := run0 .non (by simp)
  have e6 := run2 (.tup [.str [], .str [], .str [109], .str [109], .str [97], .str [98], .str [99], .str [97]]) (by simp)
  have e7 := run1 (.tup [.str [97], .str [97]]) (by simp)
  have e8 := run2 (.lst [.str [97]]) (by simp)
  have g4 : ∀ xs : List PV, getI xs 4 = xs[4]? := fun xs => getI_nat xs 4
  simp [e1, e2, e3, e4, e5, e6, e7, e8, hl, g4]
  simp [isRun, isD, hostW]
  rw [same_refl (P := P) (f := 6) fn6 (t + 11) _ 3 (by simp) (by omega) (by omega)]
  simp
theorem law_ok (t : Nat) (zs : List Int) (h1 : 1 ≤ zs.length) (h3 : zs.length ≤ 3) : ∃ fr env, dE (cnOf ds cs (t + 12)) lawE (envC lawN.length zs) = .ok (.bl true, fr) env := by
  rw [cnOf_eq]
  show ∃ fr env, dE (P.cn (t + 12)) lawE [none, some (.lst (zs.map .int), .own), none] = _
  unfold lawE
  obtain ⟨ps, e', h1, hU, h2, h4⟩ := lcR_drawM (C := P.cn (t + 12)) (elt := .call 18 (.cons (.t (.call 3 (.cons (.v (.var 1)) (.cons (.v (.var 2)) .nil)) .nil [])) .nil) .nil []) (tg := .nm 2) (ifs := .none) (own := [2]) (fun (k : Nat) => PV.int (k : Int)) (fun _ e => ∃ f : Fl, e = [none, some (.lst (zs.map .int), f), none] ∧ f ≠ .io) (fun _ p => p = .bl true) (List.range zs.length) [none, some (.lst (zs.map .int), .own), none] ⟨.own, rfl, by simp⟩ (by
    rintro k hk n e ⟨f, rfl, hf⟩
    obtain ⟨u, hu, hb⟩ := box_ok (P := P) (f := 3) fn3 (by omega) (by omega) (t + 11) zs k (List.mem_range.mp hk) h3
    obtain ⟨u', hu', hr⟩ := right_ok (t + 2) 0 u (hu.mono (by omega))
    refine ⟨.bl true, [none, some (.lst (zs.map .int), .fz), none], ?_, ⟨.fz, rfl, by simp⟩, rfl⟩
    cases f with
    | io => exact absurd rfl hf
    | fz => simp [hb, hr]
    | own => simp [hb, hr])
  have hps : ps = (List.range zs.length).map fun _ => PV.bl true := by
    apply List.ext_getElem?
    intro i
    rw [List.getElem?_map]
    by_cases hi : i < zs.length
    · have e1 : (List.range zs.length)[i]? = some i := by simp [hi]
      have e2 : ps[i]? = some (ps[i]'(by rw [h2]; simpa using hi)) := List.getElem?_eq_getElem _
      have := h4 i i _ e1 e2
      rw [e2, e1, this]
      rfl
    · rw [List.getElem?_eq_none (by rw [h2]; simp; omega), List.getElem?_eq_none (by simp; omega)]
      rfl
  have z : rgOk (zs.length : Int) = true := rgOk_s (by omega) (by omega)
  have z2 : zs.length ≤ 1000 := by omega
  simp [hand_ok t, z, z2, h1, hps]
theorem ve (zs : List Int) (h1 : 1 ≤ zs.length) (h3 : zs.length ≤ 3) : ∃ fr env, dE (cnOf ds cs 20) lawE (envC lawN.length zs) = .ok (.bl true, fr) env := law_ok 8 zs h1 h3
end Dk.k06

set_option Elab.async false
set_option linter.all false
set_option autoImplicit false
set_option maxRecDepth 100000
set_option maxHeartbeats 4000000
namespace Dk.k06
open PySem PySem.Spec PyProof.Rows L2 Dk

def stC : Stmt := PySem.Challenge.pw_versionsdown_k06_runs_or_not.main.body.getD 10 (.Pass ⟨0, 0, 0, 0⟩)
def stL : Stmt := PySem.Challenge.pw_versionsdown_k06_runs_or_not.main.body.getD 25 (.Pass ⟨0, 0, 0, 0⟩)
theorem all_mk {l : PySem.W.OpenLaw} {w : World} {K : PySem.W.Frag} {h : Heap} {mg : Str → Option Value} {fa : Addr} (X : K.In h) (G : h.Ns mainGlobals mg) (hfa : mg "law" = some (.ref fa))
    {f0 : Addr} {od0 an0 : Option Addr} {sl0 : Array (Option Value)} {oc0 kV0 dc0 pm0 cd0 ct0 : Value}
    {f1 : Addr} {od1 an1 : Option Addr} {sl1 : Array (Option Value)} {oc1 kV1 dc1 pm1 cd1 ct1 : Value}
    {f2 : Addr} {od2 an2 : Option Addr} {sl2 : Array (Option Value)} {oc2 kV2 dc2 pm2 cd2 ct2 : Value}
    {f3 : Addr} {od3 an3 : Option Addr} {sl3 : Array (Option Value)} {oc3 kV3 dc3 pm3 cd3 ct3 : Value}
    {f4 : Addr} {od4 an4 : Option Addr} {sl4 : Array (Option Value)} {oc4 kV4 dc4 pm4 cd4 ct4 : Value}
    {f5 : Addr} {od5 an5 : Option Addr} {sl5 : Array (Option Value)} {oc5 kV5 dc5 pm5 cd5 ct5 : Value}
    {f6 : Addr} {od6 an6 : Option Addr} {sl6 : Array (Option Value)} {oc6 kV6 dc6 pm6 cd6 ct6 : Value}
    {f7 : Addr} {od7 an7 : Option Addr} {sl7 : Array (Option Value)} {oc7 kV7 dc7 pm7 cd7 ct7 : Value}
    {f8 : Addr} {od8 an8 : Option Addr} {sl8 : Array (Option Value)} {oc8 kV8 dc8 pm8 cd8 ct8 : Value}
    {f9 : Addr} {od9 an9 : Option Addr} {sl9 : Array (Option Value)} {oc9 kV9 dc9 pm9 cd9 ct9 : Value}
    {f10 : Addr} {od10 an10 : Option Addr} {sl10 : Array (Option Value)} {oc10 kV10 dc10 pm10 cd10 ct10 : Value}
    {f11 : Addr} {od11 an11 : Option Addr} {sl11 : Array (Option Value)} {oc11 kV11 dc11 pm11 cd11 ct11 : Value}
    {f12 : Addr} {od12 an12 : Option Addr} {sl12 : Array (Option Value)} {oc12 kV12 dc12 pm12 cd12 ct12 : Value}
    {f13 : Addr} {od13 an13 : Option Addr} {sl13 : Array (Option Value)} {oc13 kV13 dc13 pm13 cd13 ct13 : Value}
    {f14 : Addr} {od14 an14 : Option Addr} {sl14 : Array (Option Value)} {oc14 kV14 dc14 pm14 cd14 ct14 : Value}
    {f15 : Addr} {od15 an15 : Option Addr} {sl15 : Array (Option Value)} {oc15 kV15 dc15 pm15 cd15 ct15 : Value}
    {f16 : Addr} {od16 an16 : Option Addr} {sl16 : Array (Option Value)} {oc16 kV16 dc16 pm16 cd16 ct16 : Value}
    {f17 : Addr} {od17 an17 : Option Addr} {sl17 : Array (Option Value)} {oc17 kV17 dc17 pm17 cd17 ct17 : Value}
    {f18 : Addr} {od18 an18 : Option Addr} {sl18 : Array (Option Value)} {oc18 kV18 dc18 pm18 cd18 ct18 : Value}
    {f19 : Addr} {od19 an19 : Option Addr} {sl19 : Array (Option Value)} {oc19 kV19 dc19 pm19 cd19 ct19 : Value}
    {f20 : Addr} {od20 an20 : Option Addr} {sl20 : Array (Option Value)} {oc20 kV20 dc20 pm20 cd20 ct20 : Value}
    (a0 : PySem.W.nsIn K mainGlobals "tupled" = some (some (.ref f0))) (l0 : K.lookup f0 = some ⟨oc0, od0, .func (PySem.W.fnOf "tupled" "tupled" (defArgs (sts 0)) (defBody (sts 0)) (defScope (sts 0)) .none kV0 dc0 pm0 an0 cd0 ct0), sl0⟩) (c0 : PySem.W.codeIn K cd0 "tupled" = true) (k0 : PySem.W.keepIn K (.ref f0) = true)
    (a1 : PySem.W.nsIn K mainGlobals "houses" = some (some (.ref f1))) (l1 : K.lookup f1 = some ⟨oc1, od1, .func (PySem.W.fnOf "houses" "houses" (defArgs (sts 1)) (defBody (sts 1)) (defScope (sts 1)) .none kV1 dc1 pm1 an1 cd1 ct1), sl1⟩) (c1 : PySem.W.codeIn K cd1 "houses" = true) (k1 : PySem.W.keepIn K (.ref f1) = true)
    (a2 : PySem.W.nsIn K mainGlobals "is_run" = some (some (.ref f2))) (l2 : K.lookup f2 = some ⟨oc2, od2, .func (PySem.W.fnOf "is_run" "is_run" (defArgs (sts 2)) (defBody (sts 2)) (defScope (sts 2)) .none kV2 dc2 pm2 an2 cd2 ct2), sl2⟩) (c2 : PySem.W.codeIn K cd2 "is_run" = true) (k2 : PySem.W.keepIn K (.ref f2) = true)
    (a3 : PySem.W.nsIn K mainGlobals "_law_box" = some (some (.ref f3))) (l3 : K.lookup f3 = some ⟨oc3, od3, .func (PySem.W.fnOf "_law_box" "_law_box" (defArgs (sts 3)) (defBody (sts 3)) (defScope (sts 3)) .none kV3 dc3 pm3 an3 cd3 ct3), sl3⟩) (c3 : PySem.W.codeIn K cd3 "_law_box" = true) (k3 : PySem.W.keepIn K (.ref f3) = true)
    (a4 : PySem.W.nsIn K mainGlobals "_law_take" = some (some (.ref f4))) (l4 : K.lookup f4 = some ⟨oc4, od4, .func (PySem.W.fnOf "_law_take" "_law_take" (defArgs (sts 4)) (defBody (sts 4)) (defScope (sts 4)) .none kV4 dc4 pm4 an4 cd4 ct4), sl4⟩) (c4 : PySem.W.codeIn K cd4 "_law_take" = true) (k4 : PySem.W.keepIn K (.ref f4) = true)
    (a5 : PySem.W.nsIn K mainGlobals "_law_of" = some (some (.ref f5))) (l5 : K.lookup f5 = some ⟨oc5, od5, .func (PySem.W.fnOf "_law_of" "_law_of" (defArgs (sts 5)) (defBody (sts 5)) (defScope (sts 5)) .none kV5 dc5 pm5 an5 cd5 ct5), sl5⟩) (c5 : PySem.W.codeIn K cd5 "_law_of" = true) (k5 : PySem.W.keepIn K (.ref f5) = true)
    (a6 : PySem.W.nsIn K mainGlobals "_law_same" = some (some (.ref f6))) (l6 : K.lookup f6 = some ⟨oc6, od6, .func (PySem.W.fnOf "_law_same" "_law_same" (defArgs (sts 6)) (defBody (sts 6)) (defScope (sts 6)) .none kV6 dc6 pm6 an6 cd6 ct6), sl6⟩) (c6 : PySem.W.codeIn K cd6 "_law_same" = true) (k6 : PySem.W.keepIn K (.ref f6) = true)
    (a7 : PySem.W.nsIn K mainGlobals "_law_lists" = some (some (.ref f7))) (l7 : K.lookup f7 = some ⟨oc7, od7, .func (PySem.W.fnOf "_law_lists" "_law_lists" (defArgs (sts 7)) (defBody (sts 7)) (defScope (sts 7)) .none kV7 dc7 pm7 an7 cd7 ct7), sl7⟩) (c7 : PySem.W.codeIn K cd7 "_law_lists" = true) (k7 : PySem.W.keepIn K (.ref f7) = true)
    (a8 : PySem.W.nsIn K mainGlobals "_law_mixed" = some (some (.ref f8))) (l8 : K.lookup f8 = some ⟨oc8, od8, .func (PySem.W.fnOf "_law_mixed" "_law_mixed" (defArgs (sts 8)) (defBody (sts 8)) (defScope (sts 8)) .none kV8 dc8 pm8 an8 cd8 ct8), sl8⟩) (c8 : PySem.W.codeIn K cd8 "_law_mixed" = true) (k8 : PySem.W.keepIn K (.ref f8) = true)
    (a9 : PySem.W.nsIn K mainGlobals "_law_tags" = some (some (.ref f9))) (l9 : K.lookup f9 = some ⟨oc9, od9, .func (PySem.W.fnOf "_law_tags" "_law_tags" (defArgs (sts 9)) (defBody (sts 9)) (defScope (sts 9)) .none kV9 dc9 pm9 an9 cd9 ct9), sl9⟩) (c9 : PySem.W.codeIn K cd9 "_law_tags" = true) (k9 : PySem.W.keepIn K (.ref f9) = true)
    (a10 : PySem.W.nsIn K mainGlobals "_law_names" = some (some (.ref f10))) (l10 : K.lookup f10 = some ⟨oc10, od10, .func (PySem.W.fnOf "_law_names" "_law_names" (defArgs (sts 10)) (defBody (sts 10)) (defScope (sts 10)) .none kV10 dc10 pm10 an10 cd10 ct10), sl10⟩) (c10 : PySem.W.codeIn K cd10 "_law_names" = true) (k10 : PySem.W.keepIn K (.ref f10) = true)
    (a11 : PySem.W.nsIn K mainGlobals "_law_other" = some (some (.ref f11))) (l11 : K.lookup f11 = some ⟨oc11, od11, .func (PySem.W.fnOf "_law_other" "_law_other" (defArgs (sts 11)) (defBody (sts 11)) (defScope (sts 11)) .none kV11 dc11 pm11 an11 cd11 ct11), sl11⟩) (c11 : PySem.W.codeIn K cd11 "_law_other" = true) (k11 : PySem.W.keepIn K (.ref f11) = true)
    (a12 : PySem.W.nsIn K mainGlobals "_law_under" = some (some (.ref f12))) (l12 : K.lookup f12 = some ⟨oc12, od12, .func (PySem.W.fnOf "_law_under" "_law_under" (defArgs (sts 12)) (defBody (sts 12)) (defScope (sts 12)) .none kV12 dc12 pm12 an12 cd12 ct12), sl12⟩) (c12 : PySem.W.codeIn K cd12 "_law_under" = true) (k12 : PySem.W.keepIn K (.ref f12) = true)
    (a13 : PySem.W.nsIn K mainGlobals "_law_tree" = some (some (.ref f13))) (l13 : K.lookup f13 = some ⟨oc13, od13, .func (PySem.W.fnOf "_law_tree" "_law_tree" (defArgs (sts 13)) (defBody (sts 13)) (defScope (sts 13)) .none kV13 dc13 pm13 an13 cd13 ct13), sl13⟩) (c13 : PySem.W.codeIn K cd13 "_law_tree" = true) (k13 : PySem.W.keepIn K (.ref f13) = true)
    (a14 : PySem.W.nsIn K mainGlobals "_law_host" = some (some (.ref f14))) (l14 : K.lookup f14 = some ⟨oc14, od14, .func (PySem.W.fnOf "_law_host" "_law_host" (defArgs (sts 14)) (defBody (sts 14)) (defScope (sts 14)) .none kV14 dc14 pm14 an14 cd14 ct14), sl14⟩) (c14 : PySem.W.codeIn K cd14 "_law_host" = true) (k14 : PySem.W.keepIn K (.ref f14) = true)
    (a15 : PySem.W.nsIn K mainGlobals "_law_deeds" = some (some (.ref f15))) (l15 : K.lookup f15 = some ⟨oc15, od15, .func (PySem.W.fnOf "_law_deeds" "_law_deeds" (defArgs (sts 15)) (defBody (sts 15)) (defScope (sts 15)) .none kV15 dc15 pm15 an15 cd15 ct15), sl15⟩) (c15 : PySem.W.codeIn K cd15 "_law_deeds" = true) (k15 : PySem.W.keepIn K (.ref f15) = true)
    (a16 : PySem.W.nsIn K mainGlobals "_law_fits" = some (some (.ref f16))) (l16 : K.lookup f16 = some ⟨oc16, od16, .func (PySem.W.fnOf "_law_fits" "_law_fits" (defArgs (sts 16)) (defBody (sts 16)) (defScope (sts 16)) .none kV16 dc16 pm16 an16 cd16 ct16), sl16⟩) (c16 : PySem.W.codeIn K cd16 "_law_fits" = true) (k16 : PySem.W.keepIn K (.ref f16) = true)
    (a17 : PySem.W.nsIn K mainGlobals "_law_by_hand_right" = some (some (.ref f17))) (l17 : K.lookup f17 = some ⟨oc17, od17, .func (PySem.W.fnOf "_law_by_hand_right" "_law_by_hand_right" (defArgs (sts 17)) (defBody (sts 17)) (defScope (sts 17)) .none kV17 dc17 pm17 an17 cd17 ct17), sl17⟩) (c17 : PySem.W.codeIn K cd17 "_law_by_hand_right" = true) (k17 : PySem.W.keepIn K (.ref f17) = true)
    (a18 : PySem.W.nsIn K mainGlobals "_law_right" = some (some (.ref f18))) (l18 : K.lookup f18 = some ⟨oc18, od18, .func (PySem.W.fnOf "_law_right" "_law_right" (defArgs (sts 18)) (defBody (sts 18)) (defScope (sts 18)) .none kV18 dc18 pm18 an18 cd18 ct18), sl18⟩) (c18 : PySem.W.codeIn K cd18 "_law_right" = true) (k18 : PySem.W.keepIn K (.ref f18) = true)
    (a19 : PySem.W.nsIn K mainGlobals "_law_cells" = some (some (.ref f19))) (l19 : K.lookup f19 = some ⟨oc19, od19, .func (PySem.W.fnOf "_law_cells" "_law_cells" (defArgs stC) (defBody stC) (defScope stC) .none kV19 dc19 pm19 an19 cd19 ct19), sl19⟩) (c19 : PySem.W.codeIn K cd19 "_law_cells" = true) (k19 : PySem.W.keepIn K (.ref f19) = true)
    (a20 : PySem.W.nsIn K mainGlobals "law" = some (some (.ref f20))) (l20 : K.lookup f20 = some ⟨oc20, od20, .func (PySem.W.fnOf "law" "law" (defArgs stL) (defBody stL) (defScope stL) .none kV20 dc20 pm20 an20 cd20 ct20), sl20⟩) (c20 : PySem.W.codeIn K cd20 "law" = true) (k20 : PySem.W.keepIn K (.ref f20) = true)
    {u0 : Value} (gc0 : PySem.W.nsIn K mainGlobals "SOURCE" = some (some u0)) (rc0 : RelV (Lt.v (.str [])) u0)
    (z0 : PySem.W.nsIn K mainGlobals "abs" = some none)
    (z1 : PySem.W.nsIn K mainGlobals "all" = some none)
    (z2 : PySem.W.nsIn K mainGlobals "bool" = some none)
    (z3 : PySem.W.nsIn K mainGlobals "enumerate" = some none)
    (z4 : PySem.W.nsIn K mainGlobals "int" = some none)
    (z5 : PySem.W.nsIn K mainGlobals "isinstance" = some none)
    (z6 : PySem.W.nsIn K mainGlobals "len" = some none)
    (z7 : PySem.W.nsIn K mainGlobals "list" = some none)
    (z8 : PySem.W.nsIn K mainGlobals "max" = some none)
    (z9 : PySem.W.nsIn K mainGlobals "min" = some none)
    (z10 : PySem.W.nsIn K mainGlobals "range" = some none)
    (z11 : PySem.W.nsIn K mainGlobals "sorted" = some none)
    (z12 : PySem.W.nsIn K mainGlobals "str" = some none)
    (z13 : PySem.W.nsIn K mainGlobals "tuple" = some none)
    (z14 : PySem.W.nsIn K mainGlobals "zip" = some none)
    : ∃ fd : FuncData, (∀ (s : Shared) (v : Value), BindsTo s fd ⟨[v], []⟩ [("_law_script", v)]) ∧ ∀ base : Heap, K.In base → base.Ns mainGlobals mg → FnOk l.prog w K mg base L2.CX0 21 fa fd ["_law_script"] (spLaw K) := by
  have e := hfa.symm.trans (PySem.W.mg_of X G a20)
  cases e
  have F0 := fun_mk (x := "tupled") (qual := "tupled") (st := (sts 0)) l0 c0 k0
  have F1 := fun_mk (x := "houses") (qual := "houses") (st := (sts 1)) l1 c1 k1
  have F2 := fun_mk (x := "is_run") (qual := "is_run") (st := (sts 2)) l2 c2 k2
  have F3 := fun_mk (x := "_law_box") (qual := "_law_box") (st := (sts 3)) l3 c3 k3
  have F4 := fun_mk (x := "_law_take") (qual := "_law_take") (st := (sts 4)) l4 c4 k4
  have F5 := fun_mk (x := "_law_of") (qual := "_law_of") (st := (sts 5)) l5 c5 k5
  have F6 := fun_mk (x := "_law_same") (qual := "_law_same") (st := (sts 6)) l6 c6 k6
  have F7 := fun_mk (x := "_law_lists") (qual := "_law_lists") (st := (sts 7)) l7 c7 k7
  have F8 := fun_mk (x := "_law_mixed") (qual := "_law_mixed") (st := (sts 8)) l8 c8 k8
  have F9 := fun_mk (x := "_law_tags") (qual := "_law_tags") (st := (sts 9)) l9 c9 k9
  have F10 := fun_mk (x := "_law_names") (qual := "_law_names") (st := (sts 10)) l10 c10 k10
  have F11 := fun_mk (x := "_law_other") (qual := "_law_other") (st := (sts 11)) l11 c11 k11
  have F12 := fun_mk (x := "_law_under") (qual := "_law_under") (st := (sts 12)) l12 c12 k12
  have F13 := fun_mk (x := "_law_tree") (qual := "_law_tree") (st := (sts 13)) l13 c13 k13
  have F14 := fun_mk (x := "_law_host") (qual := "_law_host") (st := (sts 14)) l14 c14 k14
  have F15 := fun_mk (x := "_law_deeds") (qual := "_law_deeds") (st := (sts 15)) l15 c15 k15
  have F16 := fun_mk (x := "_law_fits") (qual := "_law_fits") (st := (sts 16)) l16 c16 k16
  have F17 := fun_mk (x := "_law_by_hand_right") (qual := "_law_by_hand_right") (st := (sts 17)) l17 c17 k17
  have F18 := fun_mk (x := "_law_right") (qual := "_law_right") (st := (sts 18)) l18 c18 k18
  have F19 := fun_mk (x := "_law_cells") (qual := "_law_cells") (st := stC) l19 c19 k19
  have F20 := fun_mk (x := "law") (qual := "law") (st := stL) l20 c20 k20
  have T : TopK K mg ds cs bls sts (fun f => [f0, f1, f2, f3, f4, f5, f6, f7, f8, f9, f10, f11, f12, f13, f14, f15, f16, f17, f18].getD f 0) (fun f => [PySem.W.fnOf "tupled" "tupled" (defArgs (sts 0)) (defBody (sts 0)) (defScope (sts 0)) .none kV0 dc0 pm0 an0 cd0 ct0,
    PySem.W.fnOf "houses" "houses" (defArgs (sts 1)) (defBody (sts 1)) (defScope (sts 1)) .none kV1 dc1 pm1 an1 cd1 ct1,
    PySem.W.fnOf "is_run" "is_run" (defArgs (sts 2)) (defBody (sts 2)) (defScope (sts 2)) .none kV2 dc2 pm2 an2 cd2 ct2,
    PySem.W.fnOf "_law_box" "_law_box" (defArgs (sts 3)) (defBody (sts 3)) (defScope (sts 3)) .none kV3 dc3 pm3 an3 cd3 ct3,
    PySem.W.fnOf "_law_take" "_law_take" (defArgs (sts 4)) (defBody (sts 4)) (defScope (sts 4)) .none kV4 dc4 pm4 an4 cd4 ct4,
    PySem.W.fnOf "_law_of" "_law_of" (defArgs (sts 5)) (defBody (sts 5)) (defScope (sts 5)) .none kV5 dc5 pm5 an5 cd5 ct5,
    PySem.W.fnOf "_law_same" "_law_same" (defArgs (sts 6)) (defBody (sts 6)) (defScope (sts 6)) .none kV6 dc6 pm6 an6 cd6 ct6,
    PySem.W.fnOf "_law_lists" "_law_lists" (defArgs (sts 7)) (defBody (sts 7)) (defScope (sts 7)) .none kV7 dc7 pm7 an7 cd7 ct7,
    PySem.W.fnOf "_law_mixed" "_law_mixed" (defArgs (sts 8)) (defBody (sts 8)) (defScope (sts 8)) .none kV8 dc8 pm8 an8 cd8 ct8,
    PySem.W.fnOf "_law_tags" "_law_tags" (defArgs (sts 9)) (defBody (sts 9)) (defScope (sts 9)) .none kV9 dc9 pm9 an9 cd9 ct9,
    PySem.W.fnOf "_law_names" "_law_names" (defArgs (sts 10)) (defBody (sts 10)) (defScope (sts 10)) .none kV10 dc10 pm10 an10 cd10 ct10,
    PySem.W.fnOf "_law_other" "_law_other" (defArgs (sts 11)) (defBody (sts 11)) (defScope (sts 11)) .none kV11 dc11 pm11 an11 cd11 ct11,
    PySem.W.fnOf "_law_under" "_law_under" (defArgs (sts 12)) (defBody (sts 12)) (defScope (sts 12)) .none kV12 dc12 pm12 an12 cd12 ct12,
    PySem.W.fnOf "_law_tree" "_law_tree" (defArgs (sts 13)) (defBody (sts 13)) (defScope (sts 13)) .none kV13 dc13 pm13 an13 cd13 ct13,
    PySem.W.fnOf "_law_host" "_law_host" (defArgs (sts 14)) (defBody (sts 14)) (defScope (sts 14)) .none kV14 dc14 pm14 an14 cd14 ct14,
    PySem.W.fnOf "_law_deeds" "_law_deeds" (defArgs (sts 15)) (defBody (sts 15)) (defScope (sts 15)) .none kV15 dc15 pm15 an15 cd15 ct15,
    PySem.W.fnOf "_law_fits" "_law_fits" (defArgs (sts 16)) (defBody (sts 16)) (defScope (sts 16)) .none kV16 dc16 pm16 an16 cd16 ct16,
    PySem.W.fnOf "_law_by_hand_right" "_law_by_hand_right" (defArgs (sts 17)) (defBody (sts 17)) (defScope (sts 17)) .none kV17 dc17 pm17 an17 cd17 ct17,
    PySem.W.fnOf "_law_right" "_law_right" (defArgs (sts 18)) (defBody (sts 18)) (defScope (sts 18)) .none kV18 dc18 pm18 an18 cd18 ct18].getD f (PySem.W.fnOf "_law_cells" "_law_cells" (defArgs stC) (defBody stC) (defScope stC) .none kV19 dc19 pm19 an19 cd19 ct19)) := by
    refine ⟨ck_all ck, ?_, bl_all ⟨PySem.W.mg_none_of X G z0, PySem.W.mg_none_of X G z1, PySem.W.mg_none_of X G z2, PySem.W.mg_none_of X G z3, PySem.W.mg_none_of X G z4, PySem.W.mg_none_of X G z5, PySem.W.mg_none_of X G z6, PySem.W.mg_none_of X G z7, PySem.W.mg_none_of X G z8, PySem.W.mg_none_of X G z9, PySem.W.mg_none_of X G z10, PySem.W.mg_none_of X G z11, PySem.W.mg_none_of X G z12, PySem.W.mg_none_of X G z13, PySem.W.mg_none_of X G z14, trivial⟩, ?_, ?_, ?_⟩
    · exact fun k x p e => allI (P := fun (_ : Nat) (c : Str × Lt) => c.2.ok = true ∧ ∃ u, mg c.1 = some u ∧ RelV c.2.v u) (l := cs) ⟨⟨rfl, _, PySem.W.mg_of X G gc0, rc0⟩, trivial⟩ k (x, p) e
    · exact fun f d e => allI (P := fun (f : Nat) (d : Df) => Fun K d.name d.name (sts f) ([f0, f1, f2, f3, f4, f5, f6, f7, f8, f9, f10, f11, f12, f13, f14, f15, f16, f17, f18].getD f 0) ([PySem.W.fnOf "tupled" "tupled" (defArgs (sts 0)) (defBody (sts 0)) (defScope (sts 0)) .none kV0 dc0 pm0 an0 cd0 ct0,
    PySem.W.fnOf "houses" "houses" (defArgs (sts 1)) (defBody (sts 1)) (defScope (sts 1)) .none kV1 dc1 pm1 an1 cd1 ct1,
    PySem.W.fnOf "is_run" "is_run" (defArgs (sts 2)) (defBody (sts 2)) (defScope (sts 2)) .none kV2 dc2 pm2 an2 cd2 ct2,
    PySem.W.fnOf "_law_box" "_law_box" (defArgs (sts 3)) (defBody (sts 3)) (defScope (sts 3)) .none kV3 dc3 pm3 an3 cd3 ct3,
    PySem.W.fnOf "_law_take" "_law_take" (defArgs (sts 4)) (defBody (sts 4)) (defScope (sts 4)) .none kV4 dc4 pm4 an4 cd4 ct4,
    PySem.W.fnOf "_law_of" "_law_of" (defArgs (sts 5)) (defBody (sts 5)) (defScope (sts 5)) .none kV5 dc5 pm5 an5 cd5 ct5,
    PySem.W.fnOf "_law_same" "_law_same" (defArgs (sts 6)) (defBody (sts 6)) (defScope (sts 6)) .none kV6 dc6 pm6 an6 cd6 ct6,
    PySem.W.fnOf "_law_lists" "_law_lists" (defArgs (sts 7)) (defBody (sts 7)) (defScope (sts 7)) .none kV7 dc7 pm7 an7 cd7 ct7,
    PySem.W.fnOf "_law_mixed" "_law_mixed" (defArgs (sts 8)) (defBody (sts 8)) (defScope (sts 8)) .none kV8 dc8 pm8 an8 cd8 ct8,
    PySem.W.fnOf "_law_tags" "_law_tags" (defArgs (sts 9)) (defBody (sts 9)) (defScope (sts 9)) .none kV9 dc9 pm9 an9 cd9 ct9,
    PySem.W.fnOf "_law_names" "_law_names" (defArgs (sts 10)) (defBody (sts 10)) (defScope (sts 10)) .none kV10 dc10 pm10 an10 cd10 ct10,
    PySem.W.fnOf "_law_other" "_law_other" (defArgs (sts 11)) (defBody (sts 11)) (defScope (sts 11)) .none kV11 dc11 pm11 an11 cd11 ct11,
    PySem.W.fnOf "_law_under" "_law_under" (defArgs (sts 12)) (defBody (sts 12)) (defScope (sts 12)) .none kV12 dc12 pm12 an12 cd12 ct12,
    PySem.W.fnOf "_law_tree" "_law_tree" (defArgs (sts 13)) (defBody (sts 13)) (defScope (sts 13)) .none kV13 dc13 pm13 an13 cd13 ct13,
    PySem.W.fnOf "_law_host" "_law_host" (defArgs (sts 14)) (defBody (sts 14)) (defScope (sts 14)) .none kV14 dc14 pm14 an14 cd14 ct14,
    PySem.W.fnOf "_law_deeds" "_law_deeds" (defArgs (sts 15)) (defBody (sts 15)) (defScope (sts 15)) .none kV15 dc15 pm15 an15 cd15 ct15,
    PySem.W.fnOf "_law_fits" "_law_fits" (defArgs (sts 16)) (defBody (sts 16)) (defScope (sts 16)) .none kV16 dc16 pm16 an16 cd16 ct16,
    PySem.W.fnOf "_law_by_hand_right" "_law_by_hand_right" (defArgs (sts 17)) (defBody (sts 17)) (defScope (sts 17)) .none kV17 dc17 pm17 an17 cd17 ct17,
    PySem.W.fnOf "_law_right" "_law_right" (defArgs (sts 18)) (defBody (sts 18)) (defScope (sts 18)) .none kV18 dc18 pm18 an18 cd18 ct18].getD f (PySem.W.fnOf "_law_cells" "_law_cells" (defArgs stC) (defBody stC) (defScope stC) .none kV19 dc19 pm19 an19 cd19 ct19))) (l := ds) ⟨F0, F1, F2, F3, F4, F5, F6, F7, F8, F9, F10, F11, F12, F13, F14, F15, F16, F17, F18, trivial⟩ f d e
    · exact fun f d e => allI (P := fun (f : Nat) (d : Df) => mg d.name = some (.ref ([f0, f1, f2, f3, f4, f5, f6, f7, f8, f9, f10, f11, f12, f13, f14, f15, f16, f17, f18].getD f 0))) (l := ds) ⟨PySem.W.mg_of X G a0, PySem.W.mg_of X G a1, PySem.W.mg_of X G a2, PySem.W.mg_of X G a3, PySem.W.mg_of X G a4, PySem.W.mg_of X G a5, PySem.W.mg_of X G a6, PySem.W.mg_of X G a7, PySem.W.mg_of X G a8, PySem.W.mg_of X G a9, PySem.W.mg_of X G a10, PySem.W.mg_of X G a11, PySem.W.mg_of X G a12, PySem.W.mg_of X G a13, PySem.W.mg_of X G a14, PySem.W.mg_of X G a15, PySem.W.mg_of X G a16, PySem.W.mg_of X G a17, PySem.W.mg_of X G a18, trivial⟩ f d e
    · intro f d e n ks sg hm
      exact allM (P := fun q : Nat × List Str × List Sr => Bd K ([PySem.W.fnOf "tupled" "tupled" (defArgs (sts 0)) (defBody (sts 0)) (defScope (sts 0)) .none kV0 dc0 pm0 an0 cd0 ct0,
    PySem.W.fnOf "houses" "houses" (defArgs (sts 1)) (defBody (sts 1)) (defScope (sts 1)) .none kV1 dc1 pm1 an1 cd1 ct1,
    PySem.W.fnOf "is_run" "is_run" (defArgs (sts 2)) (defBody (sts 2)) (defScope (sts 2)) .none kV2 dc2 pm2 an2 cd2 ct2,
    PySem.W.fnOf "_law_box" "_law_box" (defArgs (sts 3)) (defBody (sts 3)) (defScope (sts 3)) .none kV3 dc3 pm3 an3 cd3 ct3,
    PySem.W.fnOf "_law_take" "_law_take" (defArgs (sts 4)) (defBody (sts 4)) (defScope (sts 4)) .none kV4 dc4 pm4 an4 cd4 ct4,
    PySem.W.fnOf "_law_of" "_law_of" (defArgs (sts 5)) (defBody (sts 5)) (defScope (sts 5)) .none kV5 dc5 pm5 an5 cd5 ct5,
    PySem.W.fnOf "_law_same" "_law_same" (defArgs (sts 6)) (defBody (sts 6)) (defScope (sts 6)) .none kV6 dc6 pm6 an6 cd6 ct6,
    PySem.W.fnOf "_law_lists" "_law_lists" (defArgs (sts 7)) (defBody (sts 7)) (defScope (sts 7)) .none kV7 dc7 pm7 an7 cd7 ct7,
    PySem.W.fnOf "_law_mixed" "_law_mixed" (defArgs (sts 8)) (defBody (sts 8)) (defScope (sts 8)) .none kV8 dc8 pm8 an8 cd8 ct8,
    PySem.W.fnOf "_law_tags" "_law_tags" (defArgs (sts 9)) (defBody (sts 9)) (defScope (sts 9)) .none kV9 dc9 pm9 an9 cd9 ct9,
    PySem.W.fnOf "_law_names" "_law_names" (defArgs (sts 10)) (defBody (sts 10)) (defScope (sts 10)) .none kV10 dc10 pm10 an10 cd10 ct10,
    PySem.W.fnOf "_law_other" "_law_other" (defArgs (sts 11)) (defBody (sts 11)) (defScope (sts 11)) .none kV11 dc11 pm11 an11 cd11 ct11,
    PySem.W.fnOf "_law_under" "_law_under" (defArgs (sts 12)) (defBody (sts 12)) (defScope (sts 12)) .none kV12 dc12 pm12 an12 cd12 ct12,
    PySem.W.fnOf "_law_tree" "_law_tree" (defArgs (sts 13)) (defBody (sts 13)) (defScope (sts 13)) .none kV13 dc13 pm13 an13 cd13 ct13,
    PySem.W.fnOf "_law_host" "_law_host" (defArgs (sts 14)) (defBody (sts 14)) (defScope (sts 14)) .none kV14 dc14 pm14 an14 cd14 ct14,
    PySem.W.fnOf "_law_deeds" "_law_deeds" (defArgs (sts 15)) (defBody (sts 15)) (defScope (sts 15)) .none kV15 dc15 pm15 an15 cd15 ct15,
    PySem.W.fnOf "_law_fits" "_law_fits" (defArgs (sts 16)) (defBody (sts 16)) (defScope (sts 16)) .none kV16 dc16 pm16 an16 cd16 ct16,
    PySem.W.fnOf "_law_by_hand_right" "_law_by_hand_right" (defArgs (sts 17)) (defBody (sts 17)) (defScope (sts 17)) .none kV17 dc17 pm17 an17 cd17 ct17,
    PySem.W.fnOf "_law_right" "_law_right" (defArgs (sts 18)) (defBody (sts 18)) (defScope (sts 18)) .none kV18 dc18 pm18 an18 cd18 ct18].getD f (PySem.W.fnOf "_law_cells" "_law_cells" (defArgs stC) (defBody stC) (defScope stC) .none kV19 dc19 pm19 an19 cd19 ct19)) d.ps q.1 q.2.1 q.2.2) (allI (P := fun (f : Nat) (d : Df) => AllM (fun q : Nat × List Str × List Sr => Bd K ([PySem.W.fnOf "tupled" "tupled" (defArgs (sts 0)) (defBody (sts 0)) (defScope (sts 0)) .none kV0 dc0 pm0 an0 cd0 ct0,
    PySem.W.fnOf "houses" "houses" (defArgs (sts 1)) (defBody (sts 1)) (defScope (sts 1)) .none kV1 dc1 pm1 an1 cd1 ct1,
    PySem.W.fnOf "is_run" "is_run" (defArgs (sts 2)) (defBody (sts 2)) (defScope (sts 2)) .none kV2 dc2 pm2 an2 cd2 ct2,
    PySem.W.fnOf "_law_box" "_law_box" (defArgs (sts 3)) (defBody (sts 3)) (defScope (sts 3)) .none kV3 dc3 pm3 an3 cd3 ct3,
    PySem.W.fnOf "_law_take" "_law_take" (defArgs (sts 4)) (defBody (sts 4)) (defScope (sts 4)) .none kV4 dc4 pm4 an4 cd4 ct4,
    PySem.W.fnOf "_law_of" "_law_of" (defArgs (sts 5)) (defBody (sts 5)) (defScope (sts 5)) .none kV5 dc5 pm5 an5 cd5 ct5,
    PySem.W.fnOf "_law_same" "_law_same" (defArgs (sts 6)) (defBody (sts 6)) (defScope (sts 6)) .none kV6 dc6 pm6 an6 cd6 ct6,
    PySem.W.fnOf "_law_lists" "_law_lists" (defArgs (sts 7)) (defBody (sts 7)) (defScope (sts 7)) .none kV7 dc7 pm7 an7 cd7 ct7,
    PySem.W.fnOf "_law_mixed" "_law_mixed" (defArgs (sts 8)) (defBody (sts 8)) (defScope (sts 8)) .none kV8 dc8 pm8 an8 cd8 ct8,
    PySem.W.fnOf "_law_tags" "_law_tags" (defArgs (sts 9)) (defBody (sts 9)) (defScope (sts 9)) .none kV9 dc9 pm9 an9 cd9 ct9,
    PySem.W.fnOf "_law_names" "_law_names" (defArgs (sts 10)) (defBody (sts 10)) (defScope (sts 10)) .none kV10 dc10 pm10 an10 cd10 ct10,
    PySem.W.fnOf "_law_other" "_law_other" (defArgs (sts 11)) (defBody (sts 11)) (defScope (sts 11)) .none kV11 dc11 pm11 an11 cd11 ct11,
    PySem.W.fnOf "_law_under" "_law_under" (defArgs (sts 12)) (defBody (sts 12)) (defScope (sts 12)) .none kV12 dc12 pm12 an12 cd12 ct12,
    PySem.W.fnOf "_law_tree" "_law_tree" (defArgs (sts 13)) (defBody (sts 13)) (defScope (sts 13)) .none kV13 dc13 pm13 an13 cd13 ct13,
    PySem.W.fnOf "_law_host" "_law_host" (defArgs (sts 14)) (defBody (sts 14)) (defScope (sts 14)) .none kV14 dc14 pm14 an14 cd14 ct14,
    PySem.W.fnOf "_law_deeds" "_law_deeds" (defArgs (sts 15)) (defBody (sts 15)) (defScope (sts 15)) .none kV15 dc15 pm15 an15 cd15 ct15,
    PySem.W.fnOf "_law_fits" "_law_fits" (defArgs (sts 16)) (defBody (sts 16)) (defScope (sts 16)) .none kV16 dc16 pm16 an16 cd16 ct16,
    PySem.W.fnOf "_law_by_hand_right" "_law_by_hand_right" (defArgs (sts 17)) (defBody (sts 17)) (defScope (sts 17)) .none kV17 dc17 pm17 an17 cd17 ct17,
    PySem.W.fnOf "_law_right" "_law_right" (defArgs (sts 18)) (defBody (sts 18)) (defScope (sts 18)) .none kV18 dc18 pm18 an18 cd18 ct18].getD f (PySem.W.fnOf "_law_cells" "_law_cells" (defArgs stC) (defBody stC) (defScope stC) .none kV19 dc19 pm19 an19 cd19 ct19)) d.ps q.1 q.2.1 q.2.2) d.shp) (l := ds) ⟨⟨(fun s us ws _ h1 h2 => match us, ws, h1, h2 with | [_], [], _, _ => ⟨_, .of_eq rfl, fun _ h => h⟩), trivial⟩,
      ⟨(fun s us ws _ h1 h2 => match us, ws, h1, h2 with | [_], [], _, _ => ⟨_, .of_eq rfl, fun _ h => h⟩), trivial⟩,
      ⟨(fun s us ws _ h1 h2 => match us, ws, h1, h2 with | [], [_, _], _, _ => ⟨_, .of_eq rfl, fun vs h => match vs, h with | [_, _], .cons r0 (.cons r1 .nil) => .cons r1 (.cons r0 .nil)⟩), (fun s us ws _ h1 h2 => match us, ws, h1, h2 with | [_, _], [], _, _ => ⟨_, .of_eq rfl, fun _ h => h⟩), trivial⟩,
      ⟨(fun s us ws _ h1 h2 => match us, ws, h1, h2 with | [_, _], [], _, _ => ⟨_, .of_eq rfl, fun _ h => h⟩), trivial⟩,
      ⟨(fun s us ws _ h1 h2 => match us, ws, h1, h2 with | [_, _], [], _, _ => ⟨_, .of_eq rfl, fun _ h => h⟩), trivial⟩,
      ⟨(fun s us ws _ h1 h2 => match us, ws, h1, h2 with | [_, _], [], _, _ => ⟨_, .of_eq rfl, fun _ h => h⟩), trivial⟩,
      ⟨(fun s us ws _ h1 h2 => match us, ws, h1, h2 with | [_, _], [], _, _ => ⟨_, .of_eq rfl, fun _ h => h⟩), trivial⟩,
      ⟨(fun s us ws _ h1 h2 => match us, ws, h1, h2 with | [_], [], _, _ => ⟨_, .of_eq rfl, fun _ h => h⟩), trivial⟩,
      ⟨(fun s us ws _ h1 h2 => match us, ws, h1, h2 with | [_, _], [], _, _ => ⟨_, .of_eq rfl, fun _ h => h⟩), trivial⟩,
      ⟨(fun s us ws _ h1 h2 => match us, ws, h1, h2 with | [_, _], [], _, _ => ⟨_, .of_eq rfl, fun _ h => h⟩), trivial⟩,
      ⟨(fun s us ws _ h1 h2 => match us, ws, h1, h2 with | [_, _], [], _, _ => ⟨_, .of_eq rfl, fun _ h => h⟩), trivial⟩,
      ⟨(fun s us ws _ h1 h2 => match us, ws, h1, h2 with | [_], [], _, _ => ⟨_, .of_eq rfl, fun _ h => h⟩), trivial⟩,
      ⟨(fun s us ws _ h1 h2 => match us, ws, h1, h2 with | [_, _], [], _, _ => ⟨_, .of_eq rfl, fun _ h => h⟩), trivial⟩,
      ⟨(fun s us ws _ h1 h2 => match us, ws, h1, h2 with | [_, _], [], _, _ => ⟨_, .of_eq rfl, fun _ h => h⟩), trivial⟩,
      ⟨(fun s us ws _ h1 h2 => match us, ws, h1, h2 with | [_], [], _, _ => ⟨_, .of_eq rfl, fun _ h => h⟩), trivial⟩,
      ⟨(fun s us ws _ h1 h2 => match us, ws, h1, h2 with | [_, _, _], [], _, _ => ⟨_, .of_eq rfl, fun _ h => h⟩), trivial⟩,
      ⟨(fun s us ws _ h1 h2 => match us, ws, h1, h2 with | [_, _], [], _, _ => ⟨_, .of_eq rfl, fun _ h => h⟩), trivial⟩,
      ⟨(fun s us ws _ h1 h2 => match us, ws, h1, h2 with | [], [], _, _ => ⟨_, .of_eq rfl, fun _ h => h⟩), trivial⟩,
      ⟨(fun s us ws _ h1 h2 => match us, ws, h1, h2 with | [_], [], _, _ => ⟨_, .of_eq rfl, fun _ h => h⟩), trivial⟩, trivial⟩ f d e) (n, ks, sg) hm
  refine ⟨PySem.W.fnOf "law" "law" (defArgs stL) (defBody stL) (defScope stL) .none kV20 dc20 pm20 an20 cd20 ct20, fun s v => .of_eq rfl, fun base _ _ => ?_⟩
  have FC : FnOk l.prog w K mg base L2.CX0 (19 + 1) f19 _ _ (spCells K) := cells_fn (p12 := ⟨0, 0, 0, 0⟩) (k5 := 0) F19 rfl (by decide +kernel) (PySem.W.mg_none_of X G z7) (PySem.W.mg_none_of X G z3) (PySem.W.mg_none_of X G z4) 19
  exact law_fn (N := lawN) (head := []) (c := .Name (Str.ofString "_") ⟨0, 0, 0, 0⟩) (q9 := ⟨0, 0, 0, 0⟩) (q8 := ⟨0, 0, 0, 0⟩) (k2 := 0) (p1 := ⟨0, 0, 0, 0⟩) (t0 := (.pl (.v (.lit .non)))) (eF := lawE) (t := 20) T F20 FC (PySem.W.mg_of X G a19) k19 (fun s us ws _ h1 h2 => match us, ws, h1, h2 with | [_, _], [], _, _ => ⟨_, .of_eq rfl, fun _ h => h⟩) rfl (.inl rfl) (by decide +kernel) rfl (by decide +kernel) (by decide +kernel) (by decide +kernel) (by decide +kernel) (by decide) (by decide) (by decide +kernel) (.inl rfl) (.inl rfl) ve
end Dk.k06
open PySem PySem.W PyProof.Rows
set_option maxHeartbeats 0 in
theorem PySem.Challenge.cw_versionsdown_k06_runs_or_not_holds : PySem.Challenge.rw_versionsdown_k06_runs_or_not.Holds := by
  w_on; o_law; k_head; (case hw => w_witness2)
  k_fill
  refine L2.walk_of (l := PySem.Challenge.rw_versionsdown_k06_runs_or_not) (n := 63) (k := 21) (x := "_law_script") (CX := fun _ => L2.CX0) (sp := fun w => Dk.spLaw _) rfl (by decide) rfl ⟨rfl, by decide, by decide⟩ (fun w h Y => PySem.W.kIn_of Y) ?F (fun _ _ a ns hl _ hS => ⟨a, ns, rfl, hS, hl, fun _ => rfl⟩) (fun _ _ _ _ _ h => h)
  case F =>
    intro w mg fa h KX G hmg
    refine' Dk.k06.all_mk KX G hmg ?a0 ?l0 ?c0 ?k0 ?a1 ?l1 ?c1 ?k1 ?a2 ?l2 ?c2 ?k2 ?a3 ?l3 ?c3 ?k3 ?a4 ?l4 ?c4 ?k4 ?a5 ?l5 ?c5 ?k5 ?a6 ?l6 ?c6 ?k6 ?a7 ?l7 ?c7 ?k7 ?a8 ?l8 ?c8 ?k8 ?a9 ?l9 ?c9 ?k9 ?a10 ?l10 ?c10 ?k10 ?a11 ?l11 ?c11 ?k11 ?a12 ?l12 ?c12 ?k12 ?a13 ?l13 ?c13 ?k13 ?a14 ?l14 ?c14 ?k14 ?a15 ?l15 ?c15 ?k15 ?a16 ?l16 ?c16 ?k16 ?a17 ?l17 ?c17 ?k17 ?a18 ?l18 ?c18 ?k18 ?a19 ?l19 ?c19 ?k19 ?a20 ?l20 ?c20 ?k20 ?gc0 ?rc0 ?z0 ?z1 ?z2 ?z3 ?z4 ?z5 ?z6 ?z7 ?z8 ?z9 ?z10 ?z11 ?z12 ?z13 ?z14
    (case a0 => k_is); (case l0 => k_is); (case c0 => k_is); (case k0 => k_is); (case a1 => k_is); (case l1 => k_is); (case c1 => k_is); (case k1 => k_is); (case a2 => k_is); (case l2 => k_is); (case c2 => k_is); (case k2 => k_is); (case a3 => k_is); (case l3 => k_is); (case c3 => k_is); (case k3 => k_is); (case a4 => k_is); (case l4 => k_is); (case c4 => k_is); (case k4 => k_is); (case a5 => k_is); (case l5 => k_is); (case c5 => k_is); (case k5 => k_is); (case a6 => k_is); (case l6 => k_is); (case c6 => k_is); (case k6 => k_is); (case a7 => k_is); (case l7 => k_is); (case c7 => k_is); (case k7 => k_is); (case a8 => k_is); (case l8 => k_is); (case c8 => k_is); (case k8 => k_is); (case a9 => k_is); (case l9 => k_is); (case c9 => k_is); (case k9 => k_is); (case a10 => k_is); (case l10 => k_is); (case c10 => k_is); (case k10 => k_is); (case a11 => k_is); (case l11 => k_is); (case c11 => k_is); (case k11 => k_is); (case a12 => k_is); (case l12 => k_is); (case c12 => k_is); (case k12 => k_is); (case a13 => k_is); (case l13 => k_is); (case c13 => k_is); (case k13 => k_is); (case a14 => k_is); (case l14 => k_is); (case c14 => k_is); (case k14 => k_is); (case a15 => k_is); (case l15 => k_is); (case c15 => k_is); (case k15 => k_is); (case a16 => k_is); (case l16 => k_is); (case c16 => k_is); (case k16 => k_is); (case a17 => k_is); (case l17 => k_is); (case c17 => k_is); (case k17 => k_is); (case a18 => k_is); (case l18 => k_is); (case c18 => k_is); (case k18 => k_is); (case a19 => k_is); (case l19 => k_is); (case c19 => k_is); (case k19 => k_is); (case a20 => k_is); (case l20 => k_is); (case c20 => k_is); (case k20 => k_is); (case gc0 => k_is); (case rc0 => exact ⟨_, rfl⟩); (case z0 => k_is); (case z1 => k_is); (case z2 => k_is); (case z3 => k_is); (case z4 => k_is); (case z5 => k_is); (case z6 => k_is); (case z7 => k_is); (case z8 => k_is); (case z9 => k_is); (case z10 => k_is); (case z11 => k_is); (case z12 => k_is); (case z13 => k_is); (case z14 => k_is)

