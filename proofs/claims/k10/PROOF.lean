import PyProof.Rows.All
import Wide.All
import OpenK.AllK
import Wide.FinOn
import HandS.ForMost
import HandS.ForExc
import HandS.Flow
import HandS.Style
import HandS.Zip
import HandS.IsInst
import HandS.Wide
import HandS.Walk
import HandS.Conv
import HandS.TupLe
import HandS.TupAny
import HandS.CallLocal
import HandS.RaiseMore
import HandS.NoneIn
import PySem.Challenge.RW_neveroverdrawn_k10_body_figures
set_option Elab.async false
set_option linter.all false
set_option maxRecDepth 100000
set_option maxHeartbeats 4000000
/-! The D-layer: values as plain data over the hand layer's abstract heap; what is owned by slots may change, what is shared never does. -/
namespace DL
open PySem PySem.Spec PyProof.Rows L2

/-! ### data, results -/
inductive D where
  | non
  | bl (b : Bool)
  | int (i : Int)
  | str (x : PySem.Str)
  | tup (ds : List D)
  | lst (ds : List D)
  | fn (a : Addr)
  | ty (n : String)

inductive Res (α : Type) where
  | ok (a : α)
  | err
def Res.bind {α β : Type} (x : Res α) (f : α → Res β) : Res β := match x with
  | .ok a => f a
  | .err => .err
theorem Res.ok_bind {α β : Type} (a : α) (f : α → Res β) : (Res.ok a).bind f = f a := rfl
theorem Res.err_bind {α β : Type} (f : α → Res β) : (Res.err : Res α).bind f = .err := rfl
theorem Res.bind_ok {α β : Type} {x : Res α} {f : α → Res β} {b : β} (h : x.bind f = .ok b) : ∃ a, x = .ok a ∧ f a = .ok b := by
  cases x with
  | ok a => exact ⟨a, rfl, h⟩
  | err => cases h
theorem Res.bind_assoc {α β γ : Type} (x : Res α) (f : α → Res β) (g : β → Res γ) : (x.bind f).bind g = x.bind fun a => (f a).bind g := by cases x <;> rfl

abbrev Ev := List (Option D)

/-! ### what represents a datum: Z tells the addresses that may change -/
abbrev AP := Addr → Prop
def RdT (K : PySem.W.Frag) (Z : AP) (H : Hp) (a : Addr) (vs : List V) : Prop := (H a = some (.tup vs) ∧ ¬ Z a) ∨ SqT K (fun _ => none) a vs
def RdL (K : PySem.W.Frag) (Z : AP) (H : Hp) (a : Addr) (vs : List V) : Prop := (Rd H a (.lst vs) ∧ ¬ Z a) ∨ SqL K (fun _ => none) a vs
mutual
def Sh (K : PySem.W.Frag) (Z : AP) (H : Hp) : D → V → Prop
  | .non, v => v = .non
  | .bl b, v => v = .bl b
  | .int i, v => v = .int i
  | .str x, v => v = .str x
  | .tup ds, v => ∃ a vs, v = .ref a ∧ RdT K Z H a vs ∧ Shs K Z H ds vs
  | .lst ds, v => ∃ a vs, v = .ref a ∧ RdL K Z H a vs ∧ Shs K Z H ds vs
  | .fn a, v => v = .ref a
  | .ty n, v => v = .ty n
def Shs (K : PySem.W.Frag) (Z : AP) (H : Hp) : List D → List V → Prop
  | [], vs => vs = []
  | d :: ds, vs => ∃ v r, vs = v :: r ∧ Sh K Z H d v ∧ Shs K Z H ds r
end
abbrev Z0 : AP := fun _ => False
section
variable {K : PySem.W.Frag} {Z Z' Z'' : AP} {H H' H'' : Hp} {a : Addr} {vs : List V}
theorem RdT.sq (h : RdT K Z H a vs) : SqT K H a vs := by
  rcases h with ⟨h, _⟩ | h
  · exact .inl (.inl h)
  · rcases h with (h | ⟨o, h⟩) | h
    · cases h
    · cases h
    · exact .inr h
theorem RdL.sq (h : RdL K Z H a vs) : SqL K H a vs := by
  rcases h with ⟨h, _⟩ | h
  · exact .inl h
  · rcases h with (h | ⟨o, h⟩) | h
    · cases h
    · cases h
    · exact .inr h
theorem RdT.new (h : H a = some (.tup vs)) (hz : ¬ Z a) : RdT K Z H a vs := .inl ⟨h, hz⟩
theorem RdL.new (h : H a = some (.lst vs)) (hz : ¬ Z a) : RdL K Z H a vs := .inl ⟨.inl h, hz⟩
mutual
theorem Sh.mono (hT : ∀ a vs, RdT K Z H a vs → RdT K Z' H' a vs) (hL : ∀ a vs, RdL K Z H a vs → RdL K Z' H' a vs) : ∀ (d : D) (v : V), Sh K Z H d v → Sh K Z' H' d v
  | .non, _, h => h
  | .bl _, _, h => h
  | .int _, _, h => h
  | .str _, _, h => h
  | .tup ds, _, ⟨a, vs, e, r, s⟩ => ⟨a, vs, e, hT a vs r, Shs.mono hT hL ds vs s⟩
  | .lst ds, _, ⟨a, vs, e, r, s⟩ => ⟨a, vs, e, hL a vs r, Shs.mono hT hL ds vs s⟩
  | .fn _, _, h => h
  | .ty _, _, h => h
theorem Shs.mono (hT : ∀ a vs, RdT K Z H a vs → RdT K Z' H' a vs) (hL : ∀ a vs, RdL K Z H a vs → RdL K Z' H' a vs) : ∀ (ds : List D) (vs : List V), Shs K Z H ds vs → Shs K Z' H' ds vs
  | [], _, h => h
  | d :: ds, _, ⟨v, r, e, s1, s2⟩ => ⟨v, r, e, Sh.mono hT hL d v s1, Shs.mono hT hL ds r s2⟩
end
/-- one step: what is not owned stays, what becomes owned is new -/
def Stp0 (Z : AP) (H : Hp) (Z' : AP) (H' : Hp) : Prop := (∀ b o, H b = some o → ¬ Z b → H' b = some o) ∧ ∀ b, Z' b → Z b ∨ H b = none
theorem Stp0.refl : Stp0 Z H Z H := ⟨fun _ _ h _ => h, fun _ h => .inl h⟩
theorem Stp0.trans (a : Stp0 Z H Z' H') (b : Stp0 Z' H' Z'' H'') : Stp0 Z H Z'' H'' := by
  refine ⟨fun c o h hz => b.1 c o (a.1 c o h hz) fun z => ?_, fun c hc => ?_⟩
  · rcases a.2 c z with q | q
    · exact hz q
    · rw [q] at h; cases h
  · rcases b.2 c hc with q | q
    · exact a.2 c q
    · by_cases hz : Z c
      · exact .inl hz
      · refine .inr ?_
        cases e : H c with
        | none => rfl
        | some o =>
          have e2 := a.1 c o e hz
          rw [q] at e2; cases e2
theorem Stp0.same (s : Same H H') : Stp0 Z H Z H' := ⟨fun b o h _ => s b o h, fun _ h => .inl h⟩
theorem RdT.stp (s : Stp0 Z H Z' H') (h : RdT K Z H a vs) : RdT K Z' H' a vs := by
  rcases h with ⟨h, hz⟩ | h
  · refine .inl ⟨s.1 _ _ h hz, fun z => ?_⟩
    rcases s.2 a z with q | q
    · exact hz q
    · rw [q] at h; cases h
  · exact .inr h
theorem RdL.stp (s : Stp0 Z H Z' H') (h : RdL K Z H a vs) : RdL K Z' H' a vs := by
  rcases h with ⟨h, hz⟩ | h
  · refine .inl ⟨?_, fun z => ?_⟩
    · rcases h with h | ⟨o, h⟩
      · exact .inl (s.1 _ _ h hz)
      · exact .inr ⟨o, s.1 _ _ h hz⟩
    · rcases s.2 a z with q | q
      · exact hz q
      · rcases h with h | ⟨o, h⟩ <;> rw [q] at h <;> cases h
  · exact .inr h
theorem Sh.stp (s : Stp0 Z H Z' H') {d : D} {v : V} (h : Sh K Z H d v) : Sh K Z' H' d v := Sh.mono (fun _ _ => RdT.stp s) (fun _ _ => RdL.stp s) d v h
theorem Shs.stp (s : Stp0 Z H Z' H') {ds : List D} (h : Shs K Z H ds vs) : Shs K Z' H' ds vs := Shs.mono (fun _ _ => RdT.stp s) (fun _ _ => RdL.stp s) ds vs h
theorem RdT.same (s : Same H H') (h : RdT K Z H a vs) : RdT K Z H' a vs := h.stp (Stp0.same s)
theorem Sh.same (s : Same H H') {d : D} {v : V} (h : Sh K Z H d v) : Sh K Z H' d v := h.stp (Stp0.same s)
theorem Shs.same (s : Same H H') {ds : List D} (h : Shs K Z H ds vs) : Shs K Z H' ds vs := h.stp (Stp0.same s)
/-- fewer owned ones -/
theorem Sh.less (hz : ∀ b, Z' b → Z b) {d : D} {v : V} (h : Sh K Z H d v) : Sh K Z' H d v :=
  Sh.stp (Z := Z) ⟨fun _ _ h _ => h, fun b z => .inl (hz b z)⟩ h
theorem Shs.less (hz : ∀ b, Z' b → Z b) {ds : List D} (h : Shs K Z H ds vs) : Shs K Z' H ds vs :=
  Shs.stp (Z := Z) ⟨fun _ _ h _ => h, fun b z => .inl (hz b z)⟩ h
theorem Sh.cur {d : D} {v : V} (h : Sh K Z H d v) : Sh K Z0 H d v := h.less fun _ z => z.elim
theorem Shs.len : ∀ {ds : List D} {vs : List V}, Shs K Z H ds vs → ds.length = vs.length
  | [], vs, h => by
    have e : vs = [] := h
    subst e
    rfl
  | d :: ds, _, ⟨v, r, e, _, s⟩ => by rw [e, List.length_cons, List.length_cons, Shs.len s]
theorem Shs.get : ∀ {ds : List D} {vs : List V} {i : Nat} {d : D}, Shs K Z H ds vs → ds[i]? = some d → ∃ v, vs[i]? = some v ∧ Sh K Z H d v
  | [], _, _, _, _, h => by simp at h
  | d :: ds, _, 0, d', ⟨v, r, e, s, _⟩, h => by
    have h' : d = d' := by simpa using h
    subst h'
    exact ⟨v, by rw [e]; rfl, s⟩
  | d :: ds, _, i + 1, _, ⟨v, r, e, _, s⟩, h => by
    obtain ⟨w, h1, h2⟩ := Shs.get (i := i) s (by simpa using h)
    exact ⟨w, by rw [e]; simpa using h1, h2⟩
theorem Shs.getV : ∀ {ds : List D} {vs : List V} {i : Nat} {v : V}, Shs K Z H ds vs → vs[i]? = some v → ∃ d, ds[i]? = some d ∧ Sh K Z H d v
  | [], vs, _, _, h, q => by
    have e : vs = [] := h
    subst e
    simp at q
  | d :: ds, _, 0, v', ⟨v, r, e, s, _⟩, h => by
    rw [e] at h
    have h' : v = v' := by simpa using h
    subst h'
    exact ⟨d, rfl, s⟩
  | d :: ds, _, i + 1, _, ⟨v, r, e, _, s⟩, h => by
    rw [e] at h
    obtain ⟨w, h1, h2⟩ := Shs.getV (i := i) s (by simpa using h)
    exact ⟨w, by simpa using h1, h2⟩
theorem Shs.app : ∀ {ds es : List D} {vs ws : List V}, Shs K Z H ds vs → Shs K Z H es ws → Shs K Z H (ds ++ es) (vs ++ ws)
  | [], _, vs, _, h, q => by
    have e : vs = [] := h
    subst e
    exact q
  | d :: ds, _, _, ws, ⟨v, r, e, s, t⟩, q => ⟨v, r ++ ws, by rw [e]; rfl, s, Shs.app t q⟩
theorem Shs.one {d : D} {v : V} (h : Sh K Z H d v) : Shs K Z H [d] [v] := ⟨v, [], rfl, h, rfl⟩
theorem Shs.set : ∀ {ds : List D} {vs : List V} (i : Nat) {d : D} {v : V}, Shs K Z H ds vs → Sh K Z H d v → Shs K Z H (ds.set i d) (vs.set i v)
  | [], vs, _, _, _, h, _ => by
    have e : vs = [] := h
    subst e
    exact rfl
  | x :: ds, _, 0, d, v, ⟨y, r, e, _, t⟩, q => ⟨v, r, by rw [e]; rfl, q, t⟩
  | x :: ds, _, i + 1, d, v, ⟨y, r, e, s, t⟩, q => ⟨y, r.set i v, by rw [e]; rfl, s, Shs.set i t q⟩
theorem Shs.take : ∀ {ds : List D} {vs : List V} (n : Nat), Shs K Z H ds vs → Shs K Z H (ds.take n) (vs.take n)
  | _, _, 0, _ => by rw [List.take_zero, List.take_zero]; exact rfl
  | [], vs, n + 1, h => by
    have e : vs = [] := h
    subst e
    exact rfl
  | d :: ds, _, n + 1, ⟨v, r, e, s, t⟩ => ⟨v, r.take n, by rw [e]; rfl, s, Shs.take n t⟩
theorem Shs.drop : ∀ {ds : List D} {vs : List V} (n : Nat), Shs K Z H ds vs → Shs K Z H (ds.drop n) (vs.drop n)
  | _, _, 0, h => h
  | [], vs, n + 1, h => by
    have e : vs = [] := h
    subst e
    exact rfl
  | d :: ds, _, n + 1, ⟨v, r, e, s, t⟩ => by rw [e]; exact Shs.drop n t
theorem Shs.erase : ∀ {ds : List D} {vs : List V} (n : Nat), Shs K Z H ds vs → Shs K Z H (ds.eraseIdx n) (vs.eraseIdx n)
  | [], vs, _, h => by
    have e : vs = [] := h
    subst e
    exact rfl
  | d :: ds, _, 0, ⟨v, r, e, s, t⟩ => by rw [e]; exact t
  | d :: ds, _, n + 1, ⟨v, r, e, s, t⟩ => ⟨v, r.eraseIdx n, by rw [e]; rfl, s, Shs.erase n t⟩
theorem Shs.rev : ∀ {ds : List D} {vs : List V}, Shs K Z H ds vs → Shs K Z H ds.reverse vs.reverse
  | [], vs, h => by
    have e : vs = [] := h
    subst e
    exact rfl
  | d :: ds, _, ⟨v, r, e, s, t⟩ => by
    rw [e, List.reverse_cons, List.reverse_cons]
    exact (Shs.rev t).app (Shs.one s)
theorem Shs.dropLast {ds : List D} {vs : List V} (h : Shs K Z H ds vs) : Shs K Z H ds.dropLast vs.dropLast := by
  rw [List.dropLast_eq_take, List.dropLast_eq_take, ← h.len]
  exact h.take _
theorem Shs.rep {ds : List D} {vs : List V} (h : Shs K Z H ds vs) : ∀ n : Nat, Shs K Z H (List.replicate n ds).flatten (List.replicate n vs).flatten
  | 0 => rfl
  | n + 1 => by
    rw [List.replicate_succ, List.replicate_succ, List.flatten_cons, List.flatten_cons]
    exact h.app (Shs.rep h n)
end

/-! ### owned lists: level 0 is shared data; level n + 1 a list of level n, its own addresses within P -/
def Ow (K : PySem.W.Frag) (Z : AP) (H : Hp) : Nat → D → V → AP → Prop
  | 0, d, v, _ => Sh K Z H d v
  | n + 1, d, v, P => match d with
    | .lst ds => ∃ a vs, v = .ref a ∧ P a ∧ Z a ∧ H a = some (.lst vs) ∧ ds.length = vs.length ∧ ∃ Q : Nat → AP, (∀ i b, Q i b → P b ∧ b ≠ a) ∧ (∀ i j b, Q i b → Q j b → i = j) ∧
        ∀ i d v, ds[i]? = some d → vs[i]? = some v → Ow K Z H n d v (Q i)
    | d => Sh K Z H d v
theorem Shs.of {K : PySem.W.Frag} {Z : AP} {H : Hp} : ∀ {ds : List D} {vs : List V}, ds.length = vs.length → (∀ (i : Nat) (d : D) (v : V), ds[i]? = some d → vs[i]? = some v → Sh K Z H d v) → Shs K Z H ds vs
  | [], [], _, _ => rfl
  | d :: ds, v :: vs, h, q => ⟨v, vs, rfl, q 0 d v rfl rfl, Shs.of (by simpa using h) fun i d v h1 h2 => q (i + 1) d v (by simpa using h1) (by simpa using h2)⟩
  | [], _ :: _, h, _ => by simp at h
  | _ :: _, [], h, _ => by simp at h
section
variable {K : PySem.W.Frag} {Z Z' : AP} {H H' : Hp} {P P' : AP}
theorem Ow.keep (hs : ∀ d v, Sh K Z H d v → Sh K Z' H' d v) : ∀ (n : Nat) (d : D) (v : V) (P : AP), (∀ b, P b → Z b → H b ≠ none → H' b = H b ∧ Z' b) → Ow K Z H n d v P → Ow K Z' H' n d v P
  | 0, d, v, P, _, h => hs d v h
  | n + 1, d, v, P, hp, h => by
    cases d with
    | lst ds =>
      obtain ⟨a, vs, e, pa, za, ha, l, Q, q1, q2, q3⟩ := h
      obtain ⟨e1, e2⟩ := hp a pa za (by rw [ha]; exact fun z => nomatch z)
      exact ⟨a, vs, e, pa, e2, by rw [e1]; exact ha, l, Q, q1, q2, fun i d v h1 h2 => Ow.keep hs n d v (Q i) (fun b hb => hp b (q1 i b hb).1) (q3 i d v h1 h2)⟩
    | _ => exact hs _ _ h
theorem Ow.more (hP : ∀ b, P b → P' b) : ∀ {n : Nat} {d : D} {v : V}, Ow K Z H n d v P → Ow K Z H n d v P'
  | 0, _, _, h => h
  | n + 1, d, v, h => by
    cases d with
    | lst ds =>
      obtain ⟨a, vs, e, pa, za, ha, l, Q, q1, q2, q3⟩ := h
      exact ⟨a, vs, e, hP a pa, za, ha, l, Q, fun i b hb => ⟨hP b (q1 i b hb).1, (q1 i b hb).2⟩, q2, q3⟩
    | _ => exact h
/-- as shared data, once its addresses are given up -/
theorem Ow.frz (hZ : ∀ b, Z' b → Z b ∧ ¬ P b) : ∀ {n : Nat} {d : D} {v : V} {P1 : AP}, (∀ b, P1 b → P b) → Ow K Z H n d v P1 → Sh K Z' H d v
  | 0, d, v, _, _, h => h.less fun b z => (hZ b z).1
  | n + 1, d, v, P1, h1, h => by
    cases d with
    | lst ds =>
      obtain ⟨a, vs, e, pa, za, ha, l, Q, q1, q2, q3⟩ := h
      exact ⟨a, vs, e, RdL.new ha fun z => (hZ a z).2 (h1 a pa), Shs.of l fun i d v e1 e2 => Ow.frz hZ (fun b hb => h1 b (q1 i b hb).1) (q3 i d v e1 e2)⟩
    | _ => exact Sh.less (fun b z => (hZ b z).1) h
theorem Ow.cur {n : Nat} {d : D} {v : V} (h : Ow K Z H n d v P) : Sh K Z0 H d v := Ow.frz (P := P) (fun _ z => z.elim) (fun _ z => z) h
theorem Ow.same (s : Same H H') {n : Nat} {d : D} {v : V} (h : Ow K Z H n d v P) : Ow K Z H' n d v P := by
  refine Ow.keep (fun d v q => q.same s) n d v P (fun b _ hz hn => ⟨?_, hz⟩) h
  cases e : H b with
  | none => exact absurd e hn
  | some o => exact s b o e
end

/-! ### the state -/
structure DC where
  ks : List Nat
  pl : List Nat
  pv : Nat → Option (Option V)
  M : AP
  Zi : AP
  Hi : Hp
/-- what may be owned -/
def mutO : HO → Bool
  | .lst _ => true
  | .dK _ => true
  | .dT _ => true
  | .set _ _ => true
  | .ins _ _ _ => true
  | _ => false
structure RS (c : DC) (K : PySem.W.Frag) (ρ : Ev) (Z : AP) (σ : L2.St) (H : Hp) (fo : Nat → AP) : Prop where
  len : ρ.length = σ.length
  val : ∀ i d, ρ[i]? = some (some d) → ∃ v, σ[i]? = some (some v) ∧ Ow K Z H (c.ks.getD i 0) d v (fo i)
  dis : ∀ i j b, fo i b → fo j b → i = j
  own : ∀ b, Z b → ∃ o, H b = some o ∧ mutO o = true
  sub : ∀ i b, fo i b → Z b ∧ (c.M b ∨ c.Hi b = none)
  e1 : ∀ b o, c.Hi b = some o → ¬ c.M b → H b = some o
  dm : ∀ b, H b = none → c.Hi b = none
  e2 : ∀ b, Z b → c.Zi b ∨ c.Hi b = none
  e3 : ∀ b, c.Zi b → ¬ c.M b → Z b
  zi : ∀ b, c.Zi b → c.Hi b ≠ none
  pin : ∀ i ∈ c.pl, σ[i]? = c.pv i
/-- one step of the program: only what slots own changes -/
structure Stp (fo : Nat → AP) (Z : AP) (H : Hp) (fo' : Nat → AP) (Z' : AP) (H' : Hp) : Prop where
  k1 : ∀ b o, H b = some o → (∀ i, ¬ fo i b) → H' b = some o
  k2 : ∀ b, Z' b → Z b ∨ H b = none ∨ ∃ i, fo i b
  k3 : ∀ b, Z b → H b ≠ none → (∀ i, ¬ fo i b) → Z' b
  k4 : ∀ i b, fo' i b → (∃ j, fo j b) ∨ H b = none
section
variable {fo fo' fo'' : Nat → AP} {Z Z' Z'' : AP} {H H' H'' : Hp}
theorem Stp.refl : Stp fo Z H fo Z H := ⟨fun _ _ h _ => h, fun _ h => .inl h, fun _ h _ _ => h, fun i _ h => .inl ⟨i, h⟩⟩
theorem Stp.same (s : Same H H') : Stp fo Z H fo Z H' := ⟨fun b o h _ => s b o h, fun _ h => .inl h, fun _ h _ _ => h, fun i _ h => .inl ⟨i, h⟩⟩
theorem Stp.none (s : Stp fo Z H fo' Z' H') {b : Addr} (h : H' b = Option.none) : H b = Option.none ∨ ∃ i, fo i b := by
  by_cases hf : ∃ i, fo i b
  · exact .inr hf
  · refine .inl ?_
    cases e : H b with
    | none => rfl
    | some o =>
      have := s.k1 b o e fun i hi => hf ⟨i, hi⟩
      rw [h] at this; cases this
theorem Stp.nf (s : Stp fo Z H fo' Z' H') {b : Addr} {o : HO} (e : H b = some o) (h : ∀ i, ¬ fo i b) : ∀ i, ¬ fo' i b := fun i hi => by
  rcases s.k4 i b hi with ⟨j, hj⟩ | z
  · exact h j hj
  · rw [z] at e; cases e
theorem Stp.trans (a : Stp fo Z H fo' Z' H') (c : Stp fo' Z' H' fo'' Z'' H'') : Stp fo Z H fo'' Z'' H'' := by
  refine ⟨fun b o h hf => c.k1 b o (a.k1 b o h hf) (a.nf h hf), fun b hb => ?_, fun b hb hn hf => ?_, fun i b hb => ?_⟩
  · rcases c.k2 b hb with z | z | ⟨i, z⟩
    · exact a.k2 b z
    · exact .inr (a.none z)
    · rcases a.k4 i b z with z | z
      · exact .inr (.inr z)
      · exact .inr (.inl z)
  · cases e : H b with
    | none => exact absurd e hn
    | some o =>
      have e1 := a.k1 b o e hf
      exact c.k3 b (a.k3 b hb hn hf) (by rw [e1]; exact fun z => nomatch z) (a.nf e hf)
  · rcases c.k4 i b hb with ⟨j, hj⟩ | z
    · exact a.k4 j b hj
    · exact (a.none z).symm
theorem Stp.s0 {c : DC} {K : PySem.W.Frag} {ρ : Ev} {σ : L2.St} (s : Stp fo Z H fo' Z' H') (R : RS c K ρ Z σ H fo) : Stp0 Z H Z' H' := by
  refine ⟨fun b o h hz => s.k1 b o h fun i hi => hz (R.sub i b hi).1, fun b hb => ?_⟩
  rcases s.k2 b hb with z | z | ⟨i, z⟩
  · exact .inl z
  · exact .inr z
  · exact .inl (R.sub i b z).1
end
section
variable {c : DC} {K : PySem.W.Frag} {ρ : Ev} {Z Z' : AP} {σ : L2.St} {H H' : Hp} {fo : Nat → AP}
theorem RS.same (s : Same H H') (r : RS c K ρ Z σ H fo) : RS c K ρ Z σ H' fo :=
  { r with
    val := fun i d h => let ⟨v, h1, h2⟩ := r.val i d h; ⟨v, h1, h2.same s⟩
    own := fun b hb => let ⟨o, h1, h2⟩ := r.own b hb; ⟨o, s b o h1, h2⟩
    e1 := fun b o h1 h2 => s b o (r.e1 b o h1 h2)
    dm := fun b h => r.dm b (s.free h) }
theorem same_upd {H : Hp} {p : Addr} {o : HO} (h : H p = none) : Same H (upd H p o) := fun b x e => by
  rw [upd_ne (ne_of_none e h)]
  exact e
theorem RS.ownN (r : RS c K ρ Z σ H fo) : ∀ b, Z b → H b ≠ none := fun b hb z => by
  obtain ⟨o, h1, _⟩ := r.own b hb
  rw [z] at h1; cases h1
theorem RS.nz {p : Addr} (r : RS c K ρ Z σ H fo) (h : H p = none) : ¬ Z p := fun z => r.ownN p z h
theorem RS.notup (r : RS c K ρ Z σ H fo) : ∀ b u, Z b → H b ≠ some (.tup u) := fun b u hb h => by
  obtain ⟨o, h1, h2⟩ := r.own b hb
  rw [h1] at h; cases h; cases h2
/-- a slot of level 0 set to shared data -/
theorem npl {l : List Nat} {i : Nat} (h : l.contains i = false) : i ∉ l := fun z => by
  rw [List.contains_iff_mem.mpr z] at h
  cases h
theorem RS.set {i : Nat} {d : D} {v : V} (r : RS c K ρ Z σ H fo) (hk : c.ks.getD i 0 = 0) (hp0 : c.pl.contains i = false) (h : Sh K Z H d v) : RS c K (ρ.set i (some d)) Z (σ.set i (some v)) H fo := by
  have hp := npl hp0
  refine { r with len := by rw [List.length_set, List.length_set]; exact r.len, val := fun j e he => ?_, pin := fun j hj => ?_ }
  · by_cases q : i = j
    · subst q
      by_cases hl : i < ρ.length
      · rw [List.getElem?_set_self hl] at he
        have e1 : d = e := Option.some.inj (Option.some.inj he)
        subst e1
        exact ⟨v, List.getElem?_set_self (r.len ▸ hl), by rw [hk]; exact h⟩
      · rw [List.getElem?_eq_none (by simpa using hl)] at he; cases he
    · rw [List.getElem?_set_ne q] at he
      obtain ⟨w, h1, h2⟩ := r.val j e he
      exact ⟨w, by rw [List.getElem?_set_ne q]; exact h1, h2⟩
  · rw [List.getElem?_set_ne (fun (e : i = j) => hp (by rw [e]; exact hj))]
    exact r.pin j hj
/-- a slot forgotten -/
theorem RS.unset (r : RS c K ρ Z σ H fo) (i : Nat) : RS c K (ρ.set i none) Z σ H fo := by
  refine { r with len := by rw [List.length_set]; exact r.len, val := fun j e he => ?_ }
  by_cases q : i = j
  · subst q
    by_cases hl : i < ρ.length
    · rw [List.getElem?_set_self hl] at he; cases he
    · rw [List.getElem?_eq_none (by simpa using hl)] at he; cases he
  · rw [List.getElem?_set_ne q] at he
    exact r.val j e he
end

/-! ### judgements: expressions -/
def Rp (K : PySem.W.Frag) (b : Bool) (Z : AP) (H : Hp) (d : D) (v : V) : Prop := Sh K (if b = true then Z0 else Z) H d v
def Rps (K : PySem.W.Frag) (b : Bool) (Z : AP) (H : Hp) (ds : List D) (vs : List V) : Prop := Shs K (if b = true then Z0 else Z) H ds vs
/-- f reads the expression: q: it changes nothing; b: what it gives is only borrowed -/
def tD (c : DC) (K : PySem.W.Frag) (q b : Bool) (f : Ev → Res (D × Ev)) : TE := fun σ H Q => ∃ ρ Z fo, RS c K ρ Z σ H fo ∧ ∃ d ρ', f ρ = .ok (d, ρ') ∧
  ∀ v H' Z' fo', RS c K ρ' Z' σ H' fo' → Stp fo Z H fo' Z' H' → (q = true → Same H H') → Rp K b Z' H' d v → Q v H'
def tDs (c : DC) (K : PySem.W.Frag) (q b : Bool) (n : Nat) (f : Ev → Res (List D × Ev)) : TA := fun σ H Q => ∃ ρ Z fo, RS c K ρ Z σ H fo ∧ ∃ ds ρ', f ρ = .ok (ds, ρ') ∧
  ∀ vs H' Z' fo', RS c K ρ' Z' σ H' fo' → Stp fo Z H fo' Z' H' → (q = true → Same H H') → vs.length = n → Rps K b Z' H' ds vs → Q vs H'
def tT (c : DC) (K : PySem.W.Frag) (q : Bool) (f : Ev → Res (Bool × Ev)) : TT := fun σ H Q => ∃ ρ Z fo, RS c K ρ Z σ H fo ∧ ∃ k ρ', f ρ = .ok (k, ρ') ∧
  ∀ H' Z' fo', RS c K ρ' Z' σ H' fo' → Stp fo Z H fo' Z' H' → (q = true → Same H H') → Q k H'
structure DE (X : Cx) (c : DC) (q b : Bool) (e : Expr) (f : Ev → Res (D × Ev)) : Prop where
  pe : PE X e (tD c X.K q b f)
structure DAs (X : Cx) (c : DC) (q b : Bool) (es : List Expr) (f : Ev → Res (List D × Ev)) : Prop where
  pa : PA X es (tDs c X.K q b es.length f)
structure DT (X : Cx) (c : DC) (q : Bool) (e : Expr) (f : Ev → Res (Bool × Ev)) : Prop where
  pt : PT X e (tT c X.K q f)
theorem PE.imp {X : Cx} {e : Expr} {t u : TE} (h : PE X e t) (k : ∀ σ H Q, u σ H Q → t σ H Q) : PE X e u := ⟨fun pins s σ H Q I q => h.run pins s σ H Q I (k _ _ _ q)⟩
theorem PT.imp {X : Cx} {e : Expr} {t u : TT} (h : PT X e t) (k : ∀ σ H Q, u σ H Q → t σ H Q) : PT X e u := ⟨fun pins s σ H Q I q => h.run pins s σ H Q I (k _ _ _ q)⟩
theorem PA.imp {X : Cx} {es : List Expr} {t u : TA} (h : PA X es t) (k : ∀ σ H Q, u σ H Q → t σ H Q) : PA X es u := ⟨fun pos pins s σ H Q I q => h.run pos pins s σ H Q I (k _ _ _ q)⟩
theorem PS.imp {X : Cx} {e : Stmt} {t u : TS} (h : PS X e t) (k : ∀ D σ H, u D σ H → t D σ H) : PS X e u := ⟨fun pins s σ H D I q => h.run pins s σ H D I (k _ _ _ q)⟩
theorem PSs.imp {X : Cx} {e : List Stmt} {t u : TS} (h : PSs X e t) (k : ∀ D σ H, u D σ H → t D σ H) : PSs X e u := ⟨fun pins s σ H D I q => h.run pins s σ H D I (k _ _ _ q)⟩
/-- what a borrowed or shared value keeps behind a later expression -/
theorem Rp.keep {c : DC} {K : PySem.W.Frag} {ρ : Ev} {σ : L2.St} {fo fo' : Nat → AP} {b q : Bool} {Z Z' : AP} {H H' : Hp} {d : D} {v : V} (R : RS c K ρ Z σ H fo) (hq : b = true → q = true) (s : Stp fo Z H fo' Z' H') (sm : q = true → Same H H') (h : Rp K b Z H d v) : Rp K b Z' H' d v := by
  cases b with
  | false => exact Sh.stp (s.s0 R) h
  | true => exact Sh.same (sm (hq rfl)) h
theorem Rps.keep {c : DC} {K : PySem.W.Frag} {ρ : Ev} {σ : L2.St} {fo fo' : Nat → AP} {b q : Bool} {Z Z' : AP} {H H' : Hp} {d : List D} {v : List V} (R : RS c K ρ Z σ H fo) (hq : b = true → q = true) (s : Stp fo Z H fo' Z' H') (sm : q = true → Same H H') (h : Rps K b Z H d v) : Rps K b Z' H' d v := by
  cases b with
  | false => exact Shs.stp (s.s0 R) h
  | true => exact Shs.same (sm (hq rfl)) h
theorem zb_own {b : Bool} {Z : AP} {H : Hp} (h : ∀ a, Z a → H a ≠ none) : ∀ a, (if b = true then Z0 else Z) a → H a ≠ none := by
  cases b with
  | false => exact h
  | true => exact fun a z => z.elim

section
variable {X : Cx} {c : DC} {q b : Bool}
/-! names, constants -/
def dVar (i : Nat) (ρ : Ev) : Res (D × Ev) := match ρ[i]? with
  | some (some d) => .ok (d, ρ)
  | _ => .err
theorem dVar_ok {i : Nat} {ρ ρ' : Ev} {d : D} (h : dVar i ρ = .ok (d, ρ')) : ρ[i]? = some (some d) ∧ ρ' = ρ := by
  unfold dVar at h
  split at h
  · rename_i e he
    have h2 := Res.ok.inj h
    cases h2
    exact ⟨he, rfl⟩
  · cases h
theorem de_var (i : Nat) {x : Str} {pos : Pos} (hk : c.ks.getD i 0 = 0 := by rfl) (hN : X.N[i]? = some x := by rfl) (hv : Vis X.env.scope x := by first | exact Or.inl rfl | exact Or.inr (Or.inl rfl) | exact Or.inr (Or.inr rfl)) (hd : (x == ("__debug__" : Str)) = false := by decide)
    (hcd : (x == ("__classdict__" : Str)) = false := by decide) : DE X c q false (.Name x pos) (dVar i) := ⟨by
  refine PE.imp (pe_var hN hv hd hcd) fun σ H Q ⟨ρ, Z, fo, R, d, ρ', hf, k⟩ => ?_
  obtain ⟨e, rfl⟩ := dVar_ok hf
  obtain ⟨v, h1, h2⟩ := R.val i d e
  rw [hk] at h2
  exact ⟨v, h1, k v H Z fo R Stp.refl (fun _ => Same.refl H) h2⟩⟩
/-- a name of any level, borrowed -/
theorem de_bor (i : Nat) {x : Str} {pos : Pos} (hN : X.N[i]? = some x := by rfl) (hv : Vis X.env.scope x := by first | exact Or.inl rfl | exact Or.inr (Or.inl rfl) | exact Or.inr (Or.inr rfl)) (hd : (x == ("__debug__" : Str)) = false := by decide)
    (hcd : (x == ("__classdict__" : Str)) = false := by decide) : DE X c q true (.Name x pos) (dVar i) := ⟨by
  refine PE.imp (pe_var hN hv hd hcd) fun σ H Q ⟨ρ, Z, fo, R, d, ρ', hf, k⟩ => ?_
  obtain ⟨e, rfl⟩ := dVar_ok hf
  obtain ⟨v, h1, h2⟩ := R.val i d e
  exact ⟨v, h1, k v H Z fo R Stp.refl (fun _ => Same.refl H) h2.cur⟩⟩
/-- a name of an owned list, given up: it is shared from here on, the slot is empty -/
def dTake (i : Nat) (ρ : Ev) : Res (D × Ev) := match ρ[i]? with
  | some (some d) => .ok (d, ρ.set i none)
  | _ => .err
theorem dTake_ok {i : Nat} {ρ ρ' : Ev} {d : D} (h : dTake i ρ = .ok (d, ρ')) : ρ[i]? = some (some d) ∧ ρ' = ρ.set i none := by
  unfold dTake at h
  split at h
  · rename_i e he
    have h2 := Res.ok.inj h
    cases h2
    exact ⟨he, rfl⟩
  · cases h
theorem RS.give {K : PySem.W.Frag} {ρ : Ev} {Z : AP} {σ : L2.St} {H : Hp} {fo : Nat → AP} {i : Nat} {d : D} (R : RS c K ρ Z σ H fo) (e : ρ[i]? = some (some d)) :
    ∃ v, σ[i]? = some (some v) ∧ RS c K (ρ.set i none) (fun b => Z b ∧ ¬ fo i b) σ H (fun j b => fo j b ∧ j ≠ i) ∧ Stp fo Z H (fun j b => fo j b ∧ j ≠ i) (fun b => Z b ∧ ¬ fo i b) H ∧ Sh K (fun b => Z b ∧ ¬ fo i b) H d v := by
  obtain ⟨v, h1, h2⟩ := R.val i d e
  have st : Stp0 Z H (fun b => Z b ∧ ¬ fo i b) H := ⟨fun _ _ h _ => h, fun b hb => .inl hb.1⟩
  refine ⟨v, h1, ?_, ⟨fun _ _ h _ => h, fun b hb => .inl hb.1, fun b hb _ hf => ⟨hb, hf i⟩, fun j b hb => .inl ⟨j, hb.1⟩⟩, Ow.frz (P := fo i) (fun b z => z) (fun b z => z) h2⟩
  refine { R with len := by rw [List.length_set]; exact R.len, val := fun j e he => ?_, dis := fun i j b h1 h2 => R.dis i j b h1.1 h2.1, own := fun b hb => R.own b hb.1, sub := fun j b hj => ⟨⟨(R.sub j b hj.1).1, fun z => hj.2 (R.dis j i b hj.1 z)⟩, (R.sub j b hj.1).2⟩, e2 := fun b hb => R.e2 b hb.1, e3 := fun b h1 h2 => ⟨R.e3 b h1 h2, fun z => ?_⟩ }
  · by_cases q : i = j
    · subst q
      by_cases hl : i < ρ.length
      · rw [List.getElem?_set_self hl] at he; cases he
      · rw [List.getElem?_eq_none (by simpa using hl)] at he; cases he
    · rw [List.getElem?_set_ne q] at he
      obtain ⟨w, h3, h4⟩ := R.val j e he
      refine ⟨w, h3, Ow.more (P := fo j) (fun b hb => ⟨hb, fun z => q z.symm⟩) (Ow.keep (fun d v s => s.stp st) _ e w (fo j) (fun b hb hz hn => ⟨rfl, hz, fun z => q (R.dis i j b z hb)⟩) h4)⟩
  · rcases (R.sub i b z).2 with z2 | z2
    · exact h2 z2
    · exact R.zi b h1 z2
theorem de_take (i : Nat) {x : Str} {pos : Pos} (hN : X.N[i]? = some x := by rfl) (hv : Vis X.env.scope x := by first | exact Or.inl rfl | exact Or.inr (Or.inl rfl) | exact Or.inr (Or.inr rfl)) (hd : (x == ("__debug__" : Str)) = false := by decide)
    (hcd : (x == ("__classdict__" : Str)) = false := by decide) : DE X c q false (.Name x pos) (dTake i) := ⟨by
  refine PE.imp (pe_var hN hv hd hcd) fun σ H Q ⟨ρ, Z, fo, R, d, ρ', hf, k⟩ => ?_
  obtain ⟨e, rfl⟩ := dTake_ok hf
  obtain ⟨v, h1, R2, st, s⟩ := R.give e
  exact ⟨v, h1, k v H _ _ R2 st (fun _ => Same.refl H) s⟩⟩
/-- shared may be read as borrowed -/
theorem de_b {e : Expr} {f : Ev → Res (D × Ev)} (h : DE X c q false e f) : DE X c q true e f := ⟨by
  refine PE.imp h.pe fun σ H Q ⟨ρ, Z, fo, R, d, ρ', hf, k⟩ => ⟨ρ, Z, fo, R, d, ρ', hf, fun v H' Z' fo' R' st sm s => k v H' Z' fo' R' st sm (Sh.cur s)⟩⟩
/-- a quiet one is one -/
theorem de_q {e : Expr} {f : Ev → Res (D × Ev)} (h : DE X c true b e f) : DE X c false b e f := ⟨by
  refine PE.imp h.pe fun σ H Q ⟨ρ, Z, fo, R, d, ρ', hf, k⟩ => ⟨ρ, Z, fo, R, d, ρ', hf, fun v H' Z' fo' R' st sm s => k v H' Z' fo' R' st (fun z => nomatch z) s⟩⟩
/-! no list within: borrowed is shared -/
mutual
def D.calm : D → Bool
  | .tup ds => D.calms ds
  | .lst _ => false
  | _ => true
def D.calms : List D → Bool
  | [] => true
  | d :: ds => d.calm && D.calms ds
end
end
end DL
/-! operators, comparisons, tests, displays, subscripts, built-in calls -/
namespace DL
open PySem PySem.Spec PyProof.Rows L2

/-! ### operators by values -/
/-- the pure operator g tells what the rule r asks -/
def OpD (K : PySem.W.Frag) (r : R2) (g : D → D → Res D) : Prop := ∀ (Z : AP) (H : Hp) (d e z : D) (x y : V) (Q : VK), (∀ a, Z a → H a ≠ none) → Sh K Z H d x → Sh K Z H e y → g d e = .ok z →
  (∀ v H', Same H H' → Sh K Z H' z v → Q v H') → r x y H Q
def UnD (K : PySem.W.Frag) (r : V → Hp → VK → Prop) (g : D → Res D) : Prop := ∀ (Z : AP) (H : Hp) (d z : D) (x : V) (Q : VK), (∀ a, Z a → H a ≠ none) → Sh K Z H d x → g d = .ok z →
  (∀ v H', Same H H' → Sh K Z H' z v → Q v H') → r x H Q
def CallD (K : PySem.W.Frag) (r : List V → Hp → VK → Prop) (g : List D → Res D) : Prop := ∀ (Z : AP) (H : Hp) (ds : List D) (z : D) (xs : List V) (Q : VK), (∀ a, Z a → H a ≠ none) → Shs K Z H ds xs → g ds = .ok z →
  (∀ v H', Same H H' → Sh K Z H' z v → Q v H') → r xs H Q
def dOp (g : D → D → Res D) (fa fb : Ev → Res (D × Ev)) (ρ : Ev) : Res (D × Ev) := (fa ρ).bind fun p => (fb p.2).bind fun r => (g p.1 r.1).bind fun z => .ok (z, r.2)
def dUn (g : D → Res D) (fa : Ev → Res (D × Ev)) (ρ : Ev) : Res (D × Ev) := (fa ρ).bind fun p => (g p.1).bind fun z => .ok (z, p.2)
def dConst (d : D) (ρ : Ev) : Res (D × Ev) := .ok (d, ρ)
section
variable {X : Cx} {c : DC} {q b : Bool} {a e : Expr} {fa fb : Ev → Res (D × Ev)} {pos : Pos}
theorem tOpD {K : PySem.W.Frag} {r : R2} {g : D → D → Res D} (h : OpD K r g) (hq : b = true → q = true) {σ : L2.St} {H : Hp} {Q : VK} (t : tD c K q b (dOp g fa fb) σ H Q) : tOp r (tD c K q b fa) (tD c K q b fb) σ H Q := by
  obtain ⟨ρ, Z, fo, R, d, ρ', hf, k⟩ := t
  obtain ⟨⟨d1, ρ1⟩, h1, hf⟩ := Res.bind_ok hf
  obtain ⟨⟨d2, ρ2⟩, h2, hf⟩ := Res.bind_ok hf
  obtain ⟨z, h3, hf⟩ := Res.bind_ok hf
  cases hf
  refine ⟨ρ, Z, fo, R, d1, ρ1, h1, fun x H1 Z1 fo1 R1 s1 m1 p1 => ⟨ρ1, Z1, fo1, R1, d2, ρ2, h2, fun y H2 Z2 fo2 R2 s2 m2 p2 => ?_⟩⟩
  refine h _ H2 d1 d2 _ x y Q (zb_own R2.ownN) (Rp.keep R1 hq s2 m2 p1) p2 h3 fun v H3 sm p3 => ?_
  exact k v H3 Z2 fo2 (R2.same sm) ((s1.trans s2).trans (Stp.same sm)) (fun hq => ((m1 hq).trans (m2 hq)).trans sm) p3
theorem de_op {op : Operator} {r : R2} {g : D → D → Res D} (ho : OpR X (binaryOp op) r) (h : OpD X.K r g) (ha : DE X c q b a fa) (hb : DE X c q b e fb) (hq : b = true → q = true := by decide) : DE X c q b (.BinOp a op e pos) (dOp g fa fb) :=
  ⟨PE.imp (pe_op ho ha.pe hb.pe) fun _ _ _ t => tOpD h hq t⟩
theorem de_cmp {op : CmpOp} {r : R2} {g : D → D → Res D} (ho : OpR X (compareOp op) r) (h : OpD X.K r g) (ha : DE X c q b a fa) (hb : DE X c q b e fb) (hm : behindInMarks op e = false) (hq : b = true → q = true := by decide) : DE X c q b (.Compare a [op] [e] pos) (dOp g fa fb) :=
  ⟨PE.imp (pe_cmpR ho ha.pe hb.pe hm) fun _ _ _ t => tOpD h hq t⟩
theorem de_ix {r : R2} {g : D → D → Res D} (ho : IxR X r) (h : OpD X.K r g) (ha : DE X c q b a fa) (hb : DE X c q b e fb) (hs : PlainIx e := by intro _ _; rfl) (hq : b = true → q = true := by decide) : DE X c q b (.Subscript a e pos) (dOp g fa fb) :=
  ⟨PE.imp (pe_ix ho ha.pe hb.pe hs) fun _ _ _ t => tOpD h hq t⟩
theorem de_un {op : UnaryOp} {r : V → Hp → VK → Prop} {g : D → Res D} (ho : UnR X (unaryOp op) r) (h : UnD X.K r g) (ha : DE X c q b a fa) : DE X c q b (.UnaryOp op a pos) (dUn g fa) := ⟨by
  refine PE.imp (pe_un ho ha.pe) fun σ H Q ⟨ρ, Z, fo, R, d, ρ', hf, k⟩ => ?_
  obtain ⟨⟨d1, ρ1⟩, h1, hf⟩ := Res.bind_ok hf
  obtain ⟨z, h3, hf⟩ := Res.bind_ok hf
  cases hf
  refine ⟨ρ, Z, fo, R, d1, ρ1, h1, fun x H1 Z1 fo1 R1 s1 m1 p1 => ?_⟩
  exact h _ H1 d1 _ x Q (zb_own R1.ownN) p1 h3 fun v H3 sm p3 => k v H3 Z1 fo1 (R1.same sm) (s1.trans (Stp.same sm)) (fun hq => (m1 hq).trans sm) p3⟩
/-- constants -/
theorem de_const {e : Expr} {d : D} {v : V} (h : PE X e (tC v)) (hs : ∀ K Z H, Sh K Z H d v) : DE X c q b e (dConst d) := ⟨by
  refine PE.imp h fun σ H Q ⟨ρ, Z, fo, R, d, ρ', hf, k⟩ => ?_
  cases hf
  exact k v H Z fo R Stp.refl (fun _ => Same.refl H) (hs _ _ _)⟩
theorem de_int {i : Int} {j pos} : DE X c q b (.Constant (.int i) j pos) (dConst (.int i)) := de_const pe_int fun _ _ _ => rfl
theorem de_str {x : PySem.Str} {j pos} : DE X c q b (.Constant (.str x) j pos) (dConst (.str x)) := de_const pe_str fun _ _ _ => rfl
theorem de_bl {x : Bool} {j pos} : DE X c q b (.Constant (.bool x) j pos) (dConst (.bl x)) := de_const pe_bl fun _ _ _ => rfl
theorem de_non {j pos} : DE X c q b (.Constant .none j pos) (dConst .non) := de_const pe_non fun _ _ _ => rfl
/-- borrowed and without a list: shared -/
def dCalm (f : Ev → Res (D × Ev)) (ρ : Ev) : Res (D × Ev) := (f ρ).bind fun p => if p.1.calm = true then .ok p else .err
mutual
theorem Sh.calm {K : PySem.W.Frag} {Z : AP} {H : Hp} (hz : ∀ b u, Z b → H b ≠ some (.tup u)) : ∀ (d : D) (v : V), d.calm = true → Sh K Z0 H d v → Sh K Z H d v
  | .non, _, _, h => h
  | .bl _, _, _, h => h
  | .int _, _, _, h => h
  | .str _, _, _, h => h
  | .fn _, _, _, h => h
  | .ty _, _, _, h => h
  | .lst _, _, hc, _ => by cases hc
  | .tup ds, _, hc, ⟨a, vs, e, r, s⟩ => by
    refine ⟨a, vs, e, ?_, Shs.calm hz ds vs hc s⟩
    rcases r with ⟨r, _⟩ | r
    · exact .inl ⟨r, fun z => hz a vs z r⟩
    · exact .inr r
theorem Shs.calm {K : PySem.W.Frag} {Z : AP} {H : Hp} (hz : ∀ b u, Z b → H b ≠ some (.tup u)) : ∀ (ds : List D) (vs : List V), D.calms ds = true → Shs K Z0 H ds vs → Shs K Z H ds vs
  | [], _, _, h => h
  | d :: ds, _, hc, ⟨v, r, e, s1, s2⟩ => by
    have hc' : (d.calm && D.calms ds) = true := hc
    rw [Bool.and_eq_true] at hc'
    exact ⟨v, r, e, Sh.calm hz d v hc'.1 s1, Shs.calm hz ds r hc'.2 s2⟩
end
theorem de_calm {f : Ev → Res (D × Ev)} (h : DE X c q true e f) : DE X c q false e (dCalm f) := ⟨by
  refine PE.imp h.pe fun σ H Q ⟨ρ, Z, fo, R, d, ρ', hf, k⟩ => ?_
  obtain ⟨⟨d1, ρ1⟩, h1, hf⟩ := Res.bind_ok hf
  by_cases hc : d1.calm = true
  · rw [if_pos hc] at hf
    cases hf
    exact ⟨ρ, Z, fo, R, _, _, h1, fun v H1 Z1 fo1 R1 s1 m1 p1 => k v H1 Z1 fo1 R1 s1 m1 (Sh.calm R1.notup _ v hc p1)⟩
  · rw [if_neg hc] at hf
    cases hf⟩

/-! ### lists of expressions, displays -/
def dNil (ρ : Ev) : Res (List D × Ev) := .ok ([], ρ)
def dCons (f : Ev → Res (D × Ev)) (g : Ev → Res (List D × Ev)) (ρ : Ev) : Res (List D × Ev) := (f ρ).bind fun p => (g p.2).bind fun r => .ok (p.1 :: r.1, r.2)
theorem das_nil : DAs X c q b [] dNil := ⟨by
  refine PA.imp pa_nil fun σ H Q ⟨ρ, Z, fo, R, ds, ρ', hf, k⟩ => ?_
  cases hf
  exact k [] H Z fo R Stp.refl (fun _ => Same.refl H) rfl rfl⟩
theorem das_cons {es : List Expr} {f : Ev → Res (D × Ev)} {g : Ev → Res (List D × Ev)} (ha : DE X c q b a f) (hr : DAs X c q b es g) (hq : b = true → q = true := by decide)
    (hs : starEach (a :: es) X.env = (false, eval a X.env) :: starEach es X.env := by rfl) : DAs X c q b (a :: es) (dCons f g) := ⟨by
  refine PA.imp (pa_cons ha.pe hr.pa hs) fun σ H Q ⟨ρ, Z, fo, R, ds, ρ', hf, k⟩ => ?_
  obtain ⟨⟨d1, ρ1⟩, h1, hf⟩ := Res.bind_ok hf
  obtain ⟨⟨d2, ρ2⟩, h2, hf⟩ := Res.bind_ok hf
  cases hf
  refine ⟨ρ, Z, fo, R, d1, ρ1, h1, fun x H1 Z1 fo1 R1 s1 m1 p1 => ⟨ρ1, Z1, fo1, R1, d2, ρ2, h2, fun xs H2 Z2 fo2 R2 s2 m2 l2 p2 => ?_⟩⟩
  exact k (x :: xs) H2 Z2 fo2 R2 (s1.trans s2) (fun hq => (m1 hq).trans (m2 hq)) (by rw [List.length_cons, List.length_cons, l2]) ⟨x, xs, rfl, Rp.keep R1 hq s2 m2 p1, p2⟩⟩
def dTup (g : Ev → Res (List D × Ev)) (ρ : Ev) : Res (D × Ev) := (g ρ).bind fun p => .ok (.tup p.1, p.2)
theorem sizeLine_ge {n : Nat} (h : n ≤ 16777216) : n ≤ sizeLine := by rw [sizeLine_eq]; exact h
theorem zb_nz {b : Bool} {Z : AP} {p : Addr} (h : ¬ Z p) : ¬ (if b = true then Z0 else Z) p := by
  cases b with
  | false => exact h
  | true => exact fun z => z
theorem de_tup {es : List Expr} {k} {g : Ev → Res (List D × Ev)} (ha : DAs X c q b es g) (hl : es.length ≤ 16777216 := by decide) : DE X c q b (.Tuple es k pos) (dTup g) := ⟨by
  refine PE.imp (pe_tup ha.pa) fun σ H Q ⟨ρ, Z, fo, R, ds, ρ', hf, k⟩ => ?_
  obtain ⟨⟨d1, ρ1⟩, h1, hf⟩ := Res.bind_ok hf
  cases hf
  refine ⟨ρ, Z, fo, R, _, _, h1, fun xs H1 Z1 fo1 R1 s1 m1 l1 p1 => ⟨sizeLine_ge (by omega), fun p hp => ?_⟩⟩
  have sm : Same H1 (upd H1 p (.tup xs)) := same_upd hp
  exact k _ _ Z1 fo1 (R1.same sm) (s1.trans (Stp.same sm)) (fun hq => (m1 hq).trans sm) ⟨p, xs, rfl, RdT.new upd_same (zb_nz (R1.nz hp)), Shs.same sm p1⟩⟩
/-! a fresh list of the program's own: its addresses are new, or were a slot's -/
structure FrR (c : DC) (K : PySem.W.Frag) (fo0 : Nat → AP) (H0 : Hp) (fo : Nat → AP) (Z : AP) (H : Hp) (n : Nat) (d : D) (v : V) : Prop where
  ex : ∃ P : AP, Ow K Z H (n + 1) d v P ∧ (∀ b, P b → Z b ∧ (c.M b ∨ c.Hi b = none)) ∧ (∀ i b, P b → ¬ fo i b) ∧ ∀ b, P b → (∃ j, fo0 j b) ∨ H0 b = none
def tF (c : DC) (K : PySem.W.Frag) (n : Nat) (f : Ev → Res (D × Ev)) : TE := fun σ H Q => ∃ ρ Z fo, RS c K ρ Z σ H fo ∧ ∃ d ρ', f ρ = .ok (d, ρ') ∧
  ∀ v H' Z' fo', RS c K ρ' Z' σ H' fo' → Stp fo Z H fo' Z' H' → FrR c K fo H fo' Z' H' n d v → Q v H'
structure DF (X : Cx) (c : DC) (n : Nat) (e : Expr) (f : Ev → Res (D × Ev)) : Prop where
  pe : PE X e (tF c X.K n f)
theorem FrR.back {K : PySem.W.Frag} {fo0 fo1 fo : Nat → AP} {Z0 Z1 Z : AP} {H0 H1 H : Hp} {n : Nat} {d : D} {v : V} (s : Stp fo0 Z0 H0 fo1 Z1 H1) (h : FrR c K fo1 H1 fo Z H n d v) : FrR c K fo0 H0 fo Z H n d v := by
  obtain ⟨P, h1, h2, h3, h4⟩ := h.ex
  refine ⟨P, h1, h2, h3, fun b hb => ?_⟩
  rcases h4 b hb with ⟨j, hj⟩ | z
  · exact s.k4 j b hj
  · exact (s.none z).symm
/-- an address that was free is owned from here on -/
theorem RS.take {K : PySem.W.Frag} {ρ : Ev} {Z : AP} {σ : L2.St} {H : Hp} {fo : Nat → AP} {p : Addr} {vs : List V} (R : RS c K ρ Z σ H fo) (hp : H p = none) :
    RS c K ρ (fun b => Z b ∨ b = p) σ (upd H p (.lst vs)) fo ∧ Stp fo Z H fo (fun b => Z b ∨ b = p) (upd H p (.lst vs)) := by
  have sm : Same H (upd H p (.lst vs)) := same_upd hp
  have st : Stp0 Z H (fun b => Z b ∨ b = p) (upd H p (.lst vs)) := ⟨fun b o h _ => sm b o h, fun b hb => hb.elim .inl fun e => .inr (e ▸ hp)⟩
  have R1 := R.same sm
  refine ⟨{ R1 with val := fun i d h => ?_, own := fun b hb => ?_, sub := fun i b hb => ⟨.inl (R.sub i b hb).1, (R.sub i b hb).2⟩, e2 := fun b hb => ?_, e3 := fun b h1 h2 => .inl (R.e3 b h1 h2) },
    ⟨fun b o h _ => sm b o h, fun b hb => hb.elim .inl fun e => .inr (.inl (e ▸ hp)), fun b hb _ _ => .inl hb, fun i b hb => .inl ⟨i, hb⟩⟩⟩
  · obtain ⟨v, h1, h2⟩ := R.val i d h
    refine ⟨v, h1, Ow.keep (fun d v s => s.stp st) _ d v (fo i) (fun b hb hz hn => ⟨?_, .inl hz⟩) h2⟩
    rw [upd_ne]
    intro e
    rw [e] at hn
    exact hn hp
  · rcases hb with hb | hb
    · exact R1.own b hb
    · exact ⟨.lst vs, by rw [hb]; exact upd_same, rfl⟩
  · rcases hb with hb | hb
    · exact R.e2 b hb
    · rw [hb]
      exact .inr (R.dm p hp)
/-- a new list of shared items -/
theorem FrR.new {K : PySem.W.Frag} {ρ : Ev} {Z : AP} {σ : L2.St} {H : Hp} {fo : Nat → AP} {p : Addr} {ds : List D} {vs : List V} (R : RS c K ρ Z σ H fo) (hp : H p = none) (h : Shs K Z H ds vs) :
    FrR c K fo H fo (fun b => Z b ∨ b = p) (upd H p (.lst vs)) 0 (.lst ds) (.ref p) := by
  obtain ⟨R1, st⟩ := R.take (vs := vs) hp
  refine ⟨fun b => b = p, ⟨p, vs, rfl, rfl, .inr rfl, upd_same, h.len, fun _ _ => False, fun _ _ z => z.elim, fun _ _ _ z _ => z.elim, fun i d v h1 h2 => ?_⟩, fun b hb => ⟨.inr hb, .inr (by rw [hb]; exact R.dm p hp)⟩, fun i b hb z => ?_, fun b hb => .inr (by rw [hb]; exact hp)⟩
  · obtain ⟨w, h3, h4⟩ := (h.stp (st.s0 R)).get h1
    rw [h3] at h2
    cases h2
    exact h4
  · rw [hb] at z
    exact R.nz hp (R.sub i p z).1
def dLst (g : Ev → Res (List D × Ev)) (ρ : Ev) : Res (D × Ev) := (g ρ).bind fun p => .ok (.lst p.1, p.2)
theorem df_lst {es : List Expr} {g : Ev → Res (List D × Ev)} (ha : DAs X c false false es g) (hl : es.length ≤ 16777216 := by decide) : DF X c 0 (.List es pos) (dLst g) := ⟨by
  refine PE.imp (pe_lst ha.pa) fun σ H Q ⟨ρ, Z, fo, R, ds, ρ', hf, k⟩ => ?_
  obtain ⟨⟨d1, ρ1⟩, h1, hf⟩ := Res.bind_ok hf
  cases hf
  refine ⟨ρ, Z, fo, R, _, _, h1, fun xs H1 Z1 fo1 R1 s1 m1 l1 p1 => ⟨sizeLine_ge (by omega), fun p hp => ?_⟩⟩
  obtain ⟨R2, st⟩ := R1.take (vs := xs) hp
  exact k _ _ _ fo1 R2 (s1.trans st) ((FrR.new R1 hp p1).back s1)⟩
/-- a fresh list, taken as shared data -/
theorem RS.freeze {K : PySem.W.Frag} {ρ : Ev} {Z Z0 : AP} {σ : L2.St} {H H0 : Hp} {fo fo0 : Nat → AP} {n : Nat} {d : D} {v : V} (R : RS c K ρ Z σ H fo) (s : Stp fo0 Z0 H0 fo Z H) (h : FrR c K fo0 H0 fo Z H n d v) :
    ∃ Z', RS c K ρ Z' σ H fo ∧ Stp fo0 Z0 H0 fo Z' H ∧ Sh K Z' H d v := by
  obtain ⟨P, h1, h2, h3, h4⟩ := h.ex
  have st : Stp0 Z H (fun b => Z b ∧ ¬ P b) H := ⟨fun _ _ h _ => h, fun b hb => .inl hb.1⟩
  refine ⟨fun b => Z b ∧ ¬ P b, ?_, ⟨s.k1, fun b hb => s.k2 b hb.1, fun b hb hn hf => ⟨s.k3 b hb hn hf, fun z => ?_⟩, s.k4⟩, Ow.frz (P := P) (fun b z => z) (fun b z => z) h1⟩
  refine { R with val := fun i e he => ?_, own := fun b hb => R.own b hb.1, sub := fun i b hb => ⟨⟨(R.sub i b hb).1, fun z => h3 i b z hb⟩, (R.sub i b hb).2⟩, e2 := fun b hb => R.e2 b hb.1, e3 := fun b z1 z2 => ⟨R.e3 b z1 z2, fun z => ?_⟩ }
  · obtain ⟨w, q1, q2⟩ := R.val i e he
    exact ⟨w, q1, Ow.keep (fun d v s => s.stp st) _ e w (fo i) (fun b hb hz hn => ⟨rfl, hz, fun z => h3 i b z hb⟩) q2⟩
  · rcases (h2 b z).2 with y | y
    · exact z2 y
    · exact R.zi b z1 y
  · rcases h4 b z with ⟨j, hj⟩ | y
    · exact hf j hj
    · exact hn y
theorem de_f {n : Nat} {f : Ev → Res (D × Ev)} (h : DF X c n e f) : DE X c false false e f := ⟨by
  refine PE.imp h.pe fun σ H Q ⟨ρ, Z, fo, R, d, ρ', hf, k⟩ => ⟨ρ, Z, fo, R, d, ρ', hf, fun v H1 Z1 fo1 R1 s1 p1 => ?_⟩
  obtain ⟨Z2, R2, s2, p2⟩ := R1.freeze s1 p1
  exact k v H1 Z2 fo1 R2 s2 (fun z => nomatch z) p2⟩

/-! ### tests -/
/-- truth -/
def gTru : D → Res Bool
  | .non => .ok false
  | .bl b => .ok b
  | .int i => .ok (i != 0)
  | .str x => if x.length ≤ 16777216 then .ok ((x.length : Int) != 0) else .err
  | .tup ds => .ok (!ds.isEmpty)
  | .lst ds => .ok (!ds.isEmpty)
  | .fn _ => .err
  | .ty _ => .err
theorem isEmpty_len {α β : Type} {xs : List α} {ys : List β} (h : xs.length = ys.length) : xs.isEmpty = ys.isEmpty := by
  cases xs <;> cases ys <;> simp at h ⊢
theorem gTru_ok {K : PySem.W.Frag} {Z : AP} {H : Hp} {d : D} {v : V} {k : Bool} (h : Sh K Z H d v) (g : gTru d = .ok k) : TruV K v H k := by
  cases d with
  | non => cases h; cases g; exact (rfl : false = false)
  | bl bb => cases h; cases g; exact (rfl : k = k)
  | int i => cases h; cases g; exact (rfl : (i != 0) = (i != 0))
  | str x =>
    cases h
    have g' : (if x.length ≤ 16777216 then Res.ok ((x.length : Int) != 0) else .err) = .ok k := g
    by_cases hl : x.length ≤ 16777216
    · rw [if_pos hl] at g'
      cases g'
      exact (⟨sizeLine_ge hl, rfl⟩ : x.length ≤ sizeLine ∧ _)
    · rw [if_neg hl] at g'; cases g'
  | tup ds =>
    obtain ⟨a, vs, rfl, r, s⟩ := h
    cases g
    exact .inr (.inl ⟨vs, r.sq, by rw [isEmpty_len s.len]⟩)
  | lst ds =>
    obtain ⟨a, vs, rfl, r, s⟩ := h
    cases g
    exact .inl ⟨vs, r.sq, by rw [isEmpty_len s.len]⟩
  | fn _ => cases g
  | ty _ => cases g
def dTru (f : Ev → Res (D × Ev)) (ρ : Ev) : Res (Bool × Ev) := (f ρ).bind fun p => (gTru p.1).bind fun k => .ok (k, p.2)
def dBool (f : Ev → Res (D × Ev)) (ρ : Ev) : Res (Bool × Ev) := (f ρ).bind fun p => match p.1 with
  | .bl k => .ok (k, p.2)
  | _ => .err
theorem dt_tru {f : Ev → Res (D × Ev)} (h : DE X c q b e f) (he : ∀ whole, isTrue e X.env whole = (do let v ← whole; standAt e.pos; holding [v] (truthy v)) := by intro _; rfl) : DT X c q e (dTru f) := ⟨by
  refine PT.imp (pt_truth h.pe he) fun σ H Q ⟨ρ, Z, fo, R, d, ρ', hf, k⟩ => ?_
  obtain ⟨⟨d1, ρ1⟩, h1, hf⟩ := Res.bind_ok hf
  obtain ⟨z, h3, hf⟩ := Res.bind_ok hf
  cases hf
  exact ⟨ρ, Z, fo, R, d1, ρ1, h1, fun v H1 Z1 fo1 R1 s1 m1 p1 => ⟨_, gTru_ok p1 h3, k H1 Z1 fo1 R1 s1 m1⟩⟩⟩
theorem tTestD {K : PySem.W.Frag} {t : TE} {σ : L2.St} {H : Hp} {f : Ev → Res (D × Ev)} {Q : Bool → Hp → Prop} (ht : ∀ Q, tD c K q b f σ H Q → t σ H Q) (h : tT c K q (dBool f) σ H Q) : tTest t σ H Q := by
  obtain ⟨ρ, Z, fo, R, d, ρ', hf, k⟩ := h
  obtain ⟨⟨d1, ρ1⟩, h1, hf⟩ := Res.bind_ok hf
  refine ht _ ⟨ρ, Z, fo, R, d1, ρ1, h1, fun v H1 Z1 fo1 R1 s1 m1 p1 => ?_⟩
  cases d1 with
  | bl z =>
    cases hf
    exact ⟨_, p1, k H1 Z1 fo1 R1 s1 m1⟩
  | _ => cases hf
theorem dt_cmp {op : CmpOp} {r : R2} {g : D → D → Res D} (ho : OpR X (compareOp op) r) (h : OpD X.K r g) (ha : DE X c q b a fa) (hb : DE X c q b e fb) (hm : behindInMarks op e = false) (hq : b = true → q = true := by decide) : DT X c q (.Compare a [op] [e] pos) (dBool (dOp g fa fb)) :=
  ⟨PT.imp (pt_cmpR ho ha.pe hb.pe hm) fun σ H Q t => tTestD (b := b) (fun Q' t' => tOpD h hq t') t⟩
def dNot (f : Ev → Res (Bool × Ev)) (ρ : Ev) : Res (Bool × Ev) := (f ρ).bind fun p => .ok (!p.1, p.2)
theorem dt_not {f : Ev → Res (Bool × Ev)} (h : DT X c q e f) : DT X c q (.UnaryOp .Not e pos) (dNot f) := ⟨by
  refine PT.imp (pt_not h.pt) fun σ H Q ⟨ρ, Z, fo, R, d, ρ', hf, k⟩ => ?_
  obtain ⟨⟨d1, ρ1⟩, h1, hf⟩ := Res.bind_ok hf
  cases hf
  exact ⟨ρ, Z, fo, R, d1, ρ1, h1, k⟩⟩
def dAnd (f g : Ev → Res (Bool × Ev)) (ρ : Ev) : Res (Bool × Ev) := (f ρ).bind fun p => if p.1 = true then g p.2 else .ok (false, p.2)
def dOr (f g : Ev → Res (Bool × Ev)) (ρ : Ev) : Res (Bool × Ev) := (f ρ).bind fun p => if p.1 = true then .ok (true, p.2) else g p.2
structure DW (X : Cx) (c : DC) (q : Bool) (e : Expr) (f : Ev → Res (Bool × Ev)) : Prop where
  pw : PW X e (tT c X.K q f)
theorem PW.imp {X : Cx} {e : Expr} {t u : TT} (h : PW X e t) (k : ∀ σ H Q, u σ H Q → t σ H Q) : PW X e u := ⟨fun wh pins s σ H Q I q => h.run wh pins s σ H Q I (k _ _ _ q)⟩
theorem dw_dt {f : Ev → Res (Bool × Ev)} (h : DW X c q e f) : DT X c q e f := ⟨h.pw.pt⟩
theorem dw_and1 {f : Ev → Res (Bool × Ev)} (h : DT X c q e f) : DW X c q (.BoolOp .And [e] pos) f := ⟨pw_and1 h.pt⟩
theorem dw_or1 {f : Ev → Res (Bool × Ev)} (h : DT X c q e f) : DW X c q (.BoolOp .Or [e] pos) f := ⟨pw_or1 h.pt⟩
theorem dw_and {rest : List Expr} {f g : Ev → Res (Bool × Ev)} (h : DT X c q a f) (h2 : DW X c q (.BoolOp .And (e :: rest) pos) g) : DW X c q (.BoolOp .And (a :: e :: rest) pos) (dAnd f g) := ⟨by
  refine PW.imp (pw_and h.pt h2.pw) fun σ H Q ⟨ρ, Z, fo, R, d, ρ', hf, k⟩ => ?_
  obtain ⟨⟨d1, ρ1⟩, h1, hf⟩ := Res.bind_ok hf
  refine ⟨ρ, Z, fo, R, d1, ρ1, h1, fun H1 Z1 fo1 R1 s1 m1 => ?_⟩
  cases d1 with
  | true =>
    rw [if_pos rfl] at hf ⊢
    exact ⟨ρ1, Z1, fo1, R1, d, ρ', hf, fun H2 Z2 fo2 R2 s2 m2 => k H2 Z2 fo2 R2 (s1.trans s2) (fun hq => (m1 hq).trans (m2 hq))⟩
  | false =>
    rw [if_neg Bool.false_ne_true] at hf ⊢
    cases hf
    exact k H1 Z1 fo1 R1 s1 m1⟩
theorem dw_or {rest : List Expr} {f g : Ev → Res (Bool × Ev)} (h : DT X c q a f) (h2 : DW X c q (.BoolOp .Or (e :: rest) pos) g) : DW X c q (.BoolOp .Or (a :: e :: rest) pos) (dOr f g) := ⟨by
  refine PW.imp (pw_or h.pt h2.pw) fun σ H Q ⟨ρ, Z, fo, R, d, ρ', hf, k⟩ => ?_
  obtain ⟨⟨d1, ρ1⟩, h1, hf⟩ := Res.bind_ok hf
  refine ⟨ρ, Z, fo, R, d1, ρ1, h1, fun H1 Z1 fo1 R1 s1 m1 => ?_⟩
  cases d1 with
  | false =>
    rw [if_neg Bool.false_ne_true] at hf ⊢
    exact ⟨ρ1, Z1, fo1, R1, d, ρ', hf, fun H2 Z2 fo2 R2 s2 m2 => k H2 Z2 fo2 R2 (s1.trans s2) (fun hq => (m1 hq).trans (m2 hq))⟩
  | true =>
    rw [if_pos rfl] at hf ⊢
    cases hf
    exact k H1 Z1 fo1 R1 s1 m1⟩
/-- a if t else b -/
def dIf {α : Type} (t : Ev → Res (Bool × Ev)) (f g : Ev → Res α) (ρ : Ev) : Res α := (t ρ).bind fun p => if p.1 = true then f p.2 else g p.2
theorem de_if {t : Expr} {ft : Ev → Res (Bool × Ev)} (h : DT X c q t ft) (ha : DE X c q b a fa) (hb : DE X c q b e fb) : DE X c q b (.IfExp t a e pos) (dIf ft fa fb) := ⟨by
  refine PE.imp (pe_ifExp h.pt ha.pe hb.pe) fun σ H Q ⟨ρ, Z, fo, R, d, ρ', hf, k⟩ => ?_
  obtain ⟨⟨d1, ρ1⟩, h1, hf⟩ := Res.bind_ok hf
  refine ⟨ρ, Z, fo, R, d1, ρ1, h1, fun H1 Z1 fo1 R1 s1 m1 => ?_⟩
  cases d1 with
  | true =>
    rw [if_pos rfl] at hf ⊢
    exact ⟨ρ1, Z1, fo1, R1, d, ρ', hf, fun v H2 Z2 fo2 R2 s2 m2 p2 => k v H2 Z2 fo2 R2 (s1.trans s2) (fun hq => (m1 hq).trans (m2 hq)) p2⟩
  | false =>
    rw [if_neg Bool.false_ne_true] at hf ⊢
    exact ⟨ρ1, Z1, fo1, R1, d, ρ', hf, fun v H2 Z2 fo2 R2 s2 m2 p2 => k v H2 Z2 fo2 R2 (s1.trans s2) (fun hq => (m1 hq).trans (m2 hq)) p2⟩⟩
/-- and, or, not as values -/
def dAndV (f g : Ev → Res (D × Ev)) (ρ : Ev) : Res (D × Ev) := (f ρ).bind fun p => (gTru p.1).bind fun k => if k = true then g p.2 else .ok p
def dOrV (f g : Ev → Res (D × Ev)) (ρ : Ev) : Res (D × Ev) := (f ρ).bind fun p => (gTru p.1).bind fun k => if k = true then .ok p else g p.2
def gNot (d : D) : Res D := (gTru d).bind fun k => .ok (.bl (!k))
theorem de_one {op} (h : DE X c q b a fa) : DE X c q b (.BoolOp op [a] pos) fa := ⟨pe_one h.pe⟩
theorem de_and {rest : List Expr} (ha : DE X c q b a fa) (hb : DE X c q b (.BoolOp .And (e :: rest) pos) fb) : DE X c q b (.BoolOp .And (a :: e :: rest) pos) (dAndV fa fb) := ⟨by
  refine PE.imp (pe_andT ha.pe hb.pe) fun σ H Q ⟨ρ, Z, fo, R, d, ρ', hf, k⟩ => ?_
  obtain ⟨⟨d1, ρ1⟩, h1, hf⟩ := Res.bind_ok hf
  obtain ⟨kk, h2, hf⟩ := Res.bind_ok hf
  refine ⟨ρ, Z, fo, R, d1, ρ1, h1, fun v H1 Z1 fo1 R1 s1 m1 p1 => ⟨kk, gTru_ok p1 h2, ?_⟩⟩
  cases kk with
  | true =>
    rw [if_pos rfl] at hf ⊢
    exact ⟨ρ1, Z1, fo1, R1, d, ρ', hf, fun v H2 Z2 fo2 R2 s2 m2 p2 => k v H2 Z2 fo2 R2 (s1.trans s2) (fun hq => (m1 hq).trans (m2 hq)) p2⟩
  | false =>
    rw [if_neg Bool.false_ne_true] at hf ⊢
    cases hf
    exact k v H1 Z1 fo1 R1 s1 m1 p1⟩
theorem de_or {rest : List Expr} (ha : DE X c q b a fa) (hb : DE X c q b (.BoolOp .Or (e :: rest) pos) fb) : DE X c q b (.BoolOp .Or (a :: e :: rest) pos) (dOrV fa fb) := ⟨by
  refine PE.imp (pe_orT ha.pe hb.pe) fun σ H Q ⟨ρ, Z, fo, R, d, ρ', hf, k⟩ => ?_
  obtain ⟨⟨d1, ρ1⟩, h1, hf⟩ := Res.bind_ok hf
  obtain ⟨kk, h2, hf⟩ := Res.bind_ok hf
  refine ⟨ρ, Z, fo, R, d1, ρ1, h1, fun v H1 Z1 fo1 R1 s1 m1 p1 => ⟨kk, gTru_ok p1 h2, ?_⟩⟩
  cases kk with
  | false =>
    rw [if_neg Bool.false_ne_true] at hf ⊢
    exact ⟨ρ1, Z1, fo1, R1, d, ρ', hf, fun v H2 Z2 fo2 R2 s2 m2 p2 => k v H2 Z2 fo2 R2 (s1.trans s2) (fun hq => (m1 hq).trans (m2 hq)) p2⟩
  | true =>
    rw [if_pos rfl] at hf ⊢
    cases hf
    exact k v H1 Z1 fo1 R1 s1 m1 p1⟩
theorem de_not (ha : DE X c q b a fa) : DE X c q b (.UnaryOp .Not a pos) (dUn gNot fa) := ⟨by
  refine PE.imp (pe_notT ha.pe) fun σ H Q ⟨ρ, Z, fo, R, d, ρ', hf, k⟩ => ?_
  obtain ⟨⟨d1, ρ1⟩, h1, hf⟩ := Res.bind_ok hf
  obtain ⟨z, h2, hf⟩ := Res.bind_ok hf
  obtain ⟨kk, h3, h2⟩ := Res.bind_ok h2
  cases h2
  cases hf
  exact ⟨ρ, Z, fo, R, d1, ρ1, h1, fun v H1 Z1 fo1 R1 s1 m1 p1 => ⟨kk, gTru_ok p1 h3, k _ H1 Z1 fo1 R1 s1 m1 rfl⟩⟩⟩

/-! ### calls of built-ins -/
def dCallB (g : List D → Res D) (f : Ev → Res (List D × Ev)) (ρ : Ev) : Res (D × Ev) := (f ρ).bind fun p => (g p.1).bind fun z => .ok (z, p.2)
theorem tCBD {K : PySem.W.Frag} {r : List V → Hp → VK → Prop} {g : List D → Res D} {n : Nat} {f : Ev → Res (List D × Ev)} (h : CallD K r g) {σ : L2.St} {H : Hp} {Q : VK} (t : tD c K q b (dCallB g f) σ H Q) : tCB r (tDs c K q b n f) σ H Q := by
  obtain ⟨ρ, Z, fo, R, d, ρ', hf, k⟩ := t
  obtain ⟨⟨d1, ρ1⟩, h1, hf⟩ := Res.bind_ok hf
  obtain ⟨z, h3, hf⟩ := Res.bind_ok hf
  cases hf
  refine ⟨ρ, Z, fo, R, d1, ρ1, h1, fun x H1 Z1 fo1 R1 s1 m1 _ p1 => ?_⟩
  exact h _ H1 d1 _ x Q (zb_own R1.ownN) p1 h3 fun v H3 sm p3 => k v H3 Z1 fo1 (R1.same sm) (s1.trans (Stp.same sm)) (fun hq => (m1 hq).trans sm) p3
theorem de_callB {x : PySem.Str} {id : String} {p : Pos} {es : List Expr} {r : List V → Hp → VK → Prop} {g : List D → Res D} {f : Ev → Res (List D × Ev)} (hc : CallR X (.builtin id) r) (h : CallD X.K r g) (hm : X.mg x = none) (hv : bootBuiltins x = some (.builtin id)) (ha : DAs X c q b (e :: es) f)
    (hg : Gl X x := by rfl) (hn : x ≠ "__name__" := by decide) (hdb : (x == ("__debug__" : Str)) = false := by decide) (he : starEach (e :: es) X.env = (false, eval e X.env) :: starEach es X.env := by rfl) (hpl : (backTo pos (starEach es X.env)).any (·.1) = false := by rfl) :
    DE X c q b (.Call (.Name x p) (e :: es) [] pos) (dCallB g f) := ⟨PE.imp (pe_callB hc hg hm hv ha.pa hn hdb he hpl) fun _ _ _ t => tCBD h t⟩
theorem de_callTy {x : PySem.Str} {T : String} {p : Pos} {es : List Expr} {r : List V → Hp → VK → Prop} {g : List D → Res D} {f : Ev → Res (List D × Ev)} (hc : CallR X (.type T) r) (h : CallD X.K r g) (hm : X.mg x = none) (hv : bootBuiltins x = some (.type T)) (ha : DAs X c q b (e :: es) f)
    (hg : Gl X x := by rfl) (hn : x ≠ "__name__" := by decide) (hdb : (x == ("__debug__" : Str)) = false := by decide) (he : starEach (e :: es) X.env = (false, eval e X.env) :: starEach es X.env := by rfl) (hpl : (backTo pos (starEach es X.env)).any (·.1) = false := by rfl) :
    DE X c q b (.Call (.Name x p) (e :: es) [] pos) (dCallB g f) := ⟨PE.imp (pe_callTy hc hg hm hv ha.pa hn hdb he hpl) fun _ _ _ t => tCBD h t⟩
end
end DL
/-! pure operators and their rules -/
namespace DL
open PySem PySem.Spec PyProof.Rows L2

instance {i j : Int} : Decidable (CMul i j) := by unfold CMul; infer_instance
instance {i j : Int} : Decidable (CMulW i j) := by unfold CMulW; infer_instance
instance {i j : Int} : Decidable (CDivW i j) := by unfold CDivW; infer_instance
instance {i j : Int} : Decidable (CPow i j) := by unfold CPow; infer_instance
abbrev CMulA (i j : Int) : Prop := CMul i j ∨ CMulW i j

/-- two ints under C -/
def gInt (C : Int → Int → Prop) [∀ i j, Decidable (C i j)] (f : Int → Int → D) : D → D → Res D
  | .int i, .int j => if C i j then .ok (f i j) else .err
  | _, _ => .err
def gAdd : D → D → Res D
  | .int i, .int j => .ok (.int (i + j))
  | .str x, .str y => if x.length + y.length ≤ 16777216 then .ok (.str (x ++ y)) else .err
  | .tup xs, .tup ys => if xs.length + ys.length ≤ 16777216 then .ok (.tup (xs ++ ys)) else .err
  | .int i, .bl k => .ok (.int (i + b2i k))
  | _, _ => .err
def gSub : D → D → Res D
  | .int i, .int j => .ok (.int (i - j))
  | _, _ => .err
abbrev gMul : D → D → Res D := gInt CMulA fun i j => .int (i * j)
abbrev gFdiv : D → D → Res D := gInt CDivW fun i j => .int (i / j)
abbrev gMod : D → D → Res D := gInt (fun _ j => 0 < j) fun i j => .int (i % j)
abbrev gPow : D → D → Res D := gInt CPow fun i j => .int (i ^ j.toNat)
abbrev gShl : D → D → Res D := gInt CPow fun i j => .int (i * 2 ^ j.toNat)
def gNeg : D → Res D
  | .int i => .ok (.int (-i))
  | _ => .err
def rAddA (K : PySem.W.Frag) : R2 := fun x y H Q => (rI0 fun i j => .int (i + j)) x y H Q ∨ (∃ i j, x = .str i ∧ y = .str j ∧ i.length + j.length ≤ sizeLine ∧ Q (.str (i ++ j)) H) ∨ rCatA K x y H Q ∨ (∃ i k, x = .int i ∧ y = .bl k ∧ Q (.int (i + b2i k)) H)
theorem if_ok {α : Type} {c : Prop} [Decidable c] {a b : α} (h : (if c then Res.ok a else .err) = .ok b) : c ∧ a = b := by
  by_cases hc : c
  · rw [if_pos hc] at h
    cases h
    exact ⟨hc, rfl⟩
  · rw [if_neg hc] at h
    cases h
/-- the ints of a row of data -/
def ints? : List D → Option (List Int)
  | [] => some []
  | .int i :: ds => (ints? ds).map (i :: ·)
  | _ :: _ => none
theorem ints?_ok {K : PySem.W.Frag} {Z : AP} {H : Hp} : ∀ {ds : List D} {vs : List V} {ns : List Int}, Shs K Z H ds vs → ints? ds = some ns → vs = ns.map V.int
  | [], vs, ns, h, e => by
    cases e
    exact h
  | .int i :: ds, _, ns, ⟨v, r, rfl, s1, s2⟩, e => by
    cases q : ints? ds with
    | none => rw [show ints? (.int i :: ds) = (ints? ds).map (i :: ·) from rfl, q] at e; cases e
    | some ms =>
      rw [show ints? (.int i :: ds) = (ints? ds).map (i :: ·) from rfl, q] at e
      cases e
      have s1' : v = .int i := s1
      rw [s1', ints?_ok s2 q]
      rfl
  | .non :: ds, _, _, _, e => by cases e
  | .bl _ :: ds, _, _, _, e => by cases e
  | .str _ :: ds, _, _, _, e => by cases e
  | .tup _ :: ds, _, _, _, e => by cases e
  | .lst _ :: ds, _, _, _, e => by cases e
  | .fn _ :: ds, _, _, _, e => by cases e
  | .ty _ :: ds, _, _, _, e => by cases e
/-- < and its kin -/
def gLt : D → D → Res D
  | .int i, .int j => .ok (.bl (decide (i < j)))
  | .str x, .str y => .ok (.bl (decide (x.cps.toList < y.cps.toList)))
  | .tup xs, .tup ys => match ints? xs, ints? ys with
    | some ns, some ms => .ok (.bl (HT.lexLt ns ms))
    | _, _ => .err
  | _, _ => .err
def gIntB (f : Int → Int → Bool) : D → D → Res D
  | .int i, .int j => .ok (.bl (f i j))
  | _, _ => .err
abbrev gLe := gIntB fun i j => decide (i ≤ j)
def lexGt (ns ms : List Int) : Bool := Ob.lexAt (fun j => decide (ns.getD j 0 = ms.getD j 0)) (fun j => decide (ms.getD j 0 < ns.getD j 0)) (decide (ns.length > ms.length)) 0 (min ns.length ms.length)
def gGt : D → D → Res D
  | .int i, .int j => .ok (.bl (decide (j < i)))
  | .tup xs, .tup ys => match ints? xs, ints? ys with
    | some ns, some ms => .ok (.bl (lexGt ns ms))
    | _, _ => .err
  | _, _ => .err
def rGtT (K : PySem.W.Frag) : R2 := fun x y H Q => ∃ (a b : Addr) (ns ms : List Int), x = .ref a ∧ y = .ref b ∧ SqT K H a (ns.map V.int) ∧ SqT K H b (ms.map V.int) ∧ Q (.bl (lexGt ns ms)) H
def rGtA (K : PySem.W.Frag) : R2 := fun x y H Q => (rI0 fun i j => .bl (decide (j < i))) x y H Q ∨ rGtT K x y H Q
theorem op_gtT {X : Cx} (hu : X.A.units < cLine) : OpR X (compareOp .Gt) (rGtT X.K) := by
  intro pins s σ H x y v u Q I rx ry h
  obtain ⟨a, b, ns, ms, rfl, rfl, ha, hb, q⟩ := h
  cases rx
  cases ry
  obtain ⟨its, r1, p1, _⟩ := I.tuple ha
  obtain ⟨its2, r2, p2, _⟩ := I.tuple hb
  have i1 : IntsAre its ns := Vals.ints r1
  have i2 : IntsAre its2 ms := Vals.ints r2
  have e1 : its.toArray.size = ns.length := by rw [List.size_toArray]; exact i1.length
  have e2 : its2.toArray.size = ms.length := by rw [List.size_toArray]; exact i2.length
  have at1 : ∀ j (h1 : j < its.toArray.size), ∃ t, its.toArray[j] = .int (ns.getD j 0) t := fun j h1 => PyProof.Rows.IntsAre.int_at i1 _ _ (by simp at h1; simp [h1])
  have at2 : ∀ j (h1 : j < its2.toArray.size), ∃ t, its2.toArray[j] = .int (ms.getD j 0) t := fun j h1 => PyProof.Rows.IntsAre.int_at i2 _ _ (by simp at h1; simp [h1])
  have R := Ob.RcOp.tuples_gt (A := X.A) (s := s) (e := fun j => decide (ns.getD j 0 = ms.getD j 0)) (r := fun j => decide (ms.getD j 0 < ns.getD j 0)) p1 p2 hu (fun j h1 h2 => by
    obtain ⟨t, et⟩ := at1 j h1
    obtain ⟨t', et'⟩ := at2 j h2
    rw [et, et']
    have z : (ns.getD j 0 == ms.getD j 0) = decide (ns.getD j 0 = ms.getD j 0) := by
      by_cases q : ns.getD j 0 = ms.getD j 0
      · rw [decide_eq_true q]; exact beq_iff_eq.mpr q
      · rw [decide_eq_false q]; exact beq_eq_false_iff_ne.mpr q
    rw [← z]
    exact SeqAt.EqAt.int_int _ _ _ _) (fun j h1 h2 _ => by
    obtain ⟨t, et⟩ := at1 j h1
    obtain ⟨t', et'⟩ := at2 j h2
    rw [et, et']
    exact Ob.RcOp.gt_int _ _ _ _)
  rw [e1, e2] at R
  have z : wpAny (model X.prog X.w) X.A (compareOp .Gt (.ref a) (.ref b)) (EP X pins σ Q) X.xe s := R X.prog X.w X.xe (EP X pins σ Q) ⟨.bl _, H, I, rfl, q⟩
  exact z
abbrev gGe := gIntB fun i j => decide (j ≤ i)
def rLtA (K : PySem.W.Frag) : R2 := fun x y H Q => (rI0 fun i j => .bl (decide (i < j))) x y H Q ∨ (∃ i j, x = .str i ∧ y = .str j ∧ Q (.bl (decide (i.cps.toList < j.cps.toList))) H) ∨ rLtT K x y H Q
/-! as the library's data -/
mutual
def D.py : D → Option PyData
  | .non => some .none
  | .bl b => some (.bool b)
  | .int i => some (.int i)
  | .str x => some (.str x)
  | .tup ds => match D.pys ds with
    | some es => some (.tuple es)
    | none => none
  | .lst ds => match D.pys ds with
    | some es => some (.list es)
    | none => none
  | .fn _ => none
  | .ty _ => none
def D.pys : List D → Option (List PyData)
  | [] => some []
  | d :: ds => match d.py, D.pys ds with
    | some e, some es => some (e :: es)
    | _, _ => none
end
mutual
theorem Sh.dp {K : PySem.W.Frag} {Z : AP} {H : Hp} : ∀ (d : D) (v : V) (e : PyData), Sh K Z H d v → d.py = some e → Dp K H v e
  | .non, v, e, h, q => by cases q; cases h; exact .non
  | .bl b, v, e, h, q => by cases q; cases h; exact .bl b
  | .int i, v, e, h, q => by cases q; cases h; exact .int i
  | .str x, v, e, h, q => by cases q; cases h; exact .str x
  | .fn _, v, e, h, q => by cases q
  | .ty _, v, e, h, q => by cases q
  | .tup ds, v, e, h, q => by
    obtain ⟨a, vs, rfl, r, s⟩ := h
    have q' : (match D.pys ds with | some es => some (PyData.tuple es) | none => none) = some e := q
    cases z : D.pys ds with
    | none => rw [z] at q'; cases q'
    | some es =>
      rw [z] at q'
      cases q'
      exact .tup r.sq (Shs.dps ds vs es s z)
  | .lst ds, v, e, h, q => by
    obtain ⟨a, vs, rfl, r, s⟩ := h
    have q' : (match D.pys ds with | some es => some (PyData.list es) | none => none) = some e := q
    cases z : D.pys ds with
    | none => rw [z] at q'; cases q'
    | some es =>
      rw [z] at q'
      cases q'
      exact .lst r.sq (Shs.dps ds vs es s z)
theorem Shs.dps {K : PySem.W.Frag} {Z : AP} {H : Hp} : ∀ (ds : List D) (vs : List V) (es : List PyData), Shs K Z H ds vs → D.pys ds = some es → DpAll K H vs es
  | [], vs, es, h, q => by
    have e : vs = [] := h
    subst e
    cases q
    exact .nil
  | d :: ds, vs, es, ⟨v, r, e, s1, s2⟩, q => by
    subst e
    have q' : (match d.py, D.pys ds with | some e, some es => some (e :: es) | _, _ => none) = some es := q
    cases z1 : d.py with
    | none => rw [z1] at q'; cases q'
    | some e1 =>
      cases z2 : D.pys ds with
      | none => rw [z1, z2] at q'; cases q'
      | some e2 =>
        rw [z1, z2] at q'
        cases q'
        exact .cons (Sh.dp d v e1 s1 z1) (Shs.dps ds r e2 s2 z2)
end
/-- == of scalars of like kinds -/
def eqS : D → D → Option Bool
  | .non, .non => some true | .non, .int _ => some false | .int _, .non => some false | .non, .bl _ => some false | .bl _, .non => some false | .non, .str _ => some false | .str _, .non => some false
  | .int i, .int j => some (decide (i = j)) | .bl a, .bl b => some (decide (a = b)) | .str x, .str y => some (decide (x = y))
  | .int _, .str _ => some false | .str _, .int _ => some false | .bl _, .str _ => some false | .str _, .bl _ => some false
  | _, _ => none
def eqP (d e : D) : Option Bool := match d.py, e.py with
  | some x, some y => if SeqAt.shaped x = true ∧ SeqAt.shaped y = true then some (PyData.eqv x y) else none
  | _, _ => none
def eqD (d e : D) : Option Bool := match eqS d e with
  | some k => some k
  | none => eqP d e
def gEq (d e : D) : Res D := match eqD d e with
  | some k => .ok (.bl k)
  | none => .err
def gNe (d e : D) : Res D := match eqD d e with
  | some k => .ok (.bl (!k))
  | none => .err
def rEqA (K : PySem.W.Frag) : R2 := fun x y H Q => rEq x y H Q ∨ rEqD K x y H Q
def rNeA (K : PySem.W.Frag) : R2 := fun x y H Q => rNe x y H Q ∨ rNeD K x y H Q
/-- in, not in: flat items -/
def D.flat : D → Bool
  | .non => true
  | .bl _ => true
  | .int _ => true
  | .str _ => true
  | _ => false
def eqF : D → D → Bool
  | .non, .non => true
  | .bl a, .bl b => a == b
  | .bl a, .int b => (if a then 1 else 0) == b
  | .int a, .bl b => a == (if b then 1 else 0)
  | .int a, .int b => a == b
  | .str a, .str b => a == b
  | _, _ => false
def seqOf : D → Option (List D)
  | .tup ds => some ds
  | .lst ds => some ds
  | _ => none
def gIn (neg : Bool) (x s : D) : Res D := match seqOf s with
  | some ds => if x.flat = true ∧ ds.all D.flat = true then .ok (.bl (if neg then !(ds.any fun y => eqF y x) else ds.any fun y => eqF y x)) else .err
  | none => match x, s with
    | .str i, .str j => .ok (.bl (if neg then !(!(Builtin.Str.occurrences j i 0 j.length 1).isEmpty) else !(Builtin.Str.occurrences j i 0 j.length 1).isEmpty))
    | _, _ => .err
def rInA (K : PySem.W.Frag) (neg : Bool) : R2 := fun x y H Q => rIn K neg x y H Q ∨ (∃ i j, x = .str i ∧ y = .str j ∧ Q (.bl (if neg then !(!(Builtin.Str.occurrences j i 0 j.length 1).isEmpty) else !(Builtin.Str.occurrences j i 0 j.length 1).isEmpty)) H)
/-- is None -/
def D.isN : D → Bool
  | .non => true
  | _ => false
def gIsN (d e : D) : Res D := if e.isN = true then .ok (.bl d.isN) else .err
def gNotN (d e : D) : Res D := if e.isN = true then .ok (.bl (!d.isN)) else .err
/-- x[i] -/
def gIx (d e : D) : Res D := match e with
  | .int i => match d with
    | .tup ds => match atI ds i with
      | some z => .ok z
      | none => .err
    | .lst ds => match atI ds i with
      | some z => .ok z
      | none => .err
    | .str z => if z.length ≤ 16777216 then match atI z.cps.toList i with
      | some c => .ok (.str ⟨#[c]⟩)
      | none => .err
      else .err
    | _ => .err
  | _ => .err
section
variable {X : Cx} {K : PySem.W.Frag}
theorem d_int {C : Int → Int → Prop} [∀ i j, Decidable (C i j)] {f : Int → Int → Int} : OpD K (rI C fun i j => .int (f i j)) (gInt C fun i j => .int (f i j)) := by
  intro Z H d e z x y Q hz hx hy hg k
  cases d with
  | int i =>
    cases e with
    | int j =>
      cases hx; cases hy
      obtain ⟨h1, rfl⟩ := if_ok hg
      exact ⟨i, j, rfl, rfl, h1, k _ H (Same.refl H) rfl⟩
    | _ => cases hg
  | _ => cases e <;> cases hg
theorem o_add : OpR X (binaryOp .Add) (rAddA X.K) := op_add.or (op_add_str.or (op_catA.or op_add_ib))
theorem nil_of_len {α β : Type} {xs : List α} {ys : List β} (h : xs.length = ys.length) (e : ys = []) : xs = [] := by
  subst e
  exact List.eq_nil_of_length_eq_zero h
theorem d_add : OpD K (rAddA K) gAdd := by
  intro Z H d e z x y Q hz hx hy hg k
  cases d with
  | int i =>
    cases e with
    | int j => cases hx; cases hy; cases hg; exact .inl ⟨i, j, rfl, rfl, k _ H (Same.refl H) rfl⟩
    | bl j => cases hx; cases hy; cases hg; exact .inr (.inr (.inr ⟨i, j, rfl, rfl, k _ H (Same.refl H) rfl⟩))
    | _ => cases hg
  | str i =>
    cases e with
    | str j =>
      cases hx; cases hy
      obtain ⟨h1, rfl⟩ := if_ok hg
      exact .inr (.inl ⟨i, j, rfl, rfl, sizeLine_ge h1, k _ H (Same.refl H) rfl⟩)
    | _ => cases hg
  | tup ds =>
    cases e with
    | tup es =>
      obtain ⟨a, vs, rfl, r1, s1⟩ := hx
      obtain ⟨b, ws, rfl, r2, s2⟩ := hy
      obtain ⟨h1, rfl⟩ := if_ok hg
      refine .inr (.inr (.inl ⟨a, b, vs, ws, rfl, rfl, r1.sq, r2.sq, sizeLine_ge (by rw [← s1.len, ← s2.len]; exact h1), fun e => ?_, fun _ e => ?_, fun _ _ p hp => ?_⟩))
      · have e1 := nil_of_len s1.len e
        subst e1
        exact k _ H (Same.refl H) ⟨b, ws, rfl, r2, s2⟩
      · have e1 := nil_of_len s2.len e
        subst e1
        rw [List.append_nil] at k
        exact k _ H (Same.refl H) ⟨a, vs, rfl, r1, s1⟩
      · have sm : Same H (upd H p (.tup (vs ++ ws))) := same_upd hp
        exact k _ _ sm ⟨p, vs ++ ws, rfl, RdT.new upd_same fun z => hz p z hp, Shs.same sm (s1.app s2)⟩
    | _ => cases hg
  | _ => cases e <;> cases hg
theorem d_sub : OpD K (rI0 fun i j => .int (i - j)) gSub := by
  intro Z H d e z x y Q hz hx hy hg k
  cases d with
  | int i =>
    cases e with
    | int j => cases hx; cases hy; cases hg; exact ⟨i, j, rfl, rfl, k _ H (Same.refl H) rfl⟩
    | _ => cases hg
  | _ => cases e <;> cases hg
theorem o_mul : OpR X (binaryOp .Mult) (rI CMulA fun i j => .int (i * j)) := opI fun _ _ _ _ _ _ _ hc q => mul_int q (hc.elim CMul.ok CMulW.ok)
theorem d_neg : UnD K (rU fun i => .int (-i)) gNeg := by
  intro Z H d z x Q hz hx hg k
  cases d with
  | int i => cases hx; cases hg; exact ⟨i, rfl, k _ H (Same.refl H) rfl⟩
  | _ => cases hg
theorem o_lt (hu : X.A.units < cLine) : OpR X (compareOp .Lt) (rLtA X.K) := op_lt.or (op_lt_str.or (op_ltT hu))
theorem d_lt : OpD K (rLtA K) gLt := by
  intro Z H d e z x y Q hz hx hy hg k
  cases d with
  | int i =>
    cases e with
    | int j => cases hx; cases hy; cases hg; exact .inl ⟨i, j, rfl, rfl, k _ H (Same.refl H) rfl⟩
    | _ => cases hg
  | str i =>
    cases e with
    | str j => cases hx; cases hy; cases hg; exact .inr (.inl ⟨i, j, rfl, rfl, k _ H (Same.refl H) rfl⟩)
    | _ => cases hg
  | tup ds =>
    cases e with
    | tup es =>
      obtain ⟨a, vs, rfl, r1, s1⟩ := hx
      obtain ⟨b, ws, rfl, r2, s2⟩ := hy
      have hg' : (match ints? ds, ints? es with | some ns, some ms => Res.ok (D.bl (HT.lexLt ns ms)) | _, _ => .err) = .ok z := hg
      cases z1 : ints? ds with
      | none => rw [z1] at hg'; cases hg'
      | some ns =>
        cases z2 : ints? es with
        | none => rw [z1, z2] at hg'; cases hg'
        | some ms =>
          rw [z1, z2] at hg'
          cases hg'
          have e1 := ints?_ok s1 z1
          have e2 := ints?_ok s2 z2
          subst e1 e2
          exact .inr (.inr ⟨a, b, ns, ms, rfl, rfl, r1.sq, r2.sq, k _ H (Same.refl H) rfl⟩)
    | _ => cases hg
  | _ => cases e <;> cases hg
theorem o_gt (hu : X.A.units < cLine) : OpR X (compareOp .Gt) (rGtA X.K) := op_gt.or (op_gtT hu)
theorem d_gt : OpD K (rGtA K) gGt := by
  intro Z H d e z x y Q hz hx hy hg k
  cases d with
  | int i =>
    cases e with
    | int j => cases hx; cases hy; cases hg; exact .inl ⟨i, j, rfl, rfl, k _ H (Same.refl H) rfl⟩
    | _ => cases hg
  | tup ds =>
    cases e with
    | tup es =>
      obtain ⟨a, vs, rfl, r1, s1⟩ := hx
      obtain ⟨b, ws, rfl, r2, s2⟩ := hy
      have hg' : (match ints? ds, ints? es with | some ns, some ms => Res.ok (D.bl (lexGt ns ms)) | _, _ => .err) = .ok z := hg
      cases z1 : ints? ds with
      | none => rw [z1] at hg'; cases hg'
      | some ns =>
        cases z2 : ints? es with
        | none => rw [z1, z2] at hg'; cases hg'
        | some ms =>
          rw [z1, z2] at hg'
          cases hg'
          have e1 := ints?_ok s1 z1
          have e2 := ints?_ok s2 z2
          subst e1 e2
          exact .inr ⟨a, b, ns, ms, rfl, rfl, r1.sq, r2.sq, k _ H (Same.refl H) rfl⟩
    | _ => cases hg
  | _ => cases e <;> cases hg
theorem d_intB {f : Int → Int → Bool} : OpD K (rI0 fun i j => .bl (f i j)) (gIntB f) := by
  intro Z H d e z x y Q hz hx hy hg k
  cases d with
  | int i =>
    cases e with
    | int j => cases hx; cases hy; cases hg; exact ⟨i, j, rfl, rfl, k _ H (Same.refl H) rfl⟩
    | _ => cases hg
  | _ => cases e <;> cases hg
theorem o_eq (hu : X.A.units + 64 < cLine) : OpR X (compareOp .Eq) (rEqA X.K) := op_eq.or (op_eqD hu)
theorem o_ne (hu : X.A.units + 64 < cLine) : OpR X (compareOp .NotEq) (rNeA X.K) := op_ne.or (op_neD hu)
theorem eqS_ok {Z : AP} {H : Hp} {d e : D} {x y : V} {k : Bool} (hx : Sh K Z H d x) (hy : Sh K Z H e y) (h : eqS d e = some k) : scal x y = true ∧ decide (x = y) = k := by
  cases d <;> cases e <;> first
    | (cases h; done)
    | (cases hx; cases hy; cases h; exact ⟨rfl, by simp⟩)
theorem eqP_ok {Z : AP} {H : Hp} {d e : D} {x y : V} {k : Bool} (hx : Sh K Z H d x) (hy : Sh K Z H e y) (h : eqP d e = some k) : ∃ a b, Dp K H x a ∧ Dp K H y b ∧ SeqAt.shaped a = true ∧ SeqAt.shaped b = true ∧ PyData.eqv a b = k := by
  unfold eqP at h
  cases z1 : d.py with
  | none => rw [z1] at h; cases h
  | some a =>
    cases z2 : e.py with
    | none => rw [z1, z2] at h; cases h
    | some b =>
      rw [z1, z2] at h
      have h' : (if SeqAt.shaped a = true ∧ SeqAt.shaped b = true then some (PyData.eqv a b) else none) = some k := h
      by_cases hc : SeqAt.shaped a = true ∧ SeqAt.shaped b = true
      · rw [if_pos hc] at h'
        cases h'
        exact ⟨a, b, Sh.dp d x a hx z1, Sh.dp e y b hy z2, hc.1, hc.2, rfl⟩
      · rw [if_neg hc] at h'; cases h'
theorem d_eq : OpD K (rEqA K) gEq := by
  intro Z H d e z x y Q hz hx hy hg k
  unfold gEq eqD at hg
  cases h1 : eqS d e with
  | some kk =>
    rw [h1] at hg
    cases hg
    obtain ⟨q1, q2⟩ := eqS_ok hx hy h1
    exact .inl ⟨q1, by rw [q2]; exact k _ H (Same.refl H) rfl⟩
  | none =>
    rw [h1] at hg
    cases h2 : eqP d e with
    | some kk =>
      rw [h2] at hg
      cases hg
      obtain ⟨a, b, q1, q2, q3, q4, q5⟩ := eqP_ok hx hy h2
      exact .inr ⟨a, b, q1, q2, q3, q4, by rw [q5]; exact k _ H (Same.refl H) rfl⟩
    | none => rw [h2] at hg; cases hg
theorem d_ne : OpD K (rNeA K) gNe := by
  intro Z H d e z x y Q hz hx hy hg k
  unfold gNe eqD at hg
  cases h1 : eqS d e with
  | some kk =>
    rw [h1] at hg
    cases hg
    obtain ⟨q1, q2⟩ := eqS_ok hx hy h1
    exact .inl ⟨q1, by rw [q2]; exact k _ H (Same.refl H) rfl⟩
  | none =>
    rw [h1] at hg
    cases h2 : eqP d e with
    | some kk =>
      rw [h2] at hg
      cases hg
      obtain ⟨a, b, q1, q2, q3, q4, q5⟩ := eqP_ok hx hy h2
      exact .inr ⟨a, b, q1, q2, q3, q4, by rw [q5]; exact k _ H (Same.refl H) rfl⟩
    | none => rw [h2] at hg; cases hg
theorem flat_ok {Z : AP} {H : Hp} {d : D} {x : V} (h : Sh K Z H d x) (f : d.flat = true) : flatV x = true := by
  cases d <;> first
    | (cases f; done)
    | (cases h; rfl)
theorem flats_ok {Z : AP} {H : Hp} : ∀ {ds : List D} {vs : List V}, Shs K Z H ds vs → ds.all D.flat = true → vs.all flatV = true
  | [], vs, h, _ => by
    have e : vs = [] := h
    subst e
    rfl
  | d :: ds, vs, ⟨v, r, e, s1, s2⟩, f => by
    subst e
    rw [List.all_cons, Bool.and_eq_true] at f ⊢
    exact ⟨flat_ok s1 f.1, flats_ok s2 f.2⟩
theorem eqF_ok {Z : AP} {H : Hp} {d e : D} {x y : V} (hx : Sh K Z H d x) (hy : Sh K Z H e y) (f : d.flat = true) (f2 : e.flat = true) : eqV x y = eqF d e := by
  cases d <;> cases e <;> first
    | (cases f; done)
    | (cases f2; done)
    | (cases hx; cases hy; rfl)
theorem any_ok {Z : AP} {H : Hp} {e : D} {y : V} (hy : Sh K Z H e y) (f2 : e.flat = true) : ∀ {ds : List D} {vs : List V}, Shs K Z H ds vs → ds.all D.flat = true → vs.any (fun x => eqV x y) = ds.any fun d => eqF d e
  | [], vs, h, _ => by
    have e : vs = [] := h
    subst e
    rfl
  | d :: ds, vs, ⟨v, r, e, s1, s2⟩, f => by
    subst e
    rw [List.all_cons, Bool.and_eq_true] at f
    rw [List.any_cons, List.any_cons, eqF_ok s1 hy f.1 f2, any_ok hy f2 s2 f.2]
theorem o_in : OpR X (compareOp .In) (rInA X.K false) := op_in_seq.or op_in_str
theorem o_notIn : OpR X (compareOp .NotIn) (rInA X.K true) := op_notIn_seq.or L2.op_notin_str
theorem seq_ok {Z : AP} {H : Hp} {d : D} {x : V} {ds : List D} (h : Sh K Z H d x) (e : seqOf d = some ds) : ∃ p vs, x = .ref p ∧ (SqL K H p vs ∨ SqT K H p vs) ∧ Shs K Z H ds vs := by
  cases d with
  | tup es =>
    cases e
    obtain ⟨a, vs, rfl, r, s⟩ := h
    exact ⟨a, vs, rfl, .inr r.sq, s⟩
  | lst es =>
    cases e
    obtain ⟨a, vs, rfl, r, s⟩ := h
    exact ⟨a, vs, rfl, .inl r.sq, s⟩
  | _ => cases e
theorem d_in {neg : Bool} : OpD K (rInA K neg) (gIn neg) := by
  intro Z H d e z x y Q hz hx hy hg k
  unfold gIn at hg
  cases h1 : seqOf e with
  | some ds =>
    rw [h1] at hg
    obtain ⟨⟨f1, f2⟩, rfl⟩ := if_ok hg
    obtain ⟨p, vs, rfl, hs, s⟩ := seq_ok hy h1
    refine .inl ⟨p, vs, rfl, hs, flat_ok hx f1, flats_ok s f2, ?_⟩
    have e1 : inV x vs = ds.any fun y => eqF y d := any_ok hx f1 s f2
    rw [e1]
    exact k _ H (Same.refl H) rfl
  | none =>
    rw [h1] at hg
    cases d with
    | str i =>
      cases e with
      | str j => cases hx; cases hy; cases hg; exact .inr ⟨i, j, rfl, rfl, k _ H (Same.refl H) rfl⟩
      | _ => cases hg
    | _ => cases e <;> cases hg
theorem isN_ok {Z : AP} {H : Hp} {d : D} {x : V} (h : Sh K Z H d x) : decide (x = .non) = d.isN := by
  cases d with
  | tup ds =>
    obtain ⟨a, vs, rfl, _⟩ := h
    rfl
  | lst ds =>
    obtain ⟨a, vs, rfl, _⟩ := h
    rfl
  | _ => cases h; rfl
theorem d_isN : OpD K (fun x y H Q => y = .non ∧ Q (.bl (decide (x = .non))) H) gIsN := by
  intro Z H d e z x y Q hz hx hy hg k
  obtain ⟨h1, rfl⟩ := if_ok hg
  have e1 := isN_ok hy
  rw [h1] at e1
  refine ⟨of_decide_eq_true e1, ?_⟩
  rw [isN_ok hx]
  exact k _ H (Same.refl H) rfl
theorem d_notN : OpD K (fun x y H Q => y = .non ∧ Q (.bl (!decide (x = .non))) H) gNotN := by
  intro Z H d e z x y Q hz hx hy hg k
  obtain ⟨h1, rfl⟩ := if_ok hg
  have e1 := isN_ok hy
  rw [h1] at e1
  refine ⟨of_decide_eq_true e1, ?_⟩
  rw [isN_ok hx]
  exact k _ H (Same.refl H) rfl
theorem atI_ok {Z : AP} {H : Hp} {ds : List D} {vs : List V} {i : Int} {d : D} (s : Shs K Z H ds vs) (h : atI ds i = some d) : ∃ v, atI vs i = some v ∧ Sh K Z H d v := by
  unfold atI at h ⊢
  rw [← s.len]
  cases e : ixN ds.length i with
  | none => rw [e] at h; cases h
  | some j =>
    rw [e] at h
    exact s.get h
theorem d_ix : OpD K (rIx K) gIx := by
  intro Z H d e z x y Q hz hx hy hg k
  cases e with
  | int i =>
    cases hy
    cases d with
    | tup ds =>
      obtain ⟨a, vs, rfl, r, s⟩ := hx
      have hg' : (match atI ds i with | some z => Res.ok z | none => .err) = .ok z := hg
      cases q : atI ds i with
      | none => rw [q] at hg'; cases hg'
      | some w =>
        rw [q] at hg'
        cases hg'
        obtain ⟨v, h1, h2⟩ := atI_ok s q
        exact .inr (.inl ⟨a, vs, i, v, rfl, rfl, r.sq, h1, k _ H (Same.refl H) h2⟩)
    | lst ds =>
      obtain ⟨a, vs, rfl, r, s⟩ := hx
      have hg' : (match atI ds i with | some z => Res.ok z | none => .err) = .ok z := hg
      cases q : atI ds i with
      | none => rw [q] at hg'; cases hg'
      | some w =>
        rw [q] at hg'
        cases hg'
        obtain ⟨v, h1, h2⟩ := atI_ok s q
        exact .inl ⟨a, vs, i, v, rfl, rfl, r.sq, h1, k _ H (Same.refl H) h2⟩
    | str w =>
      cases hx
      have hg' : (if w.length ≤ 16777216 then (match atI w.cps.toList i with | some c => Res.ok (D.str ⟨#[c]⟩) | none => .err) else .err) = .ok z := hg
      by_cases hl : w.length ≤ 16777216
      · rw [if_pos hl] at hg'
        cases q : atI w.cps.toList i with
        | none => rw [q] at hg'; cases hg'
        | some c =>
          rw [q] at hg'
          cases hg'
          exact .inr (.inr ⟨w, i, c, rfl, rfl, sizeLine_ge hl, q, k _ H (Same.refl H) rfl⟩)
      · rw [if_neg hl] at hg'; cases hg'
    | _ => cases hg
  | _ => cases d <;> cases hg
end
end DL
/-! built-in functions, slices -/
namespace DL
open PySem PySem.Spec PyProof.Rows L2

/-! ### slices -/
def cutL {α : Type} (xs : List α) (lo hi : Option Int) : List α := (xs.drop (HT.sIx xs.length 0 lo)).take (HT.sIx xs.length xs.length hi - HT.sIx xs.length 0 lo)
theorem Shs.cut {K : PySem.W.Frag} {Z : AP} {H : Hp} {ds : List D} {vs : List V} (h : Shs K Z H ds vs) (lo hi : Option Int) : Shs K Z H (cutL ds lo hi) (cutV vs lo hi) := by
  unfold cutL cutV
  rw [h.len]
  exact (h.drop _).take _
def tO (c : DC) (K : PySem.W.Frag) (q : Bool) (f : Ev → Res (Option Int × Ev)) : TO := fun σ H Q => ∃ ρ Z fo, RS c K ρ Z σ H fo ∧ ∃ o ρ', f ρ = .ok (o, ρ') ∧
  ∀ H' Z' fo', RS c K ρ' Z' σ H' fo' → Stp fo Z H fo' Z' H' → (q = true → Same H H') → Q o H'
structure DO (X : Cx) (c : DC) (q : Bool) (e : Option Expr) (f : Ev → Res (Option Int × Ev)) : Prop where
  po : PO X e (tO c X.K q f)
theorem PO.imp {X : Cx} {e : Option Expr} {t u : TO} (h : PO X e t) (k : ∀ σ H Q, u σ H Q → t σ H Q) : PO X e u := ⟨fun pins s σ H Q I q => h.run pins s σ H Q I (k _ _ _ q)⟩
def dNoPart (ρ : Ev) : Res (Option Int × Ev) := .ok (none, ρ)
def dPart (f : Ev → Res (D × Ev)) (ρ : Ev) : Res (Option Int × Ev) := (f ρ).bind fun p => match p.1 with
  | .int i => .ok (some i, p.2)
  | _ => .err
def SlD (K : PySem.W.Frag) (r : V → Option Int → Option Int → Hp → VK → Prop) (g : D → Option Int → Option Int → Res D) : Prop := ∀ (Z : AP) (H : Hp) (d z : D) (lo hi : Option Int) (x : V) (Q : VK), (∀ a, Z a → H a ≠ none) → Sh K Z H d x → g d lo hi = .ok z →
  (∀ v H', Same H H' → Sh K Z H' z v → Q v H') → r x lo hi H Q
def dSl (g : D → Option Int → Option Int → Res D) (f : Ev → Res (D × Ev)) (l h : Ev → Res (Option Int × Ev)) (ρ : Ev) : Res (D × Ev) := (f ρ).bind fun p => (l p.2).bind fun a => (h a.2).bind fun b => (g p.1 a.1 b.1).bind fun z => .ok (z, b.2)
def gSl (d : D) (lo hi : Option Int) : Res D := match d with
  | .tup ds => .ok (.tup (cutL ds lo hi))
  | .str z => if z.length ≤ 16777216 then .ok (.str (cutS z lo hi)) else .err
  | _ => .err
def rSlA2 (K : PySem.W.Frag) : V → Option Int → Option Int → Hp → VK → Prop := fun x lo hi H Q => rSlA K x lo hi H Q ∨ (∃ z, x = .str z ∧ z.length ≤ sizeLine ∧ Q (.str (cutS z lo hi)) H)
section
variable {X : Cx} {K : PySem.W.Frag} {c : DC} {q b : Bool} {a e : Expr} {fa fb : Ev → Res (D × Ev)} {pos p2 : Pos}
theorem do_none : DO X c q none dNoPart := ⟨by
  refine PO.imp po_none fun σ H Q ⟨ρ, Z, fo, R, o, ρ', hf, k⟩ => ?_
  cases hf
  exact k H Z fo R Stp.refl (fun _ => Same.refl H)⟩
theorem do_some (h : DE X c q b e fa) : DO X c q (some e) (dPart fa) := ⟨by
  refine PO.imp (po_some h.pe) fun σ H Q ⟨ρ, Z, fo, R, o, ρ', hf, k⟩ => ?_
  obtain ⟨⟨d1, ρ1⟩, h1, hf⟩ := Res.bind_ok hf
  refine ⟨ρ, Z, fo, R, d1, ρ1, h1, fun v H1 Z1 fo1 R1 s1 m1 p1 => ?_⟩
  cases d1 with
  | int i =>
    cases hf
    exact ⟨i, p1, k H1 Z1 fo1 R1 s1 m1⟩
  | _ => cases hf⟩
theorem de_sl {r : V → Option Int → Option Int → Hp → VK → Prop} {g : D → Option Int → Option Int → Res D} {lo hi : Option Expr} {l h : Ev → Res (Option Int × Ev)} (hr : SlR X r) (hg : SlD X.K r g) (he : DE X c q b e fa) (hl : DO X c q lo l) (hh : DO X c q hi h) (hq : b = true → q = true := by decide) :
    DE X c q b (.Subscript e (.Slice lo hi none p2) pos) (dSl g fa l h) := ⟨by
  refine PE.imp (pe_slice hr he.pe hl.po hh.po) fun σ H Q ⟨ρ, Z, fo, R, d, ρ', hf, k⟩ => ?_
  obtain ⟨⟨d1, ρ1⟩, h1, hf⟩ := Res.bind_ok hf
  obtain ⟨⟨o1, ρ2⟩, h2, hf⟩ := Res.bind_ok hf
  obtain ⟨⟨o2, ρ3⟩, h3, hf⟩ := Res.bind_ok hf
  obtain ⟨z, h4, hf⟩ := Res.bind_ok hf
  cases hf
  refine ⟨ρ, Z, fo, R, d1, ρ1, h1, fun x H1 Z1 fo1 R1 s1 m1 p1 => ⟨ρ1, Z1, fo1, R1, o1, ρ2, h2, fun H2 Z2 fo2 R2 s2 m2 => ⟨ρ2, Z2, fo2, R2, o2, ρ3, h3, fun H3 Z3 fo3 R3 s3 m3 => ?_⟩⟩⟩
  refine hg _ H3 d1 _ o1 o2 x Q (zb_own R3.ownN) (Rp.keep R1 hq (s2.trans s3) (fun hq => (m2 hq).trans (m3 hq)) p1) h4 fun v H4 sm p4 => ?_
  exact k v H4 Z3 fo3 (R3.same sm) (((s1.trans s2).trans s3).trans (Stp.same sm)) (fun hq => (((m1 hq).trans (m2 hq)).trans (m3 hq)).trans sm) p4⟩
theorem s_sl : SlR X (rSlA2 X.K) := sl_tupA.or sl_str
theorem d_sl : SlD K (rSlA2 K) gSl := by
  intro Z H d z lo hi x Q hz hx hg k
  cases d with
  | tup ds =>
    obtain ⟨p, vs, rfl, r, s⟩ := hx
    cases hg
    refine .inl ⟨p, vs, rfl, r.sq, fun ⟨h1, h2⟩ => ?_, fun _ t ht => ?_⟩
    · have e : cutL ds lo hi = ds := by
        unfold cutL
        rw [s.len, h1, h2, List.drop_zero, Nat.sub_zero, ← s.len, List.take_length]
      rw [e] at k
      exact k _ H (Same.refl H) ⟨p, vs, rfl, r, s⟩
    · have sm : Same H (upd H t (.tup (cutV vs lo hi))) := same_upd ht
      exact k _ _ sm ⟨t, _, rfl, RdT.new upd_same fun z => hz t z ht, Shs.same sm (s.cut lo hi)⟩
  | str w =>
    cases hx
    obtain ⟨h1, rfl⟩ := if_ok hg
    exact .inr ⟨w, rfl, sizeLine_ge h1, k _ H (Same.refl H) rfl⟩
  | _ => cases hg
/-- xs[lo:hi] of a list: a fresh list -/
def gCutL (d : D) (lo hi : Option Int) : Res D := match d with
  | .lst ds => .ok (.lst (cutL ds lo hi))
  | _ => .err
theorem df_sl {lo hi : Option Expr} {l h : Ev → Res (Option Int × Ev)} (he : DE X c false false e fa) (hl : DO X c false lo l) (hh : DO X c false hi h) :
    DF X c 0 (.Subscript e (.Slice lo hi none p2) pos) (dSl gCutL fa l h) := ⟨by
  refine PE.imp (pe_slice sl_list he.pe hl.po hh.po) fun σ H Q ⟨ρ, Z, fo, R, d, ρ', hf, k⟩ => ?_
  obtain ⟨⟨d1, ρ1⟩, h1, hf⟩ := Res.bind_ok hf
  obtain ⟨⟨o1, ρ2⟩, h2, hf⟩ := Res.bind_ok hf
  obtain ⟨⟨o2, ρ3⟩, h3, hf⟩ := Res.bind_ok hf
  obtain ⟨z, h4, hf⟩ := Res.bind_ok hf
  cases hf
  refine ⟨ρ, Z, fo, R, d1, ρ1, h1, fun x H1 Z1 fo1 R1 s1 m1 p1 => ⟨ρ1, Z1, fo1, R1, o1, ρ2, h2, fun H2 Z2 fo2 R2 s2 m2 => ⟨ρ2, Z2, fo2, R2, o2, ρ3, h3, fun H3 Z3 fo3 R3 s3 m3 => ?_⟩⟩⟩
  have p3 : Sh X.K Z3 H3 d1 x := Sh.stp ((s2.trans s3).s0 R1) p1
  cases d1 with
  | lst ds =>
    obtain ⟨p, vs, rfl, r, s⟩ := p3
    cases h4
    refine ⟨p, vs, rfl, r.sq, fun t ht => ?_⟩
    obtain ⟨R4, st⟩ := R3.take (vs := cutV vs o1 o2) ht
    exact k _ _ _ fo3 R4 (((s1.trans s2).trans s3).trans st) ((FrR.new R3 ht (s.cut o1 o2)).back ((s1.trans s2).trans s3))
  | _ => cases h4⟩
/-! ### built-in functions -/
def gLen : List D → Res D
  | [.tup ds] => .ok (.int ds.length)
  | [.lst ds] => .ok (.int ds.length)
  | [.str x] => if x.length ≤ 16777216 then .ok (.int x.length) else .err
  | _ => .err
theorem shs1 {Z : AP} {H : Hp} {d : D} {xs : List V} (h : Shs K Z H [d] xs) : ∃ x, xs = [x] ∧ Sh K Z H d x := by
  obtain ⟨v, r, rfl, s, t⟩ := h
  have e : r = [] := t
  subst e
  exact ⟨v, rfl, s⟩
theorem shs2 {Z : AP} {H : Hp} {d e : D} {xs : List V} (h : Shs K Z H [d, e] xs) : ∃ x y, xs = [x, y] ∧ Sh K Z H d x ∧ Sh K Z H e y := by
  obtain ⟨v, r, rfl, s, t⟩ := h
  obtain ⟨y, rfl, s2⟩ := shs1 t
  exact ⟨v, y, rfl, s, s2⟩
theorem c_len : CallD K (fun xs H Q => ∃ x n, xs = [x] ∧ LenV K x H n ∧ Q (.int n) H) gLen := by
  intro Z H ds z xs Q hz hx hg k
  unfold gLen at hg
  split at hg
  · obtain ⟨x, rfl, a, vs, rfl, r, s⟩ := shs1 hx
    cases hg
    exact ⟨_, vs.length, rfl, .inr ⟨vs, r.sq, rfl⟩, by rw [← s.len]; exact k _ H (Same.refl H) rfl⟩
  · obtain ⟨x, rfl, a, vs, rfl, r, s⟩ := shs1 hx
    cases hg
    exact ⟨_, vs.length, rfl, .inl ⟨vs, r.sq, rfl⟩, by rw [← s.len]; exact k _ H (Same.refl H) rfl⟩
  · obtain ⟨x, rfl, hx2⟩ := shs1 hx
    cases hx2
    obtain ⟨h1, rfl⟩ := if_ok hg
    exact ⟨_, _, rfl, (⟨sizeLine_ge h1, rfl⟩ : _ ∧ _), k _ H (Same.refl H) rfl⟩
  · cases hg
def gAbs : List D → Res D
  | [.int i] => .ok (.int (if i < 0 then -i else i))
  | _ => .err
theorem c_abs : CallD K (fun xs H Q => ∃ i, xs = [.int i] ∧ Q (.int (if i < 0 then -i else i)) H) gAbs := by
  intro Z H ds z xs Q hz hx hg k
  unfold gAbs at hg
  split at hg
  · obtain ⟨x, rfl, hx2⟩ := shs1 hx
    cases hx2
    cases hg
    exact ⟨_, rfl, k _ H (Same.refl H) rfl⟩
  · cases hg
def gMax2 : List D → Res D
  | [.int i, .int j] => .ok (.int (if j > i then j else i))
  | _ => .err
theorem c_max2 : CallD K (fun xs H Q => ∃ i j, xs = [.int i, .int j] ∧ Q (.int (if j > i then j else i)) H) gMax2 := by
  intro Z H ds z xs Q hz hx hg k
  unfold gMax2 at hg
  split at hg
  · obtain ⟨x, y, rfl, hx2, hy⟩ := shs2 hx
    cases hx2; cases hy; cases hg
    exact ⟨_, _, rfl, k _ H (Same.refl H) rfl⟩
  · cases hg
def gMin2 : List D → Res D
  | [.int i, .int j] => .ok (.int (if j < i then j else i))
  | _ => .err
theorem c_min2 : CallD K (fun xs H Q => ∃ i j, xs = [.int i, .int j] ∧ Q (.int (if j < i then j else i)) H) gMin2 := by
  intro Z H ds z xs Q hz hx hg k
  unfold gMin2 at hg
  split at hg
  · obtain ⟨x, y, rfl, hx2, hy⟩ := shs2 hx
    cases hx2; cases hy; cases hg
    exact ⟨_, _, rfl, k _ H (Same.refl H) rfl⟩
  · cases hg
def gIntOf : List D → Res D
  | [.int i] => .ok (.int i)
  | [.bl k] => .ok (.int (if k then 1 else 0))
  | _ => .err
theorem c_int : CallD K (fun xs H Q => (∃ i, xs = [.int i] ∧ Q (.int i) H) ∨ ∃ k, xs = [.bl k] ∧ Q (.int (if k then 1 else 0)) H) gIntOf := by
  intro Z H ds z xs Q hz hx hg k
  unfold gIntOf at hg
  split at hg
  · obtain ⟨x, rfl, hx2⟩ := shs1 hx
    cases hx2
    cases hg
    exact .inl ⟨_, rfl, k _ H (Same.refl H) rfl⟩
  · obtain ⟨x, rfl, hx2⟩ := shs1 hx
    cases hx2
    cases hg
    exact .inr ⟨_, rfl, k _ H (Same.refl H) rfl⟩
  · cases hg
def gTupOf : List D → Res D
  | [.lst ds] => .ok (.tup ds)
  | [.tup ds] => .ok (.tup ds)
  | _ => .err
theorem c_tuple : CallD K (fun xs H Q => ∃ p ys, xs = [.ref p] ∧ ((SqL K H p ys ∧ ∀ l, H l = none → Q (.ref l) (upd H l (.tup ys))) ∨ (SqT K H p ys ∧ Q (.ref p) H))) gTupOf := by
  intro Z H ds z xs Q hz hx hg k
  unfold gTupOf at hg
  split at hg
  · obtain ⟨x, rfl, a, vs, rfl, r, s⟩ := shs1 hx
    cases hg
    refine ⟨a, vs, rfl, .inl ⟨r.sq, fun l hl => ?_⟩⟩
    have sm : Same H (upd H l (.tup vs)) := same_upd hl
    exact k _ _ sm ⟨l, vs, rfl, RdT.new upd_same fun z => hz l z hl, s.same sm⟩
  · obtain ⟨x, rfl, a, vs, rfl, r, s⟩ := shs1 hx
    cases hg
    exact ⟨a, vs, rfl, .inr ⟨r.sq, k _ H (Same.refl H) ⟨a, vs, rfl, r, s⟩⟩⟩
  · cases hg
def bools? : List D → Option (List Bool)
  | [] => some []
  | .bl i :: ds => (bools? ds).map (i :: ·)
  | _ :: _ => none
theorem bools?_ok {Z : AP} {H : Hp} : ∀ {ds : List D} {vs : List V} {ns : List Bool}, Shs K Z H ds vs → bools? ds = some ns → vs = ns.map V.bl
  | [], vs, ns, h, e => by
    cases e
    exact h
  | .bl i :: ds, _, ns, ⟨v, r, rfl, s1, s2⟩, e => by
    cases q : bools? ds with
    | none => rw [show bools? (.bl i :: ds) = (bools? ds).map (i :: ·) from rfl, q] at e; cases e
    | some ms =>
      rw [show bools? (.bl i :: ds) = (bools? ds).map (i :: ·) from rfl, q] at e
      cases e
      have s1' : v = .bl i := s1
      rw [s1', bools?_ok s2 q]
      rfl
  | .non :: ds, _, _, _, e => by cases e
  | .int _ :: ds, _, _, _, e => by cases e
  | .str _ :: ds, _, _, _, e => by cases e
  | .tup _ :: ds, _, _, _, e => by cases e
  | .lst _ :: ds, _, _, _, e => by cases e
  | .fn _ :: ds, _, _, _, e => by cases e
  | .ty _ :: ds, _, _, _, e => by cases e
def gAny : List D → Res D
  | [.lst ds] => match bools? ds with
    | some bs => .ok (.bl (bs.any id))
    | none => .err
  | _ => .err
def gAll : List D → Res D
  | [.lst ds] => match bools? ds with
    | some bs => .ok (.bl (bs.all id))
    | none => .err
  | _ => .err
def gSum : List D → Res D
  | [.lst ds] => match ints? ds with
    | some ns => .ok (.int ns.sum)
    | none => .err
  | _ => .err
theorem c_any : CallD K (rAny K) gAny := by
  intro Z H ds z xs Q hz hx hg k
  unfold gAny at hg
  split at hg
  · obtain ⟨x, rfl, a, vs, rfl, r, s⟩ := shs1 hx
    split at hg
    · rename_i bs hb
      cases hg
      have e := bools?_ok s hb
      subst e
      exact ⟨a, bs, rfl, r.sq, k _ H (Same.refl H) rfl⟩
    · cases hg
  · cases hg
theorem c_all : CallD K (rAll K) gAll := by
  intro Z H ds z xs Q hz hx hg k
  unfold gAll at hg
  split at hg
  · obtain ⟨x, rfl, a, vs, rfl, r, s⟩ := shs1 hx
    split at hg
    · rename_i bs hb
      cases hg
      have e := bools?_ok s hb
      subst e
      exact ⟨a, bs, rfl, r.sq, k _ H (Same.refl H) rfl⟩
    · cases hg
  · cases hg
theorem c_sum : CallD K (rSum K) gSum := by
  intro Z H ds z xs Q hz hx hg k
  unfold gSum at hg
  split at hg
  · obtain ⟨x, rfl, a, vs, rfl, r, s⟩ := shs1 hx
    split at hg
    · rename_i bs hb
      cases hg
      have e := ints?_ok s hb
      subst e
      exact ⟨a, bs, rfl, r.sq, k _ H (Same.refl H) rfl⟩
    · cases hg
  · cases hg
/-- max, min of a list of ints -/
def maxI : List Int → Int
  | [] => 0
  | [n] => n
  | n :: ns => if maxI ns > n then maxI ns else n
def minI : List Int → Int
  | [] => 0
  | [n] => n
  | n :: ns => if minI ns < n then minI ns else n
theorem maxI_ok : ∀ {ns : List Int}, 0 < ns.length → maxI ns ∈ ns ∧ ∀ y ∈ ns, y ≤ maxI ns
  | [n], _ => ⟨by simp [maxI], by simp [maxI]⟩
  | n :: m :: ns, _ => by
    obtain ⟨h1, h2⟩ := maxI_ok (ns := m :: ns) (by simp)
    have e : maxI (n :: m :: ns) = if maxI (m :: ns) > n then maxI (m :: ns) else n := rfl
    rw [e]
    by_cases hc : maxI (m :: ns) > n
    · rw [if_pos hc]
      refine ⟨List.mem_cons_of_mem _ h1, fun y hy => ?_⟩
      rcases List.mem_cons.mp hy with rfl | hy
      · exact Int.le_of_lt hc
      · exact h2 y hy
    · rw [if_neg hc]
      refine ⟨List.mem_cons_self, fun y hy => ?_⟩
      rcases List.mem_cons.mp hy with rfl | hy
      · exact Int.le_refl _
      · exact Int.le_trans (h2 y hy) (Int.not_lt.mp hc)
theorem minI_ok : ∀ {ns : List Int}, 0 < ns.length → minI ns ∈ ns ∧ ∀ y ∈ ns, minI ns ≤ y
  | [n], _ => ⟨by simp [minI], by simp [minI]⟩
  | n :: m :: ns, _ => by
    obtain ⟨h1, h2⟩ := minI_ok (ns := m :: ns) (by simp)
    have e : minI (n :: m :: ns) = if minI (m :: ns) < n then minI (m :: ns) else n := rfl
    rw [e]
    by_cases hc : minI (m :: ns) < n
    · rw [if_pos hc]
      refine ⟨List.mem_cons_of_mem _ h1, fun y hy => ?_⟩
      rcases List.mem_cons.mp hy with rfl | hy
      · exact Int.le_of_lt hc
      · exact h2 y hy
    · rw [if_neg hc]
      refine ⟨List.mem_cons_self, fun y hy => ?_⟩
      rcases List.mem_cons.mp hy with rfl | hy
      · exact Int.le_refl _
      · exact Int.le_trans (Int.not_lt.mp hc) (h2 y hy)
def gMaxL : List D → Res D
  | [.lst ds] => match ints? ds with
    | some ns => if 0 < ns.length then .ok (.int (maxI ns)) else .err
    | none => .err
  | _ => .err
def gMinL : List D → Res D
  | [.lst ds] => match ints? ds with
    | some ns => if 0 < ns.length then .ok (.int (minI ns)) else .err
    | none => .err
  | _ => .err
theorem c_maxL : CallD K (rMax K) gMaxL := by
  intro Z H ds z xs Q hz hx hg k
  unfold gMaxL at hg
  split at hg
  · obtain ⟨x, rfl, a, vs, rfl, r, s⟩ := shs1 hx
    split at hg
    · rename_i bs hb
      obtain ⟨h1, rfl⟩ := if_ok hg
      have e := ints?_ok s hb
      subst e
      refine ⟨a, bs, rfl, r.sq, h1, fun m hm hle => ?_⟩
      obtain ⟨q1, q2⟩ := maxI_ok h1
      have e : m = maxI bs := Int.le_antisymm (q2 m hm) (hle _ q1)
      rw [e]
      exact k _ H (Same.refl H) rfl
    · cases hg
  · cases hg
theorem c_minL : CallD K (rMin K) gMinL := by
  intro Z H ds z xs Q hz hx hg k
  unfold gMinL at hg
  split at hg
  · obtain ⟨x, rfl, a, vs, rfl, r, s⟩ := shs1 hx
    split at hg
    · rename_i bs hb
      obtain ⟨h1, rfl⟩ := if_ok hg
      have e := ints?_ok s hb
      subst e
      refine ⟨a, bs, rfl, r.sq, h1, fun m hm hle => ?_⟩
      obtain ⟨q1, q2⟩ := minI_ok h1
      have e : m = minI bs := Int.le_antisymm (hle _ q1) (q2 m hm)
      rw [e]
      exact k _ H (Same.refl H) rfl
    · cases hg
  · cases hg
/-- isinstance -/
def D.tyn : D → Option String
  | .non => some "NoneType"
  | .bl _ => some "bool"
  | .int _ => some "int"
  | .str _ => some "str"
  | .tup _ => some "tuple"
  | .lst _ => some "list"
  | _ => none
theorem tyn_ok {Z : AP} {H : Hp} {d : D} {x : V} {t : String} (h : Sh K Z H d x) (e : d.tyn = some t) : TyX K H x (.type t) := by
  cases d with
  | non => cases h; cases e; exact .base .non
  | bl b => cases h; cases e; exact .base (.bl b)
  | int i => cases h; cases e; exact .base (.int i)
  | str s => cases h; cases e; exact .base (.str s)
  | tup ds =>
    obtain ⟨a, vs, rfl, r, s⟩ := h
    cases e
    rcases r.sq with (r | ⟨o, r⟩) | ⟨o, its, n, h1, h2, _⟩
    · exact .base (.tup r)
    · exact .fTuple r
    · exact .kTuple h1 h2
  | lst ds =>
    obtain ⟨a, vs, rfl, r, s⟩ := h
    cases e
    rcases r.sq with (r | ⟨o, r⟩) | ⟨o, its, n, h1, h2, _⟩
    · exact .base (.lst r)
    · exact .base (.frz r)
    · exact .kList h1 h2
  | _ => cases e
def tys? : List D → Option (List String)
  | [] => some []
  | .ty n :: ds => (tys? ds).map (n :: ·)
  | _ :: _ => none
def kitAll (a : String) : List String → Option Bool
  | [] => some false
  | n :: ns => match kitB a n with
    | some true => some true
    | some false => kitAll a ns
    | none => none
def gIsi : List D → Res D
  | [d, .ty n] => match d.tyn with
    | some t => match kitB t n with
      | some k => .ok (.bl k)
      | none => .err
    | none => .err
  | [d, .tup es] => match d.tyn, tys? es with
    | some t, some ns => match kitAll t ns with
      | some k => .ok (.bl k)
      | none => .err
    | _, _ => .err
  | _ => .err
def rIsiA (K : PySem.W.Frag) : List V → Hp → VK → Prop := fun xs H Q => rIsi K xs H Q ∨ rIsiT K xs H Q ∨ rIsiK K xs H Q
theorem c_isi_o : CallR X (.builtin "isinstance") (rIsiA X.K) := call_isi.or (call_isiT.or call_isiK)
theorem kitAll_ok {t : String} : ∀ {ns : List String} {k : Bool}, kitAll t ns = some k → PySem.W.kitAny K (.type t) (ns.map Value.type) = some k
  | [], k, h => by
    cases h
    exact kitAny_nil
  | n :: ns, k, h => by
    have h' : (match kitB t n with | some true => some true | some false => kitAll t ns | none => none) = some k := h
    cases e : kitB t n with
    | none => rw [e] at h'; cases h'
    | some r =>
      rw [e] at h'
      cases r with
      | true =>
        cases h'
        exact kitAny_cons (kit_ty e) (fun z => nomatch z) fun _ => rfl
      | false => exact kitAny_cons (kit_ty e) (fun _ => kitAll_ok h') fun z => nomatch z
theorem tys?_ok {Z : AP} {H : Hp} : ∀ {ds : List D} {vs : List V} {ns : List String}, Shs K Z H ds vs → tys? ds = some ns → vs = ns.map V.ty
  | [], vs, ns, h, e => by
    cases e
    exact h
  | .ty i :: ds, _, ns, ⟨v, r, rfl, s1, s2⟩, e => by
    cases q : tys? ds with
    | none => rw [show tys? (.ty i :: ds) = (tys? ds).map (i :: ·) from rfl, q] at e; cases e
    | some ms =>
      rw [show tys? (.ty i :: ds) = (tys? ds).map (i :: ·) from rfl, q] at e
      cases e
      have s1' : v = .ty i := s1
      rw [s1', tys?_ok s2 q]
      rfl
  | .non :: ds, _, _, _, e => by cases e
  | .int _ :: ds, _, _, _, e => by cases e
  | .str _ :: ds, _, _, _, e => by cases e
  | .tup _ :: ds, _, _, _, e => by cases e
  | .lst _ :: ds, _, _, _, e => by cases e
  | .fn _ :: ds, _, _, _, e => by cases e
  | .bl _ :: ds, _, _, _, e => by cases e
theorem paired_ty : ∀ ns : List String, Paired ClsV (ns.map V.ty) (ns.map Value.type)
  | [] => .nil
  | n :: ns => .cons (.ty n) (paired_ty ns)
theorem vals_ty : ∀ {ns : List String} {us : List Value}, Vals (ns.map V.ty) us → us = ns.map Value.type
  | [], us, h => by cases h; rfl
  | n :: ns, us, h => by
    cases h with
    | cons r t =>
      have r' : _ = Value.type n := r
      rw [r', vals_ty t]
      rfl
theorem c_isi : CallD K (rIsiA K) gIsi := by
  intro Z H ds z xs Q hz hx hg k
  unfold gIsi at hg
  split at hg
  · obtain ⟨x, y, rfl, hx2, hy⟩ := shs2 hx
    split at hg
    · rename_i t ht
      split at hg
      · rename_i kk hk
        cases hg
        cases hy
        exact .inl ⟨_, _, _, _, _, rfl, .ty _, tyn_ok hx2 ht, kit_ty hk, k _ H (Same.refl H) rfl⟩
      · cases hg
    · cases hg
  · obtain ⟨x, y, rfl, hx2, hy⟩ := shs2 hx
    split at hg
    · rename_i t ns ht hn
      split at hg
      · rename_i kk hk
        cases hg
        obtain ⟨p, vs, rfl, r, s⟩ := hy
        have e := tys?_ok s hn
        subst e
        have fin := k _ H (Same.refl H) (show Sh K Z H (.bl kk) (.bl kk) from rfl)
        rcases r with ⟨r, _⟩ | r
        · exact .inr (.inl ⟨x, p, _, _, _, kk, rfl, r, paired_ty ns, tyn_ok hx2 ht, kitAll_ok hk, fin⟩)
        · rcases r with (r | ⟨o, r⟩) | ⟨o, its, n, h1, h2, h3, _, h4⟩
          · cases r
          · cases r
          · have e4 := vals_ty h4
            refine .inr (.inr ⟨x, p, o.dict, ns.map Value.type, n, o.slots, _, kk, rfl, ?_, tyn_ok hx2 ht, kitAll_ok hk, fin⟩)
            rw [h1]
            obtain ⟨c1, c2, c3, c4⟩ := o
            simp only at h2 h3 ⊢
            rw [h2, h3, ← e4]
      · cases hg
    · cases hg
  · cases hg
theorem de_tyn {n : String} {x : PySem.Str} {pos : Pos} (hm : X.mg x = none) (hv : bootBuiltins x = some (.type n)) (hg : Gl X x := by rfl) (hn : x ≠ "__name__" := by decide) (hd : (x == ("__debug__" : Str)) = false := by decide) : DE X c q b (.Name x pos) (dConst (.ty n)) :=
  de_const (pe_bltn (v := .ty n) hg hm hv rfl hn hd) fun _ _ _ => rfl
end
end DL
/-! statements, owned lists changed, loops -/
namespace DL
open PySem PySem.Spec PyProof.Rows L2

inductive Fl where
  | nx (ρ : Ev)
  | rt (d : D) (ρ : Ev)
  | bk (ρ : Ev)
  | ct (ρ : Ev)
/-- what is handed back: shared, or fresh of level n + 1 -/
def RtR (c : DC) (K : PySem.W.Frag) (rk : Option Nat) (fo : Nat → AP) (Z : AP) (H : Hp) (d : D) (v : V) : Prop := match rk with
  | none => Sh K Z H d v
  | some n => FrR c K (fun _ _ => True) H fo Z H n d v
def SEnd (c : DC) (K : PySem.W.Frag) (rk : Option Nat) (fo : Nat → AP) (Z : AP) (H : Hp) (E : Ends) : Fl → Prop
  | .nx ρ' => ∀ σ' H' Z' fo', RS c K ρ' Z' σ' H' fo' → Stp fo Z H fo' Z' H' → E.nx σ' H'
  | .bk ρ' => ∀ σ' H' Z' fo', RS c K ρ' Z' σ' H' fo' → Stp fo Z H fo' Z' H' → E.bk σ' H'
  | .ct ρ' => ∀ σ' H' Z' fo', RS c K ρ' Z' σ' H' fo' → Stp fo Z H fo' Z' H' → E.ct σ' H'
  | .rt d ρ' => ∀ v σ' H' Z' fo', RS c K ρ' Z' σ' H' fo' → Stp fo Z H fo' Z' H' → RtR c K rk fo' Z' H' d v → E.rt v H'
theorem SEnd.stp {c : DC} {K : PySem.W.Frag} {rk : Option Nat} {fo fo1 : Nat → AP} {Z Z1 : AP} {H H1 : Hp} {E : Ends} {fl : Fl} (h : SEnd c K rk fo Z H E fl) (s : Stp fo Z H fo1 Z1 H1) : SEnd c K rk fo1 Z1 H1 E fl := by
  cases fl with
  | nx ρ => exact fun σ' H' Z' fo' R s' => h σ' H' Z' fo' R (s.trans s')
  | bk ρ => exact fun σ' H' Z' fo' R s' => h σ' H' Z' fo' R (s.trans s')
  | ct ρ => exact fun σ' H' Z' fo' R s' => h σ' H' Z' fo' R (s.trans s')
  | rt d ρ => exact fun v σ' H' Z' fo' R s' => h v σ' H' Z' fo' R (s.trans s')
def tS (c : DC) (K : PySem.W.Frag) (rk : Option Nat) (f : Ev → Res Fl) : TS := fun E σ H => ∃ ρ Z fo, RS c K ρ Z σ H fo ∧ ∃ fl, f ρ = .ok fl ∧ SEnd c K rk fo Z H E fl
structure DS (X : Cx) (c : DC) (rk : Option Nat) (st : Stmt) (f : Ev → Res Fl) : Prop where
  ps : PS X st (tS c X.K rk f)
structure DSs (X : Cx) (c : DC) (rk : Option Nat) (st : List Stmt) (f : Ev → Res Fl) : Prop where
  ps : PSs X st (tS c X.K rk f)
def sNil (ρ : Ev) : Res Fl := .ok (.nx ρ)
def sSeq (f g : Ev → Res Fl) (ρ : Ev) : Res Fl := (f ρ).bind fun fl => match fl with
  | .nx ρ' => g ρ'
  | fl => .ok fl
def sIf (t : Ev → Res (Bool × Ev)) (f g : Ev → Res Fl) : Ev → Res Fl := dIf t f g
def sSet (i : Nat) (f : Ev → Res (D × Ev)) (ρ : Ev) : Res Fl := (f ρ).bind fun p => .ok (.nx (p.2.set i (some p.1)))
def sRet (f : Ev → Res (D × Ev)) (ρ : Ev) : Res Fl := (f ρ).bind fun p => .ok (.rt p.1 p.2)
def sDrop (f : Ev → Res (D × Ev)) (ρ : Ev) : Res Fl := (f ρ).bind fun p => .ok (.nx p.2)
def sErr (_ : Ev) : Res Fl := .err
section
variable {X : Cx} {c : DC} {rk : Option Nat} {q b : Bool} {e : Expr} {st : Stmt} {sts : List Stmt} {f g : Ev → Res Fl} {fe : Ev → Res (D × Ev)} {pos : Pos}
theorem dss_nil : DSs X c rk [] sNil := ⟨by
  refine PSs.imp pss_nil fun E σ H ⟨ρ, Z, fo, R, fl, hf, k⟩ => ?_
  cases hf
  exact k σ H Z fo R Stp.refl⟩
theorem dss_cons (h1 : DS X c rk st f) (h2 : DSs X c rk sts g) : DSs X c rk (st :: sts) (sSeq f g) := ⟨by
  refine PSs.imp (pss_cons h1.ps h2.ps) fun E σ H ⟨ρ, Z, fo, R, fl, hf, k⟩ => ?_
  obtain ⟨fl1, e1, hf⟩ := Res.bind_ok hf
  refine ⟨ρ, Z, fo, R, fl1, e1, ?_⟩
  cases fl1 with
  | nx ρ1 => exact fun σ1 H1 Z1 fo1 R1 s1 => ⟨ρ1, Z1, fo1, R1, fl, hf, k.stp s1⟩
  | rt d ρ1 => cases hf; exact k
  | bk ρ1 => cases hf; exact k
  | ct ρ1 => cases hf; exact k⟩
theorem dss_one (h1 : DS X c rk st f) : DSs X c rk [st] f := ⟨pss_one h1.ps⟩
theorem ds_if {t : Expr} {a b : List Stmt} {ft : Ev → Res (Bool × Ev)} (ht : DT X c false t ft) (ha : DSs X c rk a f) (hb : DSs X c rk b g) : DS X c rk (.If t a b pos) (sIf ft f g) := ⟨by
  refine PS.imp (ps_if ht.pt ha.ps hb.ps) fun E σ H ⟨ρ, Z, fo, R, fl, hf, k⟩ => ?_
  obtain ⟨⟨d1, ρ1⟩, h1, hf⟩ := Res.bind_ok hf
  refine ⟨ρ, Z, fo, R, d1, ρ1, h1, fun H1 Z1 fo1 R1 s1 m1 => ?_⟩
  cases d1 with
  | true =>
    rw [if_pos rfl] at hf ⊢
    exact ⟨ρ1, Z1, fo1, R1, fl, hf, k.stp s1⟩
  | false =>
    rw [if_neg Bool.false_ne_true] at hf ⊢
    exact ⟨ρ1, Z1, fo1, R1, fl, hf, k.stp s1⟩⟩
theorem ds_set (i : Nat) {x : PySem.Str} {pos' : Pos} (nd : X.N.Nodup) (he : DE X c false false e fe) (hk : c.ks.getD i 0 = 0 := by rfl) (hp : c.pl.contains i = false := by rfl) (hi : X.N[i]? = some x := by rfl) (hx : Loc X.env.scope x := by first | exact Or.inl rfl | exact Or.inr rfl)
    (hs : swapsWith e (some (.Name x pos')) pos.line X.env = pure false := by rfl) (hf : X.fn x = true ∨ X.env.scope.names.lookup x = some .local := by first | exact .inl rfl | exact .inr rfl) : DS X c rk (.Assign [.Name x pos'] e pos) (sSet i fe) := ⟨by
  refine PS.imp (ps_set nd hi hx he.pe hs hf) fun E σ H ⟨ρ, Z, fo, R, fl, hf, k⟩ => ?_
  obtain ⟨⟨d1, ρ1⟩, h1, hf⟩ := Res.bind_ok hf
  cases hf
  exact ⟨ρ, Z, fo, R, d1, ρ1, h1, fun v H1 Z1 fo1 R1 s1 m1 p1 => k _ H1 Z1 fo1 (R1.set hk hp p1) s1⟩⟩
/-- a slot of level n + 1 takes a fresh list -/
theorem RS.adopt {K : PySem.W.Frag} {ρ : Ev} {Z Zz : AP} {σ : L2.St} {H H0 : Hp} {fo fo0 : Nat → AP} {i n : Nat} {d : D} {v : V} (R : RS c K ρ Z σ H fo) (hk : c.ks.getD i 0 = n + 1) (hp0 : c.pl.contains i = false) (s : Stp fo0 Zz H0 fo Z H) (h : FrR c K fo0 H0 fo Z H n d v) :
    ∃ fo', RS c K (ρ.set i (some d)) Z (σ.set i (some v)) H fo' ∧ Stp fo0 Zz H0 fo' Z H := by
  have hp := npl hp0
  obtain ⟨P, h1, h2, h3, h4⟩ := h.ex
  refine ⟨fun j b => if j = i then P b else fo j b, ?_, ⟨s.k1, s.k2, s.k3, fun j b hj => ?_⟩⟩
  rotate_left
  · by_cases qj : j = i
    · rw [if_pos qj] at hj
      exact h4 b hj
    · rw [if_neg qj] at hj
      exact s.k4 j b hj
  refine { R with len := by rw [List.length_set, List.length_set]; exact R.len, val := fun j e he => ?_, dis := fun j k b hj hk => ?_, sub := fun j b hj => ?_, pin := fun j hj => ?_ }
  · by_cases q : i = j
    · subst q
      by_cases hl : i < ρ.length
      · rw [List.getElem?_set_self hl] at he
        have e1 : d = e := Option.some.inj (Option.some.inj he)
        subst e1
        refine ⟨v, List.getElem?_set_self (R.len ▸ hl), ?_⟩
        rw [hk]
        exact Ow.more (P := P) (fun b hb => by rw [if_pos rfl]; exact hb) h1
      · rw [List.getElem?_eq_none (by simpa using hl)] at he; cases he
    · rw [List.getElem?_set_ne q] at he
      obtain ⟨w, h4, h5⟩ := R.val j e he
      refine ⟨w, by rw [List.getElem?_set_ne q]; exact h4, Ow.more (P := fo j) (fun b hb => ?_) h5⟩
      rw [if_neg (fun z => q z.symm)]
      exact hb
  · by_cases qj : j = i
    · by_cases qk : k = i
      · rw [qj, qk]
      · rw [if_pos qj] at hj
        rw [if_neg qk] at hk
        exact absurd hk (h3 k b hj)
    · by_cases qk : k = i
      · rw [if_neg qj] at hj
        rw [if_pos qk] at hk
        exact absurd hj (h3 j b hk)
      · rw [if_neg qj] at hj
        rw [if_neg qk] at hk
        exact R.dis j k b hj hk
  · by_cases qj : j = i
    · rw [if_pos qj] at hj
      exact h2 b hj
    · rw [if_neg qj] at hj
      exact R.sub j b hj
  · rw [List.getElem?_set_ne (fun (e : i = j) => hp (by rw [e]; exact hj))]
    exact R.pin j hj
theorem ds_new (i : Nat) {n : Nat} {x : PySem.Str} {pos' : Pos} (nd : X.N.Nodup) (he : DF X c n e fe) (hk : c.ks.getD i 0 = n + 1 := by rfl) (hp : c.pl.contains i = false := by rfl) (hi : X.N[i]? = some x := by rfl) (hx : Loc X.env.scope x := by first | exact Or.inl rfl | exact Or.inr rfl)
    (hs : swapsWith e (some (.Name x pos')) pos.line X.env = pure false := by rfl) (hf : X.fn x = true ∨ X.env.scope.names.lookup x = some .local := by first | exact .inl rfl | exact .inr rfl) : DS X c rk (.Assign [.Name x pos'] e pos) (sSet i fe) := ⟨by
  refine PS.imp (ps_set nd hi hx he.pe hs hf) fun E σ H ⟨ρ, Z, fo, R, fl, hf, k⟩ => ?_
  obtain ⟨⟨d1, ρ1⟩, h1, hf⟩ := Res.bind_ok hf
  cases hf
  refine ⟨ρ, Z, fo, R, d1, ρ1, h1, fun v H1 Z1 fo1 R1 s1 p1 => ?_⟩
  obtain ⟨fo2, R2, s2⟩ := R1.adopt hk hp s1 p1
  exact k _ H1 Z1 fo2 R2 s2⟩
theorem ds_ret (he : DE X c false false e fe) : DS X c none (.Return (some e) pos) (sRet fe) := ⟨by
  refine PS.imp (ps_ret he.pe) fun E σ H ⟨ρ, Z, fo, R, fl, hf, k⟩ => ?_
  obtain ⟨⟨d1, ρ1⟩, h1, hf⟩ := Res.bind_ok hf
  cases hf
  exact ⟨ρ, Z, fo, R, d1, ρ1, h1, fun v H1 Z1 fo1 R1 s1 m1 p1 => k v σ H1 Z1 fo1 R1 s1 p1⟩⟩
theorem ds_retF {n : Nat} (he : DF X c n e fe) : DS X c (some n) (.Return (some e) pos) (sRet fe) := ⟨by
  refine PS.imp (ps_ret he.pe) fun E σ H ⟨ρ, Z, fo, R, fl, hf, k⟩ => ?_
  obtain ⟨⟨d1, ρ1⟩, h1, hf⟩ := Res.bind_ok hf
  cases hf
  exact ⟨ρ, Z, fo, R, d1, ρ1, h1, fun v H1 Z1 fo1 R1 s1 p1 => k v σ H1 Z1 fo1 R1 s1 ⟨let ⟨P, h1, h2, h3, _⟩ := p1.ex; ⟨P, h1, h2, h3, fun b _ => .inl ⟨0, True.intro⟩⟩⟩⟩⟩
/-- a name of an owned list, handed out as fresh -/
theorem df_own (i : Nat) {n : Nat} {x : PySem.Str} (hk : c.ks.getD i 0 = n + 1 := by rfl) (hN : X.N[i]? = some x := by rfl) (hv : Vis X.env.scope x := by first | exact Or.inl rfl | exact Or.inr (Or.inl rfl) | exact Or.inr (Or.inr rfl)) (hd : (x == ("__debug__" : Str)) = false := by decide)
    (hcd : (x == ("__classdict__" : Str)) = false := by decide) : DF X c n (.Name x pos) (dTake i) := ⟨by
  refine PE.imp (pe_var hN hv hd hcd) fun σ H Q ⟨ρ, Z, fo, R, d, ρ', hf, k⟩ => ?_
  obtain ⟨e, rfl⟩ := dTake_ok hf
  obtain ⟨v, h1, h2⟩ := R.val i d e
  rw [hk] at h2
  refine ⟨v, h1, k v H Z (fun j b => fo j b ∧ j ≠ i) ?_ ⟨fun _ _ h _ => h, fun _ h => .inl h, fun _ h _ _ => h, fun j b hj => .inl ⟨j, hj.1⟩⟩ ⟨fo i, h2, R.sub i, fun j b hb hj => hj.2 (R.dis j i b hj.1 hb), fun b hb => .inl ⟨i, hb⟩⟩⟩
  refine { R with len := by rw [List.length_set]; exact R.len, val := fun j e he => ?_, dis := fun i j b h1 h2 => R.dis i j b h1.1 h2.1, sub := fun j b hj => R.sub j b hj.1 }
  by_cases q : i = j
  · subst q
    by_cases hl : i < ρ.length
    · rw [List.getElem?_set_self hl] at he; cases he
    · rw [List.getElem?_eq_none (by simpa using hl)] at he; cases he
  · rw [List.getElem?_set_ne q] at he
    obtain ⟨w, h3, h4⟩ := R.val j e he
    exact ⟨w, h3, Ow.more (P := fo j) (fun b hb => ⟨hb, fun z => q z.symm⟩) h4⟩⟩
def sRetN (ρ : Ev) : Res Fl := .ok (.rt .non ρ)
theorem ds_retN : DS X c none (.Return none pos) sRetN := ⟨by
  refine PS.imp ps_retN fun E σ H ⟨ρ, Z, fo, R, fl, hf, k⟩ => ?_
  cases hf
  exact k _ σ H Z fo R Stp.refl rfl⟩
theorem ds_drop (he : DE X c false false e fe) (hs : swapsWith e none pos.line X.env = pure false := by rfl) : DS X c rk (.Expr e pos) (sDrop fe) := ⟨by
  refine PS.imp (ps_expr he.pe hs) fun E σ H ⟨ρ, Z, fo, R, fl, hf, k⟩ => ?_
  obtain ⟨⟨d1, ρ1⟩, h1, hf⟩ := Res.bind_ok hf
  cases hf
  exact ⟨ρ, Z, fo, R, d1, ρ1, h1, fun v H1 Z1 fo1 R1 s1 m1 p1 => k σ H1 Z1 fo1 R1 s1⟩⟩
theorem ds_never : DS X c rk st sErr := ⟨PS.imp ps_never fun E σ H ⟨ρ, Z, fo, R, fl, hf, k⟩ => by cases hf⟩
theorem ds_pass : DS X c rk (.Pass pos) sNil := ⟨by
  refine PS.imp ps_pass fun E σ H ⟨ρ, Z, fo, R, fl, hf, k⟩ => ?_
  cases hf
  exact k σ H Z fo R Stp.refl⟩
def sBreak (ρ : Ev) : Res Fl := .ok (.bk ρ)
def sCont (ρ : Ev) : Res Fl := .ok (.ct ρ)
theorem ds_break : DS X c rk (.Break pos) sBreak := ⟨by
  refine PS.imp ps_break fun E σ H ⟨ρ, Z, fo, R, fl, hf, k⟩ => ?_
  cases hf
  exact k σ H Z fo R Stp.refl⟩
theorem ds_cont : DS X c rk (.Continue pos) sCont := ⟨by
  refine PS.imp ps_continue fun E σ H ⟨ρ, Z, fo, R, fl, hf, k⟩ => ?_
  cases hf
  exact k σ H Z fo R Stp.refl⟩
/-- x op= e -/
def sAug (i : Nat) (g : D → D → Res D) (f : Ev → Res (D × Ev)) (ρ : Ev) : Res Fl := match ρ[i]? with
  | some (some x) => (f ρ).bind fun p => (g x p.1).bind fun z => .ok (.nx (p.2.set i (some z)))
  | _ => .err
theorem ds_aug (i : Nat) {x : PySem.Str} {op : Operator} {r : R2} {g : D → D → Res D} {pos' : Pos} (nd : X.N.Nodup) (ho : OpR X (inplaceOp op) r) (hg : OpD X.K r g) (he : DE X c false false e fe) (hk : c.ks.getD i 0 = 0 := by rfl) (hp : c.pl.contains i = false := by rfl)
    (hi : X.N[i]? = some x := by rfl) (hx : Loc X.env.scope x := by first | exact Or.inl rfl | exact Or.inr rfl) (hf : X.fn x = true ∨ X.env.scope.names.lookup x = some .local := by first | exact .inl rfl | exact .inr rfl) : DS X c rk (.AugAssign (.Name x pos') op e pos) (sAug i g fe) := ⟨by
  refine PS.imp (ps_aug nd hi hx he.pe (ti := r) ho hf) fun E σ H ⟨ρ, Z, fo, R, fl, hf, k⟩ => ?_
  unfold sAug at hf
  split at hf
  · rename_i d0 h0
    obtain ⟨⟨d1, ρ1⟩, h1, hf⟩ := Res.bind_ok hf
    obtain ⟨z, h2, hf⟩ := Res.bind_ok hf
    cases hf
    obtain ⟨v, q1, q2⟩ := R.val i d0 h0
    rw [hk] at q2
    refine ⟨v, q1, ρ, Z, fo, R, d1, ρ1, h1, fun w H1 Z1 fo1 R1 s1 m1 p1 => ?_⟩
    refine hg Z1 H1 d0 d1 _ v w _ R1.ownN (Sh.stp (s1.s0 R) q2) p1 h2 fun u H2 sm p2 => ?_
    exact k _ H2 Z1 fo1 ((R1.same sm).set hk hp p2) (s1.trans (Stp.same sm))
  · cases hf⟩

/-! targets -/
/-- only the slots ts are stored -/
def Only (ts : List Nat) (σ σ' : L2.St) : Prop := σ'.length = σ.length ∧ ∀ j, j ∉ ts → σ'[j]? = σ[j]?
theorem Only.refl {ts : List Nat} {σ : L2.St} : Only ts σ σ := ⟨rfl, fun _ _ => rfl⟩
theorem Only.trans {ts us : List Nat} {σ σ' σ'' : L2.St} (a : Only ts σ σ') (b : Only us σ' σ'') : Only (ts ++ us) σ σ'' :=
  ⟨b.1.trans a.1, fun j hj => (b.2 j fun z => hj (List.mem_append_right _ z)).trans (a.2 j fun z => hj (List.mem_append_left _ z))⟩
def tG (c : DC) (K : PySem.W.Frag) (ts : List Nat) (g : D → Ev → Res Ev) : TG := fun v σ H Q => ∃ ρ Z fo d, RS c K ρ Z σ H fo ∧ Sh K Z H d v ∧ ∃ ρ', g d ρ = .ok ρ' ∧ ∀ σ' H' Z' fo', RS c K ρ' Z' σ' H' fo' → Stp fo Z H fo' Z' H' → Only ts σ σ' → Q σ' H'
def tGs (c : DC) (K : PySem.W.Frag) (ts : List Nat) (g : List D → Ev → Res Ev) : TGs := fun vs σ H Q => ∃ ρ Z fo ds, RS c K ρ Z σ H fo ∧ Shs K Z H ds vs ∧ ∃ ρ', g ds ρ = .ok ρ' ∧ ∀ σ' H' Z' fo', RS c K ρ' Z' σ' H' fo' → Stp fo Z H fo' Z' H' → Only ts σ σ' → Q σ' H'
structure DG (X : Cx) (c : DC) (tg : Expr) (ts : List Nat) (g : D → Ev → Res Ev) : Prop where
  pg : PG X tg (tG c X.K ts g)
structure DGs (X : Cx) (c : DC) (tg : List Expr) (ts : List Nat) (g : List D → Ev → Res Ev) : Prop where
  pg : PGs X tg (tGs c X.K ts g)
theorem PG.imp {X : Cx} {e : Expr} {t u : TG} (h : PG X e t) (k : ∀ v σ H Q, u v σ H Q → t v σ H Q) : PG X e u := ⟨fun pins s σ H v w Q I r q => h.run pins s σ H v w Q I r (k _ _ _ _ q)⟩
theorem PGs.imp {X : Cx} {e : List Expr} {t u : TGs} (h : PGs X e t) (k : ∀ v σ H Q, u v σ H Q → t v σ H Q) : PGs X e u := ⟨fun pins s σ H v w Q I r q => h.run pins s σ H v w Q I r (k _ _ _ _ q)⟩
def gtName (i : Nat) (d : D) (ρ : Ev) : Res Ev := .ok (ρ.set i (some d))
def gtNil (ds : List D) (ρ : Ev) : Res Ev := match ds with
  | [] => .ok ρ
  | _ => .err
def gtCons (g : D → Ev → Res Ev) (gs : List D → Ev → Res Ev) (ds : List D) (ρ : Ev) : Res Ev := match ds with
  | d :: r => (g d ρ).bind fun ρ1 => gs r ρ1
  | [] => .err
def gtTup (n : Nat) (gs : List D → Ev → Res Ev) (d : D) (ρ : Ev) : Res Ev := match d with
  | .tup ds => if ds.length = n then gs ds ρ else .err
  | _ => .err
theorem dg_name (i : Nat) {x : PySem.Str} (nd : X.N.Nodup) (hk : c.ks.getD i 0 = 0 := by rfl) (hp : c.pl.contains i = false := by rfl) (hi : X.N[i]? = some x := by rfl) (hx : Loc X.env.scope x := by first | exact Or.inl rfl | exact Or.inr rfl)
    (hf : X.fn x = true ∨ X.env.scope.names.lookup x = some .local := by first | exact .inl rfl | exact .inr rfl) : DG X c (.Name x pos) [i] (gtName i) := ⟨by
  refine PG.imp (pg_name nd hi hx hf) fun v σ H Q ⟨ρ, Z, fo, d, R, p, ρ', hf, k⟩ => ?_
  cases hf
  exact k _ H Z fo (R.set hk hp p) Stp.refl ⟨by rw [List.length_set], fun j hj => List.getElem?_set_ne fun e => hj (by rw [e]; exact List.mem_singleton_self _)⟩⟩
theorem dgs_nil : DGs X c [] [] gtNil := ⟨by
  refine PGs.imp pgs_nil fun vs σ H Q ⟨ρ, Z, fo, ds, R, p, ρ', hf, k⟩ => ?_
  cases ds with
  | nil =>
    cases hf
    exact ⟨p, k σ H Z fo R Stp.refl Only.refl⟩
  | cons _ _ => cases hf⟩
theorem dgs_cons {es : List Expr} {g : D → Ev → Res Ev} {gs : List D → Ev → Res Ev} {ts us : List Nat} (h1 : DG X c e ts g) (h2 : DGs X c es us gs) (hs : (assignEach (e :: es) X.env).map (·.2) = assign e X.env :: (assignEach es X.env).map (·.2) := by rfl) : DGs X c (e :: es) (ts ++ us) (gtCons g gs) := ⟨by
  refine PGs.imp (pgs_cons h1.pg h2.pg hs) fun vs σ H Q ⟨ρ, Z, fo, ds, R, p, ρ', hf, k⟩ => ?_
  cases ds with
  | nil => cases hf
  | cons d r =>
    obtain ⟨ρ1, e1, hf⟩ := Res.bind_ok hf
    obtain ⟨v, vr, rfl, p1, p2⟩ := p
    refine ⟨v, vr, rfl, ρ, Z, fo, d, R, p1, ρ1, e1, fun σ1 H1 Z1 fo1 R1 s1 o1 => ⟨ρ1, Z1, fo1, r, R1, Shs.stp (s1.s0 R) p2, ρ', hf, fun σ2 H2 Z2 fo2 R2 s2 o2 => k σ2 H2 Z2 fo2 R2 (s1.trans s2) (o1.trans o2)⟩⟩⟩
theorem dg_tup {es : List Expr} {k n : Nat} {gs : List D → Ev → Res Ev} {ts : List Nat} (hc : X.calm = true) (h : DGs X c es ts gs) (hn : (assignEach es X.env).length = n := by rfl) (hst : (assignEach es X.env).findIdx? (·.1) = none := by rfl) : DG X c (.Tuple es k pos) ts (gtTup n gs) := ⟨by
  refine PG.imp (pg_tup hc h.pg hn hst) fun v σ H Q ⟨ρ, Z, fo, d, R, p, ρ', hf, k⟩ => ?_
  cases d with
  | tup ds =>
    obtain ⟨a, vs, rfl, r, s⟩ := p
    have hf' : (if ds.length = n then gs ds ρ else .err) = .ok ρ' := hf
    by_cases hl : ds.length = n
    · rw [if_pos hl] at hf'
      exact ⟨a, vs, rfl, r.sq, s.len ▸ hl, ρ, Z, fo, ds, R, s, ρ', hf', k⟩
    · rw [if_neg hl] at hf'; cases hf'
  | _ => cases hf⟩
def sAsg (f : Ev → Res (D × Ev)) (g : D → Ev → Res Ev) (ρ : Ev) : Res Fl := (f ρ).bind fun p => (g p.1 p.2).bind fun ρ' => .ok (.nx ρ')
theorem ds_asg {tg : Expr} {ts : List Nat} {gt : D → Ev → Res Ev} (he : DE X c false false e fe) (hg : DG X c tg ts gt) (hs : swapsWithSole [tg] e pos.line X.env = pure false := by rfl) (hw : swappedStores [tg] e X.env = pure none := by rfl)
    (h1 : (assignEach [tg] X.env).map (·.2) = [assign tg X.env] := by rfl) : DS X c rk (.Assign [tg] e pos) (sAsg fe gt) := ⟨by
  refine PS.imp (ps_asg he.pe hg.pg hs hw h1) fun E σ H ⟨ρ, Z, fo, R, fl, hf, k⟩ => ?_
  obtain ⟨⟨d1, ρ1⟩, h1, hf⟩ := Res.bind_ok hf
  obtain ⟨ρ2, h2, hf⟩ := Res.bind_ok hf
  cases hf
  exact ⟨ρ, Z, fo, R, d1, ρ1, h1, fun v H1 Z1 fo1 R1 s1 m1 p1 => ⟨ρ1, Z1, fo1, d1, R1, p1, ρ2, h2, fun σ2 H2 Z2 fo2 R2 s2 _ => k σ2 H2 Z2 fo2 R2 (s1.trans s2)⟩⟩⟩
def sPar (is : List Nat) (f : Ev → Res (List D × Ev)) (ρ : Ev) : Res Fl := (f ρ).bind fun p => match is, p.1 with
  | [i, j], [x, y] => .ok (.nx ((p.2.set i (some x)).set j (some y)))
  | [i, j, l], [x, y, z] => .ok (.nx (((p.2.set i (some x)).set j (some y)).set l (some z)))
  | _, _ => .err
theorem ds_par (i j : Nat) {x y : PySem.Str} {a e : Expr} {px py pt : Pos} {kt k2 pt2} {fs : Ev → Res (List D × Ev)} (hc : X.calm = true) (nd : X.N.Nodup) (ha : DAs X c false false [a, e] fs) (hki : c.ks.getD i 0 = 0 := by rfl) (hpi : c.pl.contains i = false := by rfl) (hkj : c.ks.getD j 0 = 0 := by rfl) (hpj : c.pl.contains j = false := by rfl)
    (hi : X.N[i]? = some x := by rfl) (hj : X.N[j]? = some y := by rfl) (hij : i ≠ j := by decide) (hx : X.env.scope.names.lookup x = some .local := by rfl) (hy : X.env.scope.names.lookup y = some .local := by rfl)
    (hw : swappedStores [.Tuple [.Name x px, .Name y py] kt pt] (.Tuple [a, e] k2 pt2) X.env = pure (some [x, y]) := by rfl)
    (hs : swapsWithSole [.Tuple [.Name x px, .Name y py] kt pt] (.Tuple [a, e] k2 pt2) pos.line X.env = pure false := by rfl) :
    DS X c rk (.Assign [.Tuple [.Name x px, .Name y py] kt pt] (.Tuple [a, e] k2 pt2) pos) (sPar [i, j] fs) := ⟨by
  refine PS.imp (ps_par hc nd hi hj hij hx hy ha.pa hw hs) fun E σ H ⟨ρ, Z, fo, R, fl, hf, k⟩ => ?_
  obtain ⟨⟨d1, ρ1⟩, h1, hf⟩ := Res.bind_ok hf
  refine ⟨ρ, Z, fo, R, d1, ρ1, h1, fun vs H1 Z1 fo1 R1 s1 m1 l1 p1 => ?_⟩
  match d1, hf, p1 with
  | [d, d2], hf, p1 =>
    cases hf
    obtain ⟨v, w, rfl, q1, q2⟩ := shs2 p1
    exact ⟨v, w, rfl, k _ H1 Z1 fo1 ((R1.set hki hpi q1).set hkj hpj q2) s1⟩
  | [], hf, _ => cases hf
  | [_], hf, _ => cases hf
  | _ :: _ :: _ :: _, hf, _ => cases hf⟩
theorem shs3 {K : PySem.W.Frag} {Z : AP} {H : Hp} {d e g : D} {xs : List V} (h : Shs K Z H [d, e, g] xs) : ∃ x y z, xs = [x, y, z] ∧ Sh K Z H d x ∧ Sh K Z H e y ∧ Sh K Z H g z := by
  obtain ⟨v, r, rfl, s, t⟩ := h
  obtain ⟨y, z, rfl, s2, s3⟩ := shs2 t
  exact ⟨v, y, z, rfl, s, s2, s3⟩
theorem ds_par3 (i j l : Nat) {x y z : PySem.Str} {a e e3 : Expr} {px py pz pt : Pos} {kt k2 pt2} {fs : Ev → Res (List D × Ev)} (hc : X.calm = true) (nd : X.N.Nodup) (ha : DAs X c false false [a, e, e3] fs) (hki : c.ks.getD i 0 = 0 := by rfl) (hpi : c.pl.contains i = false := by rfl) (hkj : c.ks.getD j 0 = 0 := by rfl) (hpj : c.pl.contains j = false := by rfl)
    (hkl : c.ks.getD l 0 = 0 := by rfl) (hpl : c.pl.contains l = false := by rfl) (hi : X.N[i]? = some x := by rfl) (hj : X.N[j]? = some y := by rfl) (hl : X.N[l]? = some z := by rfl) (hij : i ≠ j := by decide) (hil : i ≠ l := by decide) (hjl : j ≠ l := by decide)
    (hx : X.env.scope.names.lookup x = some .local := by rfl) (hy : X.env.scope.names.lookup y = some .local := by rfl) (hz : X.env.scope.names.lookup z = some .local := by rfl)
    (hw : swappedStores [.Tuple [.Name x px, .Name y py, .Name z pz] kt pt] (.Tuple [a, e, e3] k2 pt2) X.env = pure (some [x, y, z]) := by rfl)
    (hs : swapsWithSole [.Tuple [.Name x px, .Name y py, .Name z pz] kt pt] (.Tuple [a, e, e3] k2 pt2) pos.line X.env = pure false := by rfl) :
    DS X c rk (.Assign [.Tuple [.Name x px, .Name y py, .Name z pz] kt pt] (.Tuple [a, e, e3] k2 pt2) pos) (sPar [i, j, l] fs) := ⟨by
  refine PS.imp (ps_par3 hc nd hi hj hl hij hil hjl hx hy hz ha.pa hw hs) fun E σ H ⟨ρ, Z, fo, R, fl, hf, k⟩ => ?_
  obtain ⟨⟨d1, ρ1⟩, h1, hf⟩ := Res.bind_ok hf
  refine ⟨ρ, Z, fo, R, d1, ρ1, h1, fun vs H1 Z1 fo1 R1 s1 m1 l1 p1 => ?_⟩
  match d1, hf, p1 with
  | [d, d2, d3], hf, p1 =>
    cases hf
    obtain ⟨v, w, u, rfl, q1, q2, q3⟩ := shs3 p1
    exact ⟨v, w, u, rfl, k _ H1 Z1 fo1 (((R1.set hki hpi q1).set hkj hpj q2).set hkl hpl q3) s1⟩
  | [], hf, _ => cases hf
  | [_], hf, _ => cases hf
  | [_, _], hf, _ => cases hf
  | _ :: _ :: _ :: _ :: _, hf, _ => cases hf⟩

/-! owned lists of shared items, changed -/
theorem RS.mut1 {K : PySem.W.Frag} {ρ : Ev} {Z : AP} {σ : L2.St} {H : Hp} {fo : Nat → AP} {i : Nat} {ds : List D} (R : RS c K ρ Z σ H fo) (hk : c.ks.getD i 0 = 1) (h : ρ[i]? = some (some (.lst ds))) :
    ∃ a vs, σ[i]? = some (some (.ref a)) ∧ H a = some (.lst vs) ∧ Shs K Z H ds vs ∧ ∀ ds' vs', Shs K Z H ds' vs' →
      RS c K (ρ.set i (some (.lst ds'))) Z σ (upd H a (.lst vs')) fo ∧ Stp fo Z H fo Z (upd H a (.lst vs')) := by
  obtain ⟨v, h1, h2⟩ := R.val i _ h
  rw [hk] at h2
  obtain ⟨a, vs, rfl, pa, za, ha, l, Q, q1, q2, q3⟩ := h2
  refine ⟨a, vs, h1, ha, Shs.of l fun i d v e1 e2 => q3 i d v e1 e2, fun ds' vs' hs => ?_⟩
  have st : Stp0 Z H Z (upd H a (.lst vs')) := ⟨fun b o hb hz => by
    rw [upd_ne (fun (e : b = a) => hz (by rw [e]; exact za))]
    exact hb, fun b hb => .inl hb⟩
  refine ⟨?_, ⟨fun b o hb hf => by
    rw [upd_ne (fun (e : b = a) => hf i (by rw [e]; exact pa))]
    exact hb, fun b hb => .inl hb, fun b hb _ _ => hb, fun j b hb => .inl ⟨j, hb⟩⟩⟩
  refine { R with len := by rw [List.length_set]; exact R.len, val := fun j e he => ?_, own := fun b hb => ?_, e1 := fun b o h3 h4 => ?_, dm := fun b hb => ?_ }
  · by_cases q : i = j
    · subst q
      have hl : i < ρ.length := (List.getElem?_eq_some_iff.mp h).1
      rw [List.getElem?_set_self hl] at he
      have e1 : D.lst ds' = e := Option.some.inj (Option.some.inj he)
      subst e1
      refine ⟨_, h1, ?_⟩
      rw [hk]
      refine ⟨a, vs', rfl, pa, za, upd_same, hs.len, fun _ _ => False, fun _ _ z => z.elim, fun _ _ _ z _ => z.elim, fun j d v e1 e2 => ?_⟩
      obtain ⟨w, h5, h6⟩ := (hs.stp st).get e1
      rw [h5] at e2
      cases e2
      exact h6
    · rw [List.getElem?_set_ne q] at he
      obtain ⟨w, h5, h6⟩ := R.val j e he
      refine ⟨w, h5, Ow.keep (fun d v s => s.stp st) _ e w (fo j) (fun b hb hz hn => ⟨upd_ne fun e => q (R.dis i j b (e ▸ pa) hb), hz⟩) h6⟩
  · by_cases e : b = a
    · rw [e]
      exact ⟨_, upd_same, rfl⟩
    · rw [upd_ne e]
      exact R.own b hb
  · by_cases e : b = a
    · rcases (R.sub i a pa).2 with z | z
      · exact absurd (e ▸ z) h4
      · rw [e, z] at h3; cases h3
    · rw [upd_ne e]
      exact R.e1 b o h3 h4
  · by_cases e : b = a
    · rw [e, upd_same] at hb; cases hb
    · rw [upd_ne e] at hb
      exact R.dm b hb
def sApp (i : Nat) (f : Ev → Res (D × Ev)) (ρ : Ev) : Res Fl := match ρ[i]? with
  | some (some (.lst _)) => (f ρ).bind fun p => match p.2[i]? with
    | some (some (.lst ds)) => if ds.length < 16777216 then .ok (.nx (p.2.set i (some (.lst (ds ++ [p.1]))))) else .err
    | _ => .err
  | _ => .err
theorem sizeLine_gt {n : Nat} (h : n < 16777216) : n < sizeLine := by rw [sizeLine_eq]; exact h
theorem ds_app (i : Nat) {x : PySem.Str} {px apos cpos : Pos} (he : DE X c false false e fe) (hk : c.ks.getD i 0 = 1 := by rfl) (hN : X.N[i]? = some x := by rfl) (hv : Vis X.env.scope x := by first | exact Or.inl rfl | exact Or.inr (Or.inl rfl) | exact Or.inr (Or.inr rfl)) (hd : (x == ("__debug__" : Str)) = false := by decide)
    (hcd : (x == ("__classdict__" : Str)) = false := by decide) (hbase : attributeBase (.Name x px) "append" X.env (eval (.Name x px) X.env) = eval (.Name x px) X.env := by rfl)
    (hfew : ((backTo cpos (starEach [e] X.env)).all (fun x => !x.1) && (backToKw cpos (keywordEach [] X.env)).all (fun x => x.1.isSome) && decide ([e].length + ([] : List Keyword).length + (if ([] : List Keyword).isEmpty then 0 else 1) < 30)) = true := by rfl)
    (hline : (apos.endLine == cpos.line) = true := by rfl) (hs : starEach [e] X.env = (false, eval e X.env) :: starEach [] X.env := by rfl) (hplain : (backTo cpos (starEach [] X.env)).any (·.1) = false := by rfl)
    (hsw : swapsWith (.Call (.Attribute (.Name x px) "append" apos) [e] [] cpos) none pos.line X.env = pure false := by rfl) :
    DS X c rk (.Expr (.Call (.Attribute (.Name x px) "append" apos) [e] [] cpos) pos) (sApp i fe) := ⟨by
  refine PS.imp (ps_expr (pe_bm PySem.F.plainAttrs_list PySem.F.slot_list_append PySem.F.type_list_append mt_append (pe_var hN hv hd hcd) (pa_cons he.pe pa_nil hs) hbase hfew hline hs hplain) hsw) fun E σ H ⟨ρ, Z, fo, R, fl, hf, k⟩ => ?_
  unfold sApp at hf
  split at hf
  · rename_i ds0 h0
    obtain ⟨⟨d1, ρ1⟩, h1, hf⟩ := Res.bind_ok hf
    obtain ⟨a0, vs0, q1, q2, q3, _⟩ := R.mut1 hk h0
    refine ⟨_, q1, .inl ⟨rfl, vs0, SqL.of q2⟩, ρ, Z, fo, R, d1, ρ1, h1, fun w H1 Z1 fo1 R1 s1 m1 p1 => ?_⟩
    dsimp only at hf
    split at hf
    · rename_i ds h3
      obtain ⟨a, vs, r1, r2, r3, r4⟩ := R1.mut1 hk h3
      obtain ⟨h4, e4⟩ := if_ok hf
      subst e4
      have ea : a = a0 := by
        rw [q1] at r1
        cases r1
        rfl
      subst ea
      obtain ⟨R2, s2⟩ := r4 (ds ++ [d1]) (vs ++ [w]) (r3.app (Shs.one p1))
      exact ⟨a, vs, w, rfl, rfl, r2, sizeLine_gt (by rw [← r3.len]; exact h4), k σ _ Z1 fo1 R2 (s1.trans s2)⟩
    · cases hf
  · cases hf⟩
/-- x.pop() -/
def dPop (i : Nat) (ρ : Ev) : Res (D × Ev) := match ρ[i]? with
  | some (some (.lst ds)) => match ds[ds.length - 1]? with
    | some d => .ok (d, ρ.set i (some (.lst ds.dropLast)))
    | none => .err
  | _ => .err
theorem de_pop (i : Nat) {x : PySem.Str} {px apos cpos : Pos} (hk : c.ks.getD i 0 = 1 := by rfl) (hN : X.N[i]? = some x := by rfl) (hv : Vis X.env.scope x := by first | exact Or.inl rfl | exact Or.inr (Or.inl rfl) | exact Or.inr (Or.inr rfl)) (hd : (x == ("__debug__" : Str)) = false := by decide)
    (hcd : (x == ("__classdict__" : Str)) = false := by decide) (hbase : attributeBase (.Name x px) "pop" X.env (eval (.Name x px) X.env) = eval (.Name x px) X.env := by rfl) (hline : (apos.endLine == cpos.line) = true := by rfl) :
    DE X c false false (.Call (.Attribute (.Name x px) "pop" apos) [] [] cpos) (dPop i) := ⟨by
  refine PE.imp (pe_bm0 PySem.F.plainAttrs_list PySem.F.slot_list_pop PySem.F.type_list_pop mt_pop (pe_var hN hv hd hcd) hbase hline) fun σ H Q ⟨ρ, Z, fo, R, d, ρ', hf, k⟩ => ?_
  unfold dPop at hf
  split at hf
  · rename_i ds h0
    obtain ⟨a, vs, q1, q2, q3, q4⟩ := R.mut1 hk h0
    split at hf
    · rename_i d1 h1
      cases hf
      obtain ⟨w, h2, h3⟩ := q3.get h1
      obtain ⟨R2, s2⟩ := q4 ds.dropLast vs.dropLast q3.dropLast
      exact ⟨_, q1, .inl ⟨rfl, vs, SqL.of q2⟩, a, vs, w, rfl, rfl, q2, by rw [← q3.len]; exact h2, k w _ Z fo R2 s2 (fun z => nomatch z) (Sh.stp (s2.s0 R) h3)⟩
    · cases hf
  · cases hf⟩
/-- x.extend(fresh list) -/
def sExt (i : Nat) (f : Ev → Res (D × Ev)) (ρ : Ev) : Res Fl := match ρ[i]? with
  | some (some (.lst _)) => (f ρ).bind fun p => match p.2[i]? with
    | some (some (.lst ds)) => match p.1 with
      | .lst es => if ds.length + es.length ≤ 16777216 then .ok (.nx (p.2.set i (some (.lst (ds ++ es))))) else .err
      | _ => .err
    | _ => .err
  | _ => .err
theorem ds_ext (i : Nat) {x : PySem.Str} {px apos cpos : Pos} (he : DF X c 0 e fe) (hk : c.ks.getD i 0 = 1 := by rfl) (hN : X.N[i]? = some x := by rfl) (hv : Vis X.env.scope x := by first | exact Or.inl rfl | exact Or.inr (Or.inl rfl) | exact Or.inr (Or.inr rfl)) (hd : (x == ("__debug__" : Str)) = false := by decide)
    (hcd : (x == ("__classdict__" : Str)) = false := by decide) (hbase : attributeBase (.Name x px) "extend" X.env (eval (.Name x px) X.env) = eval (.Name x px) X.env := by rfl)
    (hfew : ((backTo cpos (starEach [e] X.env)).all (fun x => !x.1) && (backToKw cpos (keywordEach [] X.env)).all (fun x => x.1.isSome) && decide ([e].length + ([] : List Keyword).length + (if ([] : List Keyword).isEmpty then 0 else 1) < 30)) = true := by rfl)
    (hline : (apos.endLine == cpos.line) = true := by rfl) (hs : starEach [e] X.env = (false, eval e X.env) :: starEach [] X.env := by rfl) (hplain : (backTo cpos (starEach [] X.env)).any (·.1) = false := by rfl)
    (hsw : swapsWith (.Call (.Attribute (.Name x px) "extend" apos) [e] [] cpos) none pos.line X.env = pure false := by rfl) :
    DS X c rk (.Expr (.Call (.Attribute (.Name x px) "extend" apos) [e] [] cpos) pos) (sExt i fe) := ⟨by
  refine PS.imp (ps_expr (pe_bm PySem.F.plainAttrs_list PySem.F.slot_list_extend PySem.F.type_list_extend mt_extend (pe_var hN hv hd hcd) (pa_cons he.pe pa_nil hs) hbase hfew hline hs hplain) hsw) fun E σ H ⟨ρ, Z, fo, R, fl, hf, k⟩ => ?_
  unfold sExt at hf
  split at hf
  · rename_i ds0 h0
    obtain ⟨⟨d1, ρ1⟩, h1, hf⟩ := Res.bind_ok hf
    obtain ⟨a0, vs0, q1, q2, q3, _⟩ := R.mut1 hk h0
    refine ⟨_, q1, .inl ⟨rfl, vs0, SqL.of q2⟩, ρ, Z, fo, R, d1, ρ1, h1, fun w H1 Z1 fo1 R1 s1 p1 => ?_⟩
    dsimp only at hf
    split at hf
    · rename_i ds h3
      obtain ⟨a, vs, r1, r2, r3, r4⟩ := R1.mut1 hk h3
      cases d1 with
      | lst es => ?_
      | _ => cases hf
      obtain ⟨h4, e4⟩ := if_ok hf
      subst e4
      have ea : a = a0 := by
        rw [q1] at r1
        cases r1
        rfl
      subst ea
      obtain ⟨P, ⟨b, ws, rfl, pb, zb, hb, l, Q', o1, o2, o3⟩, _, _, _⟩ := p1.ex
      have hes : Shs X.K Z1 H1 es ws := Shs.of l fun i d v e1 e2 => o3 i d v e1 e2
      obtain ⟨R2, s2⟩ := r4 (ds ++ es) (vs ++ ws) (r3.app hes)
      exact ⟨a, b, vs, ws, rfl, rfl, r2, hb, sizeLine_ge (by rw [← r3.len, ← hes.len]; exact h4), k σ _ Z1 fo1 R2 (s1.trans s2)⟩
    · cases hf
  · cases hf⟩
/-- x[k] = e -/
def sPut (i : Nat) (f g : Ev → Res (D × Ev)) (ρ : Ev) : Res Fl := (f ρ).bind fun p => match p.2[i]? with
  | some (some (.lst _)) => (g p.2).bind fun r => match r.2[i]? with
    | some (some (.lst ds)) => match r.1 with
      | .int n => match ixN ds.length n with
        | some j => .ok (.nx (r.2.set i (some (.lst (ds.set j p.1)))))
        | none => .err
      | _ => .err
    | _ => .err
  | _ => .err
theorem ds_put (i : Nat) {x : PySem.Str} {ix : Expr} {px tpos : Pos} {fi : Ev → Res (D × Ev)} (he : DE X c false false e fe) (hi : DE X c false false ix fi) (hk : c.ks.getD i 0 = 1 := by rfl) (hN : X.N[i]? = some x := by rfl) (hv : Vis X.env.scope x := by first | exact Or.inl rfl | exact Or.inr (Or.inl rfl) | exact Or.inr (Or.inr rfl)) (hd : (x == ("__debug__" : Str)) = false := by decide)
    (hcd : (x == ("__classdict__" : Str)) = false := by decide)
    (ha : ∀ v, assign (.Subscript (.Name x px) ix tpos) X.env v = (do
      let ov ← holding [v] (eval (.Name x px) X.env)
      let iv ← holding [v, ov] (eval ix X.env)
      standAt tpos
      holding [v, ov, iv] (setItem ov iv v)
      release [v, ov, iv] []) := by intro _; rfl)
    (hs : swapsWithSole [.Subscript (.Name x px) ix tpos] e pos.line X.env = pure false := by rfl) (hw : swappedStores [.Subscript (.Name x px) ix tpos] e X.env = pure none := by rfl)
    (h1 : (assignEach [.Subscript (.Name x px) ix tpos] X.env).map (·.2) = [assign (.Subscript (.Name x px) ix tpos) X.env] := by rfl) :
    DS X c rk (.Assign [.Subscript (.Name x px) ix tpos] e pos) (sPut i fe fi) := ⟨by
  refine PS.imp (ps_asg he.pe (pg_sub (pe_var hN hv hd hcd) hi.pe set_list ha) hs hw h1) fun E σ H ⟨ρ, Z, fo, R, fl, hf, k⟩ => ?_
  obtain ⟨⟨d1, ρ1⟩, e1, hf⟩ := Res.bind_ok hf
  dsimp only at hf
  split at hf
  · rename_i ds0 h0
    obtain ⟨⟨d2, ρ2⟩, e2, hf⟩ := Res.bind_ok hf
    dsimp only at hf
    split at hf
    · rename_i ds h3
      cases d2 with
      | int n =>
        dsimp only at hf
        split at hf
        · rename_i j hj
          cases hf
          refine ⟨ρ, Z, fo, R, d1, ρ1, e1, fun w H1 Z1 fo1 R1 s1 m1 p1 => ?_⟩
          obtain ⟨a0, vs0, q1, q2, q3, _⟩ := R1.mut1 hk h0
          refine ⟨_, q1, ρ1, Z1, fo1, R1, .int n, ρ2, e2, fun y H2 Z2 fo2 R2 s2 m2 p2 => ?_⟩
          cases p2
          obtain ⟨a, vs, r1, r2, r3, r4⟩ := R2.mut1 hk h3
          rw [q1] at r1
          cases r1
          obtain ⟨R3, s3⟩ := r4 (ds.set j d1) (vs.set j w) (r3.set j (Sh.stp (s2.s0 R1) p1))
          exact ⟨_, vs, n, j, rfl, rfl, r2, by rw [← r3.len]; exact hj, k σ _ Z2 fo2 R3 ((s1.trans s2).trans s3)⟩
        · cases hf
      | _ => cases hf
    · cases hf
  · cases hf⟩
end
end DL
/-! loops, comprehensions -/
namespace DL
open PySem PySem.Spec PyProof.Rows L2

/-! ### what is walked -/
/-- J walks the items ds, while what is shared stays -/
def ItR (K : PySem.W.Frag) (Z : AP) (H : Hp) (J : It) (ds : List D) : Prop := ∃ G Y, L2.Walk J ds.length G Y ∧ (∀ Z1 H1, Stp0 Z H Z1 H1 → G H1) ∧
  ∀ i Z1 H1 x H2, i < ds.length → Stp0 Z H Z1 H1 → (∀ b, Z1 b → H1 b ≠ none) → Y i H1 x H2 → Same H1 H2 ∧ ∃ d, ds[i]? = some d ∧ Sh K Z1 H2 d x
def tI (c : DC) (K : PySem.W.Frag) (f : Ev → Res (List D × Ev)) : TI := fun σ H R => ∃ ρ Z fo, RS c K ρ Z σ H fo ∧ ∃ ds ρ', f ρ = .ok (ds, ρ') ∧
  ∀ J H' Z' fo', RS c K ρ' Z' σ H' fo' → Stp fo Z H fo' Z' H' → ItR K Z' H' J ds → R J H'
structure DI (X : Cx) (c : DC) (tg iter : Expr) (f : Ev → Res (List D × Ev)) : Prop where
  pi : PI X tg iter (tI c X.K f)
theorem PI.imp {X : Cx} {tg e : Expr} {t u : TI} (h : PI X tg e t) (k : ∀ σ H R, u σ H R → t σ H R) : PI X tg e u := ⟨fun pins s σ H R I q => h.run pins s σ H R I (k _ _ _ q)⟩
def dSeqI (f : Ev → Res (D × Ev)) (ρ : Ev) : Res (List D × Ev) := (f ρ).bind fun p => match seqOf p.1 with
  | some ds => .ok (ds, p.2)
  | none => .err
def dTupI (f : Ev → Res (D × Ev)) (ρ : Ev) : Res (List D × Ev) := (f ρ).bind fun p => match p.1 with
  | .tup ds => .ok (ds, p.2)
  | _ => .err
def dLstI (f : Ev → Res (D × Ev)) (ρ : Ev) : Res (List D × Ev) := (f ρ).bind fun p => match p.1 with
  | .lst ds => .ok (ds, p.2)
  | _ => .err
def rgD (a b : Int) : List D := (List.range (b - a).toNat).map fun i => D.int (a + (i : Nat))
abbrev RgI (a b : Int) : Prop := -(2 ^ 62) ≤ a ∧ a < 2 ^ 62 ∧ -(2 ^ 62) ≤ b ∧ b < 2 ^ 62
def dRng1 (f : Ev → Res (D × Ev)) (ρ : Ev) : Res (List D × Ev) := (f ρ).bind fun p => match p.1 with
  | .int n => if RgI 0 n then .ok (rgD 0 n, p.2) else .err
  | _ => .err
def dRng2 (f : Ev → Res (List D × Ev)) (ρ : Ev) : Res (List D × Ev) := (f ρ).bind fun p => match p.1 with
  | [.int m, .int n] => if RgI m n then .ok (rgD m n, p.2) else .err
  | _ => .err
/-- range(a, b, -1) -/
def rgDn (a b : Int) : List D := (List.range (a - b).toNat).map fun i => D.int (a - (i : Nat))
def dRngD (f : Ev → Res (List D × Ev)) (ρ : Ev) : Res (List D × Ev) := (f ρ).bind fun p => match p.1 with
  | [.int m, .int n, .int k] => if RgI m n ∧ k = -1 then .ok (rgDn m n, p.2) else .err
  | _ => .err
def pairD (xs ys : List D) : List D := (xs.zip ys).map fun p => .tup [p.1, p.2]
def dZip (f : Ev → Res (List D × Ev)) (ρ : Ev) : Res (List D × Ev) := (f ρ).bind fun p => match p.1 with
  | [.tup xs, .tup ys] => .ok (pairD xs ys, p.2)
  | [.lst xs, .lst ys] => .ok (pairD xs ys, p.2)
  | _ => .err
def enumD (ds : List D) : List D := (ds.zipIdx).map fun p => .tup [.int (p.2 : Nat), p.1]
def dEnumL (f : Ev → Res (D × Ev)) (ρ : Ev) : Res (List D × Ev) := (f ρ).bind fun p => match p.1 with
  | .lst xs => .ok (enumD xs, p.2)
  | _ => .err
def dStrI (f : Ev → Res (D × Ev)) (ρ : Ev) : Res (List D × Ev) := (f ρ).bind fun p => match p.1 with
  | .str z => .ok (z.cps.toList.map fun c => .str ⟨#[c]⟩, p.2)
  | _ => .err
section
variable {X : Cx} {c : DC} {q b : Bool} {tg e : Expr} {fe : Ev → Res (D × Ev)} {pos p : Pos}
theorem ItR.list {K : PySem.W.Frag} {Z : AP} {H : Hp} {a : Addr} {vs : List V} {ds : List D} (r : RdL K Z H a vs) (s : Shs K Z H ds vs) : ItR K Z H (Itl K a) ds := by
  refine ⟨_, _, by rw [s.len]; exact walk_list (xs := vs), fun Z1 H1 st => (r.stp st).sq, fun i Z1 H1 x H2 hi st hz y => ?_⟩
  obtain ⟨rfl, y⟩ := y
  obtain ⟨d, h1, h2⟩ := (Shs.stp st s).getV y
  exact ⟨Same.refl _, d, h1, h2⟩
theorem ItR.tup {K : PySem.W.Frag} {Z : AP} {H : Hp} {a : Addr} {vs : List V} {ds : List D} (r : RdT K Z H a vs) (s : Shs K Z H ds vs) : ItR K Z H (Itt K a) ds := by
  refine ⟨_, _, by rw [s.len]; exact walk_tup (xs := vs), fun Z1 H1 st => (r.stp st).sq, fun i Z1 H1 x H2 hi st hz y => ?_⟩
  obtain ⟨rfl, y⟩ := y
  obtain ⟨d, h1, h2⟩ := (Shs.stp st s).getV y
  exact ⟨Same.refl _, d, h1, h2⟩
theorem di_tup (he : DE X c false false e fe) : DI X c tg e (dTupI fe) := ⟨by
  refine PI.imp (pi_tup he.pe) fun σ H R ⟨ρ, Z, fo, RR, ds, ρ', hf, k⟩ => ?_
  obtain ⟨⟨d1, ρ1⟩, e1, hf⟩ := Res.bind_ok hf
  refine ⟨ρ, Z, fo, RR, d1, ρ1, e1, fun v H1 Z1 fo1 R1 s1 m1 p1 => ?_⟩
  cases d1 with
  | tup es =>
    cases hf
    obtain ⟨a, vs, rfl, r, s⟩ := p1
    exact ⟨a, rfl, ⟨vs, r.sq⟩, k _ H1 Z1 fo1 R1 s1 (ItR.tup r s)⟩
  | _ => cases hf⟩
theorem di_list (he : DE X c false false e fe) : DI X c tg e (dLstI fe) := ⟨by
  refine PI.imp (pi_list he.pe) fun σ H R ⟨ρ, Z, fo, RR, ds, ρ', hf, k⟩ => ?_
  obtain ⟨⟨d1, ρ1⟩, e1, hf⟩ := Res.bind_ok hf
  refine ⟨ρ, Z, fo, RR, d1, ρ1, e1, fun v H1 Z1 fo1 R1 s1 m1 p1 => ?_⟩
  cases d1 with
  | lst es =>
    cases hf
    obtain ⟨a, vs, rfl, r, s⟩ := p1
    exact ⟨a, rfl, ⟨vs, r.sq⟩, k _ H1 Z1 fo1 R1 s1 (ItR.list r s)⟩
  | _ => cases hf⟩
theorem ItR.range {K : PySem.W.Frag} {Z : AP} {H : Hp} {a b : Int} : ItR K Z H (Itr a (b - a).toNat) (rgD a b) := by
  have hl : (rgD a b).length = (b - a).toNat := by unfold rgD; rw [List.length_map, List.length_range]
  refine ⟨_, _, by rw [hl]; exact walk_range, fun _ _ _ => True.intro, fun i Z1 H1 x H2 hi st hz y => ?_⟩
  obtain ⟨rfl, rfl⟩ := y
  refine ⟨Same.refl _, .int (a + (i : Nat)), ?_, rfl⟩
  rw [hl] at hi
  unfold rgD
  rw [List.getElem?_map, List.getElem?_range hi]
  rfl
theorem di_rng1 (hm : X.mg "range" = none) (ha : DE X c false false e fe) (hg : Gl X "range" := by rfl) (hs : starEach [e] X.env = [(false, eval e X.env)] := by rfl) : DI X c tg (.Call (.Name "range" p) [e] [] pos) (dRng1 fe) := ⟨by
  refine PI.imp (pi_range1 hg hm (pa_cons ha.pe pa_nil hs) hs) fun σ H R ⟨ρ, Z, fo, RR, ds, ρ', hf, k⟩ => ?_
  obtain ⟨⟨d1, ρ1⟩, e1, hf⟩ := Res.bind_ok hf
  refine ⟨ρ, Z, fo, RR, d1, ρ1, e1, fun v H1 Z1 fo1 R1 s1 m1 p1 => ?_⟩
  cases d1 with
  | int n =>
    obtain ⟨⟨h0, h1, h2, h3⟩, e2⟩ := if_ok hf
    cases e2
    cases p1
    have it : ItR X.K Z1 H1 (Itr 0 (n - 0).toNat) (rgD 0 n) := ItR.range
    rw [Int.sub_zero] at it
    exact ⟨n, rfl, h2, h3, k _ H1 Z1 fo1 R1 s1 it⟩
  | _ => cases hf⟩
theorem di_rng2 {e2 : Expr} {f : Ev → Res (List D × Ev)} (hm : X.mg "range" = none) (ha : DAs X c false false [e, e2] f) (hg : Gl X "range" := by rfl) (hs : starEach [e, e2] X.env = [(false, eval e X.env), (false, eval e2 X.env)] := by rfl) (hs2 : starEach [e2] X.env = [(false, eval e2 X.env)] := by rfl) : DI X c tg (.Call (.Name "range" p) [e, e2] [] pos) (dRng2 f) := ⟨by
  refine PI.imp (pi_range2 hg hm ha.pa hs hs2) fun σ H R ⟨ρ, Z, fo, RR, ds, ρ', hf, k⟩ => ?_
  obtain ⟨⟨d1, ρ1⟩, e1, hf⟩ := Res.bind_ok hf
  refine ⟨ρ, Z, fo, RR, d1, ρ1, e1, fun vs H1 Z1 fo1 R1 s1 m1 l1 p1 => ?_⟩
  dsimp only at hf
  split at hf
  · obtain ⟨x, y, rfl, x1, x2⟩ := shs2 p1
    obtain ⟨hR, e2⟩ := if_ok hf
    cases e2
    cases x1
    cases x2
    exact ⟨_, _, rfl, hR, k _ H1 Z1 fo1 R1 s1 ItR.range⟩
  · cases hf⟩
theorem getElem?_pair {xs ys : List D} {i : Nat} {d e : D} (h1 : xs[i]? = some d) (h2 : ys[i]? = some e) : (pairD xs ys)[i]? = some (.tup [d, e]) := by
  unfold pairD
  rw [List.getElem?_map, (List.getElem?_zip_eq_some (z := (d, e))).mpr ⟨h1, h2⟩]
  rfl
theorem pair_len {xs ys : List D} : (pairD xs ys).length = min xs.length ys.length := by
  unfold pairD
  rw [List.length_map, List.length_zip]
theorem Sh.pair {K : PySem.W.Frag} {Z : AP} {H : Hp} {T : Addr} {d e : D} {x y : V} (hn : H T = none) (hz : ∀ b, Z b → H b ≠ none) (h1 : Sh K Z H d x) (h2 : Sh K Z H e y) : Sh K Z (upd H T (.tup [x, y])) (.tup [d, e]) (.ref T) := by
  have sm : Same H (upd H T (.tup [x, y])) := same_upd hn
  exact ⟨T, _, rfl, RdT.new upd_same fun z => hz T z hn, x, [y], rfl, h1.same sm, y, [], rfl, h2.same sm, rfl⟩
theorem walk_zipT {K : PySem.W.Frag} {a b : Addr} {xs ys : List V} {n : Nat} (hn : n = min xs.length ys.length) : L2.Walk (RZ.ItzT K a b) n (fun H => SqT K H a xs ∧ SqT K H b ys) (YPair (fun i => xs[i]?) (fun i => ys[i]?)) := by
  subst hn
  refine ⟨fun i _ hi q => ?_, fun _ q => ⟨xs, ys, q.1, q.2, by omega⟩, fun i H v H' _ q y => ?_⟩
  · have h1 : i < xs.length := by omega
    have h2 : i < ys.length := by omega
    exact ⟨xs, ys, xs[i], ys[i], q.1, q.2, by simp [h1], by simp [h2]⟩
  · obtain ⟨T, x, z, h1, h2, h3, h4, h5⟩ := y
    exact ⟨T, x, z, h1, h2, h3, h4 xs q.1, h5 ys q.2⟩
theorem di_zip {e2 : Expr} {elts : List Expr} {kk : Nat} {tpos : Pos} {f : Ev → Res (List D × Ev)} (hm : X.mg "zip" = none) (ha : DAs X c false false [e, e2] f) (hg : Gl X "zip" := by rfl) (hs : starEach [e, e2] X.env = (false, eval e X.env) :: starEach [e2] X.env := by rfl) (hs2 : (backTo pos (starEach [e2] X.env)).any (·.1) = false := by rfl) :
    DI X c (.Tuple elts kk tpos) (.Call (.Name "zip" p) [e, e2] [] pos) (dZip f) := ⟨by
  refine PI.imp (RZ.pi_zipA hg hm ha.pa hs hs2) fun σ H R ⟨ρ, Z, fo, RR, ds, ρ', hf, k⟩ => ?_
  obtain ⟨⟨d1, ρ1⟩, e1, hf⟩ := Res.bind_ok hf
  refine ⟨ρ, Z, fo, RR, d1, ρ1, e1, fun vs H1 Z1 fo1 R1 s1 m1 l1 p1 => ?_⟩
  dsimp only at hf
  split at hf
  · rename_i xs ys
    obtain ⟨x, y, rfl, ⟨a, us, rfl, r1, q1⟩, ⟨b, ws, rfl, r2, q2⟩⟩ := shs2 p1
    cases hf
    refine ⟨a, b, us, ws, rfl, .inr ⟨r1.sq, r2.sq, k _ H1 Z1 fo1 R1 s1 ?_⟩⟩
    refine ⟨_, _, walk_zipT (xs := us) (ys := ws) (by rw [pair_len, q1.len, q2.len]), fun Z2 H2 st => ⟨(r1.stp st).sq, (r2.stp st).sq⟩, fun i Z2 H2 v H3 hi st hz yy => ?_⟩
    obtain ⟨T, x, y, rfl, nT, rfl, g1, g2⟩ := yy
    obtain ⟨dx, g3, g4⟩ := (Shs.stp st q1).getV g1
    obtain ⟨dy, g5, g6⟩ := (Shs.stp st q2).getV g2
    exact ⟨same_upd nT, _, getElem?_pair g3 g5, Sh.pair nT hz g4 g6⟩
  · rename_i xs ys
    obtain ⟨x, y, rfl, ⟨a, us, rfl, r1, q1⟩, ⟨b, ws, rfl, r2, q2⟩⟩ := shs2 p1
    cases hf
    refine ⟨a, b, us, ws, rfl, .inl ⟨r1.sq, r2.sq, k _ H1 Z1 fo1 R1 s1 ?_⟩⟩
    refine ⟨_, _, L2.walk_zip (xs := us) (ys := ws) (by rw [pair_len, q1.len, q2.len]), fun Z2 H2 st => ⟨(r1.stp st).sq, (r2.stp st).sq⟩, fun i Z2 H2 v H3 hi st hz yy => ?_⟩
    obtain ⟨T, x, y, rfl, nT, rfl, g1, g2⟩ := yy
    obtain ⟨dx, g3, g4⟩ := (Shs.stp st q1).getV g1
    obtain ⟨dy, g5, g6⟩ := (Shs.stp st q2).getV g2
    exact ⟨same_upd nT, _, getElem?_pair g3 g5, Sh.pair nT hz g4 g6⟩
  · cases hf⟩
/-! ### for -/
def sLoop (g : D → Ev → Res Ev) (f : Ev → Res Fl) : List D → Ev → Res Fl
  | [], ρ => .ok (.nx ρ)
  | d :: ds, ρ => (g d ρ).bind fun ρ1 => (f ρ1).bind fun fl => match fl with
    | .nx ρ2 => sLoop g f ds ρ2
    | .ct ρ2 => sLoop g f ds ρ2
    | .bk ρ2 => .ok (.nx ρ2)
    | .rt d ρ2 => .ok (.rt d ρ2)
def sFor (fi : Ev → Res (List D × Ev)) (g : D → Ev → Res Ev) (f : Ev → Res Fl) (ρ : Ev) : Res Fl := (fi ρ).bind fun p => sLoop g f p.1 p.2
theorem ds_for {rk : Option Nat} {iter : Expr} {body : List Stmt} {fi : Ev → Res (List D × Ev)} {g : D → Ev → Res Ev} {f : Ev → Res Fl} (hp : PassesOwn (model X.prog X.w) X.A X.env X.xe) (hc : X.calm = true) {ts : List Nat} (hi : DI X c tg iter fi) (hg : DG X c tg ts g) (hb : DSs X c rk body f)
    (hs : ∀ x, foldedSetIterable iter X.env x = pure x := by intro _; rfl) : DS X c rk (.For tg iter body [] pos) (sFor fi g f) := ⟨by
  refine PS.imp (ps_for hp hc hi.pi hg.pg hb.ps hs) fun E σ H ⟨ρ, Z, fo, R, fl, hf, k⟩ => ?_
  obtain ⟨⟨ds, ρ1⟩, e1, hf⟩ := Res.bind_ok hf
  refine ⟨ρ, Z, fo, R, ds, ρ1, e1, fun J H1 Z1 fo1 R1 s1 it => ?_⟩
  obtain ⟨G, Y, w, hG, hY⟩ := it
  have k1 := k.stp s1
  refine L2.for_it w (fun i σ' H' => ∃ ρi Zi foi, RS c X.K ρi Zi σ' H' foi ∧ Stp fo1 Z1 H1 foi Zi H' ∧ sLoop g f (ds.drop i) ρi = .ok fl) ⟨ρ1, Z1, fo1, R1, Stp.refl, hf⟩ (fun i σ' H' _ ⟨ρi, Zi, foi, Ri, si, _⟩ => hG Zi H' (si.s0 R1)) ?_ ?_
  · rintro i x σ' H' H2 hi ⟨ρi, Zi, foi, Ri, si, li⟩ y
    obtain ⟨sm, d, hd, hx⟩ := hY i Zi H' x H2 hi (si.s0 R1) Ri.ownN y
    have ed : ds.drop i = d :: ds.drop (i + 1) := by
      rw [List.drop_eq_getElem_cons hi]
      congr 1
      rw [List.getElem?_eq_getElem hi] at hd
      exact Option.some.inj hd
    rw [ed] at li
    obtain ⟨ρ2, g1, li⟩ := Res.bind_ok (show (g d ρi).bind (fun ρ1 => (f ρ1).bind fun fl => _) = .ok fl from li)
    obtain ⟨fl2, g2, li⟩ := Res.bind_ok li
    refine ⟨ρi, Zi, foi, d, Ri.same sm, hx, ρ2, g1, fun σ3 H3 Z3 fo3 R3 s3 _ => ⟨ρ2, Z3, fo3, R3, fl2, g2, ?_⟩⟩
    have s13 : Stp fo1 Z1 H1 fo3 Z3 H3 := (si.trans (Stp.same sm)).trans s3
    cases fl2 with
    | nx ρ4 => exact fun σ4 H4 Z4 fo4 R4 s4 => ⟨ρ4, Z4, fo4, R4, s13.trans s4, li⟩
    | ct ρ4 => exact fun σ4 H4 Z4 fo4 R4 s4 => ⟨ρ4, Z4, fo4, R4, s13.trans s4, li⟩
    | bk ρ4 =>
      cases li
      exact fun σ4 H4 Z4 fo4 R4 s4 => k1 σ4 H4 Z4 fo4 R4 (s13.trans s4)
    | rt d ρ4 =>
      cases li
      exact fun v σ4 H4 Z4 fo4 R4 s4 => k1 v σ4 H4 Z4 fo4 R4 (s13.trans s4)
  · rintro σ' H' ⟨ρi, Zi, foi, Ri, si, li⟩
    rw [List.drop_length] at li
    cases li
    exact k1 σ' H' Zi foi Ri si⟩
/-! ### while -/
def sWhileN (t : Ev → Res (Bool × Ev)) (f : Ev → Res Fl) : Nat → Ev → Res Fl
  | 0, _ => .err
  | n + 1, ρ => (t ρ).bind fun p => if p.1 = true then (f p.2).bind fun fl => match fl with
      | .nx ρ2 => sWhileN t f n ρ2
      | .ct ρ2 => sWhileN t f n ρ2
      | .bk ρ2 => .ok (.nx ρ2)
      | .rt d ρ2 => .ok (.rt d ρ2)
    else .ok (.nx p.2)
open Classical in
noncomputable def sWhile (t : Ev → Res (Bool × Ev)) (f : Ev → Res Fl) (ρ : Ev) : Res Fl := if h : ∃ n fl, sWhileN t f n ρ = .ok fl then sWhileN t f h.choose ρ else .err
theorem sWhileN_mono {t : Ev → Res (Bool × Ev)} {f : Ev → Res Fl} : ∀ {n : Nat} {ρ : Ev} {fl : Fl}, sWhileN t f n ρ = .ok fl → ∀ m, n ≤ m → sWhileN t f m ρ = .ok fl
  | 0, _, _, h, _, _ => by cases h
  | n + 1, ρ, fl, h, m, hm => by
    obtain ⟨m', rfl⟩ : ∃ m', m = m' + 1 := ⟨m - 1, by omega⟩
    obtain ⟨⟨k, ρ1⟩, h1, h⟩ := Res.bind_ok (show (t ρ).bind _ = .ok fl from h)
    show (t ρ).bind _ = .ok fl
    rw [h1]
    show (if k = true then _ else _) = Res.ok fl
    have h' : (if k = true then _ else _) = Res.ok fl := h
    cases k with
    | false => exact h'
    | true =>
      rw [if_pos rfl] at h' ⊢
      obtain ⟨fl2, h2, h'⟩ := Res.bind_ok h'
      rw [h2]
      cases fl2 with
      | nx ρ2 => exact sWhileN_mono h' m' (by omega)
      | ct ρ2 => exact sWhileN_mono h' m' (by omega)
      | bk ρ2 => exact h'
      | rt d ρ2 => exact h'
theorem sWhile_of {t : Ev → Res (Bool × Ev)} {f : Ev → Res Fl} {n : Nat} {ρ : Ev} {fl : Fl} (h : sWhileN t f n ρ = .ok fl) : sWhile t f ρ = .ok fl := by
  have ex : ∃ n fl, sWhileN t f n ρ = .ok fl := ⟨n, fl, h⟩
  unfold sWhile
  rw [dif_pos ex]
  obtain ⟨fl2, h2⟩ := ex.choose_spec
  rw [h2]
  have a := sWhileN_mono h (max n ex.choose) (Nat.le_max_left _ _)
  have b := sWhileN_mono h2 (max n ex.choose) (Nat.le_max_right _ _)
  rw [a] at b
  exact b.symm
theorem sWhile_to {t : Ev → Res (Bool × Ev)} {f : Ev → Res Fl} {ρ : Ev} {fl : Fl} (h : sWhile t f ρ = .ok fl) : ∃ n, sWhileN t f n ρ = .ok fl := by
  unfold sWhile at h
  split at h
  · rename_i ex
    exact ⟨_, h⟩
  · cases h
/-- the one-turn equation, as far as it ends -/
theorem sWhile_step {t : Ev → Res (Bool × Ev)} {f : Ev → Res Fl} {ρ ρ1 : Ev} {fl : Fl} {k : Bool} (h1 : t ρ = .ok (k, ρ1)) (h2 : k = false → fl = .nx ρ1)
    (h3 : k = true → ∃ fl2, f ρ1 = .ok fl2 ∧ match fl2 with
      | .nx ρ2 => sWhile t f ρ2 = .ok fl
      | .ct ρ2 => sWhile t f ρ2 = .ok fl
      | .bk ρ2 => fl = .nx ρ2
      | .rt d ρ2 => fl = .rt d ρ2) : sWhile t f ρ = .ok fl := by
  cases k with
  | false =>
    refine sWhile_of (n := 1) ?_
    show (t ρ).bind _ = _
    rw [h1, h2 rfl]
    rfl
  | true =>
    obtain ⟨fl2, h4, h5⟩ := h3 rfl
    cases fl2 with
    | nx ρ2 =>
      obtain ⟨n, h6⟩ := sWhile_to h5
      refine sWhile_of (n := n + 1) ?_
      show (t ρ).bind _ = _
      rw [h1]
      show (f ρ1).bind _ = _
      rw [h4]
      exact h6
    | ct ρ2 =>
      obtain ⟨n, h6⟩ := sWhile_to h5
      refine sWhile_of (n := n + 1) ?_
      show (t ρ).bind _ = _
      rw [h1]
      show (f ρ1).bind _ = _
      rw [h4]
      exact h6
    | bk ρ2 =>
      refine sWhile_of (n := 1) ?_
      show (t ρ).bind _ = _
      rw [h1]
      show (f ρ1).bind _ = _
      rw [h4, h5]
      rfl
    | rt d ρ2 =>
      refine sWhile_of (n := 1) ?_
      show (t ρ).bind _ = _
      rw [h1]
      show (f ρ1).bind _ = _
      rw [h4, h5]
      rfl
theorem ds_while {rk : Option Nat} {t : Expr} {body : List Stmt} {ft : Ev → Res (Bool × Ev)} {f : Ev → Res Fl} (hp : PassesOwn (model X.prog X.w) X.A X.env X.xe) (ht : DT X c false t ft) (hb : DSs X c rk body f) : DS X c rk (.While t body [] pos) (sWhile ft f) := ⟨by
  refine PS.imp (ps_while hp ht.pt hb.ps) fun E σ H ⟨ρ, Z, fo, R, fl, hf, k⟩ => ?_
  obtain ⟨n, hf⟩ := sWhile_to hf
  refine ⟨fun m σ' H' => ∃ ρi Zi foi, RS c X.K ρi Zi σ' H' foi ∧ Stp fo Z H foi Zi H' ∧ sWhileN ft f m ρi = .ok fl, ⟨n, ρ, Z, fo, R, Stp.refl, hf⟩, fun m σ' H' ⟨ρi, Zi, foi, Ri, si, li⟩ => ?_⟩
  cases m with
  | zero => cases li
  | succ m =>
    obtain ⟨⟨kk, ρ1⟩, h1, li⟩ := Res.bind_ok (show (ft ρi).bind _ = .ok fl from li)
    refine ⟨ρi, Zi, foi, Ri, kk, ρ1, h1, fun H1 Z1 fo1 R1 s1 m1 => ?_⟩
    have s01 := si.trans s1
    cases kk with
    | false =>
      rw [if_neg Bool.false_ne_true] at li
      cases li
      exact iteF (k σ' H1 Z1 fo1 R1 s01)
    | true =>
      rw [if_pos rfl] at li
      obtain ⟨fl2, h2, li⟩ := Res.bind_ok li
      refine iteT ⟨fun σ3 H3 => ∃ ρi Zi foi, RS c X.K ρi Zi σ3 H3 foi ∧ Stp fo Z H foi Zi H3 ∧ sWhileN ft f m ρi = .ok fl, fun σ3 H3 h3 => ⟨m, by omega, h3⟩, ρ1, Z1, fo1, R1, fl2, h2, ?_⟩
      cases fl2 with
      | nx ρ4 => exact fun σ4 H4 Z4 fo4 R4 s4 => ⟨ρ4, Z4, fo4, R4, s01.trans s4, li⟩
      | ct ρ4 => exact fun σ4 H4 Z4 fo4 R4 s4 => ⟨ρ4, Z4, fo4, R4, s01.trans s4, li⟩
      | bk ρ4 =>
        cases li
        exact fun σ4 H4 Z4 fo4 R4 s4 => k σ4 H4 Z4 fo4 R4 (s01.trans s4)
      | rt d ρ4 =>
        cases li
        exact fun v σ4 H4 Z4 fo4 R4 s4 => k v σ4 H4 Z4 fo4 R4 (s01.trans s4)⟩
end
end DL
/-! comprehensions, defs and their calls -/
namespace DL
open PySem PySem.Spec PyProof.Rows L2

def wipeE (ρ : Ev) : List Nat → Ev
  | [] => ρ
  | v :: vs => (wipeE ρ vs).set v none
def restE (ρ ρ1 : Ev) : List Nat → Ev
  | [] => ρ
  | v :: vs => (restE ρ ρ1 vs).set v ((ρ1[v]?).getD none)
def cLoop (vs : List Nat) (g : D → Ev → Res Ev) (tt : Ev → Res (Bool × Ev)) (te : Ev → Res (D × Ev)) : List D → Ev → Res (List D × Ev)
  | [], ρ => .ok ([], ρ)
  | d :: ds, ρ => (g d ρ).bind fun ρ1 => (tt ρ1).bind fun p => if p.1 = true then (te p.2).bind fun r => (cLoop vs g tt te ds (wipeE r.2 vs)).bind fun s => .ok (r.1 :: s.1, s.2)
      else cLoop vs g tt te ds (wipeE p.2 vs)
def dComp (fi : Ev → Res (List D × Ev)) (vs : List Nat) (g : D → Ev → Res Ev) (tt : Ev → Res (Bool × Ev)) (te : Ev → Res (D × Ev)) (ρ : Ev) : Res (D × Ev) := (fi ρ).bind fun p => if p.1.length ≤ 16777216 then
    (cLoop vs g tt te p.1 (wipeE p.2 vs)).bind fun r => .ok (.lst r.1, restE r.2 p.2 vs) else .err
def dYes (ρ : Ev) : Res (Bool × Ev) := .ok (true, ρ)
structure DTs (X : Cx) (c : DC) (ifs : List Expr) (f : Ev → Res (Bool × Ev)) : Prop where
  pt : PTs X ifs (tT c X.K false f)
theorem PTs.imp {X : Cx} {e : List Expr} {t u : TT} (h : PTs X e t) (k : ∀ σ H Q, u σ H Q → t σ H Q) : PTs X e u := ⟨fun pins s σ H Q I q => h.run pins s σ H Q I (k _ _ _ q)⟩
theorem wipeE_len (ρ : Ev) : ∀ vs, (wipeE ρ vs).length = ρ.length
  | [] => rfl
  | v :: vs => by unfold wipeE; rw [List.length_set, wipeE_len ρ vs]
theorem wipeE_get {ρ : Ev} {i : Nat} {d : D} : ∀ {vs : List Nat}, (wipeE ρ vs)[i]? = some (some d) → ρ[i]? = some (some d) ∧ i ∉ vs
  | [], h => ⟨h, by simp⟩
  | v :: vs, h => by
    unfold wipeE at h
    by_cases hi : v = i
    · subst hi
      by_cases hv : v < (wipeE ρ vs).length
      · rw [List.getElem?_set_self hv] at h; cases h
      · rw [List.getElem?_eq_none (by simpa using hv)] at h; cases h
    · rw [List.getElem?_set_ne hi] at h
      obtain ⟨h1, h2⟩ := wipeE_get h
      exact ⟨h1, by simp only [List.mem_cons, not_or]; exact ⟨fun e => hi e.symm, h2⟩⟩
theorem restE_len (ρ ρ1 : Ev) : ∀ vs, (restE ρ ρ1 vs).length = ρ.length
  | [] => rfl
  | v :: vs => by unfold restE; rw [List.length_set, restE_len ρ ρ1 vs]
theorem restE_in {ρ ρ1 : Ev} {i : Nat} {d : D} : ∀ {vs : List Nat}, i ∈ vs → (restE ρ ρ1 vs)[i]? = some (some d) → ρ1[i]? = some (some d)
  | v :: vs, hi, h => by
    unfold restE at h
    by_cases e : v = i
    · subst e
      by_cases hv : v < (restE ρ ρ1 vs).length
      · rw [List.getElem?_set_self hv] at h
        have h' : (ρ1[v]?).getD none = some d := Option.some.inj h
        cases q : ρ1[v]? with
        | none => rw [q] at h'; cases h'
        | some o => rw [q] at h'; rw [show o = some d from h']
      · rw [List.getElem?_eq_none (by simpa using hv)] at h; cases h
    · rw [List.getElem?_set_ne e] at h
      exact restE_in ((List.mem_cons.mp hi).resolve_left fun z => e z.symm) h
theorem restE_out {ρ ρ1 : Ev} {i : Nat} : ∀ {vs : List Nat}, i ∉ vs → (restE ρ ρ1 vs)[i]? = ρ[i]?
  | [], _ => rfl
  | v :: vs, hi => by
    unfold restE
    rw [List.getElem?_set_ne (fun e => hi (by rw [e]; exact List.mem_cons_self)), restE_out (fun z => hi (List.mem_cons_of_mem _ z))]
theorem wipe_ext {σ σ' : L2.St} {vs : List Nat} (h : σ.length = σ'.length) (k : ∀ j, j ∉ vs → σ[j]? = σ'[j]?) : wipe σ vs = wipe σ' vs := by
  apply List.ext_getElem?
  intro j
  by_cases hj : j ∈ vs
  · have go : ∀ (τ : L2.St) (us : List Nat), j ∈ us → (wipe τ us)[j]? = if j < τ.length then some none else none := by
      intro τ us
      induction us with
      | nil => intro z; cases z
      | cons u us ih =>
        intro z
        unfold wipe
        by_cases e : u = j
        · subst e
          by_cases hv : u < τ.length
          · rw [List.getElem?_set_self (by rw [wipe_length]; exact hv), if_pos hv]
          · rw [List.getElem?_eq_none (by rw [List.length_set, wipe_length]; omega), if_neg hv]
        · rw [List.getElem?_set_ne e]
          exact ih ((List.mem_cons.mp z).resolve_left fun q => e q.symm)
    rw [go σ vs hj, go σ' vs hj, h]
  · rw [wipe_out hj, wipe_out hj, k j hj]
theorem wipe_wipe (σ : L2.St) (vs : List Nat) : wipe (wipe σ vs) vs = wipe σ vs := wipe_ext (wipe_length σ vs) fun j hj => wipe_out hj
section
variable {X : Cx} {c : DC} {K : PySem.W.Frag} {ρ ρ1 : Ev} {Z Z1 : AP} {σ : L2.St} {H H1 : Hp} {fo fo1 : Nat → AP} {vs : List Nat}
theorem RS.wipe (R : RS c K ρ Z σ H fo) (hp : ∀ v ∈ vs, v ∉ c.pl) : RS c K (wipeE ρ vs) Z (L2.wipe σ vs) H fo :=
  { R with
    len := by rw [wipeE_len, wipe_length]; exact R.len
    val := fun i d h => by
      obtain ⟨h1, h2⟩ := wipeE_get h
      obtain ⟨v, h3, h4⟩ := R.val i d h1
      exact ⟨v, by rw [wipe_out h2]; exact h3, h4⟩
    pin := fun i hi => by
      rw [wipe_out fun z => hp i z hi]
      exact R.pin i hi }
theorem RS.unwipe (R : RS c K ρ Z (L2.wipe σ vs) H fo) (R1 : RS c K ρ1 Z1 σ H1 fo1) (s : Stp fo1 Z1 H1 fo Z H) (hk : ∀ v ∈ vs, c.ks.getD v 0 = 0) (hp : ∀ v ∈ vs, v ∉ c.pl) : RS c K (restE ρ ρ1 vs) Z σ H fo :=
  { R with
    len := by rw [restE_len, R.len, wipe_length]
    val := fun i d h => by
      by_cases hi : i ∈ vs
      · obtain ⟨v, h1, h2⟩ := R1.val i d (restE_in hi h)
        rw [hk i hi] at h2 ⊢
        exact ⟨v, h1, Sh.stp (s.s0 R1) h2⟩
      · rw [restE_out hi] at h
        obtain ⟨v, h1, h2⟩ := R.val i d h
        exact ⟨v, by rw [← wipe_out hi]; exact h1, h2⟩
    pin := fun i hi => by
      rw [← wipe_out (vs := vs) fun z => hp i z hi]
      exact R.pin i hi }
/-- an owned list that no slot holds is changed -/
theorem RS.pend {D : Addr} {xs ys : List V} (R : RS c K ρ Z σ H fo) (hz : Z D) (hf : ∀ i, ¬ fo i D) (hi : c.Hi D = none) (hD : H D = some (.lst xs)) :
    RS c K ρ Z σ (upd H D (.lst ys)) fo ∧ Stp0 Z H Z (upd H D (.lst ys)) := by
  have st : Stp0 Z H Z (upd H D (.lst ys)) := ⟨fun b o h z => by
    rw [upd_ne (fun (e : b = D) => z (by rw [e]; exact hz))]
    exact h, fun b h => .inl h⟩
  refine ⟨{ R with val := fun i d h => ?_, own := fun b hb => ?_, e1 := fun b o h1 h2 => ?_, dm := fun b h => ?_ }, st⟩
  · obtain ⟨v, h1, h2⟩ := R.val i d h
    exact ⟨v, h1, Ow.keep (fun d v s => s.stp st) _ d v (fo i) (fun b hb z _ => ⟨upd_ne fun e => hf i (by rw [← e]; exact hb), z⟩) h2⟩
  · by_cases e : b = D
    · rw [e]
      exact ⟨_, upd_same, rfl⟩
    · rw [upd_ne e]
      exact R.own b hb
  · have e : b ≠ D := fun e => by rw [e, hi] at h1; cases h1
    rw [upd_ne e]
    exact R.e1 b o h1 h2
  · by_cases e : b = D
    · rw [e, upd_same] at h; cases h
    · rw [upd_ne e] at h
      exact R.dm b h
theorem dts_nil : DTs X c [] dYes := ⟨by
  refine PTs.imp pts_nil fun σ H Q ⟨ρ, Z, fo, R, k, ρ', hf, q⟩ => ?_
  cases hf
  exact q H Z fo R Stp.refl (fun z => nomatch z)⟩
theorem dts_one {e : Expr} {f : Ev → Res (Bool × Ev)} (h : DT X c false e f) : DTs X c [e] f := ⟨pts_one h.pt⟩
end
section
variable {X : Cx} {c : DC} {pos : Pos}
theorem allK {vs : List Nat} {l : List Nat} (h : (vs.all fun v => l.getD v 0 == 0) = true) : ∀ v ∈ vs, l.getD v 0 = 0 := fun v hv => by
  have := List.all_eq_true.mp h v hv
  simpa using this
theorem allP {vs : List Nat} {l : List Nat} (h : (vs.all fun v => !l.contains v) = true) : ∀ v ∈ vs, v ∉ l := fun v hv => by
  have := List.all_eq_true.mp h v hv
  simpa using this
theorem lc_read {fi : Ev → Res (List D × Ev)} {vs ts : List Nat} {g : D → Ev → Res Ev} {tt : Ev → Res (Bool × Ev)} {te : Ev → Res (D × Ev)} {K : PySem.W.Frag} (hk : ∀ v ∈ vs, c.ks.getD v 0 = 0) (hp : ∀ v ∈ vs, v ∉ c.pl) (ht : ∀ t ∈ ts, t ∈ vs) {σ : L2.St} {H : Hp} {Q : VK}
    (h : tF c K 0 (dComp fi vs g tt te) σ H Q) : tLc (tI c K fi) (tG c K ts g) (tT c K false tt) (tD c K false false te) vs σ H Q := by
  obtain ⟨ρ, Z, fo, R, d, ρ', hf, k⟩ := h
  obtain ⟨⟨ds, ρ1⟩, e1, hf⟩ := Res.bind_ok hf
  dsimp only at hf
  by_cases hl : ds.length ≤ 16777216
  · rw [if_pos hl] at hf
    obtain ⟨⟨es, ρ2⟩, e2, hf⟩ := Res.bind_ok hf
    cases hf
    refine ⟨ρ, Z, fo, R, ds, ρ1, e1, fun J H1 Z1 fo1 R1 s1 it D hD => ?_⟩
    obtain ⟨G, Y, w, hG, hY⟩ := it
    have hiD : c.Hi D = none := R1.dm D hD
    refine L2.lc_it w (fun i H' => ∃ ρi Zi foi acc aV rest, RS c K ρi Zi (L2.wipe σ vs) H' foi ∧ Stp fo1 Z1 H1 foi Zi H' ∧ Zi D ∧ (∀ j, ¬ foi j D) ∧ H' D = some (.lst aV) ∧ Shs K Zi H' acc aV ∧ acc.length ≤ i ∧
      cLoop vs g tt te (ds.drop i) ρi = .ok (rest, ρ2) ∧ es = acc ++ rest) ?_ ?_ ?_ ?_
    · obtain ⟨R2, s2⟩ := R1.take (vs := []) hD
      exact ⟨_, _, fo1, [], [], es, R2.wipe hp, s2, .inr rfl, fun j hj => R1.nz hD (R1.sub j D hj).1, upd_same, rfl, Nat.zero_le _, e2, rfl⟩
    · rintro i H' _ ⟨ρi, Zi, foi, acc, aV, rest, Ri, si, _⟩
      exact hG Zi H' (si.s0 R1)
    · rintro i x H' H2 hi ⟨ρi, Zi, foi, acc, aV, rest, Ri, si, zD, fD, hD', sA, lA, cl, ee⟩ y
      obtain ⟨sm, dd, hd, hx⟩ := hY i Zi H' x H2 hi (si.s0 R1) Ri.ownN y
      have ed : ds.drop i = dd :: ds.drop (i + 1) := by
        rw [List.drop_eq_getElem_cons hi]
        congr 1
        rw [List.getElem?_eq_getElem hi] at hd
        exact Option.some.inj hd
      rw [ed] at cl
      obtain ⟨ρ3, g1, cl⟩ := Res.bind_ok (show (g dd ρi).bind _ = .ok (rest, ρ2) from cl)
      obtain ⟨⟨kk, ρ4⟩, g2, cl⟩ := Res.bind_ok cl
      dsimp only at cl
      refine ⟨ρi, Zi, foi, dd, Ri.same sm, hx, ρ3, g1, fun σ3 H3 Z3 fo3 R3 s3 o3 => ?_⟩
      have ew : L2.wipe σ3 vs = L2.wipe σ vs := by
        rw [← wipe_wipe σ vs]
        exact wipe_ext o3.1 fun j hj => o3.2 j fun z => hj (ht j z)
      refine ⟨ew, ρ3, Z3, fo3, R3, kk, ρ4, g2, fun H4 Z4 fo4 R4 s4 _ => ?_⟩
      have s04 : Stp foi Zi H' fo4 Z4 H4 := ((Stp.same sm).trans s3).trans s4
      have hn : H' D ≠ none := by rw [hD']; exact fun z => nomatch z
      have D4 : H4 D = some (.lst aV) := s04.k1 D _ hD' fD
      have zD4 : Z4 D := s04.k3 D zD hn fD
      have fD4 : ∀ j, ¬ fo4 j D := s04.nf hD' fD
      cases kk with
      | false =>
        rw [if_neg Bool.false_ne_true] at cl
        refine iteF ⟨wipeE ρ4 vs, Z4, fo4, acc, aV, rest, ?_, si.trans s04, zD4, fD4, D4, Shs.stp (s04.s0 Ri) sA, by omega, cl, ee⟩
        rw [← ew]
        exact R4.wipe hp
      | true =>
        rw [if_pos rfl] at cl
        obtain ⟨⟨y1, ρ5⟩, g3, cl⟩ := Res.bind_ok cl
        obtain ⟨⟨rest2, ρ6⟩, g4, cl⟩ := Res.bind_ok cl
        cases cl
        refine iteT ⟨ρ4, Z4, fo4, R4, y1, ρ5, g3, fun yv H5 Z5 fo5 R5 s5 _ p5 => ?_⟩
        have s05 := s04.trans s5
        have D5 : H5 D = some (.lst aV) := s05.k1 D _ hD' fD
        have zD5 : Z5 D := s05.k3 D zD hn fD
        have fD5 : ∀ j, ¬ fo5 j D := s05.nf hD' fD
        have sA5 : Shs K Z5 H5 acc aV := Shs.stp (s05.s0 Ri) sA
        obtain ⟨R6, s6⟩ := R5.pend (ys := aV ++ [yv]) zD5 fD5 hiD D5
        refine ⟨aV, D5, ?_, wipeE ρ5 vs, Z5, fo5, acc ++ [y1], aV ++ [yv], rest2, ?_, ?_, zD5, fD5, upd_same, Shs.stp s6 (sA5.app (Shs.one p5)), by rw [List.length_append, List.length_singleton]; omega, g4, by rw [ee, List.append_assoc]; rfl⟩
        · rw [← sA5.len]
          exact sizeLine_gt (by omega)
        · rw [← ew]
          exact R6.wipe hp
        · have s15 := si.trans s05
          refine ⟨fun b o hb hf => ?_, s15.k2, s15.k3, s15.k4⟩
          rw [upd_ne (fun (e : b = D) => by rw [e, hD] at hb; cases hb)]
          exact s15.k1 b o hb hf
    · rintro H' ⟨ρi, Zi, foi, acc, aV, rest, Ri, si, zD, fD, hD', sA, lA, cl, ee⟩
      rw [List.drop_length] at cl
      cases cl
      rw [List.append_nil] at ee
      subst ee
      refine k _ H' Zi foi (Ri.unwipe R1 si hk hp) (s1.trans si) ⟨fun b => b = D, ⟨D, aV, rfl, rfl, zD, hD', sA.len, fun _ _ => False, fun _ _ z => z.elim, fun _ _ _ z _ => z.elim, fun i d v h1 h2 => ?_⟩, fun b hb => ⟨by rw [hb]; exact zD, .inr (by rw [hb]; exact hiD)⟩, fun j b hb z => fD j (by rw [← hb]; exact z), fun b hb => ?_⟩
      · obtain ⟨w, h3, h4⟩ := sA.get h1
        rw [h3] at h2
        cases h2
        exact h4
      · rw [hb]
        exact (s1.none hD).symm
  · rw [if_neg hl] at hf; cases hf
theorem df_lc {elt tg iter : Expr} {ifs : List Expr} {scope : Scope} {own : List (PySem.Str × Nat)} {fi : Ev → Res (List D × Ev)} {ts : List Nat} {g : D → Ev → Res Ev} {tt : Ev → Res (Bool × Ev)} {te : Ev → Res (D × Ev)} (hc : X.calm = true) (nd : X.N.Nodup) (hi : DI X c tg iter fi) (ok : BlkOk X.N X.env.scope scope own)
    (hg : ∀ (s : Shared) (H : Hp) (C : Addr) (cl : List (PySem.Str × Addr)) (fp : List Addr), DG (X.blk s H scope (compEnvC scope cl C X.env) fp) c tg ts g)
    (htt : ∀ (s : Shared) (H : Hp) (C : Addr) (cl : List (PySem.Str × Addr)) (fp : List Addr), DTs (X.blk s H scope (compEnvC scope cl C X.env) fp) c ifs tt)
    (he : ∀ (s : Shared) (H : Hp) (C : Addr) (cl : List (PySem.Str × Addr)) (fp : List Addr), DE (X.blk s H scope (compEnvC scope cl C X.env) fp) c false false elt te)
    (hk : ((own.map (·.2)).all fun v => c.ks.getD v 0 == 0) = true := by rfl) (hp : ((own.map (·.2)).all fun v => !c.pl.contains v) = true := by rfl) (ht : ∀ t ∈ ts, t ∈ own.map (·.2) := by decide) (hs : ∀ x, foldedSetIterable iter X.env x = pure x := by intro _; rfl) :
    DF X c 0 (.ListComp elt [⟨tg, iter, ifs, 0⟩] scope pos) (dComp fi (own.map (·.2)) g tt te) :=
  ⟨PE.imp (pe_lc hc nd hi.pi ok (fun s H C cl fp => (hg s H C cl fp).pg) (fun s H C cl fp => (htt s H C cl fp).pt) (fun s H C cl fp => (he s H C cl fp).pe) hs) fun σ H Q h => lc_read (allK hk) (allP hp) ht h⟩
/-- y = [..]: into a slot of level 1 -/
theorem ds_lc (i : Nat) {rk : Option Nat} {y : PySem.Str} {py spos : Pos} {elt tg iter : Expr} {ifs : List Expr} {scope : Scope} {own : List (PySem.Str × Nat)} {fi : Ev → Res (List D × Ev)} {ts : List Nat} {g : D → Ev → Res Ev} {tt : Ev → Res (Bool × Ev)} {te : Ev → Res (D × Ev)} (hc : X.calm = true) (nd : X.N.Nodup)
    (hsw : swapsWith (.ListComp elt [⟨tg, iter, ifs, 0⟩] scope pos) (some (.Name y py)) spos.line X.env = pure true) (hi : DI X c tg iter fi) (ok : BlkOk X.N X.env.scope scope own)
    (hg : ∀ (s : Shared) (H : Hp) (C : Addr) (cl : List (PySem.Str × Addr)) (fp : List Addr), DG (X.blk s H scope (compEnvC scope cl C X.env) fp) c tg ts g)
    (htt : ∀ (s : Shared) (H : Hp) (C : Addr) (cl : List (PySem.Str × Addr)) (fp : List Addr), DTs (X.blk s H scope (compEnvC scope cl C X.env) fp) c ifs tt)
    (he : ∀ (s : Shared) (H : Hp) (C : Addr) (cl : List (PySem.Str × Addr)) (fp : List Addr), DE (X.blk s H scope (compEnvC scope cl C X.env) fp) c false false elt te)
    (hki : c.ks.getD i 0 = 1 := by rfl) (hpi : c.pl.contains i = false := by rfl) (hy : X.N[i]? = some y := by rfl) (hyl : X.env.scope.names.lookup y = some .local := by rfl)
    (hk : ((own.map (·.2)).all fun v => c.ks.getD v 0 == 0) = true := by rfl) (hp : ((own.map (·.2)).all fun v => !c.pl.contains v) = true := by rfl) (ht : ∀ t ∈ ts, t ∈ own.map (·.2) := by decide) (hs : ∀ x, foldedSetIterable iter X.env x = pure x := by intro _; rfl) :
    DS X c rk (.Assign [.Name y py] (.ListComp elt [⟨tg, iter, ifs, 0⟩] scope pos) spos) (sSet i (dComp fi (own.map (·.2)) g tt te)) := ⟨by
  refine PS.imp (ps_setLc (te := tD c X.K false false te) (g := tG c X.K ts g) (tt := tT c X.K false tt) hc nd hy hyl hsw hi.pi ok (fun s H C cl fp => (hg s H C cl fp).pg) (fun s H C cl fp => (htt s H C cl fp).pt) (fun s H C cl fp => (he s H C cl fp).pe) hs) fun E σ H ⟨ρ, Z, fo, R, fl, hf, k⟩ => ?_
  obtain ⟨⟨d1, ρ1⟩, h1, hf⟩ := Res.bind_ok hf
  cases hf
  refine lc_read (allK hk) (allP hp) ht ⟨ρ, Z, fo, R, d1, ρ1, h1, fun v H1 Z1 fo1 R1 s1 p1 => ?_⟩
  obtain ⟨fo2, R2, s2⟩ := R1.adopt hki hpi s1 p1
  exact k _ H1 Z1 fo2 R2 s2⟩
/-- .. into a slot of level 0: shared from here on -/
theorem ds_lc0 (i : Nat) {rk : Option Nat} {y : PySem.Str} {py spos : Pos} {elt tg iter : Expr} {ifs : List Expr} {scope : Scope} {own : List (PySem.Str × Nat)} {fi : Ev → Res (List D × Ev)} {ts : List Nat} {g : D → Ev → Res Ev} {tt : Ev → Res (Bool × Ev)} {te : Ev → Res (D × Ev)} (hc : X.calm = true) (nd : X.N.Nodup)
    (hsw : swapsWith (.ListComp elt [⟨tg, iter, ifs, 0⟩] scope pos) (some (.Name y py)) spos.line X.env = pure true) (hi : DI X c tg iter fi) (ok : BlkOk X.N X.env.scope scope own)
    (hg : ∀ (s : Shared) (H : Hp) (C : Addr) (cl : List (PySem.Str × Addr)) (fp : List Addr), DG (X.blk s H scope (compEnvC scope cl C X.env) fp) c tg ts g)
    (htt : ∀ (s : Shared) (H : Hp) (C : Addr) (cl : List (PySem.Str × Addr)) (fp : List Addr), DTs (X.blk s H scope (compEnvC scope cl C X.env) fp) c ifs tt)
    (he : ∀ (s : Shared) (H : Hp) (C : Addr) (cl : List (PySem.Str × Addr)) (fp : List Addr), DE (X.blk s H scope (compEnvC scope cl C X.env) fp) c false false elt te)
    (hki : c.ks.getD i 0 = 0 := by rfl) (hpi : c.pl.contains i = false := by rfl) (hy : X.N[i]? = some y := by rfl) (hyl : X.env.scope.names.lookup y = some .local := by rfl)
    (hk : ((own.map (·.2)).all fun v => c.ks.getD v 0 == 0) = true := by rfl) (hp : ((own.map (·.2)).all fun v => !c.pl.contains v) = true := by rfl) (ht : ∀ t ∈ ts, t ∈ own.map (·.2) := by decide) (hs : ∀ x, foldedSetIterable iter X.env x = pure x := by intro _; rfl) :
    DS X c rk (.Assign [.Name y py] (.ListComp elt [⟨tg, iter, ifs, 0⟩] scope pos) spos) (sSet i (dComp fi (own.map (·.2)) g tt te)) := ⟨by
  refine PS.imp (ps_setLc (te := tD c X.K false false te) (g := tG c X.K ts g) (tt := tT c X.K false tt) hc nd hy hyl hsw hi.pi ok (fun s H C cl fp => (hg s H C cl fp).pg) (fun s H C cl fp => (htt s H C cl fp).pt) (fun s H C cl fp => (he s H C cl fp).pe) hs) fun E σ H ⟨ρ, Z, fo, R, fl, hf, k⟩ => ?_
  obtain ⟨⟨d1, ρ1⟩, h1, hf⟩ := Res.bind_ok hf
  cases hf
  refine lc_read (allK hk) (allP hp) ht ⟨ρ, Z, fo, R, d1, ρ1, h1, fun v H1 Z1 fo1 R1 s1 p1 => ?_⟩
  obtain ⟨Z2, R2, s2, p2⟩ := R1.freeze s1 p1
  exact k _ H1 Z2 fo1 (R2.set hki hpi p2) s2⟩
end
end DL
/-! defs and their calls -/
namespace DL
open PySem PySem.Spec PyProof.Rows L2

abbrev Fn := List D → Res (D × List D)
/-- what a call hands back -/
def ResC (K : PySem.W.Frag) (rk : Option Nat) (fo : Nat → AP) (H : Hp) (fo' : Nat → AP) (Z' : AP) (H' : Hp) (d : D) (v : V) : Prop := match rk with
  | none => Sh K Z' H' d v
  | some n => ∃ P : AP, Ow K Z' H' (n + 1) d v P ∧ (∀ b, P b → Z' b ∧ ((∃ i, fo i b) ∨ H b = none)) ∧ ∀ j b, P b → ¬ fo' j b
def ResK (c : DC) (K : PySem.W.Frag) (rk : Option Nat) (fo : Nat → AP) (H : Hp) (fo' : Nat → AP) (Z' : AP) (H' : Hp) (d : D) (v : V) : Prop := match rk with
  | none => Sh K Z' H' d v
  | some n => FrR c K fo H fo' Z' H' n d v
/-- what holds behind a call -/
structure CEnd (K : PySem.W.Frag) (ks : List Nat) (rk : Option Nat) (fo : Nat → AP) (Z : AP) (H : Hp) (fo' : Nat → AP) (Z' : AP) (H' : Hp) (vs : List V) (ds' : List D) (d : D) (v : V) : Prop where
  e1 : ∀ b o, H b = some o → (∀ j, ¬ fo j b) → H' b = some o
  dm : ∀ b, H' b = none → H b = none
  e2 : ∀ b, Z' b → Z b ∨ H b = none
  e3 : ∀ b, Z b → (∀ j, ¬ fo j b) → Z' b
  own : ∀ b, Z' b → ∃ o, H' b = some o ∧ mutO o = true
  dis : ∀ i j b, fo' i b → fo' j b → i = j
  sub : ∀ j b, fo' j b → Z' b ∧ ((∃ i, fo i b) ∨ H b = none)
  lds : ds'.length = ks.length
  par : ∀ j k d' v, ks[j]? = some k → k ≠ 0 → ds'[j]? = some d' → vs[j]? = some v → Ow K Z' H' k d' v (fo' j)
  res : ResC K rk fo H fo' Z' H' d v
/-- a def's promise by its pure function; ks: the parameters' levels -/
def spD (K : PySem.W.Frag) (ks : List Nat) (rk : Option Nat) (F : Fn) : Sp := fun vs H Q _ => ∃ ds Z fo, vs.length = ks.length ∧ ds.length = ks.length ∧ (∀ j k d v, ks[j]? = some k → ds[j]? = some d → vs[j]? = some v → Ow K Z H k d v (fo j)) ∧
  (∀ i j b, fo i b → fo j b → i = j) ∧ (∀ b, Z b → ∃ o, H b = some o ∧ mutO o = true) ∧ (∀ j b, fo j b → Z b) ∧
  ∃ d ds', F ds = .ok (d, ds') ∧ ∀ v H' Z' fo', CEnd K ks rk fo Z H fo' Z' H' vs ds' d v → Q v H'
/-- the parameters' last values -/
def outP (ρ : Ev) : List Nat → Nat → Res (List D)
  | [], _ => .ok []
  | k :: ks, j => if k = 0 then (outP ρ ks (j + 1)).bind fun ds => .ok (.non :: ds) else match ρ[j]? with
    | some (some d) => (outP ρ ks (j + 1)).bind fun ds => .ok (d :: ds)
    | _ => .err
/-- a def's pure function, by its body -/
def mkF (N : Nat) (ks : List Nat) (rk : Option Nat) (body : Ev → Res Fl) : Fn := fun ds => (body (ds.map some ++ List.replicate (N - ds.length) none)).bind fun fl => match fl with
  | .rt d ρ => (outP ρ ks 0).bind fun o => .ok (d, o)
  | .nx ρ => match rk with
    | none => (outP ρ ks 0).bind fun o => .ok (.non, o)
    | some _ => .err
  | _ => .err
theorem outP_get {ρ : Ev} : ∀ {ks : List Nat} {i : Nat} {ds : List D}, outP ρ ks i = .ok ds → ds.length = ks.length ∧ ∀ j k d, ks[j]? = some k → k ≠ 0 → ds[j]? = some d → ρ[i + j]? = some (some d)
  | [], i, ds, h => by
    cases h
    exact ⟨rfl, fun j k d h => by simp at h⟩
  | k :: ks, i, ds, h => by
    by_cases hk : k = 0
    · have h' : (outP ρ ks (i + 1)).bind (fun ds => Res.ok (D.non :: ds)) = .ok ds := by
        have h2 := h
        unfold outP at h2
        rw [if_pos hk] at h2
        exact h2
      obtain ⟨es, h1, h2⟩ := Res.bind_ok h'
      cases h2
      obtain ⟨l, q⟩ := outP_get h1
      refine ⟨by rw [List.length_cons, List.length_cons, l], fun j k' d h3 h4 h5 => ?_⟩
      cases j with
      | zero =>
        have e : k = k' := by simpa using h3
        exact absurd (e ▸ hk) h4
      | succ j =>
        rw [show i + (j + 1) = (i + 1) + j by omega]
        exact q j k' d (by simpa using h3) h4 (by simpa using h5)
    · have h' : (match ρ[i]? with | some (some d) => (outP ρ ks (i + 1)).bind (fun ds => Res.ok (d :: ds)) | _ => .err) = .ok ds := by
        have h2 := h
        unfold outP at h2
        rw [if_neg hk] at h2
        exact h2
      split at h'
      · rename_i d0 h0
        obtain ⟨es, h1, h2⟩ := Res.bind_ok h'
        cases h2
        obtain ⟨l, q⟩ := outP_get h1
        refine ⟨by rw [List.length_cons, List.length_cons, l], fun j k' d h3 h4 h5 => ?_⟩
        cases j with
        | zero =>
          have e : d0 = d := by simpa using h5
          rw [← e]
          exact h0
        | succ j =>
          rw [show i + (j + 1) = (i + 1) + j by omega]
          exact q j k' d (by simpa using h3) h4 (by simpa using h5)
      · cases h'
/-- which slots are pinned: the parameters that are changed in place -/
def pinL : List Nat → Nat → List Nat
  | [], _ => []
  | k :: ks, i => if k = 0 then pinL ks (i + 1) else i :: pinL ks (i + 1)
theorem mem_pinL : ∀ {ks : List Nat} {i j : Nat}, j ∈ pinL ks i ↔ ∃ m k, j = i + m ∧ ks[m]? = some k ∧ k ≠ 0
  | [], i, j => by simp [pinL]
  | k :: ks, i, j => by
    unfold pinL
    by_cases hk : k = 0
    · rw [if_pos hk, mem_pinL]
      constructor
      · rintro ⟨m, k', e, h1, h2⟩
        exact ⟨m + 1, k', by omega, by simpa using h1, h2⟩
      · rintro ⟨m, k', e, h1, h2⟩
        cases m with
        | zero =>
          have e2 : k = k' := by simpa using h1
          exact absurd (e2 ▸ hk) h2
        | succ m => exact ⟨m, k', by omega, by simpa using h1, h2⟩
    · rw [if_neg hk, List.mem_cons, mem_pinL]
      constructor
      · rintro (e | ⟨m, k', e, h1, h2⟩)
        · exact ⟨0, k, by omega, rfl, hk⟩
        · exact ⟨m + 1, k', by omega, by simpa using h1, h2⟩
      · rintro ⟨m, k', e, h1, h2⟩
        cases m with
        | zero => exact .inl (by omega)
        | succ m => exact .inr ⟨m, k', by omega, by simpa using h1, h2⟩
section
variable {P : Program} {w : World} {K : PySem.W.Frag} {mg : Str → Option Value} {base : Heap}
theorem start_get {N : List PySem.Str} {vs : List V} {i : Nat} (h : i < vs.length) : (L2.start N vs)[i]? = (vs[i]?).map some := by
  unfold L2.start
  rw [List.getElem?_append_left (by simpa using h), List.getElem?_map]
/-- the context of a def's body -/
abbrev dc (ks lv : List Nat) (N : List PySem.Str) (vs : List V) (M Z : AP) (H : Hp) : DC := ⟨lv, pinL ks 0, fun j => (L2.start N vs)[j]?, M, Z, H⟩
theorem fun_ok {x qual : PySem.Str} {st : Stmt} {f : Addr} {fd : FuncData} {N ps : List PySem.Str} {k : Nat} {ks lv : List Nat} {rk : Option Nat} {b : Ev → Res Fl} (F : Fun K x qual st f fd) (S : FnScope N ps (defScope st)) (hps : ps.length = ks.length) (hlv : lv.take ks.length = ks)
    (hbody : ∀ (cdv : Value) (A : Around) (outer : List Env) (s : Shared) (H H0 : Hp) (vs : List V) (E : XK) (M Z : AP), Room k (A.deeper (envOfC qual (defScope st) s.heap.objs.size f cdv)) →
      DSs (cxOf CX0 P w K mg base N qual (defScope st) f cdv A outer s H E).nox (dc ks lv N vs M Z H0) rk (defBody st) b) :
    FnOk P w K mg base CX0 (k + 1) f fd ps (spD K ks rk (mkF N.length ks rk b)) := by
  refine F.ok S (fun vs H Q E ⟨ds, Z, fo, h, _⟩ => by rw [h, hps]) fun cdv A outer s H vs Q E hr h => ?_
  obtain ⟨ds, Z, fo, lv1, ld, hp, hdis, hown, hsub, d, ds', hF, hQ⟩ := h
  refine ⟨_, (hbody cdv A outer s H H vs E (fun b => ∃ j, fo j b) Z hr).ps, ?_⟩
  obtain ⟨fl, hb, hF⟩ := Res.bind_ok hF
  have hN : ks.length ≤ N.length := by
    have e := congrArg List.length S.pre
    rw [List.length_take, hps] at e
    omega
  have lget : ∀ {i k}, ks[i]? = some k → lv.getD i 0 = k := fun {i k} h => by
    have hi : i < ks.length := (List.getElem?_eq_some_iff.mp h).1
    rw [← hlv, List.getElem?_take_of_lt hi] at h
    rw [List.getD_eq_getElem?_getD, h]
    rfl
  refine ⟨ds.map some ++ List.replicate (N.length - ds.length) none, Z, fo, ?_, fl, hb, ?_⟩
  · refine ⟨?_, fun i d h => ?_, hdis, hown, fun i b h => ⟨hsub i b h, .inl ⟨i, h⟩⟩, fun b o h _ => h, fun b h => h, fun b h => .inl h, fun b h _ => h, fun b h => ?_, fun i hi => rfl⟩
    · unfold L2.start
      rw [List.length_append, List.length_append, List.length_map, List.length_map, List.length_replicate, List.length_replicate, ld, lv1]
    · have hi : i < ds.length := by
        by_cases hi : i < ds.length
        · exact hi
        · rw [List.getElem?_append_right (by simpa using hi), List.getElem?_replicate] at h
          split at h <;> cases h
      rw [List.getElem?_append_left (by simpa using hi), List.getElem?_map] at h
      have hd : ds[i]? = some d := by
        cases e : ds[i]? with
        | none => rw [e] at h; cases h
        | some z =>
          rw [e] at h
          cases h
          rfl
      have hiv : i < vs.length := by omega
      obtain ⟨k, hk⟩ : ∃ k, ks[i]? = some k := ⟨ks[i]'(by omega), List.getElem?_eq_getElem (by omega)⟩
      refine ⟨vs[i], ?_, ?_⟩
      · rw [start_get hiv, List.getElem?_eq_getElem hiv]
        rfl
      · show Ow K Z H (lv.getD i 0) d vs[i] (fo i)
        rw [lget hk]
        exact hp i k d _ hk hd (List.getElem?_eq_getElem hiv)
    · obtain ⟨o, h1, _⟩ := hown b h
      show H b ≠ none
      rw [h1]
      exact fun z => nomatch z
  · -- the end
    have fin : ∀ {ρ' : Ev} {o : List D} {v : V} {σ' : L2.St} {H' : Hp} {Z' : AP} {fo' : Nat → AP}, outP ρ' ks 0 = .ok o → RS (dc ks lv N vs (fun b => ∃ j, fo j b) Z H) K ρ' Z' σ' H' fo' → (d : D) →
        ResC K rk fo H fo' Z' H' d v →
        CEnd K ks rk fo Z H fo' Z' H' vs o d v := fun {ρ' o v σ' H' Z' fo'} h R d hr2 => by
      refine ⟨fun b o h1 h2 => R.e1 b o h1 fun ⟨j, hj⟩ => h2 j hj, R.dm, R.e2, fun b h1 h2 => R.e3 b h1 fun ⟨j, hj⟩ => h2 j hj, R.own, R.dis, R.sub, (outP_get h).1, fun j k d' v' h1 h2 h3 h4 => ?_, hr2⟩
      obtain ⟨lo, hg⟩ := outP_get h
      have e1 := hg j k d' h1 h2 h3
      rw [Nat.zero_add] at e1
      obtain ⟨u, q1, q2⟩ := R.val j d' e1
      have hpin := R.pin j (mem_pinL.mpr ⟨j, k, by omega, h1, h2⟩)
      have hjv : j < vs.length := (List.getElem?_eq_some_iff.mp h4).1
      rw [q1] at hpin
      have hpin' : some (some u) = (L2.start N vs)[j]? := hpin
      rw [start_get hjv, h4] at hpin'
      have eu : u = v' := Option.some.inj (Option.some.inj hpin')
      rw [← eu]
      have e3 : (dc ks lv N vs (fun b => ∃ j, fo j b) Z H).ks.getD j 0 = k := lget h1
      rw [e3] at q2
      exact q2
    cases fl with
    | rt d1 ρ1 =>
      obtain ⟨o, h1, h2⟩ := Res.bind_ok (show (outP ρ1 ks 0).bind (fun o => Res.ok (d1, o)) = .ok (d, ds') from hF)
      cases h2
      intro v σ' H' Z' fo' R' s' r'
      refine hQ v H' Z' fo' (fin h1 R' d ?_)
      cases rk with
      | none => exact r'
      | some n =>
        obtain ⟨P, q1, q2, q3, _⟩ := FrR.ex r'
        exact ⟨P, q1, q2, q3⟩
    | nx ρ1 =>
      cases rk with
      | some n => cases hF
      | none =>
        obtain ⟨o, h1, h2⟩ := Res.bind_ok (show (outP ρ1 ks 0).bind (fun o => Res.ok (D.non, o)) = .ok (d, ds') from hF)
        cases h2
        intro σ' H' Z' fo' R' s'
        exact hQ .non H' Z' fo' (fin h1 R' .non rfl)
    | bk ρ1 => cases hF
    | ct ρ1 => cases hF
end

/-! ### calls -/
inductive AK where
  | s
  | io (i : Nat)
def ArgsR (K : PySem.W.Frag) (σ : L2.St) (Z : AP) (H : Hp) : List AK → List (Option D) → List V → Prop
  | [], [], [] => True
  | .s :: as, some d :: ds, v :: vs => Sh K Z H d v ∧ ArgsR K σ Z H as ds vs
  | .io i :: as, none :: ds, v :: vs => σ[i]? = some (some v) ∧ ArgsR K σ Z H as ds vs
  | _, _, _ => False
def tArgs (c : DC) (K : PySem.W.Frag) (as : List AK) (f : Ev → Res (List (Option D) × Ev)) : TA := fun σ H Q => ∃ ρ Z fo, RS c K ρ Z σ H fo ∧ ∃ ds ρ', f ρ = .ok (ds, ρ') ∧
  ∀ vs H' Z' fo', RS c K ρ' Z' σ H' fo' → Stp fo Z H fo' Z' H' → ArgsR K σ Z' H' as ds vs → Q vs H'
structure DA (X : Cx) (c : DC) (es : List Expr) (as : List AK) (f : Ev → Res (List (Option D) × Ev)) : Prop where
  pa : PA X es (tArgs c X.K as f)
def aNil (ρ : Ev) : Res (List (Option D) × Ev) := .ok ([], ρ)
def aS (f : Ev → Res (D × Ev)) (g : Ev → Res (List (Option D) × Ev)) (ρ : Ev) : Res (List (Option D) × Ev) := (f ρ).bind fun p => (g p.2).bind fun r => .ok (some p.1 :: r.1, r.2)
def aIO (i : Nat) (g : Ev → Res (List (Option D) × Ev)) (ρ : Ev) : Res (List (Option D) × Ev) := match ρ[i]? with
  | some (some _) => (g ρ).bind fun r => .ok (none :: r.1, r.2)
  | _ => .err
theorem ArgsR.stp {K : PySem.W.Frag} {σ : L2.St} {Z Z' : AP} {H H' : Hp} (s : Stp0 Z H Z' H') : ∀ {as : List AK} {ds : List (Option D)} {vs : List V}, ArgsR K σ Z H as ds vs → ArgsR K σ Z' H' as ds vs
  | [], [], [], _ => True.intro
  | .s :: as, some d :: ds, v :: vs, h => ⟨Sh.stp s h.1, ArgsR.stp s h.2⟩
  | .io i :: as, none :: ds, v :: vs, h => ⟨h.1, ArgsR.stp s h.2⟩
  | [], [], _ :: _, h => h.elim
  | [], _ :: _, _, h => by cases h
  | .s :: as, [], _, h => by cases h
  | .s :: as, none :: ds, _, h => by cases h
  | .s :: as, some d :: ds, [], h => by cases h
  | .io i :: as, [], _, h => by cases h
  | .io i :: as, some d :: ds, _, h => by cases h
  | .io i :: as, none :: ds, [], h => by cases h
def fillA (ρ : Ev) : List AK → List (Option D) → Res (List D)
  | [], [] => .ok []
  | .s :: as, some d :: ds => (fillA ρ as ds).bind fun r => .ok (d :: r)
  | .io i :: as, none :: ds => match ρ[i]? with
    | some (some d) => (fillA ρ as ds).bind fun r => .ok (d :: r)
    | _ => .err
  | _, _ => .err
def putA : List AK → List D → Ev → Ev
  | .s :: as, _ :: ds, ρ => putA as ds ρ
  | .io i :: as, d :: ds, ρ => putA as ds (ρ.set i (some d))
  | _, _, ρ => ρ
def dCall (as : List AK) (F : Fn) (g : Ev → Res (List (Option D) × Ev)) (ρ : Ev) : Res (D × Ev) := (g ρ).bind fun p => (fillA p.2 as p.1).bind fun ds => (F ds).bind fun r => .ok (r.1, putA as r.2 p.2)
/-- the slots that are handed in, by the parameters' places; the levels that are due -/
def ioAt : List AK → Nat → Option Nat
  | .io i :: _, 0 => some i
  | _ :: as, j + 1 => ioAt as j
  | _, _ => none
def ksOf (lv : List Nat) : List AK → List Nat
  | [] => []
  | .s :: as => 0 :: ksOf lv as
  | .io i :: as => lv.getD i 0 :: ksOf lv as
def ios : List AK → List Nat
  | [] => []
  | .s :: as => ios as
  | .io i :: as => i :: ios as
section
variable {X : Cx} {c : DC} {K : PySem.W.Frag}
theorem da_nil : DA X c [] [] aNil := ⟨by
  refine PA.imp pa_nil fun σ H Q ⟨ρ, Z, fo, R, ds, ρ', hf, k⟩ => ?_
  cases hf
  exact k [] H Z fo R Stp.refl True.intro⟩
theorem da_s {e : Expr} {es : List Expr} {as : List AK} {f : Ev → Res (D × Ev)} {g : Ev → Res (List (Option D) × Ev)} (ha : DE X c false false e f) (hr : DA X c es as g) (hs : starEach (e :: es) X.env = (false, eval e X.env) :: starEach es X.env := by rfl) : DA X c (e :: es) (.s :: as) (aS f g) := ⟨by
  refine PA.imp (pa_cons ha.pe hr.pa hs) fun σ H Q ⟨ρ, Z, fo, R, ds, ρ', hf, k⟩ => ?_
  obtain ⟨⟨d1, ρ1⟩, h1, hf⟩ := Res.bind_ok hf
  obtain ⟨⟨d2, ρ2⟩, h2, hf⟩ := Res.bind_ok hf
  cases hf
  refine ⟨ρ, Z, fo, R, d1, ρ1, h1, fun x H1 Z1 fo1 R1 s1 m1 p1 => ⟨ρ1, Z1, fo1, R1, d2, ρ2, h2, fun xs H2 Z2 fo2 R2 s2 p2 => ?_⟩⟩
  exact k (x :: xs) H2 Z2 fo2 R2 (s1.trans s2) ⟨Sh.stp (s2.s0 R1) p1, p2⟩⟩
theorem da_io (i : Nat) {x : PySem.Str} {pos : Pos} {es : List Expr} {as : List AK} {g : Ev → Res (List (Option D) × Ev)} (hr : DA X c es as g) (hN : X.N[i]? = some x := by rfl) (hv : Vis X.env.scope x := by first | exact Or.inl rfl | exact Or.inr (Or.inl rfl) | exact Or.inr (Or.inr rfl)) (hd : (x == ("__debug__" : Str)) = false := by decide)
    (hcd : (x == ("__classdict__" : Str)) = false := by decide) (hs : starEach (.Name x pos :: es) X.env = (false, eval (.Name x pos) X.env) :: starEach es X.env := by rfl) : DA X c (.Name x pos :: es) (.io i :: as) (aIO i g) := ⟨by
  refine PA.imp (pa_cons (pe_var hN hv hd hcd) hr.pa hs) fun σ H Q ⟨ρ, Z, fo, R, ds, ρ', hf, k⟩ => ?_
  unfold aIO at hf
  split at hf
  · rename_i d0 h0
    obtain ⟨⟨d2, ρ2⟩, h2, hf⟩ := Res.bind_ok hf
    cases hf
    obtain ⟨v, q1, _⟩ := R.val i d0 h0
    exact ⟨v, q1, ρ, Z, fo, R, d2, ρ2, h2, fun xs H2 Z2 fo2 R2 s2 p2 => k (v :: xs) H2 Z2 fo2 R2 s2 ⟨q1, p2⟩⟩
  · cases hf⟩
theorem mem_ios : ∀ {as : List AK} {i : Nat}, i ∈ ios as ↔ ∃ j, ioAt as j = some i
  | [], i => by simp [ios, ioAt]
  | .s :: as, i => by
    show i ∈ ios as ↔ _
    rw [mem_ios]
    constructor
    · rintro ⟨j, h⟩
      exact ⟨j + 1, h⟩
    · rintro ⟨j, h⟩
      cases j with
      | zero => cases h
      | succ j => exact ⟨j, h⟩
  | .io k :: as, i => by
    show i ∈ k :: ios as ↔ _
    rw [List.mem_cons, mem_ios]
    constructor
    · rintro (e | ⟨j, h⟩)
      · exact ⟨0, by rw [e]; rfl⟩
      · exact ⟨j + 1, h⟩
    · rintro ⟨j, h⟩
      cases j with
      | zero =>
        have h' : some k = some i := h
        exact .inl (Option.some.inj h').symm
      | succ j => exact .inr ⟨j, h⟩
theorem ioAt_inj : ∀ {as : List AK} {j k i : Nat}, (ios as).Nodup → ioAt as j = some i → ioAt as k = some i → j = k
  | [], j, k, i, _, h, _ => by cases j <;> cases h
  | .s :: as, 0, k, i, _, h, _ => by cases h
  | .s :: as, j + 1, 0, i, _, _, h => by cases h
  | .s :: as, j + 1, k + 1, i, nd, h1, h2 => by rw [ioAt_inj (as := as) nd h1 h2]
  | .io m :: as, 0, 0, i, _, _, _ => rfl
  | .io m :: as, 0, k + 1, i, nd, h1, h2 => by
    have e : some m = some i := h1
    cases e
    exact absurd (mem_ios.mpr ⟨k, h2⟩) (List.nodup_cons.mp nd).1
  | .io m :: as, j + 1, 0, i, nd, h1, h2 => by
    have e : some m = some i := h2
    cases e
    exact absurd (mem_ios.mpr ⟨j, h1⟩) (List.nodup_cons.mp nd).1
  | .io m :: as, j + 1, k + 1, i, nd, h1, h2 => by rw [ioAt_inj (as := as) (List.nodup_cons.mp nd).2 h1 h2]
/-- what the arguments are, place by place -/
theorem args_get {σ : L2.St} {Z : AP} {H : Hp} {ρ : Ev} {lv : List Nat} : ∀ {as : List AK} {os : List (Option D)} {vs : List V} {ds : List D}, ArgsR K σ Z H as os vs → fillA ρ as os = .ok ds → vs.length = as.length ∧ ds.length = as.length ∧
    ∀ j d v, ds[j]? = some d → vs[j]? = some v → (ioAt as j = none ∧ (ksOf lv as)[j]? = some 0 ∧ Sh K Z H d v) ∨ ∃ i, ioAt as j = some i ∧ (ksOf lv as)[j]? = some (lv.getD i 0) ∧ σ[i]? = some (some v) ∧ ρ[i]? = some (some d)
  | [], [], [], ds, _, h => by
    cases h
    exact ⟨rfl, rfl, fun j d v h => by simp at h⟩
  | .s :: as, some d :: os, v :: vs, ds, a, h => by
    obtain ⟨r, h1, h2⟩ := Res.bind_ok (show (fillA ρ as os).bind (fun r => Res.ok (d :: r)) = .ok ds from h)
    cases h2
    obtain ⟨l1, l2, q⟩ := args_get (lv := lv) a.2 h1
    refine ⟨by rw [List.length_cons, List.length_cons, l1], by rw [List.length_cons, List.length_cons, l2], fun j d' v' e1 e2 => ?_⟩
    cases j with
    | zero =>
      have z1 : d = d' := by simpa using e1
      have z2 : v = v' := by simpa using e2
      rw [← z1, ← z2]
      exact .inl ⟨rfl, rfl, a.1⟩
    | succ j => exact q j d' v' (by simpa using e1) (by simpa using e2)
  | .io i :: as, none :: os, v :: vs, ds, a, h => by
    have h' : (match ρ[i]? with | some (some d) => (fillA ρ as os).bind (fun r => Res.ok (d :: r)) | _ => .err) = .ok ds := h
    split at h'
    · rename_i d hd
      obtain ⟨r, h1, h2⟩ := Res.bind_ok h'
      cases h2
      obtain ⟨l1, l2, q⟩ := args_get (lv := lv) a.2 h1
      refine ⟨by rw [List.length_cons, List.length_cons, l1], by rw [List.length_cons, List.length_cons, l2], fun j d' v' e1 e2 => ?_⟩
      cases j with
      | zero =>
        have z1 : d = d' := by simpa using e1
        have z2 : v = v' := by simpa using e2
        rw [← z1, ← z2]
        exact .inr ⟨i, rfl, rfl, a.1, hd⟩
      | succ j => exact q j d' v' (by simpa using e1) (by simpa using e2)
    · cases h'
  | [], [], _ :: _, _, h, _ => h.elim
  | [], _ :: _, _, _, h, _ => by cases h
  | .s :: as, [], _, _, h, _ => by cases h
  | .s :: as, none :: ds, _, _, h, _ => by cases h
  | .s :: as, some d :: ds, [], _, h, _ => by cases h
  | .io i :: as, [], _, _, h, _ => by cases h
  | .io i :: as, some d :: ds, _, _, h, _ => by cases h
  | .io i :: as, none :: ds, [], _, h, _ => by cases h
theorem putA_len : ∀ {as : List AK} {ds : List D} {ρ : Ev}, (putA as ds ρ).length = ρ.length
  | [], _, _ => rfl
  | .s :: as, [], _ => rfl
  | .io i :: as, [], _ => rfl
  | .s :: as, _ :: ds, ρ => putA_len (as := as)
  | .io i :: as, d :: ds, ρ => by
    show (putA as ds (ρ.set i (some d))).length = _
    rw [putA_len, List.length_set]
theorem putA_out : ∀ {as : List AK} {ds : List D} {ρ : Ev} {i : Nat}, i ∉ ios as → (putA as ds ρ)[i]? = ρ[i]?
  | [], _, _, _, _ => rfl
  | .s :: as, [], _, _, _ => rfl
  | .io i :: as, [], _, _, _ => rfl
  | .s :: as, _ :: ds, ρ, i, h => putA_out (as := as) h
  | .io k :: as, d :: ds, ρ, i, h => by
    show (putA as ds (ρ.set k (some d)))[i]? = _
    rw [putA_out (fun z => h (List.mem_cons_of_mem _ z)), List.getElem?_set_ne (fun e => h (by rw [e]; exact List.mem_cons_self))]
theorem putA_in : ∀ {as : List AK} {ds : List D} {ρ : Ev} {i j : Nat} {d : D}, (ios as).Nodup → ioAt as j = some i → ds.length = as.length → (putA as ds ρ)[i]? = some (some d) → ds[j]? = some d
  | [], _, _, _, j, _, _, h, _, _ => by cases j <;> cases h
  | .s :: as, [], _, _, _, _, _, _, l, _ => by simp at l
  | .io i :: as, [], _, _, _, _, _, _, l, _ => by simp at l
  | .s :: as, _ :: ds, ρ, i, 0, d, nd, h, l, e => by cases h
  | .s :: as, _ :: ds, ρ, i, j + 1, d, nd, h, l, e => by
    have := putA_in (as := as) (ds := ds) (ρ := ρ) nd h (by simpa using l) e
    simpa using this
  | .io k :: as, d' :: ds, ρ, i, 0, d, nd, h, l, e => by
    have h' : some k = some i := h
    cases h'
    have e' : (putA as ds (ρ.set k (some d')))[k]? = some (some d) := e
    rw [putA_out (List.nodup_cons.mp nd).1] at e'
    by_cases hk : k < ρ.length
    · rw [List.getElem?_set_self hk] at e'
      have z : d' = d := Option.some.inj (Option.some.inj e')
      rw [z]
      rfl
    · rw [List.getElem?_eq_none (by simpa using hk)] at e'; cases e'
  | .io k :: as, d' :: ds, ρ, i, j + 1, d, nd, h, l, e => by
    have := putA_in (as := as) (ds := ds) (ρ := ρ.set k (some d')) (List.nodup_cons.mp nd).2 h (by simpa using l) e
    simpa using this
/-- the call's own footprints -/
def foC (fo : Nat → AP) (as : List AK) (j : Nat) : AP := fun b => ∃ i, ioAt as j = some i ∧ fo i b
def foN (fo fo' : Nat → AP) (as : List AK) (i : Nat) : AP := fun b => (∃ j, ioAt as j = some i ∧ fo' j b) ∨ (i ∉ ios as ∧ fo i b)
theorem RS.called {ρ : Ev} {Z Z' : AP} {σ : L2.St} {H H' : Hp} {fo fo' : Nat → AP} {as : List AK} {os : List (Option D)} {vs : List V} {ds ds' : List D} {rk : Option Nat} {d : D} {v : V} (R : RS c K ρ Z σ H fo) (nd : (ios as).Nodup) (a : ArgsR K σ Z H as os vs) (hf : fillA ρ as os = .ok ds)
    (h0 : ∀ i ∈ ios as, c.ks.getD i 0 ≠ 0) (h : CEnd K (ksOf c.ks as) rk (foC fo as) Z H fo' Z' H' vs ds' d v) : RS c K (putA as ds' ρ) Z' σ H' (foN fo fo' as) ∧ Stp fo Z H (foN fo fo' as) Z' H' := by
  obtain ⟨l1, l2, q⟩ := args_get (lv := c.ks) a hf
  have st : Stp0 Z H Z' H' := ⟨fun b o h1 h2 => h.e1 b o h1 fun j ⟨i, _, hi⟩ => h2 (R.sub i b hi).1, fun b hb => h.e2 b hb⟩
  have lk : ∀ (as : List AK), (ksOf c.ks as).length = as.length := fun as => by
    induction as with
    | nil => rfl
    | cons x as ih => cases x <;> (show _ + 1 = _ + 1; rw [ih])
  have apart : ∀ {i b}, i ∉ ios as → fo i b → ∀ j, ¬ foC fo as j b := fun {i b} hi hb j ⟨k, hk, hkb⟩ => by
    have e := R.dis i k b hb hkb
    exact hi (mem_ios.mpr ⟨j, e ▸ hk⟩)
  have newF : ∀ {j b}, fo' j b → (∃ i, i ∈ ios as ∧ fo i b) ∨ H b = none := fun {j b} hj => by
    rcases (h.sub j b hj).2 with ⟨x, i, hi, hb⟩ | z
    · exact .inl ⟨i, mem_ios.mpr ⟨x, hi⟩, hb⟩
    · exact .inr z
  refine ⟨⟨?_, fun i d hd => ?_, fun i k b hi hk => ?_, h.own, fun i b hb => ?_, fun b o h1 h2 => ?_, fun b hb => R.dm b (h.dm b hb), fun b hb => ?_, fun b h1 h2 => ?_, R.zi, R.pin⟩, ⟨fun b o h1 h2 => h.e1 b o h1 fun j ⟨i, _, hi⟩ => h2 i hi, fun b hb => ?_, fun b h1 _ h2 => h.e3 b h1 fun j ⟨i, _, hi⟩ => h2 i hi, fun i b hb => ?_⟩⟩
  · rw [putA_len]
    exact R.len
  · by_cases hi : i ∈ ios as
    · obtain ⟨j, hj⟩ := mem_ios.mp hi
      have hl : ds'.length = as.length := by rw [h.lds, lk]
      have e1 := putA_in nd hj hl hd
      have hja : j < as.length := by
        have := (List.getElem?_eq_some_iff.mp e1).1
        omega
      have hv : vs[j]? = some (vs[j]'(by omega)) := List.getElem?_eq_getElem (by omega)
      have hd0 : ds[j]? = some (ds[j]'(by omega)) := List.getElem?_eq_getElem (by omega)
      rcases q j _ _ hd0 hv with ⟨z, _⟩ | ⟨k, hk, hks, hσ, _⟩
      · rw [z] at hj; cases hj
      · rw [hj] at hk
        cases hk
        refine ⟨_, hσ, ?_⟩
        exact Ow.more (P := fo' j) (fun b hb => .inl ⟨j, hj, hb⟩) (h.par j _ d _ hks (h0 i hi) e1 hv)
    · rw [putA_out hi] at hd
      obtain ⟨v, h1, h2⟩ := R.val i d hd
      refine ⟨v, h1, Ow.more (P := fo i) (fun b hb => .inr ⟨hi, hb⟩) (Ow.keep (fun d v s => s.stp st) _ d v (fo i) (fun b hb hz hn => ⟨?_, h.e3 b hz (apart hi hb)⟩) h2)⟩
      cases e : H b with
      | none => exact absurd e hn
      | some o => exact h.e1 b o e (apart hi hb)
  · rcases hi with ⟨j, hj, hjb⟩ | ⟨hi, hib⟩
    · rcases hk with ⟨l, hl, hlb⟩ | ⟨hk, hkb⟩
      · have e := h.dis j l b hjb hlb
        rw [e, hl] at hj
        cases hj
        rfl
      · rcases newF hjb with ⟨x, hx, hxb⟩ | z
        · exact absurd (R.dis k x b hkb hxb ▸ hx) hk
        · exact absurd z (R.ownN b (R.sub k b hkb).1)
    · rcases hk with ⟨l, hl, hlb⟩ | ⟨hk, hkb⟩
      · rcases newF hlb with ⟨x, hx, hxb⟩ | z
        · exact absurd (R.dis i x b hib hxb ▸ hx) hi
        · exact absurd z (R.ownN b (R.sub i b hib).1)
      · exact R.dis i k b hib hkb
  · rcases hb with ⟨j, hj, hjb⟩ | ⟨hi, hib⟩
    · refine ⟨(h.sub j b hjb).1, ?_⟩
      rcases newF hjb with ⟨x, hx, hxb⟩ | z
      · exact (R.sub x b hxb).2
      · exact .inr (R.dm b z)
    · exact ⟨h.e3 b (R.sub i b hib).1 (apart hi hib), (R.sub i b hib).2⟩
  · refine h.e1 b o (R.e1 b o h1 h2) fun j ⟨i, _, hi⟩ => ?_
    rcases (R.sub i b hi).2 with z | z
    · exact h2 z
    · rw [z] at h1; cases h1
  · rcases h.e2 b hb with z | z
    · exact R.e2 b z
    · exact .inr (R.dm b z)
  · refine h.e3 b (R.e3 b h1 h2) fun j ⟨i, _, hi⟩ => ?_
    rcases (R.sub i b hi).2 with z | z
    · exact h2 z
    · exact R.zi b h1 z
  · rcases h.e2 b hb with z | z
    · exact .inl z
    · exact .inr (.inl z)
  · rcases hb with ⟨j, hj, hjb⟩ | ⟨hi, hib⟩
    · rcases newF hjb with ⟨x, _, hxb⟩ | z
      · exact .inl ⟨x, hxb⟩
      · exact .inr z
    · exact .inl ⟨i, hib⟩
/-- what a caller must show -/
theorem sp_of {ρ : Ev} {Z : AP} {σ : L2.St} {H : Hp} {fo : Nat → AP} {as : List AK} {os : List (Option D)} {vs : List V} {ds ds' : List D} {rk : Option Nat} {F : Fn} {d : D} {Q : VK} {E : XK} (R : RS c K ρ Z σ H fo) (nd : (ios as).Nodup) (a : ArgsR K σ Z H as os vs) (hf : fillA ρ as os = .ok ds)
    (hF : F ds = .ok (d, ds')) (k : ∀ v H' Z' fo', CEnd K (ksOf c.ks as) rk (foC fo as) Z H fo' Z' H' vs ds' d v → Q v H') : spD K (ksOf c.ks as) rk F vs H Q E := by
  obtain ⟨l1, l2, q⟩ := args_get (lv := c.ks) a hf
  have lk : ∀ (as : List AK), (ksOf c.ks as).length = as.length := fun as => by
    induction as with
    | nil => rfl
    | cons x as ih => cases x <;> (show _ + 1 = _ + 1; rw [ih])
  refine ⟨ds, Z, foC fo as, by rw [l1, lk], by rw [l2, lk], fun j k d v h1 h2 h3 => ?_, fun i j b ⟨x, hx, hxb⟩ ⟨y, hy, hyb⟩ => ?_, R.own, fun j b ⟨i, _, hi⟩ => (R.sub i b hi).1, d, ds', hF, k⟩
  · rcases q j d v h2 h3 with ⟨_, hk, s⟩ | ⟨i, hi, hk, hσ, hρ⟩
    · rw [hk] at h1
      cases h1
      exact s
    · rw [hk] at h1
      cases h1
      obtain ⟨u, e1, e2⟩ := R.val i d hρ
      rw [hσ] at e1
      cases e1
      exact Ow.more (P := fo i) (fun b hb => ⟨i, hi, hb⟩) e2
  · have e := R.dis x y b hxb hyb
    rw [← e] at hy
    exact ioAt_inj nd hx hy
/-- a def of the text, as its callers use it -/
structure DFn (P : Program) (w : World) (K : PySem.W.Frag) (mg : Str → Option Value) (base : Heap) (k : Nat) (x : PySem.Str) (ks : List Nat) (rk : Option Nat) (F : Fn) : Prop where
  ex : ∃ (f : Addr) (fd : FuncData) (ps : List PySem.Str), mg x = some (.ref f) ∧ PySem.W.keepIn K (.ref f) = true ∧ Binds K fd ps [] ∧ FnOk P w K mg base CX0 k f fd ps (spD K ks rk F)
theorem DFn.mono {P : Program} {w : World} {K : PySem.W.Frag} {mg : Str → Option Value} {base : Heap} {j k : Nat} {x : PySem.Str} {ks : List Nat} {rk : Option Nat} {F : Fn} (h : DFn P w K mg base j x ks rk F) (hj : j ≤ k) : DFn P w K mg base k x ks rk F := by
  obtain ⟨f, fd, ps, h1, h2, h3, h4⟩ := h.ex
  exact ⟨f, fd, ps, h1, h2, h3, h4.mono hj⟩
theorem allN {vs : List Nat} {l : List Nat} (h : (vs.all fun v => l.getD v 0 != 0) = true) : ∀ v ∈ vs, l.getD v 0 ≠ 0 := fun v hv => by
  have := List.all_eq_true.mp h v hv
  simpa using this
theorem call_read {ks : List Nat} {rk : Option Nat} {F : Fn} {as : List AK} {g : Ev → Res (List (Option D) × Ev)} {σ : L2.St} {H : Hp} {Q : VK} (hks : ksOf c.ks as = ks) (nd : (ios as).Nodup) (h0 : ∀ i ∈ ios as, c.ks.getD i 0 ≠ 0)
    (h : ∃ ρ Z fo, RS c K ρ Z σ H fo ∧ ∃ d ρ', dCall as F g ρ = .ok (d, ρ') ∧ ∀ v H' Z' fo', RS c K ρ' Z' σ H' fo' → Stp fo Z H fo' Z' H' → ResK c K rk fo H fo' Z' H' d v → Q v H') : tCall (spD K ks rk F) [] E0 (tArgs c K as g) σ H Q := by
  obtain ⟨ρ, Z, fo, R, d, ρ', hf, k⟩ := h
  obtain ⟨⟨os, ρ1⟩, h1, hf⟩ := Res.bind_ok hf
  obtain ⟨ds, h2, hf⟩ := Res.bind_ok hf
  obtain ⟨⟨d1, ds'⟩, h3, hf⟩ := Res.bind_ok hf
  cases hf
  subst hks
  refine ⟨ρ, Z, fo, R, os, ρ1, h1, fun vs H1 Z1 fo1 R1 s1 a1 => ?_⟩
  show spD K (ksOf c.ks as) rk F (vs ++ []) H1 Q E0
  rw [List.append_nil]
  refine sp_of R1 nd a1 h2 h3 fun v H2 Z2 fo2 ce => ?_
  obtain ⟨R2, s2⟩ := R1.called nd a1 h2 h0 ce
  refine k v H2 Z2 _ R2 (s1.trans s2) ?_
  cases rk with
  | none => exact ce.res
  | some n =>
    obtain ⟨P, q1, q2, q3⟩ := ce.res
    have hP : ∀ b, P b → (∃ i, i ∈ ios as ∧ fo1 i b) ∨ H1 b = none := fun b hb => by
      rcases (q2 b hb).2 with ⟨x, i, hi, hib⟩ | z
      · exact .inl ⟨i, mem_ios.mpr ⟨x, hi⟩, hib⟩
      · exact .inr z
    refine FrR.back s1 ⟨P, q1, fun b hb => ⟨(q2 b hb).1, ?_⟩, fun i b hb z => ?_, fun b hb => ?_⟩
    · rcases hP b hb with ⟨i, _, hib⟩ | z
      · exact (R1.sub i b hib).2
      · exact .inr (R1.dm b z)
    · rcases z with ⟨j, hj, hjb⟩ | ⟨hi, hib⟩
      · exact q3 j b hb hjb
      · rcases hP b hb with ⟨x, hx, hxb⟩ | y
        · exact hi (R1.dis i x b hib hxb ▸ hx)
        · exact R1.ownN b (R1.sub i b hib).1 y
    · rcases hP b hb with ⟨i, _, hib⟩ | z
      · exact .inl ⟨i, hib⟩
      · exact .inr z
theorem de_call {k j : Nat} {x : PySem.Str} {p pos : Pos} {e : Expr} {es : List Expr} {ks : List Nat} {F : Fn} {as : List AK} {g : Ev → Res (List (Option D) × Ev)} (G : DFn X.prog X.w X.K X.mg X.base j x ks none F) (hr : Room k X.A) (hj : j ≤ k) (ha : DA X c (e :: es) as g) (hks : ksOf c.ks as = ks := by rfl) (nd : (ios as).Nodup := by decide) (h0 : ((ios as).all fun i => c.ks.getD i 0 != 0) = true := by rfl)
    (hg : Gl X x := by rfl) (hdb : (x == ("__debug__" : Str)) = false := by decide) (he : starEach (e :: es) X.env = (false, eval e X.env) :: starEach es X.env := by rfl) (hpl : (backTo pos (starEach es X.env)).any (·.1) = false := by rfl) :
    DE X c false false (.Call (.Name x p) (e :: es) [] pos) (dCall as F g) := ⟨by
  obtain ⟨f, fd, ps, h1, h2, h3, h4⟩ := G.ex
  refine PE.imp (pe_call h4 (hr.mono hj) hg h1 h2 h3 .nil pass0 ha.pa hdb he hpl) fun σ H Q ⟨ρ, Z, fo, R, d, ρ', hf, q⟩ => ?_
  exact call_read hks nd (allN h0) ⟨ρ, Z, fo, R, d, ρ', hf, fun v H' Z' fo' R' s' r' => q v H' Z' fo' R' s' (fun z => nomatch z) r'⟩⟩
theorem df_call {k j n : Nat} {x : PySem.Str} {p pos : Pos} {e : Expr} {es : List Expr} {ks : List Nat} {F : Fn} {as : List AK} {g : Ev → Res (List (Option D) × Ev)} (G : DFn X.prog X.w X.K X.mg X.base j x ks (some n) F) (hr : Room k X.A) (hj : j ≤ k) (ha : DA X c (e :: es) as g) (hks : ksOf c.ks as = ks := by rfl) (nd : (ios as).Nodup := by decide) (h0 : ((ios as).all fun i => c.ks.getD i 0 != 0) = true := by rfl)
    (hg : Gl X x := by rfl) (hdb : (x == ("__debug__" : Str)) = false := by decide) (he : starEach (e :: es) X.env = (false, eval e X.env) :: starEach es X.env := by rfl) (hpl : (backTo pos (starEach es X.env)).any (·.1) = false := by rfl) :
    DF X c n (.Call (.Name x p) (e :: es) [] pos) (dCall as F g) := ⟨by
  obtain ⟨f, fd, ps, h1, h2, h3, h4⟩ := G.ex
  refine PE.imp (pe_call h4 (hr.mono hj) hg h1 h2 h3 .nil pass0 ha.pa hdb he hpl) fun σ H Q ⟨ρ, Z, fo, R, d, ρ', hf, q⟩ => ?_
  exact call_read hks nd (allN h0) ⟨ρ, Z, fo, R, d, ρ', hf, fun v H' Z' fo' R' s' r' => q v H' Z' fo' R' s' r'⟩⟩
end
end DL
/-! further rules; short names for the common ones -/
namespace DL
open PySem PySem.Spec PyProof.Rows L2
section
variable {X : Cx} {c : DC} {q b : Bool} {tg e a : Expr} {fe fa fb : Ev → Res (D × Ev)} {pos p : Pos} {K : PySem.W.Frag}
theorem dt_q {f : Ev → Res (Bool × Ev)} (h : DT X c true e f) : DT X c false e f := ⟨by
  refine PT.imp h.pt fun σ H Q ⟨ρ, Z, fo, R, d, ρ', hf, k⟩ => ⟨ρ, Z, fo, R, d, ρ', hf, fun H' Z' fo' R' st sm => k H' Z' fo' R' st (fun z => nomatch z)⟩⟩
/-- a list or a tuple that is walked -/
theorem di_seq (he : DE X c false false e fe) : DI X c tg e (dSeqI fe) := by
  refine ⟨⟨fun pins s σ H R I h => ?_⟩⟩
  obtain ⟨ρ, Z, fo, RR, ds, ρ', hf, k⟩ := h
  obtain ⟨⟨d1, ρ1⟩, e1, hf⟩ := Res.bind_ok hf
  have hw : tD c X.K false false fe σ H (fun v H1 => ∃ a, v = .ref a ∧ ((∃ xs, SqL X.K H1 a xs) ∧ R (Itl X.K a) H1 ∨ (∃ xs, SqT X.K H1 a xs) ∧ R (Itt X.K a) H1)) := by
    refine ⟨ρ, Z, fo, RR, d1, ρ1, e1, fun v H1 Z1 fo1 R1 s1 m1 p1 => ?_⟩
    cases d1 with
    | tup es =>
      cases hf
      obtain ⟨a, vs, rfl, r, s⟩ := p1
      exact ⟨a, rfl, .inr ⟨⟨vs, r.sq⟩, k _ H1 Z1 fo1 R1 s1 (ItR.tup r s)⟩⟩
    | lst es =>
      cases hf
      obtain ⟨a, vs, rfl, r, s⟩ := p1
      exact ⟨a, rfl, .inl ⟨⟨vs, r.sq⟩, k _ H1 Z1 fo1 R1 s1 (ItR.list r s)⟩⟩
    | _ => cases hf
  refine thn (he.pe.run pins s σ H _ I hw) fun v s1 ⟨x, H1, I1, r1, q1⟩ => ?_
  obtain ⟨a, ex, q1⟩ := q1
  subst ex
  cases r1
  rcases q1 with ⟨⟨xs, hq⟩, qq⟩ | ⟨⟨xs, hq⟩, qq⟩
  · obtain ⟨its, rv, pl, hz⟩ := I1.list hq
    refine wpAny_pyIter_list pl.isList ?_
    refine ⟨s1.heap.objs.size, [s1.heap.objs.size], _, _, H1, rfl, I1.kept (t' := s1.toks) fun b o e => Heap.get?_push_of_some _ e, turn_list a _, ⟨_, Heap.get?_push_size _ rfl, rfl, rfl⟩, fun b hb => ?_, qq⟩
    have e : b = s1.heap.objs.size := by simpa using hb
    subst e
    exact I1.fpOk (Nat.le_refl _) (I1.hok.fresh (Nat.le_refl _))
  · obtain ⟨its, rv, pl, hz⟩ := I1.tuple hq
    refine wpAny_pyIter_tuple (show s1.heap.IsTuple a its.toArray from pl) ?_
    refine ⟨s1.heap.objs.size, [s1.heap.objs.size], _, _, H1, rfl, I1.kept (t' := s1.toks) fun b o e => Heap.get?_push_of_some _ e, turn_tuple a _, ⟨_, Heap.get?_push_size _ rfl, rfl, rfl⟩, fun b hb => ?_, qq⟩
    have e : b = s1.heap.objs.size := by simpa using hb
    subst e
    exact I1.fpOk (Nat.le_refl _) (I1.hok.fresh (Nat.le_refl _))
theorem ItR.down {Z : AP} {H : Hp} {a b : Int} : ItR K Z H (Itc a (-1) (a - b).toNat) (rgDn a b) := by
  have hl : (rgDn a b).length = (a - b).toNat := by unfold rgDn; rw [List.length_map, List.length_range]
  refine ⟨_, _, by rw [hl]; exact walk_rangeC, fun _ _ _ => True.intro, fun i Z1 H1 x H2 hi st hz y => ?_⟩
  obtain ⟨rfl, rfl⟩ := y
  refine ⟨Same.refl _, .int (a + (i : Nat) * (-1)), ?_, rfl⟩
  rw [hl] at hi
  unfold rgDn
  rw [List.getElem?_map, List.getElem?_range hi, Option.map_some, show a + (i : Int) * (-1) = a - i by omega]
theorem di_rngD {e1 e2 e3 : Expr} {f : Ev → Res (List D × Ev)} (hm : X.mg "range" = none) (ha : DAs X c false false [e1, e2, e3] f) (hg : Gl X "range" := by rfl) (hs : starEach [e1, e2, e3] X.env = (false, eval e1 X.env) :: starEach [e2, e3] X.env := by rfl) (hpl : (backTo pos (starEach [e2, e3] X.env)).any (·.1) = false := by rfl) :
    DI X c tg (.Call (.Name "range" p) [e1, e2, e3] [] pos) (dRngD f) := ⟨by
  refine PI.imp (pi_range3 hg hm ha.pa hs hpl) fun σ H R ⟨ρ, Z, fo, RR, ds, ρ', hf, k⟩ => ?_
  obtain ⟨⟨d1, ρ1⟩, e1, hf⟩ := Res.bind_ok hf
  refine ⟨ρ, Z, fo, RR, d1, ρ1, e1, fun vs H1 Z1 fo1 R1 s1 m1 l1 p1 => ?_⟩
  dsimp only at hf
  split at hf
  · obtain ⟨x, y, z, rfl, x1, x2, x3⟩ := shs3 p1
    obtain ⟨⟨⟨h1, h2, h3, h4⟩, rfl⟩, e2⟩ := if_ok hf
    cases e2
    cases x1
    cases x2
    cases x3
    exact ⟨_, _, _, _, rfl, RgC.neg h1 h2 h3 h4, k _ H1 Z1 fo1 R1 s1 ItR.down⟩
  · cases hf⟩
/-- list(range(n)) -/
def dLstRg (f : Ev → Res (D × Ev)) (ρ : Ev) : Res (D × Ev) := (f ρ).bind fun p => match p.1 with
  | .int n => if 0 ≤ n ∧ n ≤ 16777216 then .ok (.lst (rgD 0 n), p.2) else .err
  | _ => .err
theorem rgV_rgD {Z : AP} {H : Hp} {a b : Int} : Shs K Z H (rgD a b) (rgV a b) := by
  unfold rgD rgV
  generalize (List.range (b - a).toNat) = l
  induction l with
  | nil => exact rfl
  | cons x l ih => exact ⟨_, _, rfl, rfl, ih⟩
theorem df_lstRg {p2 pos2 : Pos} (hc : X.calm = true) (hm : X.mg "list" = none) (hm2 : X.mg "range" = none) (ha : DE X c false false e fe) (hg : Gl X "list" := by rfl) (hg2 : Gl X "range" := by rfl) (na : starEach [e] X.env = (false, eval e X.env) :: starEach [] X.env := by rfl)
    (na2 : starEach [Expr.Call (.Name "range" p2) [e] [] pos2] X.env = (false, eval (Expr.Call (.Name "range" p2) [e] [] pos2) X.env) :: starEach [] X.env := by rfl) : DF X c 0 (.Call (.Name "list" p) [.Call (.Name "range" p2) [e] [] pos2] [] pos) (dLstRg fe) := ⟨by
  refine PE.imp (pe_listRg hc hg hm (prg_1 hg2 hm2 ha.pe na) na2) fun σ H Q ⟨ρ, Z, fo, R, d, ρ', hf, k⟩ => ?_
  obtain ⟨⟨d1, ρ1⟩, h1, hf⟩ := Res.bind_ok hf
  refine ⟨ρ, Z, fo, R, d1, ρ1, h1, fun v H1 Z1 fo1 R1 s1 m1 p1 => ?_⟩
  cases d1 with
  | int n =>
    obtain ⟨⟨g1, g2⟩, e2⟩ := if_ok hf
    cases e2
    cases p1
    refine ⟨n, rfl, RgOk.of_le (by omega) g2 (by omega) g1, fun t ht => ?_⟩
    obtain ⟨R2, st⟩ := R1.take (vs := rgV 0 n) ht
    exact k _ _ _ fo1 R2 (s1.trans st) ((FrR.new R1 ht rgV_rgD).back s1)
  | _ => cases hf⟩
/-- list(x) of a list or tuple -/
def dLstOf (f : Ev → Res (List D × Ev)) (ρ : Ev) : Res (D × Ev) := (f ρ).bind fun p => match p.1 with
  | [.lst ds] => .ok (.lst ds, p.2)
  | [.tup ds] => .ok (.lst ds, p.2)
  | _ => .err
theorem df_lstOf {f : Ev → Res (List D × Ev)} (hm : X.mg "list" = none) (ha : DAs X c false false [e] f) (hg : Gl X "list" := by rfl) (he : starEach [e] X.env = (false, eval e X.env) :: starEach [] X.env := by rfl) (hpl : (backTo pos (starEach [] X.env)).any (·.1) = false := by rfl) :
    DF X c 0 (.Call (.Name "list" p) [e] [] pos) (dLstOf f) := ⟨by
  refine PE.imp (pe_callTy call_list_of hg hm (by decide +kernel) ha.pa (by decide) (by decide) he hpl) fun σ H Q ⟨ρ, Z, fo, R, d, ρ', hf, k⟩ => ?_
  obtain ⟨⟨d1, ρ1⟩, h1, hf⟩ := Res.bind_ok hf
  refine ⟨ρ, Z, fo, R, d1, ρ1, h1, fun vs H1 Z1 fo1 R1 s1 m1 l1 p1 => ?_⟩
  dsimp only at hf
  split at hf
  · obtain ⟨x, rfl, a, ws, rfl, r, s⟩ := shs1 p1
    cases hf
    refine ⟨a, ws, rfl, .inl r.sq, fun t ht => ?_⟩
    obtain ⟨R2, st⟩ := R1.take (vs := ws) ht
    exact k _ _ _ fo1 R2 (s1.trans st) ((FrR.new R1 ht s).back s1)
  · obtain ⟨x, rfl, a, ws, rfl, r, s⟩ := shs1 p1
    cases hf
    refine ⟨a, ws, rfl, .inr r.sq, fun t ht => ?_⟩
    obtain ⟨R2, st⟩ := R1.take (vs := ws) ht
    exact k _ _ _ fo1 R2 (s1.trans st) ((FrR.new R1 ht s).back s1)
  · cases hf⟩
/-! short names -/
section
variable (ha : DE X c q b a fa) (hb : DE X c q b e fb) (hq : b = true → q = true)
include ha hb hq
theorem e_add : DE X c q b (.BinOp a .Add e pos) (dOp gAdd fa fb) := de_op o_add d_add ha hb hq
theorem e_sub : DE X c q b (.BinOp a .Sub e pos) (dOp gSub fa fb) := de_op op_sub d_sub ha hb hq
theorem e_mul : DE X c q b (.BinOp a .Mult e pos) (dOp gMul fa fb) := de_op o_mul d_int ha hb hq
theorem e_fdiv : DE X c q b (.BinOp a .FloorDiv e pos) (dOp gFdiv fa fb) := de_op op_fdivW d_int ha hb hq
theorem e_mod : DE X c q b (.BinOp a .Mod e pos) (dOp gMod fa fb) := de_op op_mod d_int ha hb hq
theorem e_pow : DE X c q b (.BinOp a .Pow e pos) (dOp gPow fa fb) := de_op op_pow d_int ha hb hq
theorem e_shl : DE X c q b (.BinOp a .LShift e pos) (dOp gShl fa fb) := de_op op_shl d_int ha hb hq
theorem e_lt {k : Nat} (hr : Room k X.A) : DE X c q b (.Compare a [.Lt] [e] pos) (dOp gLt fa fb) := de_cmp (o_lt hr.units0) d_lt ha hb (nomark _) hq
theorem e_le : DE X c q b (.Compare a [.LtE] [e] pos) (dOp gLe fa fb) := de_cmp op_le d_intB ha hb (nomark _) hq
theorem e_gt {k : Nat} (hr : Room k X.A) : DE X c q b (.Compare a [.Gt] [e] pos) (dOp gGt fa fb) := de_cmp (o_gt hr.units0) d_gt ha hb (nomark _) hq
theorem e_ge : DE X c q b (.Compare a [.GtE] [e] pos) (dOp gGe fa fb) := de_cmp op_ge d_intB ha hb (nomark _) hq
theorem e_eq {k : Nat} (hr : Room k X.A) : DE X c q b (.Compare a [.Eq] [e] pos) (dOp gEq fa fb) := de_cmp (o_eq hr.units) d_eq ha hb (nomark _) hq
theorem e_ne {k : Nat} (hr : Room k X.A) : DE X c q b (.Compare a [.NotEq] [e] pos) (dOp gNe fa fb) := de_cmp (o_ne hr.units) d_ne ha hb (nomark _) hq
theorem e_in (hm : behindInMarks .In e = false) : DE X c q b (.Compare a [.In] [e] pos) (dOp (gIn false) fa fb) := de_cmp o_in d_in ha hb hm hq
theorem e_notIn (hm : behindInMarks .NotIn e = false) : DE X c q b (.Compare a [.NotIn] [e] pos) (dOp (gIn true) fa fb) := de_cmp o_notIn d_in ha hb hm hq
theorem e_is : DE X c q b (.Compare a [.Is] [e] pos) (dOp gIsN fa fb) := de_cmp op_isN d_isN ha hb (nomark _) hq
theorem e_isnot : DE X c q b (.Compare a [.IsNot] [e] pos) (dOp gNotN fa fb) := de_cmp op_notN d_notN ha hb (nomark _) hq
theorem t_lt {k : Nat} (hr : Room k X.A) : DT X c q (.Compare a [.Lt] [e] pos) (dBool (dOp gLt fa fb)) := dt_cmp (o_lt hr.units0) d_lt ha hb (nomark _) hq
theorem t_le : DT X c q (.Compare a [.LtE] [e] pos) (dBool (dOp gLe fa fb)) := dt_cmp op_le d_intB ha hb (nomark _) hq
theorem t_gt {k : Nat} (hr : Room k X.A) : DT X c q (.Compare a [.Gt] [e] pos) (dBool (dOp gGt fa fb)) := dt_cmp (o_gt hr.units0) d_gt ha hb (nomark _) hq
theorem t_ge : DT X c q (.Compare a [.GtE] [e] pos) (dBool (dOp gGe fa fb)) := dt_cmp op_ge d_intB ha hb (nomark _) hq
theorem t_eq {k : Nat} (hr : Room k X.A) : DT X c q (.Compare a [.Eq] [e] pos) (dBool (dOp gEq fa fb)) := dt_cmp (o_eq hr.units) d_eq ha hb (nomark _) hq
theorem t_ne {k : Nat} (hr : Room k X.A) : DT X c q (.Compare a [.NotEq] [e] pos) (dBool (dOp gNe fa fb)) := dt_cmp (o_ne hr.units) d_ne ha hb (nomark _) hq
theorem t_in (hm : behindInMarks .In e = false) : DT X c q (.Compare a [.In] [e] pos) (dBool (dOp (gIn false) fa fb)) := dt_cmp o_in d_in ha hb hm hq
theorem t_notIn (hm : behindInMarks .NotIn e = false) : DT X c q (.Compare a [.NotIn] [e] pos) (dBool (dOp (gIn true) fa fb)) := dt_cmp o_notIn d_in ha hb hm hq
theorem t_is : DT X c q (.Compare a [.Is] [e] pos) (dBool (dOp gIsN fa fb)) := dt_cmp op_isN d_isN ha hb (nomark _) hq
theorem t_isnot : DT X c q (.Compare a [.IsNot] [e] pos) (dBool (dOp gNotN fa fb)) := dt_cmp op_notN d_notN ha hb (nomark _) hq
end
theorem e_neg (ha : DE X c q b a fa) : DE X c q b (.UnaryOp .USub a pos) (dUn gNeg fa) := de_un un_neg d_neg ha
theorem e_ix (ha : DE X c q b a fa) (hb : DE X c q b e fb) (hq : b = true → q = true) (hs : PlainIx e := by intro _ _; rfl) : DE X c q b (.Subscript a e pos) (dOp gIx fa fb) := de_ix ix_seq d_ix ha hb hs hq
end
end DL
namespace DL
open PySem PySem.Spec PyProof.Rows L2
theorem hF {q : Bool} : false = true → q = true := fun h => by cases h
theorem hT {b : Bool} : b = true → true = true := fun _ => rfl
/-- a def as it stands behind the top -/
def Src (K : PySem.W.Frag) (mg : Str → Option Value) (x : PySem.Str) (st : Stmt) (ps : List PySem.Str) : Prop := ∃ (f : Addr) (fd : FuncData), mg x = some (.ref f) ∧ Fun K x x st f fd ∧ ∀ us : List Value, us.length = ps.length → bindArgs fd ⟨us, []⟩ = pure (ps.zip us)
theorem mkSrc {K : PySem.W.Frag} {h : Heap} {mg : Str → Option Value} {x : PySem.Str} {st : Stmt} {ps : List PySem.Str} {f : Addr} {oc : Value} {od an : Option Addr} {osl : Array (Option Value)} {kV doc pm cdv ct : Value}
    (hb : ∀ (kV doc pm : Value) (an : Option Addr) (cdv ct : Value) (us : List Value), us.length = ps.length → bindArgs (PySem.W.fnOf x x (defArgs st) (defBody st) (defScope st) .none kV doc pm an cdv ct) ⟨us, []⟩ = pure (ps.zip us))
    (X : K.In h) (G : h.Ns mainGlobals mg) (a : PySem.W.nsIn K mainGlobals x = some (some (.ref f))) (l : K.lookup f = some ⟨oc, od, .func (PySem.W.fnOf x x (defArgs st) (defBody st) (defScope st) .none kV doc pm an cdv ct), osl⟩)
    (c : PySem.W.codeIn K cdv x = true) (k : PySem.W.keepIn K (.ref f) = true) : Src K mg x st ps :=
  ⟨f, _, PySem.W.mg_of X G a, fun_mk l c k, fun us hl => hb _ _ _ _ _ _ us hl⟩
/-- the law's own promise -/
def spLaw (K : PySem.W.Frag) : Sp := fun vs H Q _ => ∃ (a : Addr) (ns : List Int), vs = [.ref a] ∧ SqL K H a (ns.map V.int) ∧ ns.length ≤ 63 ∧ ∀ H', Q (.bl true) H'
theorem shs_ints {K : PySem.W.Frag} {Z : AP} {H : Hp} : ∀ ns : List Int, Shs K Z H (ns.map D.int) (ns.map V.int)
  | [] => rfl
  | n :: ns => ⟨_, _, rfl, rfl, shs_ints ns⟩
theorem law_ok {P : Program} {w : World} {K : PySem.W.Frag} {mg : Str → Option Value} {base : Heap} {k : Nat} {f : Addr} {fd : FuncData} {F : Fn} (h : FnOk P w K mg base CX0 k f fd ["script"] (spD K [0] none F)) (hF : ∀ ns : List Int, ns.length ≤ 63 → ∃ o, F [.lst (ns.map D.int)] = .ok (.bl true, o)) :
    FnOk P w K mg base CX0 k f fd ["script"] (spLaw K) := by
  refine h.imp fun vs H Q E ⟨a, ns, e, hs, hl, q⟩ => ?_
  subst e
  obtain ⟨o, ho⟩ := hF ns hl
  refine ⟨[.lst (ns.map D.int)], fun _ => False, fun _ _ => False, rfl, rfl, fun j k d v h1 h2 h3 => ?_, fun _ _ _ z => z.elim, fun _ z => z.elim, fun _ _ z => z, _, o, ho, fun v H' Z' fo' ce => ?_⟩
  · cases j with
    | zero =>
      cases h1
      cases h2
      cases h3
      refine ⟨a, _, rfl, ?_, shs_ints ns⟩
      rcases hs with hs | hs
      · exact .inl ⟨hs, fun z => z⟩
      · exact .inr (.inr hs)
    | succ j => simp at h1
  · have e : v = .bl true := ce.res
    rw [e]
    exact q H'
end DL
/-! more: slots given up, lists within owned lists -/
namespace DL
open PySem PySem.Spec PyProof.Rows L2
/-! a slot of owned lists that is shared from here on -/
def Fl.un (i : Nat) : Fl → Fl
  | .nx ρ => .nx (ρ.set i none)
  | .rt d ρ => .rt d (ρ.set i none)
  | .bk ρ => .bk (ρ.set i none)
  | .ct ρ => .ct (ρ.set i none)
def sFrz (i : Nat) (f : Ev → Res Fl) (ρ : Ev) : Res Fl := (f ρ).bind fun fl => .ok (fl.un i)
def DC.frz (c : DC) (i : Nat) : DC := { c with ks := c.ks.set i 0 }
theorem getD_ne {l : List Nat} {i j : Nat} (h : i ≠ j) : (l.set i 0).getD j 0 = l.getD j 0 := by
  rw [List.getD_eq_getElem?_getD, List.getD_eq_getElem?_getD, List.getElem?_set_ne h]
theorem getD_eq {l : List Nat} {i : Nat} : (l.set i 0).getD i 0 = 0 := by
  rw [List.getD_eq_getElem?_getD]
  by_cases h : i < l.length
  · rw [List.getElem?_set_self h]
    rfl
  · rw [List.getElem?_eq_none (by rw [List.length_set]; omega)]
    rfl
section
variable {c : DC} {K : PySem.W.Frag} {ρ : Ev} {Z : AP} {σ : L2.St} {H : Hp} {fo : Nat → AP} {i : Nat}
theorem RS.frz (R : RS c K ρ Z σ H fo) : ∃ Z' fo', RS (c.frz i) K ρ Z' σ H fo' ∧ Stp fo Z H fo' Z' H := by
  cases h : ρ[i]? with
  | none =>
    refine ⟨Z, fo, { R with val := fun j e he => ?_, e1 := R.e1, dm := R.dm, e2 := R.e2, e3 := R.e3, zi := R.zi, pin := R.pin, sub := R.sub }, Stp.refl⟩
    obtain ⟨v, h1, h2⟩ := R.val j e he
    refine ⟨v, h1, ?_⟩
    have q : i ≠ j := fun z => by rw [z, he] at h; cases h
    show Ow K Z H ((c.ks.set i 0).getD j 0) e v (fo j)
    rw [getD_ne q]
    exact h2
  | some o =>
    cases o with
    | none =>
      refine ⟨Z, fo, { R with val := fun j e he => ?_, e1 := R.e1, dm := R.dm, e2 := R.e2, e3 := R.e3, zi := R.zi, pin := R.pin, sub := R.sub }, Stp.refl⟩
      obtain ⟨v, h1, h2⟩ := R.val j e he
      refine ⟨v, h1, ?_⟩
      have q : i ≠ j := fun z => by rw [z, he] at h; cases h
      show Ow K Z H ((c.ks.set i 0).getD j 0) e v (fo j)
      rw [getD_ne q]
      exact h2
    | some d =>
      obtain ⟨v, h1, R2, s2, p2⟩ := R.give h
      refine ⟨_, _, { R2 with len := R.len, val := fun j e he => ?_, e1 := R2.e1, dm := R2.dm, e2 := R2.e2, e3 := R2.e3, zi := R2.zi, pin := R2.pin, sub := R2.sub }, s2⟩
      by_cases q : i = j
      · subst q
        rw [h] at he
        cases he
        refine ⟨v, h1, ?_⟩
        show Ow K _ H ((c.ks.set i 0).getD i 0) d v _
        rw [getD_eq]
        exact p2
      · obtain ⟨w, h3, h4⟩ := R2.val j e (by rw [List.getElem?_set_ne q]; exact he)
        refine ⟨w, h3, ?_⟩
        show Ow K _ H ((c.ks.set i 0).getD j 0) e w _
        rw [getD_ne q]
        exact h4
theorem RS.unfrz (R : RS (c.frz i) K ρ Z σ H fo) : RS c K (ρ.set i none) Z σ H fo := by
  have R2 := R.unset i
  refine { R2 with val := fun j e he => ?_, e1 := R2.e1, dm := R2.dm, e2 := R2.e2, e3 := R2.e3, zi := R2.zi, pin := R2.pin, sub := R2.sub }
  obtain ⟨v, h1, h2⟩ := R2.val j e he
  have q : i ≠ j := fun z => by
    subst z
    by_cases hl : i < ρ.length
    · rw [List.getElem?_set_self hl] at he; cases he
    · rw [List.getElem?_eq_none (by simpa using hl)] at he; cases he
  have h3 : Ow K Z H ((c.ks.set i 0).getD j 0) e v (fo j) := h2
  rw [getD_ne q] at h3
  exact ⟨v, h1, h3⟩
end
theorem dss_frz (i : Nat) {X : Cx} {c : DC} {rk : Option Nat} {sts : List Stmt} {f : Ev → Res Fl} (h : DSs X (c.frz i) rk sts f) : DSs X c rk sts (sFrz i f) := ⟨by
  refine PSs.imp h.ps fun E σ H ⟨ρ, Z, fo, R, fl, hf, k⟩ => ?_
  obtain ⟨fl1, e1, hf⟩ := Res.bind_ok hf
  cases hf
  obtain ⟨Z', fo', R', s'⟩ := R.frz (i := i)
  refine ⟨ρ, Z', fo', R', fl1, e1, ?_⟩
  cases fl1 with
  | nx ρ1 => exact fun σ1 H1 Z1 fo1 R1 s1 => k σ1 H1 Z1 fo1 R1.unfrz (s'.trans s1)
  | bk ρ1 => exact fun σ1 H1 Z1 fo1 R1 s1 => k σ1 H1 Z1 fo1 R1.unfrz (s'.trans s1)
  | ct ρ1 => exact fun σ1 H1 Z1 fo1 R1 s1 => k σ1 H1 Z1 fo1 R1.unfrz (s'.trans s1)
  | rt d ρ1 => exact fun v σ1 H1 Z1 fo1 R1 s1 r1 => k v σ1 H1 Z1 fo1 R1.unfrz (s'.trans s1) (by
      cases rk with
      | none => exact r1
      | some n => exact ⟨r1.ex⟩)⟩
/-! a slot of owned lists that takes what is no list -/
def D.isL : D → Bool
  | .lst _ => true
  | _ => false
theorem Ow.nolist {K : PySem.W.Frag} {Z : AP} {H : Hp} {d : D} {v : V} {P : AP} (hd : d.isL = false) (h : Sh K Z H d v) : ∀ n, Ow K Z H n d v P
  | 0 => h
  | n + 1 => by
    cases d with
    | lst _ => cases hd
    | _ => exact h
theorem RS.setN {c : DC} {K : PySem.W.Frag} {ρ : Ev} {Z : AP} {σ : L2.St} {H : Hp} {fo : Nat → AP} {i : Nat} {d : D} {v : V} (r : RS c K ρ Z σ H fo) (hd : d.isL = false) (hp0 : c.pl.contains i = false) (h : Sh K Z H d v) : RS c K (ρ.set i (some d)) Z (σ.set i (some v)) H fo := by
  have hp := npl hp0
  refine { r with len := by rw [List.length_set, List.length_set]; exact r.len, val := fun j e he => ?_, pin := fun j hj => ?_ }
  · by_cases q : i = j
    · subst q
      by_cases hl : i < ρ.length
      · rw [List.getElem?_set_self hl] at he
        have e1 : d = e := Option.some.inj (Option.some.inj he)
        subst e1
        exact ⟨v, List.getElem?_set_self (r.len ▸ hl), Ow.nolist hd h _⟩
      · rw [List.getElem?_eq_none (by simpa using hl)] at he; cases he
    · rw [List.getElem?_set_ne q] at he
      obtain ⟨w, h1, h2⟩ := r.val j e he
      exact ⟨w, by rw [List.getElem?_set_ne q]; exact h1, h2⟩
  · rw [List.getElem?_set_ne (fun (e : i = j) => hp (by rw [e]; exact hj))]
    exact r.pin j hj
def sSetN (i : Nat) (f : Ev → Res (D × Ev)) (ρ : Ev) : Res Fl := (f ρ).bind fun p => if p.1.isL = false then .ok (.nx (p.2.set i (some p.1))) else .err
theorem ds_setN (i : Nat) {X : Cx} {c : DC} {rk : Option Nat} {e : Expr} {fe : Ev → Res (D × Ev)} {pos : Pos} {x : PySem.Str} {pos' : Pos} (nd : X.N.Nodup) (he : DE X c false false e fe) (hp : c.pl.contains i = false := by rfl) (hi : X.N[i]? = some x := by rfl) (hx : Loc X.env.scope x := by first | exact Or.inl rfl | exact Or.inr rfl)
    (hs : swapsWith e (some (.Name x pos')) pos.line X.env = pure false := by rfl) (hf : X.fn x = true ∨ X.env.scope.names.lookup x = some .local := by first | exact .inl rfl | exact .inr rfl) : DS X c rk (.Assign [.Name x pos'] e pos) (sSetN i fe) := ⟨by
  refine PS.imp (ps_set nd hi hx he.pe hs hf) fun E σ H ⟨ρ, Z, fo, R, fl, hf, k⟩ => ?_
  obtain ⟨⟨d1, ρ1⟩, h1, hf⟩ := Res.bind_ok hf
  obtain ⟨hd, e2⟩ := if_ok hf
  subst e2
  exact ⟨ρ, Z, fo, R, d1, ρ1, h1, fun v H1 Z1 fo1 R1 s1 m1 p1 => k _ H1 Z1 fo1 (R1.setN hd hp p1) s1⟩⟩
end DL
/-! lists within owned lists -/
namespace DL
open PySem PySem.Spec PyProof.Rows L2
theorem if_ok' {α : Type} {c : Prop} [Decidable c] {x : Res α} {b : α} (h : (if c then x else .err) = .ok b) : c ∧ x = .ok b := by
  by_cases hc : c
  · rw [if_pos hc] at h
    exact ⟨hc, h⟩
  · rw [if_neg hc] at h
    cases h
section
variable {c : DC} {K : PySem.W.Frag} {ρ : Ev} {Z : AP} {σ : L2.St} {H : Hp} {fo : Nat → AP} {i n : Nat} {ds : List D}
/-- a list of level n + 1, with its address; any of its items may be another that is no list -/
theorem RS.mutO (R : RS c K ρ Z σ H fo) (hk : c.ks.getD i 0 = n + 1) (h : ρ[i]? = some (some (.lst ds))) :
    ∃ a vs, σ[i]? = some (some (.ref a)) ∧ H a = some (.lst vs) ∧ ds.length = vs.length ∧ ∀ j d' v', d'.isL = false → Sh K Z H d' v' →
      RS c K (ρ.set i (some (.lst (ds.set j d')))) Z σ (upd H a (.lst (vs.set j v'))) fo ∧ Stp fo Z H fo Z (upd H a (.lst (vs.set j v'))) := by
  obtain ⟨v, h1, h2⟩ := R.val i _ h
  rw [hk] at h2
  obtain ⟨a, vs, rfl, pa, za, ha, l, Q, q1, q2, q3⟩ := h2
  refine ⟨a, vs, h1, ha, l, fun j0 d' v' hd' hs => ?_⟩
  have st : Stp0 Z H Z (upd H a (.lst (vs.set j0 v'))) := ⟨fun b o hb hz => by
    rw [upd_ne (fun (e : b = a) => hz (by rw [e]; exact za))]
    exact hb, fun b hb => .inl hb⟩
  refine ⟨?_, ⟨fun b o hb hf => by
    rw [upd_ne (fun (e : b = a) => hf i (by rw [e]; exact pa))]
    exact hb, fun b hb => .inl hb, fun b hb _ _ => hb, fun j b hb => .inl ⟨j, hb⟩⟩⟩
  refine { R with len := by rw [List.length_set]; exact R.len, val := fun j e he => ?_, own := fun b hb => ?_, e1 := fun b o h3 h4 => ?_, dm := fun b hb => ?_ }
  · by_cases q : i = j
    · subst q
      have hl : i < ρ.length := (List.getElem?_eq_some_iff.mp h).1
      rw [List.getElem?_set_self hl] at he
      have e1 : D.lst (ds.set j0 d') = e := Option.some.inj (Option.some.inj he)
      subst e1
      refine ⟨_, h1, ?_⟩
      rw [hk]
      refine ⟨a, _, rfl, pa, za, upd_same, by rw [List.length_set, List.length_set, l], Q, q1, q2, fun j d v e1 e2 => ?_⟩
      by_cases qj : j0 = j
      · subst qj
        have l1 : j0 < ds.length := by
          have := (List.getElem?_eq_some_iff.mp e1).1
          rwa [List.length_set] at this
        rw [List.getElem?_set_self l1] at e1
        rw [List.getElem?_set_self (l ▸ l1)] at e2
        cases e1
        cases e2
        exact Ow.nolist hd' (hs.stp st) _
      · rw [List.getElem?_set_ne qj] at e1 e2
        exact Ow.keep (fun d v s => s.stp st) _ d v (Q j) (fun b hb hz hn => ⟨upd_ne (q1 j b hb).2, hz⟩) (q3 j d v e1 e2)
    · rw [List.getElem?_set_ne q] at he
      obtain ⟨w, h5, h6⟩ := R.val j e he
      refine ⟨w, h5, Ow.keep (fun d v s => s.stp st) _ e w (fo j) (fun b hb hz hn => ⟨upd_ne fun e => q (R.dis i j b (e ▸ pa) hb), hz⟩) h6⟩
  · by_cases e : b = a
    · rw [e]
      exact ⟨_, upd_same, rfl⟩
    · rw [upd_ne e]
      exact R.own b hb
  · by_cases e : b = a
    · rcases (R.sub i a pa).2 with z | z
      · exact absurd (e ▸ z) h4
      · rw [e, z] at h3; cases h3
    · rw [upd_ne e]
      exact R.e1 b o h3 h4
  · by_cases e : b = a
    · rw [e, upd_same] at hb; cases hb
    · rw [upd_ne e] at hb
      exact R.dm b hb
/-- an inner list of shared items, changed -/
theorem RS.mut2 {j0 : Nat} {es : List D} (R : RS c K ρ Z σ H fo) (hk : c.ks.getD i 0 = 2) (h : ρ[i]? = some (some (.lst ds))) (hj : ds[j0]? = some (.lst es)) :
    ∃ a vs b ws, σ[i]? = some (some (.ref a)) ∧ H a = some (.lst vs) ∧ vs[j0]? = some (.ref b) ∧ H b = some (.lst ws) ∧ Shs K Z H es ws ∧ ∀ es' ws', Shs K Z H es' ws' →
      RS c K (ρ.set i (some (.lst (ds.set j0 (.lst es'))))) Z σ (upd H b (.lst ws')) fo ∧ Stp fo Z H fo Z (upd H b (.lst ws')) := by
  obtain ⟨v, h1, h2⟩ := R.val i _ h
  rw [hk] at h2
  obtain ⟨a, vs, rfl, pa, za, ha, l, Q, q1, q2, q3⟩ := h2
  have l0 : j0 < ds.length := (List.getElem?_eq_some_iff.mp hj).1
  have hv : vs[j0]? = some (vs[j0]'(by omega)) := List.getElem?_eq_getElem (by omega)
  obtain ⟨b, ws, eb, pb, zb, hb, lb, Q2, w1, w2, w3⟩ := q3 j0 _ _ hj hv
  have pib : fo i b := (q1 j0 b pb).1
  have hab : b ≠ a := (q1 j0 b pb).2
  refine ⟨a, vs, b, ws, h1, ha, by rw [hv, eb], hb, Shs.of lb fun i d v e1 e2 => w3 i d v e1 e2, fun es' ws' hs => ?_⟩
  have st : Stp0 Z H Z (upd H b (.lst ws')) := ⟨fun x o hx hz => by
    rw [upd_ne (fun (e : x = b) => hz (by rw [e]; exact zb))]
    exact hx, fun x hx => .inl hx⟩
  refine ⟨?_, ⟨fun x o hx hf => by
    rw [upd_ne (fun (e : x = b) => hf i (by rw [e]; exact pib))]
    exact hx, fun x hx => .inl hx, fun x hx _ _ => hx, fun j x hx => .inl ⟨j, hx⟩⟩⟩
  refine { R with len := by rw [List.length_set]; exact R.len, val := fun j e he => ?_, own := fun x hx => ?_, e1 := fun x o h3 h4 => ?_, dm := fun x hx => ?_ }
  · by_cases q : i = j
    · subst q
      have hl : i < ρ.length := (List.getElem?_eq_some_iff.mp h).1
      rw [List.getElem?_set_self hl] at he
      have e1 : D.lst (ds.set j0 (.lst es')) = e := Option.some.inj (Option.some.inj he)
      subst e1
      refine ⟨_, h1, ?_⟩
      rw [hk]
      refine ⟨a, vs, rfl, pa, za, by rw [upd_ne (Ne.symm hab)]; exact ha, by rw [List.length_set, l], Q, q1, q2, fun j d v e1 e2 => ?_⟩
      by_cases qj : j0 = j
      · subst qj
        rw [List.getElem?_set_self l0] at e1
        rw [hv, eb] at e2
        cases e1
        cases e2
        refine ⟨b, ws', rfl, pb, zb, upd_same, hs.len, fun _ _ => False, fun _ _ z => z.elim, fun _ _ _ z _ => z.elim, fun j d v e1 e2 => ?_⟩
        obtain ⟨w, h5, h6⟩ := (hs.stp st).get e1
        rw [h5] at e2
        cases e2
        exact h6
      · rw [List.getElem?_set_ne qj] at e1
        exact Ow.keep (fun d v s => s.stp st) _ d v (Q j) (fun x hx hz hn => ⟨upd_ne fun e => qj (q2 j0 j b pb (e ▸ hx)), hz⟩) (q3 j d v e1 e2)
    · rw [List.getElem?_set_ne q] at he
      obtain ⟨w, h5, h6⟩ := R.val j e he
      refine ⟨w, h5, Ow.keep (fun d v s => s.stp st) _ e w (fo j) (fun x hx hz hn => ⟨upd_ne fun e => q (R.dis i j b pib (e ▸ hx)), hz⟩) h6⟩
  · by_cases e : x = b
    · rw [e]
      exact ⟨_, upd_same, rfl⟩
    · rw [upd_ne e]
      exact R.own x hx
  · by_cases e : x = b
    · rcases (R.sub i b pib).2 with z | z
      · exact absurd (e ▸ z) h4
      · rw [e, z] at h3; cases h3
    · rw [upd_ne e]
      exact R.e1 x o h3 h4
  · by_cases e : x = b
    · rw [e, upd_same] at hx; cases hx
    · rw [upd_ne e] at hx
      exact R.dm x hx
end
section
variable {X : Cx} {c : DC} {rk : Option Nat} {e : Expr} {fe : Ev → Res (D × Ev)} {pos : Pos}
/-- x[k1], the list in it -/
def tIn (i k : Nat) : TE := fun σ H Q => ∃ a vs w, σ[i]? = some (some (.ref a)) ∧ H a = some (.lst vs) ∧ vs[k]? = some w ∧ Q w H
theorem pe_in (i k : Nat) {x : PySem.Str} {px p1 p2 : Pos} {kk} (hN : X.N[i]? = some x := by rfl) (hv : Vis X.env.scope x := by first | exact Or.inl rfl | exact Or.inr (Or.inl rfl) | exact Or.inr (Or.inr rfl)) (hd : (x == ("__debug__" : Str)) = false := by decide)
    (hcd : (x == ("__classdict__" : Str)) = false := by decide) : PE X (.Subscript (.Name x px) (.Constant (.int (k : Int)) kk p1) p2) (tIn i k) := by
  refine PE.imp (pe_ix ix_list (pe_var hN hv hd hcd) pe_int (by intro _ _; rfl)) fun σ H Q ⟨a, vs, w, h1, h2, h3, q⟩ => ?_
  exact ⟨.ref a, h1, a, vs, k, w, rfl, rfl, SqL.of h2, atI_nat h3, q⟩
/-- x[k] = e, x of any level, e no list -/
def sPutO (i k : Nat) (f : Ev → Res (D × Ev)) (ρ : Ev) : Res Fl := (f ρ).bind fun p => if p.1.isL = false then match p.2[i]? with
  | some (some (.lst ds)) => if k < ds.length then .ok (.nx (p.2.set i (some (.lst (ds.set k p.1))))) else .err
  | _ => .err else .err
theorem ds_putO (i k : Nat) {n : Nat} {x : PySem.Str} {kk} {px tpos p1 : Pos} (he : DE X c false false e fe) (hk : c.ks.getD i 0 = n + 1 := by rfl) (hN : X.N[i]? = some x := by rfl) (hv : Vis X.env.scope x := by first | exact Or.inl rfl | exact Or.inr (Or.inl rfl) | exact Or.inr (Or.inr rfl)) (hd : (x == ("__debug__" : Str)) = false := by decide)
    (hcd : (x == ("__classdict__" : Str)) = false := by decide)
    (ha : ∀ v, assign (.Subscript (.Name x px) (.Constant (.int (k : Int)) kk p1) tpos) X.env v = (do
      let ov ← holding [v] (eval (.Name x px) X.env)
      let iv ← holding [v, ov] (eval (.Constant (.int (k : Int)) kk p1) X.env)
      standAt tpos
      holding [v, ov, iv] (setItem ov iv v)
      release [v, ov, iv] []) := by intro _; rfl)
    (hs : swapsWithSole [.Subscript (.Name x px) (.Constant (.int (k : Int)) kk p1) tpos] e pos.line X.env = pure false := by rfl) (hw : swappedStores [.Subscript (.Name x px) (.Constant (.int (k : Int)) kk p1) tpos] e X.env = pure none := by rfl)
    (h1 : (assignEach [.Subscript (.Name x px) (.Constant (.int (k : Int)) kk p1) tpos] X.env).map (·.2) = [assign (.Subscript (.Name x px) (.Constant (.int (k : Int)) kk p1) tpos) X.env] := by rfl) :
    DS X c rk (.Assign [.Subscript (.Name x px) (.Constant (.int (k : Int)) kk p1) tpos] e pos) (sPutO i k fe) := ⟨by
  refine PS.imp (ps_asg he.pe (pg_sub (pe_var hN hv hd hcd) pe_int set_list ha) hs hw h1) fun E σ H ⟨ρ, Z, fo, R, fl, hf, kx⟩ => ?_
  obtain ⟨⟨d1, ρ1⟩, e1, hf⟩ := Res.bind_ok hf
  obtain ⟨hd1, hf⟩ := if_ok' hf
  dsimp only at hf
  split at hf
  · rename_i ds h3
    obtain ⟨hlt, e4⟩ := if_ok hf
    subst e4
    refine ⟨ρ, Z, fo, R, d1, ρ1, e1, fun w H1 Z1 fo1 R1 s1 m1 p1 => ?_⟩
    obtain ⟨a, vs, r1, r2, r3, r4⟩ := R1.mutO hk h3
    obtain ⟨R3, s3⟩ := r4 k d1 w hd1 p1
    refine ⟨_, r1, a, vs, k, k, rfl, rfl, r2, ?_, kx σ _ Z1 fo1 R3 (s1.trans s3)⟩
    unfold ixN
    rw [if_pos (by omega), if_pos (by omega), Int.toNat_natCast]
  · cases hf⟩
/-- x[k1][k2] = e -/
def sPut2 (i k l : Nat) (f : Ev → Res (D × Ev)) (ρ : Ev) : Res Fl := (f ρ).bind fun p => match p.2[i]? with
  | some (some (.lst ds)) => match ds[k]? with
    | some (.lst es) => if l < es.length then .ok (.nx (p.2.set i (some (.lst (ds.set k (.lst (es.set l p.1))))))) else .err
    | _ => .err
  | _ => .err
theorem ds_put2 (i k l : Nat) {x : PySem.Str} {kk kl} {px p0 p1 p2 tpos : Pos} (he : DE X c false false e fe) (hk : c.ks.getD i 0 = 2 := by rfl) (hN : X.N[i]? = some x := by rfl) (hv : Vis X.env.scope x := by first | exact Or.inl rfl | exact Or.inr (Or.inl rfl) | exact Or.inr (Or.inr rfl)) (hd : (x == ("__debug__" : Str)) = false := by decide)
    (hcd : (x == ("__classdict__" : Str)) = false := by decide)
    (ha : ∀ v, assign (.Subscript (.Subscript (.Name x px) (.Constant (.int (k : Int)) kk p0) p2) (.Constant (.int (l : Int)) kl p1) tpos) X.env v = (do
      let ov ← holding [v] (eval (.Subscript (.Name x px) (.Constant (.int (k : Int)) kk p0) p2) X.env)
      let iv ← holding [v, ov] (eval (.Constant (.int (l : Int)) kl p1) X.env)
      standAt tpos
      holding [v, ov, iv] (setItem ov iv v)
      release [v, ov, iv] []) := by intro _; rfl)
    (hs : swapsWithSole [.Subscript (.Subscript (.Name x px) (.Constant (.int (k : Int)) kk p0) p2) (.Constant (.int (l : Int)) kl p1) tpos] e pos.line X.env = pure false := by rfl) (hw : swappedStores [.Subscript (.Subscript (.Name x px) (.Constant (.int (k : Int)) kk p0) p2) (.Constant (.int (l : Int)) kl p1) tpos] e X.env = pure none := by rfl)
    (h1 : (assignEach [.Subscript (.Subscript (.Name x px) (.Constant (.int (k : Int)) kk p0) p2) (.Constant (.int (l : Int)) kl p1) tpos] X.env).map (·.2) = [assign (.Subscript (.Subscript (.Name x px) (.Constant (.int (k : Int)) kk p0) p2) (.Constant (.int (l : Int)) kl p1) tpos) X.env] := by rfl) :
    DS X c rk (.Assign [.Subscript (.Subscript (.Name x px) (.Constant (.int (k : Int)) kk p0) p2) (.Constant (.int (l : Int)) kl p1) tpos] e pos) (sPut2 i k l fe) := ⟨by
  refine PS.imp (ps_asg he.pe (pg_sub (pe_in i k hN hv hd hcd) pe_int set_list ha) hs hw h1) fun E σ H ⟨ρ, Z, fo, R, fl, hf, kx⟩ => ?_
  obtain ⟨⟨d1, ρ1⟩, e1, hf⟩ := Res.bind_ok hf
  dsimp only at hf
  split at hf
  · rename_i ds h3
    split at hf
    · rename_i es h4
      obtain ⟨hlt, e4⟩ := if_ok hf
      subst e4
      refine ⟨ρ, Z, fo, R, d1, ρ1, e1, fun w H1 Z1 fo1 R1 s1 m1 p1 => ?_⟩
      obtain ⟨a, vs, b, ws, r1, r2, r3, r4, r5, r6⟩ := R1.mut2 hk h3 h4
      obtain ⟨R3, s3⟩ := r6 (es.set l d1) (ws.set l w) (r5.set l p1)
      refine ⟨a, vs, _, r1, r2, r3, b, ws, l, l, rfl, rfl, r4, ?_, kx σ _ Z1 fo1 R3 (s1.trans s3)⟩
      have := r5.len
      unfold ixN
      rw [if_pos (by omega), if_pos (by omega), Int.toNat_natCast]
    · cases hf
  · cases hf⟩
/-- x[k1].pop(k2) -/
def dPop2 (i k l : Nat) (ρ : Ev) : Res (D × Ev) := match ρ[i]? with
  | some (some (.lst ds)) => match ds[k]? with
    | some (.lst es) => match es[l]? with
      | some d => .ok (d, ρ.set i (some (.lst (ds.set k (.lst (es.eraseIdx l))))))
      | none => .err
    | _ => .err
  | _ => .err
theorem de_pop2 (i k l : Nat) {x : PySem.Str} {kk kl} {px p1 p2 p3 apos cpos : Pos} (hk : c.ks.getD i 0 = 2 := by rfl) (hN : X.N[i]? = some x := by rfl) (hv : Vis X.env.scope x := by first | exact Or.inl rfl | exact Or.inr (Or.inl rfl) | exact Or.inr (Or.inr rfl)) (hd : (x == ("__debug__" : Str)) = false := by decide)
    (hcd : (x == ("__classdict__" : Str)) = false := by decide) (hsm : l < 1000 := by decide)
    (hbase : attributeBase (.Subscript (.Name x px) (.Constant (.int (k : Int)) kk p1) p2) "pop" X.env (eval (.Subscript (.Name x px) (.Constant (.int (k : Int)) kk p1) p2) X.env) = eval (.Subscript (.Name x px) (.Constant (.int (k : Int)) kk p1) p2) X.env := by rfl)
    (hfew : ((backTo cpos (starEach [.Constant (.int (l : Int)) kl p3] X.env)).all (fun x => !x.1) && (backToKw cpos (keywordEach [] X.env)).all (fun x => x.1.isSome) && decide ([(.Constant (.int (l : Int)) kl p3 : Expr)].length + ([] : List Keyword).length + (if ([] : List Keyword).isEmpty then 0 else 1) < 30)) = true := by rfl)
    (hline : (apos.endLine == cpos.line) = true := by rfl) (hs : starEach [.Constant (.int (l : Int)) kl p3] X.env = (false, eval (.Constant (.int (l : Int)) kl p3) X.env) :: starEach [] X.env := by rfl) (hplain : (backTo cpos (starEach [] X.env)).any (·.1) = false := by rfl) :
    DE X c false false (.Call (.Attribute (.Subscript (.Name x px) (.Constant (.int (k : Int)) kk p1) p2) "pop" apos) [.Constant (.int (l : Int)) kl p3] [] cpos) (dPop2 i k l) := ⟨by
  refine PE.imp (pe_bm PySem.F.plainAttrs_list PySem.F.slot_list_pop PySem.F.type_list_pop mt_popAt (pe_in i k hN hv hd hcd) (pa_cons pe_int pa_nil hs) hbase hfew hline hs hplain) fun σ H Q ⟨ρ, Z, fo, R, d, ρ', hf, kx⟩ => ?_
  unfold dPop2 at hf
  split at hf
  · rename_i ds h0
    split at hf
    · rename_i es h4
      split at hf
      · rename_i d1 h1
        cases hf
        obtain ⟨a, vs, b, ws, r1, r2, r3, r4, r5, r6⟩ := R.mut2 hk h0 h4
        obtain ⟨w, h2, h3⟩ := r5.get h1
        obtain ⟨R2, s2⟩ := r6 (es.eraseIdx l) (ws.eraseIdx l) (r5.erase l)
        have hl : l < ws.length := (List.getElem?_eq_some_iff.mp h2).1
        refine ⟨a, vs, _, r1, r2, r3, .inl ⟨rfl, ws, SqL.of r4⟩, b, ws, l, l, w, rfl, rfl, r4, by omega, by omega, ?_, h2, kx w _ Z fo R2 s2 (fun z => nomatch z) (Sh.stp (s2.s0 R) h3)⟩
        rw [seqIndex_of (by omega) (by omega), Int.toNat_natCast]
      · cases hf
    · cases hf
  · cases hf⟩
end
end DL
/-! enumerate of a list or a tuple -/
namespace DL
open PySem PySem.Spec PyProof.Rows L2
open AutoSeq1 (wpAny_loadPart')
theorem meets_enumT (l : Addr) (items : Array Value) (n : Nat) (dct : Option Addr) (sl : Array (Option Value)) :
    Meets (Builtin.«enumerate.__new__» ⟨[.type "enumerate", .ref l], []⟩) (fun _ R s => s.heap.get? l = some { cls := .type "tuple", dict := dct, data := .seq items n, slots := sl } ∧
      R (.ok (.ret (.ref (s.heap.push { cls := .type "tuple_iterator", data := .fields #[.ref l, .int 0 0] }).objs.size)))
        { s with heap := (s.heap.push { cls := .type "tuple_iterator", data := .fields #[.ref l, .int 0 0] }).push { cls := .type "enumerate", data := .fields #[.none, .bool false, .ref s.heap.objs.size, rawInt 0, .none, .none] } }) :=
  .of_wp fun prog w A R s h => by
    obtain ⟨hp, g, d, tk, os⟩ := s; obtain ⟨hl, h⟩ := h
    have hsub := sub_enumerate
    have hL : Heap.IsTuple (Shared.heap ⟨hp, g, d, tk, os⟩) l items := ⟨_, hl, rfl, n, rfl⟩
    wp_walk using wpAny_loadPart' hl
    refine wpAny_stack_any fun st => wpAny_pure ?_
    split
    · rename_i c _ _ _ _ _
      cases (c == Value.type "enumerate")
      · wp_walk using wpAny_loadPart' hl, wpAny_pyIter_tuple hL
        exact ⟨_, rfl, h⟩
      · wp_walk using wpAny_loadPart' hl, wpAny_pyIter_tuple hL
        exact ⟨_, rfl, h⟩
    · wp_walk using wpAny_loadPart' hl, wpAny_pyIter_tuple hL
      exact ⟨_, rfl, h⟩
theorem call_enumT {prog : Program} {w : World} {A : Around} {E : Value → Shared → Prop} {s : Shared} {l : Addr} {items : Array Value} {Q : Value → Shared → Prop} (hL : s.heap.IsTuple l items)
    (h : ∀ h', IsEnum h' (s.heap.objs.size + 1) s.heap.objs.size 0 .none → h'.IsTupleIter s.heap.objs.size l 0 → h'.objs.size = s.heap.objs.size + 2 →
      (∀ b o, s.heap.get? b = some o → h'.get? b = some o) → Q (.ref (s.heap.objs.size + 1)) { s with heap := h' }) :
    wpAny (model prog w) A (call (.type "enumerate") [.ref l]) Q E s := by
  obtain ⟨⟨c, dct, dt, sl⟩, hl, hc, n, hd⟩ := hL
  replace hc : c = .type "tuple" := hc
  replace hd : dt = .seq items n := hd
  subst hc hd
  refine callType_new F.called_enumerate (by decide) (F.typeCall_enumerate_1 _) (F.newCall_enumerate_1 _) (fun obj => F.args_object_init_2 obj _) F.entry_enumerate_new
    (meets_enumT l items n dct sl) ⟨hl, ?_⟩
  have hz : (s.heap.push { cls := .type "tuple_iterator", data := .fields #[.ref l, .int 0 0] }).objs.size = s.heap.objs.size + 1 := Heap.size_push ..
  show _ ∧ _
  rw [hz]
  have he : IsEnum ((s.heap.push { cls := .type "tuple_iterator", data := .fields #[.ref l, .int 0 0] }).push
      { cls := .type "enumerate", data := .fields #[.none, .bool false, .ref s.heap.objs.size, rawInt 0, .none, .none] }) (s.heap.objs.size + 1) s.heap.objs.size 0 .none := by
    have := Heap.get?_push_size (s.heap.push { cls := .type "tuple_iterator", data := .fields #[.ref l, .int 0 0] })
      (o := { cls := .type "enumerate", data := .fields #[.none, .bool false, .ref s.heap.objs.size, rawInt 0, .none, .none] }) rfl
    rw [hz] at this; exact this
  refine ⟨⟨_, he, rfl⟩, h _ he ⟨_, Heap.get?_push_of_some _ (Heap.get?_push_size _ rfl), rfl, rfl⟩ (by rw [Heap.size_push, hz]) fun b o x => Heap.get?_push_of_some _ (Heap.get?_push_of_some _ x)⟩
theorem draws_tuple {prog : Program} {w : World} {A : Around} (hh : A.handled = none) (it l : Addr) (hne : l ≠ it) (items : Array Value) :
    Draws prog w A it [it, l] items.size (fun i v => items[i]? = some v) (fun i h => h.IsTupleIter it l i ∧ h.IsTuple l items) where
  live := fun _ _ st => let ⟨o, ho, _⟩ := st.1; ⟨o, ho⟩
  frame := fun _ _ _ st hk => ⟨let ⟨o, e, r⟩ := st.1; ⟨o, hk it (by simp) o e, r⟩, let ⟨o, e, r⟩ := st.2; ⟨o, hk l (by simp) o e, r⟩⟩
  item := fun i s Q E hi st hQ => by
    refine RZ.nextOf_tuple_item st.1 st.2 (x := items[i]) (by simp [hi]) fun h' hit' hs' => ?_
    exact hQ _ h' s.toks (by simp [hi]) ⟨hit', st.2.extBut hs'.extBut hne⟩ hs'
  done := fun s Q E st hE => RZ.nextOf_tuple_end hh st.1 st.2 (by simp) hE
/-- the tuple at a, each item in a new pair with its place -/
def IteT (K : PySem.W.Frag) (a : Addr) : It :=
  ⟨fun i H => ∃ (xs : List V) (x : V), SqT K H a xs ∧ xs[i]? = some x, fun i H v H' => ∃ T x, v = .ref T ∧ H T = none ∧ H' = upd H T (.tup [.int (i : Nat), x]) ∧ ∀ xs, SqT K H a xs → xs[i]? = some x, fun i H => ∃ xs : List V, SqT K H a xs ∧ xs.length ≤ i⟩
theorem turn_enumT {P : Program} {w : World} {K : PySem.W.Frag} {elts : List Expr} {kk : Nat} {tpos : Pos} (a e it : Addr) :
    Turn P w K (.Tuple elts kk tpos) (IteT K a) [e, it] e (fun i h => (∃ old, IsEnum h e it ((i : Nat) : Int) old) ∧ h.IsTupleIter it a i ∧ e ≠ it) where
  mem := by simp
  obj := fun i h st b hb => by
    obtain ⟨⟨old, he⟩, ⟨o, ho, hc, hd⟩, _⟩ := st
    have e' : b = e ∨ b = it := by simpa using hb
    rcases e' with z | z
    · rw [z]; exact ⟨_, he, fun v q => nomatch q⟩
    · rw [z]; exact ⟨o, ho, fun v q => by rw [hd] at q; cases q⟩
  keep := fun i h h' st k => let ⟨⟨old, he⟩, ⟨o, ho, r⟩, hne⟩ := st; ⟨⟨old, k e (by simp) _ he⟩, ⟨o, k it (by simp) o ho, r⟩, hne⟩
  item := by
    intro X hP hw hK hc i pins s σ H E I hf st hg
    subst hP hw hK
    obtain ⟨⟨old, he⟩, hit, hne⟩ := st
    obtain ⟨xs, x, hq, hx⟩ := hg
    obtain ⟨its, rv, p, hz⟩ := I.tuple hq
    obtain ⟨u, hu, ru⟩ := rv.get hx
    have hel : e < s.heap.objs.size := Heap.lt_size he
    have hil : it < s.heap.objs.size := by obtain ⟨_, q, _⟩ := hit; exact Heap.lt_size q
    have hTu : s.heap.IsTuple a its.toArray := p
    have hai : a ≠ it := fun z => by
      obtain ⟨o1, q1, q2, _⟩ := hTu
      obtain ⟨o2, q3, q4, _⟩ := hit
      rw [z, q3] at q1
      cases q1
      rw [q4] at q2
      exact absurd (Value.type.inj q2) (by decide)
    have hae : e ∉ [it, a] := fun z => by
      have e' : e = it ∨ e = a := by simpa using z
      rcases e' with z | z
      · exact hne z
      · obtain ⟨o1, q1, q2, _⟩ := hTu
        rw [← z] at q1
        have q5 : s.heap.get? e = some _ := he
        rw [q5] at q1
        cases q1
        exact absurd (Value.type.inj q2) (by decide)
    have hlt : i < its.toArray.size := by
      rw [List.size_toArray]
      exact (List.getElem?_eq_some_iff.mp hu).1
    refine wpAny_pyNext_enum_itemD (draws_tuple (A := X.A.in1) (show X.A.in1.handled = none from I.ok.hd hc) it a hai its.toArray) he ⟨hit, hTu⟩ hlt hne hae fun x' h' tk px ho hst hT hsz hk => ?_
    have ex : x' = u := by
      have px' : its[i]? = some x' := by simpa using px
      rw [hu] at px'
      exact (Option.some.inj px').symm
    subst ex
    refine ⟨_, rfl, wpAny_letOwnedTupleGo_enum (s := { s with heap := h', toks := tk + 1 }) ho fun h'' he' sb => ?_⟩
    have hT2 : h''.get? s.heap.objs.size = some { cls := .type "tuple", data := .seq #[.int i tk, x'] } := (sb.2 _ (Nat.ne_of_gt hel)).trans hT
    have new : ObjOk X.prog X.w (upd H s.heap.objs.size (.tup [.int (i : Nat), x])) h'' s.heap.objs.size (.tup [.int (i : Nat), x]) :=
      ⟨by show 2 ≤ sizeLine; decide, [.int i tk, x'], .cons ⟨_, rfl⟩ (.cons ru .nil), ⟨_, hT2, rfl, _, rfl⟩⟩
    have I1 : Inv X pins σ (upd H s.heap.objs.size (.tup [.int (i : Nat), x])) { s with heap := h'', toks := tk + 1 } :=
      I.turnedNew (ch := [e, it]) (fun b ob hb q => (sb.2 b (fun z => hb (by simp [z]))).trans (hk b ob (fun z => hb (by simp [z])) (fun z => hb (by simp [z])) q)) hf (Nat.le_refl _) new
    refine ⟨.ref s.heap.objs.size, _, I1, rfl, ⟨_, x, rfl, I.hok.fresh (Nat.le_refl _), rfl, fun ys hy => by rw [I.tuple_inj hy hq]; exact hx⟩, ⟨⟨x', ?_⟩, ?_, hne⟩, fun b hb => ?_⟩
    · have e1 : ((i + 1 : Nat) : Int) = (i : Int) + 1 := by omega
      rw [e1]; exact he'
    · obtain ⟨o, q, r⟩ := hst.1
      exact ⟨o, (sb.2 it (Ne.symm hne)).trans q, r⟩
    · have hb' : b < s.heap.objs.size := by
        have e' : b = e ∨ b = it := by simpa using hb
        rcases e' with z | z
        · rw [z]; exact hel
        · rw [z]; exact hil
      rw [upd_ne (Nat.ne_of_lt hb')]
      exact (hf b hb).1
  done := by
    intro X hP hw hK hc i pins s σ H E I hf st hg
    subst hP hw hK
    obtain ⟨⟨old, he⟩, hit, hne⟩ := st
    obtain ⟨xs, hq, hx⟩ := hg
    obtain ⟨its, rv, p, hz⟩ := I.tuple hq
    obtain ⟨f0, f1, f2, f3, f4, f5⟩ := hf it (by simp)
    have hl := rv.length
    have hTu : s.heap.IsTuple a its.toArray := p
    have hT : s.TypeIs (.ref e) "enumerate" := ⟨_, he, rfl⟩
    unfold pyNext
    refine wpAny_bind (wpAny_attempt (wpAny_callSpecial?_slot (name := Str.ofString "__next__") hT F.slot_enumerate_next
      (wpAny_call_entry F.slot_enumerate_next hT F.entry_enumerate_next ?_ (F.args_enumerate_next_1 _))))
    show wpAny _ _ (field (.ref e) 2 >>= _) _ _ _
    refine wpAny_bind (wpAny_field he rfl (x := .ref it) rfl ?_)
    refine wpAny_bind (RZ.nextOf_tuple_end (I.ok.hd hc) hit hTu (by simp; omega) fun h' x he' hx' => ?_)
    obtain ⟨o, ho, hc'⟩ := hx'
    refine wpAny_bind (wpAny_isInstance (T := "StopIteration") (b := true) ⟨o, ho, hc'⟩ isSubtype_stop ?_)
    exact wpAny_pure ⟨rfl, I.turned (t' := s.toks) (fun b o hb q => he' b o hb q) f0 f1 f3 f4 f5⟩
  self := fun A i s Q E st h => let ⟨⟨_, he⟩, _⟩ := st; wpAny_pyIter_enum he h
end DL
/-! enumerate: the rule; all and any of tuples; names of the top; keywords -/
namespace DL
open PySem PySem.Spec PyProof.Rows L2
section
variable {X : Cx} {c : DC} {q b : Bool} {tg e a : Expr} {fe fa fb : Ev → Res (D × Ev)} {pos p : Pos} {K : PySem.W.Frag}
def dEnum (f : Ev → Res (List D × Ev)) (ρ : Ev) : Res (List D × Ev) := (f ρ).bind fun p => match p.1 with
  | [d] => match seqOf d with
    | some xs => .ok (enumD xs, p.2)
    | none => .err
  | _ => .err
theorem enum_at {ds : List D} {i : Nat} {d : D} (h : ds[i]? = some d) : (enumD ds)[i]? = some (.tup [.int (i : Nat), d]) := by
  unfold enumD
  rw [List.getElem?_map, List.getElem?_zipIdx, h, Nat.zero_add]
  rfl
theorem enum_len {ds : List D} : (enumD ds).length = ds.length := by
  unfold enumD
  rw [List.length_map, List.length_zipIdx]
theorem walk_enumT {a : Addr} {xs : List V} : L2.Walk (IteT K a) xs.length (fun H => SqT K H a xs) (YPair (fun i => some (.int (i : Nat))) (fun i => xs[i]?)) := by
  refine ⟨fun i _ hi q => ⟨xs, xs[i], q, by simp [hi]⟩, fun _ q => ⟨xs, q, Nat.le_refl _⟩, fun i H v H' _ q y => ?_⟩
  obtain ⟨T, x, h1, h2, h3, h4⟩ := y
  exact ⟨T, .int (i : Nat), x, h1, h2, h3, rfl, h4 xs q⟩
theorem ItR.enumT {Z : AP} {H : Hp} {a : Addr} {vs : List V} {ds : List D} (r : RdT K Z H a vs) (s : Shs K Z H ds vs) : ItR K Z H (IteT K a) (enumD ds) := by
  refine ⟨_, _, by rw [enum_len, s.len]; exact walk_enumT (xs := vs), fun Z1 H1 st => (r.stp st).sq, fun i Z1 H1 x H2 hi st hz y => ?_⟩
  obtain ⟨T, x1, x2, rfl, nT, rfl, g1, g2⟩ := y
  cases g1
  obtain ⟨d, h1, h2⟩ := (Shs.stp st s).getV g2
  exact ⟨same_upd nT, _, enum_at h1, Sh.pair nT hz rfl h2⟩
theorem ItR.enumL {Z : AP} {H : Hp} {a : Addr} {vs : List V} {ds : List D} (r : RdL K Z H a vs) (s : Shs K Z H ds vs) : ItR K Z H (Ite K a) (enumD ds) := by
  refine ⟨_, _, by rw [enum_len, s.len]; exact walk_enum (xs := vs), fun Z1 H1 st => (r.stp st).sq, fun i Z1 H1 x H2 hi st hz y => ?_⟩
  obtain ⟨T, x1, x2, rfl, nT, rfl, g1, g2⟩ := y
  cases g1
  obtain ⟨d, h1, h2⟩ := (Shs.stp st s).getV g2
  exact ⟨same_upd nT, _, enum_at h1, Sh.pair nT hz rfl h2⟩
theorem di_enum {elts : List Expr} {kk : Nat} {tpos : Pos} {f : Ev → Res (List D × Ev)} (hm : X.mg "enumerate" = none) (ha : DAs X c false false [e] f) (hg : Gl X "enumerate" := by rfl) (hs : starEach [e] X.env = [(false, eval e X.env)] := by rfl) :
    DI X c (.Tuple elts kk tpos) (.Call (.Name "enumerate" p) [e] [] pos) (dEnum f) := by
  refine ⟨⟨fun pins s σ H R I h => ?_⟩⟩
  obtain ⟨ρ, Z, fo, RR, ds, ρ', hf, k⟩ := h
  obtain ⟨⟨d1, ρ1⟩, e1, hf⟩ := Res.bind_ok hf
  have hw : tDs c X.K false false 1 f σ H (fun vs H1 => ∃ a, vs = [.ref a] ∧ ((∃ xs, SqL X.K H1 a xs) ∧ R (Ite X.K a) H1 ∨ (∃ xs, SqT X.K H1 a xs) ∧ R (IteT X.K a) H1)) := by
    refine ⟨ρ, Z, fo, RR, d1, ρ1, e1, fun vs H1 Z1 fo1 R1 s1 m1 l1 p1 => ?_⟩
    match d1, hf, p1 with
    | [], hf, _ => cases hf
    | _ :: _ :: _, hf, _ => cases hf
    | [d], hf, p1 =>
      obtain ⟨v, r, rfl, q1, q2⟩ := p1
      have er : r = [] := q2
      subst er
      cases d with
      | tup es =>
        cases hf
        obtain ⟨a, us, rfl, r, s⟩ := q1
        exact ⟨a, rfl, .inr ⟨⟨us, r.sq⟩, k _ H1 Z1 fo1 R1 s1 (ItR.enumT r s)⟩⟩
      | lst es =>
        cases hf
        obtain ⟨a, us, rfl, r, s⟩ := q1
        exact ⟨a, rfl, .inl ⟨⟨us, r.sq⟩, k _ H1 Z1 fo1 R1 s1 (ItR.enumL r s)⟩⟩
      | _ => cases hf
  refine Call_ (ld_blt I hg hm boot_enumerate (PyProof.Rows.callWith_type1 (thn (ha.pa.run pos pins s σ H _ I hw) fun us s1 ⟨vs, H1, I1, r1, q1⟩ => ?_) hs rfl))
  obtain ⟨a, ex, q1⟩ := q1
  subst ex
  cases r1 with
  | cons r rr =>
    cases rr
    cases r
    have fin : ∀ b, (b = s1.heap.objs.size + 1 ∨ b = s1.heap.objs.size) → FpOk X pins H1 b := fun b e' => by
      have hle : s1.heap.objs.size ≤ b := by
        rcases e' with z | z
        · rw [z]; exact Nat.le_add_right _ _
        · rw [z]; exact Nat.le_refl _
      exact I1.fpOk hle (I1.hok.fresh hle)
    rcases q1 with ⟨⟨xs, hq⟩, qq⟩ | ⟨⟨xs, hq⟩, qq⟩
    · obtain ⟨its, rv, p', hz⟩ := I1.list hq
      refine call_enumerate_list p'.isList fun h' he hit hsz hk => wpAny_pyIter_enum he ?_
      have I2 : Inv X pins σ H1 { s1 with heap := h' } := I1.kept (t' := s1.toks) hk
      exact ⟨s1.heap.objs.size + 1, [s1.heap.objs.size + 1, s1.heap.objs.size], _, _, H1, rfl, I2, turn_enum a (s1.heap.objs.size + 1) s1.heap.objs.size, ⟨⟨.none, he⟩, hit, Nat.succ_ne_self _⟩, fun b hb => fin b (by simpa using hb), qq⟩
    · obtain ⟨its, rv, p', hz⟩ := I1.tuple hq
      refine call_enumT (show s1.heap.IsTuple a its.toArray from p') fun h' he hit hsz hk => wpAny_pyIter_enum he ?_
      have I2 : Inv X pins σ H1 { s1 with heap := h' } := I1.kept (t' := s1.toks) hk
      exact ⟨s1.heap.objs.size + 1, [s1.heap.objs.size + 1, s1.heap.objs.size], _, _, H1, rfl, I2, turn_enumT a (s1.heap.objs.size + 1) s1.heap.objs.size, ⟨⟨.none, he⟩, hit, Nat.succ_ne_self _⟩, fun b hb => fin b (by simpa using hb), qq⟩
end
end DL
/-! all and any of tuples; constants of the top; defs held by slots; calls by keywords alone; no fuel -/
namespace DL
open PySem PySem.Spec PyProof.Rows L2
theorem iter_anyT {prog : Program} {w : World} {A : Around} {E : Value → Shared → Prop} {s : Shared} {l : Addr} {items : Array Value} {Q : Value → Shared → Prop} (hl : s.heap.IsTuple l items)
    (h : ∀ s₂ : Shared, s₂ = { s with heap := s.heap.push { cls := .type "tuple_iterator", data := .fields #[.ref l, .int 0 0] } } →
      (s₂.heap.IsTupleIter s.heap.objs.size l 0 ∧ s₂.heap.IsTuple l items) → l ≠ s.heap.objs.size → Q (.ref s.heap.objs.size) s₂) : wpAny (model prog w) A (pyIter (.ref l)) Q E s := by
  have hlt : l < s.heap.objs.size := by obtain ⟨_, e, _⟩ := hl; exact Heap.lt_size e
  exact wpAny_pyIter_tuple hl (h _ rfl ⟨⟨_, Heap.get?_push_size _ rfl, rfl, rfl⟩, hl.push _⟩ (Nat.ne_of_lt hlt))
section
variable {X : Cx}
def rAnyT (K : PySem.W.Frag) : List V → Hp → VK → Prop := fun vs H Q => ∃ (a : Addr) (bs : List Bool), vs = [V.ref a] ∧ SqT K H a (bs.map V.bl) ∧ Q (.bl (bs.any id)) H
def rAllT (K : PySem.W.Frag) : List V → Hp → VK → Prop := fun vs H Q => ∃ (a : Addr) (bs : List Bool), vs = [V.ref a] ∧ SqT K H a (bs.map V.bl) ∧ Q (.bl (bs.all id)) H
theorem cr_anyT (hc : X.calm = true) : CallR X (.builtin "any") (rAnyT X.K) := by
  intro pins s σ H vs us Q I r h
  obtain ⟨a, bs, rfl, hs, q⟩ := h
  obtain ⟨its, rv, hl, _⟩ := I.tuple hs
  rw [Vals.ref1 r]
  have hb := rv.bls
  refine call_any_walk (iter_anyT (show s.heap.IsTuple a its.toArray from hl) fun s₂ e2 st hne => ?_)
  subst e2
  refine ⟨_, _, _, _, _, _, _, rfl, Walks.tuple (A := X.A.in1) (I.ok.hd hc) _ a hne its.toArray, st, truth_bools hb, fun h' tk hk => ?_⟩
  refine ⟨.bl _, H, I.kept fun b o eo => hk b o (fun hmem => ?_) (Heap.get?_push_of_some _ eo), ?_, q⟩
  · rcases List.mem_cons.mp hmem with e1 | hmem
    · exact absurd (e1 ▸ Heap.lt_size eo) (Nat.lt_irrefl _)
    · cases hmem
  · show Value.bool _ = Value.bool _
    rw [← L2.any_range, hb, List.size_toArray, List.length_map]
theorem cr_allT (hc : X.calm = true) : CallR X (.builtin "all") (rAllT X.K) := by
  intro pins s σ H vs us Q I r h
  obtain ⟨a, bs, rfl, hs, q⟩ := h
  obtain ⟨its, rv, hl, _⟩ := I.tuple hs
  rw [Vals.ref1 r]
  have hb := rv.bls
  refine call_all_walk (iter_anyT (show s.heap.IsTuple a its.toArray from hl) fun s₂ e2 st hne => ?_)
  subst e2
  refine ⟨_, _, _, _, _, _, _, rfl, Walks.tuple (A := X.A.in1) (I.ok.hd hc) _ a hne its.toArray, st, truth_bools hb, fun h' tk hk => ?_⟩
  refine ⟨.bl _, H, I.kept fun b o eo => hk b o (fun hmem => ?_) (Heap.get?_push_of_some _ eo), ?_, q⟩
  · rcases List.mem_cons.mp hmem with e1 | hmem
    · exact absurd (e1 ▸ Heap.lt_size eo) (Nat.lt_irrefl _)
    · cases hmem
  · show Value.bool _ = Value.bool _
    rw [← L2.all_range, hb, List.size_toArray, List.length_map]
def gAnyA : List D → Res D
  | [.lst ds] => gAny [.lst ds]
  | [.tup ds] => match bools? ds with
    | some bs => .ok (.bl (bs.any id))
    | none => .err
  | _ => .err
def gAllA : List D → Res D
  | [.lst ds] => gAll [.lst ds]
  | [.tup ds] => match bools? ds with
    | some bs => .ok (.bl (bs.all id))
    | none => .err
  | _ => .err
theorem cr_anyA (hc : X.calm = true) : CallR X (.builtin "any") (fun vs H Q => rAny X.K vs H Q ∨ rAnyT X.K vs H Q) := (cr_any hc).or (cr_anyT hc)
theorem cr_allA (hc : X.calm = true) : CallR X (.builtin "all") (fun vs H Q => rAll X.K vs H Q ∨ rAllT X.K vs H Q) := (cr_all hc).or (cr_allT hc)
theorem c_anyA {K : PySem.W.Frag} : CallD K (fun vs H Q => rAny K vs H Q ∨ rAnyT K vs H Q) gAnyA := by
  intro Z H ds z xs Q hz hx hg k
  unfold gAnyA at hg
  split at hg
  · exact .inl (c_any Z H _ z xs Q hz hx hg k)
  · obtain ⟨x, rfl, a, vs, rfl, r, s⟩ := shs1 hx
    split at hg
    · rename_i bs hb
      cases hg
      have e := bools?_ok s hb
      subst e
      exact .inr ⟨a, bs, rfl, r.sq, k _ H (Same.refl H) rfl⟩
    · cases hg
  · cases hg
theorem c_allA {K : PySem.W.Frag} : CallD K (fun vs H Q => rAll K vs H Q ∨ rAllT K vs H Q) gAllA := by
  intro Z H ds z xs Q hz hx hg k
  unfold gAllA at hg
  split at hg
  · exact .inl (c_all Z H _ z xs Q hz hx hg k)
  · obtain ⟨x, rfl, a, vs, rfl, r, s⟩ := shs1 hx
    split at hg
    · rename_i bs hb
      cases hg
      have e := bools?_ok s hb
      subst e
      exact .inr ⟨a, bs, rfl, r.sq, k _ H (Same.refl H) rfl⟩
    · cases hg
  · cases hg
end
section
variable {X : Cx} {c : DC} {q b : Bool}
/-! what the top holds -/
theorem de_top {x : PySem.Str} {pos : Pos} {d : D} {v : V} (hm : ∃ u, X.mg x = some u ∧ RelV v u) (hs : ∀ K Z H, Sh K Z H d v := by intro _ _ _; rfl) (hg : Gl X x := by rfl) (hd : (x == ("__debug__" : Str)) = false := by decide) : DE X c q b (.Name x pos) (dConst d) := by
  obtain ⟨u, h1, h2⟩ := hm
  exact de_const (pe_glob hg h1 h2 hd) hs
/-- the def's address, 0 if there is none -/
def adOf (mg : PySem.Str → Option Value) (x : PySem.Str) : Addr := match mg x with
  | some (.ref a) => a
  | _ => 0
/-- a def at an address -/
structure DAt (P : Program) (w : World) (K : PySem.W.Frag) (mg : PySem.Str → Option Value) (base : Heap) (k : Nat) (f : Addr) (ks : List Nat) (F : Fn) : Prop where
  ex : ∃ (fd : FuncData) (ps : List PySem.Str), PySem.W.keepIn K (.ref f) = true ∧ Binds K fd ps [] ∧ FnOk P w K mg base CX0 k f fd ps (spD K ks none F)
theorem DFn.at {P : Program} {w : World} {K : PySem.W.Frag} {mg : PySem.Str → Option Value} {base : Heap} {k : Nat} {x : PySem.Str} {ks : List Nat} {F : Fn} (h : DFn P w K mg base k x ks none F) : DAt P w K mg base k (adOf mg x) ks F := by
  obtain ⟨f, fd, ps, h1, h2, h3, h4⟩ := h.ex
  have e : adOf mg x = f := by
    unfold adOf
    rw [h1]
  rw [e]
  exact ⟨fd, ps, h2, h3, h4⟩
theorem DFn.ad {P : Program} {w : World} {K : PySem.W.Frag} {mg : PySem.Str → Option Value} {base : Heap} {k : Nat} {x : PySem.Str} {ks : List Nat} {rk : Option Nat} {F : Fn} (h : DFn P w K mg base k x ks rk F) : ∃ u, mg x = some u ∧ RelV (.ref (adOf mg x)) u := by
  obtain ⟨f, fd, ps, h1, h2, h3, h4⟩ := h.ex
  have e : adOf mg x = f := by
    unfold adOf
    rw [h1]
  rw [e]
  exact ⟨_, h1, rfl⟩
theorem DAt.mono {P : Program} {w : World} {K : PySem.W.Frag} {mg : PySem.Str → Option Value} {base : Heap} {j k : Nat} {f : Addr} {ks : List Nat} {F : Fn} (h : DAt P w K mg base j f ks F) (hj : j ≤ k) : DAt P w K mg base k f ks F := by
  obtain ⟨fd, ps, h2, h3, h4⟩ := h.ex
  exact ⟨fd, ps, h2, h3, h4.mono hj⟩
/-- the def that slot i holds, known to be the one at f, called -/
def dCallL (i : Nat) (f : Addr) (as : List AK) (F : Fn) (g : Ev → Res (List (Option D) × Ev)) (ρ : Ev) : Res (D × Ev) := match ρ[i]? with
  | some (some (.fn a)) => if a = f then dCall as F g ρ else .err
  | _ => .err
theorem de_callL (i : Nat) {k j : Nat} {x : PySem.Str} {f : Addr} {p pos : Pos} {e : Expr} {es : List Expr} {ks : List Nat} {F : Fn} {as : List AK} {g : Ev → Res (List (Option D) × Ev)} (G : DAt X.prog X.w X.K X.mg X.base j f ks F) (hr : Room k X.A) (hj : j ≤ k) (ha : DA X c (e :: es) as g) (hks : ksOf c.ks as = ks := by rfl) (nd : (ios as).Nodup := by decide) (h0 : ((ios as).all fun i => c.ks.getD i 0 != 0) = true := by rfl)
    (hk0 : c.ks.getD i 0 = 0 := by rfl) (hN : X.N[i]? = some x := by rfl) (hv : Vis X.env.scope x := by first | exact Or.inl rfl | exact Or.inr (Or.inl rfl) | exact Or.inr (Or.inr rfl)) (hdb : (x == ("__debug__" : Str)) = false := by decide) (hcd : (x == ("__classdict__" : Str)) = false := by decide)
    (he : starEach (e :: es) X.env = (false, eval e X.env) :: starEach es X.env := by rfl) (hpl : (backTo pos (starEach es X.env)).any (·.1) = false := by rfl) :
    DE X c false false (.Call (.Name x p) (e :: es) [] pos) (dCallL i f as F g) := ⟨by
  obtain ⟨fd, ps, h2, h3, h4⟩ := G.ex
  refine PE.imp (pe_callL h4 (hr.mono hj) hN hv h2 h3 .nil pass0 ha.pa hdb hcd he hpl) fun σ H Q ⟨ρ, Z, fo, R, d, ρ', hf, q⟩ => ?_
  unfold dCallL at hf
  split at hf
  · rename_i a h5
    obtain ⟨ea, hf2⟩ := if_ok' hf
    subst ea
    obtain ⟨v, q1, q2⟩ := R.val i _ h5
    rw [hk0] at q2
    have q2' : v = .ref a := q2
    subst q2'
    exact ⟨q1, call_read hks nd (allN h0) ⟨ρ, Z, fo, R, d, ρ', hf2, fun v H' Z' fo' R' s' r' => q v H' Z' fo' R' s' (fun z => nomatch z) r'⟩⟩
  · cases hf⟩
/-! by keywords alone -/
def allKw (us ws : List α) : List α := match us with
  | [] => ws
  | _ => []
theorem kb_all {K : PySem.W.Frag} {fd : FuncData} {ps : List PySem.Str} (hn : ps ≠ []) (h : ∀ ws : List Value, ws.length = ps.length → bindArgs fd ⟨[], ps.zip ws⟩ = pure (ps.zip ws)) : KBinds K fd ps ps allKw allKw where
  to := fun s us ws _ hl => by
    cases us with
    | nil => exact .of_eq (h ws hl)
    | cons u us => exact absurd (List.length_eq_zero_iff.mp hl.symm) hn
  rel := fun {vs us zs ws} r rz => by
    cases r with
    | nil => exact rz
    | cons _ _ => exact .nil
theorem pe_callK0 {CX : CXT} {k : Nat} {f : Addr} {fd : FuncData} {ps ks : List PySem.Str} {sp : Sp} {E : XK} {x : PySem.Str} {p pos : Pos} {kws : List Keyword} {tk : TA} {g : List Value → List Value → List Value} {gV : List V → List V → List V} (F : FnOk X.prog X.w X.K X.mg X.base CX k f fd ps sp) (hr : Room k X.A) (hg : Gl X x) (hm : X.mg x = some (.ref f)) (hk : PySem.W.keepIn X.K (.ref f) = true) (hb : KBinds X.K fd ps ks g gV) (hx : Passes CX X E)
    (hkw : PK X kws tk) (hall : (backToKw pos (keywordEach kws X.env)).all (·.1.isSome) = true) (hks : (backToKw pos (keywordEach kws X.env)).filterMap (·.1) = ks)
    (hdb : (x == ("__debug__" : Str)) = false) (hpl : ((backTo pos (starEach [] X.env)).any (·.1) || (backToKw pos (keywordEach kws X.env)).any (·.1.isNone)) = false) :
    PE X (.Call (.Name x p) [] kws pos) (tCallK sp gV E tNil tk) := by
  refine ⟨fun pins s σ H Q I h => ?_⟩
  refine wpAny_Call_Name_kw (ld_glob I hg hm ?_ hdb)
  refine PySem.W.callWith_KW0 (h₀ := X.base) I.ok.mod.kin hk hall (thn (hkw.run pos pins s σ H _ I h) fun ws s2 ⟨zs, H2, I2, rz, q2⟩ => ⟨I2.kIn, ?_⟩) hpl
  rw [hks]
  exact run_fnk F hr hb hx I2 .nil rz q2
/-- keywords' values, read as arguments -/
structure DK (X : Cx) (c : DC) (kws : List Keyword) (as : List AK) (f : Ev → Res (List (Option D) × Ev)) : Prop where
  pk : PK X kws (tArgs c X.K as f)
theorem PK.imp {kws : List Keyword} {t u : TA} (h : PK X kws t) (k : ∀ σ H Q, u σ H Q → t σ H Q) : PK X kws u := ⟨fun pos pins s σ H Q I q => h.run pos pins s σ H Q I (k _ _ _ q)⟩
theorem dk_nil : DK X c [] [] aNil := ⟨by
  refine PK.imp pk_nil fun σ H Q ⟨ρ, Z, fo, R, ds, ρ', hf, k⟩ => ?_
  cases hf
  exact k [] H Z fo R Stp.refl True.intro⟩
theorem dk_s {nm : Option PySem.Str} {kpos : Pos} {e : Expr} {kws : List Keyword} {as : List AK} {f : Ev → Res (D × Ev)} {g : Ev → Res (List (Option D) × Ev)} (ha : DE X c false false e f) (hr : DK X c kws as g) : DK X c (⟨nm, e, kpos⟩ :: kws) (.s :: as) (aS f g) := ⟨by
  refine PK.imp (pk_cons ha.pe hr.pk) fun σ H Q ⟨ρ, Z, fo, R, ds, ρ', hf, k⟩ => ?_
  obtain ⟨⟨d1, ρ1⟩, h1, hf⟩ := Res.bind_ok hf
  obtain ⟨⟨d2, ρ2⟩, h2, hf⟩ := Res.bind_ok hf
  cases hf
  refine ⟨ρ, Z, fo, R, d1, ρ1, h1, fun x H1 Z1 fo1 R1 s1 m1 p1 => ⟨ρ1, Z1, fo1, R1, d2, ρ2, h2, fun xs H2 Z2 fo2 R2 s2 p2 => ?_⟩⟩
  exact k (x :: xs) H2 Z2 fo2 R2 (s1.trans s2) ⟨Sh.stp (s2.s0 R1) p1, p2⟩⟩
structure DKw (P : Program) (w : World) (K : PySem.W.Frag) (mg : PySem.Str → Option Value) (base : Heap) (k : Nat) (x : PySem.Str) (ps : List PySem.Str) (ks : List Nat) (F : Fn) : Prop where
  ex : ∃ (f : Addr) (fd : FuncData), mg x = some (.ref f) ∧ PySem.W.keepIn K (.ref f) = true ∧ KBinds K fd ps ps allKw allKw ∧ FnOk P w K mg base CX0 k f fd ps (spD K ks none F)
theorem dkw {P : Program} {w : World} {K : PySem.W.Frag} {mg : PySem.Str → Option Value} {base : Heap} {x : PySem.Str} {st : Stmt} {ps : List PySem.Str} {k : Nat} {ks : List Nat} {F : Fn} (h : Src K mg x st ps) (hF : ∀ f fd, Fun K x x st f fd → FnOk P w K mg base CX0 k f fd ps (spD K ks none F))
    (hb : ∀ (kV doc pm : Value) (an : Option Addr) (cdv ct : Value) (ws : List Value), ws.length = ps.length → bindArgs (PySem.W.fnOf x x (defArgs st) (defBody st) (defScope st) .none kV doc pm an cdv ct) ⟨[], ps.zip ws⟩ = pure (ps.zip ws)) (hn : ps ≠ [] := by decide) : DKw P w K mg base k x ps ks F := by
  obtain ⟨f, fd, h1, h2, h3⟩ := h
  have h4 := hF f fd h2
  obtain ⟨oc, od, kV, doc, pm, an, cdv, ct, osl, e, _, _⟩ := h2.ex
  refine ⟨f, fd, h1, h2.kp, kb_all hn fun ws hl => ?_, h4⟩
  rw [e]
  exact hb kV doc pm an cdv ct ws hl
theorem de_callK0 {k j : Nat} {x : PySem.Str} {ps : List PySem.Str} {p pos : Pos} {kws : List Keyword} {ks : List Nat} {F : Fn} {as : List AK} {g : Ev → Res (List (Option D) × Ev)} (G : DKw X.prog X.w X.K X.mg X.base j x ps ks F) (hr : Room k X.A) (hj : j ≤ k) (ha : DK X c kws as g) (hksk : (backToKw pos (keywordEach kws X.env)).filterMap (·.1) = ps := by rfl) (hks : ksOf c.ks as = ks := by rfl) (nd : (ios as).Nodup := by decide) (h0 : ((ios as).all fun i => c.ks.getD i 0 != 0) = true := by rfl)
    (hg : Gl X x := by rfl) (hdb : (x == ("__debug__" : Str)) = false := by decide) (hall : (backToKw pos (keywordEach kws X.env)).all (·.1.isSome) = true := by rfl) (hpl : ((backTo pos (starEach [] X.env)).any (·.1) || (backToKw pos (keywordEach kws X.env)).any (·.1.isNone)) = false := by rfl) :
    DE X c false false (.Call (.Name x p) [] kws pos) (dCall as F g) := ⟨by
  obtain ⟨f, fd, h1, h2, h3, h4⟩ := G.ex
  refine PE.imp (pe_callK0 h4 (hr.mono hj) hg h1 h2 h3 pass0 ha.pk hall hksk hdb hpl) fun σ H Q ⟨ρ, Z, fo, R, d, ρ', hf, q⟩ => ?_
  have z := call_read (rk := none) hks nd (allN h0) ⟨ρ, Z, fo, R, d, ρ', hf, fun v H' Z' fo' R' s' r' => q v H' Z' fo' R' s' (fun z => nomatch z) r'⟩
  have e0 : (fun (vs : List V) (H1 : Hp) => spD X.K ks none F (vs ++ []) H1 Q E0) = fun vs H1 => spD X.K ks none F vs H1 Q E0 := by
    funext vs H1
    rw [List.append_nil]
  have z2 : tArgs c X.K as g σ H (fun (vs : List V) (H1 : Hp) => spD X.K ks none F (vs ++ []) H1 Q E0) := z
  rw [e0] at z2
  exact z2⟩
theorem d_err {P : Program} {w : World} {K : PySem.W.Frag} {mg : PySem.Str → Option Value} {base : Heap} {x : PySem.Str} {st : Stmt} {ps : List PySem.Str} {k : Nat} {ks : List Nat} {rk : Option Nat} (h : Src K mg x st ps) (hl : ks.length = ps.length := by rfl) : DFn P w K mg base k x ks rk (fun _ => .err) := by
  obtain ⟨f, fd, h1, h2, h3⟩ := h
  refine ⟨f, fd, ps, h1, h2.kp, .all h3, ⟨fun vs H Q E ⟨ds, Z, fo, l, _⟩ => by rw [l, hl], fun A outer s H args us vs Q E _ _ _ _ hs => ?_⟩⟩
  obtain ⟨ds, Z, fo, _, _, _, _, _, _, d, ds', hf, _⟩ := hs
  cases hf
end
end DL
/-! a new list of lists of one's own -/
namespace DL
open PySem PySem.Spec PyProof.Rows L2
structure FrRs (c : DC) (K : PySem.W.Frag) (fo0 : Nat → AP) (H0 : Hp) (fo : Nat → AP) (Z : AP) (H : Hp) (n : Nat) (ds : List D) (vs : List V) : Prop where
  ex : ∃ Q : Nat → AP, ds.length = vs.length ∧ (∀ i d v, ds[i]? = some d → vs[i]? = some v → Ow K Z H n d v (Q i)) ∧ (∀ i b, Q i b → Z b ∧ (c.M b ∨ c.Hi b = none)) ∧ (∀ i j b, Q i b → Q j b → i = j) ∧ (∀ i j b, Q i b → ¬ fo j b) ∧ ∀ i b, Q i b → (∃ j, fo0 j b) ∨ H0 b = none
def tIs (c : DC) (K : PySem.W.Frag) (n l : Nat) (f : Ev → Res (List D × Ev)) : TA := fun σ H Q => ∃ ρ Z fo, RS c K ρ Z σ H fo ∧ ∃ ds ρ', f ρ = .ok (ds, ρ') ∧
  ∀ vs H' Z' fo', RS c K ρ' Z' σ H' fo' → Stp fo Z H fo' Z' H' → vs.length = l → FrRs c K fo H fo' Z' H' n ds vs → Q vs H'
structure DIs (X : Cx) (c : DC) (n : Nat) (es : List Expr) (f : Ev → Res (List D × Ev)) : Prop where
  pa : PA X es (tIs c X.K n es.length f)
section
variable {X : Cx} {c : DC} {n : Nat} {a : Expr} {es : List Expr} {pos : Pos}
theorem dis_nil : DIs X c n [] dNil := ⟨by
  refine PA.imp pa_nil fun σ H Q ⟨ρ, Z, fo, R, ds, ρ', hf, k⟩ => ?_
  cases hf
  exact k [] H Z fo R Stp.refl rfl ⟨fun _ _ => False, rfl, fun i d v h => by simp at h, fun _ _ z => z.elim, fun _ _ _ z => z.elim, fun _ _ _ z => z.elim, fun _ _ z => z.elim⟩⟩
/-- an item of its own -/
theorem dis_f {f : Ev → Res (D × Ev)} {g : Ev → Res (List D × Ev)} (ha : DF X c n a f) (hr : DIs X c (n + 1) es g)
    (hs : starEach (a :: es) X.env = (false, eval a X.env) :: starEach es X.env := by rfl) : DIs X c (n + 1) (a :: es) (dCons f g) := ⟨by
  refine PA.imp (pa_cons ha.pe hr.pa hs) fun σ H Q ⟨ρ, Z, fo, R, ds, ρ', hf, k⟩ => ?_
  obtain ⟨⟨d1, ρ1⟩, h1, hf⟩ := Res.bind_ok hf
  obtain ⟨⟨d2, ρ2⟩, h2, hf⟩ := Res.bind_ok hf
  cases hf
  refine ⟨ρ, Z, fo, R, d1, ρ1, h1, fun x H1 Z1 fo1 R1 s1 p1 => ⟨ρ1, Z1, fo1, R1, d2, ρ2, h2, fun xs H2 Z2 fo2 R2 s2 l2 p2 => ?_⟩⟩
  obtain ⟨P, a1, a2, a3, a4⟩ := p1.ex
  obtain ⟨Q2, b0, b1, b2, b3, b4, b5⟩ := p2.ex
  have hn1 : ∀ b, P b → H1 b ≠ none := fun b hb => R1.ownN b (a2 b hb).1
  have hp2 : ∀ i b, Q2 i b → ¬ P b := fun i b hb hp => by
    rcases b5 i b hb with ⟨j, hj⟩ | z
    · exact a3 j b hp hj
    · exact hn1 b hp z
  refine k (x :: xs) H2 Z2 fo2 R2 (s1.trans s2) (by rw [List.length_cons, List.length_cons, l2]) ⟨fun i => match i with
    | 0 => P
    | i + 1 => Q2 i, by rw [List.length_cons, List.length_cons, b0], fun i d v e1 e2 => ?_, fun i b hb => ?_, fun i j b hi hj => ?_, fun i j b hi => ?_, fun i b hb => ?_⟩
  · cases i with
    | zero =>
      cases e1
      cases e2
      refine Ow.keep (fun d v s => s.stp (s2.s0 R1)) _ d1 x P (fun b hb hz hn => ⟨?_, s2.k3 b hz hn fun i z => a3 i b hb z⟩) a1
      cases e : H1 b with
      | none => exact absurd e hn
      | some o => exact s2.k1 b o e fun i z => a3 i b hb z
    | succ i => exact b1 i d v (by simpa using e1) (by simpa using e2)
  · cases i with
    | zero => exact ⟨s2.k3 b (a2 b hb).1 (hn1 b hb) fun i z => a3 i b hb z, (a2 b hb).2⟩
    | succ i => exact b2 i b hb
  · cases i with
    | zero =>
      cases j with
      | zero => rfl
      | succ j => exact absurd hi (hp2 j b hj)
    | succ i =>
      cases j with
      | zero => exact absurd hj (hp2 i b hi)
      | succ j => rw [b3 i j b hi hj]
  · cases i with
    | zero =>
      intro z
      rcases s2.k4 j b z with ⟨k, hk⟩ | z
      · exact a3 k b hi hk
      · exact hn1 b hi z
    | succ i => exact b4 i j b hi
  · cases i with
    | zero => exact a4 b hb
    | succ i =>
      rcases b5 i b hb with ⟨j, hj⟩ | z
      · exact s1.k4 j b hj
      · exact (s1.none z).symm⟩
/-- an item that is no list -/
def dConsN (f : Ev → Res (D × Ev)) (g : Ev → Res (List D × Ev)) (ρ : Ev) : Res (List D × Ev) := (f ρ).bind fun p => if p.1.isL = false then (g p.2).bind fun r => .ok (p.1 :: r.1, r.2) else .err
theorem dis_n {f : Ev → Res (D × Ev)} {g : Ev → Res (List D × Ev)} (ha : DE X c false false a f) (hr : DIs X c n es g)
    (hs : starEach (a :: es) X.env = (false, eval a X.env) :: starEach es X.env := by rfl) : DIs X c n (a :: es) (dConsN f g) := ⟨by
  refine PA.imp (pa_cons ha.pe hr.pa hs) fun σ H Q ⟨ρ, Z, fo, R, ds, ρ', hf, k⟩ => ?_
  obtain ⟨⟨d1, ρ1⟩, h1, hf⟩ := Res.bind_ok hf
  obtain ⟨hd, hf⟩ := if_ok' hf
  obtain ⟨⟨d2, ρ2⟩, h2, hf⟩ := Res.bind_ok hf
  cases hf
  refine ⟨ρ, Z, fo, R, d1, ρ1, h1, fun x H1 Z1 fo1 R1 s1 m1 p1 => ⟨ρ1, Z1, fo1, R1, d2, ρ2, h2, fun xs H2 Z2 fo2 R2 s2 l2 p2 => ?_⟩⟩
  obtain ⟨Q2, b0, b1, b2, b3, b4, b5⟩ := p2.ex
  refine k (x :: xs) H2 Z2 fo2 R2 (s1.trans s2) (by rw [List.length_cons, List.length_cons, l2]) ⟨fun i => match i with
    | 0 => fun _ => False
    | i + 1 => Q2 i, by rw [List.length_cons, List.length_cons, b0], fun i d v e1 e2 => ?_, fun i b hb => ?_, fun i j b hi hj => ?_, fun i j b hi => ?_, fun i b hb => ?_⟩
  · cases i with
    | zero =>
      cases e1
      cases e2
      exact Ow.nolist hd (Sh.stp (s2.s0 R1) p1) _
    | succ i => exact b1 i d v (by simpa using e1) (by simpa using e2)
  · cases i with
    | zero => exact hb.elim
    | succ i => exact b2 i b hb
  · cases i with
    | zero => exact hi.elim
    | succ i =>
      cases j with
      | zero => exact hj.elim
      | succ j => rw [b3 i j b hi hj]
  · cases i with
    | zero => exact hi.elim
    | succ i => exact b4 i j b hi
  · cases i with
    | zero => exact hb.elim
    | succ i =>
      rcases b5 i b hb with ⟨j, hj⟩ | z
      · exact s1.k4 j b hj
      · exact (s1.none z).symm⟩
theorem df_lstO {g : Ev → Res (List D × Ev)} (ha : DIs X c n es g) (hl : es.length ≤ 16777216 := by decide) : DF X c n (.List es pos) (dLst g) := ⟨by
  refine PE.imp (pe_lst ha.pa) fun σ H Q ⟨ρ, Z, fo, R, ds, ρ', hf, k⟩ => ?_
  obtain ⟨⟨d1, ρ1⟩, h1, hf⟩ := Res.bind_ok hf
  cases hf
  refine ⟨ρ, Z, fo, R, _, _, h1, fun xs H1 Z1 fo1 R1 s1 l1 p1 => ⟨sizeLine_ge (by omega), fun p hp => ?_⟩⟩
  obtain ⟨Q2, b0, b1, b2, b3, b4, b5⟩ := p1.ex
  obtain ⟨R2, st⟩ := R1.take (vs := xs) hp
  have hn1 : ∀ i b, Q2 i b → H1 b ≠ none := fun i b hb => R1.ownN b (b2 i b hb).1
  have hne : ∀ i b, Q2 i b → b ≠ p := fun i b hb e => hn1 i b hb (by rw [e]; exact hp)
  refine k _ _ _ fo1 R2 (s1.trans st) ⟨fun b => b = p ∨ ∃ i, Q2 i b, ⟨p, xs, rfl, .inl rfl, .inr rfl, upd_same, b0, Q2, fun i b hb => ⟨.inr ⟨i, hb⟩, hne i b hb⟩, b3, fun i d v e1 e2 => ?_⟩, fun b hb => ?_, fun i b hb z => ?_, fun b hb => ?_⟩
  · exact Ow.keep (fun d v s => s.stp (st.s0 R1)) _ d v (Q2 i) (fun b hb hz hn => ⟨upd_ne (hne i b hb), .inl hz⟩) (b1 i d v e1 e2)
  · rcases hb with hb | ⟨i, hb⟩
    · exact ⟨.inr hb, .inr (by rw [hb]; exact R1.dm p hp)⟩
    · exact ⟨.inl (b2 i b hb).1, (b2 i b hb).2⟩
  · rcases hb with hb | ⟨j, hb⟩
    · rw [hb] at z
      exact R1.nz hp (R1.sub i p z).1
    · exact b4 j i b hb z
  · rcases hb with hb | ⟨i, hb⟩
    · rw [hb]
      exact (s1.none hp).symm
    · exact b5 i b hb⟩
end
end DL
/-! x.pop(e) -/
namespace DL
open PySem PySem.Spec PyProof.Rows L2
section
variable {X : Cx} {c : DC} {e : Expr} {fe : Ev → Res (D × Ev)}
def dPopAt (i : Nat) (f : Ev → Res (D × Ev)) (ρ : Ev) : Res (D × Ev) := match ρ[i]? with
  | some (some (.lst _)) => (f ρ).bind fun p => match p.2[i]? with
    | some (some (.lst ds)) => match p.1 with
      | .int n => if 0 ≤ n ∧ n < 2 ^ 62 then match ds[n.toNat]? with
        | some d => .ok (d, p.2.set i (some (.lst (ds.eraseIdx n.toNat))))
        | none => .err else .err
      | _ => .err
    | _ => .err
  | _ => .err
theorem de_popAt (i : Nat) {x : PySem.Str} {px apos cpos : Pos} (he : DE X c false false e fe) (hk : c.ks.getD i 0 = 1 := by rfl) (hN : X.N[i]? = some x := by rfl) (hv : Vis X.env.scope x := by first | exact Or.inl rfl | exact Or.inr (Or.inl rfl) | exact Or.inr (Or.inr rfl)) (hd : (x == ("__debug__" : Str)) = false := by decide)
    (hcd : (x == ("__classdict__" : Str)) = false := by decide)
    (hbase : attributeBase (.Name x px) "pop" X.env (eval (.Name x px) X.env) = eval (.Name x px) X.env := by rfl)
    (hfew : ((backTo cpos (starEach [e] X.env)).all (fun x => !x.1) && (backToKw cpos (keywordEach [] X.env)).all (fun x => x.1.isSome) && decide ([e].length + ([] : List Keyword).length + (if ([] : List Keyword).isEmpty then 0 else 1) < 30)) = true := by rfl)
    (hline : (apos.endLine == cpos.line) = true := by rfl) (hs : starEach [e] X.env = (false, eval e X.env) :: starEach [] X.env := by rfl) (hplain : (backTo cpos (starEach [] X.env)).any (·.1) = false := by rfl) :
    DE X c false false (.Call (.Attribute (.Name x px) "pop" apos) [e] [] cpos) (dPopAt i fe) := ⟨by
  refine PE.imp (pe_bm PySem.F.plainAttrs_list PySem.F.slot_list_pop PySem.F.type_list_pop mt_popAt (pe_var hN hv hd hcd) (pa_cons he.pe pa_nil hs) hbase hfew hline hs hplain) fun σ H Q ⟨ρ, Z, fo, R, d, ρ', hf, kx⟩ => ?_
  unfold dPopAt at hf
  split at hf
  · rename_i ds0 h0
    obtain ⟨⟨d1, ρ1⟩, h1, hf⟩ := Res.bind_ok hf
    obtain ⟨a0, vs0, q1, q2, q3, _⟩ := R.mut1 hk h0
    refine ⟨_, q1, .inl ⟨rfl, vs0, SqL.of q2⟩, ρ, Z, fo, R, d1, ρ1, h1, fun w H1 Z1 fo1 R1 s1 m1 p1 => ?_⟩
    dsimp only at hf
    split at hf
    · rename_i ds h3
      cases d1 with
      | int n => ?_
      | _ => cases hf
      obtain ⟨⟨n0, n1⟩, hf⟩ := if_ok' hf
      split at hf
      · rename_i d2 h4
        cases hf
        obtain ⟨a, vs, r1, r2, r3, r4⟩ := R1.mut1 hk h3
        have ea : a = a0 := by
          rw [q1] at r1
          cases r1
          rfl
        subst ea
        cases p1
        obtain ⟨y, h5, h6⟩ := r3.get h4
        obtain ⟨R2, s2⟩ := r4 (ds.eraseIdx n.toNat) (vs.eraseIdx n.toNat) (r3.erase _)
        have hl : n.toNat < vs.length := (List.getElem?_eq_some_iff.mp h5).1
        refine ⟨a, vs, n, n.toNat, y, rfl, rfl, r2, by omega, by omega, seqIndex_of n0 (by omega), h5, kx y _ Z1 fo1 R2 (s1.trans s2) (fun z => nomatch z) (Sh.stp (s2.s0 R1) h6)⟩
      · cases hf
    · cases hf
  · cases hf⟩
end
end DL
/-! places: lists anywhere within owned lists -/
namespace DL
open PySem PySem.Spec PyProof.Rows L2
def subD : List Nat → D → Option D
  | [], d => some d
  | k :: p, d => match d with
    | .lst ds => match ds[k]? with
      | some x => subD p x
      | none => none
    | _ => none
def putD : List Nat → D → D → D
  | [], e, _ => e
  | k :: p, e, d => match d with
    | .lst ds => match ds[k]? with
      | some x => .lst (ds.set k (putD p e x))
      | none => d
    | d => d
def readV (H : Hp) : List Nat → V → Option V
  | [], v => some v
  | k :: p, v => match v with
    | .ref a => match H a with
      | some (.lst vs) => match vs[k]? with
        | some x => readV H p x
        | none => none
      | _ => none
    | _ => none
theorem subD_cons {k : Nat} {p : List Nat} {d e : D} (h : subD (k :: p) d = some e) : ∃ ds x, d = .lst ds ∧ ds[k]? = some x ∧ subD p x = some e := by
  cases d with
  | lst ds =>
    have h' : (match ds[k]? with | some x => subD p x | none => none) = some e := h
    split at h'
    · rename_i x hx
      exact ⟨ds, x, rfl, hx, h'⟩
    · cases h'
  | _ => cases h
theorem readV_cons {H : Hp} {k : Nat} {p : List Nat} {a : Addr} {vs : List V} {x : V} (h : H a = some (.lst vs)) (hx : vs[k]? = some x) : readV H (k :: p) (.ref a) = readV H p x := by
  show (match H a with
      | some (.lst vs) => match vs[k]? with
        | some x => readV H p x
        | none => none
      | _ => none) = _
  rw [h]
  dsimp only
  rw [hx]
theorem putD_cons {k : Nat} {p : List Nat} {ds : List D} {x e : D} (h : ds[k]? = some x) : putD (k :: p) e (.lst ds) = .lst (ds.set k (putD p e x)) := by
  show (match ds[k]? with
      | some x => D.lst (ds.set k (putD p e x))
      | none => .lst ds) = _
  rw [h]
section
variable {K : PySem.W.Frag} {Z : AP} {H : Hp}
/-- an owned list of level m + 1, with all that is known of it -/
structure Nd (K : PySem.W.Frag) (Z : AP) (H : Hp) (m : Nat) (es : List D) (b : Addr) (ws : List V) (Q : Nat → AP) (R : AP) : Prop where
  pb : R b
  zb : Z b
  hb : H b = some (.lst ws)
  len : es.length = ws.length
  q1 : ∀ i x, Q i x → R x ∧ x ≠ b
  q2 : ∀ i j x, Q i x → Q j x → i = j
  q3 : ∀ i d v, es[i]? = some d → ws[i]? = some v → Ow K Z H m d v (Q i)
theorem Ow.nd {m : Nat} {es : List D} {v : V} {R : AP} (h : Ow K Z H (m + 1) (.lst es) v R) : ∃ b ws Q, v = .ref b ∧ Nd K Z H m es b ws Q R := by
  obtain ⟨a, vs, e, pa, za, ha, l, Q, q1, q2, q3⟩ := h
  exact ⟨a, vs, Q, e, pa, za, ha, l, q1, q2, q3⟩
theorem Nd.ow {m : Nat} {es : List D} {b : Addr} {ws : List V} {Q : Nat → AP} {R : AP} (h : Nd K Z H m es b ws Q R) : Ow K Z H (m + 1) (.lst es) (.ref b) R :=
  ⟨b, ws, rfl, h.pb, h.zb, h.hb, h.len, Q, h.q1, h.q2, h.q3⟩
theorem stp_upd {b : Addr} {ws' : List V} (hz : Z b) : Stp0 Z H Z (upd H b (.lst ws')) := ⟨fun x o hx h => by
  rw [upd_ne (fun (e : x = b) => h (by rw [e]; exact hz))]
  exact hx, fun x hx => .inl hx⟩
/-- the list made anew of its items and one more -/
theorem Nd.re {m : Nat} {es es' : List D} {b : Addr} {ws ws' : List V} {Q : Nat → AP} {R : AP} (h : Nd K Z H m es b ws Q R) (hl : es'.length = ws'.length) (src : Nat → Option Nat)
    (inj : ∀ i j k, src i = some k → src j = some k → i = j) (uniq : ∀ i j, i < es'.length → j < es'.length → src i = none → src j = none → i = j) {dn : D} {vn : V} {P : AP} (hP : ∀ x, P x → ¬ R x) (hn : Ow K Z H m dn vn P)
    (hi : ∀ j d v, es'[j]? = some d → ws'[j]? = some v → match src j with | some i => es[i]? = some d ∧ ws[i]? = some v | none => d = dn ∧ v = vn) :
    Ow K Z (upd H b (.lst ws')) (m + 1) (.lst es') (.ref b) (fun x => x = b ∨ (∃ j i, src j = some i ∧ j < es'.length ∧ Q i x) ∨ P x) := by
  have st : Stp0 Z H Z (upd H b (.lst ws')) := stp_upd h.zb
  have hPb : ∀ x, P x → x ≠ b := fun x hx e => hP x hx (by rw [e]; exact h.pb)
  refine ⟨b, ws', rfl, .inl rfl, h.zb, upd_same, hl, fun j x => j < es'.length ∧ match src j with | some i => Q i x | none => P x, fun j x hx => ?_, fun i j x hx hy => ?_, fun j d v e1 e2 => ?_⟩
  · obtain ⟨hj, hx⟩ := hx
    cases e : src j with
    | some i =>
      rw [e] at hx
      exact ⟨.inr (.inl ⟨j, i, e, hj, hx⟩), (h.q1 i x hx).2⟩
    | none =>
      rw [e] at hx
      exact ⟨.inr (.inr hx), hPb x hx⟩
  · obtain ⟨h1, hx⟩ := hx
    obtain ⟨h2, hy⟩ := hy
    cases e1 : src i with
    | some k =>
      rw [e1] at hx
      cases e2 : src j with
      | some k2 =>
        rw [e2] at hy
        have := h.q2 k k2 x hx hy
        exact inj i j k e1 (by rw [e2, this])
      | none =>
        rw [e2] at hy
        exact absurd (h.q1 k x hx).1 (hP x hy)
    | none =>
      rw [e1] at hx
      cases e2 : src j with
      | some k2 =>
        rw [e2] at hy
        exact absurd (h.q1 k2 x hy).1 (hP x hx)
      | none => exact uniq i j h1 h2 e1 e2
  · have hj : j < es'.length := (List.getElem?_eq_some_iff.mp e1).1
    have hq := hi j d v e1 e2
    cases e : src j with
    | some i =>
      rw [e] at hq
      refine Ow.keep (fun d v s => s.stp st) m d v _ (fun x hx hz hn => ?_) (Ow.more (P := Q i) (fun x hx => ⟨hj, by rw [e]; exact hx⟩) (h.q3 i d v hq.1 hq.2))
      have hx2 := hx.2
      rw [e] at hx2
      exact ⟨upd_ne (h.q1 i x hx2).2, hz⟩
    | none =>
      rw [e] at hq
      obtain ⟨rfl, rfl⟩ := hq
      refine Ow.keep (fun d v s => s.stp st) m d v _ (fun x hx hz hn => ?_) (Ow.more (P := P) (fun x hx => ⟨hj, by rw [e]; exact hx⟩) hn)
      have hx2 := hx.2
      rw [e] at hx2
      exact ⟨upd_ne (hPb x hx2), hz⟩
/-- what stands at a path -/
theorem Ow.at : ∀ (p : List Nat) (m : Nat) (d : D) (v : V) (P : AP) (e : D), Ow K Z H (p.length + m) d v P → subD p d = some e →
    ∃ y R, readV H p v = some y ∧ Ow K Z H m e y R ∧ (∀ x, R x → P x) ∧ ∀ (Z' : AP) (H' : Hp) (e' : D) (R' : AP), (∀ d v, Sh K Z H d v → Sh K Z' H' d v) → (∀ x, P x → ¬ R x → Z x → H x ≠ none → H' x = H x ∧ Z' x) →
      (∀ x, R' x → R x ∨ ¬ P x) → Ow K Z' H' m e' y R' → Ow K Z' H' (p.length + m) (putD p e' d) v (fun x => (P x ∧ ¬ R x) ∨ R' x)
  | [], m, d, v, P, e, h, hs => by
    have e0 : d = e := Option.some.inj hs
    subst e0
    have hm : ([] : List Nat).length + m = m := Nat.zero_add m
    rw [hm] at h ⊢
    exact ⟨v, P, rfl, h, fun x hx => hx, fun Z' H' e' R' _ _ _ h' => Ow.more (fun x hx => .inr hx) h'⟩
  | k :: p, m, d, v, P, e, h, hs => by
    have hm : (k :: p).length + m = (p.length + m) + 1 := by rw [List.length_cons]; omega
    rw [hm] at h ⊢
    obtain ⟨ds, x, rfl, hx, hs⟩ := subD_cons hs
    obtain ⟨a, vs, rfl, pa, za, ha, l, Q, q1, q2, q3⟩ := h
    have hk : k < ds.length := (List.getElem?_eq_some_iff.mp hx).1
    have hv : vs[k]? = some (vs[k]'(by omega)) := List.getElem?_eq_getElem (by omega)
    obtain ⟨y, R, r1, r2, r3, r4⟩ := Ow.at p m x _ (Q k) e (q3 k x _ hx hv) hs
    refine ⟨y, R, by rw [readV_cons ha hv]; exact r1, r2, fun z hz => (q1 k z (r3 z hz)).1, fun Z' H' e' R' c1 c2 c3 c4 => ?_⟩
    have hna : ¬ R a := fun z => (q1 k a (r3 a z)).2 rfl
    obtain ⟨h1, h2⟩ := c2 a pa hna za (by rw [ha]; exact fun z => nomatch z)
    rw [putD_cons hx]
    have hR' : ∀ x, R' x → R x ∨ ¬ Q k x := fun x hx => (c3 x hx).imp id fun z w => z (q1 k x w).1
    have hw := r4 Z' H' e' R' c1 (fun x hx hr => c2 x (q1 k x hx).1 hr) hR' c4
    refine ⟨a, vs, rfl, .inl ⟨pa, hna⟩, h2, by rw [h1]; exact ha, by rw [List.length_set]; exact l, fun i z => if i = k then (Q k z ∧ ¬ R z) ∨ R' z else Q i z, fun i z hz => ?_, fun i j z hi hj => ?_, fun i d' v' e1 e2 => ?_⟩
    · dsimp only at hz
      by_cases c : i = k
      · rw [if_pos c] at hz
        rcases hz with ⟨hz, hr⟩ | hz
        · exact ⟨.inl ⟨(q1 k z hz).1, hr⟩, (q1 k z hz).2⟩
        · refine ⟨.inr hz, fun e => ?_⟩
          rcases c3 z hz with w | w
          · exact hna (e ▸ w)
          · exact w (e ▸ pa)
      · rw [if_neg c] at hz
        exact ⟨.inl ⟨(q1 i z hz).1, fun w => c (q2 i k z hz (r3 z w))⟩, (q1 i z hz).2⟩
    · have cross : ∀ {i j : Nat}, i = k → j ≠ k → ((Q k z ∧ ¬ R z) ∨ R' z) → Q j z → False := fun ci cj hi hj => by
        rcases hi with ⟨hi, _⟩ | hi
        · exact cj (q2 _ _ z hj hi)
        · rcases c3 z hi with w | w
          · exact cj (q2 _ _ z hj (r3 z w))
          · exact w (q1 _ z hj).1
      dsimp only at hi hj
      by_cases ci : i = k
      · by_cases cj : j = k
        · rw [ci, cj]
        · rw [if_pos ci] at hi
          rw [if_neg cj] at hj
          exact (cross ci cj hi hj).elim
      · by_cases cj : j = k
        · rw [if_neg ci] at hi
          rw [if_pos cj] at hj
          exact (cross cj ci hj hi).elim
        · rw [if_neg ci] at hi
          rw [if_neg cj] at hj
          exact q2 i j z hi hj
    · by_cases ci : i = k
      · subst ci
        rw [List.getElem?_set_self hk] at e1
        cases e1
        have ev : vs[i]'(by omega) = v' := by
          rw [hv] at e2
          exact Option.some.inj e2
        rw [← ev]
        exact Ow.more (fun z hz => by (try dsimp only); rw [if_pos rfl]; exact hz) hw
      · rw [List.getElem?_set_ne (Ne.symm ci)] at e1
        refine Ow.keep c1 _ d' v' _ (fun z hz hzz hn => ?_) (Ow.more (P := Q i) (fun z hz => by (try dsimp only); rw [if_neg ci]; exact hz) (q3 i d' v' e1 e2))
        dsimp only at hz
        rw [if_neg ci] at hz
        exact c2 z (q1 i z hz).1 (fun w => ci (q2 i k z hz (r3 z w))) hzz hn
end
/-! the state's places -/
def AtP (σ : L2.St) (H : Hp) (i : Nat) (p : List Nat) (b : Addr) : Prop := ∃ v, σ[i]? = some (some v) ∧ readV H p v = some (.ref b)
section
variable {c : DC} {K : PySem.W.Frag} {ρ : Ev} {Z : AP} {σ : L2.St} {H : Hp} {fo : Nat → AP} {i : Nat}
theorem AtP.same {H' : Hp} {p : List Nat} {b : Addr} (s : Same H H') (h : AtP σ H i p b) : AtP σ H' i p b := by
  obtain ⟨v, h1, h2⟩ := h
  refine ⟨v, h1, ?_⟩
  clear h1
  induction p generalizing v with
  | nil => exact h2
  | cons k p ih =>
    cases v with
    | ref a =>
      have h3 : (match H a with
        | some (.lst vs) => match vs[k]? with
          | some x => readV H p x
          | none => none
        | _ => none) = some (.ref b) := h2
      split at h3
      · rename_i vs hv
        split at h3
        · rename_i x hx
          rw [readV_cons (s a _ hv) hx]
          exact ih x h3
        · cases h3
      · cases h3
    | _ => cases h2
theorem AtP.inj {p : List Nat} {a b : Addr} (h : AtP σ H i p a) (h' : AtP σ H i p b) : a = b := by
  obtain ⟨v, h1, h2⟩ := h
  obtain ⟨w, h3, h4⟩ := h'
  rw [h1] at h3
  cases h3
  rw [h2] at h4
  cases h4
  rfl
/-- a list anywhere within an owned one, and what may become of it -/
theorem RS.mutP {p : List Nat} {m : Nat} {d : D} {es : List D} (R : RS c K ρ Z σ H fo) (hk : c.ks.getD i 0 = p.length + (m + 1)) (h : ρ[i]? = some (some d)) (hs : subD p d = some (.lst es)) :
    ∃ b ws Q Rr, AtP σ H i p b ∧ Nd K Z H m es b ws Q Rr ∧ (∀ x, Rr x → fo i x) ∧ ∀ {fo0 : Nat → AP} {Zz : AP} {H0 : Hp} {es' : List D} {ws' : List V} {G R' : AP}, Stp fo0 Zz H0 fo Z H →
      (∀ x, G x → (Z x ∧ (c.M x ∨ c.Hi x = none)) ∧ (∀ j, ¬ fo j x) ∧ ((∃ j, fo0 j x) ∨ H0 x = none)) → (∀ x, R' x → Rr x ∨ G x) → Ow K Z (upd H b (.lst ws')) (m + 1) (.lst es') (.ref b) R' →
      ∃ fo', RS c K (ρ.set i (some (putD p (.lst es') d))) Z σ (upd H b (.lst ws')) fo' ∧ Stp fo0 Zz H0 fo' Z (upd H b (.lst ws')) ∧ (∀ j x, fo' j x → fo j x ∨ (j = i ∧ G x)) ∧ ∀ x, fo' i x → (fo i x ∧ ¬ Rr x) ∨ R' x := by
  obtain ⟨v, h1, h2⟩ := R.val i _ h
  rw [hk] at h2
  obtain ⟨y, Rr, r1, r2, r3, r4⟩ := Ow.at p (m + 1) d v (fo i) _ h2 hs
  obtain ⟨b, ws, Q, rfl, nd⟩ := r2.nd
  refine ⟨b, ws, Q, Rr, ⟨v, h1, r1⟩, nd, r3, fun {fo0 Zz H0 es' ws' G R'} s hG hR' how => ?_⟩
  have pib : fo i b := r3 b nd.pb
  have st : Stp0 Z H Z (upd H b (.lst ws')) := stp_upd nd.zb
  have Gf : ∀ x, G x → ∀ j, ¬ fo j x := fun x hx => (hG x hx).2.1
  have tree := r4 Z (upd H b (.lst ws')) (.lst es') R' (fun d v s => s.stp st) (fun x hx hr hz hn => ⟨upd_ne fun e => hr (by rw [e]; exact nd.pb), hz⟩) (fun x hx => (hR' x hx).imp id fun g => Gf x g i) how
  refine ⟨fun j x => if j = i then (fo i x ∧ ¬ Rr x) ∨ R' x else fo j x, ?_, ⟨fun x o hx hf => ?_, fun x hx => s.k2 x hx, fun x hx hn hf => s.k3 x hx hn hf, fun j x hx => ?_⟩, fun j x hx => ?_, fun x hx => by dsimp only at hx; rwa [if_pos rfl] at hx⟩
  · refine { R with len := by rw [List.length_set]; exact R.len, val := fun j e he => ?_, dis := fun j k x hj hk => ?_, own := fun x hx => ?_, sub := fun j x hx => ?_, e1 := fun x o h3 h4 => ?_, dm := fun x hx => ?_ }
    · by_cases q : i = j
      · subst q
        have hl : i < ρ.length := (List.getElem?_eq_some_iff.mp h).1
        rw [List.getElem?_set_self hl] at he
        have e1 : putD p (.lst es') d = e := Option.some.inj (Option.some.inj he)
        subst e1
        refine ⟨v, h1, ?_⟩
        rw [hk]
        exact Ow.more (fun x hx => by (try dsimp only); rw [if_pos rfl]; exact hx) tree
      · rw [List.getElem?_set_ne q] at he
        obtain ⟨w, h5, h6⟩ := R.val j e he
        refine ⟨w, h5, Ow.more (P := fo j) (fun x hx => by (try dsimp only); rw [if_neg (Ne.symm q)]; exact hx) (Ow.keep (fun d v s => s.stp st) _ e w (fo j) (fun x hx hz hn => ⟨upd_ne fun e => q (R.dis i j b pib (e ▸ hx)), hz⟩) h6)⟩
    · have own : ∀ {x}, ((fo i x ∧ ¬ Rr x) ∨ R' x) → fo i x ∨ G x := fun {x} hx => by
        rcases hx with hx | hx
        · exact .inl hx.1
        · exact (hR' x hx).imp (r3 x) id
      by_cases cj : j = i
      · by_cases ck : k = i
        · rw [cj, ck]
        · rw [if_pos cj] at hj
          rw [if_neg ck] at hk
          rcases own hj with z | z
          · rw [cj]
            exact R.dis i k x z hk
          · exact absurd hk (Gf x z k)
      · by_cases ck : k = i
        · rw [if_neg cj] at hj
          rw [if_pos ck] at hk
          rcases own hk with z | z
          · rw [ck]
            exact R.dis j i x hj z
          · exact absurd hj (Gf x z j)
        · rw [if_neg cj] at hj
          rw [if_neg ck] at hk
          exact R.dis j k x hj hk
    · by_cases e : x = b
      · rw [e]
        exact ⟨_, upd_same, rfl⟩
      · rw [upd_ne e]
        exact R.own x hx
    · by_cases cj : j = i
      · rw [if_pos cj] at hx
        rcases hx with hx | hx
        · exact R.sub i x hx.1
        · rcases hR' x hx with z | z
          · exact R.sub i x (r3 x z)
          · exact (hG x z).1
      · rw [if_neg cj] at hx
        exact R.sub j x hx
    · by_cases e : x = b
      · rcases (R.sub i b pib).2 with z | z
        · exact absurd (e ▸ z) h4
        · rw [e, z] at h3; cases h3
      · rw [upd_ne e]
        exact R.e1 x o h3 h4
    · by_cases e : x = b
      · rw [e, upd_same] at hx; cases hx
      · rw [upd_ne e] at hx
        exact R.dm x hx
  · by_cases e : x = b
    · exfalso
      subst e
      rcases s.k4 i x pib with ⟨j, hj⟩ | z
      · exact hf j hj
      · rw [z] at hx; cases hx
    · rw [upd_ne e]
      exact s.k1 x o hx hf
  · by_cases cj : j = i
    · rw [if_pos cj] at hx
      rcases hx with hx | hx
      · exact s.k4 i x hx.1
      · rcases hR' x hx with z | z
        · exact s.k4 i x (r3 x z)
        · exact (hG x z).2.2
    · rw [if_neg cj] at hx
      exact s.k4 j x hx
  · dsimp only at hx
    by_cases cj : j = i
    · rw [if_pos cj] at hx
      rcases hx with hx | hx
      · rw [cj]
        exact .inl hx.1
      · rcases hR' x hx with z | z
        · rw [cj]
          exact .inl (r3 x z)
        · exact .inr ⟨cj, z⟩
    · rw [if_neg cj] at hx
      exact .inl hx
/-- a slot laid aside: nobody may change what it owns -/
theorem RS.lock {d : D} (R : RS c K ρ Z σ H fo) (h : ρ[i]? = some (some d)) : RS c K (ρ.set i none) Z σ H (fun j b => fo j b ∧ j ≠ i) ∧ Stp fo Z H (fun j b => fo j b ∧ j ≠ i) Z H := by
  refine ⟨{ R with len := by rw [List.length_set]; exact R.len, val := fun j e he => ?_, dis := fun i j b h1 h2 => R.dis i j b h1.1 h2.1, sub := fun j b hj => R.sub j b hj.1 }, ⟨fun _ _ h _ => h, fun _ h => .inl h, fun _ h _ _ => h, fun j b hj => .inl ⟨j, hj.1⟩⟩⟩
  by_cases q : i = j
  · subst q
    by_cases hl : i < ρ.length
    · rw [List.getElem?_set_self hl] at he; cases he
    · rw [List.getElem?_eq_none (by simpa using hl)] at he; cases he
  · rw [List.getElem?_set_ne q] at he
    obtain ⟨w, h3, h4⟩ := R.val j e he
    exact ⟨w, h3, Ow.more (P := fo j) (fun b hb => ⟨hb, fun z => q z.symm⟩) h4⟩
theorem RS.unlock {ρ1 : Ev} {Z1 : AP} {H1 : Hp} {fo1 : Nat → AP} {d : D} (R : RS c K ρ Z σ H fo) (h : ρ[i]? = some (some d)) (R1 : RS c K ρ1 Z1 σ H1 fo1) (s : Stp (fun j b => fo j b ∧ j ≠ i) Z H fo1 Z1 H1) :
    RS c K (ρ1.set i (some d)) Z1 σ H1 (fun j b => if j = i then fo i b else fo1 j b) ∧ Stp fo Z H (fun j b => if j = i then fo i b else fo1 j b) Z1 H1 ∧ (∀ x, fo i x → H1 x = H x) ∧ ∀ x j, fo1 j x → ¬ fo i x := by
  have nf : ∀ x, fo i x → ∀ j, ¬ (fo j x ∧ j ≠ i) := fun x hx j hj => hj.2 (R.dis j i x hj.1 hx)
  have hn : ∀ x, fo i x → H x ≠ none := fun x hx => R.ownN x (R.sub i x hx).1
  have hk : ∀ x, fo i x → H1 x = H x := fun x hx => by
    cases e : H x with
    | none => exact absurd e (hn x hx)
    | some o => exact s.k1 x o e (nf x hx)
  have hz : ∀ x, fo i x → Z1 x := fun x hx => s.k3 x (R.sub i x hx).1 (hn x hx) (nf x hx)
  have ap : ∀ x j, fo1 j x → ¬ fo i x := fun x j hj hx => by
    rcases s.k4 j x hj with ⟨k, hk⟩ | z
    · exact nf x hx k hk
    · exact hn x hx z
  have st : Stp0 Z H Z1 H1 := by
    refine ⟨fun b o hb hzb => s.k1 b o hb fun j hj => hzb (R.sub j b hj.1).1, fun b hb => ?_⟩
    rcases s.k2 b hb with z | z | ⟨j, z⟩
    · exact .inl z
    · exact .inr z
    · exact .inl (R.sub j b z.1).1
  refine ⟨{ R1 with len := by rw [List.length_set]; exact R1.len, val := fun j e he => ?_, dis := fun j k x hj hk => ?_, sub := fun j x hj => ?_ }, ⟨fun x o hx hf => s.k1 x o hx fun j hj => hf j hj.1, fun x hx => ?_, fun x hx hn hf => s.k3 x hx hn fun j hj => hf j hj.1, fun j x hj => ?_⟩, hk, ap⟩
  · by_cases q : i = j
    · subst q
      by_cases hl : i < ρ1.length
      · rw [List.getElem?_set_self hl] at he
        have e1 : d = e := Option.some.inj (Option.some.inj he)
        subst e1
        obtain ⟨w, h3, h4⟩ := R.val i d h
        refine ⟨w, h3, Ow.more (P := fo i) (fun b hb => by (try dsimp only); rw [if_pos rfl]; exact hb) (Ow.keep (fun d v s => s.stp st) _ d w (fo i) (fun x hx _ _ => ⟨hk x hx, hz x hx⟩) h4)⟩
      · rw [List.getElem?_eq_none (by simpa using hl)] at he; cases he
    · rw [List.getElem?_set_ne q] at he
      obtain ⟨w, h3, h4⟩ := R1.val j e he
      exact ⟨w, h3, Ow.more (P := fo1 j) (fun b hb => by (try dsimp only); rw [if_neg (Ne.symm q)]; exact hb) h4⟩
  · by_cases cj : j = i
    · by_cases ck : k = i
      · rw [cj, ck]
      · rw [if_pos cj] at hj
        rw [if_neg ck] at hk
        exact absurd hj (ap x k hk)
    · by_cases ck : k = i
      · rw [if_neg cj] at hj
        rw [if_pos ck] at hk
        exact absurd hk (ap x j hj)
      · rw [if_neg cj] at hj
        rw [if_neg ck] at hk
        exact R1.dis j k x hj hk
  · by_cases cj : j = i
    · rw [if_pos cj] at hj
      exact ⟨hz x hj, (R.sub i x hj).2⟩
    · rw [if_neg cj] at hj
      exact R1.sub j x hj
  · rcases s.k2 x hx with z | z | ⟨j, z⟩
    · exact .inl z
    · exact .inr (.inl z)
    · exact .inr (.inr ⟨j, z.1⟩)
  · by_cases cj : j = i
    · rw [if_pos cj] at hj
      exact .inl ⟨i, hj⟩
    · rw [if_neg cj] at hj
      rcases s.k4 j x hj with ⟨k, hk⟩ | z
      · exact .inl ⟨k, hk.1⟩
      · exact .inr z
/-- the same place behind it -/
theorem Ow.readV_keep {H' : Hp} : ∀ (p : List Nat) (m : Nat) (d : D) (v : V) (P : AP) (e : D), Ow K Z H (p.length + m) d v P → subD p d = some e → (∀ x, P x → H' x = H x) → readV H' p v = readV H p v
  | [], _, _, _, _, _, _, _, _ => rfl
  | k :: p, m, d, v, P, e, h, hs, hk => by
    have hm : (k :: p).length + m = (p.length + m) + 1 := by rw [List.length_cons]; omega
    rw [hm] at h
    obtain ⟨ds, x, rfl, hx, hs⟩ := subD_cons hs
    obtain ⟨a, vs, rfl, pa, za, ha, l, Q, q1, q2, q3⟩ := h
    have hkl : k < ds.length := (List.getElem?_eq_some_iff.mp hx).1
    have hv : vs[k]? = some (vs[k]'(by omega)) := List.getElem?_eq_getElem (by omega)
    rw [readV_cons ha hv, readV_cons (by rw [hk a pa]; exact ha) hv]
    exact Ow.readV_keep p m x _ (Q k) e (q3 k x _ hx hv) hs fun z hz => hk z (q1 k z hz).1
theorem RS.atKeep {p : List Nat} {m : Nat} {d e : D} {b : Addr} {H' : Hp} (R : RS c K ρ Z σ H fo) (hk : c.ks.getD i 0 = p.length + m) (h : ρ[i]? = some (some d)) (hs : subD p d = some e) (hx : ∀ x, fo i x → H' x = H x) (a : AtP σ H i p b) : AtP σ H' i p b := by
  obtain ⟨v, h1, h2⟩ := a
  obtain ⟨w, h3, h4⟩ := R.val i d h
  rw [h1] at h3
  cases h3
  rw [hk] at h4
  exact ⟨v, h1, by rw [Ow.readV_keep p m d v (fo i) e h4 hs hx]; exact h2⟩
end
end DL
/-! places: what is done at them -/
namespace DL
open PySem PySem.Spec PyProof.Rows L2
section
variable {K : PySem.W.Frag} {Z : AP} {H : Hp} {m : Nat} {es : List D} {b : Addr} {ws : List V} {Q : Nat → AP} {R : AP}
theorem Nd.app (h : Nd K Z H m es b ws Q R) {d : D} {v : V} {P : AP} (hP : ∀ x, P x → ¬ R x) (hn : Ow K Z H m d v P) : Ow K Z (upd H b (.lst (ws ++ [v]))) (m + 1) (.lst (es ++ [d])) (.ref b) (fun x => R x ∨ P x) := by
  have hl := h.len
  refine Ow.more (fun x hx => ?_) (h.re (es' := es ++ [d]) (ws' := ws ++ [v]) (by rw [List.length_append, List.length_append, hl]; rfl) (fun j => if j < es.length then some j else none) (fun i j k h1 h2 => ?_) (fun i j h1 h2 h3 h4 => ?_) hP hn fun j d' v' e1 e2 => ?_)
  · rcases hx with hx | ⟨j, i, _, _, hx⟩ | hx
    · exact .inl (hx ▸ h.pb)
    · exact .inl (h.q1 i x hx).1
    · exact .inr hx
  · try dsimp only at h1 h2
    by_cases c1 : i < es.length
    · by_cases c2 : j < es.length
      · rw [if_pos c1] at h1
        rw [if_pos c2] at h2
        rw [Option.some.inj h1, Option.some.inj h2]
      · rw [if_neg c2] at h2; cases h2
    · rw [if_neg c1] at h1; cases h1
  · try dsimp only at h3 h4
    rw [List.length_append, List.length_singleton] at h1 h2
    by_cases c1 : i < es.length
    · rw [if_pos c1] at h3; cases h3
    · by_cases c2 : j < es.length
      · rw [if_pos c2] at h4; cases h4
      · omega
  · try dsimp only
    by_cases c1 : j < es.length
    · rw [if_pos c1]
      rw [List.getElem?_append_left c1] at e1
      rw [List.getElem?_append_left (by omega)] at e2
      exact ⟨e1, e2⟩
    · rw [if_neg c1]
      have hj := (List.getElem?_eq_some_iff.mp e1).1
      rw [List.length_append, List.length_singleton] at hj
      have ej : j = es.length := by omega
      subst ej
      rw [List.getElem?_append_right (Nat.le_refl _), Nat.sub_self] at e1
      rw [List.getElem?_append_right (by omega), hl, Nat.sub_self] at e2
      have e1' : d = d' := by simpa using e1
      have e2' : v = v' := by simpa using e2
      exact ⟨e1'.symm, e2'.symm⟩
theorem Nd.put (h : Nd K Z H m es b ws Q R) {k : Nat} {d : D} {v : V} {P : AP} (hk : k < es.length) (hP : ∀ x, P x → ¬ R x) (hn : Ow K Z H m d v P) : Ow K Z (upd H b (.lst (ws.set k v))) (m + 1) (.lst (es.set k d)) (.ref b) (fun x => R x ∨ P x) := by
  have hl := h.len
  refine Ow.more (fun x hx => ?_) (h.re (es' := es.set k d) (ws' := ws.set k v) (by rw [List.length_set, List.length_set, hl]) (fun j => if j = k then none else some j) (fun i j l h1 h2 => ?_) (fun i j h1 h2 h3 h4 => ?_) hP hn fun j d' v' e1 e2 => ?_)
  · rcases hx with hx | ⟨j, i, _, _, hx⟩ | hx
    · exact .inl (hx ▸ h.pb)
    · exact .inl (h.q1 i x hx).1
    · exact .inr hx
  · try dsimp only at h1 h2
    by_cases c1 : i = k
    · rw [if_pos c1] at h1; cases h1
    · by_cases c2 : j = k
      · rw [if_pos c2] at h2; cases h2
      · rw [if_neg c1] at h1
        rw [if_neg c2] at h2
        rw [Option.some.inj h1, Option.some.inj h2]
  · try dsimp only at h3 h4
    by_cases c1 : i = k
    · by_cases c2 : j = k
      · rw [c1, c2]
      · rw [if_neg c2] at h4; cases h4
    · rw [if_neg c1] at h3; cases h3
  · try dsimp only
    by_cases c1 : j = k
    · rw [if_pos c1]
      subst c1
      rw [List.getElem?_set_self hk] at e1
      rw [List.getElem?_set_self (by omega)] at e2
      cases e1
      cases e2
      exact ⟨rfl, rfl⟩
    · rw [if_neg c1]
      rw [List.getElem?_set_ne (Ne.symm c1)] at e1 e2
      exact ⟨e1, e2⟩
theorem Nd.last (h : Nd K Z H m es b ws Q R) : Ow K Z (upd H b (.lst ws.dropLast)) (m + 1) (.lst es.dropLast) (.ref b) (fun x => R x ∧ ¬ Q (es.length - 1) x) := by
  have hl := h.len
  refine Ow.more (fun x hx => ?_) (h.re (es' := es.dropLast) (ws' := ws.dropLast) (by rw [List.length_dropLast, List.length_dropLast, hl]) (fun j => some j) (fun i j k h1 h2 => ?_) (fun i j h1 h2 h3 h4 => ?_) (dn := .non) (vn := .non) (P := fun _ => False) (fun x z => z.elim) (Ow.nolist rfl (show Sh K Z H .non .non from rfl) _) fun j d' v' e1 e2 => ?_)
  · rcases hx with hx | ⟨j, i, e, hj, hx⟩ | hx
    · subst hx
      exact ⟨h.pb, fun z => (h.q1 _ x z).2 rfl⟩
    · cases e
      refine ⟨(h.q1 j x hx).1, fun z => ?_⟩
      have := h.q2 _ _ x hx z
      rw [List.length_dropLast] at hj
      omega
    · exact hx.elim
  · rw [Option.some.inj h1, Option.some.inj h2]
  · cases h3
  · try dsimp only
    rw [List.dropLast_eq_take] at e1 e2
    have hj := (List.getElem?_eq_some_iff.mp e1).1
    rw [List.length_take] at hj
    rw [List.getElem?_take_of_lt (by omega)] at e1 e2
    exact ⟨e1, e2⟩
theorem Nd.cut (h : Nd K Z H m es b ws Q R) (k : Nat) : Ow K Z (upd H b (.lst (ws.eraseIdx k))) (m + 1) (.lst (es.eraseIdx k)) (.ref b) R := by
  have hl := h.len
  refine Ow.more (fun x hx => ?_) (h.re (es' := es.eraseIdx k) (ws' := ws.eraseIdx k) (by rw [List.length_eraseIdx, List.length_eraseIdx, hl]) (fun j => some (if j < k then j else j + 1)) (fun i j l h1 h2 => ?_) (fun i j h1 h2 h3 h4 => ?_) (dn := .non) (vn := .non) (P := fun _ => False) (fun x z => z.elim) (Ow.nolist rfl (show Sh K Z H .non .non from rfl) _) fun j d' v' e1 e2 => ?_)
  · rcases hx with hx | ⟨j, i, _, _, hx⟩ | hx
    · exact hx ▸ h.pb
    · exact (h.q1 i x hx).1
    · exact hx.elim
  · have h3 := (Option.some.inj h1).trans (Option.some.inj h2).symm
    split at h3 <;> split at h3 <;> omega
  · cases h3
  · try dsimp only
    rw [List.getElem?_eraseIdx] at e1 e2
    by_cases c : j < k
    · rw [if_pos c] at e1 e2 ⊢
      exact ⟨e1, e2⟩
    · rw [if_neg c] at e1 e2 ⊢
      exact ⟨e1, e2⟩
end
theorem readV_snoc {H : Hp} {b : Addr} {ws : List V} {w : V} {j : Nat} (hb : H b = some (.lst ws)) (hw : ws[j]? = some w) : ∀ (p : List Nat) (v : V), readV H p v = some (.ref b) → readV H (p ++ [j]) v = some w
  | [], v, h => by
    cases h
    rw [List.nil_append, readV_cons hb hw]
    rfl
  | k :: p, v, h => by
    cases v with
    | ref a =>
      have h3 : (match H a with
        | some (.lst vs) => match vs[k]? with
          | some x => readV H p x
          | none => none
        | _ => none) = some (.ref b) := h
      split at h3
      · rename_i vs hv
        split at h3
        · rename_i x hx
          rw [List.cons_append, readV_cons hv hx]
          exact readV_snoc hb hw p x h3
        · cases h3
      · cases h3
    | _ => cases h
theorem subD_snoc {es : List D} {x : D} {j : Nat} (hx : es[j]? = some x) : ∀ (p : List Nat) (d : D), subD p d = some (.lst es) → subD (p ++ [j]) d = some x
  | [], d, h => by
    cases h
    show (match es[j]? with | some x => subD [] x | none => none) = _
    rw [hx]
    rfl
  | k :: p, d, h => by
    obtain ⟨ds, y, rfl, hy, h⟩ := subD_cons h
    show (match ds[k]? with | some x => subD (p ++ [j]) x | none => none) = _
    rw [hy]
    exact subD_snoc hx p y h
/-! the judgement -/
def tPl (c : DC) (K : PySem.W.Frag) (i : Nat) (f : Ev → Res (List Nat × Ev)) : TE := fun σ H Q => ∃ ρ Z fo, RS c K ρ Z σ H fo ∧ ∃ p ρ', f ρ = .ok (p, ρ') ∧
  ∀ b H' Z' fo', RS c K ρ' Z' σ H' fo' → Stp fo Z H fo' Z' H' → Same H H' → AtP σ H' i p b → Q (.ref b) H'
structure DPl (X : Cx) (c : DC) (i l : Nat) (e : Expr) (f : Ev → Res (List Nat × Ev)) : Prop where
  pe : PE X e (tPl c X.K i f)
  len : ∀ ρ p ρ', f ρ = .ok (p, ρ') → p.length = l ∧ ∃ d es, ρ'[i]? = some (some d) ∧ subD p d = some (.lst es)
def plName (i : Nat) (ρ : Ev) : Res (List Nat × Ev) := match ρ[i]? with
  | some (some (.lst _)) => .ok ([], ρ)
  | _ => .err
def ixD (p : List Nat) (d : D) (n : Int) : Option (Nat × D) := match subD p d with
  | some (.lst es) => match ixN es.length n with
    | some j => (es[j]?).map fun x => (j, x)
    | none => none
  | _ => none
def plIx (i : Nat) (f : Ev → Res (List Nat × Ev)) (fi : Ev → Res (D × Ev)) (ρ : Ev) : Res (List Nat × Ev) := (f ρ).bind fun p => (fi p.2).bind fun r => match r.1 with
  | .int n => match r.2[i]? with
    | some (some d) => match ixD p.1 d n with
      | some (j, .lst _) => .ok (p.1 ++ [j], r.2)
      | _ => .err
    | _ => .err
  | _ => .err
theorem ixD_ok {p : List Nat} {d x : D} {n : Int} {j : Nat} (h : ixD p d n = some (j, x)) : ∃ es, subD p d = some (.lst es) ∧ ixN es.length n = some j ∧ es[j]? = some x := by
  unfold ixD at h
  split at h
  · rename_i es he
    split at h
    · rename_i k hk
      cases e : es[k]? with
      | none => rw [e] at h; cases h
      | some y =>
        rw [e] at h
        cases h
        exact ⟨es, he, hk, e⟩
    · cases h
  · cases h
section
variable {X : Cx} {c : DC} {rk : Option Nat} {i l m n : Nat} {o e ix : Expr} {f : Ev → Res (List Nat × Ev)} {fe fi : Ev → Res (D × Ev)} {pos : Pos}
theorem dpl_name (i : Nat) {m : Nat} {x : PySem.Str} {px : Pos} (hk : c.ks.getD i 0 = m + 1 := by rfl) (hN : X.N[i]? = some x := by rfl) (hv : Vis X.env.scope x := by first | exact Or.inl rfl | exact Or.inr (Or.inl rfl) | exact Or.inr (Or.inr rfl)) (hd : (x == ("__debug__" : Str)) = false := by decide)
    (hcd : (x == ("__classdict__" : Str)) = false := by decide) : DPl X c i 0 (.Name x px) (plName i) := ⟨by
  refine PE.imp (pe_var hN hv hd hcd) fun σ H Q ⟨ρ, Z, fo, R, p, ρ', hf, k⟩ => ?_
  unfold plName at hf
  split at hf
  · rename_i ds h0
    cases hf
    obtain ⟨v, h1, h2⟩ := R.val i _ h0
    rw [hk] at h2
    obtain ⟨a, vs, rfl, _⟩ := h2
    exact ⟨_, h1, k a H Z fo R Stp.refl (Same.refl H) ⟨_, h1, rfl⟩⟩
  · (cases hf), fun ρ p ρ' h => by
  unfold plName at h
  split at h
  · rename_i ds h0
    cases h
    exact ⟨rfl, _, _, h0, rfl⟩
  · cases h⟩
theorem dpl_ix (hp : DPl X c i l o f) (hi : DE X c true false ix fi) {m : Nat} (hk : c.ks.getD i 0 = l + (m + 2) := by rfl) (hs : PlainIx ix := by intro _ _; rfl) : DPl X c i (l + 1) (.Subscript o ix pos) (plIx i f fi) := ⟨by
  refine PE.imp (pe_ix ix_list hp.pe hi.pe hs) fun σ H Q ⟨ρ, Z, fo, R, p, ρ', hf, k⟩ => ?_
  obtain ⟨⟨p0, ρ1⟩, h1, hf⟩ := Res.bind_ok hf
  obtain ⟨⟨d1, ρ2⟩, h2, hf⟩ := Res.bind_ok hf
  obtain ⟨hl, _⟩ := hp.len _ _ _ h1
  dsimp only at hf
  split at hf
  · rename_i n
    split at hf
    · rename_i d h0
      split at hf
      · rename_i j xs hx
        cases hf
        refine ⟨ρ, Z, fo, R, p0, ρ1, h1, fun b H1 Z1 fo1 R1 s1 m1 a1 => ⟨ρ1, Z1, fo1, R1, _, _, h2, fun w H2 Z2 fo2 R2 s2 m2 p2 => ?_⟩⟩
        cases p2
        obtain ⟨es, q1, q2, q3⟩ := ixD_ok hx
        have a2 := a1.same (m2 rfl)
        obtain ⟨b', ws, Qs, Rr, a', nd, _⟩ := R2.mutP (m := m + 1) (by rw [hk, hl]) h0 q1
        cases a2.inj a'
        have hj := (List.getElem?_eq_some_iff.mp q3).1
        have hw : ws[j]? = some (ws[j]'(by rw [← nd.len]; exact hj)) := List.getElem?_eq_getElem _
        obtain ⟨y, ys, ey, _⟩ := nd.q3 j _ _ q3 hw
        rw [ey] at hw
        obtain ⟨v0, hv0, hr⟩ := a'
        refine ⟨b, ws, n, _, rfl, rfl, SqL.of nd.hb, ?_, k y H2 Z2 fo2 R2 (s1.trans s2) (m1.trans (m2 rfl)) ⟨v0, hv0, readV_snoc nd.hb hw p0 v0 hr⟩⟩
        unfold atI
        rw [← nd.len, q2]
        exact hw
      · cases hf
    · cases hf
  · (cases hf), fun ρ p ρ' h => by
  obtain ⟨⟨p0, ρ1⟩, h1, hf⟩ := Res.bind_ok h
  obtain ⟨⟨d1, ρ2⟩, h2, hf⟩ := Res.bind_ok hf
  obtain ⟨hl, _⟩ := hp.len _ _ _ h1
  dsimp only at hf
  split at hf
  · rename_i n
    split at hf
    · rename_i d h0
      split at hf
      · rename_i j xs hx
        cases hf
        obtain ⟨es, q1, q2, q3⟩ := ixD_ok hx
        exact ⟨by rw [List.length_append, hl]; rfl, d, xs, h0, subD_snoc q3 _ _ q1⟩
      · cases hf
    · cases hf
  · cases hf⟩
theorem len_lt {ρ1 ρ2 : Ev} {σ : L2.St} {K : PySem.W.Frag} {Z1 Z2 : AP} {H1 H2 : Hp} {fo1 fo2 : Nat → AP} {d : D} (R1 : RS c K ρ1 Z1 σ H1 fo1) (R2 : RS c K ρ2 Z2 σ H2 fo2) (h : ρ1[i]? = some (some d)) : i < ρ2.length := by
  have := (List.getElem?_eq_some_iff.mp h).1
  rw [R2.len, ← R1.len]
  exact this
/-- place.append(e), e shared, at a list of shared items -/
def sAppP (i : Nat) (f : Ev → Res (List Nat × Ev)) (fe : Ev → Res (D × Ev)) (ρ : Ev) : Res Fl := (f ρ).bind fun p => match p.2[i]? with
  | some (some d) => match subD p.1 d with
    | some (.lst es) => (fe (p.2.set i none)).bind fun r => if es.length < 16777216 then .ok (.nx (r.2.set i (some (putD p.1 (.lst (es ++ [r.1])) d)))) else .err
    | _ => .err
  | _ => .err
theorem ds_appP {apos cpos : Pos} (hp : DPl X c i l o f) (he : DE X c false false e fe) (hk : c.ks.getD i 0 = l + (0 + 1) := by rfl)
    (hbase : attributeBase o "append" X.env (eval o X.env) = eval o X.env := by rfl)
    (hfew : ((backTo cpos (starEach [e] X.env)).all (fun x => !x.1) && (backToKw cpos (keywordEach [] X.env)).all (fun x => x.1.isSome) && decide ([e].length + ([] : List Keyword).length + (if ([] : List Keyword).isEmpty then 0 else 1) < 30)) = true := by rfl)
    (hline : (apos.endLine == cpos.line) = true := by rfl) (hs : starEach [e] X.env = (false, eval e X.env) :: starEach [] X.env := by rfl) (hplain : (backTo cpos (starEach [] X.env)).any (·.1) = false := by rfl)
    (hsw : swapsWith (.Call (.Attribute o "append" apos) [e] [] cpos) none pos.line X.env = pure false := by rfl) :
    DS X c rk (.Expr (.Call (.Attribute o "append" apos) [e] [] cpos) pos) (sAppP i f fe) := ⟨by
  refine PS.imp (ps_expr (pe_bm PySem.F.plainAttrs_list PySem.F.slot_list_append PySem.F.type_list_append mt_append hp.pe (pa_cons he.pe pa_nil hs) hbase hfew hline hs hplain) hsw) fun E σ H ⟨ρ, Z, fo, R, fl, hf, k⟩ => ?_
  obtain ⟨⟨p, ρ1⟩, h1, hf⟩ := Res.bind_ok hf
  obtain ⟨hl, _⟩ := hp.len _ _ _ h1
  dsimp only at hf
  split at hf
  · rename_i d h0
    split at hf
    · rename_i es hes
      obtain ⟨⟨d1, ρ2⟩, h2, hf⟩ := Res.bind_ok hf
      obtain ⟨hlt, e4⟩ := if_ok hf
      subst e4
      refine ⟨ρ, Z, fo, R, p, ρ1, h1, fun b H1 Z1 fo1 R1 s1 m1 a1 => ?_⟩
      have hk1 : c.ks.getD i 0 = p.length + (0 + 1) := by rw [hk, hl]
      obtain ⟨b', ws, Q, Rr, a', nd, _⟩ := R1.mutP hk1 h0 hes
      cases a1.inj a'
      refine ⟨.inl ⟨rfl, ws, SqL.of nd.hb⟩, ?_⟩
      obtain ⟨RL, sL⟩ := R1.lock h0
      refine ⟨_, Z1, _, RL, d1, ρ2, h2, fun w H2 Z2 fo2 R2 s2 m2 p2 => ?_⟩
      obtain ⟨RU, sU, hx, hap⟩ := R1.unlock h0 R2 s2
      have a2 := R1.atKeep hk1 h0 hes hx a1
      have h0' : (ρ2.set i (some d))[i]? = some (some d) := List.getElem?_set_self (len_lt R1 R2 h0)
      obtain ⟨b2, ws2, Q2, Rr2, a2', nd2, hsub2, mu⟩ := RU.mutP hk1 h0' hes
      cases a2.inj a2'
      refine ⟨b, ws2, w, rfl, rfl, nd2.hb, sizeLine_gt (by rw [← nd2.len]; exact hlt), ?_⟩
      have p2' : Ow X.K Z2 H2 0 d1 w (fun _ => False) := Sh.less (Z := Z2) (fun _ z => z) p2
      obtain ⟨fo', R3, s3, _⟩ := mu (G := fun _ => False) (R' := Rr2) (s1.trans sU) (fun _ z => z.elim) (fun _ z => .inl z) (Ow.more (fun x hx => hx.elim id fun z => z.elim) (nd2.app (P := fun _ => False) (fun _ z => z.elim) p2'))
      rw [List.set_set] at R3
      exact k σ _ Z2 fo' R3 s3
    · cases hf
  · cases hf⟩
/-- what a fresh list keeps behind a later step -/
theorem FrR.step {K : PySem.W.Frag} {ρ : Ev} {σ : L2.St} {fo0 fo fo' : Nat → AP} {Z Z' : AP} {H0 H H' : Hp} {n : Nat} {d : D} {v : V} (R : RS c K ρ Z σ H fo) (h : FrR c K fo0 H0 fo Z H n d v) (s : Stp fo Z H fo' Z' H') : FrR c K fo0 H0 fo' Z' H' n d v := by
  obtain ⟨P, a1, a2, a3, a4⟩ := h.ex
  have hn1 : ∀ b, P b → H b ≠ none := fun b hb => R.ownN b (a2 b hb).1
  refine ⟨P, Ow.keep (fun d v q => q.stp (s.s0 R)) _ d v P (fun b hb hz hn => ⟨?_, s.k3 b hz hn fun i z => a3 i b hb z⟩) a1, fun b hb => ⟨s.k3 b (a2 b hb).1 (hn1 b hb) fun i z => a3 i b hb z, (a2 b hb).2⟩, fun i b hb z => ?_, a4⟩
  · cases e : H b with
    | none => exact absurd e hn
    | some o => exact s.k1 b o e fun i z => a3 i b hb z
  · rcases s.k4 i b z with ⟨j, hj⟩ | z
    · exact a3 j b hb hj
    · exact hn1 b hb z
/-- .. e a fresh list, at a list of such -/
theorem ds_appPO {apos cpos : Pos} (hp : DPl X c i l o f) (he : DF X c n e fe) (hk : c.ks.getD i 0 = l + (n + 1 + 1) := by rfl)
    (hbase : attributeBase o "append" X.env (eval o X.env) = eval o X.env := by rfl)
    (hfew : ((backTo cpos (starEach [e] X.env)).all (fun x => !x.1) && (backToKw cpos (keywordEach [] X.env)).all (fun x => x.1.isSome) && decide ([e].length + ([] : List Keyword).length + (if ([] : List Keyword).isEmpty then 0 else 1) < 30)) = true := by rfl)
    (hline : (apos.endLine == cpos.line) = true := by rfl) (hs : starEach [e] X.env = (false, eval e X.env) :: starEach [] X.env := by rfl) (hplain : (backTo cpos (starEach [] X.env)).any (·.1) = false := by rfl)
    (hsw : swapsWith (.Call (.Attribute o "append" apos) [e] [] cpos) none pos.line X.env = pure false := by rfl) :
    DS X c rk (.Expr (.Call (.Attribute o "append" apos) [e] [] cpos) pos) (sAppP i f fe) := ⟨by
  refine PS.imp (ps_expr (pe_bm PySem.F.plainAttrs_list PySem.F.slot_list_append PySem.F.type_list_append mt_append hp.pe (pa_cons he.pe pa_nil hs) hbase hfew hline hs hplain) hsw) fun E σ H ⟨ρ, Z, fo, R, fl, hf, k⟩ => ?_
  obtain ⟨⟨p, ρ1⟩, h1, hf⟩ := Res.bind_ok hf
  obtain ⟨hl, _⟩ := hp.len _ _ _ h1
  dsimp only at hf
  split at hf
  · rename_i d h0
    split at hf
    · rename_i es hes
      obtain ⟨⟨d1, ρ2⟩, h2, hf⟩ := Res.bind_ok hf
      obtain ⟨hlt, e4⟩ := if_ok hf
      subst e4
      refine ⟨ρ, Z, fo, R, p, ρ1, h1, fun b H1 Z1 fo1 R1 s1 m1 a1 => ?_⟩
      have hk1 : c.ks.getD i 0 = p.length + (n + 1 + 1) := by rw [hk, hl]
      obtain ⟨b', ws, Q, Rr, a', nd, _⟩ := R1.mutP hk1 h0 hes
      cases a1.inj a'
      refine ⟨.inl ⟨rfl, ws, SqL.of nd.hb⟩, ?_⟩
      obtain ⟨RL, sL⟩ := R1.lock h0
      refine ⟨_, Z1, _, RL, d1, ρ2, h2, fun w H2 Z2 fo2 R2 s2 p2 => ?_⟩
      obtain ⟨RU, sU, hx, hap⟩ := R1.unlock h0 R2 s2
      have a2 := R1.atKeep hk1 h0 hes hx a1
      have h0' : (ρ2.set i (some d))[i]? = some (some d) := List.getElem?_set_self (len_lt R1 R2 h0)
      obtain ⟨b2, ws2, Q2, Rr2, a2', nd2, hsub2, mu⟩ := RU.mutP hk1 h0' hes
      cases a2.inj a2'
      refine ⟨b, ws2, w, rfl, rfl, nd2.hb, sizeLine_gt (by rw [← nd2.len]; exact hlt), ?_⟩
      obtain ⟨P, g1, g2, g3, g4⟩ := p2.ex
      have pn : ∀ x, P x → ¬ fo1 i x := fun x hx hi => by
        rcases g4 x hx with ⟨j, hj⟩ | z
        · exact hj.2 (R1.dis j i x hj.1 hi)
        · exact R1.ownN x (R1.sub i x hi).1 z
      have sub2 : ∀ x, Rr2 x → fo1 i x := fun x hx => by
        have := hsub2 x hx
        rwa [if_pos rfl] at this
      obtain ⟨fo', R3, s3, _⟩ := mu (G := P) (R' := fun x => Rr2 x ∨ P x) (s1.trans sU) (fun x hx => ⟨g2 x hx, fun j => by
          by_cases cj : j = i
          · rw [if_pos cj]
            exact pn x hx
          · rw [if_neg cj]
            exact g3 j x hx, by
          rcases g4 x hx with ⟨j, hj⟩ | z
          · exact s1.k4 j x hj.1
          · exact (s1.none z).symm⟩) (fun x hx => hx) (nd2.app (fun x hx hr => pn x hx (sub2 x hr)) g1)
      rw [List.set_set] at R3
      exact k σ _ Z2 fo' R3 s3
    · cases hf
  · cases hf⟩
/-- place.append(e), e no list -/
def sAppPN (i : Nat) (f : Ev → Res (List Nat × Ev)) (fe : Ev → Res (D × Ev)) (ρ : Ev) : Res Fl := (f ρ).bind fun p => match p.2[i]? with
  | some (some d) => match subD p.1 d with
    | some (.lst es) => (fe (p.2.set i none)).bind fun r => if es.length < 16777216 ∧ r.1.isL = false then .ok (.nx (r.2.set i (some (putD p.1 (.lst (es ++ [r.1])) d)))) else .err
    | _ => .err
  | _ => .err
theorem ds_appPN {apos cpos : Pos} (hp : DPl X c i l o f) (he : DE X c false false e fe) (hk : c.ks.getD i 0 = l + (m + 1) := by rfl)
    (hbase : attributeBase o "append" X.env (eval o X.env) = eval o X.env := by rfl)
    (hfew : ((backTo cpos (starEach [e] X.env)).all (fun x => !x.1) && (backToKw cpos (keywordEach [] X.env)).all (fun x => x.1.isSome) && decide ([e].length + ([] : List Keyword).length + (if ([] : List Keyword).isEmpty then 0 else 1) < 30)) = true := by rfl)
    (hline : (apos.endLine == cpos.line) = true := by rfl) (hs : starEach [e] X.env = (false, eval e X.env) :: starEach [] X.env := by rfl) (hplain : (backTo cpos (starEach [] X.env)).any (·.1) = false := by rfl)
    (hsw : swapsWith (.Call (.Attribute o "append" apos) [e] [] cpos) none pos.line X.env = pure false := by rfl) :
    DS X c rk (.Expr (.Call (.Attribute o "append" apos) [e] [] cpos) pos) (sAppPN i f fe) := ⟨by
  refine PS.imp (ps_expr (pe_bm PySem.F.plainAttrs_list PySem.F.slot_list_append PySem.F.type_list_append mt_append hp.pe (pa_cons he.pe pa_nil hs) hbase hfew hline hs hplain) hsw) fun E σ H ⟨ρ, Z, fo, R, fl, hf, k⟩ => ?_
  obtain ⟨⟨p, ρ1⟩, h1, hf⟩ := Res.bind_ok hf
  obtain ⟨hl, _⟩ := hp.len _ _ _ h1
  dsimp only at hf
  split at hf
  · rename_i d h0
    split at hf
    · rename_i es hes
      obtain ⟨⟨d1, ρ2⟩, h2, hf⟩ := Res.bind_ok hf
      obtain ⟨⟨hlt, hno⟩, e4⟩ := if_ok hf
      subst e4
      refine ⟨ρ, Z, fo, R, p, ρ1, h1, fun b H1 Z1 fo1 R1 s1 m1 a1 => ?_⟩
      have hk1 : c.ks.getD i 0 = p.length + (m + 1) := by rw [hk, hl]
      obtain ⟨b', ws, Q, Rr, a', nd, _⟩ := R1.mutP hk1 h0 hes
      cases a1.inj a'
      refine ⟨.inl ⟨rfl, ws, SqL.of nd.hb⟩, ?_⟩
      obtain ⟨RL, sL⟩ := R1.lock h0
      refine ⟨_, Z1, _, RL, d1, ρ2, h2, fun w H2 Z2 fo2 R2 s2 m2 p2 => ?_⟩
      obtain ⟨RU, sU, hx, hap⟩ := R1.unlock h0 R2 s2
      have a2 := R1.atKeep hk1 h0 hes hx a1
      have h0' : (ρ2.set i (some d))[i]? = some (some d) := List.getElem?_set_self (len_lt R1 R2 h0)
      obtain ⟨b2, ws2, Q2, Rr2, a2', nd2, hsub2, mu⟩ := RU.mutP hk1 h0' hes
      cases a2.inj a2'
      refine ⟨b, ws2, w, rfl, rfl, nd2.hb, sizeLine_gt (by rw [← nd2.len]; exact hlt), ?_⟩
      have p2' : Ow X.K Z2 H2 m d1 w (fun _ => False) := Ow.nolist hno p2 _
      obtain ⟨fo', R3, s3, _⟩ := mu (G := fun _ => False) (R' := Rr2) (s1.trans sU) (fun _ z => z.elim) (fun _ z => .inl z) (Ow.more (fun x hx => hx.elim id fun z => z.elim) (nd2.app (P := fun _ => False) (fun _ z => z.elim) p2'))
      rw [List.set_set] at R3
      exact k σ _ Z2 fo' R3 s3
    · cases hf
  · cases hf⟩
end
end DL
/-! places: pop, x[k] = e, x[k] op= e -/
namespace DL
open PySem PySem.Spec PyProof.Rows L2
section
variable {X : Cx} {c : DC} {rk : Option Nat} {i l m n : Nat} {o e ix : Expr} {f : Ev → Res (List Nat × Ev)} {fe fi : Ev → Res (D × Ev)} {pos : Pos}
theorem get_list : PGet X (rIxL X.K) := by
  intro pins s σ H x y v u Q I rx ry h
  obtain ⟨p, xs, i, z, rfl, rfl, hq, he, q⟩ := h
  cases rx
  obtain ⟨t, rfl⟩ := ry
  obtain ⟨its, r, pl, hz⟩ := I.list hq
  obtain ⟨j, h1, h2, h3, h4, h5⟩ := atI_get he
  obtain ⟨w, ew, rw'⟩ := r.get h2
  have hl := r.length
  have hn := line63
  have fin : EP X pins σ Q w s := ⟨z, H, I, rw', q⟩
  by_cases h0 : 0 ≤ i
  · have hj : i.toNat = j := by
      rw [seqIndex_of h0 h5] at h1
      exact Option.some.inj h1
    exact wpAny_getItem_list pl.isList h0 (by omega) (by rw [hj]; simpa using ew) fin
  · have hj : (i + (its.toArray.size : Int)).toNat = j := by
      rw [seqIndex_neg (by omega) h4] at h1
      rw [List.size_toArray, ← hl]
      exact Option.some.inj h1
    exact wpAny_getItem_list_neg pl.isList (by omega) (by rw [List.size_toArray] <;> omega) (by omega) (by rw [hj]; simpa using ew) fin
/-- place.pop() -/
def dPopP (i : Nat) (f : Ev → Res (List Nat × Ev)) (ρ : Ev) : Res (D × Ev) := (f ρ).bind fun p => match p.2[i]? with
  | some (some d) => match subD p.1 d with
    | some (.lst es) => match es[es.length - 1]? with
      | some x => .ok (x, p.2.set i (some (putD p.1 (.lst es.dropLast) d)))
      | none => .err
    | _ => .err
  | _ => .err
theorem popP {K : PySem.W.Frag} {ρ : Ev} {Z : AP} {σ : L2.St} {H : Hp} {fo fo0 : Nat → AP} {Z0 : AP} {H0 : Hp} {p : List Nat} {d x : D} {es : List D} {b : Addr} (R : RS c K ρ Z σ H fo) (s : Stp fo0 Z0 H0 fo Z H) (hk : c.ks.getD i 0 = p.length + (m + 1)) (h : ρ[i]? = some (some d)) (hs : subD p d = some (.lst es)) (hx : es[es.length - 1]? = some x) (ha : AtP σ H i p b) :
    ∃ ws w fo' P, H b = some (.lst ws) ∧ ws[ws.length - 1]? = some w ∧ RS c K (ρ.set i (some (putD p (.lst es.dropLast) d))) Z σ (upd H b (.lst ws.dropLast)) fo' ∧ Stp fo0 Z0 H0 fo' Z (upd H b (.lst ws.dropLast)) ∧ Ow K Z (upd H b (.lst ws.dropLast)) m x w P ∧ (∀ x, P x → (Z x ∧ (c.M x ∨ c.Hi x = none)) ∧ (∀ j, ¬ fo' j x) ∧ ((∃ j, fo0 j x) ∨ H0 x = none)) := by
  obtain ⟨b', ws, Q, Rr, a', nd, hsub, mu⟩ := R.mutP hk h hs
  cases ha.inj a'
  have hl := nd.len
  have hj := (List.getElem?_eq_some_iff.mp hx).1
  have hw : ws[es.length - 1]? = some (ws[es.length - 1]'(by omega)) := List.getElem?_eq_getElem _
  obtain ⟨fo', R2, s2, q1, q2⟩ := mu (G := fun _ => False) (R' := fun x => Rr x ∧ ¬ Q (es.length - 1) x) s (fun _ z => z.elim) (fun x hx => .inl hx.1) nd.last
  refine ⟨ws, _, fo', Q (es.length - 1), nd.hb, by rw [← hl]; exact hw, R2, s2, ?_, fun x hx => ?_⟩
  · exact Ow.keep (fun d v s => s.stp (stp_upd nd.zb)) m _ _ _ (fun x hx hz hn => ⟨upd_ne (nd.q1 _ x hx).2, hz⟩) (nd.q3 _ _ _ hx hw)
  · have hr := (nd.q1 _ x hx).1
    have hi := hsub x hr
    refine ⟨R.sub i x hi, fun j hj => ?_, s.k4 i x hi⟩
    rcases q1 j x hj with z | z
    · have e := R.dis j i x z hi
      rw [e] at hj
      rcases q2 x hj with y | y
      · exact y.2 hr
      · exact y.2 hx
    · exact z.2
theorem de_popP {apos cpos : Pos} (hp : DPl X c i l o f) (hk : c.ks.getD i 0 = l + (0 + 1) := by rfl) (hbase : attributeBase o "pop" X.env (eval o X.env) = eval o X.env := by rfl) (hline : (apos.endLine == cpos.line) = true := by rfl) :
    DE X c false false (.Call (.Attribute o "pop" apos) [] [] cpos) (dPopP i f) := ⟨by
  refine PE.imp (pe_bm0 PySem.F.plainAttrs_list PySem.F.slot_list_pop PySem.F.type_list_pop mt_pop hp.pe hbase hline) fun σ H Q ⟨ρ, Z, fo, R, d, ρ', hf, k⟩ => ?_
  obtain ⟨⟨p, ρ1⟩, h1, hf⟩ := Res.bind_ok hf
  obtain ⟨hl, _⟩ := hp.len _ _ _ h1
  dsimp only at hf
  split at hf
  · rename_i d0 h0
    split at hf
    · rename_i es hes
      split at hf
      · rename_i x hx
        cases hf
        refine ⟨ρ, Z, fo, R, p, ρ1, h1, fun b H1 Z1 fo1 R1 s1 m1 a1 => ?_⟩
        obtain ⟨ws, w, fo', P, e1, e2, R2, s2, ow, _⟩ := popP (m := 0) R1 s1 (by rw [hk, hl]) h0 hes hx a1
        exact ⟨.inl ⟨rfl, ws, SqL.of e1⟩, b, ws, w, rfl, rfl, e1, e2, k w _ Z1 fo' R2 s2 (fun z => nomatch z) ow⟩
      · cases hf
    · cases hf
  · cases hf⟩
theorem df_popP {apos cpos : Pos} (hp : DPl X c i l o f) (hk : c.ks.getD i 0 = l + (n + 1 + 1) := by rfl) (hbase : attributeBase o "pop" X.env (eval o X.env) = eval o X.env := by rfl) (hline : (apos.endLine == cpos.line) = true := by rfl) :
    DF X c n (.Call (.Attribute o "pop" apos) [] [] cpos) (dPopP i f) := ⟨by
  refine PE.imp (pe_bm0 PySem.F.plainAttrs_list PySem.F.slot_list_pop PySem.F.type_list_pop mt_pop hp.pe hbase hline) fun σ H Q ⟨ρ, Z, fo, R, d, ρ', hf, k⟩ => ?_
  obtain ⟨⟨p, ρ1⟩, h1, hf⟩ := Res.bind_ok hf
  obtain ⟨hl, _⟩ := hp.len _ _ _ h1
  dsimp only at hf
  split at hf
  · rename_i d0 h0
    split at hf
    · rename_i es hes
      split at hf
      · rename_i x hx
        cases hf
        refine ⟨ρ, Z, fo, R, p, ρ1, h1, fun b H1 Z1 fo1 R1 s1 m1 a1 => ?_⟩
        obtain ⟨ws, w, fo', P, e1, e2, R2, s2, ow, g⟩ := popP (m := n + 1) R1 s1 (by rw [hk, hl]) h0 hes hx a1
        exact ⟨.inl ⟨rfl, ws, SqL.of e1⟩, b, ws, w, rfl, rfl, e1, e2, k w _ Z1 fo' R2 s2 ⟨P, ow, fun x hx => (g x hx).1, fun j x hx => (g x hx).2.1 j, fun x hx => (g x hx).2.2⟩⟩
      · cases hf
    · cases hf
  · cases hf⟩
/-- a fresh list dropped -/
theorem ds_dropF (he : DF X c n e fe) (hs : swapsWith e none pos.line X.env = pure false := by rfl) : DS X c rk (.Expr e pos) (sDrop fe) := ⟨by
  refine PS.imp (ps_expr he.pe hs) fun E σ H ⟨ρ, Z, fo, R, fl, hf, k⟩ => ?_
  obtain ⟨⟨d1, ρ1⟩, h1, hf⟩ := Res.bind_ok hf
  cases hf
  exact ⟨ρ, Z, fo, R, d1, ρ1, h1, fun v H1 Z1 fo1 R1 s1 p1 => k σ H1 Z1 fo1 R1 s1⟩⟩
/-- place[ix] = e -/
def sPutP (i : Nat) (f : Ev → Res (List Nat × Ev)) (fi fe : Ev → Res (D × Ev)) (ρ : Ev) : Res Fl := (fe ρ).bind fun r => (f r.2).bind fun p => (fi p.2).bind fun x => match x.1 with
  | .int n => match x.2[i]? with
    | some (some d) => match subD p.1 d with
      | some (.lst es) => match ixN es.length n with
        | some j => .ok (.nx (x.2.set i (some (putD p.1 (.lst (es.set j r.1)) d))))
        | none => .err
      | _ => .err
    | _ => .err
  | _ => .err
theorem ixN_lt {n : Nat} {i : Int} {j : Nat} (h : ixN n i = some j) : j < n := by
  unfold ixN at h
  split at h
  · split at h
    · cases h
      omega
    · cases h
  · split at h
    · cases h
      omega
    · cases h
theorem ds_putP {tpos : Pos} (he : DE X c false false e fe) (hp : DPl X c i l o f) (hi : DE X c true false ix fi) (hk : c.ks.getD i 0 = l + (0 + 1) := by rfl)
    (ha : ∀ v, assign (.Subscript o ix tpos) X.env v = (do
      let ov ← holding [v] (eval o X.env)
      let iv ← holding [v, ov] (eval ix X.env)
      standAt tpos
      holding [v, ov, iv] (setItem ov iv v)
      release [v, ov, iv] []) := by intro _; rfl)
    (hs : swapsWithSole [.Subscript o ix tpos] e pos.line X.env = pure false := by rfl) (hw : swappedStores [.Subscript o ix tpos] e X.env = pure none := by rfl)
    (h1 : (assignEach [.Subscript o ix tpos] X.env).map (·.2) = [assign (.Subscript o ix tpos) X.env] := by rfl) :
    DS X c rk (.Assign [.Subscript o ix tpos] e pos) (sPutP i f fi fe) := ⟨by
  refine PS.imp (ps_asg he.pe (pg_sub hp.pe hi.pe set_list ha) hs hw h1) fun E σ H ⟨ρ, Z, fo, R, fl, hf, k⟩ => ?_
  obtain ⟨⟨d1, ρ1⟩, e1, hf⟩ := Res.bind_ok hf
  obtain ⟨⟨p, ρ2⟩, e2, hf⟩ := Res.bind_ok hf
  obtain ⟨⟨x, ρ3⟩, e3, hf⟩ := Res.bind_ok hf
  obtain ⟨hl, _⟩ := hp.len _ _ _ e2
  dsimp only at hf
  split at hf
  · rename_i n
    split at hf
    · rename_i d h0
      split at hf
      · rename_i es hes
        split at hf
        · rename_i j hj
          cases hf
          refine ⟨ρ, Z, fo, R, d1, ρ1, e1, fun w H1 Z1 fo1 R1 s1 m1 p1 => ⟨ρ1, Z1, fo1, R1, p, ρ2, e2, fun b H2 Z2 fo2 R2 s2 m2 a2 => ⟨ρ2, Z2, fo2, R2, _, ρ3, e3, fun y H3 Z3 fo3 R3 s3 m3 p3 => ?_⟩⟩⟩
          cases p3
          have a3 := a2.same (m3 rfl)
          have q3 : Sh X.K Z3 H3 d1 w := Sh.stp (s3.s0 R2) (Sh.stp (s2.s0 R1) p1)
          obtain ⟨b', ws, Q, Rr, a', nd, hsub, mu⟩ := R3.mutP (m := 0) (by rw [hk, hl]) h0 hes
          cases a3.inj a'
          have q3' : Ow X.K Z3 H3 0 d1 w (fun _ => False) := Sh.less (Z := Z3) (fun _ z => z) q3
          obtain ⟨fo', R4, s4, _⟩ := mu (G := fun _ => False) (R' := Rr) ((s1.trans s2).trans s3) (fun _ z => z.elim) (fun _ z => .inl z) (Ow.more (fun x hx => hx.elim id fun z => z.elim) (nd.put (k := j) (P := fun _ => False) (ixN_lt hj) (fun _ z => z.elim) q3'))
          exact ⟨b, ws, n, j, rfl, rfl, nd.hb, by rw [← nd.len]; exact hj, k σ _ Z3 fo' R4 s4⟩
        · cases hf
      · cases hf
    · cases hf
  · cases hf⟩
theorem ds_putPO {tpos : Pos} (he : DF X c n e fe) (hp : DPl X c i l o f) (hi : DE X c true false ix fi) (hk : c.ks.getD i 0 = l + (n + 1 + 1) := by rfl)
    (ha : ∀ v, assign (.Subscript o ix tpos) X.env v = (do
      let ov ← holding [v] (eval o X.env)
      let iv ← holding [v, ov] (eval ix X.env)
      standAt tpos
      holding [v, ov, iv] (setItem ov iv v)
      release [v, ov, iv] []) := by intro _; rfl)
    (hs : swapsWithSole [.Subscript o ix tpos] e pos.line X.env = pure false := by rfl) (hw : swappedStores [.Subscript o ix tpos] e X.env = pure none := by rfl)
    (h1 : (assignEach [.Subscript o ix tpos] X.env).map (·.2) = [assign (.Subscript o ix tpos) X.env] := by rfl) :
    DS X c rk (.Assign [.Subscript o ix tpos] e pos) (sPutP i f fi fe) := ⟨by
  refine PS.imp (ps_asg he.pe (pg_sub hp.pe hi.pe set_list ha) hs hw h1) fun E σ H ⟨ρ, Z, fo, R, fl, hf, k⟩ => ?_
  obtain ⟨⟨d1, ρ1⟩, e1, hf⟩ := Res.bind_ok hf
  obtain ⟨⟨p, ρ2⟩, e2, hf⟩ := Res.bind_ok hf
  obtain ⟨⟨x, ρ3⟩, e3, hf⟩ := Res.bind_ok hf
  obtain ⟨hl, _⟩ := hp.len _ _ _ e2
  dsimp only at hf
  split at hf
  · rename_i n
    split at hf
    · rename_i d h0
      split at hf
      · rename_i es hes
        split at hf
        · rename_i j hj
          cases hf
          refine ⟨ρ, Z, fo, R, d1, ρ1, e1, fun w H1 Z1 fo1 R1 s1 p1 => ⟨ρ1, Z1, fo1, R1, p, ρ2, e2, fun b H2 Z2 fo2 R2 s2 m2 a2 => ⟨ρ2, Z2, fo2, R2, _, ρ3, e3, fun y H3 Z3 fo3 R3 s3 m3 p3 => ?_⟩⟩⟩
          cases p3
          have a3 := a2.same (m3 rfl)
          obtain ⟨P, g1, g2, g3, g4⟩ := ((p1.step R1 s2).step R2 s3).ex
          obtain ⟨b', ws, Q, Rr, a', nd, hsub, mu⟩ := R3.mutP (by rw [hk, hl]) h0 hes
          cases a3.inj a'
          obtain ⟨fo', R4, s4, _⟩ := mu (G := P) (R' := fun x => Rr x ∨ P x) ((s1.trans s2).trans s3) (fun x hx => ⟨g2 x hx, fun j => g3 j x hx, g4 x hx⟩) (fun _ z => z) (nd.put (k := j) (ixN_lt hj) (fun x hx hr => g3 i x hx (hsub x hr)) g1)
          exact ⟨b, ws, _, j, rfl, rfl, nd.hb, by rw [← nd.len]; exact hj, k σ _ Z3 fo' R4 s4⟩
        · cases hf
      · cases hf
    · cases hf
  · cases hf⟩
/-- place[ix] = e, e no list -/
def sPutPN (i : Nat) (f : Ev → Res (List Nat × Ev)) (fi fe : Ev → Res (D × Ev)) (ρ : Ev) : Res Fl := (fe ρ).bind fun r => (f r.2).bind fun p => (fi p.2).bind fun x => match x.1 with
  | .int n => match x.2[i]? with
    | some (some d) => match subD p.1 d with
      | some (.lst es) => match ixN es.length n with
        | some j => if r.1.isL = false then .ok (.nx (x.2.set i (some (putD p.1 (.lst (es.set j r.1)) d)))) else .err
        | none => .err
      | _ => .err
    | _ => .err
  | _ => .err
theorem ds_putPN {tpos : Pos} (he : DE X c false false e fe) (hp : DPl X c i l o f) (hi : DE X c true false ix fi) (hk : c.ks.getD i 0 = l + (m + 1) := by rfl)
    (ha : ∀ v, assign (.Subscript o ix tpos) X.env v = (do
      let ov ← holding [v] (eval o X.env)
      let iv ← holding [v, ov] (eval ix X.env)
      standAt tpos
      holding [v, ov, iv] (setItem ov iv v)
      release [v, ov, iv] []) := by intro _; rfl)
    (hs : swapsWithSole [.Subscript o ix tpos] e pos.line X.env = pure false := by rfl) (hw : swappedStores [.Subscript o ix tpos] e X.env = pure none := by rfl)
    (h1 : (assignEach [.Subscript o ix tpos] X.env).map (·.2) = [assign (.Subscript o ix tpos) X.env] := by rfl) :
    DS X c rk (.Assign [.Subscript o ix tpos] e pos) (sPutPN i f fi fe) := ⟨by
  refine PS.imp (ps_asg he.pe (pg_sub hp.pe hi.pe set_list ha) hs hw h1) fun E σ H ⟨ρ, Z, fo, R, fl, hf, k⟩ => ?_
  obtain ⟨⟨d1, ρ1⟩, e1, hf⟩ := Res.bind_ok hf
  obtain ⟨⟨p, ρ2⟩, e2, hf⟩ := Res.bind_ok hf
  obtain ⟨⟨x, ρ3⟩, e3, hf⟩ := Res.bind_ok hf
  obtain ⟨hl, _⟩ := hp.len _ _ _ e2
  dsimp only at hf
  split at hf
  · rename_i n
    split at hf
    · rename_i d h0
      split at hf
      · rename_i es hes
        split at hf
        · rename_i j hj
          obtain ⟨hno, e4⟩ := if_ok hf
          subst e4
          refine ⟨ρ, Z, fo, R, d1, ρ1, e1, fun w H1 Z1 fo1 R1 s1 m1 p1 => ⟨ρ1, Z1, fo1, R1, p, ρ2, e2, fun b H2 Z2 fo2 R2 s2 m2 a2 => ⟨ρ2, Z2, fo2, R2, _, ρ3, e3, fun y H3 Z3 fo3 R3 s3 m3 p3 => ?_⟩⟩⟩
          cases p3
          have a3 := a2.same (m3 rfl)
          have q3 : Sh X.K Z3 H3 d1 w := Sh.stp (s3.s0 R2) (Sh.stp (s2.s0 R1) p1)
          obtain ⟨b', ws, Q, Rr, a', nd, hsub, mu⟩ := R3.mutP (m := m) (by rw [hk, hl]) h0 hes
          cases a3.inj a'
          have q3' : Ow X.K Z3 H3 m d1 w (fun _ => False) := Ow.nolist hno q3 _
          obtain ⟨fo', R4, s4, _⟩ := mu (G := fun _ => False) (R' := Rr) ((s1.trans s2).trans s3) (fun _ z => z.elim) (fun _ z => .inl z) (Ow.more (fun x hx => hx.elim id fun z => z.elim) (nd.put (k := j) (P := fun _ => False) (ixN_lt hj) (fun _ z => z.elim) q3'))
          exact ⟨b, ws, n, j, rfl, rfl, nd.hb, by rw [← nd.len]; exact hj, k σ _ Z3 fo' R4 s4⟩
        · cases hf
      · cases hf
    · cases hf
  · cases hf⟩
/-- place[ix] op= e -/
def sAugP (i : Nat) (g : D → D → Res D) (f : Ev → Res (List Nat × Ev)) (fi fe : Ev → Res (D × Ev)) (ρ : Ev) : Res Fl := (f ρ).bind fun p => (fi p.2).bind fun x => match x.1 with
  | .int n => match x.2[i]? with
    | some (some d) => match subD p.1 d with
      | some (.lst es) => match ixN es.length n with
        | some j => match es[j]? with
          | some y => (fe (x.2.set i none)).bind fun r => (g y r.1).bind fun z => .ok (.nx (r.2.set i (some (putD p.1 (.lst (es.set j z)) d))))
          | none => .err
        | none => .err
      | _ => .err
    | _ => .err
  | _ => .err
theorem ds_augP {tpos : Pos} {op : Operator} {r : R2} {g : D → D → Res D} (ho : OpR X (inplaceOp op) r) (hg : OpD X.K r g) (hp : DPl X c i l o f) (hi : DE X c true false ix fi) (he : DE X c false false e fe) (hk : c.ks.getD i 0 = l + (0 + 1) := by rfl)
    (ha : ∀ ov iv new, augStore ix ov iv new = (do holding [new, ov, iv] (setItem ov iv new); release [new, ov, iv] []; pure .next) := by intros; rfl) :
    DS X c rk (.AugAssign (.Subscript o ix tpos) op e pos) (sAugP i g f fi fe) := ⟨by
  refine PS.imp (ps_augS hp.pe hi.pe get_list he.pe (tip := r) ho set_list ha) fun E σ H ⟨ρ, Z, fo, R, fl, hf, k⟩ => ?_
  obtain ⟨⟨p, ρ1⟩, e1, hf⟩ := Res.bind_ok hf
  obtain ⟨⟨x, ρ2⟩, e2, hf⟩ := Res.bind_ok hf
  obtain ⟨hl, _⟩ := hp.len _ _ _ e1
  dsimp only at hf
  split at hf
  · rename_i n
    split at hf
    · rename_i d h0
      split at hf
      · rename_i es hes
        split at hf
        · rename_i j hj
          split at hf
          · rename_i y hy
            obtain ⟨⟨d3, ρ3⟩, e3, hf⟩ := Res.bind_ok hf
            obtain ⟨z, e4, hf⟩ := Res.bind_ok hf
            cases hf
            refine ⟨ρ, Z, fo, R, p, ρ1, e1, fun b H1 Z1 fo1 R1 s1 m1 a1 => ⟨ρ1, Z1, fo1, R1, _, ρ2, e2, fun u H2 Z2 fo2 R2 s2 m2 p2 => ?_⟩⟩
            cases p2
            have hk2 : c.ks.getD i 0 = p.length + (0 + 1) := by rw [hk, hl]
            have a2 := a1.same (m2 rfl)
            obtain ⟨b', ws, Q, Rr, a', nd, hsub, _⟩ := R2.mutP hk2 h0 hes
            cases a2.inj a'
            have hjl := ixN_lt hj
            have hw : ws[j]? = some (ws[j]'(by rw [← nd.len]; exact hjl)) := List.getElem?_eq_getElem _
            refine ⟨b, ws, n, _, rfl, rfl, SqL.of nd.hb, by unfold atI; rw [← nd.len, hj]; exact hw, ?_⟩
            have sy : Sh X.K Z2 H2 y _ := nd.q3 j _ _ hy hw
            obtain ⟨RL, sL⟩ := R2.lock h0
            refine ⟨_, Z2, _, RL, d3, ρ3, e3, fun v3 H3 Z3 fo3 R3 s3 m3 p3 => ?_⟩
            obtain ⟨RU, sU, hx, hap⟩ := R2.unlock h0 R3 s3
            have sy3 : Sh X.K Z3 H3 y _ := Sh.stp (sU.s0 R2) sy
            refine hg Z3 H3 y d3 z _ v3 _ RU.ownN sy3 p3 e4 fun vz H4 sm pz => ?_
            have R4 := RU.same sm
            have a3 := R2.atKeep hk2 h0 hes hx a2
            have a4 := a3.same sm
            have h0' : (ρ3.set i (some d))[i]? = some (some d) := List.getElem?_set_self (len_lt R2 R3 h0)
            obtain ⟨b4, ws4, Q4, Rr4, a4', nd4, hsub4, mu⟩ := R4.mutP hk2 h0' hes
            cases a4.inj a4'
            have pz' : Ow X.K Z3 H4 0 z vz (fun _ => False) := Sh.less (Z := Z3) (fun _ z => z) pz
            obtain ⟨fo', R5, s5, _⟩ := mu (G := fun _ => False) (R' := Rr4) (((s1.trans s2).trans sU).trans (Stp.same sm)) (fun _ z => z.elim) (fun _ z => .inl z) (Ow.more (fun x hx => hx.elim id fun z => z.elim) (nd4.put (k := j) (P := fun _ => False) hjl (fun _ z => z.elim) pz'))
            rw [List.set_set] at R5
            exact ⟨b, ws4, n, j, rfl, rfl, nd4.hb, by rw [← nd4.len]; exact hj, k σ _ Z3 fo' R5 s5⟩
          · cases hf
        · cases hf
      · cases hf
    · cases hf
  · cases hf⟩
end
end DL
/-! list + list, t[::-1], str, join, chains of comparisons -/
namespace DL
open PySem PySem.Spec PyProof.Rows L2
/-! ### list + list -/
theorem addL_meets {l1 l2 : Addr} {o1 o2 : Obj} {xs ys : Array Value} {n1 n2 : Nat} (c1 : o1.cls = .type "list") (c2 : o2.cls = .type "list") (e1 : o1.data = .seq xs n1) (e2 : o2.data = .seq ys n2) (hz : xs.size + ys.size ≤ sizeLine) :
    Meets (Builtin.«list.__add__» ⟨[.ref l1, .ref l2], []⟩) (fun _ R s => s.heap.get? l1 = some o1 ∧ s.heap.get? l2 = some o2 ∧ R (.ok (.ret (Value.ref s.heap.objs.size))) { s with heap := s.heap.push { cls := Value.type "list", data := Data.seq (xs ++ ys) }, toks := s.toks }) :=
  .of_wp fun prog w A R s h => by
    obtain ⟨k1, t1, q1, z1⟩ := o1
    obtain ⟨k2, t2, q2, z2⟩ := o2
    subst c1 c2 e1 e2
    obtain ⟨hp, g, d, tk, os⟩ := s
    obtain ⟨w1, w2, h⟩ := h
    have f2 := PySem.AutoSeq1.sub_list_list
    have f1 := PySem.AutoSeq1.idx_int
    wp_walk using PySem.AutoSeq1.wpAny_loadPart' w1, PySem.AutoSeq1.wpAny_loadPart' w2
    exact ⟨_, rfl, h⟩
def rCatL (K : PySem.W.Frag) : R2 := fun x y H Q => ∃ a b us vs, x = .ref a ∧ y = .ref b ∧ SqL K H a us ∧ SqL K H b vs ∧ us.length + vs.length ≤ sizeLine ∧ ∀ p, H p = none → Q (.ref p) (upd H p (.lst (us ++ vs)))
section
variable {X : Cx} {c : DC} {q b : Bool} {a e : Expr} {fa fb fe : Ev → Res (D × Ev)} {pos : Pos} {K : PySem.W.Frag}
theorem o_catL : OpR X (binaryOp .Add) (rCatL X.K) := by
  intro pins s σ H x y u w Q I rx ry ⟨l1, l2, us, vs, ex, ey, h1, h2, hz, q⟩
  subst ex ey
  cases rx
  cases ry
  obtain ⟨its, r1, ⟨o1, n1, g1, c1, _, e1⟩, _⟩ := I.list h1
  obtain ⟨jts, r2, ⟨o2, n2, g2, c2, _, e2⟩, _⟩ := I.list h2
  have k1 := r1.length
  have k2 := r2.length
  refine concat_meets ⟨o1, g1, c1⟩ ⟨o2, g2, c2⟩ PySem.noFill_list_add PySem.seq_list_add PySem.F.slot_list_add PySem.F.entry_list_add (PySem.F.args_list_add_2 _ _) (addL_meets c1 c2 e1 e2 (by rw [List.size_toArray, List.size_toArray]; omega)) ⟨g1, g2, ?_⟩
  have ea : its.toArray ++ jts.toArray = (its ++ jts).toArray := by simp
  rw [ea]
  exact ⟨.ref _, _, I.lnew (t' := s.toks) (r1.append r2) (by rw [List.length_append]; omega), rfl, q _ I.fresh⟩
theorem RdL.all {Z : AP} {H : Hp} {p : Addr} {vs : List V} (h : RdL K Z H p vs) : SqL K H p vs := h.sq
/-- a fresh list of the items of two -/
def gCat : D → D → Res D
  | .lst ds, .lst es => if ds.length + es.length ≤ 16777216 then .ok (.lst (ds ++ es)) else .err
  | _, _ => .err
theorem df_cat (ha : DE X c false false a fa) (hb : DE X c false false e fb) : DF X c 0 (.BinOp a .Add e pos) (dOp gCat fa fb) := ⟨by
  refine PE.imp (pe_op o_catL ha.pe hb.pe) fun σ H Q ⟨ρ, Z, fo, R, d, ρ', hf, k⟩ => ?_
  obtain ⟨⟨d1, ρ1⟩, h1, hf⟩ := Res.bind_ok hf
  obtain ⟨⟨d2, ρ2⟩, h2, hf⟩ := Res.bind_ok hf
  obtain ⟨z, h3, hf⟩ := Res.bind_ok hf
  cases hf
  refine ⟨ρ, Z, fo, R, _, ρ1, h1, fun x H1 Z1 fo1 R1 s1 m1 p1 => ⟨ρ1, Z1, fo1, R1, _, ρ2, h2, fun y H2 Z2 fo2 R2 s2 m2 p2 => ?_⟩⟩
  have p1' : Sh X.K Z2 H2 d1 x := Sh.stp (s2.s0 R1) p1
  have p2' : Sh X.K Z2 H2 d2 y := p2
  cases d1 with
  | lst ds => ?_
  | _ => cases h3
  cases d2 with
  | lst es => ?_
  | _ => cases h3
  obtain ⟨hl, ez⟩ := if_ok h3
  subst ez
  obtain ⟨a1, vs1, rfl, r1, t1⟩ := p1'
  obtain ⟨a2, vs2, rfl, r2, t2⟩ := p2'
  refine ⟨a1, a2, vs1, vs2, rfl, rfl, r1.sq, r2.sq, sizeLine_ge (by rw [← t1.len, ← t2.len]; exact hl), fun p hp => ?_⟩
  obtain ⟨R3, s3⟩ := R2.take (vs := vs1 ++ vs2) hp
  exact k _ _ _ fo2 R3 ((s1.trans s2).trans s3) ((FrR.new R2 hp (t1.app t2)).back (s1.trans s2))⟩
/-- x + e, x an owned list -/
def dCatO (i : Nat) (fb : Ev → Res (D × Ev)) (ρ : Ev) : Res (D × Ev) := match ρ[i]? with
  | some (some (.lst _)) => (fb ρ).bind fun p => match p.2[i]? with
    | some (some d) => (gCat d p.1).bind fun z => .ok (z, p.2)
    | _ => .err
  | _ => .err
theorem df_catO (i : Nat) {x : PySem.Str} {px : Pos} (hb : DE X c false false e fb) (hk : c.ks.getD i 0 = 1 := by rfl) (hN : X.N[i]? = some x := by rfl) (hv : Vis X.env.scope x := by first | exact Or.inl rfl | exact Or.inr (Or.inl rfl) | exact Or.inr (Or.inr rfl)) (hd : (x == ("__debug__" : Str)) = false := by decide)
    (hcd : (x == ("__classdict__" : Str)) = false := by decide) : DF X c 0 (.BinOp (.Name x px) .Add e pos) (dCatO i fb) := ⟨by
  refine PE.imp (pe_op o_catL (pe_var hN hv hd hcd) hb.pe) fun σ H Q ⟨ρ, Z, fo, R, d, ρ', hf, k⟩ => ?_
  unfold dCatO at hf
  split at hf
  · rename_i ds0 h0
    obtain ⟨⟨d2, ρ2⟩, h2, hf⟩ := Res.bind_ok hf
    dsimp only at hf
    split at hf
    · rename_i d1 h1
      obtain ⟨z, h3, hf⟩ := Res.bind_ok hf
      cases hf
      obtain ⟨a0, vs0, q1, _⟩ := R.mut1 hk h0
      refine ⟨_, q1, ρ, Z, fo, R, _, _, h2, fun y H2 Z2 fo2 R2 s2 m2 p2 => ?_⟩
      have p2' : Sh X.K Z2 H2 d2 y := p2
      cases d1 with
      | lst ds => ?_
      | _ => cases h3
      cases d2 with
      | lst es => ?_
      | _ => cases h3
      obtain ⟨hl, ez⟩ := if_ok h3
      subst ez
      obtain ⟨a1, vs1, w1, w2, t1, _⟩ := R2.mut1 hk h1
      rw [q1] at w1
      cases w1
      obtain ⟨a2, vs2, rfl, r2, t2⟩ := p2'
      refine ⟨a0, a2, vs1, vs2, rfl, rfl, SqL.of w2, r2.sq, sizeLine_ge (by rw [← t1.len, ← t2.len]; exact hl), fun p hp => ?_⟩
      obtain ⟨R3, s3⟩ := R2.take (vs := vs1 ++ vs2) hp
      exact k _ _ _ fo2 R3 (s2.trans s3) ((FrR.new R2 hp (t1.app t2)).back s2)
    · cases hf
  · cases hf⟩
/-- e + x, x an owned list -/
def dCatE (i : Nat) (fa : Ev → Res (D × Ev)) (ρ : Ev) : Res (D × Ev) := (fa ρ).bind fun p => match p.2[i]? with
  | some (some d) => (gCat p.1 d).bind fun z => .ok (z, p.2)
  | _ => .err
theorem df_catE (i : Nat) {x : PySem.Str} {px : Pos} (ha : DE X c false false a fa) (hk : c.ks.getD i 0 = 1 := by rfl) (hN : X.N[i]? = some x := by rfl) (hv : Vis X.env.scope x := by first | exact Or.inl rfl | exact Or.inr (Or.inl rfl) | exact Or.inr (Or.inr rfl)) (hd : (x == ("__debug__" : Str)) = false := by decide)
    (hcd : (x == ("__classdict__" : Str)) = false := by decide) : DF X c 0 (.BinOp a .Add (.Name x px) pos) (dCatE i fa) := ⟨by
  refine PE.imp (pe_op o_catL ha.pe (pe_var hN hv hd hcd)) fun σ H Q ⟨ρ, Z, fo, R, d, ρ', hf, k⟩ => ?_
  obtain ⟨⟨d1, ρ2⟩, h1, hf⟩ := Res.bind_ok hf
  dsimp only at hf
  split at hf
  · rename_i d2 h2
    obtain ⟨z, h3, hf⟩ := Res.bind_ok hf
    cases hf
    refine ⟨ρ, Z, fo, R, _, _, h1, fun y H2 Z2 fo2 R2 s2 m2 p2 => ?_⟩
    have p2' : Sh X.K Z2 H2 d1 y := p2
    cases d1 with
    | lst es => ?_
    | _ => cases h3
    cases d2 with
    | lst ds => ?_
    | _ => cases h3
    obtain ⟨hl, ez⟩ := if_ok h3
    subst ez
    obtain ⟨a1, vs1, w1, w2, t1, _⟩ := R2.mut1 hk h2
    obtain ⟨a2, vs2, rfl, r2, t2⟩ := p2'
    refine ⟨_, w1, a2, a1, vs2, vs1, rfl, rfl, r2.sq, SqL.of w2, sizeLine_ge (by rw [← t1.len, ← t2.len]; exact hl), fun p hp => ?_⟩
    obtain ⟨R3, s3⟩ := R2.take (vs := vs2 ++ vs1) hp
    exact k _ _ _ fo2 R3 (s2.trans s3) ((FrR.new R2 hp (t2.app t1)).back s2)
  · cases hf⟩

/-! ### xs[::-1] -/
theorem rev_places (n : Nat) : Builtin.Slice.slicePlaces ((n : Int) - 1) (-1) (-1) = n := by
  unfold Builtin.Slice.slicePlaces
  rw [if_neg (by decide)]
  simp only [Int.neg_neg, Int.ediv_one]
  split <;> omega
theorem fm_map {α β : Type} {f : α → Option β} {g : α → β} : ∀ {l : List α}, (∀ a ∈ l, f a = some (g a)) → l.filterMap f = l.map g
  | [], _ => rfl
  | a :: l, h => by rw [List.filterMap_cons, h a List.mem_cons_self, List.map_cons, fm_map fun b hb => h b (List.mem_cons_of_mem _ hb)]
theorem rev_pick (xs : Array Value) : ((List.range xs.size).filterMap fun (k : Nat) => xs[(((xs.size : Nat) : Int) - 1 + (k : Int) * (-1)).toNat]?).toArray = xs.toList.reverse.toArray := by
  congr 1
  obtain ⟨ys⟩ := xs
  have hg : ∀ i : Nat, (Array.mk ys)[i]? = ys[i]? := fun i => by simp
  simp only [hg]
  show (List.range ys.length).filterMap (fun (k : Nat) => ys[((ys.length : Int) - 1 + (k : Int) * (-1)).toNat]?) = ys.reverse
  apply List.ext_getElem?
  intro i
  have key : (List.range ys.length).filterMap (fun (k : Nat) => ys[((ys.length : Int) - 1 + (k : Int) * (-1)).toNat]?) = (List.range ys.length).map (fun k => ys.getD (ys.length - 1 - k) .none) := by
    refine fm_map fun k hk => ?_
    have hk := List.mem_range.mp hk
    have e : ((ys.length : Int) - 1 + (k : Int) * (-1)).toNat = ys.length - 1 - k := by omega
    have hl : ys.length - 1 - k < ys.length := by omega
    show ys[((ys.length : Int) - 1 + (k : Int) * (-1)).toNat]? = some (ys.getD (ys.length - 1 - k) .none)
    rw [e, List.getD_eq_getElem?_getD, List.getElem?_eq_getElem hl]
    rfl
  rw [key, List.getElem?_map]
  by_cases hi : i < ys.length
  · have hl : ys.length - 1 - i < ys.length := by omega
    rw [List.getElem?_range hi, List.getElem?_reverse hi, List.getElem?_eq_getElem hl]
    show some (ys.getD (ys.length - 1 - i) .none) = _
    rw [List.getD_eq_getElem?_getD, List.getElem?_eq_getElem hl]
    rfl
  · rw [List.getElem?_eq_none (by rw [List.length_range]; omega), List.getElem?_eq_none (by rw [List.length_reverse]; omega)]
    rfl
section
variable {prog : Program} {w : World} {A : Around} {E : Value → Shared → Prop} {s : Shared}
theorem getItem_tup_rev {t sl : Addr} {xs : Array Value} {u : Tok} {Q : Value → Shared → Prop} (ht : IsTup s.heap t xs) (hs : s.heap.IsSliceOf sl .none .none (.int (-1) u))
    (h : Q (.ref s.heap.objs.size) { s with heap := s.heap.push { cls := .type "tuple", data := .seq xs.toList.reverse.toArray } }) (hsz : xs.size ≤ sizeLine) : wpAny (model prog w) A (getItem (.ref t) (.ref sl)) Q E s := by
  have hfit : sizeOk (.seq xs.toList.reverse.toArray) := by
    show xs.toList.reverse.toArray.size ≤ sizeLine
    rw [List.size_toArray, List.length_reverse, Array.length_toList]
    exact hsz
  obtain ⟨os, g1, g2, g3⟩ := id hs
  have isSl : s.TypeIs (.ref sl) "slice" := ⟨os, g1, g2⟩
  unfold getItem
  try with_reducible refine wpAny_holding ?_
  first | refine wpAny_bind (wpAny_pure ?_) | skip
  refine wpAny_bind (wpAny_sequenceKey ht.typeIs (by decide) ?_)
  refine wpAny_bind (wpAny_callSpecial?_slot (name := Str.ofString "__getitem__") ht.typeIs PyProof.Rows.slot_tuple_getitem (wpAny_call_entry PyProof.Rows.slot_tuple_getitem ht.typeIs entry_tuple_getitem ?_ (args_tuple_getitem _ _)))
  show wpAny _ _ (Builtin.Tuple.tupleItemsOf (.ref t) >>= _) _ _ s
  refine wpAny_bind (tupleItemsOf_ ht ?_)
  refine wpAny_bind (wpAny_typeOf isSl ?_)
  rw [if_pos (by decide)]
  have hap : ∀ {A' : Around} {E' : Value → Shared → Prop} {Q' : Int × Int × Nat → Shared → Prop}, Q' ((xs.size : Int) - 1, -1, xs.size) s → wpAny (model prog w) A' (Builtin.Slice.sliceApplied (.ref sl) (pure (xs.size : Int))) Q' E' s := fun {A' E' Q'} hq => by
    unfold Builtin.Slice.sliceApplied Builtin.Slice.sliceFields
    refine wpAny_bind (wpAny_bind (wpAny_field g1 g3 (x := .none) rfl (wpAny_bind (wpAny_field g1 g3 (x := .none) rfl (wpAny_bind (wpAny_field g1 g3 (x := .int (-1) u) rfl (wpAny_pure ?_)))))))
    refine wpAny_bind (slicePart_int ?_)
    show wpAny _ _ (if ((-1 : Int) == 0) = true then _ else _) _ _ s
    rw [if_neg (by decide)]
    refine wpAny_bind (slicePart_none (wpAny_bind (slicePart_none (wpAny_bind (wpAny_pure ?_)))))
    refine wpAny_pure ?_
    have e : (Builtin.Slice.slicePlaces ((xs.size : Int) - 1) (-1) (-1)) = xs.size := rev_places _
    show Q' ((xs.size : Int) - 1, -1, Builtin.Slice.slicePlaces ((xs.size : Int) - 1) (-1) (-1)) s
    rw [e]
    exact hq
  refine wpAny_bind (hap ?_)
  have hno : ¬ ((((xs.size : Int) - 1 == 0) && ((-1 : Int) == 1) && (xs.size == xs.size)) = true) := by
    intro q
    rw [Bool.and_eq_true, Bool.and_eq_true] at q
    exact absurd (eq_of_beq q.1.2) (by decide)
  show wpAny _ _ (if ((((xs.size : Int) - 1 == 0) && ((-1 : Int) == 1) && (xs.size == xs.size)) = true) then _ else _) _ _ s
  rw [if_neg hno, rev_pick]
  first
    | exact wpAny_bind (m := Builtin.Tuple.tupleExact _) (wpAny_newObj_type (wpAny_pure ⟨_, rfl, wpAny_pure h⟩) hfit)
    | exact wpAny_bind (m := Builtin.Tuple.tupleExact _) (wpAny_newObj_type (wpAny_bind (wpAny_pure (wpAny_pure ⟨_, rfl, wpAny_pure h⟩))) hfit)
    | exact wpAny_bind (wpAny_bind (m := Builtin.Tuple.tupleExact _) (wpAny_newObj_type (wpAny_pure (wpAny_pure ⟨_, rfl, wpAny_pure h⟩)) hfit))
    | exact wpAny_bind (wpAny_bind (m := Builtin.Tuple.tupleExact _) (wpAny_newObj_type (wpAny_pure ⟨_, rfl, wpAny_pure h⟩) hfit))
end
end
end DL
/-! xs[::-1], str, join; fresh lists handed over -/
namespace DL
open PySem PySem.Spec PyProof.Rows L2
section
variable {X : Cx} {c : DC} {q b : Bool} {a e o : Expr} {fa fb fe fo' : Ev → Res (D × Ev)} {pos : Pos}
def tRevA (K : PySem.W.Frag) (te : TE) : TE := fun σ H Q => te σ H fun x H1 => ∃ p xs, x = .ref p ∧ ((SqL K H1 p xs ∧ ∀ n, H1 n = none → Q (.ref n) (upd H1 n (.lst xs.reverse))) ∨ (SqT K H1 p xs ∧ ∀ n, H1 n = none → Q (.ref n) (upd H1 n (.tup xs.reverse))))
theorem pe_revA {te : TE} {k : Nat} {p1 p2 p3 pos : Pos} (he : PE X e te) : PE X (.Subscript e (.Slice none none (some (.UnaryOp .USub (.Constant (.int 1) k p1) p2)) p3) pos) (tRevA X.K te) := ⟨fun pins s σ H Q I h => by
  refine Subscript_ (thn (he.run pins s σ H _ I h) fun v s1 ⟨x, H1, I1, r1, p, xs, ex, h2⟩ => ?_)
  subst ex
  cases r1
  have step : PO X (some (.UnaryOp .USub (.Constant (.int 1) k p1) p2)) (tPart (tUn (rU fun i => .int (-i)) (tC (.int 1)))) := po_some (pe_un un_neg pe_int)
  refine wpAny_Slice (thn (po_none.run pins s1 σ H1 (fun o H2 => o = none ∧ H2 = H1) I1 ⟨rfl, rfl⟩) fun vl s2 ⟨l, H2, I2, pl, el, e2⟩ => ?_)
  subst el e2
  refine thn (po_none.run pins s2 σ H2 (fun o H3 => o = none ∧ H3 = H2) I2 ⟨rfl, rfl⟩) fun vu s3 ⟨u, H3, I3, pu, eu, e3⟩ => ?_
  subst eu e3
  refine thn (step.run pins s3 σ H3 (fun o H4 => o = some (-1) ∧ H4 = H3) I3 ⟨1, rfl, -1, rfl, rfl, rfl⟩) fun vs s4 ⟨o, H4, I4, ps, eo, e4⟩ => ?_
  subst eo e4
  have I5 : Inv X pins σ H4 { s4 with heap := s4.heap.push { cls := .type "slice", data := .fields #[vl, vu, vs] } } := I4.kept (t' := s4.toks) fun b ob q => Heap.get?_push_of_some _ q
  show wpAny (model X.prog X.w) X.A (subscriptTail e (.Slice none none (some (.UnaryOp .USub (.Constant (.int 1) k p1) p2)) p3) (.ref p) (.ref s4.heap.objs.size)) (EP X pins σ Q) X.xe { s4 with heap := s4.heap.push { cls := .type "slice", data := .fields #[vl, vu, vs] } }
  rcases h2 with ⟨hx, w⟩ | ⟨hx, w⟩
  · obtain ⟨its, r, ht, hz⟩ := I5.list hx
    have hlen := r.length
    refine tail_any (ops := [.ref p, .ref s4.heap.objs.size]) ht.isList.typeIs (PySem.slot_list_getitem.lookup) ?_ (by with_unfolding_all rfl)
    refine wpAny_getItem_list_slice ht.isList (Heap.IsSliceOf.new _ vl vu vs) pl pu ps (by decide) ?_ (by rw [List.size_toArray]; omega)
    rw [PySem.W.krv_pick]
    exact ⟨.ref _, _, I5.laid (t' := s4.toks) (o := .lst xs.reverse) (fun b ob q => Heap.get?_push_of_some _ q) (Nat.le_refl _) ⟨by rw [List.length_reverse]; exact hz, _, 0, r.reverse, Heap.get?_push_size _ rfl⟩, rfl, w _ (I5.hok.fresh (Nat.le_refl _))⟩
  · obtain ⟨its, r, ht, hz⟩ := I5.tuple hx
    have hlen := r.length
    cases pl
    cases pu
    cases ps
    refine tail_any (ops := [.ref p, .ref s4.heap.objs.size]) ht.typeIs (PyProof.Rows.slot_tuple_getitem.lookup) ?_ (by with_unfolding_all rfl)
    refine getItem_tup_rev ht (Heap.IsSliceOf.new _ _ _ _) ?_ (by rw [List.size_toArray]; omega)
    exact ⟨.ref _, _, I5.laid (t' := s4.toks) (o := .tup xs.reverse) (fun b ob q => Heap.get?_push_of_some _ q) (Nat.le_refl _) ⟨by rw [List.length_reverse]; exact hz, _, r.reverse, IsTup.new _ _⟩, rfl, w _ (I5.hok.fresh (Nat.le_refl _))⟩⟩
def gRev : D → Res D
  | .tup ds => .ok (.tup ds.reverse)
  | .lst ds => .ok (.lst ds.reverse)
  | _ => .err
theorem de_rev {k : Nat} {p1 p2 p3 pos : Pos} (he : DE X c q b e fe) : DE X c q b (.Subscript e (.Slice none none (some (.UnaryOp .USub (.Constant (.int 1) k p1) p2)) p3) pos) (dUn gRev fe) := ⟨by
  refine PE.imp (pe_revA he.pe) fun σ H Q ⟨ρ, Z, fo, R, d, ρ', hf, k⟩ => ?_
  obtain ⟨⟨d1, ρ1⟩, h1, hf⟩ := Res.bind_ok hf
  obtain ⟨z, h2, hf⟩ := Res.bind_ok hf
  cases hf
  refine ⟨ρ, Z, fo, R, _, _, h1, fun x H1 Z1 fo1 R1 s1 m1 p1 => ?_⟩
  cases d1 with
  | tup ds =>
    cases h2
    obtain ⟨a, vs, rfl, r, t⟩ := p1
    refine ⟨a, vs, rfl, .inr ⟨r.sq, fun n hn => ?_⟩⟩
    have sm : Same H1 (upd H1 n (.tup vs.reverse)) := same_upd hn
    exact k _ _ Z1 fo1 (R1.same sm) (s1.trans (Stp.same sm)) (fun hq => (m1 hq).trans sm) ⟨n, vs.reverse, rfl, RdT.new upd_same (zb_nz (R1.nz hn)), Shs.same sm t.rev⟩
  | lst ds =>
    cases h2
    obtain ⟨a, vs, rfl, r, t⟩ := p1
    refine ⟨a, vs, rfl, .inl ⟨r.sq, fun n hn => ?_⟩⟩
    have sm : Same H1 (upd H1 n (.lst vs.reverse)) := same_upd hn
    exact k _ _ Z1 fo1 (R1.same sm) (s1.trans (Stp.same sm)) (fun hq => (m1 hq).trans sm) ⟨n, vs.reverse, rfl, RdL.new upd_same (zb_nz (R1.nz hn)), Shs.same sm t.rev⟩
  | _ => cases h2⟩
/-! str -/
def gStrOf : List D → Res D
  | [.int i] => if i.natAbs.log2 < 1920 then .ok (.str (toString i)) else .err
  | [.str x] => .ok (.str x)
  | _ => .err
theorem call_str1 : CallR X (.type "str") (fun xs H Q => (∃ i, xs = [.int i] ∧ i.natAbs.log2 < 1920 ∧ Q (.str (toString i)) H) ∨ ∃ a, xs = [.str a] ∧ Q (.str a) H) := call_str_int.or SkE.call_str_str
theorem c_str {K : PySem.W.Frag} : CallD K (fun xs H Q => (∃ i, xs = [.int i] ∧ i.natAbs.log2 < 1920 ∧ Q (.str (toString i)) H) ∨ ∃ a, xs = [.str a] ∧ Q (.str a) H) gStrOf := by
  intro Z H ds z xs Q hn hs hg k
  match ds, hg, hs with
  | [.int i], hg, hs =>
    obtain ⟨x, rfl, s⟩ := shs1 hs
    cases s
    obtain ⟨hl, e⟩ := if_ok hg
    subst e
    exact .inl ⟨i, rfl, hl, k _ H (Same.refl H) rfl⟩
  | [.str x], hg, hs =>
    obtain ⟨y, rfl, s⟩ := shs1 hs
    cases s
    cases hg
    exact .inr ⟨x, rfl, k _ H (Same.refl H) rfl⟩
/-! sep.join(xs) -/
def strs? : List D → Option (List PySem.Str)
  | [] => some []
  | .str x :: ds => (strs? ds).map fun r => x :: r
  | _ :: _ => none
theorem strs_ok {K : PySem.W.Frag} {Z : AP} {H : Hp} : ∀ {ds : List D} {vs : List V} {ns : List PySem.Str}, Shs K Z H ds vs → strs? ds = some ns → vs = ns.map V.str
  | [], vs, ns, s, h => by
    cases h
    exact s
  | .str x :: ds, vs, ns, ⟨v, r, e, s1, s2⟩, h => by
    cases hr : strs? ds with
    | none =>
      have h' : (strs? ds).map (fun r => x :: r) = some ns := h
      rw [hr] at h'; cases h'
    | some ms =>
      have h' : (strs? ds).map (fun r => x :: r) = some ns := h
      rw [hr] at h'
      cases h'
      cases s1
      rw [e, strs_ok s2 hr]
      rfl
  | .non :: _, _, _, _, h => by cases h
  | .bl _ :: _, _, _, _, h => by cases h
  | .int _ :: _, _, _, _, h => by cases h
  | .tup _ :: _, _, _, _, h => by cases h
  | .lst _ :: _, _, _, _, h => by cases h
  | .fn _ :: _, _, _, _, h => by cases h
  | .ty _ :: _, _, _, _, h => by cases h
def gJoin (s d : D) : Res D := match s with
  | .str a => match seqOf d with
    | some ds => match strs? ds with
      | some ys => if (ys.map (·.length)).sum + ys.length * a.length ≤ 16777216 then .ok (.str (Txt.join a ys)) else .err
      | none => .err
    | none => .err
  | _ => .err
theorem de_join {apos pos : Pos} (ho : DE X c q b o fa) (he : DE X c q b e fe) (hq : b = true → q = true := by decide) (hs : starEach [e] X.env = [(false, eval e X.env)] := by rfl) (hbase : attributeBase o "join" X.env (eval o X.env) = eval o X.env := by rfl) (hline : (apos.endLine == pos.line) = true := by rfl) :
    DE X c q b (.Call (.Attribute o "join" apos) [e] [] pos) (dOp gJoin fa fe) := ⟨by
  refine PE.imp (pe_join ho.pe he.pe hs hbase hline) fun σ H Q ⟨ρ, Z, fo, R, d, ρ', hf, k⟩ => ?_
  obtain ⟨⟨d1, ρ1⟩, h1, hf⟩ := Res.bind_ok hf
  obtain ⟨⟨d2, ρ2⟩, h2, hf⟩ := Res.bind_ok hf
  obtain ⟨z, h3, hf⟩ := Res.bind_ok hf
  cases hf
  cases d1 with
  | str a => ?_
  | _ => cases h3
  unfold gJoin at h3
  dsimp only at h3
  split at h3
  · rename_i ds hsq
    split at h3
    · rename_i ys hys
      obtain ⟨hl, ez⟩ := if_ok h3
      subst ez
      refine ⟨ρ, Z, fo, R, _, _, h1, fun x H1 Z1 fo1 R1 s1 m1 p1 => ⟨⟨a, p1⟩, ρ1, Z1, fo1, R1, _, _, h2, fun y H2 Z2 fo2 R2 s2 m2 p2 => ?_⟩⟩
      have p2' : Sh X.K (if b = true then Z0 else Z2) H2 d2 y := p2
      obtain ⟨p, vs, rfl, sq, sh⟩ := seq_ok p2' hsq
      have ev := strs_ok sh hys
      subst ev
      exact ⟨a, p, ys, p1, rfl, sq, hl, k _ H2 Z2 fo2 R2 (s1.trans s2) (fun hq => (m1 hq).trans (m2 hq)) rfl⟩
    · cases h3
  · cases h3⟩
end
/-! ### fresh lists handed over -/
inductive AK2 where
  | s
  | io (i : Nat)
  | fr
def ArgsR2 (K : PySem.W.Frag) (σ : L2.St) (Z : AP) (H : Hp) : List AK2 → List (Option D) → List V → List V → Prop
  | [], [], [], [] => True
  | .s :: as, some d :: ds, v :: vs, fs => Sh K Z H d v ∧ ArgsR2 K σ Z H as ds vs fs
  | .io i :: as, none :: ds, v :: vs, fs => σ[i]? = some (some v) ∧ ArgsR2 K σ Z H as ds vs fs
  | .fr :: as, none :: ds, v :: vs, w :: fs => v = w ∧ ArgsR2 K σ Z H as ds vs fs
  | _, _, _, _ => False
/-- the fresh ones stand behind the slots -/
def asOf (N : Nat) : List AK2 → List AK
  | [] => []
  | .s :: as => .s :: asOf N as
  | .io i :: as => .io i :: asOf N as
  | .fr :: as => .io N :: asOf (N + 1) as
def tArgs2 (c : DC) (K : PySem.W.Frag) (n : Nat) (as : List AK2) (f : Ev → Res (List (Option D) × List D × Ev)) : TA := fun σ H Q => ∃ ρ Z fo, RS c K ρ Z σ H fo ∧ ∃ ds fs ρ', f ρ = .ok (ds, fs, ρ') ∧
  ∀ vs ws H' Z' fo', RS c K ρ' Z' σ H' fo' → Stp fo Z H fo' Z' H' → ArgsR2 K σ Z' H' as ds vs ws → FrRs c K fo H fo' Z' H' (n + 1) fs ws → Q vs H'
structure DA2 (X : Cx) (c : DC) (n : Nat) (es : List Expr) (as : List AK2) (f : Ev → Res (List (Option D) × List D × Ev)) : Prop where
  pa : PA X es (tArgs2 c X.K n as f)
def a2Nil (ρ : Ev) : Res (List (Option D) × List D × Ev) := .ok ([], [], ρ)
def a2S (f : Ev → Res (D × Ev)) (g : Ev → Res (List (Option D) × List D × Ev)) (ρ : Ev) : Res (List (Option D) × List D × Ev) := (f ρ).bind fun p => (g p.2).bind fun r => .ok (some p.1 :: r.1, r.2.1, r.2.2)
def a2IO (i : Nat) (g : Ev → Res (List (Option D) × List D × Ev)) (ρ : Ev) : Res (List (Option D) × List D × Ev) := match ρ[i]? with
  | some (some _) => (g ρ).bind fun r => .ok (none :: r.1, r.2.1, r.2.2)
  | _ => .err
def a2F (f : Ev → Res (D × Ev)) (g : Ev → Res (List (Option D) × List D × Ev)) (ρ : Ev) : Res (List (Option D) × List D × Ev) := (f ρ).bind fun p => (g p.2).bind fun r => .ok (none :: r.1, p.1 :: r.2.1, r.2.2)
section
variable {K : PySem.W.Frag}
theorem FrRs.back {c : DC} {fo0 fo1 fo : Nat → AP} {Z0 Z1 Z : AP} {H0 H1 H : Hp} {n : Nat} {ds : List D} {vs : List V} (s : Stp fo0 Z0 H0 fo1 Z1 H1) (h : FrRs c K fo1 H1 fo Z H n ds vs) : FrRs c K fo0 H0 fo Z H n ds vs := by
  obtain ⟨Q, b0, b1, b2, b3, b4, b5⟩ := h.ex
  refine ⟨Q, b0, b1, b2, b3, b4, fun i b hb => ?_⟩
  rcases b5 i b hb with ⟨j, hj⟩ | z
  · exact s.k4 j b hj
  · exact (s.none z).symm
theorem FrRs.nil {c : DC} {fo0 fo : Nat → AP} {Z : AP} {H0 H : Hp} {n : Nat} : FrRs c K fo0 H0 fo Z H n [] [] :=
  ⟨fun _ _ => False, rfl, fun i d v h => by simp at h, fun _ _ z => z.elim, fun _ _ _ z => z.elim, fun _ _ _ z => z.elim, fun _ _ z => z.elim⟩
/-- a fresh one ahead of others that came behind it -/
theorem FrRs.cons {c : DC} {ρ : Ev} {σ : L2.St} {fo0 fo1 fo2 : Nat → AP} {Z1 Z2 : AP} {H0 H1 H2 : Hp} {n : Nat} {d : D} {v : V} {ds : List D} {vs : List V} (R1 : RS c K ρ Z1 σ H1 fo1) (s2 : Stp fo1 Z1 H1 fo2 Z2 H2) {Zz : AP} (s1 : Stp fo0 Zz H0 fo1 Z1 H1)
    (p1 : FrR c K fo0 H0 fo1 Z1 H1 n d v) (p2 : FrRs c K fo1 H1 fo2 Z2 H2 (n + 1) ds vs) : FrRs c K fo0 H0 fo2 Z2 H2 (n + 1) (d :: ds) (v :: vs) := by
  obtain ⟨P, a1, a2, a3, a4⟩ := (p1.step R1 s2).ex
  obtain ⟨_, _, w2, w3, _⟩ := p1.ex
  obtain ⟨P', a1', a2', a3', a4'⟩ := p1.ex
  obtain ⟨Q2, b0, b1, b2, b3, b4, b5⟩ := p2.ex
  have hn1 : ∀ b, P' b → H1 b ≠ none := fun b hb => R1.ownN b (a2' b hb).1
  have hp2 : ∀ i b, Q2 i b → ¬ P' b := fun i b hb hp => by
    rcases b5 i b hb with ⟨j, hj⟩ | z
    · exact a3' j b hp hj
    · exact hn1 b hp z
  have kp : ∀ b, P' b → Z1 b → H1 b ≠ none → H2 b = H1 b ∧ Z2 b := fun b hb hz hn => ⟨by
    cases e : H1 b with
    | none => exact absurd e hn
    | some o => exact s2.k1 b o e fun i z => a3' i b hb z, s2.k3 b hz hn fun i z => a3' i b hb z⟩
  refine ⟨fun i => match i with
    | 0 => P'
    | i + 1 => Q2 i, by rw [List.length_cons, List.length_cons, b0], fun i d v e1 e2 => ?_, fun i b hb => ?_, fun i j b hi hj => ?_, fun i j b hi => ?_, fun i b hb => ?_⟩
  · cases i with
    | zero =>
      cases e1
      cases e2
      exact Ow.keep (fun d v s => s.stp (s2.s0 R1)) _ _ _ P' kp a1'
    | succ i => exact b1 i d v (by simpa using e1) (by simpa using e2)
  · cases i with
    | zero => exact ⟨(kp b hb (a2' b hb).1 (hn1 b hb)).2, (a2' b hb).2⟩
    | succ i => exact b2 i b hb
  · cases i with
    | zero =>
      cases j with
      | zero => rfl
      | succ j => exact absurd hi (hp2 j b hj)
    | succ i =>
      cases j with
      | zero => exact absurd hj (hp2 i b hi)
      | succ j => rw [b3 i j b hi hj]
  · cases i with
    | zero =>
      intro z
      rcases s2.k4 j b z with ⟨k, hk⟩ | z
      · exact a3' k b hi hk
      · exact hn1 b hi z
    | succ i => exact b4 i j b hi
  · cases i with
    | zero => exact a4' b hb
    | succ i =>
      rcases b5 i b hb with ⟨j, hj⟩ | z
      · exact s1.k4 j b hj
      · exact (s1.none z).symm
end
theorem ArgsR2.fst {K : PySem.W.Frag} {σ : L2.St} {Z Z' : AP} {H H' : Hp} : True := True.intro
section
variable {X : Cx} {c : DC} {n : Nat}
theorem da2_nil : DA2 X c n [] [] a2Nil := ⟨by
  refine PA.imp pa_nil fun σ H Q ⟨ρ, Z, fo, R, ds, fs, ρ', hf, k⟩ => ?_
  cases hf
  exact k [] [] H Z fo R Stp.refl True.intro FrRs.nil⟩
theorem da2_s {e : Expr} {es : List Expr} {as : List AK2} {f : Ev → Res (D × Ev)} {g : Ev → Res (List (Option D) × List D × Ev)} (ha : DE X c false false e f) (hr : DA2 X c n es as g) (hs : starEach (e :: es) X.env = (false, eval e X.env) :: starEach es X.env := by rfl) : DA2 X c n (e :: es) (.s :: as) (a2S f g) := ⟨by
  refine PA.imp (pa_cons ha.pe hr.pa hs) fun σ H Q ⟨ρ, Z, fo, R, ds, fs, ρ', hf, k⟩ => ?_
  obtain ⟨⟨d1, ρ1⟩, h1, hf⟩ := Res.bind_ok hf
  obtain ⟨⟨d2, f2, ρ2⟩, h2, hf⟩ := Res.bind_ok hf
  cases hf
  refine ⟨ρ, Z, fo, R, d1, ρ1, h1, fun x H1 Z1 fo1 R1 s1 m1 p1 => ⟨ρ1, Z1, fo1, R1, d2, _, _, h2, fun xs ws H2 Z2 fo2 R2 s2 p2 q2 => ?_⟩⟩
  exact k (x :: xs) ws H2 Z2 fo2 R2 (s1.trans s2) ⟨Sh.stp (s2.s0 R1) p1, p2⟩ (q2.back s1)⟩
theorem da2_io (i : Nat) {x : PySem.Str} {pos : Pos} {es : List Expr} {as : List AK2} {g : Ev → Res (List (Option D) × List D × Ev)} (hr : DA2 X c n es as g) (hN : X.N[i]? = some x := by rfl) (hv : Vis X.env.scope x := by first | exact Or.inl rfl | exact Or.inr (Or.inl rfl) | exact Or.inr (Or.inr rfl)) (hd : (x == ("__debug__" : Str)) = false := by decide)
    (hcd : (x == ("__classdict__" : Str)) = false := by decide) (hs : starEach (.Name x pos :: es) X.env = (false, eval (.Name x pos) X.env) :: starEach es X.env := by rfl) : DA2 X c n (.Name x pos :: es) (.io i :: as) (a2IO i g) := ⟨by
  refine PA.imp (pa_cons (pe_var hN hv hd hcd) hr.pa hs) fun σ H Q ⟨ρ, Z, fo, R, ds, fs, ρ', hf, k⟩ => ?_
  unfold a2IO at hf
  split at hf
  · rename_i d0 h0
    obtain ⟨⟨d2, f2, ρ2⟩, h2, hf⟩ := Res.bind_ok hf
    cases hf
    obtain ⟨v, q1, _⟩ := R.val i d0 h0
    exact ⟨v, q1, ρ, Z, fo, R, d2, _, _, h2, fun xs ws H2 Z2 fo2 R2 s2 p2 q2 => k (v :: xs) ws H2 Z2 fo2 R2 s2 ⟨q1, p2⟩ q2⟩
  · cases hf⟩
theorem da2_f {e : Expr} {es : List Expr} {as : List AK2} {f : Ev → Res (D × Ev)} {g : Ev → Res (List (Option D) × List D × Ev)} (ha : DF X c n e f) (hr : DA2 X c n es as g) (hs : starEach (e :: es) X.env = (false, eval e X.env) :: starEach es X.env := by rfl) : DA2 X c n (e :: es) (.fr :: as) (a2F f g) := ⟨by
  refine PA.imp (pa_cons ha.pe hr.pa hs) fun σ H Q ⟨ρ, Z, fo, R, ds, fs, ρ', hf, k⟩ => ?_
  obtain ⟨⟨d1, ρ1⟩, h1, hf⟩ := Res.bind_ok hf
  obtain ⟨⟨d2, f2, ρ2⟩, h2, hf⟩ := Res.bind_ok hf
  cases hf
  refine ⟨ρ, Z, fo, R, d1, ρ1, h1, fun x H1 Z1 fo1 R1 s1 p1 => ⟨ρ1, Z1, fo1, R1, d2, _, _, h2, fun xs ws H2 Z2 fo2 R2 s2 p2 q2 => ?_⟩⟩
  exact k (x :: xs) (x :: ws) H2 Z2 fo2 R2 (s1.trans s2) ⟨rfl, p2⟩ (FrRs.cons R1 s2 s1 p1 q2)⟩
/-! the state with the fresh ones behind the slots -/
abbrev DC.ext (c : DC) (n m : Nat) : DC := { c with ks := c.ks ++ List.replicate m (n + 1), pl := [] }
theorem RS.ext {K : PySem.W.Frag} {ρ : Ev} {Z : AP} {σ : L2.St} {H : Hp} {fo fo0 : Nat → AP} {H0 : Hp} {fs : List D} {ws : List V} (R : RS c K ρ Z σ H fo) (hl : c.ks.length = ρ.length) (h : FrRs c K fo0 H0 fo Z H (n + 1) fs ws) :
    ∃ fo', RS (c.ext n fs.length) K (ρ ++ fs.map some) Z (σ ++ ws.map some) H fo' ∧ (∀ j, j < ρ.length → ∀ x, fo' j x ↔ fo j x) ∧ ∀ j x, ρ.length ≤ j → fo' j x → (Z x ∧ (c.M x ∨ c.Hi x = none)) ∧ (∀ i, ¬ fo i x) ∧ ((∃ j, fo0 j x) ∨ H0 x = none) := by
  obtain ⟨Q, b0, b1, b2, b3, b4, b5⟩ := h.ex
  refine ⟨fun j => if j < ρ.length then fo j else Q (j - ρ.length), ?_, fun j hj x => by dsimp only; rw [if_pos hj], fun j x hj hx => ?_⟩
  · refine { R with len := ?_, val := fun j d hd => ?_, dis := fun i j x hi hj => ?_, sub := fun j x hx => ?_, pin := fun i hi => nomatch hi }
    · rw [List.length_append, List.length_append, List.length_map, List.length_map, b0, R.len]
    · by_cases hj : j < ρ.length
      · rw [List.getElem?_append_left hj] at hd
        obtain ⟨v, h1, h2⟩ := R.val j d hd
        refine ⟨v, by rw [List.getElem?_append_left (by rw [← R.len]; exact hj)]; exact h1, ?_⟩
        have e : (c.ks ++ List.replicate fs.length (n + 1)).getD j 0 = c.ks.getD j 0 := by
          rw [List.getD_eq_getElem?_getD, List.getD_eq_getElem?_getD, List.getElem?_append_left (by omega)]
        show Ow K Z H ((c.ks ++ List.replicate fs.length (n + 1)).getD j 0) d v _
        rw [e, if_pos hj]
        exact h2
      · rw [List.getElem?_append_right (by omega), List.getElem?_map] at hd
        obtain ⟨d', h1, h2⟩ : ∃ d', fs[j - ρ.length]? = some d' ∧ d' = d := by
          cases e : fs[j - ρ.length]? with
          | none => rw [e] at hd; cases hd
          | some d' =>
            rw [e] at hd
            cases hd
            exact ⟨d, rfl, rfl⟩
        subst h2
        have hf := (List.getElem?_eq_some_iff.mp h1).1
        have hw : ws[j - ρ.length]? = some (ws[j - ρ.length]'(by omega)) := List.getElem?_eq_getElem _
        refine ⟨_, by rw [List.getElem?_append_right (by rw [← R.len]; omega), List.getElem?_map, ← R.len, hw]; rfl, ?_⟩
        have e : (c.ks ++ List.replicate fs.length (n + 1)).getD j 0 = n + 1 := by
          rw [List.getD_eq_getElem?_getD, List.getElem?_append_right (by omega), List.getElem?_replicate, if_pos (by omega)]
          rfl
        show Ow K Z H ((c.ks ++ List.replicate fs.length (n + 1)).getD j 0) d' _ _
        rw [e, if_neg hj]
        exact b1 _ _ _ h1 hw
    · by_cases ci : i < ρ.length
      · by_cases cj : j < ρ.length
        · rw [if_pos ci] at hi
          rw [if_pos cj] at hj
          exact R.dis i j x hi hj
        · rw [if_pos ci] at hi
          rw [if_neg cj] at hj
          exact absurd hi (b4 _ i x hj)
      · by_cases cj : j < ρ.length
        · rw [if_neg ci] at hi
          rw [if_pos cj] at hj
          exact absurd hj (b4 _ j x hi)
        · rw [if_neg ci] at hi
          rw [if_neg cj] at hj
          have := b3 _ _ x hi hj
          omega
    · by_cases cj : j < ρ.length
      · rw [if_pos cj] at hx
        exact R.sub j x hx
      · rw [if_neg cj] at hx
        exact b2 _ x hx
  · dsimp only at hx
    rw [if_neg (by omega)] at hx
    exact ⟨b2 _ x hx, fun i => b4 _ i x hx, b5 _ x hx⟩
theorem RS.strip {K : PySem.W.Frag} {ρ ρ' : Ev} {Z Z' : AP} {σ : L2.St} {ws : List (Option V)} {H H' : Hp} {fo fo' : Nat → AP} {m : Nat} (R : RS c K ρ Z σ H fo) (hl : c.ks.length = ρ.length) (R' : RS (c.ext n m) K ρ' Z' (σ ++ ws) H' fo') (hlen : ρ.length ≤ ρ'.length) :
    RS c K (ρ'.take ρ.length) Z' σ H' (fun j x => fo' j x ∧ j < ρ.length) := by
  refine { R' with len := ?_, val := fun j d hd => ?_, dis := fun i j x hi hj => R'.dis i j x hi.1 hj.1, sub := fun j x hx => R'.sub j x hx.1, pin := fun i hi => R.pin i hi }
  · rw [List.length_take, Nat.min_eq_left hlen, R.len]
  · have hj : j < ρ.length := by
      have := (List.getElem?_eq_some_iff.mp hd).1
      rw [List.length_take] at this
      omega
    rw [List.getElem?_take_of_lt hj] at hd
    obtain ⟨v, h1, h2⟩ := R'.val j d hd
    refine ⟨v, by rwa [List.getElem?_append_left (by rw [← R.len]; exact hj)] at h1, ?_⟩
    have e : (c.ks ++ List.replicate m (n + 1)).getD j 0 = c.ks.getD j 0 := by
      rw [List.getD_eq_getElem?_getD, List.getD_eq_getElem?_getD, List.getElem?_append_left (by omega)]
    have h2' : Ow K Z' H' ((c.ks ++ List.replicate m (n + 1)).getD j 0) d v (fo' j) := h2
    rw [e] at h2'
    exact Ow.more (fun x hx => ⟨hx, hj⟩) h2'
theorem ArgsR2.to {K : PySem.W.Frag} {σ : L2.St} {Z : AP} {H : Hp} {ws : List V} : ∀ {as : List AK2} {os : List (Option D)} {vs us : List V} (k : Nat), ArgsR2 K σ Z H as os vs us → (∀ j u, us[j]? = some u → ws[k + j]? = some u) → ArgsR K (σ ++ ws.map some) Z H (asOf (σ.length + k) as) os vs
  | [], [], [], [], _, _, _ => True.intro
  | .s :: as, some d :: ds, v :: vs, us, k, h, g => ⟨h.1, ArgsR2.to k h.2 g⟩
  | .io i :: as, none :: ds, v :: vs, us, k, h, g => ⟨by
      have := (List.getElem?_eq_some_iff.mp h.1).1
      rw [List.getElem?_append_left this]
      exact h.1, ArgsR2.to k h.2 g⟩
  | .fr :: as, none :: ds, v :: vs, u :: us, k, h, g => ⟨by
      rw [List.getElem?_append_right (by omega), List.getElem?_map, show σ.length + k - σ.length = k + 0 by omega, g 0 u rfl, h.1]
      rfl, by
      have := ArgsR2.to (k + 1) h.2 (fun j w hw => by
        have := g (j + 1) w (by simpa using hw)
        rwa [show k + 1 + j = k + (j + 1) by omega])
      exact this⟩
  | [], [], [], _ :: _, _, h, _ => h.elim
  | [], [], _ :: _, _, _, h, _ => by cases h
  | [], _ :: _, _, _, _, h, _ => by cases h
  | .s :: as, [], _, _, _, h, _ => by cases h
  | .s :: as, none :: ds, _, _, _, h, _ => by cases h
  | .s :: as, some d :: ds, [], _, _, h, _ => by cases h
  | .io i :: as, [], _, _, _, h, _ => by cases h
  | .io i :: as, some d :: ds, _, _, _, h, _ => by cases h
  | .io i :: as, none :: ds, [], _, _, h, _ => by cases h
  | .fr :: as, [], _, _, _, h, _ => by cases h
  | .fr :: as, some d :: ds, _, _, _, h, _ => by cases h
  | .fr :: as, none :: ds, [], _, _, h, _ => by cases h
  | .fr :: as, none :: ds, v :: vs, [], _, h, _ => by cases h
def dCall2 (N : Nat) (as : List AK2) (F : Fn) (g : Ev → Res (List (Option D) × List D × Ev)) (ρ : Ev) : Res (D × Ev) := (g ρ).bind fun p => if p.2.2.length = N then (fillA (p.2.2 ++ p.2.1.map some) (asOf N as) p.1).bind fun ds => (F ds).bind fun r => .ok (r.1, (putA (asOf N as) r.2 (p.2.2 ++ p.2.1.map some)).take N) else .err
end
end DL
/-! calls with fresh lists handed over -/
namespace DL
open PySem PySem.Spec PyProof.Rows L2
def frs : List AK2 → Nat
  | [] => 0
  | .fr :: as => frs as + 1
  | .s :: as => frs as
  | .io _ :: as => frs as
section
variable {X : Cx} {c : DC} {K : PySem.W.Frag} {n : Nat}
theorem ArgsR2.cnt {σ : L2.St} {Z : AP} {H : Hp} : ∀ {as : List AK2} {os : List (Option D)} {vs us : List V}, ArgsR2 K σ Z H as os vs us → us.length = frs as
  | [], [], [], [], _ => rfl
  | .s :: as, some d :: ds, v :: vs, us, h => ArgsR2.cnt (as := as) h.2
  | .io i :: as, none :: ds, v :: vs, us, h => ArgsR2.cnt (as := as) h.2
  | .fr :: as, none :: ds, v :: vs, u :: us, h => by
    show us.length + 1 = frs as + 1
    rw [ArgsR2.cnt (as := as) h.2]
  | [], [], [], _ :: _, h => h.elim
  | [], [], _ :: _, _, h => by cases h
  | [], _ :: _, _, _, h => by cases h
  | .s :: as, [], _, _, h => by cases h
  | .s :: as, none :: ds, _, _, h => by cases h
  | .s :: as, some d :: ds, [], _, h => by cases h
  | .io i :: as, [], _, _, h => by cases h
  | .io i :: as, some d :: ds, _, _, h => by cases h
  | .io i :: as, none :: ds, [], _, h => by cases h
  | .fr :: as, [], _, _, h => by cases h
  | .fr :: as, some d :: ds, _, _, h => by cases h
  | .fr :: as, none :: ds, [], _, h => by cases h
  | .fr :: as, none :: ds, v :: vs, [], h => by cases h
theorem call2_read {N : Nat} {ks : List Nat} {rk : Option Nat} {F : Fn} {as : List AK2} {g : Ev → Res (List (Option D) × List D × Ev)} {σ : L2.St} {H : Hp} {Q : VK} (hN0 : c.ks.length = N) (hks : ksOf (c.ks ++ List.replicate (frs as) (n + 1)) (asOf N as) = ks) (nd : (ios (asOf N as)).Nodup) (h0 : ∀ i ∈ ios (asOf N as), (c.ks ++ List.replicate (frs as) (n + 1)).getD i 0 ≠ 0)
    (h : ∃ ρ Z fo, RS c K ρ Z σ H fo ∧ ∃ d ρ', dCall2 N as F g ρ = .ok (d, ρ') ∧ ∀ v H' Z' fo', RS c K ρ' Z' σ H' fo' → Stp fo Z H fo' Z' H' → ResK c K rk fo H fo' Z' H' d v → Q v H') : tCall (spD K ks rk F) [] E0 (tArgs2 c K n as g) σ H Q := by
  obtain ⟨ρ, Z, fo, R, d, ρ', hf, k⟩ := h
  obtain ⟨⟨os, fs, ρ1⟩, h1, hf⟩ := Res.bind_ok hf
  dsimp only at hf
  obtain ⟨hN, hf⟩ := if_ok' hf
  obtain ⟨ds, h2, hf⟩ := Res.bind_ok hf
  obtain ⟨⟨d1, ds'⟩, h3, hf⟩ := Res.bind_ok hf
  cases hf
  subst hks
  refine ⟨ρ, Z, fo, R, os, fs, ρ1, h1, fun vs ws H1 Z1 fo1 R1 s1 a1 p1 => ?_⟩
  have hl : c.ks.length = ρ1.length := by rw [hN0, hN]
  obtain ⟨foE, RE, eq1, eq2⟩ := R1.ext hl p1
  have hfs : fs.length = frs as := by
    obtain ⟨_, b0, _⟩ := p1.ex
    rw [b0, a1.cnt]
  rw [hfs] at RE
  have a2 : ArgsR K (σ ++ ws.map some) Z1 H1 (asOf N as) os vs := by
    have := ArgsR2.to (ws := ws) 0 a1 (fun j u h => by rw [Nat.zero_add]; exact h)
    rw [Nat.add_zero, ← R1.len, hN] at this
    exact this
  show spD K (ksOf (c.ks ++ List.replicate (frs as) (n + 1)) (asOf N as)) rk F (vs ++ []) H1 Q E0
  rw [List.append_nil]
  refine sp_of (c := c.ext n (frs as)) RE nd a2 h2 h3 fun v H2 Z2 fo2 ce => ?_
  obtain ⟨R2, s2⟩ := RE.called nd a2 h2 h0 ce
  have hlen : ρ1.length ≤ (putA (asOf N as) ds' (ρ1 ++ fs.map some)).length := by
    rw [putA_len, List.length_append]
    omega
  have R3 := R1.strip hl R2 hlen
  have back : ∀ {i b}, foE i b → (∃ j, fo j b) ∨ H b = none := fun {i b} hi => by
    by_cases ci : i < ρ1.length
    · exact s1.k4 i b ((eq1 i ci b).mp hi)
    · exact (eq2 i b (by omega) hi).2.2
  have nE : ∀ {b o}, H b = some o → (∀ i, ¬ fo i b) → ∀ i, ¬ foE i b := fun {b o} e hf i hi => by
    rcases back hi with ⟨j, hj⟩ | z
    · exact hf j hj
    · rw [z] at e; cases e
  have subE : ∀ {i b}, foE i b → c.M b ∨ c.Hi b = none := fun {i b} hi => by
    by_cases ci : i < ρ1.length
    · exact (R1.sub i b ((eq1 i ci b).mp hi)).2
    · exact (eq2 i b (by omega) hi).1.2
  have S : Stp fo Z H (fun j x => foN foE fo2 (asOf N as) j x ∧ j < ρ1.length) Z2 H2 := by
    refine ⟨fun b o e hf => s2.k1 b o (s1.k1 b o e hf) (nE e hf), fun b hb => ?_, fun b hb hn hf => ?_, fun i b hb => ?_⟩
    · rcases s2.k2 b hb with z | z | ⟨i, z⟩
      · exact s1.k2 b z
      · exact .inr (s1.none z)
      · rcases back z with z | z
        · exact .inr (.inr z)
        · exact .inr (.inl z)
    · cases e : H b with
      | none => exact absurd e hn
      | some o =>
        have e1 := s1.k1 b o e hf
        exact s2.k3 b (s1.k3 b hb hn hf) (by rw [e1]; exact fun z => nomatch z) (nE e hf)
    · rcases s2.k4 i b hb.1 with ⟨j, hj⟩ | z
      · exact back hj
      · exact (s1.none z).symm
  rw [hN] at R3 S
  refine k v H2 Z2 _ R3 S ?_
  cases rk with
  | none => exact ce.res
  | some m =>
    obtain ⟨P, q1, q2, q3⟩ := ce.res
    have hP : ∀ b, P b → (∃ i, i ∈ ios (asOf N as) ∧ foE i b) ∨ H1 b = none := fun b hb => by
      rcases (q2 b hb).2 with ⟨x, i, hi, hib⟩ | z
      · exact .inl ⟨i, mem_ios.mpr ⟨x, hi⟩, hib⟩
      · exact .inr z
    refine ⟨P, q1, fun b hb => ⟨(q2 b hb).1, ?_⟩, fun i b hb z => ?_, fun b hb => ?_⟩
    · rcases hP b hb with ⟨i, _, hib⟩ | z
      · exact subE hib
      · exact .inr (R1.dm b z)
    · rcases z.1 with ⟨j, hj, hjb⟩ | ⟨hi, hib⟩
      · exact q3 j b hb hjb
      · rcases hP b hb with ⟨x, hx, hxb⟩ | y
        · exact hi (RE.dis i x b hib hxb ▸ hx)
        · exact RE.ownN b (RE.sub i b hib).1 y
    · rcases hP b hb with ⟨i, _, hib⟩ | z
      · exact back hib
      · exact (s1.none z).symm
theorem de_call2 (N n : Nat) {k j : Nat} {x : PySem.Str} {p pos : Pos} {e : Expr} {es : List Expr} {ks : List Nat} {F : Fn} {as : List AK2} {g : Ev → Res (List (Option D) × List D × Ev)} (G : DFn X.prog X.w X.K X.mg X.base j x ks none F) (hr : Room k X.A) (hj : j ≤ k) (ha : DA2 X c n (e :: es) as g) (hN0 : c.ks.length = N := by rfl)
    (hks : ksOf (c.ks ++ List.replicate (frs as) (n + 1)) (asOf N as) = ks := by rfl) (nd : (ios (asOf N as)).Nodup := by decide) (h0 : ((ios (asOf N as)).all fun i => (c.ks ++ List.replicate (frs as) (n + 1)).getD i 0 != 0) = true := by rfl)
    (hg : Gl X x := by rfl) (hdb : (x == ("__debug__" : Str)) = false := by decide) (he : starEach (e :: es) X.env = (false, eval e X.env) :: starEach es X.env := by rfl) (hpl : (backTo pos (starEach es X.env)).any (·.1) = false := by rfl) :
    DE X c false false (.Call (.Name x p) (e :: es) [] pos) (dCall2 N as F g) := ⟨by
  obtain ⟨f, fd, ps, h1, h2, h3, h4⟩ := G.ex
  refine PE.imp (pe_call h4 (hr.mono hj) hg h1 h2 h3 .nil pass0 ha.pa hdb he hpl) fun σ H Q ⟨ρ, Z, fo, R, d, ρ', hf, q⟩ => ?_
  exact call2_read hN0 hks nd (allN h0) ⟨ρ, Z, fo, R, d, ρ', hf, fun v H' Z' fo' R' s' r' => q v H' Z' fo' R' s' (fun z => nomatch z) r'⟩⟩
theorem df_call2 (N n : Nat) {k j m : Nat} {x : PySem.Str} {p pos : Pos} {e : Expr} {es : List Expr} {ks : List Nat} {F : Fn} {as : List AK2} {g : Ev → Res (List (Option D) × List D × Ev)} (G : DFn X.prog X.w X.K X.mg X.base j x ks (some m) F) (hr : Room k X.A) (hj : j ≤ k) (ha : DA2 X c n (e :: es) as g) (hN0 : c.ks.length = N := by rfl)
    (hks : ksOf (c.ks ++ List.replicate (frs as) (n + 1)) (asOf N as) = ks := by rfl) (nd : (ios (asOf N as)).Nodup := by decide) (h0 : ((ios (asOf N as)).all fun i => (c.ks ++ List.replicate (frs as) (n + 1)).getD i 0 != 0) = true := by rfl)
    (hg : Gl X x := by rfl) (hdb : (x == ("__debug__" : Str)) = false := by decide) (he : starEach (e :: es) X.env = (false, eval e X.env) :: starEach es X.env := by rfl) (hpl : (backTo pos (starEach es X.env)).any (·.1) = false := by rfl) :
    DF X c m (.Call (.Name x p) (e :: es) [] pos) (dCall2 N as F g) := ⟨by
  obtain ⟨f, fd, ps, h1, h2, h3, h4⟩ := G.ex
  refine PE.imp (pe_call h4 (hr.mono hj) hg h1 h2 h3 .nil pass0 ha.pa hdb he hpl) fun σ H Q ⟨ρ, Z, fo, R, d, ρ', hf, q⟩ => ?_
  exact call2_read hN0 hks nd (allN h0) ⟨ρ, Z, fo, R, d, ρ', hf, fun v H' Z' fo' R' s' r' => q v H' Z' fo' R' s' r'⟩⟩
/-! chains of two comparisons -/
def dChain (g g' : D → D → Res D) (fa fb fc : Ev → Res (D × Ev)) (ρ : Ev) : Res (D × Ev) := (fa ρ).bind fun p => (fb p.2).bind fun r => (g p.1 r.1).bind fun z => match z with
  | .bl true => (fc r.2).bind fun t => (g' r.1 t.1).bind fun y => .ok (y, t.2)
  | .bl false => .ok (.bl false, r.2)
  | _ => .err
section
variable {q b : Bool} {a1 a2 a3 : Expr} {fa fb fc : Ev → Res (D × Ev)} {pos : Pos} {op op' : CmpOp} {r r' : R2} {g g' : D → D → Res D}
theorem tChD (h : OpD K r g) (h' : OpD K r' g') (hq : b = true → q = true) {σ : L2.St} {H : Hp} {Q : VK} (t : tD c K q b (dChain g g' fa fb fc) σ H Q) : tChain r r' (tD c K q b fa) (tD c K q b fb) (tD c K q b fc) σ H Q := by
  obtain ⟨ρ, Z, fo, R, d, ρ', hf, k⟩ := t
  obtain ⟨⟨d1, ρ1⟩, h1, hf⟩ := Res.bind_ok hf
  obtain ⟨⟨d2, ρ2⟩, h2, hf⟩ := Res.bind_ok hf
  obtain ⟨z, h3, hf⟩ := Res.bind_ok hf
  refine ⟨ρ, Z, fo, R, d1, ρ1, h1, fun x H1 Z1 fo1 R1 s1 m1 p1 => ⟨ρ1, Z1, fo1, R1, d2, ρ2, h2, fun y H2 Z2 fo2 R2 s2 m2 p2 => ?_⟩⟩
  refine h _ H2 d1 d2 _ x y _ (zb_own R2.ownN) (Rp.keep R1 hq s2 m2 p1) p2 h3 fun v H3 sm p3 => ?_
  cases z with
  | bl kk =>
    refine ⟨kk, p3, ?_⟩
    have R3 := R2.same sm
    have p2' : Sh K (if b = true then Z0 else Z2) H3 d2 y := Sh.same sm p2
    cases kk with
    | true =>
      rw [if_pos rfl]
      obtain ⟨⟨d3, ρ3⟩, h4, hf⟩ := Res.bind_ok hf
      obtain ⟨w, h5, hf⟩ := Res.bind_ok hf
      cases hf
      refine ⟨ρ2, Z2, fo2, R3, d3, _, h4, fun u H4 Z4 fo4 R4 s4 m4 p4 => ?_⟩
      refine h' _ H4 d2 d3 _ y u _ (zb_own R4.ownN) (Rp.keep R3 hq s4 m4 p2') p4 h5 fun v5 H5 sm5 p5 => ?_
      exact k v5 H5 Z4 fo4 (R4.same sm5) ((((s1.trans s2).trans (Stp.same sm)).trans s4).trans (Stp.same sm5)) (fun hq => ((((m1 hq).trans (m2 hq)).trans sm).trans (m4 hq)).trans sm5) p5
    | false =>
      rw [if_neg Bool.false_ne_true]
      cases hf
      exact k _ H3 Z2 fo2 R3 ((s1.trans s2).trans (Stp.same sm)) (fun hq => ((m1 hq).trans (m2 hq)).trans sm) rfl
  | _ => cases hf
theorem de_chain (ho : OpR X (compareOp op) r) (ho' : OpR X (compareOp op') r') (h : OpD X.K r g) (h' : OpD X.K r' g') (ha : DE X c q b a1 fa) (hb : DE X c q b a2 fb) (hc : DE X c q b a3 fc) (hm : lastMarks [op, op'] [a2, a3] = false := by rfl) (hq : b = true → q = true := by decide) : DE X c q b (.Compare a1 [op, op'] [a2, a3] pos) (dChain g g' fa fb fc) :=
  ⟨PE.imp (pe_chain ho ho' ha.pe hb.pe hc.pe (hm := hm)) fun _ _ _ t => tChD h h' hq t⟩
theorem dt_chain (ho : OpR X (compareOp op) r) (ho' : OpR X (compareOp op') r') (h : OpD X.K r g) (h' : OpD X.K r' g') (ha : DE X c q b a1 fa) (hb : DE X c q b a2 fb) (hc : DE X c q b a3 fc) (hm : lastMarks [op, op'] [a2, a3] = false := by rfl) (hq : b = true → q = true := by decide) : DT X c q (.Compare a1 [op, op'] [a2, a3] pos) (dBool (dChain g g' fa fb fc)) :=
  ⟨PT.imp (pt_chain ho ho' ha.pe hb.pe hc.pe (hm := hm)) fun σ H Q t => tTestD (b := b) (fun Q' t' => tChD h h' hq t') t⟩
end
end
end DL
/-! x, y, .. = place: lists within it lent to slots for a while -/
namespace DL
open PySem PySem.Spec PyProof.Rows L2
/-! paths again -/
theorem subD_put {x : D} : ∀ (p : List Nat) (d e : D), subD p d = some x → subD p (putD p e d) = some e
  | [], _, _, _ => rfl
  | k :: p, d, e, h => by
    obtain ⟨ds, y, rfl, hy, h⟩ := subD_cons h
    have hk := (List.getElem?_eq_some_iff.mp hy).1
    rw [putD_cons hy]
    show (match (ds.set k (putD p e y))[k]? with | some x => subD p x | none => none) = _
    rw [List.getElem?_set_self hk]
    exact subD_put p y e h
theorem putD_put {x : D} : ∀ (p : List Nat) (d e e' : D), subD p d = some x → putD p e (putD p e' d) = putD p e d
  | [], _, _, _, _ => rfl
  | k :: p, d, e, e', h => by
    obtain ⟨ds, y, rfl, hy, h⟩ := subD_cons h
    have hk := (List.getElem?_eq_some_iff.mp hy).1
    rw [putD_cons hy, putD_cons hy, putD_cons (x := putD p e' y) (List.getElem?_set_self hk), putD_put p y e e' h, List.set_set]
theorem putD_snoc {es : List D} {x : D} {j : Nat} (hx : es[j]? = some x) : ∀ (p : List Nat) (d e : D), subD p d = some (.lst es) → putD (p ++ [j]) e d = putD p (.lst (es.set j e)) d
  | [], d, e, h => by
    cases h
    rw [List.nil_append, putD_cons hx]
    rfl
  | k :: p, d, e, h => by
    obtain ⟨ds, y, rfl, hy, h⟩ := subD_cons h
    rw [List.cons_append, putD_cons hy, putD_cons hy, putD_snoc hx p y e h]
section
variable {c : DC} {K : PySem.W.Frag} {ρ : Ev} {Z : AP} {σ : L2.St} {H : Hp} {fo : Nat → AP} {i h : Nat}
/-- a list within an owned one, owned by another slot for a while; its place tells the address alone -/
theorem RS.lend {p : List Nat} {m : Nat} {d : D} {es : List D} {b : Addr} (R : RS c K ρ Z σ H fo) (hk : c.ks.getD i 0 = p.length + (m + 1)) (hkh : c.ks.getD h 0 = m + 1) (hih : h ≠ i) (h0 : ρ[i]? = some (some d)) (hs : subD p d = some (.lst es)) (hσ : σ[h]? = some (some (.ref b))) (ha : AtP σ H i p b) :
    ∃ fo', RS c K ((ρ.set i (some (putD p (.fn b) d))).set h (some (.lst es))) Z σ H fo' ∧ ∀ j x, fo' j x → ∃ k, fo k x := by
  obtain ⟨v, h1, h2⟩ := R.val i _ h0
  rw [hk] at h2
  obtain ⟨y, Rr, r1, r2, r3, r4⟩ := Ow.at p (m + 1) d v (fo i) _ h2 hs
  have ey : y = .ref b := by
    obtain ⟨w, w1, w2⟩ := ha
    rw [h1] at w1
    cases w1
    rw [r1] at w2
    cases w2
    rfl
  subst ey
  have tree := r4 Z H (.fn b) (fun _ => False) (fun _ _ s => s) (fun x _ _ hz _ => ⟨rfl, hz⟩) (fun _ z => z.elim) (show Ow K Z H (m + 1) (.fn b) (.ref b) _ from rfl)
  have sub : ∀ j x, (if j = h then Rr x else if j = i then fo i x ∧ ¬ Rr x else fo j x) → ∃ k, fo k x ∧ (j ≠ h → k = j ∧ ¬ (j = i ∧ Rr x)) ∧ (j = h → k = i ∧ Rr x) := fun j x hx => by
    by_cases cj : j = h
    · rw [if_pos cj] at hx
      exact ⟨i, r3 x hx, fun z => absurd cj z, fun _ => ⟨rfl, hx⟩⟩
    · rw [if_neg cj] at hx
      by_cases ci : j = i
      · rw [if_pos ci] at hx
        exact ⟨i, hx.1, fun _ => ⟨ci.symm, fun z => hx.2 z.2⟩, fun z => absurd z cj⟩
      · rw [if_neg ci] at hx
        exact ⟨j, hx, fun _ => ⟨rfl, fun z => ci z.1⟩, fun z => absurd z cj⟩
  refine ⟨fun j x => if j = h then Rr x else if j = i then fo i x ∧ ¬ Rr x else fo j x, ?_, fun j x hx => (sub j x hx).imp fun k hk => hk.1⟩
  refine { R with len := by rw [List.length_set, List.length_set]; exact R.len, val := fun j e he => ?_, dis := fun j k x hj hk => ?_, sub := fun j x hx => ?_ }
  · by_cases cj : j = h
    · subst cj
      by_cases hl : j < ρ.length
      · rw [List.getElem?_set_self (by rw [List.length_set]; exact hl)] at he
        have e1 : D.lst es = e := Option.some.inj (Option.some.inj he)
        subst e1
        refine ⟨_, hσ, ?_⟩
        rw [hkh]
        exact Ow.more (fun x hx => by (try dsimp only); rw [if_pos rfl]; exact hx) r2
      · rw [List.getElem?_eq_none (by rw [List.length_set, List.length_set]; omega)] at he; cases he
    · rw [List.getElem?_set_ne (Ne.symm cj)] at he
      by_cases ci : j = i
      · subst ci
        have hl := (List.getElem?_eq_some_iff.mp h0).1
        rw [List.getElem?_set_self hl] at he
        have e1 : putD p (.fn b) d = e := Option.some.inj (Option.some.inj he)
        subst e1
        refine ⟨v, h1, ?_⟩
        rw [hk]
        refine Ow.more (fun x hx => ?_) tree
        try dsimp only
        rw [if_neg cj, if_pos rfl]
        exact hx.elim id fun z => z.elim
      · rw [List.getElem?_set_ne (Ne.symm ci)] at he
        obtain ⟨w, w1, w2⟩ := R.val j e he
        refine ⟨w, w1, Ow.more (fun x hx => ?_) w2⟩
        try dsimp only
        rw [if_neg cj, if_neg ci]
        exact hx
  · obtain ⟨a, a1, a2, a3⟩ := sub j x hj
    obtain ⟨b', b1, b2, b3⟩ := sub k x hk
    have e := R.dis a b' x a1 b1
    by_cases cj : j = h
    · by_cases ck : k = h
      · rw [cj, ck]
      · obtain ⟨e1, e2⟩ := a3 cj
        obtain ⟨e3, e4⟩ := b2 ck
        exact absurd ⟨by rw [← e3, ← e, e1], e2⟩ e4
    · by_cases ck : k = h
      · obtain ⟨e1, e2⟩ := b3 ck
        obtain ⟨e3, e4⟩ := a2 cj
        exact absurd ⟨by rw [← e3, e, e1], e2⟩ e4
      · rw [← (a2 cj).1, ← (b2 ck).1, e]
  · obtain ⟨a, a1, _⟩ := sub j x hx
    exact R.sub a x a1
/-- .. and given back -/
def isFn (b : Addr) : Option D → Bool
  | some (.fn a) => decide (a = b)
  | _ => false
def backE (i h : Nat) (p : List Nat) (b : Addr) (ρ : Ev) : Ev := match ρ[h]? with
  | some (some x) => match ρ[i]? with
    | some (some d) => if isFn b (subD p d) = true then (ρ.set i (some (putD p x d))).set h none else ρ.set h none
    | _ => ρ.set h none
  | _ => ρ.set h none
theorem RS.back {p : List Nat} {m : Nat} {b : Addr} (R : RS c K ρ Z σ H fo) (hk : c.ks.getD i 0 = p.length + (m + 1)) (hkh : c.ks.getD h 0 = m + 1) (hih : h ≠ i) (hσ : σ[h]? = some (some (.ref b))) :
    ∃ fo', RS c K (backE i h p b ρ) Z σ H fo' ∧ ∀ j x, fo' j x → ∃ k, fo k x := by
  have drop : ∃ fo', RS c K (ρ.set h none) Z σ H fo' ∧ ∀ j x, fo' j x → ∃ k, fo k x := ⟨fo, R.unset h, fun j x hx => ⟨j, hx⟩⟩
  unfold backE
  split
  · rename_i x hx
    split
    · rename_i d hd
      by_cases hf : isFn b (subD p d) = true
      · rw [if_pos hf]
        have hs : subD p d = some (.fn b) := by
          unfold isFn at hf
          split at hf
          · rename_i a ha
            rw [ha, of_decide_eq_true hf]
          · cases hf
        obtain ⟨v, h1, h2⟩ := R.val i _ hd
        rw [hk] at h2
        obtain ⟨y, Rr, r1, r2, r3, r4⟩ := Ow.at p (m + 1) d v (fo i) _ h2 hs
        have ey : y = .ref b := r2
        subst ey
        obtain ⟨w, w1, w2⟩ := R.val h _ hx
        rw [hσ] at w1
        cases w1
        rw [hkh] at w2
        have tree := r4 Z H x (fo h) (fun _ _ s => s) (fun x _ _ hz _ => ⟨rfl, hz⟩) (fun x hx => .inr fun z => hih (R.dis h i x hx z)) w2
        have sub : ∀ j x, (if j = h then False else if j = i then fo i x ∨ fo h x else fo j x) → ∃ k, fo k x ∧ j ≠ h ∧ (k = j ∨ (k = h ∧ j = i)) := fun j x hx => by
          by_cases cj : j = h
          · rw [if_pos cj] at hx
            exact hx.elim
          · rw [if_neg cj] at hx
            by_cases ci : j = i
            · rw [if_pos ci] at hx
              rcases hx with hx | hx
              · exact ⟨i, hx, cj, .inl ci.symm⟩
              · exact ⟨h, hx, cj, .inr ⟨rfl, ci⟩⟩
            · rw [if_neg ci] at hx
              exact ⟨j, hx, cj, .inl rfl⟩
        refine ⟨fun j x => if j = h then False else if j = i then fo i x ∨ fo h x else fo j x, ?_, fun j x hx => (sub j x hx).imp fun k hk => hk.1⟩
        refine { R with len := by rw [List.length_set, List.length_set]; exact R.len, val := fun j e he => ?_, dis := fun j k x hj hk => ?_, sub := fun j x hx => ?_ }
        · by_cases cj : j = h
          · subst cj
            by_cases hl : j < ρ.length
            · rw [List.getElem?_set_self (by rw [List.length_set]; exact hl)] at he; cases he
            · rw [List.getElem?_eq_none (by rw [List.length_set, List.length_set]; omega)] at he; cases he
          · rw [List.getElem?_set_ne (Ne.symm cj)] at he
            by_cases ci : j = i
            · subst ci
              have hl := (List.getElem?_eq_some_iff.mp hd).1
              rw [List.getElem?_set_self hl] at he
              have e1 : putD p x d = e := Option.some.inj (Option.some.inj he)
              subst e1
              refine ⟨v, h1, ?_⟩
              rw [hk]
              refine Ow.more (fun x hx => ?_) tree
              try dsimp only
              rw [if_neg cj, if_pos rfl]
              exact hx.imp (fun z => z.1) id
            · rw [List.getElem?_set_ne (Ne.symm ci)] at he
              obtain ⟨w, w1, w2⟩ := R.val j e he
              refine ⟨w, w1, Ow.more (fun x hx => ?_) w2⟩
              try dsimp only
              rw [if_neg cj, if_neg ci]
              exact hx
        · obtain ⟨a, a1, a2, a3⟩ := sub j x hj
          obtain ⟨b', b1, b2, b3⟩ := sub k x hk
          have e := R.dis a b' x a1 b1
          rcases a3 with a3 | ⟨a3, a4⟩
          · rcases b3 with b3 | ⟨b3, b4⟩
            · rw [← a3, ← b3, e]
            · exact absurd (by rw [← a3, e, b3]) a2
          · rcases b3 with b3 | ⟨b3, b4⟩
            · exact absurd (by rw [← b3, ← e, a3]) b2
            · rw [a4, b4]
        · obtain ⟨a, a1, _⟩ := sub j x hx
          exact R.sub a x a1
      · rw [if_neg hf]
        exact drop
    · exact drop
  · exact drop
end
/-! the pure steps -/
def lendN : List (Nat × Bool) → List D → List Addr → Ev → Option (List D × Ev)
  | [], [], [], ρ => some ([], ρ)
  | (h, false) :: ts, e :: es, as, ρ => if e.isL = false then (lendN ts es as (ρ.set h (some e))).map fun r => (e :: r.1, r.2) else none
  | (h, true) :: ts, .lst xs :: es, a :: as, ρ => (lendN ts es as (ρ.set h (some (.lst xs)))).map fun r => (.fn a :: r.1, r.2)
  | _, _, _, _ => none
def backsE (i : Nat) (p : List Nat) : Nat → List (Nat × Bool) → List Addr → Ev → Ev
  | k, (_, false) :: ts, as, ρ => backsE i p (k + 1) ts as ρ
  | k, (h, true) :: ts, a :: as, ρ => backsE i p (k + 1) ts as (backE i h (p ++ [k]) a ρ)
  | _, _, _, ρ => ρ
def Fl.map (f : Ev → Ev) : Fl → Fl
  | .nx ρ => .nx (f ρ)
  | .rt d ρ => .rt d (f ρ)
  | .bk ρ => .bk (f ρ)
  | .ct ρ => .ct (f ρ)
def wipeS : List (Nat × Bool) → Ev → Ev
  | [], ρ => ρ
  | (h, _) :: ts, ρ => wipeS ts (ρ.set h none)
def runU (i : Nat) (ts : List (Nat × Bool)) (g : Ev → Res Fl) (p : List Nat) (d : D) (es : List D) (ρ : Ev) (as : List Addr) : Res Fl := match lendN ts es as (wipeS ts ρ) with
  | some r => (g (r.2.set i (some (putD p (.lst r.1) d)))).bind fun fl => .ok (fl.map (backsE i p 0 ts as))
  | none => .err
def lents : List (Nat × Bool) → List Nat
  | [] => []
  | (h, true) :: ts => h :: lents ts
  | (_, false) :: ts => lents ts
open Classical in
noncomputable def sUnp (i : Nat) (ts : List (Nat × Bool)) (f : Ev → Res (List Nat × Ev)) (g : Ev → Res Fl) (ρ : Ev) : Res Fl := (f ρ).bind fun pr => match pr.2[i]? with
  | some (some d) => match subD pr.1 d with
    | some (.lst es) => if (ts.all fun t => decide (t.1 < pr.2.length)) = true then (if h : ∃ fl, ∀ as : List Addr, as.length = (lents ts).length → runU i ts g pr.1 d es pr.2 as = .ok fl then .ok h.choose else .err) else .err
    | _ => .err
  | _ => .err
/-- raw stores -/
def setAll : L2.St → List Nat → List V → L2.St
  | σ, i :: is, v :: vs => setAll (σ.set i (some v)) is vs
  | σ, _, _ => σ
def tRaw (is : List Nat) : TGs := fun vs σ H Q => vs.length = is.length ∧ Q (setAll σ is vs) H
section
variable {X : Cx} {pos : Pos}
theorem pgs_raw0 : PGs X [] (tRaw []) := PGs.imp pgs_nil fun vs σ H Q ⟨h, q⟩ => by
  have e : vs = [] := List.length_eq_zero_iff.mp h
  subst e
  exact ⟨rfl, q⟩
theorem pgs_raw (i : Nat) {x : PySem.Str} {px : Pos} {es : List Expr} {is : List Nat} (nd : X.N.Nodup) (h : PGs X es (tRaw is)) (hi : X.N[i]? = some x := by rfl) (hx : Loc X.env.scope x := by first | exact Or.inl rfl | exact Or.inr rfl)
    (hf : X.fn x = true ∨ X.env.scope.names.lookup x = some .local := by first | exact .inl rfl | exact .inr rfl) (hs : (assignEach (.Name x px :: es) X.env).map (·.2) = assign (.Name x px) X.env :: (assignEach es X.env).map (·.2) := by rfl) : PGs X (.Name x px :: es) (tRaw (i :: is)) :=
  PGs.imp (pgs_cons (pg_name nd hi hx hf) h hs) fun vs σ H Q ⟨hl, q⟩ => by
    match vs, hl, q with
    | v :: vs, hl, q => exact ⟨v, vs, rfl, by simpa using hl, q⟩
theorem setAll_out {j : Nat} : ∀ {is : List Nat} {vs : List V} {σ : L2.St}, j ∉ is → (setAll σ is vs)[j]? = σ[j]?
  | [], _, _, _ => rfl
  | _ :: _, [], _, _ => rfl
  | i :: is, v :: vs, σ, h => by
    show (setAll (σ.set i (some v)) is vs)[j]? = _
    rw [setAll_out (fun z => h (List.mem_cons_of_mem _ z)), List.getElem?_set_ne (fun e => h (by rw [e]; exact List.mem_cons_self))]
theorem setAll_len : ∀ {is : List Nat} {vs : List V} {σ : L2.St}, (setAll σ is vs).length = σ.length
  | [], _, _ => rfl
  | _ :: _, [], _ => rfl
  | i :: is, v :: vs, σ => by
    show (setAll (σ.set i (some v)) is vs).length = _
    rw [setAll_len, List.length_set]
theorem setAll_in : ∀ {is : List Nat} {vs : List V} {σ : L2.St} {k j : Nat} {v : V}, is.Nodup → (∀ j ∈ is, j < σ.length) → is[k]? = some j → vs[k]? = some v → (setAll σ is vs)[j]? = some (some v)
  | [], _, _, _, _, _, _, _, h, _ => by simp at h
  | _ :: _, [], _, _, _, _, _, _, _, h => by simp at h
  | i :: is, u :: vs, σ, 0, j, v, nd, hl, h1, h2 => by
    have e1 : i = j := by simpa using h1
    have e2 : u = v := by simpa using h2
    subst e1 e2
    show (setAll (σ.set i (some u)) is vs)[i]? = _
    rw [setAll_out (List.nodup_cons.mp nd).1, List.getElem?_set_self (hl i List.mem_cons_self)]
  | i :: is, u :: vs, σ, k + 1, j, v, nd, hl, h1, h2 => setAll_in (is := is) (vs := vs) (σ := σ.set i (some u)) (List.nodup_cons.mp nd).2 (fun j hj => by rw [List.length_set]; exact hl j (List.mem_cons_of_mem _ hj)) (by simpa using h1) (by simpa using h2)
end
section
variable {c : DC} {K : PySem.W.Frag} {Z : AP} {σ : L2.St} {H : Hp} {i : Nat}
theorem RS.raw {fo : Nat → AP} : ∀ {ts : List (Nat × Bool)} {vs : List V} {ρ : Ev} {σ : L2.St}, RS c K ρ Z σ H fo → (∀ t ∈ ts, t.1 ∉ c.pl) → vs.length = ts.length → RS c K (wipeS ts ρ) Z (setAll σ (ts.map (·.1)) vs) H fo
  | [], _, _, _, R, _, _ => R
  | (h, b) :: ts, v :: vs, ρ, σ, R, hp, hl => by
    have R1 : RS c K (ρ.set h none) Z (σ.set h (some v)) H fo := by
      refine { R with len := by rw [List.length_set, List.length_set]; exact R.len, val := fun j e he => ?_, pin := fun j hj => ?_ }
      · by_cases q : h = j
        · subst q
          by_cases hl : h < ρ.length
          · rw [List.getElem?_set_self hl] at he; cases he
          · rw [List.getElem?_eq_none (by simpa using hl)] at he; cases he
        · rw [List.getElem?_set_ne q] at he
          obtain ⟨w, h1, h2⟩ := R.val j e he
          exact ⟨w, by rw [List.getElem?_set_ne q]; exact h1, h2⟩
      · rw [List.getElem?_set_ne (fun (e : h = j) => hp _ List.mem_cons_self (by rw [e]; exact hj))]
        exact R.pin j hj
    exact RS.raw (ts := ts) R1 (fun t ht => hp t (List.mem_cons_of_mem _ ht)) (by simpa using hl)
  | _ :: _, [], _, _, _, _, hl => by simp at hl
/-- the lent lists' addresses -/
def LO : List (Nat × Bool) → List V → List Addr → Prop
  | [], [], [] => True
  | (_, false) :: ts, _ :: ws, as => LO ts ws as
  | (_, true) :: ts, .ref a :: ws, b :: as => a = b ∧ LO ts ws as
  | _, _, _ => False
theorem LO.len : ∀ {ts : List (Nat × Bool)} {ws : List V} {as : List Addr}, LO ts ws as → as.length = (lents ts).length
  | [], [], [], _ => rfl
  | (_, false) :: ts, _ :: ws, as, h => LO.len (ts := ts) (ws := ws) h
  | (_, true) :: ts, .ref a :: ws, b :: as, h => by
    show as.length + 1 = (lents ts).length + 1
    rw [LO.len (ts := ts) (ws := ws) h.2]
  | [], [], _ :: _, h => h.elim
  | [], _ :: _, _, h => by cases h
  | (_, false) :: _, [], _, h => by cases h
  | (_, true) :: _, [], _, h => by cases h
  | (_, true) :: _, .ref _ :: _, [], h => by cases h
  | (_, true) :: _, .non :: _, _, h => by cases h
  | (_, true) :: _, .bl _ :: _, _, h => by cases h
  | (_, true) :: _, .int _ :: _, _, h => by cases h
  | (_, true) :: _, .str _ :: _, _, h => by cases h
  | (_, true) :: _, .byt _ :: _, _, h => by cases h
  | (_, true) :: _, .flt _ :: _, _, h => by cases h
  | (_, true) :: _, .ty _ :: _, _, h => by cases h
end
end DL
/-! x, y, .. = place: the rule -/
namespace DL
open PySem PySem.Spec PyProof.Rows L2
section
variable {c : DC} {K : PySem.W.Frag} {Z : AP} {σ : L2.St} {H : Hp} {i m : Nat} {p : List Nat} {d : D} {b0 : Addr} {ws0 : List V}
theorem RS.fillN {ρ : Ev} {fo : Nat → AP} {h : Nat} {e : D} {v : V} (R : RS c K ρ Z σ H fo) (he : e.isL = false) (hσ : σ[h]? = some (some v)) (hs : Sh K Z H e v) : RS c K (ρ.set h (some e)) Z σ H fo := by
  refine { R with len := by rw [List.length_set]; exact R.len, val := fun j e' he' => ?_ }
  by_cases q : h = j
  · subst q
    by_cases hl : h < ρ.length
    · rw [List.getElem?_set_self hl] at he'
      have e1 : e = e' := Option.some.inj (Option.some.inj he')
      subst e1
      exact ⟨v, hσ, Ow.nolist he hs _⟩
    · rw [List.getElem?_eq_none (by simpa using hl)] at he'; cases he'
  · rw [List.getElem?_set_ne q] at he'
    exact R.val j e' he'
theorem lend_all (hb : H b0 = some (.lst ws0)) (ha : AtP σ H i p b0) (hk : c.ks.getD i 0 = p.length + (m + 1 + 1)) {e0 : D} (hp0 : subD p d = some e0) :
    ∀ (ts : List (Nat × Bool)) (es : List D) (ws : List V) (as : List Addr) (pre : List D) (ρ : Ev) (fo : Nat → AP) (r : List D × Ev),
      RS c K (ρ.set i (some (putD p (.lst (pre ++ es)) d))) Z σ H fo → i < ρ.length → lendN ts es as ρ = some r → LO ts ws as → (∀ j, ws[j]? = ws0[pre.length + j]?) →
      (∀ (j : Nat) h, (ts.map (·.1))[j]? = some h → h ≠ i ∧ ∃ v, ws[j]? = some v ∧ σ[h]? = some (some v)) → (∀ h ∈ lents ts, c.ks.getD h 0 = m + 1) → (∀ (j : Nat) e v, e.isL = false → es[j]? = some e → ws[j]? = some v → Sh K Z H e v) →
      ∃ fo', RS c K (r.2.set i (some (putD p (.lst (pre ++ r.1)) d))) Z σ H fo' ∧ ∀ j x, fo' j x → ∃ k, fo k x
  | [], [], [], [], pre, ρ, fo, r, R, _, h, _, _, _, _, _ => by
    cases h
    exact ⟨fo, R, fun j x hx => ⟨j, hx⟩⟩
  | (h, false) :: ts, e :: es, w :: ws, as, pre, ρ, fo, r, R, hi, hl, lo, hw, ht, hkh, hs => by
    have hl' : (if e.isL = false then (lendN ts es as (ρ.set h (some e))).map (fun r => (e :: r.1, r.2)) else none) = some r := hl
    by_cases he : e.isL = false
    · rw [if_pos he] at hl'
      cases e1 : lendN ts es as (ρ.set h (some e)) with
      | none => rw [e1] at hl'; cases hl'
      | some r1 =>
        rw [e1] at hl'
        cases hl'
        obtain ⟨hne, v, hv, hσ⟩ := ht 0 h rfl
        have ev : w = v := Option.some.inj hv
        subst ev
        have R1 := R.fillN (h := h) he hσ (hs 0 e w he rfl rfl)
        rw [List.set_comm _ _ (Ne.symm hne)] at R1
        have ep : pre ++ e :: es = (pre ++ [e]) ++ es := by rw [List.append_assoc]; rfl
        rw [ep] at R1
        obtain ⟨fo', R2, k2⟩ := lend_all hb ha hk hp0 ts es ws as (pre ++ [e]) _ fo r1 R1 (by rw [List.length_set]; exact hi) e1 lo (fun j => by rw [List.length_append, List.length_singleton, show pre.length + 1 + j = pre.length + (j + 1) by omega, ← hw]; rfl)
          (fun j h' hj => by
            obtain ⟨a1, v, a2, a3⟩ := ht (j + 1) h' (by simpa using hj)
            exact ⟨a1, v, by simpa using a2, a3⟩) (fun h' hh => hkh h' hh) (fun j e v he h1 h2 => hs (j + 1) e v he (by simpa using h1) (by simpa using h2))
        refine ⟨fo', ?_, k2⟩
        have : pre ++ (e :: r1.1, r1.2).1 = (pre ++ [e]) ++ r1.1 := by rw [List.append_assoc]; rfl
        rw [this]
        exact R2
    · rw [if_neg he] at hl'; cases hl'
  | (h, true) :: ts, .lst xs :: es, .ref a :: ws, b :: as, pre, ρ, fo, r, R, hi, hl, lo, hw, ht, hkh, hs => by
    have hl' : (lendN ts es as (ρ.set h (some (.lst xs)))).map (fun r => (D.fn b :: r.1, r.2)) = some r := hl
    obtain ⟨eab, lo⟩ := lo
    subst eab
    cases e1 : lendN ts es as (ρ.set h (some (.lst xs))) with
    | none => rw [e1] at hl'; cases hl'
    | some r1 =>
      rw [e1] at hl'
      cases hl'
      obtain ⟨hne, v, hv, hσ⟩ := ht 0 h rfl
      have ev : V.ref a = v := Option.some.inj hv
      subst ev
      have hw0 : ws0[pre.length]? = some (.ref a) := by
        have := hw 0
        rw [Nat.add_zero] at this
        rw [← this]
        rfl
      have at1 : AtP σ H i (p ++ [pre.length]) a := by
        obtain ⟨v0, v1, v2⟩ := ha
        exact ⟨v0, v1, readV_snoc hb hw0 p v0 v2⟩
      have hx : (pre ++ D.lst xs :: es)[pre.length]? = some (.lst xs) := by
        rw [List.getElem?_append_right (Nat.le_refl _), Nat.sub_self]
        rfl
      have sub1 : subD (p ++ [pre.length]) (putD p (.lst (pre ++ .lst xs :: es)) d) = some (.lst xs) := subD_snoc hx p _ (subD_put p d _ hp0)
      obtain ⟨fo1, R1, k1⟩ := R.lend (h := h) (p := p ++ [pre.length]) (m := m) (by rw [hk, List.length_append, List.length_singleton]; omega) (hkh h List.mem_cons_self) hne (List.getElem?_set_self hi) sub1 hσ at1
      rw [List.set_set, putD_snoc hx p _ _ (subD_put p d _ hp0), putD_put p d _ _ hp0, List.set_comm _ _ (Ne.symm hne)] at R1
      have es1 : (pre ++ D.lst xs :: es).set pre.length (.fn a) = (pre ++ [D.fn a]) ++ es := by
        rw [List.set_append_right _ _ (Nat.le_refl _), Nat.sub_self, List.append_assoc]
        rfl
      rw [es1] at R1
      obtain ⟨fo', R2, k2⟩ := lend_all hb ha hk hp0 ts es ws as (pre ++ [D.fn a]) _ fo1 r1 R1 (by rw [List.length_set]; exact hi) e1 lo (fun j => by rw [List.length_append, List.length_singleton, show pre.length + 1 + j = pre.length + (j + 1) by omega, ← hw]; rfl)
        (fun j h' hj => by
          obtain ⟨a1, v, a2, a3⟩ := ht (j + 1) h' (by simpa using hj)
          exact ⟨a1, v, by simpa using a2, a3⟩) (fun h' hh => hkh h' (List.mem_cons_of_mem _ hh)) (fun j e v he h1 h2 => hs (j + 1) e v he (by simpa using h1) (by simpa using h2))
      refine ⟨fo', ?_, fun j x hx => ?_⟩
      · have : pre ++ (D.fn a :: r1.1, r1.2).1 = (pre ++ [D.fn a]) ++ r1.1 := by rw [List.append_assoc]; rfl
        rw [this]
        exact R2
      · obtain ⟨k, hk⟩ := k2 j x hx
        exact k1 k x hk
  | [], _ :: _, _, _, _, _, _, _, _, _, h, _, _, _, _, _ => by cases h
  | [], [], _ :: _, _, _, _, _, _, _, _, _, lo, _, _, _, _ => by cases lo
  | [], [], [], _ :: _, _, _, _, _, _, _, h, _, _, _, _, _ => by cases h
  | (_, true) :: _, [], _, _, _, _, _, _, _, _, h, _, _, _, _, _ => by cases h
  | (_, false) :: _, [], _, _, _, _, _, _, _, _, h, _, _, _, _, _ => by cases h
  | (_, false) :: _, _ :: _, [], _, _, _, _, _, _, _, _, lo, _, _, _, _ => by cases lo
  | (_, true) :: _, _ :: _, [], _, _, _, _, _, _, _, _, lo, _, _, _, _ => by cases lo
  | (_, true) :: _, .lst _ :: _, .ref _ :: _, [], _, _, _, _, _, _, h, _, _, _, _, _ => by cases h
  | (_, true) :: _, .non :: _, _ :: _, _, _, _, _, _, _, _, h, _, _, _, _, _ => by cases h
  | (_, true) :: _, .bl _ :: _, _ :: _, _, _, _, _, _, _, _, h, _, _, _, _, _ => by cases h
  | (_, true) :: _, .int _ :: _, _ :: _, _, _, _, _, _, _, _, h, _, _, _, _, _ => by cases h
  | (_, true) :: _, .str _ :: _, _ :: _, _, _, _, _, _, _, _, h, _, _, _, _, _ => by cases h
  | (_, true) :: _, .tup _ :: _, _ :: _, _, _, _, _, _, _, _, h, _, _, _, _, _ => by cases h
  | (_, true) :: _, .fn _ :: _, _ :: _, _, _, _, _, _, _, _, h, _, _, _, _, _ => by cases h
  | (_, true) :: _, .ty _ :: _, _ :: _, _, _, _, _, _, _, _, h, _, _, _, _, _ => by cases h
  | (_, true) :: _, .lst _ :: _, .non :: _, _, _, _, _, _, _, _, _, lo, _, _, _, _ => by cases lo
  | (_, true) :: _, .lst _ :: _, .bl _ :: _, _, _, _, _, _, _, _, _, lo, _, _, _, _ => by cases lo
  | (_, true) :: _, .lst _ :: _, .int _ :: _, _, _, _, _, _, _, _, _, lo, _, _, _, _ => by cases lo
  | (_, true) :: _, .lst _ :: _, .str _ :: _, _, _, _, _, _, _, _, _, lo, _, _, _, _ => by cases lo
  | (_, true) :: _, .lst _ :: _, .byt _ :: _, _, _, _, _, _, _, _, _, lo, _, _, _, _ => by cases lo
  | (_, true) :: _, .lst _ :: _, .flt _ :: _, _, _, _, _, _, _, _, _, lo, _, _, _, _ => by cases lo
  | (_, true) :: _, .lst _ :: _, .ty _ :: _, _, _, _, _, _, _, _, _, lo, _, _, _, _ => by cases lo
end
/-! ### the context while lists are lent -/
def pvOf (pv : Nat → Option (Option V)) : List Nat → List Addr → Nat → Option (Option V)
  | h :: hs, a :: as, j => if j = h then some (some (.ref a)) else pvOf pv hs as j
  | _, _, j => pv j
def DC.pins (c : DC) (hs : List Nat) (as : List Addr) : DC := { c with pl := hs ++ c.pl, pv := pvOf c.pv hs as }
theorem pvOf_in {pv : Nat → Option (Option V)} {j : Nat} {σ : L2.St} : ∀ {hs : List Nat} {as : List Addr}, as.length = hs.length → (∀ (k h : Nat) (a : Addr), hs[k]? = some h → as[k]? = some a → σ[h]? = some (some (.ref a))) → j ∈ hs → σ[j]? = pvOf pv hs as j
  | [], _, _, _, h => by cases h
  | _ :: _, [], l, _, _ => by simp at l
  | h :: hs, a :: as, l, q, hj => by
    show _ = if j = h then some (some (V.ref a)) else pvOf pv hs as j
    by_cases e : j = h
    · rw [if_pos e, e]
      exact q 0 h a rfl rfl
    · rw [if_neg e]
      exact pvOf_in (by simpa using l) (fun k h a h1 h2 => q (k + 1) h a (by simpa using h1) (by simpa using h2)) (by
        rcases List.mem_cons.mp hj with z | z
        · exact absurd z e
        · exact z)
theorem pvOf_out {pv : Nat → Option (Option V)} {j : Nat} : ∀ {hs : List Nat} {as : List Addr}, j ∉ hs → pvOf pv hs as j = pv j
  | [], _, _ => rfl
  | _ :: _, [], _ => rfl
  | h :: hs, a :: as, hj => by
    show (if j = h then some (some (V.ref a)) else pvOf pv hs as j) = _
    rw [if_neg (fun e => hj (by rw [e]; exact List.mem_cons_self))]
    exact pvOf_out fun z => hj (List.mem_cons_of_mem _ z)
section
variable {c : DC} {K : PySem.W.Frag} {Z : AP} {σ : L2.St} {H : Hp} {i m : Nat} {ρ : Ev} {fo : Nat → AP} {hs : List Nat} {as : List Addr}
theorem RS.pins (R : RS c K ρ Z σ H fo) (hl : as.length = hs.length) (hp : ∀ h ∈ hs, h ∉ c.pl) (hσ : ∀ (k h : Nat) (a : Addr), hs[k]? = some h → as[k]? = some a → σ[h]? = some (some (.ref a))) : RS (c.pins hs as) K ρ Z σ H fo :=
by
  refine { R with pin := fun j hj => ?_ }
  show σ[j]? = pvOf c.pv hs as j
  by_cases q : j ∈ hs
  · exact pvOf_in hl hσ q
  · rw [pvOf_out q]
    rcases List.mem_append.mp hj with z | z
    · exact absurd z q
    · exact R.pin j z
theorem RS.unpins (R : RS (c.pins hs as) K ρ Z σ H fo) (hp : ∀ h ∈ hs, h ∉ c.pl) : RS c K ρ Z σ H fo :=
by
  refine { R with pin := fun j hj => ?_ }
  have := R.pin j (List.mem_append_right hs hj)
  rw [this]
  exact pvOf_out fun z => hp j z hj
theorem RS.pinned (R : RS (c.pins hs as) K ρ Z σ H fo) (hl : as.length = hs.length) (nd : hs.Nodup) : ∀ (k h : Nat) (a : Addr), hs[k]? = some h → as[k]? = some a → σ[h]? = some (some (.ref a)) := by
  intro k h a h1 h2
  have hm : h ∈ hs := List.mem_of_getElem? h1
  rw [R.pin h (List.mem_append_left _ hm)]
  show pvOf c.pv hs as h = _
  clear R hl hm
  induction hs generalizing as k with
  | nil => simp at h1
  | cons x hs ih =>
    cases as with
    | nil => simp at h2
    | cons b as =>
      show (if h = x then some (some (V.ref b)) else pvOf c.pv hs as h) = _
      cases k with
      | zero =>
        have e1 : x = h := by simpa using h1
        have e2 : b = a := by simpa using h2
        rw [if_pos e1.symm, e2]
      | succ k =>
        have h1' : hs[k]? = some h := by simpa using h1
        have hne : h ≠ x := fun e => (List.nodup_cons.mp nd).1 (by rw [← e]; exact List.mem_of_getElem? h1')
        rw [if_neg hne]
        exact ih (List.nodup_cons.mp nd).2 k h1' (by simpa using h2)
theorem back_all {p : List Nat} (hk : c.ks.getD i 0 = p.length + (m + 1 + 1)) : ∀ (ts : List (Nat × Bool)) (as : List Addr) (k : Nat) (ρ : Ev) (fo : Nat → AP), RS c K ρ Z σ H fo → as.length = (lents ts).length → (∀ h ∈ lents ts, c.ks.getD h 0 = m + 1 ∧ h ≠ i) →
    (∀ (k h : Nat) (a : Addr), (lents ts)[k]? = some h → as[k]? = some a → σ[h]? = some (some (.ref a))) → ∃ fo', RS c K (backsE i p k ts as ρ) Z σ H fo' ∧ ∀ j x, fo' j x → ∃ k, fo k x
  | [], _, _, ρ, fo, R, _, _, _ => ⟨fo, R, fun j x hx => ⟨j, hx⟩⟩
  | (h, false) :: ts, as, k, ρ, fo, R, hl, hh, hσ => back_all hk ts as (k + 1) ρ fo R hl hh hσ
  | (h, true) :: ts, [], k, ρ, fo, R, hl, hh, hσ => by cases hl
  | (h, true) :: ts, a :: as, k, ρ, fo, R, hl, hh, hσ => by
    obtain ⟨h1, h2⟩ := hh h List.mem_cons_self
    obtain ⟨fo1, R1, k1⟩ := R.back (h := h) (p := p ++ [k]) (m := m) (b := a) (by rw [hk, List.length_append, List.length_singleton]; omega) h1 h2 (hσ 0 h a rfl rfl)
    obtain ⟨fo2, R2, k2⟩ := back_all hk ts as (k + 1) _ fo1 R1 (by
      have hl' : as.length + 1 = (lents ts).length + 1 := hl
      omega) (fun x hx => hh x (List.mem_cons_of_mem _ hx)) (fun j x b e1 e2 => hσ (j + 1) x b e1 e2)
    refine ⟨fo2, R2, fun j x hx => ?_⟩
    obtain ⟨l, hl⟩ := k2 j x hx
    exact k1 l x hl
theorem LO.ex : ∀ {ts : List (Nat × Bool)} {es : List D} {ws : List V} {as0 : List Addr} {ρ : Ev} {r : List D × Ev}, lendN ts es as0 ρ = some r → es.length = ws.length → (∀ (j : Nat) e v, es[j]? = some e → ws[j]? = some v → e.isL = true → ∃ a, v = V.ref a) → ∃ as, LO ts ws as
  | [], [], [], _, _, _, _, _, _ => ⟨[], True.intro⟩
  | (h, false) :: ts, e :: es, w :: ws, as0, ρ, r, hl, hn, q => by
    have hl' : (if e.isL = false then (lendN ts es as0 (ρ.set h (some e))).map (fun r => (e :: r.1, r.2)) else none) = some r := hl
    by_cases he : e.isL = false
    · rw [if_pos he] at hl'
      cases e1 : lendN ts es as0 (ρ.set h (some e)) with
      | none => rw [e1] at hl'; cases hl'
      | some r1 =>
        obtain ⟨as, h1⟩ := LO.ex e1 (by simpa using hn) fun j e v h1 h2 => q (j + 1) e v (by simpa using h1) (by simpa using h2)
        exact ⟨as, h1⟩
    · rw [if_neg he] at hl'; cases hl'
  | (h, true) :: ts, .lst xs :: es, w :: ws, a0 :: as0, ρ, r, hl, hn, q => by
    have hl' : (lendN ts es as0 (ρ.set h (some (.lst xs)))).map (fun r => (D.fn a0 :: r.1, r.2)) = some r := hl
    cases e1 : lendN ts es as0 (ρ.set h (some (.lst xs))) with
    | none => rw [e1] at hl'; cases hl'
    | some r1 =>
      obtain ⟨as, h1⟩ := LO.ex e1 (by simpa using hn) fun j e v h1 h2 => q (j + 1) e v (by simpa using h1) (by simpa using h2)
      obtain ⟨a, ea⟩ := q 0 _ w rfl rfl rfl
      exact ⟨a :: as, by rw [ea]; exact ⟨rfl, h1⟩⟩
  | [], [], _ :: _, _, _, _, _, hn, _ => by simp at hn
  | [], _ :: _, _, _, _, _, h, _, _ => by cases h
  | (_, true) :: _, [], _, _, _, _, h, _, _ => by cases h
  | (_, false) :: _, [], _, _, _, _, h, _, _ => by cases h
  | (_, _) :: _, _ :: _, [], _, _, _, _, hn, _ => by simp at hn
  | (_, true) :: _, .lst _ :: _, _ :: _, [], _, _, h, _, _ => by cases h
  | (_, true) :: _, .non :: _, _ :: _, _, _, _, h, _, _ => by cases h
  | (_, true) :: _, .bl _ :: _, _ :: _, _, _, _, h, _, _ => by cases h
  | (_, true) :: _, .int _ :: _, _ :: _, _, _, _, h, _, _ => by cases h
  | (_, true) :: _, .str _ :: _, _ :: _, _, _, _, h, _, _ => by cases h
  | (_, true) :: _, .tup _ :: _, _ :: _, _, _, _, h, _, _ => by cases h
  | (_, true) :: _, .fn _ :: _, _ :: _, _, _, _, h, _, _ => by cases h
  | (_, true) :: _, .ty _ :: _, _ :: _, _, _, _, h, _, _ => by cases h
theorem LO.at : ∀ {ts : List (Nat × Bool)} {ws : List V} {as : List Addr}, LO ts ws as → ∀ (k h : Nat) (a : Addr), (lents ts)[k]? = some h → as[k]? = some a → ∃ j : Nat, (ts.map (·.1))[j]? = some h ∧ ws[j]? = some (V.ref a)
  | [], [], [], _, k, h, a, h1, _ => by simp [lents] at h1
  | (x, false) :: ts, _ :: ws, as, lo, k, h, a, h1, h2 => by
    obtain ⟨j, e1, e2⟩ := LO.at (ts := ts) (ws := ws) lo k h a h1 h2
    exact ⟨j + 1, by simpa using e1, by simpa using e2⟩
  | (x, true) :: ts, .ref b :: ws, b' :: as, lo, 0, h, a, h1, h2 => by
    have e1 : x = h := Option.some.inj h1
    have e2 : b' = a := by simpa using h2
    exact ⟨0, by rw [← e1]; rfl, by rw [← e2, ← lo.1]; rfl⟩
  | (x, true) :: ts, .ref b :: ws, b' :: as, lo, k + 1, h, a, h1, h2 => by
    obtain ⟨j, e1, e2⟩ := LO.at (ts := ts) (ws := ws) lo.2 k h a h1 (by simpa using h2)
    exact ⟨j + 1, by simpa using e1, by simpa using e2⟩
  | [], [], _ :: _, h, _, _, _, _, _ => h.elim
  | [], _ :: _, _, h, _, _, _, _, _ => by cases h
  | (_, false) :: _, [], _, h, _, _, _, _, _ => by cases h
  | (_, true) :: _, [], _, h, _, _, _, _, _ => by cases h
  | (_, true) :: _, .ref _ :: _, [], h, _, _, _, _, _ => by cases h
  | (_, true) :: _, .non :: _, _, h, _, _, _, _, _ => by cases h
  | (_, true) :: _, .bl _ :: _, _, h, _, _, _, _, _ => by cases h
  | (_, true) :: _, .int _ :: _, _, h, _, _, _, _, _ => by cases h
  | (_, true) :: _, .str _ :: _, _, h, _, _, _, _, _ => by cases h
  | (_, true) :: _, .byt _ :: _, _, h, _, _, _, _, _ => by cases h
  | (_, true) :: _, .flt _ :: _, _, h, _, _, _, _, _ => by cases h
  | (_, true) :: _, .ty _ :: _, _, h, _, _, _, _, _ => by cases h
end
section
variable {X : Cx} {c : DC} {rk : Option Nat} {i l m : Nat} {o : Expr} {es : List Expr} {sts : List Stmt} {f : Ev → Res (List Nat × Ev)} {g : Ev → Res Fl} {pos : Pos}
theorem LO.lenT : ∀ {ts : List (Nat × Bool)} {ws : List V} {as : List Addr}, LO ts ws as → ws.length = ts.length := fun {ts ws as} h => by
  induction ts generalizing ws as with
  | nil =>
    cases ws with
    | nil => rfl
    | cons _ _ => cases h
  | cons t ts ih =>
    obtain ⟨x, b⟩ := t
    cases ws with
    | nil => cases b <;> cases h
    | cons w ws =>
      cases b with
      | false =>
        have := ih (ws := ws) (as := as) h
        rw [List.length_cons, List.length_cons, this]
      | true =>
        cases w with
        | ref a =>
          cases as with
          | nil => cases h
          | cons b as =>
            have := ih (ws := ws) (as := as) h.2
            rw [List.length_cons, List.length_cons, this]
        | _ => cases h
theorem lts {ts : List (Nat × Bool)} {h : Nat} : h ∈ lents ts → h ∈ ts.map (·.1) := by
  induction ts with
  | nil => intro z; exact z
  | cons t ts ih =>
    obtain ⟨x, b⟩ := t
    cases b with
    | false => exact fun z => List.mem_cons_of_mem _ (ih z)
    | true =>
      intro z
      rcases List.mem_cons.mp z with z | z
      · rw [z]
        exact List.mem_cons_self
      · exact List.mem_cons_of_mem _ (ih z)
theorem wipeS_out {i : Nat} : ∀ {ts : List (Nat × Bool)} {ρ : Ev}, i ∉ ts.map (·.1) → (wipeS ts ρ)[i]? = ρ[i]?
  | [], _, _ => rfl
  | (h, b) :: ts, ρ, hi => by
    show (wipeS ts (ρ.set h none))[i]? = _
    rw [wipeS_out (fun z => hi (List.mem_cons_of_mem _ z)), List.getElem?_set_ne (fun e => hi (by rw [← e]; exact List.mem_cons_self))]
theorem wipeS_len : ∀ {ts : List (Nat × Bool)} {ρ : Ev}, (wipeS ts ρ).length = ρ.length
  | [], _ => rfl
  | (h, b) :: ts, ρ => by
    show (wipeS ts (ρ.set h none)).length = _
    rw [wipeS_len, List.length_set]
theorem putD_self {x : D} : ∀ (p : List Nat) (d : D), subD p d = some x → putD p x d = d
  | [], d, h => (Option.some.inj h).symm
  | k :: p, d, h => by
    obtain ⟨ds, y, rfl, hy, h⟩ := subD_cons h
    rw [putD_cons hy, putD_self p y h]
    congr 1
    exact set_self hy
where
  set_self {α : Type} : ∀ {xs : List α} {k : Nat} {y : α}, xs[k]? = some y → xs.set k y = xs
    | [], _, _, h => by simp at h
    | x :: xs, 0, y, h => by
      have e : x = y := by simpa using h
      rw [e]
      rfl
    | x :: xs, k + 1, y, h => by
      show x :: xs.set k y = _
      rw [set_self (xs := xs) (by simpa using h)]
theorem SEnd.map {K : PySem.W.Frag} {c' : DC} {E : Ends} {fo fo1 : Nat → AP} {Z Z1 : AP} {H H1 : Hp} {u : Ev → Ev} (hM : c'.M = c.M) (hH : c'.Hi = c.Hi) (hu : ∀ ρ σ H Z fo, RS c' K ρ Z σ H fo → ∃ fo', RS c K (u ρ) Z σ H fo' ∧ ∀ j x, fo' j x → ∃ k, fo k x) {fl : Fl} (h : SEnd c K rk fo Z H E (fl.map u)) (s : Stp fo Z H fo1 Z1 H1) : SEnd c' K rk fo1 Z1 H1 E fl := by
  have st : ∀ {Z H} {fo fo' : Nat → AP}, (∀ j x, fo' j x → ∃ k, fo k x) → Stp fo Z H fo' Z H := fun hk => ⟨fun _ _ h _ => h, fun _ h => .inl h, fun _ h _ _ => h, fun j x hx => .inl (hk j x hx)⟩
  cases fl with
  | nx ρ =>
    intro σ' H' Z' fo' R s'
    obtain ⟨fo2, R2, k2⟩ := hu ρ σ' H' Z' fo' R
    exact h σ' H' Z' fo2 R2 ((s.trans s').trans (st k2))
  | bk ρ =>
    intro σ' H' Z' fo' R s'
    obtain ⟨fo2, R2, k2⟩ := hu ρ σ' H' Z' fo' R
    exact h σ' H' Z' fo2 R2 ((s.trans s').trans (st k2))
  | ct ρ =>
    intro σ' H' Z' fo' R s'
    obtain ⟨fo2, R2, k2⟩ := hu ρ σ' H' Z' fo' R
    exact h σ' H' Z' fo2 R2 ((s.trans s').trans (st k2))
  | rt d ρ =>
    intro v σ' H' Z' fo' R s' r'
    obtain ⟨fo2, R2, k2⟩ := hu ρ σ' H' Z' fo' R
    refine h v σ' H' Z' fo2 R2 ((s.trans s').trans (st k2)) ?_
    cases rk with
    | none => exact r'
    | some n =>
      obtain ⟨P, a1, a2, a3, a4⟩ := FrR.ex r'
      exact ⟨P, a1, fun b hb => by rw [← hM, ← hH]; exact a2 b hb, fun j x hx hj => by
        obtain ⟨k, hk⟩ := k2 j x hj
        exact a3 k x hx hk, a4⟩
theorem dss_unp (ts : List (Nat × Bool)) {k : Nat} {tpos : Pos} (hc : X.calm = true) (hp : DPl X c i l o f) (hr : ∀ as : List Addr, DSs X (c.pins (lents ts) as) rk sts g) (hraw : PGs X es (tRaw (ts.map (·.1)))) (hk : c.ks.getD i 0 = l + (m + 1 + 1) := by rfl)
    (hkh : ((lents ts).all fun h => c.ks.getD h 0 == m + 1 && h != i) = true := by rfl) (hpl : ((ts.map (·.1)).all fun h => !c.pl.contains h && h != i) = true := by rfl) (nd : (ts.map (·.1)).Nodup := by decide) (ndl : (lents ts).Nodup := by decide)
    (hn : (assignEach es X.env).length = ts.length := by rfl) (hst : (assignEach es X.env).findIdx? (·.1) = none := by rfl)
    (hs : swapsWithSole [.Tuple es k tpos] o pos.line X.env = pure false := by rfl) (hw : swappedStores [.Tuple es k tpos] o X.env = pure none := by rfl)
    (h1 : (assignEach [.Tuple es k tpos] X.env).map (·.2) = [assign (.Tuple es k tpos) X.env] := by rfl) :
    DSs X c rk (.Assign [.Tuple es k tpos] o pos :: sts) (sUnp i ts f g) := ⟨by
  have htail : PSs X sts (fun E σ H => ∃ as : List Addr, tS (c.pins (lents ts) as) X.K rk g E σ H) := ⟨fun pins s σ H D I ⟨as, q⟩ => (hr as).ps.run pins s σ H D I q⟩
  refine PSs.imp (pss_cons (ps_asg hp.pe (pg_unl hc hraw hn hst) hs hw h1) htail) fun E σ H ⟨ρ, Z, fo, R, fl, hf, kx⟩ => ?_
  obtain ⟨⟨p, ρ1⟩, e1, hf⟩ := Res.bind_ok hf
  obtain ⟨hl, _⟩ := hp.len _ _ _ e1
  dsimp only at hf
  split at hf
  · rename_i d h0
    split at hf
    · rename_i es0 hes
      obtain ⟨hlen, hf⟩ := if_ok' hf
      by_cases hex : ∃ fl, ∀ as : List Addr, as.length = (lents ts).length → runU i ts g p d es0 ρ1 as = .ok fl
      · rw [dif_pos hex] at hf
        have efl : hex.choose = fl := Res.ok.inj hf
        have spec := hex.choose_spec
        rw [efl] at spec
        refine ⟨ρ, Z, fo, R, p, ρ1, e1, fun b H1 Z1 fo1 R1 s1 m1 a1 => ?_⟩
        have hk1 : c.ks.getD i 0 = p.length + (m + 1 + 1) := by rw [hk, hl]
        obtain ⟨b', ws, Q, Rr, a', nd1, hsub, _⟩ := R1.mutP hk1 h0 hes
        cases a1.inj a'
        -- some addresses at all
        have sp0 := spec (List.replicate (lents ts).length 0) (List.length_replicate ..)
        have hall : ∀ as, ∀ fl, runU i ts g p d es0 ρ1 as = .ok fl → ∃ r, lendN ts es0 as (wipeS ts ρ1) = some r ∧ ∃ fl', g (r.2.set i (some (putD p (.lst r.1) d))) = .ok fl' ∧ fl = fl'.map (backsE i p 0 ts as) := fun as fl h => by
          unfold runU at h
          split at h
          · rename_i r hr
            obtain ⟨fl', g1, g2⟩ := Res.bind_ok h
            cases g2
            exact ⟨r, hr, fl', g1, rfl⟩
          · cases h
        obtain ⟨r0, hr0, _⟩ := hall _ _ sp0
        have refs : ∀ (j : Nat) e v, es0[j]? = some e → ws[j]? = some v → e.isL = true → ∃ a, v = V.ref a := fun j e v h1 h2 h3 => by
          have ow := nd1.q3 j e v h1 h2
          cases e with
          | lst xs =>
            obtain ⟨a, _, _, ea, _⟩ := ow.nd
            exact ⟨a, ea⟩
          | _ => cases h3
        obtain ⟨as, lo⟩ := LO.ex hr0 nd1.len refs
        obtain ⟨r, hr1, fl', hg, efl'⟩ := hall as fl (spec as lo.len)
        -- lengths
        have hwl := lo.lenT
        refine ⟨b, ws, rfl, SqL.of nd1.hb, hwl, by rw [List.length_map]; exact hwl, ?_⟩
        have out : ∀ h ∈ ts.map (·.1), h ∉ c.pl ∧ h ≠ i := fun h hh => by
          have := List.all_eq_true.mp hpl h hh
          rw [Bool.and_eq_true] at this
          refine ⟨fun z => ?_, by simpa using this.2⟩
          have h2 := this.1
          rw [List.contains_iff_mem.mpr z] at h2
          cases h2
        have lentsK : ∀ h ∈ lents ts, c.ks.getD h 0 = m + 1 ∧ h ≠ i := fun h hh => by
          have := List.all_eq_true.mp hkh h hh
          rw [Bool.and_eq_true] at this
          exact ⟨by simpa using this.1, by simpa using this.2⟩
        have iout : i ∉ ts.map (·.1) := fun z => (out i z).2 rfl
        have RW := RS.raw R1 (fun t ht => (out t.1 (List.mem_map_of_mem ht)).1) hwl
        have bound : ∀ j ∈ ts.map (·.1), j < σ.length := fun j hj => by
          obtain ⟨t, ht, rfl⟩ := List.mem_map.mp hj
          have := List.all_eq_true.mp hlen t ht
          rw [← R1.len]
          exact of_decide_eq_true this
        have h0' : (wipeS ts ρ1)[i]? = some (some d) := by rw [wipeS_out iout]; exact h0
        have RW' : RS c X.K ((wipeS ts ρ1).set i (some (putD p (.lst ([] ++ es0)) d))) Z1 (setAll σ (ts.map (·.1)) ws) H1 fo1 := by
          rw [List.nil_append, putD_self p d hes, putD_self.set_self h0']
          exact RW
        have at' : AtP (setAll σ (ts.map (·.1)) ws) H1 i p b := by
          obtain ⟨v, v1, v2⟩ := a1
          exact ⟨v, by rw [setAll_out iout]; exact v1, v2⟩
        obtain ⟨fo2, R2, k2⟩ := lend_all nd1.hb at' hk1 hes ts es0 ws as [] (wipeS ts ρ1) fo1 r RW' (by rw [wipeS_len]; exact (List.getElem?_eq_some_iff.mp h0).1) hr1 lo (fun j => by rw [List.length_nil, Nat.zero_add])
          (fun j h hj => ⟨(out h (List.mem_of_getElem? hj)).2, by
            have hjl : j < ws.length := by
              have := (List.getElem?_eq_some_iff.mp hj).1
              rw [List.length_map] at this
              omega
            exact ⟨_, List.getElem?_eq_getElem hjl, setAll_in nd bound hj (List.getElem?_eq_getElem hjl)⟩⟩) (fun h hh => (lentsK h hh).1) (fun j e v he h1 h2 => by
            have ow := nd1.q3 j e v h1 h2
            cases e with
            | lst _ => cases he
            | _ => exact ow)
        have hσl : ∀ (k h : Nat) (a : Addr), (lents ts)[k]? = some h → as[k]? = some a → (setAll σ (ts.map (·.1)) ws)[h]? = some (some (.ref a)) := fun k h a h1 h2 => by
          obtain ⟨j, e1, e2⟩ := lo.at k h a h1 h2
          exact setAll_in nd bound e1 e2
        have R3 := R2.pins lo.len (fun h hh => (out h (lts hh)).1) hσl
        refine ⟨as, _, Z1, fo2, R3, fl', hg, ?_⟩
        rw [efl'] at kx
        refine SEnd.map (c := c) (c' := c.pins (lents ts) as) rfl rfl (fun ρ σ H Z fo R => ?_) kx (s1.trans ⟨fun _ _ h _ => h, fun _ h => .inl h, fun _ h _ _ => h, fun j x hx => .inl (k2 j x hx)⟩)
        exact back_all hk1 ts as 0 ρ fo (R.unpins fun h hh => (out h (lts hh)).1) lo.len lentsK (R.pinned lo.len ndl)
      · rw [dif_neg hex] at hf; cases hf
    · cases hf
  · cases hf⟩
end
end DL
/-! x += e -/
namespace DL
open PySem PySem.Spec PyProof.Rows L2
def gIAdd : D → D → Res D
  | .int i, .int j => .ok (.int (i + j))
  | .str i, .str j => if i.length + j.length ≤ 16777216 then .ok (.str (i ++ j)) else .err
  | _, _ => .err
section
variable {X : Cx} {K : PySem.W.Frag}
theorem o_iadd : OpR X (inplaceOp .Add) (fun x y H Q => (rI0 fun i j => .int (i + j)) x y H Q ∨ ∃ i j, x = .str i ∧ y = .str j ∧ i.length + j.length ≤ sizeLine ∧ Q (.str (i ++ j)) H) := iop_add.or iop_add_str
theorem d_iadd : OpD K (fun x y H Q => (rI0 fun i j => .int (i + j)) x y H Q ∨ ∃ i j, x = .str i ∧ y = .str j ∧ i.length + j.length ≤ sizeLine ∧ Q (.str (i ++ j)) H) gIAdd := by
  intro Z H d e z x y Q hn hx hy hg k
  cases d with
  | int i =>
    cases e with
    | int j =>
      cases hx
      cases hy
      cases hg
      exact .inl ⟨i, j, rfl, rfl, k _ H (Same.refl H) rfl⟩
    | _ => cases hg
  | str i =>
    cases e with
    | str j =>
      cases hx
      cases hy
      obtain ⟨hl, ez⟩ := if_ok hg
      subst ez
      exact .inr ⟨i, j, rfl, rfl, sizeLine_ge hl, k _ H (Same.refl H) rfl⟩
    | _ => cases hg
  | _ => cases hg
end
section
variable {X : Cx} {c : DC} {lo hi : Option Expr} {l h : Ev → Res (Option Int × Ev)} {pos p2 : Pos}
/-- x[lo:hi] of an owned list: a fresh one -/
def dSlO (i : Nat) (l h : Ev → Res (Option Int × Ev)) (ρ : Ev) : Res (D × Ev) := match ρ[i]? with
  | some (some (.lst _)) => (l ρ).bind fun a => (h a.2).bind fun b => match b.2[i]? with
    | some (some d) => (gCutL d a.1 b.1).bind fun z => .ok (z, b.2)
    | _ => .err
  | _ => .err
theorem df_slO (i : Nat) {x : PySem.Str} {px : Pos} (hl : DO X c false lo l) (hh : DO X c false hi h) (hk : c.ks.getD i 0 = 1 := by rfl) (hN : X.N[i]? = some x := by rfl) (hv : Vis X.env.scope x := by first | exact Or.inl rfl | exact Or.inr (Or.inl rfl) | exact Or.inr (Or.inr rfl)) (hd : (x == ("__debug__" : Str)) = false := by decide)
    (hcd : (x == ("__classdict__" : Str)) = false := by decide) : DF X c 0 (.Subscript (.Name x px) (.Slice lo hi none p2) pos) (dSlO i l h) := ⟨by
  refine PE.imp (pe_slice sl_list (pe_var hN hv hd hcd) hl.po hh.po) fun σ H Q ⟨ρ, Z, fo, R, d, ρ', hf, k⟩ => ?_
  unfold dSlO at hf
  split at hf
  · rename_i ds0 h0
    obtain ⟨⟨o1, ρ2⟩, h2, hf⟩ := Res.bind_ok hf
    obtain ⟨⟨o2, ρ3⟩, h3, hf⟩ := Res.bind_ok hf
    dsimp only at hf
    split at hf
    · rename_i d1 h4
      obtain ⟨z, h5, hf⟩ := Res.bind_ok hf
      cases hf
      obtain ⟨a0, vs0, q1, _⟩ := R.mut1 hk h0
      refine ⟨_, q1, ρ, Z, fo, R, o1, ρ2, h2, fun H2 Z2 fo2 R2 s2 m2 => ⟨ρ2, Z2, fo2, R2, o2, _, h3, fun H3 Z3 fo3 R3 s3 m3 => ?_⟩⟩
      cases d1 with
      | lst ds =>
        cases h5
        obtain ⟨a1, vs1, w1, w2, t1, _⟩ := R3.mut1 hk h4
        rw [q1] at w1
        cases w1
        refine ⟨a0, vs1, rfl, SqL.of w2, fun t ht => ?_⟩
        obtain ⟨R4, st⟩ := R3.take (vs := cutV vs1 o1 o2) ht
        exact k _ _ _ fo3 R4 ((s2.trans s3).trans st) ((FrR.new R3 ht (t1.cut o1 o2)).back (s2.trans s3))
      | _ => cases h5
    · cases hf
  · cases hf⟩
end
end DL
/-! for x in zip(t, u), x a name: t, u tuples -/
namespace DL
open PySem PySem.Spec PyProof.Rows L2
/-- a zip, whatever is out -/
abbrev ZipS (h : Heap) (z TI TO : Addr) (f0 f1 : Value) : Prop :=
  h.get? z = some { cls := .type "zip", dict := none, data := .fields #[f0, f1, .bool false, .ref TI, .ref TO], slots := #[] }
def OutOk (f0 : Value) : Prop := f0 = .none ∨ ∃ T : Nat, f0 = rawInt T
section
variable {prog : Program} {w : World} {A : Around} {E : Value → Shared → Prop} {s : Shared}
theorem alive_any {a : Addr} {Q : Option Obj → Shared → Prop} (h : Q (s.heap.get? a) s) : wpAny (model prog w) A (loadIfAlive a) Q E s := fun _ _ _ => h
theorem free_any {z TI TO : Addr} {f0 f1 : Value} {Q : Bool → Shared → Prop} (gz : ZipS s.heap z TI TO f0 f1) (ok : OutOk f0) (h1 : Q true s) (h2 : ∀ h' f, ZipS h' z TI TO f0 f → Heap.SameBut z s.heap h' → Q false { s with heap := h' }) :
    wpAny (model prog w) A (Builtin.SmallTypes.ownedTupleIsFree (.ref z)) Q E s := by
  unfold Builtin.SmallTypes.ownedTupleIsFree
  rcases ok with e | ⟨T, e⟩
  · subst e
    exact wpAny_bind (wpAny_field gz rfl (x := .none) rfl (wpAny_pure h1))
  · subst e
    refine wpAny_bind (wpAny_field gz rfl (x := rawInt T) rfl ?_)
    show wpAny _ _ (loadIfAlive ((T : Int).toNat) >>= _) _ _ _
    rw [Int.toNat_natCast]
    refine wpAny_bind (alive_any ?_)
    cases s.heap.get? T with
    | none => exact wpAny_pure h1
    | some o =>
      simp only [Option.isNone_some, Bool.false_eq_true, if_false]
      refine wpAny_bind (wpAny_field gz rfl (x := f1) rfl ?_)
      by_cases c : (f1 != Value.bool true) = true
      · rw [if_pos c]
        exact wpAny_bind (wpAny_setField_rec gz (by simp) fun h3 g3 s3 => wpAny_pure (h2 h3 _ g3 s3))
      · rw [if_neg c]
        exact wpAny_pure (h2 s.heap _ gz (Heap.SameBut.refl _ _))
theorem zipS_item {z TI TO i1 i2 l1 l2 : Addr} {k1 k2 : Nat} {xs ys : Array Value} {x y a b f0 f1 : Value} {Q : Value → Shared → Prop} (D : ZipApart z TI TO i1 i2 l1 l2) (gz : ZipS s.heap z TI TO f0 f1) (ok : OutOk f0) (gI : IsPair s.heap TI (.ref i1) (.ref i2)) (gO : IsPair s.heap TO a b)
    (w1 : s.heap.IsTupleIter i1 l1 k1) (w2 : s.heap.IsTupleIter i2 l2 k2) (t1 : s.heap.IsTuple l1 xs) (t2 : s.heap.IsTuple l2 ys) (hx : xs[k1]? = some x) (hy : ys[k2]? = some y)
    (k : ∀ h' g0 g1 a' b', ZipS h' z TI TO g0 g1 → OutOk g0 → IsPair h' TO a' b' → h'.IsTupleIter i1 l1 (k1 + 1) → h'.IsTupleIter i2 l2 (k2 + 1) → IsPair h' s.heap.objs.size x y → h'.objs.size = s.heap.objs.size + 1 →
      (∀ c o, c ≠ z → c ≠ TO → c ≠ i1 → c ≠ i2 → s.heap.get? c = some o → h'.get? c = some o) → Q (.ref s.heap.objs.size) { s with heap := h' }) :
    wpAny (model prog w) A (Builtin.«zip.__next__» ⟨[.ref z], []⟩) (fun fin s' => ∃ v, fin = .done (.ret v) ∧ Q v s') E s := by
  show wpAny _ _ (field (.ref z) 2 >>= _) _ _ _
  refine wpAny_bind (wpAny_field gz rfl (x := .bool false) rfl ?_)
  show wpAny _ _ (field (.ref z) 3 >>= _) _ _ _
  refine wpAny_bind (wpAny_field gz rfl (x := .ref TI) rfl ?_)
  refine wpAny_bind (wpAny_seqItems gI rfl ?_)
  show wpAny _ _ (Builtin.SmallTypes.ownedTupleIsFree (.ref z) >>= _) _ _ _
  refine wpAny_bind (free_any gz ok ?_ fun p₁ f gz₁ u₁ => ?_)
  · -- the kept tuple is filled again
    simp only [if_true]
    refine wpAny_bind (wpAny_rule ?_)
    refine wpAny_bind (wpAny_field gz rfl (x := .ref TO) rfl ?_)
    refine wpAny_bind (wpAny_setField_rec gz (by simp) fun p₁ gz₁ u₁ => ?_)
    replace gz₁ : ZipS p₁ z TI TO .ellipsis f1 := gz₁
    refine wpAny_bind ?_
    simp only [List.zipIdx_cons, List.zipIdx_nil, List.forIn_cons, List.forIn_nil]
    refine wpAny_bind (wpAny_bind (wpAny_onRaise ?_))
    show wpAny _ _ (Builtin.SmallTypes.nextOf (.ref i1) >>= _) _ _ _
    refine wpAny_bind (RZ.nextOf_tuple_item (w1.extBut u₁.extBut D.i1z) (t1.extBut u₁.extBut D.l1z) hx fun p₂ w1₂ u₂ => wpAny_pure ?_)
    have gO₂ : IsPair p₂ TO a b := u₂.extBut _ _ D.TOi1 (u₁.extBut _ _ D.TOz gO)
    refine wpAny_bind (wpAny_seqItems gO₂ rfl ?_)
    refine wpAny_bind (wpAny_updateSeq_pair gO₂ fun p₃ gO₃ u₃ => ?_)
    replace gO₃ : IsPair p₃ TO x b := gO₃
    refine wpAny_bind (wpAny_letGo (wpAny_pure ?_))
    refine wpAny_bind (wpAny_bind (wpAny_onRaise ?_))
    show wpAny _ _ (Builtin.SmallTypes.nextOf (.ref i2) >>= _) _ _ _
    refine wpAny_bind (RZ.nextOf_tuple_item (((w2.extBut u₁.extBut D.i2z).extBut u₂.extBut D.i12.symm).extBut u₃.extBut D.TOi2.symm) (((t2.extBut u₁.extBut D.l2z).extBut u₂.extBut D.l2i1).extBut u₃.extBut D.l2TO) hy fun p₄ w2₄ u₄ => wpAny_pure ?_)
    have gO₄ : IsPair p₄ TO x b := u₄.extBut _ _ D.TOi2 gO₃
    refine wpAny_bind (wpAny_seqItems gO₄ rfl ?_)
    refine wpAny_bind (wpAny_updateSeq_pair gO₄ fun p₅ gO₅ u₅ => ?_)
    replace gO₅ : IsPair p₅ TO x y := gO₅
    refine wpAny_bind (wpAny_letGo (wpAny_pure (wpAny_pure ?_)))
    refine wpAny_bind (wpAny_seqItems gO₅ rfl ?_)
    refine wpAny_bind (wpAny_newTuple ?_)
    have sz : p₅.objs.size = s.heap.objs.size := by rw [u₅.1, u₄.1, u₃.1, u₂.1, u₁.1]
    have gz₅ : ZipS p₅ z TI TO .ellipsis f1 := u₅.extBut _ _ D.TOz.symm (u₄.extBut _ _ D.i2z.symm (u₃.extBut _ _ D.TOz.symm (u₂.extBut _ _ D.i1z.symm gz₁)))
    have kp : ∀ c o, c ≠ z → c ≠ TO → c ≠ i1 → c ≠ i2 → s.heap.get? c = some o → p₅.get? c = some o := fun c o n1 n2 n3 n4 e =>
      u₅.extBut _ _ n2 (u₄.extBut _ _ n4 (u₃.extBut _ _ n2 (u₂.extBut _ _ n3 (u₁.extBut _ _ n1 e))))
    have w1₅ : p₅.IsTupleIter i1 l1 (k1 + 1) := ((w1₂.extBut u₃.extBut D.TOi1.symm).extBut u₄.extBut D.i12).extBut u₅.extBut D.TOi1.symm
    have w2₅ : p₅.IsTupleIter i2 l2 (k2 + 1) := w2₄.extBut u₅.extBut D.TOi2.symm
    have zlt : z < p₅.objs.size := Heap.lt_size gz₅
    show wpAny _ _ (Builtin.SmallTypes.ownedTupleHandOut (.ref z) (.ref p₅.objs.size) >>= _) _ _ _
    refine wpAny_bind ?_
    unfold Builtin.SmallTypes.ownedTupleHandOut
    have gz₆ : ZipS (p₅.push { cls := .type "tuple", data := .seq #[x, y] }) z TI TO .ellipsis f1 := Heap.get?_push_of_some _ gz₅
    refine wpAny_bind (wpAny_setField_rec gz₆ (by simp) fun p₇ gz₇ u₇ => ?_)
    replace gz₇ : ZipS p₇ z TI TO (rawInt p₅.objs.size) f1 := gz₇
    refine wpAny_setField_rec gz₇ (by simp) fun p₈ gz₈ u₈ => ?_
    replace gz₈ : ZipS p₈ z TI TO (rawInt p₅.objs.size) (.bool false) := gz₈
    have up : ∀ c o, c ≠ z → p₅.get? c = some o → p₈.get? c = some o := fun c o n1 e => u₈.extBut _ _ n1 (u₇.extBut _ _ n1 (Heap.get?_push_of_some _ e))
    have new : IsPair p₈ p₅.objs.size x y := u₈.extBut _ _ (Nat.ne_of_gt zlt) (u₇.extBut _ _ (Nat.ne_of_gt zlt) (Heap.get?_push_size _ rfl))
    have z8 : p₈.objs.size = p₅.objs.size + 1 := by rw [u₈.1, u₇.1, Heap.size_push]
    rw [sz] at gz₈ new z8
    refine wpAny_pure ⟨_, rfl, ?_⟩
    show Q (.ref p₅.objs.size) _
    rw [sz]
    exact k p₈ _ _ x y gz₈ (.inr ⟨_, rfl⟩) (up _ _ D.TOz gO₅) (w1₅.at fun o e => up _ o D.i1z e) (w2₅.at fun o e => up _ o D.i2z e) new z8 fun c o n1 n2 n3 n4 e => up c o n1 (kp c o n1 n2 n3 n4 e)
  · -- a new one
    simp only [Bool.false_eq_true, if_false]
    refine wpAny_bind ?_
    rw [← Array.forIn_toList]
    simp only [List.forIn_cons, List.forIn_nil]
    refine wpAny_bind (wpAny_bind (wpAny_holding ?_))
    show wpAny _ _ (Builtin.SmallTypes.nextOf (.ref i1) >>= _) _ _ _
    refine wpAny_bind (RZ.nextOf_tuple_item (s := { s with heap := p₁ }) (w1.extBut u₁.extBut D.i1z) (t1.extBut u₁.extBut D.l1z) hx fun p₂ w1₂ u₂ => wpAny_pure ?_)
    refine wpAny_pure ?_
    refine wpAny_bind (wpAny_bind (wpAny_holding ?_))
    show wpAny _ _ (Builtin.SmallTypes.nextOf (.ref i2) >>= _) _ _ _
    refine wpAny_bind (RZ.nextOf_tuple_item (s := { s with heap := p₂ }) ((w2.extBut u₁.extBut D.i2z).extBut u₂.extBut D.i12.symm) ((t2.extBut u₁.extBut D.l2z).extBut u₂.extBut D.l2i1) hy fun p₃ w2₃ u₃ => wpAny_pure ?_)
    refine wpAny_pure (wpAny_pure ?_)
    show wpAny _ _ (newTuple [x, y] >>= _) _ _ _
    refine wpAny_bind (wpAny_newTuple ?_)
    have sz : p₃.objs.size = s.heap.objs.size := by rw [u₃.1, u₂.1, u₁.1]
    have gz₃ : ZipS p₃ z TI TO f0 f := u₃.extBut _ _ D.i2z.symm (u₂.extBut _ _ D.i1z.symm gz₁)
    have gO₃ : IsPair p₃ TO a b := u₃.extBut _ _ D.TOi2 (u₂.extBut _ _ D.TOi1 (u₁.extBut _ _ D.TOz gO))
    have kp : ∀ c o, c ≠ z → c ≠ i1 → c ≠ i2 → s.heap.get? c = some o → p₃.get? c = some o := fun c o n1 n2 n3 e => u₃.extBut _ _ n3 (u₂.extBut _ _ n2 (u₁.extBut _ _ n1 e))
    have w1₃ : p₃.IsTupleIter i1 l1 (k1 + 1) := w1₂.extBut u₃.extBut D.i12
    refine wpAny_pure ⟨_, rfl, ?_⟩
    show Q (.ref p₃.objs.size) _
    have np : IsPair (p₃.push { cls := .type "tuple", data := .seq #[x, y] }) p₃.objs.size x y := Heap.get?_push_size _ rfl
    have z4 : (p₃.push { cls := .type "tuple", data := .seq #[x, y] }).objs.size = p₃.objs.size + 1 := Heap.size_push ..
    rw [sz] at np z4 ⊢
    exact k _ f0 f a b (Heap.get?_push_of_some _ gz₃) ok (Heap.get?_push_of_some _ gO₃) (w1₃.at fun o e => Heap.get?_push_of_some _ e) (w2₃.at fun o e => Heap.get?_push_of_some _ e) np z4 fun c o n1 n2 n3 n4 e => Heap.get?_push_of_some _ (kp c o n1 n3 n4 e)
theorem zipS_end {z TI TO i1 i2 l1 l2 : Addr} {k1 k2 : Nat} {xs ys : Array Value} {a b f0 f1 : Value} {Q : Fin → Shared → Prop} (hh : A.handled = none) (D : ZipApart z TI TO i1 i2 l1 l2) (gz : ZipS s.heap z TI TO f0 f1) (ok : OutOk f0) (gI : IsPair s.heap TI (.ref i1) (.ref i2)) (gO : IsPair s.heap TO a b)
    (w1 : s.heap.IsTupleIter i1 l1 k1) (w2 : s.heap.IsTupleIter i2 l2 k2) (t1 : s.heap.IsTuple l1 xs) (t2 : s.heap.IsTuple l2 ys) (hend : xs[k1]? = none ∨ ys[k2]? = none)
    (k : ∀ h' e, (∀ c o, c ≠ z → c ≠ TO → c ≠ i1 → c ≠ i2 → s.heap.get? c = some o → h'.get? c = some o) → (∃ o, h'.get? e = some o ∧ o.cls = .type "StopIteration") → E (.ref e) { s with heap := h' }) :
    wpAny (model prog w) A (Builtin.«zip.__next__» ⟨[.ref z], []⟩) Q E s := by
  show wpAny _ _ (field (.ref z) 2 >>= _) _ _ _
  refine wpAny_bind (wpAny_field gz rfl (x := .bool false) rfl ?_)
  show wpAny _ _ (field (.ref z) 3 >>= _) _ _ _
  refine wpAny_bind (wpAny_field gz rfl (x := .ref TI) rfl ?_)
  refine wpAny_bind (wpAny_seqItems gI rfl ?_)
  show wpAny _ _ (Builtin.SmallTypes.ownedTupleIsFree (.ref z) >>= _) _ _ _
  refine wpAny_bind (free_any gz ok ?_ fun p₁ f gz₁ u₁ => ?_)
  · simp only [if_true]
    refine wpAny_bind (wpAny_rule ?_)
    refine wpAny_bind (wpAny_field gz rfl (x := .ref TO) rfl ?_)
    refine wpAny_bind (wpAny_setField_rec gz (by simp) fun p₁ gz₁ u₁ => ?_)
    replace gz₁ : ZipS p₁ z TI TO .ellipsis f1 := gz₁
    refine wpAny_bind ?_
    simp only [List.zipIdx_cons, List.zipIdx_nil, List.forIn_cons, List.forIn_nil]
    refine wpAny_bind (wpAny_bind (wpAny_onRaise ?_))
    show wpAny _ _ (Builtin.SmallTypes.nextOf (.ref i1) >>= _) _ _ _
    cases hx : xs[k1]? with
    | none =>
      refine wpAny_bind (RZ.nextOf_tuple_end hh (w1.extBut u₁.extBut D.i1z) (t1.extBut u₁.extBut D.l1z) hx fun p₂ e u₂ he => ?_)
      obtain ⟨oe, hoe, hce⟩ := he
      have gz₂ : ZipS p₂ z TI TO .ellipsis f1 := u₂ _ _ D.i1z.symm gz₁
      have ez : e ≠ z := fun q => by subst q; rw [gz₂] at hoe; cases hoe; simp at hce
      refine wpAny_setField_rec gz₂ (by simp) fun p₃ _ u₃ => k p₃ e (fun c o n1 _ n3 _ q => u₃.extBut _ _ n1 (u₂ _ _ n3 (u₁.extBut _ _ n1 q))) ⟨oe, u₃.extBut _ _ ez hoe, hce⟩
    | some x =>
      have hy : ys[k2]? = none := by
        rcases hend with h | h
        · rw [hx] at h; cases h
        · exact h
      refine wpAny_bind (RZ.nextOf_tuple_item (w1.extBut u₁.extBut D.i1z) (t1.extBut u₁.extBut D.l1z) hx fun p₂ w1₂ u₂ => wpAny_pure ?_)
      have gO₂ : IsPair p₂ TO a b := u₂.extBut _ _ D.TOi1 (u₁.extBut _ _ D.TOz gO)
      refine wpAny_bind (wpAny_seqItems gO₂ rfl ?_)
      refine wpAny_bind (wpAny_updateSeq_pair gO₂ fun p₃ gO₃ u₃ => ?_)
      refine wpAny_bind (wpAny_letGo (wpAny_pure ?_))
      refine wpAny_bind (wpAny_bind (wpAny_onRaise ?_))
      show wpAny _ _ (Builtin.SmallTypes.nextOf (.ref i2) >>= _) _ _ _
      refine wpAny_bind (RZ.nextOf_tuple_end hh (((w2.extBut u₁.extBut D.i2z).extBut u₂.extBut D.i12.symm).extBut u₃.extBut D.TOi2.symm) (((t2.extBut u₁.extBut D.l2z).extBut u₂.extBut D.l2i1).extBut u₃.extBut D.l2TO) hy fun p₄ e u₄ he => ?_)
      obtain ⟨oe, hoe, hce⟩ := he
      have gz₄ : ZipS p₄ z TI TO .ellipsis f1 := u₄ _ _ D.i2z.symm (u₃.extBut _ _ D.TOz.symm (u₂.extBut _ _ D.i1z.symm gz₁))
      have ez : e ≠ z := fun q => by subst q; rw [gz₄] at hoe; cases hoe; simp at hce
      refine wpAny_setField_rec gz₄ (by simp) fun p₅ _ u₅ => k p₅ e (fun c o n1 n2 n3 n4 q => u₅.extBut _ _ n1 (u₄ _ _ n4 (u₃.extBut _ _ n2 (u₂.extBut _ _ n3 (u₁.extBut _ _ n1 q))))) ⟨oe, u₅.extBut _ _ ez hoe, hce⟩
  · simp only [Bool.false_eq_true, if_false]
    refine wpAny_bind ?_
    rw [← Array.forIn_toList]
    simp only [List.forIn_cons, List.forIn_nil]
    refine wpAny_bind (wpAny_bind (wpAny_holding ?_))
    show wpAny _ _ (Builtin.SmallTypes.nextOf (.ref i1) >>= _) _ _ _
    cases hx : xs[k1]? with
    | none =>
      refine wpAny_bind (RZ.nextOf_tuple_end (s := { s with heap := p₁ }) hh (w1.extBut u₁.extBut D.i1z) (t1.extBut u₁.extBut D.l1z) hx fun p₂ e u₂ he => ?_)
      exact k p₂ e (fun c o n1 _ n3 _ q => u₂ _ _ n3 (u₁.extBut _ _ n1 q)) he
    | some x =>
      have hy : ys[k2]? = none := by
        rcases hend with h | h
        · rw [hx] at h; cases h
        · exact h
      refine wpAny_bind (RZ.nextOf_tuple_item (s := { s with heap := p₁ }) (w1.extBut u₁.extBut D.i1z) (t1.extBut u₁.extBut D.l1z) hx fun p₂ w1₂ u₂ => wpAny_pure ?_)
      refine wpAny_pure ?_
      refine wpAny_bind (wpAny_bind (wpAny_holding ?_))
      show wpAny _ _ (Builtin.SmallTypes.nextOf (.ref i2) >>= _) _ _ _
      refine wpAny_bind (RZ.nextOf_tuple_end (s := { s with heap := p₂ }) hh ((w2.extBut u₁.extBut D.i2z).extBut u₂.extBut D.i12.symm) ((t2.extBut u₁.extBut D.l2z).extBut u₂.extBut D.l2i1) hy fun p₃ e u₃ he => ?_)
      exact k p₃ e (fun c o n1 n2 n3 n4 q => u₃ _ _ n4 (u₂.extBut _ _ n3 (u₁.extBut _ _ n1 q))) he
theorem nextS_item {z TI TO i1 i2 l1 l2 : Addr} {k1 k2 : Nat} {xs ys : Array Value} {x y a b f0 f1 : Value} {Q : Option Value → Shared → Prop} (D : ZipApart z TI TO i1 i2 l1 l2) (gz : ZipS s.heap z TI TO f0 f1) (ok : OutOk f0) (gI : IsPair s.heap TI (.ref i1) (.ref i2)) (gO : IsPair s.heap TO a b)
    (w1 : s.heap.IsTupleIter i1 l1 k1) (w2 : s.heap.IsTupleIter i2 l2 k2) (t1 : s.heap.IsTuple l1 xs) (t2 : s.heap.IsTuple l2 ys) (hx : xs[k1]? = some x) (hy : ys[k2]? = some y)
    (k : ∀ h' g0 g1 a' b', ZipS h' z TI TO g0 g1 → OutOk g0 → IsPair h' TO a' b' → h'.IsTupleIter i1 l1 (k1 + 1) → h'.IsTupleIter i2 l2 (k2 + 1) → IsPair h' s.heap.objs.size x y → h'.objs.size = s.heap.objs.size + 1 →
      (∀ c o, c ≠ z → c ≠ TO → c ≠ i1 → c ≠ i2 → s.heap.get? c = some o → h'.get? c = some o) → Q (some (.ref s.heap.objs.size)) { s with heap := h' }) :
    wpAny (model prog w) A (pyNext (.ref z)) Q E s := by
  have ty : s.TypeIs (.ref z) "zip" := ⟨_, gz, rfl⟩
  unfold pyNext
  exact wpAny_bind (wpAny_attempt (wpAny_callSpecial?_slot (name := Str.ofString "__next__") ty F.slot_zip_next (wpAny_call_entry F.slot_zip_next ty F.entry_zip_next
    (zipS_item D gz ok gI gO w1 w2 t1 t2 hx hy fun h' g0 g1 a' b' q1 q2 q3 q4 q5 q6 q7 q8 => wpAny_pure (k h' g0 g1 a' b' q1 q2 q3 q4 q5 q6 q7 q8)) (F.args_zip_next_1 _))))
theorem nextS_end {z TI TO i1 i2 l1 l2 : Addr} {k1 k2 : Nat} {xs ys : Array Value} {a b f0 f1 : Value} {Q : Option Value → Shared → Prop} (hh : A.handled = none) (D : ZipApart z TI TO i1 i2 l1 l2) (gz : ZipS s.heap z TI TO f0 f1) (ok : OutOk f0) (gI : IsPair s.heap TI (.ref i1) (.ref i2)) (gO : IsPair s.heap TO a b)
    (w1 : s.heap.IsTupleIter i1 l1 k1) (w2 : s.heap.IsTupleIter i2 l2 k2) (t1 : s.heap.IsTuple l1 xs) (t2 : s.heap.IsTuple l2 ys) (hend : xs[k1]? = none ∨ ys[k2]? = none)
    (k : ∀ h', (∀ c o, c ≠ z → c ≠ TO → c ≠ i1 → c ≠ i2 → s.heap.get? c = some o → h'.get? c = some o) → Q none { s with heap := h' }) : wpAny (model prog w) A (pyNext (.ref z)) Q E s := by
  have ty : s.TypeIs (.ref z) "zip" := ⟨_, gz, rfl⟩
  unfold pyNext
  refine wpAny_bind (wpAny_attempt (wpAny_callSpecial?_slot (name := Str.ofString "__next__") ty F.slot_zip_next
    (wpAny_call_entry F.slot_zip_next ty F.entry_zip_next (zipS_end hh D gz ok gI gO w1 w2 t1 t2 hend fun h' e kp he => ?_) (F.args_zip_next_1 _))))
  obtain ⟨o, ho, hc⟩ := he
  refine wpAny_bind (wpAny_isInstance (T := "StopIteration") (b := true) ⟨o, ho, hc⟩ isSubtype_stop ?_)
  exact wpAny_pure (k _ kp)
end
end DL
/-! for x in zip(t, u): the rule -/
namespace DL
open PySem PySem.Spec PyProof.Rows L2
theorem iterS {prog : Program} {w : World} {A : Around} {E : Value → Shared → Prop} {s : Shared} {z TI TO : Addr} {f0 f1 : Value} {Q : Value → Shared → Prop} (gz : ZipS s.heap z TI TO f0 f1) (h : Q (.ref z) s) : wpAny (model prog w) A (pyIter (.ref z)) Q E s := by
  have ty : s.TypeIs (.ref z) "zip" := ⟨_, gz, rfl⟩
  refine wpAny_pyIter_slot ty F.slot_zip_iter (wpAny_call_entry F.slot_zip_iter ty F.entry_zip_iter ?_ (F.args_zip_iter_1 _))
  show wpAny _ _ (ret (.ref z)) _ _ s
  exact wpAny_pure ⟨_, rfl, "zip", _, ty, F.slot_zip_next.lookup, h⟩
theorem turnS {P : Program} {w : World} {K : PySem.W.Frag} {x : PySem.Str} {px : Pos} {a b z TI TO i1 i2 : Addr} (D : ZipApart z TI TO i1 i2 a b) :
    Turn P w K (.Name x px) (RZ.ItzT K a b) [z, TI, TO, i1, i2] z (fun i h => (∃ f0 f1, ZipS h z TI TO f0 f1 ∧ OutOk f0) ∧ IsPair h TI (.ref i1) (.ref i2) ∧ (∃ u v, IsPair h TO u v) ∧ h.IsTupleIter i1 a i ∧ h.IsTupleIter i2 b i) where
  mem := List.mem_cons_self
  obj := fun i h st c hc => by
    obtain ⟨⟨f0, f1, gz, _⟩, gI, ⟨u, v, gO⟩, ⟨o1, e1, _, d1⟩, ⟨o2, e2, _, d2⟩⟩ := st
    have five : c = z ∨ c = TI ∨ c = TO ∨ c = i1 ∨ c = i2 := by simpa using hc
    rcases five with q | q | q | q | q
    · subst q; exact ⟨_, gz, fun v q => nomatch q⟩
    · subst q; exact ⟨_, gI, fun v q => nomatch q⟩
    · subst q; exact ⟨_, gO, fun v q => nomatch q⟩
    · subst q; exact ⟨o1, e1, fun v q => by rw [d1] at q; cases q⟩
    · subst q; exact ⟨o2, e2, fun v q => by rw [d2] at q; cases q⟩
  keep := fun i h h' st k => by
    obtain ⟨⟨f0, f1, gz, ok⟩, gI, ⟨u, v, gO⟩, w1, w2⟩ := st
    exact ⟨⟨f0, f1, k z (by simp) _ gz, ok⟩, k TI (by simp) _ gI, ⟨u, v, k TO (by simp) _ gO⟩, w1.at fun o q => k i1 (by simp) o q, w2.at fun o q => k i2 (by simp) o q⟩
  item := by
    intro X hP hw hK hc i pins s σ H E I hf st hg
    subst hP hw hK
    obtain ⟨⟨f0, f1, gz, ok⟩, gI, ⟨x0, y0, gO⟩, w1, w2⟩ := st
    obtain ⟨xs, ys, x, y, hqx, hqy, hx, hy⟩ := hg
    obtain ⟨its, rv, p, _⟩ := I.tuple hqx
    obtain ⟨jts, rv2, p2, _⟩ := I.tuple hqy
    obtain ⟨u, hu, ru⟩ := rv.get hx
    obtain ⟨v, hv, rv'⟩ := rv2.get hy
    refine nextS_item D gz ok gI gO w1 w2 p p2 (x := u) (y := v) (by simpa using hu) (by simpa using hv) fun h' g0 g1 a' b' gz' ok' gO' w1' w2' np sz kp => ?_
    refine ⟨_, rfl, wpAny_pure ?_⟩
    have new : ObjOk X.prog X.w (upd H s.heap.objs.size (.tup [x, y])) h' s.heap.objs.size (.tup [x, y]) :=
      ⟨by show 2 ≤ sizeLine; decide, [u, v], .cons ru (.cons rv' .nil), ⟨_, np, rfl, _, rfl⟩⟩
    have I1 : Inv X pins σ (upd H s.heap.objs.size (.tup [x, y])) { s with heap := h' } :=
      I.turnedNew (t' := s.toks) (ch := [z, TI, TO, i1, i2]) (fun c o hb q => kp c o (fun n => hb (by simp [n])) (fun n => hb (by simp [n])) (fun n => hb (by simp [n])) (fun n => hb (by simp [n])) q) hf (Nat.le_refl _) new
    have mine : ∀ c ∈ [z, TI, TO, i1, i2], c < s.heap.objs.size := fun c hcm => by
      have five : c = z ∨ c = TI ∨ c = TO ∨ c = i1 ∨ c = i2 := by simpa using hcm
      rcases five with q | q | q | q | q
      · rw [q]; exact Heap.lt_size gz
      · rw [q]; exact Heap.lt_size gI
      · rw [q]; exact Heap.lt_size gO
      · rw [q]; obtain ⟨_, e1, _⟩ := w1; exact Heap.lt_size e1
      · rw [q]; obtain ⟨_, e2, _⟩ := w2; exact Heap.lt_size e2
    refine ⟨.ref s.heap.objs.size, _, I1, rfl, ⟨_, x, y, rfl, I.hok.fresh (Nat.le_refl _), rfl, fun l hl => by rw [I.tuple_inj hl hqx]; exact hx, fun l hl => by rw [I.tuple_inj hl hqy]; exact hy⟩, ⟨⟨g0, g1, gz', ok'⟩, kp _ _ D.TIz D.TITO D.TIi1 D.TIi2 gI, ⟨a', b', gO'⟩, w1', w2'⟩, fun c hcm => ?_⟩
    rw [upd_ne (Nat.ne_of_lt (mine c hcm))]
    exact (hf c hcm).1
  done := by
    intro X hP hw hK hc i pins s σ H E I hf st hg
    subst hP hw hK
    obtain ⟨⟨f0, f1, gz, ok⟩, gI, ⟨x0, y0, gO⟩, w1, w2⟩ := st
    obtain ⟨xs, ys, hqx, hqy, hend⟩ := hg
    obtain ⟨its, rv, p, _⟩ := I.tuple hqx
    obtain ⟨jts, rv2, p2, _⟩ := I.tuple hqy
    have l1 := rv.length
    have l2 := rv2.length
    have he : its.toArray[i]? = none ∨ jts.toArray[i]? = none := by
      rcases hend with q | q
      · exact .inl (by simp; omega)
      · exact .inr (by simp; omega)
    exact nextS_end (I.ok.hd hc) D gz ok gI gO w1 w2 p p2 he fun h' kp => ⟨rfl, I.turnedL (t' := s.toks) (ch := [z, TI, TO, i1, i2]) (fun c o hb q => kp c o (fun n => hb (by simp [n])) (fun n => hb (by simp [n])) (fun n => hb (by simp [n])) (fun n => hb (by simp [n])) q) hf⟩
  self := fun A i s Q E st h => by
    obtain ⟨⟨f0, f1, gz, _⟩, _⟩ := st
    exact iterS gz h
def iZipN (K : PySem.W.Frag) (ta : TA) : TI := fun σ H R => ta σ H fun vs H1 => ∃ a b xs ys, vs = [.ref a, .ref b] ∧ SqT K H1 a xs ∧ SqT K H1 b ys ∧ R (RZ.ItzT K a b) H1
theorem pi_zipN {X : Cx} {e e2 : Expr} {ta : TA} {p pos px : Pos} {x : PySem.Str} (hg : Gl X "zip") (hm : X.mg "zip" = none) (ha : PA X [e, e2] ta)
    (hs : starEach [e, e2] X.env = (false, eval e X.env) :: starEach [e2] X.env := by rfl) (hpl : (backTo pos (starEach [e2] X.env)).any (·.1) = false := by rfl) :
    PI X (.Name x px) (.Call (.Name "zip" p) [e, e2] [] pos) (iZipN X.K ta) := ⟨fun pins s σ H R I h => by
  refine Call_ (ld_blt I hg hm PyProof.Rows.boot_zip (PyProof.Rows.callWith_type1 (thn (ha.run pos pins s σ H _ I h) fun us s1 ⟨vs, H1, I1, r1, q1⟩ => ?_) hs hpl))
  obtain ⟨a, b, xs, ys, ex, hqx, hqy, q⟩ := q1
  subst ex
  cases r1 with
  | cons r rr =>
    cases rr with
    | cons r' rr =>
      cases rr
      cases r
      cases r'
      have new5 : ∀ c, c ∈ [s1.heap.objs.size + 4, s1.heap.objs.size + 2, s1.heap.objs.size + 3, s1.heap.objs.size, s1.heap.objs.size + 1] → FpOk X pins H1 c := fun c hcm => by
        have hle : s1.heap.objs.size ≤ c := by
          rcases (by simpa using hcm : c = s1.heap.objs.size + 4 ∨ c = s1.heap.objs.size + 2 ∨ c = s1.heap.objs.size + 3 ∨ c = s1.heap.objs.size ∨ c = s1.heap.objs.size + 1) with n | n | n | n | n
          all_goals (subst n; omega)
        exact I1.fpOk hle (I1.hok.fresh hle)
      obtain ⟨its, rv, p1, _⟩ := I1.tuple hqx
      obtain ⟨jts, rv2, p2, _⟩ := I1.tuple hqy
      obtain ⟨o1, ho1, _⟩ := id p1
      obtain ⟨o2, ho2, _⟩ := id p2
      refine RZ.call_zipT (show s1.heap.IsTuple a its.toArray from p1) (show s1.heap.IsTuple b jts.toArray from p2) fun h' gz gI gO w1 w2 hsz hk => wpAny_pyIter_zip gz ?_
      exact ⟨s1.heap.objs.size + 4, [s1.heap.objs.size + 4, s1.heap.objs.size + 2, s1.heap.objs.size + 3, s1.heap.objs.size, s1.heap.objs.size + 1], _, _, H1, rfl, I1.kept (t' := s1.toks) hk,
        turnS (PySem.W.ktu_apart s1.heap.objs.size a b (Heap.lt_size ho1) (Heap.lt_size ho2)), ⟨⟨_, _, gz, .inl rfl⟩, gI, ⟨_, _, gO⟩, w1, w2⟩, new5, q⟩⟩
def dZipT (f : Ev → Res (List D × Ev)) (ρ : Ev) : Res (List D × Ev) := (f ρ).bind fun p => match p.1 with
  | [.tup xs, .tup ys] => .ok (pairD xs ys, p.2)
  | _ => .err
theorem di_zipN {X : Cx} {c : DC} {e e2 : Expr} {p pos px : Pos} {x : PySem.Str} {f : Ev → Res (List D × Ev)} (hm : X.mg "zip" = none) (ha : DAs X c false false [e, e2] f) (hg : Gl X "zip" := by rfl) (hs : starEach [e, e2] X.env = (false, eval e X.env) :: starEach [e2] X.env := by rfl) (hs2 : (backTo pos (starEach [e2] X.env)).any (·.1) = false := by rfl) :
    DI X c (.Name x px) (.Call (.Name "zip" p) [e, e2] [] pos) (dZipT f) := ⟨by
  refine PI.imp (pi_zipN hg hm ha.pa hs hs2) fun σ H R ⟨ρ, Z, fo, RR, ds, ρ', hf, k⟩ => ?_
  obtain ⟨⟨d1, ρ1⟩, e1, hf⟩ := Res.bind_ok hf
  refine ⟨ρ, Z, fo, RR, d1, ρ1, e1, fun vs H1 Z1 fo1 R1 s1 m1 l1 p1 => ?_⟩
  dsimp only at hf
  split at hf
  · rename_i xs ys
    obtain ⟨x, y, rfl, ⟨a, us, rfl, r1, q1⟩, ⟨b, ws, rfl, r2, q2⟩⟩ := shs2 p1
    cases hf
    refine ⟨a, b, us, ws, rfl, r1.sq, r2.sq, k _ H1 Z1 fo1 R1 s1 ?_⟩
    refine ⟨_, _, walk_zipT (xs := us) (ys := ws) (by rw [pair_len, q1.len, q2.len]), fun Z2 H2 st => ⟨(r1.stp st).sq, (r2.stp st).sq⟩, fun i Z2 H2 v H3 hi st hz yy => ?_⟩
    obtain ⟨T, x, y, rfl, nT, rfl, g1, g2⟩ := yy
    obtain ⟨dx, g3, g4⟩ := (Shs.stp st q1).getV g1
    obtain ⟨dy, g5, g6⟩ := (Shs.stp st q2).getV g2
    exact ⟨same_upd nT, _, getElem?_pair g3 g5, Sh.pair nT hz g4 g6⟩
  · cases hf⟩
end DL
/-! the pure functions, gone through step by step -/
namespace DL
open PySem PySem.Spec PyProof.Rows L2
/-- it ends well, and P holds of what it gives -/
def Ok {α : Type} (x : Res α) (P : α → Prop) : Prop := ∃ a, x = .ok a ∧ P a
section
variable {α β : Type}
theorem Ok.bind {x : Res α} {f : α → Res β} {Q : β → Prop} (h : Ok x fun a => Ok (f a) Q) : Ok (x.bind f) Q := by
  obtain ⟨a, e, b, e2, q⟩ := h
  exact ⟨b, by rw [e]; exact e2, q⟩
theorem Ok.mk {x : Res α} {a : α} {P : α → Prop} (e : x = .ok a) (p : P a) : Ok x P := ⟨a, e, p⟩
theorem Ok.ret {a : α} {P : α → Prop} (p : P a) : Ok (Res.ok a) P := ⟨a, rfl, p⟩
theorem Ok.imp {x : Res α} {P Q : α → Prop} (h : Ok x P) (k : ∀ a, P a → Q a) : Ok x Q := by
  obtain ⟨a, e, p⟩ := h
  exact ⟨a, e, k a p⟩
theorem Ok.eq {x y : Res α} {P : α → Prop} (e : x = y) (h : Ok y P) : Ok x P := e ▸ h
theorem Ok.ite {c : Prop} [Decidable c] {x y : Res α} {P : α → Prop} (h1 : c → Ok x P) (h2 : ¬ c → Ok y P) : Ok (if c then x else y) P := by
  by_cases h : c
  · rw [if_pos h]
    exact h1 h
  · rw [if_neg h]
    exact h2 h
theorem Ok.iteT {c : Prop} [Decidable c] {x y : Res α} {P : α → Prop} (h : c) (h1 : Ok x P) : Ok (if c then x else y) P := by
  rw [if_pos h]
  exact h1
theorem Ok.iteF {c : Prop} [Decidable c] {x y : Res α} {P : α → Prop} (h : ¬ c) (h1 : Ok y P) : Ok (if c then x else y) P := by
  rw [if_neg h]
  exact h1
end
section
variable {ρ : Ev} {f g : Ev → Res Fl} {fe fa fb : Ev → Res (D × Ev)} {fs : Ev → Res (List D × Ev)} {ft fu : Ev → Res (Bool × Ev)} {Q : Fl → Prop} {QE : D × Ev → Prop} {QS : List D × Ev → Prop} {QT : Bool × Ev → Prop} {i : Nat}
theorem w_mkF {N : Nat} {ks : List Nat} {rk : Option Nat} {b : Ev → Res Fl} {ds : List D} {P : D × List D → Prop} (h : Ok (b (ds.map some ++ List.replicate (N - ds.length) none)) fun fl => Ok (match fl with
  | .rt d ρ => (outP ρ ks 0).bind fun o => .ok (d, o)
  | .nx ρ => match rk with
    | none => (outP ρ ks 0).bind fun o => .ok (.non, o)
    | some _ => .err
  | _ => .err) P) : Ok (mkF N ks rk b ds) P := Ok.bind h
theorem w_seq (h : Ok (f ρ) fun fl => match fl with
  | .nx ρ' => Ok (g ρ') Q
  | fl => Q fl) : Ok (sSeq f g ρ) Q := by
  refine Ok.bind (h.imp fun fl q => ?_)
  cases fl with
  | nx ρ' => exact q
  | _ => exact Ok.ret q
theorem w_if (h : Ok (ft ρ) fun p => if p.1 = true then Ok (f p.2) Q else Ok (g p.2) Q) : Ok (sIf ft f g ρ) Q := by
  refine Ok.bind (h.imp fun p q => ?_)
  by_cases c : p.1 = true
  · rw [if_pos c] at q ⊢
    exact q
  · rw [if_neg c] at q ⊢
    exact q
theorem w_set (h : Ok (fe ρ) fun p => Q (.nx (p.2.set i (some p.1)))) : Ok (sSet i fe ρ) Q := Ok.bind (h.imp fun p q => Ok.ret q)
theorem w_ret (h : Ok (fe ρ) fun p => Q (.rt p.1 p.2)) : Ok (sRet fe ρ) Q := Ok.bind (h.imp fun p q => Ok.ret q)
theorem w_drop (h : Ok (fe ρ) fun p => Q (.nx p.2)) : Ok (sDrop fe ρ) Q := Ok.bind (h.imp fun p q => Ok.ret q)
theorem w_nil (h : Q (.nx ρ)) : Ok (sNil ρ) Q := Ok.ret h
theorem w_break (h : Q (.bk ρ)) : Ok (sBreak ρ) Q := Ok.ret h
theorem w_cont (h : Q (.ct ρ)) : Ok (sCont ρ) Q := Ok.ret h
theorem w_par2 {j : Nat} (h : Ok (fs ρ) fun p => ∃ x y, p.1 = [x, y] ∧ Q (.nx ((p.2.set i (some x)).set j (some y)))) : Ok (sPar [i, j] fs ρ) Q := by
  refine Ok.bind (h.imp fun p ⟨x, y, e, q⟩ => ?_)
  obtain ⟨ds, ρ1⟩ := p
  dsimp only at e
  subst e
  exact Ok.ret q
theorem w_par3 {j l : Nat} (h : Ok (fs ρ) fun p => ∃ x y z, p.1 = [x, y, z] ∧ Q (.nx (((p.2.set i (some x)).set j (some y)).set l (some z)))) : Ok (sPar [i, j, l] fs ρ) Q := by
  refine Ok.bind (h.imp fun p ⟨x, y, z, e, q⟩ => ?_)
  obtain ⟨ds, ρ1⟩ := p
  dsimp only at e
  subst e
  exact Ok.ret q
theorem w_asg {gt : D → Ev → Res Ev} (h : Ok (fe ρ) fun p => Ok (gt p.1 p.2) fun ρ' => Q (.nx ρ')) : Ok (sAsg fe gt ρ) Q := Ok.bind (h.imp fun p q => Ok.bind (q.imp fun r s => Ok.ret s))
theorem w_aug {op : D → D → Res D} {x : D} (h0 : ρ[i]? = some (some x)) (h : Ok (fe ρ) fun p => Ok (op x p.1) fun z => Q (.nx (p.2.set i (some z)))) : Ok (sAug i op fe ρ) Q := by
  unfold sAug
  rw [h0]
  exact Ok.bind (h.imp fun p q => Ok.bind (q.imp fun r s => Ok.ret s))
theorem w_app {ds0 : List D} (h0 : ρ[i]? = some (some (.lst ds0))) (h : Ok (fe ρ) fun p => ∃ ds, p.2[i]? = some (some (.lst ds)) ∧ ds.length < 16777216 ∧ Q (.nx (p.2.set i (some (.lst (ds ++ [p.1])))))) : Ok (sApp i fe ρ) Q := by
  unfold sApp
  rw [h0]
  refine Ok.bind (h.imp fun p ⟨ds, e, l, q⟩ => ?_)
  rw [e]
  exact Ok.iteT l (Ok.ret q)
theorem w_ext {ds0 : List D} (h0 : ρ[i]? = some (some (.lst ds0))) (h : Ok (fe ρ) fun p => ∃ ds es, p.2[i]? = some (some (.lst ds)) ∧ p.1 = .lst es ∧ ds.length + es.length ≤ 16777216 ∧ Q (.nx (p.2.set i (some (.lst (ds ++ es)))))) : Ok (sExt i fe ρ) Q := by
  unfold sExt
  rw [h0]
  refine Ok.bind (h.imp fun p ⟨ds, es, e, e2, l, q⟩ => ?_)
  rw [e, e2]
  exact Ok.iteT l (Ok.ret q)
theorem w_put {fi : Ev → Res (D × Ev)} (h : Ok (fe ρ) fun p => ∃ ds0, p.2[i]? = some (some (.lst ds0)) ∧ Ok (fi p.2) fun r => ∃ ds n j, r.2[i]? = some (some (.lst ds)) ∧ r.1 = .int n ∧ ixN ds.length n = some j ∧ Q (.nx (r.2.set i (some (.lst (ds.set j p.1)))))) : Ok (sPut i fe fi ρ) Q := by
  refine Ok.bind (h.imp fun p ⟨ds0, e0, q⟩ => ?_)
  rw [e0]
  refine Ok.bind (q.imp fun r ⟨ds, n, j, e1, e2, e3, q⟩ => ?_)
  rw [e1, e2]
  dsimp only
  rw [e3]
  exact Ok.ret q
theorem w_var {d : D} (h0 : ρ[i]? = some (some d)) (h : QE (d, ρ)) : Ok (dVar i ρ) QE := by
  refine ⟨(d, ρ), ?_, h⟩
  unfold dVar
  rw [h0]
theorem w_take {d : D} (h0 : ρ[i]? = some (some d)) (h : QE (d, ρ.set i none)) : Ok (dTake i ρ) QE := by
  refine ⟨(d, ρ.set i none), ?_, h⟩
  unfold dTake
  rw [h0]
theorem w_const {d : D} (h : QE (d, ρ)) : Ok (dConst d ρ) QE := Ok.ret h
theorem w_op {op : D → D → Res D} (h : Ok (fa ρ) fun p => Ok (fb p.2) fun r => Ok (op p.1 r.1) fun z => QE (z, r.2)) : Ok (dOp op fa fb ρ) QE := Ok.bind (h.imp fun _ q => Ok.bind (q.imp fun _ q => Ok.bind (q.imp fun _ q => Ok.ret q)))
theorem w_un {op : D → Res D} (h : Ok (fa ρ) fun p => Ok (op p.1) fun z => QE (z, p.2)) : Ok (dUn op fa ρ) QE := Ok.bind (h.imp fun _ q => Ok.bind (q.imp fun _ q => Ok.ret q))
theorem w_calm (h : Ok (fe ρ) fun p => p.1.calm = true ∧ QE p) : Ok (dCalm fe ρ) QE := Ok.bind (h.imp fun _ q => Ok.iteT q.1 (Ok.ret q.2))
theorem w_nils (h : QS ([], ρ)) : Ok (dNil ρ) QS := Ok.ret h
theorem w_cons (h : Ok (fe ρ) fun p => Ok (fs p.2) fun r => QS (p.1 :: r.1, r.2)) : Ok (dCons fe fs ρ) QS := Ok.bind (h.imp fun _ q => Ok.bind (q.imp fun _ q => Ok.ret q))
theorem w_tup (h : Ok (fs ρ) fun p => QE (.tup p.1, p.2)) : Ok (dTup fs ρ) QE := Ok.bind (h.imp fun _ q => Ok.ret q)
theorem w_lst (h : Ok (fs ρ) fun p => QE (.lst p.1, p.2)) : Ok (dLst fs ρ) QE := Ok.bind (h.imp fun _ q => Ok.ret q)
theorem w_tru (h : Ok (fe ρ) fun p => Ok (gTru p.1) fun k => QT (k, p.2)) : Ok (dTru fe ρ) QT := Ok.bind (h.imp fun _ q => Ok.bind (q.imp fun _ q => Ok.ret q))
theorem w_bool (h : Ok (fe ρ) fun p => ∃ k, p.1 = .bl k ∧ QT (k, p.2)) : Ok (dBool fe ρ) QT := by
  refine Ok.bind (h.imp fun p ⟨k, e, q⟩ => ?_)
  rw [e]
  exact Ok.ret q
theorem w_not (h : Ok (ft ρ) fun p => QT (!p.1, p.2)) : Ok (dNot ft ρ) QT := Ok.bind (h.imp fun _ q => Ok.ret q)
theorem w_and (h : Ok (ft ρ) fun p => if p.1 = true then Ok (fu p.2) QT else QT (false, p.2)) : Ok (dAnd ft fu ρ) QT := by
  refine Ok.bind (h.imp fun p q => ?_)
  by_cases c : p.1 = true
  · rw [if_pos c] at q ⊢
    exact q
  · rw [if_neg c] at q ⊢
    exact Ok.ret q
theorem w_or (h : Ok (ft ρ) fun p => if p.1 = true then QT (true, p.2) else Ok (fu p.2) QT) : Ok (dOr ft fu ρ) QT := by
  refine Ok.bind (h.imp fun p q => ?_)
  by_cases c : p.1 = true
  · rw [if_pos c] at q ⊢
    exact Ok.ret q
  · rw [if_neg c] at q ⊢
    exact q
theorem w_ife {α : Type} {u v : Ev → Res α} {QA : α → Prop} (h : Ok (ft ρ) fun p => if p.1 = true then Ok (u p.2) QA else Ok (v p.2) QA) : Ok (dIf ft u v ρ) QA := by
  refine Ok.bind (h.imp fun p q => ?_)
  by_cases c : p.1 = true
  · rw [if_pos c] at q ⊢
    exact q
  · rw [if_neg c] at q ⊢
    exact q
theorem w_andV (h : Ok (fa ρ) fun p => Ok (gTru p.1) fun k => if k = true then Ok (fb p.2) QE else QE p) : Ok (dAndV fa fb ρ) QE := by
  refine Ok.bind (h.imp fun p q => Ok.bind (q.imp fun k q => ?_))
  by_cases c : k = true
  · rw [if_pos c] at q ⊢
    exact q
  · rw [if_neg c] at q ⊢
    exact Ok.ret q
theorem w_orV (h : Ok (fa ρ) fun p => Ok (gTru p.1) fun k => if k = true then QE p else Ok (fb p.2) QE) : Ok (dOrV fa fb ρ) QE := by
  refine Ok.bind (h.imp fun p q => Ok.bind (q.imp fun k q => ?_))
  by_cases c : k = true
  · rw [if_pos c] at q ⊢
    exact Ok.ret q
  · rw [if_neg c] at q ⊢
    exact q
theorem w_callB {gf : List D → Res D} (h : Ok (fs ρ) fun p => Ok (gf p.1) fun z => QE (z, p.2)) : Ok (dCallB gf fs ρ) QE := Ok.bind (h.imp fun _ q => Ok.bind (q.imp fun _ q => Ok.ret q))
theorem w_call {as : List AK} {F : Fn} {ga : Ev → Res (List (Option D) × Ev)} (h : Ok (ga ρ) fun p => Ok (fillA p.2 as p.1) fun ds => Ok (F ds) fun r => QE (r.1, putA as r.2 p.2)) : Ok (dCall as F ga ρ) QE :=
  Ok.bind (h.imp fun _ q => Ok.bind (q.imp fun _ q => Ok.bind (q.imp fun _ q => Ok.ret q)))
theorem w_anil {QA : List (Option D) × Ev → Prop} (h : QA ([], ρ)) : Ok (aNil ρ) QA := Ok.ret h
theorem w_as {ga : Ev → Res (List (Option D) × Ev)} {QA : List (Option D) × Ev → Prop} (h : Ok (fe ρ) fun p => Ok (ga p.2) fun r => QA (some p.1 :: r.1, r.2)) : Ok (aS fe ga ρ) QA := Ok.bind (h.imp fun _ q => Ok.bind (q.imp fun _ q => Ok.ret q))
theorem w_aio {ga : Ev → Res (List (Option D) × Ev)} {QA : List (Option D) × Ev → Prop} {d : D} (h0 : ρ[i]? = some (some d)) (h : Ok (ga ρ) fun r => QA (none :: r.1, r.2)) : Ok (aIO i ga ρ) QA := by
  unfold aIO
  rw [h0]
  exact Ok.bind (h.imp fun _ q => Ok.ret q)
theorem w_pop {ds : List D} {d : D} (h0 : ρ[i]? = some (some (.lst ds))) (h1 : ds[ds.length - 1]? = some d) (h : QE (d, ρ.set i (some (.lst ds.dropLast)))) : Ok (dPop i ρ) QE := by
  refine ⟨_, ?_, h⟩
  unfold dPop
  rw [h0]
  dsimp only
  rw [h1]
theorem w_tname {d : D} {QV : Ev → Prop} (h : QV (ρ.set i (some d))) : Ok (gtName i d ρ) QV := Ok.ret h
theorem w_sl {gs : D → Option Int → Option Int → Res D} {l u : Ev → Res (Option Int × Ev)} (h : Ok (fe ρ) fun p => Ok (l p.2) fun a => Ok (u a.2) fun b => Ok (gs p.1 a.1 b.1) fun z => QE (z, b.2)) : Ok (dSl gs fe l u ρ) QE :=
  Ok.bind (h.imp fun _ q => Ok.bind (q.imp fun _ q => Ok.bind (q.imp fun _ q => Ok.bind (q.imp fun _ q => Ok.ret q))))
theorem w_nopart {QO : Option Int × Ev → Prop} (h : QO (none, ρ)) : Ok (dNoPart ρ) QO := Ok.ret h
theorem w_part {QO : Option Int × Ev → Prop} (h : Ok (fe ρ) fun p => ∃ n, p.1 = .int n ∧ QO (some n, p.2)) : Ok (dPart fe ρ) QO := by
  refine Ok.bind (h.imp fun p ⟨n, e, q⟩ => ?_)
  rw [e]
  exact Ok.ret q
/-! loops -/
theorem w_for {fi : Ev → Res (List D × Ev)} {gt : D → Ev → Res Ev} (h : Ok (fi ρ) fun p => Ok (sLoop gt f p.1 p.2) Q) : Ok (sFor fi gt f ρ) Q := Ok.bind h
/-- an invariant I over the items still to come and the state -/
theorem w_loop {gt : D → Ev → Res Ev} (I : List D → Ev → Prop) (hs : ∀ d ds ρ, I (d :: ds) ρ → Ok (gt d ρ) fun ρ1 => Ok (f ρ1) fun fl => match fl with
    | .nx ρ2 => I ds ρ2
    | .ct ρ2 => I ds ρ2
    | .bk ρ2 => Q (.nx ρ2)
    | .rt d ρ2 => Q (.rt d ρ2)) (he : ∀ ρ, I [] ρ → Q (.nx ρ)) : ∀ (ds : List D) (ρ : Ev), I ds ρ → Ok (sLoop gt f ds ρ) Q
  | [], ρ, h => Ok.ret (he ρ h)
  | d :: ds, ρ, h => by
    refine Ok.bind ((hs d ds ρ h).imp fun ρ1 q => Ok.bind (q.imp fun fl q => ?_))
    cases fl with
    | nx ρ2 => exact w_loop I hs he ds ρ2 q
    | ct ρ2 => exact w_loop I hs he ds ρ2 q
    | bk ρ2 => exact Ok.ret q
    | rt d ρ2 => exact Ok.ret q
theorem w_while (I : Nat → Ev → Prop) (hs : ∀ n ρ, I n ρ → Ok (ft ρ) fun p => if p.1 = true then Ok (f p.2) fun fl => match fl with
    | .nx ρ2 => ∃ m, m < n ∧ I m ρ2
    | .ct ρ2 => ∃ m, m < n ∧ I m ρ2
    | .bk ρ2 => Q (.nx ρ2)
    | .rt d ρ2 => Q (.rt d ρ2) else Q (.nx p.2)) : ∀ (n : Nat) (ρ : Ev), I n ρ → Ok (sWhile ft f ρ) Q := by
  intro n
  induction n using Nat.strongRecOn with
  | _ n ih =>
    intro ρ h
    obtain ⟨⟨k, ρ1⟩, e1, q⟩ := hs n ρ h
    cases k with
    | false =>
      rw [if_neg Bool.false_ne_true] at q
      exact ⟨_, sWhile_step e1 (fun _ => rfl) (fun z => nomatch z), q⟩
    | true =>
      rw [if_pos rfl] at q
      obtain ⟨fl, e2, q⟩ := q
      cases fl with
      | nx ρ2 =>
        obtain ⟨m, hm, hi⟩ := q
        obtain ⟨r, e3, q3⟩ := ih m hm ρ2 hi
        exact ⟨r, sWhile_step e1 (fun z => nomatch z) (fun _ => ⟨_, e2, e3⟩), q3⟩
      | ct ρ2 =>
        obtain ⟨m, hm, hi⟩ := q
        obtain ⟨r, e3, q3⟩ := ih m hm ρ2 hi
        exact ⟨r, sWhile_step e1 (fun z => nomatch z) (fun _ => ⟨_, e2, e3⟩), q3⟩
      | bk ρ2 => exact ⟨_, sWhile_step e1 (fun z => nomatch z) (fun _ => ⟨_, e2, rfl⟩), q⟩
      | rt d ρ2 => exact ⟨_, sWhile_step e1 (fun z => nomatch z) (fun _ => ⟨_, e2, rfl⟩), q⟩
theorem w_rng1 (h : Ok (fe ρ) fun p => ∃ n : Int, p.1 = .int n ∧ n < 2 ^ 62 ∧ -(2 ^ 62) ≤ n ∧ QS (rgD 0 n, p.2)) : Ok (dRng1 fe ρ) QS := by
  refine Ok.bind (h.imp fun p ⟨n, e, h1, h2, q⟩ => ?_)
  rw [e]
  exact Ok.iteT ⟨by decide, by decide, h2, h1⟩ (Ok.ret q)
theorem w_seqI (h : Ok (fe ρ) fun p => ∃ ds, seqOf p.1 = some ds ∧ QS (ds, p.2)) : Ok (dSeqI fe ρ) QS := by
  refine Ok.bind (h.imp fun p ⟨ds, e, q⟩ => ?_)
  rw [e]
  exact Ok.ret q
theorem w_zip (h : Ok (fs ρ) fun p => ∃ xs ys, p.1 = [.tup xs, .tup ys] ∧ QS (pairD xs ys, p.2)) : Ok (dZip fs ρ) QS := by
  refine Ok.bind (h.imp fun p ⟨xs, ys, e, q⟩ => ?_)
  rw [e]
  exact Ok.ret q
theorem w_comp {fi : Ev → Res (List D × Ev)} {vs : List Nat} {gt : D → Ev → Res Ev} (h : Ok (fi ρ) fun p => p.1.length ≤ 16777216 ∧ Ok (cLoop vs gt ft fe p.1 (wipeE p.2 vs)) fun r => QE (.lst r.1, restE r.2 p.2 vs)) : Ok (dComp fi vs gt ft fe ρ) QE :=
  Ok.bind (h.imp fun _ q => Ok.iteT q.1 (Ok.bind (q.2.imp fun _ q => Ok.ret q)))
/-- a comprehension with a state: I of the items to come, what is made so far, the state -/
theorem w_cloop {vs : List Nat} {gt : D → Ev → Res Ev} {QL : List D × Ev → Prop} (I : List D → List D → Ev → Prop) (hs : ∀ d ds acc ρ, I (d :: ds) acc ρ → Ok (gt d ρ) fun ρ1 => Ok (ft ρ1) fun p => if p.1 = true then Ok (fe p.2) fun r => I ds (acc ++ [r.1]) (wipeE r.2 vs) else I ds acc (wipeE p.2 vs))
    (he : ∀ acc ρ, I [] acc ρ → QL (acc, ρ)) {ds : List D} {ρ : Ev} (h : I ds [] ρ) : Ok (cLoop vs gt ft fe ds ρ) QL := by
  have go : ∀ (ds : List D) (acc : List D) (ρ : Ev), I ds acc ρ → Ok (cLoop vs gt ft fe ds ρ) fun r => I [] (acc ++ r.1) r.2 := by
    intro ds
    induction ds with
    | nil => intro acc ρ h; exact Ok.ret (by rw [List.append_nil]; exact h)
    | cons d ds ih =>
      intro acc ρ h
      refine Ok.bind ((hs d ds acc ρ h).imp fun ρ1 q => Ok.bind (q.imp fun p q => ?_))
      by_cases c : p.1 = true
      · rw [if_pos c] at q ⊢
        refine Ok.bind (q.imp fun r q => Ok.bind ((ih _ _ q).imp fun s q => Ok.ret ?_))
        rw [List.append_assoc] at q
        exact q
      · rw [if_neg c] at q ⊢
        exact ih acc _ q
  exact (go ds [] ρ h).imp fun r q => he _ _ q
/-- .. each item by itself, the state as it is -/
theorem w_cmap {vs : List Nat} {gt : D → Ev → Res Ev} {QL : List D × Ev → Prop} (hm : D → D) {ds : List D} {ρ : Ev} (hs : ∀ d ∈ ds, Ok (gt d ρ) fun ρ1 => Ok (ft ρ1) fun p => p.1 = true ∧ Ok (fe p.2) fun r => r.1 = hm d ∧ wipeE r.2 vs = ρ) (he : QL (ds.map hm, ρ)) : Ok (cLoop vs gt ft fe ds ρ) QL := by
  refine Ok.imp (P := fun r => r = (ds.map hm, ρ)) ?_ fun r e => e ▸ he
  clear he
  induction ds with
  | nil => exact Ok.ret rfl
  | cons d ds ih =>
    refine Ok.bind ((hs d List.mem_cons_self).imp fun ρ1 q => Ok.bind (q.imp fun p q => ?_))
    rw [if_pos q.1]
    refine Ok.bind (q.2.imp fun r q => ?_)
    rw [q.2]
    refine Ok.bind ((ih fun e he => hs e (List.mem_cons_of_mem _ he)).imp fun s e => Ok.ret ?_)
    rw [e, q.1]
    rfl
end
theorem gMul_r {i j : Int} {Q : D → Prop} (h1 : -(2 ^ 64) < j) (h2 : j < 2 ^ 64) (q : Q (.int (i * j))) : Ok (gMul (.int i) (.int j)) Q := Ok.iteT (.inl (.inr ⟨h1, h2⟩)) (Ok.ret q)
theorem gMul_l {i j : Int} {Q : D → Prop} (h1 : -(2 ^ 64) < i) (h2 : i < 2 ^ 64) (q : Q (.int (i * j))) : Ok (gMul (.int i) (.int j)) Q := Ok.iteT (.inl (.inl ⟨h1, h2⟩)) (Ok.ret q)
theorem gMod_p {i j : Int} {Q : D → Prop} (h : 0 < j) (q : Q (.int (i % j))) : Ok (gMod (.int i) (.int j)) Q := Ok.iteT h (Ok.ret q)
theorem gFdiv_p {i j : Int} {Q : D → Prop} (h : CDivW i j) (q : Q (.int (i / j))) : Ok (gFdiv (.int i) (.int j)) Q := Ok.iteT h (Ok.ret q)
theorem gPow_p {i j : Int} {Q : D → Prop} (h : CPow i j) (q : Q (.int (i ^ j.toNat))) : Ok (gPow (.int i) (.int j)) Q := Ok.iteT h (Ok.ret q)
theorem gShl_p {i j : Int} {Q : D → Prop} (h : CPow i j) (q : Q (.int (i * 2 ^ j.toNat))) : Ok (gShl (.int i) (.int j)) Q := Ok.iteT h (Ok.ret q)
theorem gIx_l {ds : List D} {i : Int} {d : D} {Q : D → Prop} (h : atI ds i = some d) (q : Q d) : Ok (gIx (.lst ds) (.int i)) Q := ⟨d, by unfold gIx; dsimp only; rw [h], q⟩
theorem gIx_t {ds : List D} {i : Int} {d : D} {Q : D → Prop} (h : atI ds i = some d) (q : Q d) : Ok (gIx (.tup ds) (.int i)) Q := ⟨d, by unfold gIx; dsimp only; rw [h], q⟩
theorem atI_in {α : Type} {xs : List α} {i : Int} (h0 : 0 ≤ i) (h1 : i < xs.length) : ∃ d, xs[i.toNat]? = some d ∧ atI xs i = some d := by
  have hj : i.toNat < xs.length := by omega
  refine ⟨xs[i.toNat], List.getElem?_eq_getElem hj, ?_⟩
  have e := atI_nat (j := i.toNat) (List.getElem?_eq_getElem hj)
  rw [show ((i.toNat : Nat) : Int) = i by omega] at e
  exact e
section
variable {i j : Int} {Q : D → Prop} {QB : Bool → Prop} {x y : PySem.Str} {b k : Bool} {ds : List D}
theorem g_add (q : Q (.int (i + j))) : Ok (gAdd (.int i) (.int j)) Q := Ok.ret q
theorem g_sub (q : Q (.int (i - j))) : Ok (gSub (.int i) (.int j)) Q := Ok.ret q
theorem g_neg (q : Q (.int (-i))) : Ok (gNeg (.int i)) Q := Ok.ret q
theorem g_lt (q : Q (.bl (decide (i < j)))) : Ok (gLt (.int i) (.int j)) Q := Ok.ret q
theorem g_le (q : Q (.bl (decide (i ≤ j)))) : Ok (gLe (.int i) (.int j)) Q := Ok.ret q
theorem g_gt (q : Q (.bl (decide (j < i)))) : Ok (gGt (.int i) (.int j)) Q := Ok.ret q
theorem g_ge (q : Q (.bl (decide (j ≤ i)))) : Ok (gGe (.int i) (.int j)) Q := Ok.ret q
theorem g_eqi (q : Q (.bl (decide (i = j)))) : Ok (gEq (.int i) (.int j)) Q := Ok.ret q
theorem g_nei (q : Q (.bl (!decide (i = j)))) : Ok (gNe (.int i) (.int j)) Q := Ok.ret q
theorem g_int (q : Q (.int i)) : Ok (gIntOf [.int i]) Q := Ok.ret q
theorem g_abs (q : Q (.int (if i < 0 then -i else i))) : Ok (gAbs [.int i]) Q := Ok.ret q
theorem g_lenL (q : Q (.int ds.length)) : Ok (gLen [.lst ds]) Q := Ok.ret q
theorem g_lenT (q : Q (.int ds.length)) : Ok (gLen [.tup ds]) Q := Ok.ret q
theorem g_trub (q : QB b) : Ok (gTru (.bl b)) QB := Ok.ret q
theorem g_tupL (q : Q (.tup ds)) : Ok (gTupOf [.lst ds]) Q := Ok.ret q
theorem g_tupT (q : Q (.tup ds)) : Ok (gTupOf [.tup ds]) Q := Ok.ret q
end
theorem itNT {P Q : Prop} (h : Q) : if (!true) = true then P else Q := h
theorem itNF {P Q : Prop} (h : P) : if (!false) = true then P else Q := h
theorem ne_refl {d : D} (h : eqS d d = some true) {Q : D → Prop} (q : Q (.bl false)) : Ok (gNe d d) Q := ⟨.bl false, by unfold gNe eqD; rw [h]; rfl, q⟩
theorem gNe_ii {i : Int} {Q : D → Prop} (q : Q (.bl false)) : Ok (gNe (.int i) (.int i)) Q := ne_refl (by show some (decide (i = i)) = _; rw [decide_eq_true rfl]) q
theorem gNe_bb {i : Bool} {Q : D → Prop} (q : Q (.bl false)) : Ok (gNe (.bl i) (.bl i)) Q := ne_refl (by show some (decide (i = i)) = _; rw [decide_eq_true rfl]) q
theorem gNe_ss {i : PySem.Str} {Q : D → Prop} (q : Q (.bl false)) : Ok (gNe (.str i) (.str i)) Q := ne_refl (by show some (decide (i = i)) = _; rw [decide_eq_true rfl]) q
theorem gIx_t0 {d : D} {ds : List D} {Q : D → Prop} (q : Q d) : Ok (gIx (.tup (d :: ds)) (.int 0)) Q := gIx_t (atI_nat (j := 0) rfl) q
theorem gIx_l0 {d : D} {ds : List D} {Q : D → Prop} (q : Q d) : Ok (gIx (.lst (d :: ds)) (.int 0)) Q := gIx_l (atI_nat (j := 0) rfl) q
end DL
/-! pure rules of the later parts -/
namespace DL
open PySem PySem.Spec PyProof.Rows L2
section
variable {ρ : Ev} {f g : Ev → Res Fl} {fe fa fb : Ev → Res (D × Ev)} {fs : Ev → Res (List D × Ev)} {ft fu : Ev → Res (Bool × Ev)} {Q : Fl → Prop} {QE : D × Ev → Prop} {QS : List D × Ev → Prop} {i k l : Nat}
theorem w_callL {a : Addr} {as : List AK} {F : Fn} {ga : Ev → Res (List (Option D) × Ev)} (h0 : ρ[i]? = some (some (.fn a))) (h : Ok (dCall as F ga ρ) QE) : Ok (dCallL i a as F ga ρ) QE := by
  unfold dCallL
  rw [h0]
  exact Ok.iteT rfl h
theorem w_frz (h : Ok (f ρ) fun fl => Q (fl.un i)) : Ok (sFrz i f ρ) Q := Ok.bind (h.imp fun _ q => Ok.ret q)
theorem w_setN (h : Ok (fe ρ) fun p => p.1.isL = false ∧ Q (.nx (p.2.set i (some p.1)))) : Ok (sSetN i fe ρ) Q := Ok.bind (h.imp fun p q => Ok.iteT q.1 (Ok.ret q.2))
theorem w_putO (h : Ok (fe ρ) fun p => p.1.isL = false ∧ ∃ ds, p.2[i]? = some (some (.lst ds)) ∧ k < ds.length ∧ Q (.nx (p.2.set i (some (.lst (ds.set k p.1)))))) : Ok (sPutO i k fe ρ) Q := by
  refine Ok.bind (h.imp fun p ⟨h1, ds, h2, h3, q⟩ => Ok.iteT h1 ?_)
  rw [h2]
  exact Ok.iteT h3 (Ok.ret q)
theorem w_put2 (h : Ok (fe ρ) fun p => ∃ ds es, p.2[i]? = some (some (.lst ds)) ∧ ds[k]? = some (.lst es) ∧ l < es.length ∧ Q (.nx (p.2.set i (some (.lst (ds.set k (.lst (es.set l p.1)))))))) : Ok (sPut2 i k l fe ρ) Q := by
  refine Ok.bind (h.imp fun p ⟨ds, es, h1, h2, h3, q⟩ => ?_)
  rw [h1]
  dsimp only
  rw [h2]
  exact Ok.iteT h3 (Ok.ret q)
theorem w_pop2 {ds es : List D} {d : D} (h1 : ρ[i]? = some (some (.lst ds))) (h2 : ds[k]? = some (.lst es)) (h3 : es[l]? = some d) (h : QE (d, ρ.set i (some (.lst (ds.set k (.lst (es.eraseIdx l))))))) : Ok (dPop2 i k l ρ) QE := by
  refine ⟨_, ?_, h⟩
  unfold dPop2
  rw [h1]
  dsimp only
  rw [h2]
  dsimp only
  rw [h3]
theorem w_enum (h : Ok (fs ρ) fun p => ∃ d xs, p.1 = [d] ∧ seqOf d = some xs ∧ QS (enumD xs, p.2)) : Ok (dEnum fs ρ) QS := by
  refine Ok.bind (h.imp fun p ⟨d, xs, e, e2, q⟩ => ?_)
  rw [e]
  dsimp only
  rw [e2]
  exact Ok.ret q
theorem w_consN (h : Ok (fe ρ) fun p => p.1.isL = false ∧ Ok (fs p.2) fun r => QS (p.1 :: r.1, r.2)) : Ok (dConsN fe fs ρ) QS := Ok.bind (h.imp fun _ q => Ok.iteT q.1 (Ok.bind (q.2.imp fun _ q => Ok.ret q)))
theorem g_not {b : Bool} {Q : D → Prop} (q : Q (.bl (!b))) : Ok (gNot (.bl b)) Q := Ok.ret q
end
end DL
/-! pure rules of DL16..DL27 -/
namespace DL
open PySem PySem.Spec PyProof.Rows L2
section
variable {ρ : Ev} {f g : Ev → Res Fl} {fe fa fb fc : Ev → Res (D × Ev)} {fs : Ev → Res (List D × Ev)} {ft fu : Ev → Res (Bool × Ev)} {fp : Ev → Res (List Nat × Ev)} {Q : Fl → Prop} {QE : D × Ev → Prop} {QS : List D × Ev → Prop} {i k l : Nat}
/-- one round of a while -/
theorem w_step {ft : Ev → Res (Bool × Ev)} (h : Ok (ft ρ) fun p => if p.1 = true then Ok (f p.2) fun fl => match fl with
    | .nx ρ2 => Ok (sWhile ft f ρ2) Q
    | .ct ρ2 => Ok (sWhile ft f ρ2) Q
    | .bk ρ2 => Q (.nx ρ2)
    | .rt d ρ2 => Q (.rt d ρ2) else Q (.nx p.2)) : Ok (sWhile ft f ρ) Q := by
  obtain ⟨⟨b, ρ1⟩, e1, q⟩ := h
  cases b with
  | false =>
    rw [if_neg Bool.false_ne_true] at q
    exact ⟨_, sWhile_step e1 (fun _ => rfl) (fun z => nomatch z), q⟩
  | true =>
    rw [if_pos rfl] at q
    obtain ⟨fl, e2, q⟩ := q
    cases fl with
    | nx ρ2 =>
      obtain ⟨r, e3, q3⟩ := q
      exact ⟨r, sWhile_step e1 (fun z => nomatch z) (fun _ => ⟨_, e2, e3⟩), q3⟩
    | ct ρ2 =>
      obtain ⟨r, e3, q3⟩ := q
      exact ⟨r, sWhile_step e1 (fun z => nomatch z) (fun _ => ⟨_, e2, e3⟩), q3⟩
    | bk ρ2 => exact ⟨_, sWhile_step e1 (fun z => nomatch z) (fun _ => ⟨_, e2, rfl⟩), q⟩
    | rt d ρ2 => exact ⟨_, sWhile_step e1 (fun z => nomatch z) (fun _ => ⟨_, e2, rfl⟩), q⟩
theorem w_popAt {ds0 : List D} (h0 : ρ[i]? = some (some (.lst ds0))) (h : Ok (fe ρ) fun p => ∃ ds n d, p.2[i]? = some (some (.lst ds)) ∧ p.1 = .int n ∧ 0 ≤ n ∧ n < 2 ^ 62 ∧ ds[n.toNat]? = some d ∧ QE (d, p.2.set i (some (.lst (ds.eraseIdx n.toNat))))) : Ok (dPopAt i fe ρ) QE := by
  unfold dPopAt
  rw [h0]
  refine Ok.bind (h.imp fun p ⟨ds, n, d, e1, e2, n0, n1, e3, q⟩ => ?_)
  try dsimp only
  rw [e1, e2]
  try dsimp only
  rw [if_pos ⟨n0, n1⟩, e3]
  exact Ok.ret q
theorem w_plName {ds : List D} {QP : List Nat × Ev → Prop} (h0 : ρ[i]? = some (some (.lst ds))) (h : QP ([], ρ)) : Ok (plName i ρ) QP := by
  unfold plName
  rw [h0]
  exact Ok.ret h
theorem w_plIx {QP : List Nat × Ev → Prop} (h : Ok (fp ρ) fun p => Ok (fe p.2) fun r => ∃ n d j xs, r.1 = .int n ∧ r.2[i]? = some (some d) ∧ ixD p.1 d n = some (j, .lst xs) ∧ QP (p.1 ++ [j], r.2)) : Ok (plIx i fp fe ρ) QP := by
  refine Ok.bind (h.imp fun p q => Ok.bind (q.imp fun r ⟨n, d, j, xs, e1, e2, e3, q⟩ => ?_))
  rw [e1]
  try dsimp only
  rw [e2]
  try dsimp only
  rw [e3]
  exact Ok.ret q
theorem w_appP (h : Ok (fp ρ) fun p => ∃ d es, p.2[i]? = some (some d) ∧ subD p.1 d = some (.lst es) ∧ Ok (fe (p.2.set i none)) fun r => es.length < 16777216 ∧ Q (.nx (r.2.set i (some (putD p.1 (.lst (es ++ [r.1])) d))))) : Ok (sAppP i fp fe ρ) Q := by
  refine Ok.bind (h.imp fun p ⟨d, es, e1, e2, q⟩ => ?_)
  rw [e1]
  try dsimp only
  rw [e2]
  exact Ok.bind (q.imp fun r q => Ok.iteT q.1 (Ok.ret q.2))
theorem w_putP (h : Ok (fe ρ) fun r => Ok (fp r.2) fun p => Ok (fa p.2) fun x => ∃ n d es j, x.1 = .int n ∧ x.2[i]? = some (some d) ∧ subD p.1 d = some (.lst es) ∧ ixN es.length n = some j ∧ Q (.nx (x.2.set i (some (putD p.1 (.lst (es.set j r.1)) d))))) : Ok (sPutP i fp fa fe ρ) Q := by
  refine Ok.bind (h.imp fun r q => Ok.bind (q.imp fun p q => Ok.bind (q.imp fun x ⟨n, d, es, j, e1, e2, e3, e4, q⟩ => ?_)))
  rw [e1]
  try dsimp only
  rw [e2]
  try dsimp only
  rw [e3]
  try dsimp only
  rw [e4]
  exact Ok.ret q
theorem w_popP (h : Ok (fp ρ) fun p => ∃ d es x, p.2[i]? = some (some d) ∧ subD p.1 d = some (.lst es) ∧ es[es.length - 1]? = some x ∧ QE (x, p.2.set i (some (putD p.1 (.lst es.dropLast) d)))) : Ok (dPopP i fp ρ) QE := by
  refine Ok.bind (h.imp fun p ⟨d, es, x, e1, e2, e3, q⟩ => ?_)
  rw [e1]
  try dsimp only
  rw [e2]
  try dsimp only
  rw [e3]
  exact Ok.ret q
theorem w_augP {op : D → D → Res D} (h : Ok (fp ρ) fun p => Ok (fa p.2) fun x => ∃ n d es j y, x.1 = .int n ∧ x.2[i]? = some (some d) ∧ subD p.1 d = some (.lst es) ∧ ixN es.length n = some j ∧ es[j]? = some y ∧ Ok (fe (x.2.set i none)) fun r => Ok (op y r.1) fun z => Q (.nx (r.2.set i (some (putD p.1 (.lst (es.set j z)) d))))) : Ok (sAugP i op fp fa fe ρ) Q := by
  refine Ok.bind (h.imp fun p q => Ok.bind (q.imp fun x ⟨n, d, es, j, y, e1, e2, e3, e4, e5, q⟩ => ?_))
  rw [e1]
  try dsimp only
  rw [e2]
  try dsimp only
  rw [e3]
  try dsimp only
  rw [e4]
  try dsimp only
  rw [e5]
  exact Ok.bind (q.imp fun r q => Ok.bind (q.imp fun z q => Ok.ret q))
theorem w_catO {ds0 : List D} (h0 : ρ[i]? = some (some (.lst ds0))) (h : Ok (fe ρ) fun p => ∃ ds es, p.2[i]? = some (some (.lst ds)) ∧ p.1 = .lst es ∧ ds.length + es.length ≤ 16777216 ∧ QE (.lst (ds ++ es), p.2)) : Ok (dCatO i fe ρ) QE := by
  unfold dCatO
  rw [h0]
  refine Ok.bind (h.imp fun p ⟨ds, es, e1, e2, l, q⟩ => ?_)
  try dsimp only
  rw [e1, e2]
  exact Ok.bind (Ok.iteT l (Ok.ret (Ok.ret q)))
theorem w_catE (h : Ok (fe ρ) fun p => ∃ ds es, p.2[i]? = some (some (.lst es)) ∧ p.1 = .lst ds ∧ ds.length + es.length ≤ 16777216 ∧ QE (.lst (ds ++ es), p.2)) : Ok (dCatE i fe ρ) QE := by
  refine Ok.bind (h.imp fun p ⟨ds, es, e1, e2, l, q⟩ => ?_)
  rw [e1, e2]
  exact Ok.bind (Ok.iteT l (Ok.ret (Ok.ret q)))
theorem g_cat {ds es : List D} {Q : D → Prop} (l : ds.length + es.length ≤ 16777216) (q : Q (.lst (ds ++ es))) : Ok (gCat (.lst ds) (.lst es)) Q := Ok.iteT l (Ok.ret q)
theorem w_call2 {N : Nat} {as : List AK2} {F : Fn} {ga : Ev → Res (List (Option D) × List D × Ev)} (h : Ok (ga ρ) fun p => p.2.2.length = N ∧ Ok (fillA (p.2.2 ++ p.2.1.map some) (asOf N as) p.1) fun ds => Ok (F ds) fun r => QE (r.1, (putA (asOf N as) r.2 (p.2.2 ++ p.2.1.map some)).take N)) : Ok (dCall2 N as F ga ρ) QE :=
  Ok.bind (h.imp fun p q => Ok.iteT q.1 (Ok.bind (q.2.imp fun _ q => Ok.bind (q.imp fun _ q => Ok.ret q))))
theorem w_a2nil {QA : List (Option D) × List D × Ev → Prop} (h : QA ([], [], ρ)) : Ok (a2Nil ρ) QA := Ok.ret h
theorem w_a2s {ga : Ev → Res (List (Option D) × List D × Ev)} {QA : List (Option D) × List D × Ev → Prop} (h : Ok (fe ρ) fun p => Ok (ga p.2) fun r => QA (some p.1 :: r.1, r.2.1, r.2.2)) : Ok (a2S fe ga ρ) QA := Ok.bind (h.imp fun _ q => Ok.bind (q.imp fun _ q => Ok.ret q))
theorem w_a2f {ga : Ev → Res (List (Option D) × List D × Ev)} {QA : List (Option D) × List D × Ev → Prop} (h : Ok (fe ρ) fun p => Ok (ga p.2) fun r => QA (none :: r.1, p.1 :: r.2.1, r.2.2)) : Ok (a2F fe ga ρ) QA := Ok.bind (h.imp fun _ q => Ok.bind (q.imp fun _ q => Ok.ret q))
theorem w_a2io {ga : Ev → Res (List (Option D) × List D × Ev)} {QA : List (Option D) × List D × Ev → Prop} {d : D} (h0 : ρ[i]? = some (some d)) (h : Ok (ga ρ) fun r => QA (none :: r.1, r.2.1, r.2.2)) : Ok (a2IO i ga ρ) QA := by
  unfold a2IO
  rw [h0]
  exact Ok.bind (h.imp fun _ q => Ok.ret q)
theorem w_slO {ds0 : List D} {fl fh : Ev → Res (Option Int × Ev)} (h0 : ρ[i]? = some (some (.lst ds0))) (h : Ok (fl ρ) fun a => Ok (fh a.2) fun b => ∃ ds, b.2[i]? = some (some (.lst ds)) ∧ QE (.lst (cutL ds a.1 b.1), b.2)) : Ok (dSlO i fl fh ρ) QE := by
  unfold dSlO
  rw [h0]
  refine Ok.bind (h.imp fun a q => Ok.bind (q.imp fun b ⟨ds, e, q⟩ => ?_))
  rw [e]
  exact Ok.ret q
theorem w_zipT (h : Ok (fs ρ) fun p => ∃ xs ys, p.1 = [.tup xs, .tup ys] ∧ QS (pairD xs ys, p.2)) : Ok (dZipT fs ρ) QS := by
  refine Ok.bind (h.imp fun p ⟨xs, ys, e, q⟩ => ?_)
  rw [e]
  exact Ok.ret q
theorem g_revT {ds : List D} {Q : D → Prop} (q : Q (.tup ds.reverse)) : Ok (gRev (.tup ds)) Q := Ok.ret q
theorem g_revL {ds : List D} {Q : D → Prop} (q : Q (.lst ds.reverse)) : Ok (gRev (.lst ds)) Q := Ok.ret q
theorem g_iadd {a b : Int} {Q : D → Prop} (q : Q (.int (a + b))) : Ok (gIAdd (.int a) (.int b)) Q := Ok.ret q
theorem g_strI {a : Int} {Q : D → Prop} (h : a.natAbs.log2 < 1920) (q : Q (.str (toString a))) : Ok (gStrOf [.int a]) Q := Ok.iteT h (Ok.ret q)
theorem g_strS {a : PySem.Str} {Q : D → Prop} (q : Q (.str a)) : Ok (gStrOf [.str a]) Q := Ok.ret q
theorem g_addS {a b : PySem.Str} {Q : D → Prop} (h : a.length + b.length ≤ 16777216) (q : Q (.str (a ++ b))) : Ok (gAdd (.str a) (.str b)) Q := by
  refine ⟨_, ?_, q⟩
  show (if a.length + b.length ≤ 16777216 then Res.ok (D.str (a ++ b)) else .err) = _
  rw [if_pos h]
/-- lent lists: the end does not tell the addresses -/
theorem w_unp {ts : List (Nat × Bool)} (h : Ok (fp ρ) fun pr => ∃ d es fl, pr.2[i]? = some (some d) ∧ subD pr.1 d = some (.lst es) ∧ (ts.all fun t => decide (t.1 < pr.2.length)) = true ∧ (∀ as : List Addr, as.length = (lents ts).length → runU i ts g pr.1 d es pr.2 as = .ok fl) ∧ Q fl) : Ok (sUnp i ts fp g ρ) Q := by
  refine Ok.bind (h.imp fun pr ⟨d, es, fl, e1, e2, e3, e4, q⟩ => ?_)
  rw [e1]
  try dsimp only
  rw [e2]
  try dsimp only
  rw [if_pos e3]
  have hex : ∃ fl, ∀ as : List Addr, as.length = (lents ts).length → runU i ts g pr.1 d es pr.2 as = .ok fl := ⟨fl, e4⟩
  rw [dif_pos hex]
  have e5 := hex.choose_spec (List.replicate (lents ts).length 0) (List.length_replicate ..)
  rw [e4 _ (List.length_replicate ..)] at e5
  have e6 : fl = hex.choose := Res.ok.inj e5
  rw [← e6]
  exact Ok.ret q
/-- one run with lent lists, by its walk -/
theorem runU_of {ts : List (Nat × Bool)} {p : List Nat} {d : D} {es : List D} {as : List Addr} {fl : Fl} {r : List D × Ev} (h1 : lendN ts es as (wipeS ts ρ) = some r) (h2 : Ok (g (r.2.set i (some (putD p (.lst r.1) d)))) fun fl' => fl'.map (backsE i p 0 ts as) = fl) : runU i ts g p d es ρ as = .ok fl := by
  obtain ⟨fl', e1, e2⟩ := h2
  unfold runU
  rw [h1]
  try dsimp only
  rw [e1]
  show Res.ok (fl'.map (backsE i p 0 ts as)) = _
  rw [e2]
end
end DL
namespace K10
open PySem PySem.Spec PyProof.Rows L2 DL
def topS (i : Nat) : Stmt := PySem.Challenge.pw_neveroverdrawn_k10_body_figures.main.body.getD i (.Pass ⟨0, 0, 0, 0⟩)
/-- what the top has written -/
structure Top (K : PySem.W.Frag) (mg : Str → Option Value) : Prop where
  f_low_sum : Src K mg "low_sum" (topS 1) ["one", "other"]
  f_low_rank : Src K mg "low_rank" (topS 2) ["low"]
  f_low_less : Src K mg "low_less" (topS 3) ["one", "other"]
  f_least_low : Src K mg "least_low" (topS 4) ["lows"]
  f_low_times : Src K mg "low_times" (topS 5) ["low", "many"]
  f_need_less : Src K mg "need_less" (topS 6) ["one", "other"]
  f_greatest_need : Src K mg "greatest_need" (topS 7) ["needs"]
  f_need_behind : Src K mg "need_behind" (topS 8) ["need", "low"]
  f_change_need : Src K mg "change_need" (topS 10) ["change", "purse"]
  f_either_figures : Src K mg "either_figures" (topS 11) ["table", "bodies", "purse"]
  f_loop_figures : Src K mg "loop_figures" (topS 12) ["table", "body", "purse"]
  f_least_ahead : Src K mg "least_ahead" (topS 13) ["low", "many"]
  f_counted_figures : Src K mg "counted_figures" (topS 14) ["table", "statement", "purse"]
  f_need_behind_or_more : Src K mg "need_behind_or_more" (topS 15) ["need", "ahead"]
  f_statement_figures : Src K mg "statement_figures" (topS 16) ["table", "statement", "purse"]
  f_body_figures : Src K mg "body_figures" (topS 17) ["table", "body", "purse"]
  f_bodies_within : Src K mg "bodies_within" (topS 19) ["statement"]
  f_body_rows : Src K mg "body_rows" (topS 21) ["table", "body", "purse"]
  f_statement_figures_of : Src K mg "statement_figures_of" (topS 22) ["program", "table", "purse"]
  f__law_pool : Src K mg "_law_pool" (topS 24) ["script"]
  f__law_take : Src K mg "_law_take" (topS 25) ["pool", "many"]
  f__law_mixed : Src K mg "_law_mixed" (topS 26) ["pool", "rows"]
  f__law_sum : Src K mg "_law_sum" (topS 27) ["one", "other"]
  f__law_less : Src K mg "_law_less" (topS 28) ["one", "other"]
  f__law_more : Src K mg "_law_more" (topS 29) ["one", "other"]
  f__law_behind : Src K mg "_law_behind" (topS 30) ["need", "low"]
  f__law_inner : Src K mg "_law_inner" (topS 31) ["statement"]
  f__law_one : Src K mg "_law_one" (topS 32) ["statement", "table", "purse", "inner"]
  f__law_figures : Src K mg "_law_figures" (topS 33) ["body", "table", "purse", "lines", "gives"]
  f__law_pair : Src K mg "_law_pair" (topS 34) ["pool"]
  f__law_table : Src K mg "_law_table" (topS 35) ["pool", "program"]
  f__law_change : Src K mg "_law_change" (topS 36) ["pool", "purses", "most"]
  f__law_body : Src K mg "_law_body" (topS 37) ["pool", "purses", "procedures", "most", "deep"]
  f__law_program : Src K mg "_law_program" (topS 38) ["pool", "most", "size", "deep"]
  f__law_same : Src K mg "_law_same" (topS 39) ["told", "due"]
  f__law_asked : Src K mg "_law_asked" (topS 40) ["pool", "program", "table"]
  f__law_hand : Src K mg "_law_hand" (topS 41) ["pool"]
  f_law : Src K mg "law" (topS 42) ["script"]
  b_abs : mg "abs" = none
  b_bool : mg "bool" = none
  b_int : mg "int" = none
  b_isinstance : mg "isinstance" = none
  b_len : mg "len" = none
  b_list : mg "list" = none
  b_max : mg "max" = none
  b_min : mg "min" = none
  b_range : mg "range" = none
  b_str : mg "str" = none
  b_tuple : mg "tuple" = none
  b_zip : mg "zip" = none
section
variable {P : Program} {w : World} {K : PySem.W.Frag} {mg : Str → Option Value} {base : Heap}
noncomputable def F_low_sum : Fn := mkF 2 [0, 0] none
  ((sSeq (sIf (dBool (dOp (gIn false) (dConst (.str "never")) (dTup (dCons (dVar 0) (dCons (dVar 1) dNil)))))
  (sRet (dConst (.str "never")))
  sNil)
  (sRet (dIf (dBool (dOp (gIn false) (dConst (.str "deep")) (dTup (dCons (dVar 0) (dCons (dVar 1) dNil))))) (dConst (.str "deep")) (dOp gAdd (dVar 0) (dVar 1))))))
theorem sc_low_sum : FnScope ["one", "other"] ["one", "other"] (defScope (topS 1)) := ⟨rfl, rfl, rfl, by decide +kernel, rfl, by decide +kernel, by decide +kernel⟩
theorem ok_low_sum (T : Top K mg) {f : Addr} {fd : FuncData} (h2 : Fun K "low_sum" "low_sum" (topS 1) f fd) : FnOk P w K mg base CX0 1 f fd ["one", "other"] (spD K [0, 0] none F_low_sum) :=
  fun_ok (lv := [0, 0]) h2 sc_low_sum rfl rfl fun cdv A outer s H H0 vs E M Z hr =>
    (dss_cons (ds_if (t_in de_str (de_tup (das_cons (de_var 0) (das_cons (de_var 1) das_nil (hq := hF)) (hq := hF))) hF rfl)
    (dss_one (ds_ret de_str))
    dss_nil)
    (dss_one (ds_ret (de_if (t_in de_str (de_tup (das_cons (de_var 0) (das_cons (de_var 1) das_nil (hq := hF)) (hq := hF))) hF rfl) de_str (e_add (de_var 0) (de_var 1) hF)))))
theorem d_low_sum (T : Top K mg) : DFn P w K mg base 1 "low_sum" [0, 0] none F_low_sum := by
  obtain ⟨f, fd, h1, h2, h3⟩ := T.f_low_sum
  exact ⟨f, fd, ["one", "other"], h1, h2.kp, .all h3, ok_low_sum T h2⟩
noncomputable def F_low_rank : Fn := mkF 1 [0] none
  ((sSeq (sIf (dBool (dOp gEq (dVar 0) (dConst (.str "deep"))))
  (sRet (dTup (dCons (dConst (.int 0)) (dCons (dConst (.int 0)) dNil))))
  sNil)
  (sRet (dIf (dBool (dOp gEq (dVar 0) (dConst (.str "never")))) (dTup (dCons (dConst (.int 2)) (dCons (dConst (.int 0)) dNil))) (dTup (dCons (dConst (.int 1)) (dCons (dVar 0) dNil)))))))
theorem sc_low_rank : FnScope ["low"] ["low"] (defScope (topS 2)) := ⟨rfl, rfl, rfl, by decide +kernel, rfl, by decide +kernel, by decide +kernel⟩
theorem ok_low_rank (T : Top K mg) {f : Addr} {fd : FuncData} (h2 : Fun K "low_rank" "low_rank" (topS 2) f fd) : FnOk P w K mg base CX0 1 f fd ["low"] (spD K [0] none F_low_rank) :=
  fun_ok (lv := [0]) h2 sc_low_rank rfl rfl fun cdv A outer s H H0 vs E M Z hr =>
    (dss_cons (ds_if (t_eq (de_var 0) de_str hF hr)
    (dss_one (ds_ret (de_tup (das_cons de_int (das_cons de_int das_nil (hq := hF)) (hq := hF)))))
    dss_nil)
    (dss_one (ds_ret (de_if (t_eq (de_var 0) de_str hF hr) (de_tup (das_cons de_int (das_cons de_int das_nil (hq := hF)) (hq := hF))) (de_tup (das_cons de_int (das_cons (de_var 0) das_nil (hq := hF)) (hq := hF)))))))
theorem d_low_rank (T : Top K mg) : DFn P w K mg base 1 "low_rank" [0] none F_low_rank := by
  obtain ⟨f, fd, h1, h2, h3⟩ := T.f_low_rank
  exact ⟨f, fd, ["low"], h1, h2.kp, .all h3, ok_low_rank T h2⟩
noncomputable def F_low_less : Fn := mkF 2 [0, 0] none
  ((sRet (dOp gLt (dCall [.s] F_low_rank (aS (dVar 0) aNil)) (dCall [.s] F_low_rank (aS (dVar 1) aNil)))))
theorem sc_low_less : FnScope ["one", "other"] ["one", "other"] (defScope (topS 3)) := ⟨rfl, rfl, rfl, by decide +kernel, rfl, by decide +kernel, by decide +kernel⟩
theorem ok_low_less (T : Top K mg) {f : Addr} {fd : FuncData} (h2 : Fun K "low_less" "low_less" (topS 3) f fd) : FnOk P w K mg base CX0 2 f fd ["one", "other"] (spD K [0, 0] none F_low_less) :=
  fun_ok (lv := [0, 0]) h2 sc_low_less rfl rfl fun cdv A outer s H H0 vs E M Z hr =>
    (dss_one (ds_ret (e_lt (de_call (d_low_rank T) hr (by decide) (da_s (de_var 0) da_nil)) (de_call (d_low_rank T) hr (by decide) (da_s (de_var 1) da_nil)) hF hr)))
theorem d_low_less (T : Top K mg) : DFn P w K mg base 2 "low_less" [0, 0] none F_low_less := by
  obtain ⟨f, fd, h1, h2, h3⟩ := T.f_low_less
  exact ⟨f, fd, ["one", "other"], h1, h2.kp, .all h3, ok_low_less T h2⟩
noncomputable def F_least_low : Fn := mkF 3 [0] none
  ((sSeq (sSet 1 (dOp gIx (dVar 0) (dConst (.int 0))))
  (sSeq (sFor (dSeqI (dVar 0)) (gtName 2)
  (sIf (dTru (dCall [.s, .s] F_low_less (aS (dVar 2) (aS (dVar 1) aNil))))
  (sSet 1 (dVar 2))
  sNil))
  (sRet (dVar 1)))))
theorem sc_least_low : FnScope ["lows", "best", "low"] ["lows"] (defScope (topS 4)) := ⟨rfl, rfl, rfl, by decide +kernel, rfl, by decide +kernel, by decide +kernel⟩
theorem ok_least_low (T : Top K mg) {f : Addr} {fd : FuncData} (h2 : Fun K "least_low" "least_low" (topS 4) f fd) : FnOk P w K mg base CX0 3 f fd ["lows"] (spD K [0] none F_least_low) :=
  fun_ok (lv := [0, 0, 0]) h2 sc_least_low rfl rfl fun cdv A outer s H H0 vs E M Z hr =>
    (dss_cons (ds_set 1 sc_least_low.nd (e_ix (de_var 0) de_int hF))
    (dss_cons (ds_for PassesOwn.never rfl (di_seq (de_var 0)) (dg_name 2 sc_least_low.nd)
    (dss_one (ds_if (dt_tru (b := false) (de_call (d_low_less T) hr (by decide) (da_s (de_var 2) (da_s (de_var 1) da_nil))))
    (dss_one (ds_set 1 sc_least_low.nd (de_var 2)))
    dss_nil)))
    (dss_one (ds_ret (de_var 1)))))
theorem d_least_low (T : Top K mg) : DFn P w K mg base 3 "least_low" [0] none F_least_low := by
  obtain ⟨f, fd, h1, h2, h3⟩ := T.f_least_low
  exact ⟨f, fd, ["lows"], h1, h2.kp, .all h3, ok_least_low T h2⟩
noncomputable def F_low_times : Fn := mkF 2 [0, 0] none
  ((sSeq (sIf (dBool (dOp gEq (dVar 1) (dConst (.int 0))))
  (sRet (dConst (.int 0)))
  sNil)
  (sRet (dIf (dBool (dOp (gIn false) (dVar 0) (dTup (dCons (dConst (.str "never")) (dCons (dConst (.str "deep")) dNil))))) (dVar 0) (dOp gMul (dVar 0) (dVar 1))))))
theorem sc_low_times : FnScope ["low", "many"] ["low", "many"] (defScope (topS 5)) := ⟨rfl, rfl, rfl, by decide +kernel, rfl, by decide +kernel, by decide +kernel⟩
theorem ok_low_times (T : Top K mg) {f : Addr} {fd : FuncData} (h2 : Fun K "low_times" "low_times" (topS 5) f fd) : FnOk P w K mg base CX0 1 f fd ["low", "many"] (spD K [0, 0] none F_low_times) :=
  fun_ok (lv := [0, 0]) h2 sc_low_times rfl rfl fun cdv A outer s H H0 vs E M Z hr =>
    (dss_cons (ds_if (t_eq (de_var 1) de_int hF hr)
    (dss_one (ds_ret de_int))
    dss_nil)
    (dss_one (ds_ret (de_if (t_in (de_var 0) (de_tup (das_cons de_str (das_cons de_str das_nil (hq := hF)) (hq := hF))) hF rfl) (de_var 0) (e_mul (de_var 0) (de_var 1) hF)))))
theorem d_low_times (T : Top K mg) : DFn P w K mg base 1 "low_times" [0, 0] none F_low_times := by
  obtain ⟨f, fd, h1, h2, h3⟩ := T.f_low_times
  exact ⟨f, fd, ["low", "many"], h1, h2.kp, .all h3, ok_low_times T h2⟩
noncomputable def F_need_less : Fn := mkF 2 [0, 0] none
  ((sSeq (sIf (dBool (dOp gEq (dVar 0) (dConst (.str "deep"))))
  (sRet (dConst (.bl false)))
  sNil)
  (sRet (dOrV (dOp gEq (dVar 1) (dConst (.str "deep"))) (dOp gLt (dVar 0) (dVar 1))))))
theorem sc_need_less : FnScope ["one", "other"] ["one", "other"] (defScope (topS 6)) := ⟨rfl, rfl, rfl, by decide +kernel, rfl, by decide +kernel, by decide +kernel⟩
theorem ok_need_less (T : Top K mg) {f : Addr} {fd : FuncData} (h2 : Fun K "need_less" "need_less" (topS 6) f fd) : FnOk P w K mg base CX0 1 f fd ["one", "other"] (spD K [0, 0] none F_need_less) :=
  fun_ok (lv := [0, 0]) h2 sc_need_less rfl rfl fun cdv A outer s H H0 vs E M Z hr =>
    (dss_cons (ds_if (t_eq (de_var 0) de_str hF hr)
    (dss_one (ds_ret de_bl))
    dss_nil)
    (dss_one (ds_ret (de_or (e_eq (de_var 1) de_str hF hr) (de_one (e_lt (de_var 0) (de_var 1) hF hr))))))
theorem d_need_less (T : Top K mg) : DFn P w K mg base 1 "need_less" [0, 0] none F_need_less := by
  obtain ⟨f, fd, h1, h2, h3⟩ := T.f_need_less
  exact ⟨f, fd, ["one", "other"], h1, h2.kp, .all h3, ok_need_less T h2⟩
noncomputable def F_greatest_need : Fn := mkF 3 [0] none
  ((sSeq (sSet 1 (dOp gIx (dVar 0) (dConst (.int 0))))
  (sSeq (sFor (dSeqI (dVar 0)) (gtName 2)
  (sIf (dTru (dCall [.s, .s] F_need_less (aS (dVar 1) (aS (dVar 2) aNil))))
  (sSet 1 (dVar 2))
  sNil))
  (sRet (dVar 1)))))
theorem sc_greatest_need : FnScope ["needs", "best", "need"] ["needs"] (defScope (topS 7)) := ⟨rfl, rfl, rfl, by decide +kernel, rfl, by decide +kernel, by decide +kernel⟩
theorem ok_greatest_need (T : Top K mg) {f : Addr} {fd : FuncData} (h2 : Fun K "greatest_need" "greatest_need" (topS 7) f fd) : FnOk P w K mg base CX0 2 f fd ["needs"] (spD K [0] none F_greatest_need) :=
  fun_ok (lv := [0, 0, 0]) h2 sc_greatest_need rfl rfl fun cdv A outer s H H0 vs E M Z hr =>
    (dss_cons (ds_set 1 sc_greatest_need.nd (e_ix (de_var 0) de_int hF))
    (dss_cons (ds_for PassesOwn.never rfl (di_seq (de_var 0)) (dg_name 2 sc_greatest_need.nd)
    (dss_one (ds_if (dt_tru (b := false) (de_call (d_need_less T) hr (by decide) (da_s (de_var 1) (da_s (de_var 2) da_nil))))
    (dss_one (ds_set 1 sc_greatest_need.nd (de_var 2)))
    dss_nil)))
    (dss_one (ds_ret (de_var 1)))))
theorem d_greatest_need (T : Top K mg) : DFn P w K mg base 2 "greatest_need" [0] none F_greatest_need := by
  obtain ⟨f, fd, h1, h2, h3⟩ := T.f_greatest_need
  exact ⟨f, fd, ["needs"], h1, h2.kp, .all h3, ok_greatest_need T h2⟩
noncomputable def F_need_behind : Fn := mkF 2 [0, 0] none
  ((sSeq (sIf (dBool (dOp gEq (dVar 1) (dConst (.str "never"))))
  (sRet (dConst (.int 0)))
  sNil)
  (sSeq (sIf (dOr (dBool (dOp gEq (dVar 0) (dConst (.str "deep")))) (dBool (dOp gEq (dVar 1) (dConst (.str "deep")))))
  (sRet (dConst (.str "deep")))
  sNil)
  (sRet (dCallB gMax2 (dCons (dConst (.int 0)) (dCons (dOp gSub (dVar 0) (dVar 1)) dNil)))))))
theorem sc_need_behind : FnScope ["need", "low"] ["need", "low"] (defScope (topS 8)) := ⟨rfl, rfl, rfl, by decide +kernel, rfl, by decide +kernel, by decide +kernel⟩
theorem ok_need_behind (T : Top K mg) {f : Addr} {fd : FuncData} (h2 : Fun K "need_behind" "need_behind" (topS 8) f fd) : FnOk P w K mg base CX0 1 f fd ["need", "low"] (spD K [0, 0] none F_need_behind) :=
  fun_ok (lv := [0, 0]) h2 sc_need_behind rfl rfl fun cdv A outer s H H0 vs E M Z hr =>
    (dss_cons (ds_if (t_eq (de_var 1) de_str hF hr)
    (dss_one (ds_ret de_int))
    dss_nil)
    (dss_cons (ds_if (dw_dt (dw_or (t_eq (de_var 0) de_str hF hr) (dw_or1 (t_eq (de_var 1) de_str hF hr))))
    (dss_one (ds_ret de_str))
    dss_nil)
    (dss_one (ds_ret (de_callB (call_max2 rfl) c_max2 T.b_max (by decide +kernel) (das_cons de_int (das_cons (e_sub (de_var 0) (de_var 1) hF) das_nil (hq := hF)) (hq := hF)))))))
theorem d_need_behind (T : Top K mg) : DFn P w K mg base 1 "need_behind" [0, 0] none F_need_behind := by
  obtain ⟨f, fd, h1, h2, h3⟩ := T.f_need_behind
  exact ⟨f, fd, ["need", "low"], h1, h2.kp, .all h3, ok_need_behind T h2⟩
noncomputable def F_change_need : Fn := mkF 2 [0, 0] none
  ((sRet (dCallB gMax2 (dCons (dConst (.int 0)) (dCons (dUn gNeg (dOp gIx (dVar 0) (dVar 1))) dNil)))))
theorem sc_change_need : FnScope ["change", "purse"] ["change", "purse"] (defScope (topS 10)) := ⟨rfl, rfl, rfl, by decide +kernel, rfl, by decide +kernel, by decide +kernel⟩
theorem ok_change_need (T : Top K mg) {f : Addr} {fd : FuncData} (h2 : Fun K "change_need" "change_need" (topS 10) f fd) : FnOk P w K mg base CX0 1 f fd ["change", "purse"] (spD K [0, 0] none F_change_need) :=
  fun_ok (lv := [0, 0]) h2 sc_change_need rfl rfl fun cdv A outer s H H0 vs E M Z hr =>
    (dss_one (ds_ret (de_callB (call_max2 rfl) c_max2 T.b_max (by decide +kernel) (das_cons de_int (das_cons (e_neg (e_ix (de_var 0) (de_var 1) hF)) das_nil (hq := hF)) (hq := hF)))))
theorem d_change_need (T : Top K mg) : DFn P w K mg base 1 "change_need" [0, 0] none F_change_need := by
  obtain ⟨f, fd, h1, h2, h3⟩ := T.f_change_need
  exact ⟨f, fd, ["change", "purse"], h1, h2.kp, .all h3, ok_change_need T h2⟩


noncomputable def F_least_ahead : Fn := mkF 2 [0, 0] none
  ((sSeq (sIf (dOr (dBool (dOp gEq (dVar 0) (dConst (.str "never")))) (dBool (dOp gEq (dVar 1) (dConst (.int 0)))))
  (sRet (dConst (.int 0)))
  sNil)
  (sRet (dCall [.s] F_least_low (aS (dTup (dCons (dConst (.int 0)) (dCons (dCall [.s, .s] F_low_times (aS (dVar 0) (aS (dVar 1) aNil))) dNil))) aNil)))))
theorem sc_least_ahead : FnScope ["low", "many"] ["low", "many"] (defScope (topS 13)) := ⟨rfl, rfl, rfl, by decide +kernel, rfl, by decide +kernel, by decide +kernel⟩
theorem ok_least_ahead (T : Top K mg) {f : Addr} {fd : FuncData} (h2 : Fun K "least_ahead" "least_ahead" (topS 13) f fd) : FnOk P w K mg base CX0 4 f fd ["low", "many"] (spD K [0, 0] none F_least_ahead) :=
  fun_ok (lv := [0, 0]) h2 sc_least_ahead rfl rfl fun cdv A outer s H H0 vs E M Z hr =>
    (dss_cons (ds_if (dw_dt (dw_or (t_eq (de_var 0) de_str hF hr) (dw_or1 (t_eq (de_var 1) de_int hF hr))))
    (dss_one (ds_ret de_int))
    dss_nil)
    (dss_one (ds_ret (de_call (d_least_low T) hr (by decide) (da_s (de_tup (das_cons de_int (das_cons (de_call (d_low_times T) hr (by decide) (da_s (de_var 0) (da_s (de_var 1) da_nil))) das_nil (hq := hF)) (hq := hF))) da_nil)))))
theorem d_least_ahead (T : Top K mg) : DFn P w K mg base 4 "least_ahead" [0, 0] none F_least_ahead := by
  obtain ⟨f, fd, h1, h2, h3⟩ := T.f_least_ahead
  exact ⟨f, fd, ["low", "many"], h1, h2.kp, .all h3, ok_least_ahead T h2⟩

noncomputable def F_need_behind_or_more : Fn := mkF 2 [0, 0] none
  ((sRet (dIf (dOr (dBool (dOp gEq (dVar 0) (dConst (.str "deep")))) (dBool (dOp gEq (dVar 1) (dConst (.str "deep"))))) (dConst (.str "deep")) (dOp gSub (dVar 0) (dVar 1)))))
theorem sc_need_behind_or_more : FnScope ["need", "ahead"] ["need", "ahead"] (defScope (topS 15)) := ⟨rfl, rfl, rfl, by decide +kernel, rfl, by decide +kernel, by decide +kernel⟩
theorem ok_need_behind_or_more (T : Top K mg) {f : Addr} {fd : FuncData} (h2 : Fun K "need_behind_or_more" "need_behind_or_more" (topS 15) f fd) : FnOk P w K mg base CX0 1 f fd ["need", "ahead"] (spD K [0, 0] none F_need_behind_or_more) :=
  fun_ok (lv := [0, 0]) h2 sc_need_behind_or_more rfl rfl fun cdv A outer s H H0 vs E M Z hr =>
    (dss_one (ds_ret (de_if (dw_dt (dw_or (t_eq (de_var 0) de_str hF hr) (dw_or1 (t_eq (de_var 1) de_str hF hr)))) de_str (e_sub (de_var 0) (de_var 1) hF))))
theorem d_need_behind_or_more (T : Top K mg) : DFn P w K mg base 1 "need_behind_or_more" [0, 0] none F_need_behind_or_more := by
  obtain ⟨f, fd, h1, h2, h3⟩ := T.f_need_behind_or_more
  exact ⟨f, fd, ["need", "ahead"], h1, h2.kp, .all h3, ok_need_behind_or_more T h2⟩

noncomputable def FR_either_figures : Nat → Nat → Fn
  | 0, _ => fun _ => .err
  | n + 1, 0 => mkF 9 [0, 0, 0] none
      ((sSeq (sSet 3 (dComp (dSeqI (dVar 1)) [7] (gtName 7) dYes (dCall [.s, .s, .s] (FR_either_figures n 4) (aS (dVar 0) (aS (dVar 7) (aS (dVar 2) aNil))))))
      (sSeq (sSet 4 (dComp (dSeqI (dVar 3)) [8] (gtName 8) dYes (dOp gIx (dVar 8) (dConst (.int 0)))))
      (sSeq (sSet 5 (dComp (dSeqI (dVar 3)) [8] (gtName 8) dYes (dOp gIx (dVar 8) (dConst (.int 1)))))
      (sSeq (sSet 6 (dComp (dSeqI (dVar 3)) [8] (gtName 8) dYes (dOp gIx (dVar 8) (dConst (.int 2)))))
      (sRet (dTup (dCons (dCall [.s] F_greatest_need (aS (dVar 4) aNil)) (dCons (dCall [.s] F_least_low (aS (dVar 5) aNil)) (dCons (dCall [.s] F_least_low (aS (dVar 6) aNil)) dNil))))))))))
  | n + 1, 1 => mkF 6 [0, 0, 0] none
      ((sSeq (sAsg (dCall [.s, .s, .s] (FR_either_figures n 4) (aS (dVar 0) (aS (dVar 1) (aS (dVar 2) aNil)))) (gtTup 3 (gtCons (gtName 3) (gtCons (gtName 4) (gtCons (gtName 5) gtNil)))))
      (sSeq (sIf (dOr (dBool (dOp gEq (dVar 4) (dConst (.str "deep")))) (dTru (dCall [.s, .s] F_low_less (aS (dVar 4) (aS (dConst (.int 0)) aNil)))))
      (sRet (dTup (dCons (dConst (.str "deep")) (dCons (dConst (.str "deep")) (dCons (dCall [.s, .s] F_low_sum (aS (dConst (.str "deep")) (aS (dVar 5) aNil))) dNil)))))
      sNil)
      (sRet (dTup (dCons (dVar 3) (dCons (dConst (.int 0)) (dCons (dVar 5) dNil))))))))
  | n + 1, 2 => mkF 11 [0, 0, 0] none
      ((sSeq (sAsg (dVar 1) (gtTup 3 (gtCons (gtName 3) (gtCons (gtName 4) (gtCons (gtName 5) gtNil)))))
      (sSeq (sIf (dBool (dOp gEq (dVar 4) (dConst (.int 0))))
      (sRet (dTup (dCons (dConst (.int 0)) (dCons (dConst (.int 0)) (dCons (dConst (.str "never")) dNil)))))
      sNil)
      (sSeq (sAsg (dCall [.s, .s, .s] (FR_either_figures n 4) (aS (dVar 0) (aS (dVar 5) (aS (dVar 2) aNil)))) (gtTup 3 (gtCons (gtName 6) (gtCons (gtName 7) (gtCons (gtName 8) gtNil)))))
      (sSeq (sSet 9 (dCall [.s, .s] F_least_ahead (aS (dVar 7) (aS (dOp gSub (dVar 4) (dConst (.int 1))) aNil))))
      (sSeq (sSet 10 (dCall [.s, .s] F_low_times (aS (dVar 7) (aS (dVar 4) aNil))))
      (sSeq (sIf (dBool (dOp gEq (dVar 3) (dConst (.str "upto"))))
      (sSet 10 (dCall [.s] F_least_low (aS (dTup (dCons (dConst (.int 0)) (dCons (dVar 10) dNil))) aNil)))
      sNil)
      (sRet (dTup (dCons (dCall [.s, .s] F_need_behind_or_more (aS (dVar 6) (aS (dVar 9) aNil))) (dCons (dVar 10) (dCons (dCall [.s, .s] F_low_sum (aS (dVar 9) (aS (dVar 8) aNil))) dNil))))))))))))
  | n + 1, 3 => mkF 6 [0, 0, 0] none
      ((sSeq (sSet 3 (dOp gIx (dVar 1) (dConst (.int 0))))
      (sSeq (sIf (dBool (dOp gEq (dVar 3) (dConst (.str "change"))))
      (sRet (dTup (dCons (dCall [.s, .s] F_change_need (aS (dOp gIx (dVar 1) (dConst (.int 1))) (aS (dVar 2) aNil))) (dCons (dOp gIx (dOp gIx (dVar 1) (dConst (.int 1))) (dVar 2)) (dCons (dConst (.str "never")) dNil)))))
      sNil)
      (sSeq (sIf (dBool (dOp gEq (dVar 3) (dConst (.str "call"))))
      (sSeq (sAsg (dOp gIx (dOp gIx (dVar 0) (dOp gIx (dVar 1) (dConst (.int 1)))) (dVar 2)) (gtTup 2 (gtCons (gtName 4) (gtCons (gtName 5) gtNil))))
      (sRet (dTup (dCons (dVar 4) (dCons (dVar 5) (dCons (dConst (.str "never")) dNil))))))
      sNil)
      (sSeq (sIf (dBool (dOp gEq (dVar 3) (dConst (.str "either"))))
      (sRet (dCall [.s, .s, .s] (FR_either_figures n 0) (aS (dVar 0) (aS (dOp gIx (dVar 1) (dConst (.int 1))) (aS (dVar 2) aNil)))))
      sNil)
      (sSeq (sIf (dBool (dOp gEq (dVar 3) (dConst (.str "loop"))))
      (sRet (dCall [.s, .s, .s] (FR_either_figures n 1) (aS (dVar 0) (aS (dOp gIx (dVar 1) (dConst (.int 1))) (aS (dVar 2) aNil)))))
      sNil)
      (sSeq (sIf (dBool (dOp (gIn false) (dVar 3) (dTup (dCons (dConst (.str "repeat")) (dCons (dConst (.str "upto")) dNil)))))
      (sRet (dCall [.s, .s, .s] (FR_either_figures n 2) (aS (dVar 0) (aS (dVar 1) (aS (dVar 2) aNil)))))
      sNil)
      (sRet (dTup (dCons (dConst (.int 0)) (dCons (dConst (.str "never")) (dCons (dIf (dBool (dOp gEq (dVar 3) (dConst (.str "back")))) (dConst (.int 0)) (dConst (.str "never"))) dNil))))))))))))
  | n + 1, 4 => mkF 11 [0, 0, 0] none
      ((sSeq (sSet 3 (dConst (.int 0)))
      (sSeq (sSet 4 (dConst (.int 0)))
      (sSeq (sSet 5 (dConst (.str "never")))
      (sSeq (sFor (dSeqI (dVar 1)) (gtName 6)
      (sSeq (sAsg (dCall [.s, .s, .s] (FR_either_figures n 3) (aS (dVar 0) (aS (dVar 6) (aS (dVar 2) aNil)))) (gtTup 3 (gtCons (gtName 7) (gtCons (gtName 8) (gtCons (gtName 9) gtNil)))))
      (sSeq (sSet 10 (dVar 4))
      (sSeq (sSet 5 (dCall [.s] F_least_low (aS (dTup (dCons (dVar 5) (dCons (dCall [.s, .s] F_low_sum (aS (dVar 10) (aS (dVar 9) aNil))) dNil))) aNil)))
      (sSeq (sSet 4 (dCall [.s, .s] F_low_sum (aS (dVar 10) (aS (dVar 8) aNil))))
      (sSet 3 (dCall [.s] F_greatest_need (aS (dTup (dCons (dVar 3) (dCons (dCall [.s, .s] F_need_behind (aS (dVar 7) (aS (dVar 10) aNil))) (dCons (dCall [.s, .s] F_need_behind (aS (dConst (.int 0)) (aS (dVar 4) aNil))) dNil)))) aNil))))))))
      (sRet (dTup (dCons (dVar 3) (dCons (dVar 4) (dCons (dVar 5) dNil))))))))))
  | _ + 1, _ => fun _ => .err
noncomputable abbrev F_either_figures (n : Nat) : Fn := FR_either_figures n 0
noncomputable abbrev F_loop_figures (n : Nat) : Fn := FR_either_figures n 1
noncomputable abbrev F_counted_figures (n : Nat) : Fn := FR_either_figures n 2
noncomputable abbrev F_statement_figures (n : Nat) : Fn := FR_either_figures n 3
noncomputable abbrev F_body_figures (n : Nat) : Fn := FR_either_figures n 4
theorem F_either_figures_succ (n : Nat) : F_either_figures (n + 1) = mkF 9 [0, 0, 0] none
      ((sSeq (sSet 3 (dComp (dSeqI (dVar 1)) [7] (gtName 7) dYes (dCall [.s, .s, .s] (F_body_figures n) (aS (dVar 0) (aS (dVar 7) (aS (dVar 2) aNil))))))
      (sSeq (sSet 4 (dComp (dSeqI (dVar 3)) [8] (gtName 8) dYes (dOp gIx (dVar 8) (dConst (.int 0)))))
      (sSeq (sSet 5 (dComp (dSeqI (dVar 3)) [8] (gtName 8) dYes (dOp gIx (dVar 8) (dConst (.int 1)))))
      (sSeq (sSet 6 (dComp (dSeqI (dVar 3)) [8] (gtName 8) dYes (dOp gIx (dVar 8) (dConst (.int 2)))))
      (sRet (dTup (dCons (dCall [.s] F_greatest_need (aS (dVar 4) aNil)) (dCons (dCall [.s] F_least_low (aS (dVar 5) aNil)) (dCons (dCall [.s] F_least_low (aS (dVar 6) aNil)) dNil)))))))))) := rfl
theorem F_loop_figures_succ (n : Nat) : F_loop_figures (n + 1) = mkF 6 [0, 0, 0] none
      ((sSeq (sAsg (dCall [.s, .s, .s] (F_body_figures n) (aS (dVar 0) (aS (dVar 1) (aS (dVar 2) aNil)))) (gtTup 3 (gtCons (gtName 3) (gtCons (gtName 4) (gtCons (gtName 5) gtNil)))))
      (sSeq (sIf (dOr (dBool (dOp gEq (dVar 4) (dConst (.str "deep")))) (dTru (dCall [.s, .s] F_low_less (aS (dVar 4) (aS (dConst (.int 0)) aNil)))))
      (sRet (dTup (dCons (dConst (.str "deep")) (dCons (dConst (.str "deep")) (dCons (dCall [.s, .s] F_low_sum (aS (dConst (.str "deep")) (aS (dVar 5) aNil))) dNil)))))
      sNil)
      (sRet (dTup (dCons (dVar 3) (dCons (dConst (.int 0)) (dCons (dVar 5) dNil)))))))) := rfl
theorem F_counted_figures_succ (n : Nat) : F_counted_figures (n + 1) = mkF 11 [0, 0, 0] none
      ((sSeq (sAsg (dVar 1) (gtTup 3 (gtCons (gtName 3) (gtCons (gtName 4) (gtCons (gtName 5) gtNil)))))
      (sSeq (sIf (dBool (dOp gEq (dVar 4) (dConst (.int 0))))
      (sRet (dTup (dCons (dConst (.int 0)) (dCons (dConst (.int 0)) (dCons (dConst (.str "never")) dNil)))))
      sNil)
      (sSeq (sAsg (dCall [.s, .s, .s] (F_body_figures n) (aS (dVar 0) (aS (dVar 5) (aS (dVar 2) aNil)))) (gtTup 3 (gtCons (gtName 6) (gtCons (gtName 7) (gtCons (gtName 8) gtNil)))))
      (sSeq (sSet 9 (dCall [.s, .s] F_least_ahead (aS (dVar 7) (aS (dOp gSub (dVar 4) (dConst (.int 1))) aNil))))
      (sSeq (sSet 10 (dCall [.s, .s] F_low_times (aS (dVar 7) (aS (dVar 4) aNil))))
      (sSeq (sIf (dBool (dOp gEq (dVar 3) (dConst (.str "upto"))))
      (sSet 10 (dCall [.s] F_least_low (aS (dTup (dCons (dConst (.int 0)) (dCons (dVar 10) dNil))) aNil)))
      sNil)
      (sRet (dTup (dCons (dCall [.s, .s] F_need_behind_or_more (aS (dVar 6) (aS (dVar 9) aNil))) (dCons (dVar 10) (dCons (dCall [.s, .s] F_low_sum (aS (dVar 9) (aS (dVar 8) aNil))) dNil)))))))))))) := rfl
theorem F_statement_figures_succ (n : Nat) : F_statement_figures (n + 1) = mkF 6 [0, 0, 0] none
      ((sSeq (sSet 3 (dOp gIx (dVar 1) (dConst (.int 0))))
      (sSeq (sIf (dBool (dOp gEq (dVar 3) (dConst (.str "change"))))
      (sRet (dTup (dCons (dCall [.s, .s] F_change_need (aS (dOp gIx (dVar 1) (dConst (.int 1))) (aS (dVar 2) aNil))) (dCons (dOp gIx (dOp gIx (dVar 1) (dConst (.int 1))) (dVar 2)) (dCons (dConst (.str "never")) dNil)))))
      sNil)
      (sSeq (sIf (dBool (dOp gEq (dVar 3) (dConst (.str "call"))))
      (sSeq (sAsg (dOp gIx (dOp gIx (dVar 0) (dOp gIx (dVar 1) (dConst (.int 1)))) (dVar 2)) (gtTup 2 (gtCons (gtName 4) (gtCons (gtName 5) gtNil))))
      (sRet (dTup (dCons (dVar 4) (dCons (dVar 5) (dCons (dConst (.str "never")) dNil))))))
      sNil)
      (sSeq (sIf (dBool (dOp gEq (dVar 3) (dConst (.str "either"))))
      (sRet (dCall [.s, .s, .s] (F_either_figures n) (aS (dVar 0) (aS (dOp gIx (dVar 1) (dConst (.int 1))) (aS (dVar 2) aNil)))))
      sNil)
      (sSeq (sIf (dBool (dOp gEq (dVar 3) (dConst (.str "loop"))))
      (sRet (dCall [.s, .s, .s] (F_loop_figures n) (aS (dVar 0) (aS (dOp gIx (dVar 1) (dConst (.int 1))) (aS (dVar 2) aNil)))))
      sNil)
      (sSeq (sIf (dBool (dOp (gIn false) (dVar 3) (dTup (dCons (dConst (.str "repeat")) (dCons (dConst (.str "upto")) dNil)))))
      (sRet (dCall [.s, .s, .s] (F_counted_figures n) (aS (dVar 0) (aS (dVar 1) (aS (dVar 2) aNil)))))
      sNil)
      (sRet (dTup (dCons (dConst (.int 0)) (dCons (dConst (.str "never")) (dCons (dIf (dBool (dOp gEq (dVar 3) (dConst (.str "back")))) (dConst (.int 0)) (dConst (.str "never"))) dNil)))))))))))) := rfl
theorem F_body_figures_succ (n : Nat) : F_body_figures (n + 1) = mkF 11 [0, 0, 0] none
      ((sSeq (sSet 3 (dConst (.int 0)))
      (sSeq (sSet 4 (dConst (.int 0)))
      (sSeq (sSet 5 (dConst (.str "never")))
      (sSeq (sFor (dSeqI (dVar 1)) (gtName 6)
      (sSeq (sAsg (dCall [.s, .s, .s] (F_statement_figures n) (aS (dVar 0) (aS (dVar 6) (aS (dVar 2) aNil)))) (gtTup 3 (gtCons (gtName 7) (gtCons (gtName 8) (gtCons (gtName 9) gtNil)))))
      (sSeq (sSet 10 (dVar 4))
      (sSeq (sSet 5 (dCall [.s] F_least_low (aS (dTup (dCons (dVar 5) (dCons (dCall [.s, .s] F_low_sum (aS (dVar 10) (aS (dVar 9) aNil))) dNil))) aNil)))
      (sSeq (sSet 4 (dCall [.s, .s] F_low_sum (aS (dVar 10) (aS (dVar 8) aNil))))
      (sSet 3 (dCall [.s] F_greatest_need (aS (dTup (dCons (dVar 3) (dCons (dCall [.s, .s] F_need_behind (aS (dVar 7) (aS (dVar 10) aNil))) (dCons (dCall [.s, .s] F_need_behind (aS (dConst (.int 0)) (aS (dVar 4) aNil))) dNil)))) aNil))))))))
      (sRet (dTup (dCons (dVar 3) (dCons (dVar 4) (dCons (dVar 5) dNil)))))))))) := rfl
theorem sc_either_figures : FnScope ["table", "bodies", "purse", "told", "needs", "throughs", "backs", "body", "figures"] ["table", "bodies", "purse"] (defScope (topS 11)) := ⟨rfl, rfl, rfl, by decide +kernel, rfl, by decide +kernel, by decide +kernel⟩
theorem ok_either_figures (T : Top K mg) (n : Nat) (h_either_figures : DFn P w K mg base (4 + n) "either_figures" [0, 0, 0] none (F_either_figures n)) (h_loop_figures : DFn P w K mg base (4 + n) "loop_figures" [0, 0, 0] none (F_loop_figures n)) (h_counted_figures : DFn P w K mg base (4 + n) "counted_figures" [0, 0, 0] none (F_counted_figures n)) (h_statement_figures : DFn P w K mg base (4 + n) "statement_figures" [0, 0, 0] none (F_statement_figures n)) (h_body_figures : DFn P w K mg base (4 + n) "body_figures" [0, 0, 0] none (F_body_figures n)) {f : Addr} {fd : FuncData} (h2 : Fun K "either_figures" "either_figures" (topS 11) f fd) : FnOk P w K mg base CX0 (4 + n + 1) f fd ["table", "bodies", "purse"] (spD K [0, 0, 0] none (F_either_figures (n + 1))) :=
  fun_ok (lv := [0, 0, 0, 0, 0, 0, 0, 0, 0]) h2 sc_either_figures rfl rfl fun cdv A outer s H H0 vs E M Z hr =>
    (dss_cons (ds_lc0 3 (own := [("body", 7)]) rfl sc_either_figures.nd (sw_true rfl rfl rfl (by decide +kernel)) (di_seq (de_var 1)) (blkOk_by (own := [("body", 7)]) (N := ["table", "bodies", "purse", "told", "needs", "throughs", "backs", "body", "figures"]) (sc := defScope (topS 11)) (by decide +kernel)) (fun _ _ _ _ _ => (dg_name 7 sc_either_figures.nd)) (fun _ _ _ _ _ => dts_nil) (fun _ _ _ _ _ => (de_call h_body_figures hr (by omega) (da_s (de_var 0) (da_s (de_var 7) (da_s (de_var 2) da_nil))))))
    (dss_cons (ds_lc0 4 (own := [("figures", 8)]) rfl sc_either_figures.nd (sw_true rfl rfl rfl (by decide +kernel)) (di_seq (de_var 3)) (blkOk_by (own := [("figures", 8)]) (N := ["table", "bodies", "purse", "told", "needs", "throughs", "backs", "body", "figures"]) (sc := defScope (topS 11)) (by decide +kernel)) (fun _ _ _ _ _ => (dg_name 8 sc_either_figures.nd)) (fun _ _ _ _ _ => dts_nil) (fun _ _ _ _ _ => (e_ix (de_var 8) de_int hF)))
    (dss_cons (ds_lc0 5 (own := [("figures", 8)]) rfl sc_either_figures.nd (sw_true rfl rfl rfl (by decide +kernel)) (di_seq (de_var 3)) (blkOk_by (own := [("figures", 8)]) (N := ["table", "bodies", "purse", "told", "needs", "throughs", "backs", "body", "figures"]) (sc := defScope (topS 11)) (by decide +kernel)) (fun _ _ _ _ _ => (dg_name 8 sc_either_figures.nd)) (fun _ _ _ _ _ => dts_nil) (fun _ _ _ _ _ => (e_ix (de_var 8) de_int hF)))
    (dss_cons (ds_lc0 6 (own := [("figures", 8)]) rfl sc_either_figures.nd (sw_true rfl rfl rfl (by decide +kernel)) (di_seq (de_var 3)) (blkOk_by (own := [("figures", 8)]) (N := ["table", "bodies", "purse", "told", "needs", "throughs", "backs", "body", "figures"]) (sc := defScope (topS 11)) (by decide +kernel)) (fun _ _ _ _ _ => (dg_name 8 sc_either_figures.nd)) (fun _ _ _ _ _ => dts_nil) (fun _ _ _ _ _ => (e_ix (de_var 8) de_int hF)))
    (dss_one (ds_ret (de_tup (das_cons (de_call (d_greatest_need T) hr (by omega) (da_s (de_var 4) da_nil)) (das_cons (de_call (d_least_low T) hr (by omega) (da_s (de_var 5) da_nil)) (das_cons (de_call (d_least_low T) hr (by omega) (da_s (de_var 6) da_nil)) das_nil (hq := hF)) (hq := hF)) (hq := hF)))))))))
theorem sc_loop_figures : FnScope ["table", "body", "purse", "need", "through", "back"] ["table", "body", "purse"] (defScope (topS 12)) := ⟨rfl, rfl, rfl, by decide +kernel, rfl, by decide +kernel, by decide +kernel⟩
theorem ok_loop_figures (T : Top K mg) (n : Nat) (h_either_figures : DFn P w K mg base (4 + n) "either_figures" [0, 0, 0] none (F_either_figures n)) (h_loop_figures : DFn P w K mg base (4 + n) "loop_figures" [0, 0, 0] none (F_loop_figures n)) (h_counted_figures : DFn P w K mg base (4 + n) "counted_figures" [0, 0, 0] none (F_counted_figures n)) (h_statement_figures : DFn P w K mg base (4 + n) "statement_figures" [0, 0, 0] none (F_statement_figures n)) (h_body_figures : DFn P w K mg base (4 + n) "body_figures" [0, 0, 0] none (F_body_figures n)) {f : Addr} {fd : FuncData} (h2 : Fun K "loop_figures" "loop_figures" (topS 12) f fd) : FnOk P w K mg base CX0 (4 + n + 1) f fd ["table", "body", "purse"] (spD K [0, 0, 0] none (F_loop_figures (n + 1))) :=
  fun_ok (lv := [0, 0, 0, 0, 0, 0]) h2 sc_loop_figures rfl rfl fun cdv A outer s H H0 vs E M Z hr =>
    (dss_cons (ds_asg (de_call h_body_figures hr (by omega) (da_s (de_var 0) (da_s (de_var 1) (da_s (de_var 2) da_nil)))) (dg_tup rfl (dgs_cons (dg_name 3 sc_loop_figures.nd) (dgs_cons (dg_name 4 sc_loop_figures.nd) (dgs_cons (dg_name 5 sc_loop_figures.nd) dgs_nil)))))
    (dss_cons (ds_if (dw_dt (dw_or (t_eq (de_var 4) de_str hF hr) (dw_or1 (dt_tru (b := false) (de_call (d_low_less T) hr (by omega) (da_s (de_var 4) (da_s de_int da_nil)))))))
    (dss_one (ds_ret (de_tup (das_cons de_str (das_cons de_str (das_cons (de_call (d_low_sum T) hr (by omega) (da_s de_str (da_s (de_var 5) da_nil))) das_nil (hq := hF)) (hq := hF)) (hq := hF)))))
    dss_nil)
    (dss_one (ds_ret (de_tup (das_cons (de_var 3) (das_cons de_int (das_cons (de_var 5) das_nil (hq := hF)) (hq := hF)) (hq := hF)))))))
theorem sc_counted_figures : FnScope ["table", "statement", "purse", "word", "many", "body", "need", "through", "back", "ahead", "whole"] ["table", "statement", "purse"] (defScope (topS 14)) := ⟨rfl, rfl, rfl, by decide +kernel, rfl, by decide +kernel, by decide +kernel⟩
theorem ok_counted_figures (T : Top K mg) (n : Nat) (h_either_figures : DFn P w K mg base (4 + n) "either_figures" [0, 0, 0] none (F_either_figures n)) (h_loop_figures : DFn P w K mg base (4 + n) "loop_figures" [0, 0, 0] none (F_loop_figures n)) (h_counted_figures : DFn P w K mg base (4 + n) "counted_figures" [0, 0, 0] none (F_counted_figures n)) (h_statement_figures : DFn P w K mg base (4 + n) "statement_figures" [0, 0, 0] none (F_statement_figures n)) (h_body_figures : DFn P w K mg base (4 + n) "body_figures" [0, 0, 0] none (F_body_figures n)) {f : Addr} {fd : FuncData} (h2 : Fun K "counted_figures" "counted_figures" (topS 14) f fd) : FnOk P w K mg base CX0 (4 + n + 1) f fd ["table", "statement", "purse"] (spD K [0, 0, 0] none (F_counted_figures (n + 1))) :=
  fun_ok (lv := [0, 0, 0, 0, 0, 0, 0, 0, 0, 0, 0]) h2 sc_counted_figures rfl rfl fun cdv A outer s H H0 vs E M Z hr =>
    (dss_cons (ds_asg (de_var 1) (dg_tup rfl (dgs_cons (dg_name 3 sc_counted_figures.nd) (dgs_cons (dg_name 4 sc_counted_figures.nd) (dgs_cons (dg_name 5 sc_counted_figures.nd) dgs_nil)))))
    (dss_cons (ds_if (t_eq (de_var 4) de_int hF hr)
    (dss_one (ds_ret (de_tup (das_cons de_int (das_cons de_int (das_cons de_str das_nil (hq := hF)) (hq := hF)) (hq := hF)))))
    dss_nil)
    (dss_cons (ds_asg (de_call h_body_figures hr (by omega) (da_s (de_var 0) (da_s (de_var 5) (da_s (de_var 2) da_nil)))) (dg_tup rfl (dgs_cons (dg_name 6 sc_counted_figures.nd) (dgs_cons (dg_name 7 sc_counted_figures.nd) (dgs_cons (dg_name 8 sc_counted_figures.nd) dgs_nil)))))
    (dss_cons (ds_set 9 sc_counted_figures.nd (de_call (d_least_ahead T) hr (by omega) (da_s (de_var 7) (da_s (e_sub (de_var 4) de_int hF) da_nil))))
    (dss_cons (ds_set 10 sc_counted_figures.nd (de_call (d_low_times T) hr (by omega) (da_s (de_var 7) (da_s (de_var 4) da_nil))))
    (dss_cons (ds_if (t_eq (de_var 3) de_str hF hr)
    (dss_one (ds_set 10 sc_counted_figures.nd (de_call (d_least_low T) hr (by omega) (da_s (de_tup (das_cons de_int (das_cons (de_var 10) das_nil (hq := hF)) (hq := hF))) da_nil))))
    dss_nil)
    (dss_one (ds_ret (de_tup (das_cons (de_call (d_need_behind_or_more T) hr (by omega) (da_s (de_var 6) (da_s (de_var 9) da_nil))) (das_cons (de_var 10) (das_cons (de_call (d_low_sum T) hr (by omega) (da_s (de_var 9) (da_s (de_var 8) da_nil))) das_nil (hq := hF)) (hq := hF)) (hq := hF)))))))))))
theorem sc_statement_figures : FnScope ["table", "statement", "purse", "word", "need", "low"] ["table", "statement", "purse"] (defScope (topS 16)) := ⟨rfl, rfl, rfl, by decide +kernel, rfl, by decide +kernel, by decide +kernel⟩
theorem ok_statement_figures (T : Top K mg) (n : Nat) (h_either_figures : DFn P w K mg base (4 + n) "either_figures" [0, 0, 0] none (F_either_figures n)) (h_loop_figures : DFn P w K mg base (4 + n) "loop_figures" [0, 0, 0] none (F_loop_figures n)) (h_counted_figures : DFn P w K mg base (4 + n) "counted_figures" [0, 0, 0] none (F_counted_figures n)) (h_statement_figures : DFn P w K mg base (4 + n) "statement_figures" [0, 0, 0] none (F_statement_figures n)) (h_body_figures : DFn P w K mg base (4 + n) "body_figures" [0, 0, 0] none (F_body_figures n)) {f : Addr} {fd : FuncData} (h2 : Fun K "statement_figures" "statement_figures" (topS 16) f fd) : FnOk P w K mg base CX0 (4 + n + 1) f fd ["table", "statement", "purse"] (spD K [0, 0, 0] none (F_statement_figures (n + 1))) :=
  fun_ok (lv := [0, 0, 0, 0, 0, 0]) h2 sc_statement_figures rfl rfl fun cdv A outer s H H0 vs E M Z hr =>
    (dss_cons (ds_set 3 sc_statement_figures.nd (e_ix (de_var 1) de_int hF))
    (dss_cons (ds_if (t_eq (de_var 3) de_str hF hr)
    (dss_one (ds_ret (de_tup (das_cons (de_call (d_change_need T) hr (by omega) (da_s (e_ix (de_var 1) de_int hF) (da_s (de_var 2) da_nil))) (das_cons (e_ix (e_ix (de_var 1) de_int hF) (de_var 2) hF) (das_cons de_str das_nil (hq := hF)) (hq := hF)) (hq := hF)))))
    dss_nil)
    (dss_cons (ds_if (t_eq (de_var 3) de_str hF hr)
    (dss_cons (ds_asg (e_ix (e_ix (de_var 0) (e_ix (de_var 1) de_int hF) hF) (de_var 2) hF) (dg_tup rfl (dgs_cons (dg_name 4 sc_statement_figures.nd) (dgs_cons (dg_name 5 sc_statement_figures.nd) dgs_nil))))
    (dss_one (ds_ret (de_tup (das_cons (de_var 4) (das_cons (de_var 5) (das_cons de_str das_nil (hq := hF)) (hq := hF)) (hq := hF))))))
    dss_nil)
    (dss_cons (ds_if (t_eq (de_var 3) de_str hF hr)
    (dss_one (ds_ret (de_call h_either_figures hr (by omega) (da_s (de_var 0) (da_s (e_ix (de_var 1) de_int hF) (da_s (de_var 2) da_nil))))))
    dss_nil)
    (dss_cons (ds_if (t_eq (de_var 3) de_str hF hr)
    (dss_one (ds_ret (de_call h_loop_figures hr (by omega) (da_s (de_var 0) (da_s (e_ix (de_var 1) de_int hF) (da_s (de_var 2) da_nil))))))
    dss_nil)
    (dss_cons (ds_if (t_in (de_var 3) (de_tup (das_cons de_str (das_cons de_str das_nil (hq := hF)) (hq := hF))) hF rfl)
    (dss_one (ds_ret (de_call h_counted_figures hr (by omega) (da_s (de_var 0) (da_s (de_var 1) (da_s (de_var 2) da_nil))))))
    dss_nil)
    (dss_one (ds_ret (de_tup (das_cons de_int (das_cons de_str (das_cons (de_if (t_eq (de_var 3) de_str hF hr) de_int de_str) das_nil (hq := hF)) (hq := hF)) (hq := hF)))))))))))
theorem sc_body_figures : FnScope ["table", "body", "purse", "need", "through", "back", "statement", "mine", "on", "out", "ahead"] ["table", "body", "purse"] (defScope (topS 17)) := ⟨rfl, rfl, rfl, by decide +kernel, rfl, by decide +kernel, by decide +kernel⟩
theorem ok_body_figures (T : Top K mg) (n : Nat) (h_either_figures : DFn P w K mg base (4 + n) "either_figures" [0, 0, 0] none (F_either_figures n)) (h_loop_figures : DFn P w K mg base (4 + n) "loop_figures" [0, 0, 0] none (F_loop_figures n)) (h_counted_figures : DFn P w K mg base (4 + n) "counted_figures" [0, 0, 0] none (F_counted_figures n)) (h_statement_figures : DFn P w K mg base (4 + n) "statement_figures" [0, 0, 0] none (F_statement_figures n)) (h_body_figures : DFn P w K mg base (4 + n) "body_figures" [0, 0, 0] none (F_body_figures n)) {f : Addr} {fd : FuncData} (h2 : Fun K "body_figures" "body_figures" (topS 17) f fd) : FnOk P w K mg base CX0 (4 + n + 1) f fd ["table", "body", "purse"] (spD K [0, 0, 0] none (F_body_figures (n + 1))) :=
  fun_ok (lv := [0, 0, 0, 0, 0, 0, 0, 0, 0, 0, 0]) h2 sc_body_figures rfl rfl fun cdv A outer s H H0 vs E M Z hr =>
    (dss_cons (ds_set 3 sc_body_figures.nd de_int)
    (dss_cons (ds_set 4 sc_body_figures.nd de_int)
    (dss_cons (ds_set 5 sc_body_figures.nd de_str)
    (dss_cons (ds_for PassesOwn.never rfl (di_seq (de_var 1)) (dg_name 6 sc_body_figures.nd)
    (dss_cons (ds_asg (de_call h_statement_figures hr (by omega) (da_s (de_var 0) (da_s (de_var 6) (da_s (de_var 2) da_nil)))) (dg_tup rfl (dgs_cons (dg_name 7 sc_body_figures.nd) (dgs_cons (dg_name 8 sc_body_figures.nd) (dgs_cons (dg_name 9 sc_body_figures.nd) dgs_nil)))))
    (dss_cons (ds_set 10 sc_body_figures.nd (de_var 4))
    (dss_cons (ds_set 5 sc_body_figures.nd (de_call (d_least_low T) hr (by omega) (da_s (de_tup (das_cons (de_var 5) (das_cons (de_call (d_low_sum T) hr (by omega) (da_s (de_var 10) (da_s (de_var 9) da_nil))) das_nil (hq := hF)) (hq := hF))) da_nil)))
    (dss_cons (ds_set 4 sc_body_figures.nd (de_call (d_low_sum T) hr (by omega) (da_s (de_var 10) (da_s (de_var 8) da_nil))))
    (dss_one (ds_set 3 sc_body_figures.nd (de_call (d_greatest_need T) hr (by omega) (da_s (de_tup (das_cons (de_var 3) (das_cons (de_call (d_need_behind T) hr (by omega) (da_s (de_var 7) (da_s (de_var 10) da_nil))) (das_cons (de_call (d_need_behind T) hr (by omega) (da_s de_int (da_s (de_var 4) da_nil))) das_nil (hq := hF)) (hq := hF)) (hq := hF))) da_nil)))))))))
    (dss_one (ds_ret (de_tup (das_cons (de_var 3) (das_cons (de_var 4) (das_cons (de_var 5) das_nil (hq := hF)) (hq := hF)) (hq := hF)))))))))
theorem d_rec_either_figures (T : Top K mg) : ∀ n : Nat, DFn P w K mg base (4 + n) "either_figures" [0, 0, 0] none (F_either_figures n) ∧ DFn P w K mg base (4 + n) "loop_figures" [0, 0, 0] none (F_loop_figures n) ∧ DFn P w K mg base (4 + n) "counted_figures" [0, 0, 0] none (F_counted_figures n) ∧ DFn P w K mg base (4 + n) "statement_figures" [0, 0, 0] none (F_statement_figures n) ∧ DFn P w K mg base (4 + n) "body_figures" [0, 0, 0] none (F_body_figures n)
  | 0 => ⟨d_err T.f_either_figures, d_err T.f_loop_figures, d_err T.f_counted_figures, d_err T.f_statement_figures, d_err T.f_body_figures⟩
  | n + 1 => by
    obtain ⟨h_either_figures, h_loop_figures, h_counted_figures, h_statement_figures, h_body_figures⟩ := d_rec_either_figures T n
    refine ⟨?_, ?_, ?_, ?_, ?_⟩
    · obtain ⟨f, fd, h1, h2, h3⟩ := T.f_either_figures
      exact ⟨f, fd, ["table", "bodies", "purse"], h1, h2.kp, .all h3, ok_either_figures T n h_either_figures h_loop_figures h_counted_figures h_statement_figures h_body_figures h2⟩
    · obtain ⟨f, fd, h1, h2, h3⟩ := T.f_loop_figures
      exact ⟨f, fd, ["table", "body", "purse"], h1, h2.kp, .all h3, ok_loop_figures T n h_either_figures h_loop_figures h_counted_figures h_statement_figures h_body_figures h2⟩
    · obtain ⟨f, fd, h1, h2, h3⟩ := T.f_counted_figures
      exact ⟨f, fd, ["table", "statement", "purse"], h1, h2.kp, .all h3, ok_counted_figures T n h_either_figures h_loop_figures h_counted_figures h_statement_figures h_body_figures h2⟩
    · obtain ⟨f, fd, h1, h2, h3⟩ := T.f_statement_figures
      exact ⟨f, fd, ["table", "statement", "purse"], h1, h2.kp, .all h3, ok_statement_figures T n h_either_figures h_loop_figures h_counted_figures h_statement_figures h_body_figures h2⟩
    · obtain ⟨f, fd, h1, h2, h3⟩ := T.f_body_figures
      exact ⟨f, fd, ["table", "body", "purse"], h1, h2.kp, .all h3, ok_body_figures T n h_either_figures h_loop_figures h_counted_figures h_statement_figures h_body_figures h2⟩
theorem d_either_figures (T : Top K mg) (n : Nat) : DFn P w K mg base (4 + n) "either_figures" [0, 0, 0] none (F_either_figures n) := (d_rec_either_figures T n).1
theorem d_loop_figures (T : Top K mg) (n : Nat) : DFn P w K mg base (4 + n) "loop_figures" [0, 0, 0] none (F_loop_figures n) := (d_rec_either_figures T n).2.1
theorem d_counted_figures (T : Top K mg) (n : Nat) : DFn P w K mg base (4 + n) "counted_figures" [0, 0, 0] none (F_counted_figures n) := (d_rec_either_figures T n).2.2.1
theorem d_statement_figures (T : Top K mg) (n : Nat) : DFn P w K mg base (4 + n) "statement_figures" [0, 0, 0] none (F_statement_figures n) := (d_rec_either_figures T n).2.2.2.1
theorem d_body_figures (T : Top K mg) (n : Nat) : DFn P w K mg base (4 + n) "body_figures" [0, 0, 0] none (F_body_figures n) := (d_rec_either_figures T n).2.2.2.2
noncomputable def F_bodies_within : Fn := mkF 1 [0] none
  ((sSeq (sIf (dBool (dOp gEq (dOp gIx (dVar 0) (dConst (.int 0))) (dConst (.str "either"))))
  (sRet (dOp gIx (dVar 0) (dConst (.int 1))))
  sNil)
  (sRet (dIf (dBool (dOp (gIn false) (dOp gIx (dVar 0) (dConst (.int 0))) (dTup (dCons (dConst (.str "loop")) (dCons (dConst (.str "repeat")) (dCons (dConst (.str "upto")) dNil)))))) (dTup (dCons (dOp gIx (dVar 0) (dUn gNeg (dConst (.int 1)))) dNil)) (dTup dNil)))))
theorem sc_bodies_within : FnScope ["statement"] ["statement"] (defScope (topS 19)) := ⟨rfl, rfl, rfl, by decide +kernel, rfl, by decide +kernel, by decide +kernel⟩
theorem ok_bodies_within (T : Top K mg) {f : Addr} {fd : FuncData} (h2 : Fun K "bodies_within" "bodies_within" (topS 19) f fd) : FnOk P w K mg base CX0 1 f fd ["statement"] (spD K [0] none F_bodies_within) :=
  fun_ok (lv := [0]) h2 sc_bodies_within rfl rfl fun cdv A outer s H H0 vs E M Z hr =>
    (dss_cons (ds_if (t_eq (e_ix (de_var 0) de_int hF) de_str hF hr)
    (dss_one (ds_ret (e_ix (de_var 0) de_int hF)))
    dss_nil)
    (dss_one (ds_ret (de_if (t_in (e_ix (de_var 0) de_int hF) (de_tup (das_cons de_str (das_cons de_str (das_cons de_str das_nil (hq := hF)) (hq := hF)) (hq := hF))) hF rfl) (de_tup (das_cons (e_ix (de_var 0) (e_neg de_int) hF) das_nil (hq := hF))) (de_tup das_nil)))))
theorem d_bodies_within (T : Top K mg) : DFn P w K mg base 1 "bodies_within" [0] none F_bodies_within := by
  obtain ⟨f, fd, h1, h2, h3⟩ := T.f_bodies_within
  exact ⟨f, fd, ["statement"], h1, h2.kp, .all h3, ok_bodies_within T h2⟩
noncomputable def FR_body_rows : Nat → Nat → Fn
  | 0, _ => fun _ => .err
  | n + 1, 0 => mkF 6 [0, 0, 0] (some 0)
      ((sSeq (sSet 3 (dLst dNil))
      (sSeq (sFor (dSeqI (dVar 1)) (gtName 4)
      (sSeq (sFor (dSeqI (dCall [.s] F_bodies_within (aS (dVar 4) aNil))) (gtName 5)
      (sSet 3 (dCatO 3 (dCall [.s, .s, .s] (FR_body_rows n 0) (aS (dVar 0) (aS (dVar 5) (aS (dVar 2) aNil)))))))
      (sApp 3 (dCall [.s, .s, .s] (F_statement_figures 60) (aS (dVar 0) (aS (dVar 4) (aS (dVar 2) aNil)))))))
      (sRet (dTake 3)))))
  | _ + 1, _ => fun _ => .err
noncomputable abbrev F_body_rows (n : Nat) : Fn := FR_body_rows n 0
theorem F_body_rows_succ (n : Nat) : F_body_rows (n + 1) = mkF 6 [0, 0, 0] (some 0)
      ((sSeq (sSet 3 (dLst dNil))
      (sSeq (sFor (dSeqI (dVar 1)) (gtName 4)
      (sSeq (sFor (dSeqI (dCall [.s] F_bodies_within (aS (dVar 4) aNil))) (gtName 5)
      (sSet 3 (dCatO 3 (dCall [.s, .s, .s] (F_body_rows n) (aS (dVar 0) (aS (dVar 5) (aS (dVar 2) aNil)))))))
      (sApp 3 (dCall [.s, .s, .s] (F_statement_figures 60) (aS (dVar 0) (aS (dVar 4) (aS (dVar 2) aNil)))))))
      (sRet (dTake 3))))) := rfl
theorem sc_body_rows : FnScope ["table", "body", "purse", "found", "statement", "inner"] ["table", "body", "purse"] (defScope (topS 21)) := ⟨rfl, rfl, rfl, by decide +kernel, rfl, by decide +kernel, by decide +kernel⟩
theorem ok_body_rows (T : Top K mg) (n : Nat) (h_body_rows : DFn P w K mg base (64 + n) "body_rows" [0, 0, 0] (some 0) (F_body_rows n)) {f : Addr} {fd : FuncData} (h2 : Fun K "body_rows" "body_rows" (topS 21) f fd) : FnOk P w K mg base CX0 (64 + n + 1) f fd ["table", "body", "purse"] (spD K [0, 0, 0] (some 0) (F_body_rows (n + 1))) :=
  fun_ok (lv := [0, 0, 0, 1, 0, 0]) h2 sc_body_rows rfl rfl fun cdv A outer s H H0 vs E M Z hr =>
    (dss_cons (ds_new 3 sc_body_rows.nd (df_lst das_nil))
    (dss_cons (ds_for PassesOwn.never rfl (di_seq (de_var 1)) (dg_name 4 sc_body_rows.nd)
    (dss_cons (ds_for PassesOwn.never rfl (di_seq (de_call (d_bodies_within T) hr (by omega) (da_s (de_var 4) da_nil))) (dg_name 5 sc_body_rows.nd)
    (dss_one (ds_new 3 sc_body_rows.nd (df_catO 3 (de_f (df_call h_body_rows hr (by omega) (da_s (de_var 0) (da_s (de_var 5) (da_s (de_var 2) da_nil)))))))))
    (dss_one (ds_app 3 (de_call (d_statement_figures T 60) hr (by omega) (da_s (de_var 0) (da_s (de_var 4) (da_s (de_var 2) da_nil))))))))
    (dss_one (ds_retF (df_own 3)))))
theorem d_body_rows (T : Top K mg) : ∀ n : Nat, DFn P w K mg base (64 + n) "body_rows" [0, 0, 0] (some 0) (F_body_rows n)
  | 0 => d_err T.f_body_rows
  | n + 1 => by
    have h_body_rows := d_body_rows T n
    obtain ⟨f, fd, h1, h2, h3⟩ := T.f_body_rows
    exact ⟨f, fd, ["table", "body", "purse"], h1, h2.kp, .all h3, ok_body_rows T n h_body_rows h2⟩
noncomputable def F_statement_figures_of : Fn := mkF 4 [0, 0, 0] none
  ((sRet (dCallB gTupOf (dCons (dComp (dSeqI (dOp gIx (dVar 0) (dConst (.int 2)))) [3] (gtName 3) dYes (dCallB gTupOf (dCons (dCall [.s, .s, .s] (F_body_rows 60) (aS (dVar 1) (aS (dVar 3) (aS (dVar 2) aNil)))) dNil))) dNil))))
theorem sc_statement_figures_of : FnScope ["program", "table", "purse", "body"] ["program", "table", "purse"] (defScope (topS 22)) := ⟨rfl, rfl, rfl, by decide +kernel, rfl, by decide +kernel, by decide +kernel⟩
theorem ok_statement_figures_of (T : Top K mg) {f : Addr} {fd : FuncData} (h2 : Fun K "statement_figures_of" "statement_figures_of" (topS 22) f fd) : FnOk P w K mg base CX0 125 f fd ["program", "table", "purse"] (spD K [0, 0, 0] none F_statement_figures_of) :=
  fun_ok (lv := [0, 0, 0, 0]) h2 sc_statement_figures_of rfl rfl fun cdv A outer s H H0 vs E M Z hr =>
    (dss_one (ds_ret (de_callTy call_tuple_of c_tuple T.b_tuple (by decide +kernel) (das_cons (de_f (df_lc (own := [("body", 3)]) rfl sc_statement_figures_of.nd (di_seq (e_ix (de_var 0) de_int hF)) (blkOk_by (own := [("body", 3)]) (N := ["program", "table", "purse", "body"]) (sc := defScope (topS 22)) (by decide +kernel)) (fun _ _ _ _ _ => (dg_name 3 sc_statement_figures_of.nd)) (fun _ _ _ _ _ => dts_nil) (fun _ _ _ _ _ => (de_callTy call_tuple_of c_tuple T.b_tuple (by decide +kernel) (das_cons (de_f (df_call (d_body_rows T 60) hr (by decide) (da_s (de_var 1) (da_s (de_var 3) (da_s (de_var 2) da_nil))))) das_nil (hq := hF)))))) das_nil (hq := hF)))))
theorem d_statement_figures_of (T : Top K mg) : DFn P w K mg base 125 "statement_figures_of" [0, 0, 0] none F_statement_figures_of := by
  obtain ⟨f, fd, h1, h2, h3⟩ := T.f_statement_figures_of
  exact ⟨f, fd, ["program", "table", "purse"], h1, h2.kp, .all h3, ok_statement_figures_of T h2⟩
noncomputable def F__law_pool : Fn := mkF 5 [0] (some 0)
  ((sSeq (sSet 1 (dConst (.int 100459)))
  (sSeq (sSet 2 (dLst dNil))
  (sSeq (sFor (dSeqI (dSl gCutL (dVar 0) dNoPart (dPart (dConst (.int 63))))) (gtName 3)
  (sSeq (sSet 4 (dOp gMod (dCallB gAbs (dCons (dCallB gIntOf (dCons (dVar 3) dNil)) dNil)) (dOp gShl (dConst (.int 1)) (dConst (.int 2000)))))
  (sSeq (sSet 1 (dOp gMod (dCallB gIntOf (dCons (dOp gAdd (dOp gAdd (dOp gMul (dVar 1) (dConst (.int 223))) (dOp gMod (dVar 4) (dConst (.int 1001093)))) (dConst (.int 1))) dNil)) (dConst (.int 2147483647))))
  (sIf (dBool (dOp gGe (dVar 4) (dOp gPow (dConst (.int 10)) (dConst (.int 18)))))
  (sApp 2 (dVar 4))
  sNil))))
  (sRet (dCatE 2 (dLst (dCons (dVar 1) (dCons (dConst (.int 0)) dNil)))))))))
theorem sc__law_pool : FnScope ["script", "mixed", "great", "cell", "number"] ["script"] (defScope (topS 24)) := ⟨rfl, rfl, rfl, by decide +kernel, rfl, by decide +kernel, by decide +kernel⟩
theorem ok__law_pool (T : Top K mg) {f : Addr} {fd : FuncData} (h2 : Fun K "_law_pool" "_law_pool" (topS 24) f fd) : FnOk P w K mg base CX0 1 f fd ["script"] (spD K [0] (some 0) F__law_pool) :=
  fun_ok (lv := [0, 0, 1, 0, 0]) h2 sc__law_pool rfl rfl fun cdv A outer s H H0 vs E M Z hr =>
    (dss_cons (ds_set 1 sc__law_pool.nd de_int)
    (dss_cons (ds_new 2 sc__law_pool.nd (df_lst das_nil))
    (dss_cons (ds_for PassesOwn.never rfl (di_seq (de_f (df_sl (de_var 0) do_none (do_some (b := false) de_int)))) (dg_name 3 sc__law_pool.nd)
    (dss_cons (ds_set 4 sc__law_pool.nd (e_mod (de_callB call_abs c_abs T.b_abs (by decide +kernel) (das_cons (de_callTy call_int1 c_int T.b_int (by decide +kernel) (das_cons (de_var 3) das_nil (hq := hF))) das_nil (hq := hF))) (e_shl de_int de_int hF) hF))
    (dss_cons (ds_set 1 sc__law_pool.nd (e_mod (de_callTy call_int1 c_int T.b_int (by decide +kernel) (das_cons (e_add (e_add (e_mul (de_var 1) de_int hF) (e_mod (de_var 4) de_int hF) hF) de_int hF) das_nil (hq := hF))) de_int hF))
    (dss_one (ds_if (t_ge (de_var 4) (e_pow de_int de_int hF) hF)
    (dss_one (ds_app 2 (de_var 4)))
    dss_nil)))))
    (dss_one (ds_retF (df_catE 2 (de_f (df_lst (das_cons (de_var 1) (das_cons de_int das_nil (hq := hF)) (hq := hF))))))))))
theorem d__law_pool (T : Top K mg) : DFn P w K mg base 1 "_law_pool" [0] (some 0) F__law_pool := by
  obtain ⟨f, fd, h1, h2, h3⟩ := T.f__law_pool
  exact ⟨f, fd, ["script"], h1, h2.kp, .all h3, ok__law_pool T h2⟩
noncomputable def F__law_take : Fn := mkF 3 [1, 0] none
  ((sSeq (sIf (dBool (dOp gGt (dCalm (dCallB gLen (dCons (dVar 0) dNil))) (dConst (.int 2))))
  (sSeq (sSet 2 (dPop 0))
  (sIf (dBool (dOp gGt (dVar 2) (dConst (.int 1))))
  (sSeq (sApp 0 (dOp gFdiv (dVar 2) (dVar 1)))
  (sRet (dOp gMod (dCallB gIntOf (dCons (dVar 2) dNil)) (dVar 1))))
  sNil))
  sNil)
  (sSeq (sAugP 0 gIAdd (plName 0) (dConst (.int 1)) (dConst (.int 1)))
  (sSeq (sPut 0 (dOp gMod (dCallB gIntOf (dCons (dOp gAdd (dOp gAdd (dOp gMul (dCalm (dOp gIx (dVar 0) (dConst (.int 0)))) (dConst (.int 39373))) (dOp gMul (dCalm (dOp gIx (dVar 0) (dConst (.int 1)))) (dConst (.int 8597)))) (dConst (.int 17))) dNil)) (dConst (.int 2147483647))) (dConst (.int 0)))
  (sRet (dOp gMod (dCallB gIntOf (dCons (dOp gFdiv (dCalm (dOp gIx (dVar 0) (dConst (.int 0)))) (dConst (.int 160))) dNil)) (dVar 1)))))))
theorem sc__law_take : FnScope ["pool", "many", "number"] ["pool", "many"] (defScope (topS 25)) := ⟨rfl, rfl, rfl, by decide +kernel, rfl, by decide +kernel, by decide +kernel⟩
theorem ok__law_take (T : Top K mg) {f : Addr} {fd : FuncData} (h2 : Fun K "_law_take" "_law_take" (topS 25) f fd) : FnOk P w K mg base CX0 1 f fd ["pool", "many"] (spD K [1, 0] none F__law_take) :=
  fun_ok (lv := [1, 0, 0]) h2 sc__law_take rfl rfl fun cdv A outer s H H0 vs E M Z hr =>
    (dss_cons (ds_if (t_gt (de_q (de_calm (de_callB call_len c_len T.b_len (by decide +kernel) (das_cons (de_bor 0) das_nil (hq := hT))))) de_int hF hr)
    (dss_cons (ds_set 2 sc__law_take.nd (de_pop 0))
    (dss_one (ds_if (t_gt (de_var 2) de_int hF hr)
    (dss_cons (ds_app 0 (e_fdiv (de_var 2) (de_var 1) hF))
    (dss_one (ds_ret (e_mod (de_callTy call_int1 c_int T.b_int (by decide +kernel) (das_cons (de_var 2) das_nil (hq := hF))) (de_var 1) hF))))
    dss_nil)))
    dss_nil)
    (dss_cons (ds_augP o_iadd d_iadd (dpl_name 0) de_int de_int)
    (dss_cons (ds_put 0 (e_mod (de_callTy call_int1 c_int T.b_int (by decide +kernel) (das_cons (e_add (e_add (e_mul (de_q (de_calm (e_ix (de_bor 0) (de_b de_int) hT))) de_int hF) (e_mul (de_q (de_calm (e_ix (de_bor 0) (de_b de_int) hT))) de_int hF) hF) de_int hF) das_nil (hq := hF))) de_int hF) de_int)
    (dss_one (ds_ret (e_mod (de_callTy call_int1 c_int T.b_int (by decide +kernel) (das_cons (e_fdiv (de_q (de_calm (e_ix (de_bor 0) (de_b de_int) hT))) de_int hF) das_nil (hq := hF))) (de_var 1) hF))))))
theorem d__law_take (T : Top K mg) : DFn P w K mg base 1 "_law_take" [1, 0] none F__law_take := by
  obtain ⟨f, fd, h1, h2, h3⟩ := T.f__law_take
  exact ⟨f, fd, ["pool", "many"], h1, h2.kp, .all h3, ok__law_take T h2⟩
noncomputable def F__law_mixed : Fn := mkF 5 [1, 0] (some 0)
  ((sSeq (sSet 2 (dLstOf (dCons (dVar 1) dNil)))
  (sSeq (sSet 3 (dLst dNil))
  (sSeq (sFor (dRng1 (dCallB gLen (dCons (dVar 1) dNil))) (gtName 4)
  (sApp 3 (dPopAt 2 (dCall [.io 0, .s] F__law_take (aIO 0 (aS (dCalm (dCallB gLen (dCons (dVar 2) dNil))) aNil))))))
  (sRet (dTake 3))))))
theorem sc__law_mixed : FnScope ["pool", "rows", "rest", "out", "k"] ["pool", "rows"] (defScope (topS 26)) := ⟨rfl, rfl, rfl, by decide +kernel, rfl, by decide +kernel, by decide +kernel⟩
theorem ok__law_mixed (T : Top K mg) {f : Addr} {fd : FuncData} (h2 : Fun K "_law_mixed" "_law_mixed" (topS 26) f fd) : FnOk P w K mg base CX0 2 f fd ["pool", "rows"] (spD K [1, 0] (some 0) F__law_mixed) :=
  fun_ok (lv := [1, 0, 1, 1, 0]) h2 sc__law_mixed rfl rfl fun cdv A outer s H H0 vs E M Z hr =>
    (dss_cons (ds_new 2 sc__law_mixed.nd (df_lstOf T.b_list (das_cons (de_var 1) das_nil (hq := hF))))
    (dss_cons (ds_new 3 sc__law_mixed.nd (df_lst das_nil))
    (dss_cons (ds_for PassesOwn.never rfl (di_rng1 T.b_range (de_callB call_len c_len T.b_len (by decide +kernel) (das_cons (de_var 1) das_nil (hq := hF)))) (dg_name 4 sc__law_mixed.nd)
    (dss_one (ds_app 3 (de_popAt 2 (de_call (d__law_take T) hr (by decide) (da_io 0 (da_s (de_q (de_calm (de_callB call_len c_len T.b_len (by decide +kernel) (das_cons (de_bor 2) das_nil (hq := hT))))) da_nil)))))))
    (dss_one (ds_retF (df_own 3))))))
theorem d__law_mixed (T : Top K mg) : DFn P w K mg base 2 "_law_mixed" [1, 0] (some 0) F__law_mixed := by
  obtain ⟨f, fd, h1, h2, h3⟩ := T.f__law_mixed
  exact ⟨f, fd, ["pool", "rows"], h1, h2.kp, .all h3, ok__law_mixed T h2⟩
noncomputable def F__law_sum : Fn := mkF 2 [0, 0] none
  ((sSeq (sIf (dOr (dBool (dOp gEq (dVar 0) (dConst (.str "never")))) (dBool (dOp gEq (dVar 1) (dConst (.str "never")))))
  (sRet (dConst (.str "never")))
  sNil)
  (sRet (dIf (dOr (dBool (dOp gEq (dVar 0) (dConst (.str "deep")))) (dBool (dOp gEq (dVar 1) (dConst (.str "deep"))))) (dConst (.str "deep")) (dOp gAdd (dVar 0) (dVar 1))))))
theorem sc__law_sum : FnScope ["one", "other"] ["one", "other"] (defScope (topS 27)) := ⟨rfl, rfl, rfl, by decide +kernel, rfl, by decide +kernel, by decide +kernel⟩
theorem ok__law_sum (T : Top K mg) {f : Addr} {fd : FuncData} (h2 : Fun K "_law_sum" "_law_sum" (topS 27) f fd) : FnOk P w K mg base CX0 1 f fd ["one", "other"] (spD K [0, 0] none F__law_sum) :=
  fun_ok (lv := [0, 0]) h2 sc__law_sum rfl rfl fun cdv A outer s H H0 vs E M Z hr =>
    (dss_cons (ds_if (dw_dt (dw_or (t_eq (de_var 0) de_str hF hr) (dw_or1 (t_eq (de_var 1) de_str hF hr))))
    (dss_one (ds_ret de_str))
    dss_nil)
    (dss_one (ds_ret (de_if (dw_dt (dw_or (t_eq (de_var 0) de_str hF hr) (dw_or1 (t_eq (de_var 1) de_str hF hr)))) de_str (e_add (de_var 0) (de_var 1) hF)))))
theorem d__law_sum (T : Top K mg) : DFn P w K mg base 1 "_law_sum" [0, 0] none F__law_sum := by
  obtain ⟨f, fd, h1, h2, h3⟩ := T.f__law_sum
  exact ⟨f, fd, ["one", "other"], h1, h2.kp, .all h3, ok__law_sum T h2⟩
noncomputable def F__law_less : Fn := mkF 2 [0, 0] none
  ((sSeq (sIf (dOr (dBool (dOp gEq (dVar 0) (dConst (.str "deep")))) (dBool (dOp gEq (dVar 1) (dConst (.str "deep")))))
  (sRet (dConst (.str "deep")))
  sNil)
  (sRet (dIf (dBool (dOp gEq (dVar 0) (dConst (.str "never")))) (dVar 1) (dIf (dBool (dOp gEq (dVar 1) (dConst (.str "never")))) (dVar 0) (dCallB gMin2 (dCons (dVar 0) (dCons (dVar 1) dNil))))))))
theorem sc__law_less : FnScope ["one", "other"] ["one", "other"] (defScope (topS 28)) := ⟨rfl, rfl, rfl, by decide +kernel, rfl, by decide +kernel, by decide +kernel⟩
theorem ok__law_less (T : Top K mg) {f : Addr} {fd : FuncData} (h2 : Fun K "_law_less" "_law_less" (topS 28) f fd) : FnOk P w K mg base CX0 1 f fd ["one", "other"] (spD K [0, 0] none F__law_less) :=
  fun_ok (lv := [0, 0]) h2 sc__law_less rfl rfl fun cdv A outer s H H0 vs E M Z hr =>
    (dss_cons (ds_if (dw_dt (dw_or (t_eq (de_var 0) de_str hF hr) (dw_or1 (t_eq (de_var 1) de_str hF hr))))
    (dss_one (ds_ret de_str))
    dss_nil)
    (dss_one (ds_ret (de_if (t_eq (de_var 0) de_str hF hr) (de_var 1) (de_if (t_eq (de_var 1) de_str hF hr) (de_var 0) (de_callB (call_min2 rfl) c_min2 T.b_min (by decide +kernel) (das_cons (de_var 0) (das_cons (de_var 1) das_nil (hq := hF)) (hq := hF))))))))
theorem d__law_less (T : Top K mg) : DFn P w K mg base 1 "_law_less" [0, 0] none F__law_less := by
  obtain ⟨f, fd, h1, h2, h3⟩ := T.f__law_less
  exact ⟨f, fd, ["one", "other"], h1, h2.kp, .all h3, ok__law_less T h2⟩
noncomputable def F__law_more : Fn := mkF 2 [0, 0] none
  ((sRet (dIf (dOr (dBool (dOp gEq (dVar 0) (dConst (.str "deep")))) (dBool (dOp gEq (dVar 1) (dConst (.str "deep"))))) (dConst (.str "deep")) (dCallB gMax2 (dCons (dVar 0) (dCons (dVar 1) dNil))))))
theorem sc__law_more : FnScope ["one", "other"] ["one", "other"] (defScope (topS 29)) := ⟨rfl, rfl, rfl, by decide +kernel, rfl, by decide +kernel, by decide +kernel⟩
theorem ok__law_more (T : Top K mg) {f : Addr} {fd : FuncData} (h2 : Fun K "_law_more" "_law_more" (topS 29) f fd) : FnOk P w K mg base CX0 1 f fd ["one", "other"] (spD K [0, 0] none F__law_more) :=
  fun_ok (lv := [0, 0]) h2 sc__law_more rfl rfl fun cdv A outer s H H0 vs E M Z hr =>
    (dss_one (ds_ret (de_if (dw_dt (dw_or (t_eq (de_var 0) de_str hF hr) (dw_or1 (t_eq (de_var 1) de_str hF hr)))) de_str (de_callB (call_max2 rfl) c_max2 T.b_max (by decide +kernel) (das_cons (de_var 0) (das_cons (de_var 1) das_nil (hq := hF)) (hq := hF))))))
theorem d__law_more (T : Top K mg) : DFn P w K mg base 1 "_law_more" [0, 0] none F__law_more := by
  obtain ⟨f, fd, h1, h2, h3⟩ := T.f__law_more
  exact ⟨f, fd, ["one", "other"], h1, h2.kp, .all h3, ok__law_more T h2⟩
noncomputable def F__law_behind : Fn := mkF 2 [0, 0] none
  ((sSeq (sIf (dBool (dOp gEq (dVar 1) (dConst (.str "never"))))
  (sRet (dConst (.int 0)))
  sNil)
  (sRet (dIf (dOr (dBool (dOp gEq (dVar 0) (dConst (.str "deep")))) (dBool (dOp gEq (dVar 1) (dConst (.str "deep"))))) (dConst (.str "deep")) (dCallB gMax2 (dCons (dConst (.int 0)) (dCons (dOp gSub (dVar 0) (dVar 1)) dNil)))))))
theorem sc__law_behind : FnScope ["need", "low"] ["need", "low"] (defScope (topS 30)) := ⟨rfl, rfl, rfl, by decide +kernel, rfl, by decide +kernel, by decide +kernel⟩
theorem ok__law_behind (T : Top K mg) {f : Addr} {fd : FuncData} (h2 : Fun K "_law_behind" "_law_behind" (topS 30) f fd) : FnOk P w K mg base CX0 1 f fd ["need", "low"] (spD K [0, 0] none F__law_behind) :=
  fun_ok (lv := [0, 0]) h2 sc__law_behind rfl rfl fun cdv A outer s H H0 vs E M Z hr =>
    (dss_cons (ds_if (t_eq (de_var 1) de_str hF hr)
    (dss_one (ds_ret de_int))
    dss_nil)
    (dss_one (ds_ret (de_if (dw_dt (dw_or (t_eq (de_var 0) de_str hF hr) (dw_or1 (t_eq (de_var 1) de_str hF hr)))) de_str (de_callB (call_max2 rfl) c_max2 T.b_max (by decide +kernel) (das_cons de_int (das_cons (e_sub (de_var 0) (de_var 1) hF) das_nil (hq := hF)) (hq := hF)))))))
theorem d__law_behind (T : Top K mg) : DFn P w K mg base 1 "_law_behind" [0, 0] none F__law_behind := by
  obtain ⟨f, fd, h1, h2, h3⟩ := T.f__law_behind
  exact ⟨f, fd, ["need", "low"], h1, h2.kp, .all h3, ok__law_behind T h2⟩
noncomputable def F__law_inner : Fn := mkF 1 [0] none
  ((sSeq (sIf (dBool (dOp gEq (dOp gIx (dVar 0) (dConst (.int 0))) (dConst (.str "either"))))
  (sRet (dOp gIx (dVar 0) (dConst (.int 1))))
  sNil)
  (sRet (dIf (dBool (dOp (gIn false) (dOp gIx (dVar 0) (dConst (.int 0))) (dTup (dCons (dConst (.str "loop")) (dCons (dConst (.str "repeat")) (dCons (dConst (.str "upto")) dNil)))))) (dTup (dCons (dOp gIx (dVar 0) (dUn gNeg (dConst (.int 1)))) dNil)) (dTup dNil)))))
theorem sc__law_inner : FnScope ["statement"] ["statement"] (defScope (topS 31)) := ⟨rfl, rfl, rfl, by decide +kernel, rfl, by decide +kernel, by decide +kernel⟩
theorem ok__law_inner (T : Top K mg) {f : Addr} {fd : FuncData} (h2 : Fun K "_law_inner" "_law_inner" (topS 31) f fd) : FnOk P w K mg base CX0 1 f fd ["statement"] (spD K [0] none F__law_inner) :=
  fun_ok (lv := [0]) h2 sc__law_inner rfl rfl fun cdv A outer s H H0 vs E M Z hr =>
    (dss_cons (ds_if (t_eq (e_ix (de_var 0) de_int hF) de_str hF hr)
    (dss_one (ds_ret (e_ix (de_var 0) de_int hF)))
    dss_nil)
    (dss_one (ds_ret (de_if (t_in (e_ix (de_var 0) de_int hF) (de_tup (das_cons de_str (das_cons de_str (das_cons de_str das_nil (hq := hF)) (hq := hF)) (hq := hF))) hF rfl) (de_tup (das_cons (e_ix (de_var 0) (e_neg de_int) hF) das_nil (hq := hF))) (de_tup das_nil)))))
theorem d__law_inner (T : Top K mg) : DFn P w K mg base 1 "_law_inner" [0] none F__law_inner := by
  obtain ⟨f, fd, h1, h2, h3⟩ := T.f__law_inner
  exact ⟨f, fd, ["statement"], h1, h2.kp, .all h3, ok__law_inner T h2⟩
noncomputable def F__law_one : Fn := mkF 16 [0, 0, 0, 0] none
  ((sSeq (sSet 4 (dOp gIx (dVar 0) (dConst (.int 0))))
  (sSeq (sIf (dBool (dOp gEq (dVar 4) (dConst (.str "change"))))
  (sRet (dTup (dCons (dCallB gMax2 (dCons (dConst (.int 0)) (dCons (dUn gNeg (dOp gIx (dOp gIx (dVar 0) (dConst (.int 1))) (dVar 2))) dNil))) (dCons (dOp gIx (dOp gIx (dVar 0) (dConst (.int 1))) (dVar 2)) (dCons (dConst (.str "never")) dNil)))))
  sNil)
  (sSeq (sIf (dBool (dOp gEq (dVar 4) (dConst (.str "call"))))
  (sSeq (sAsg (dOp gIx (dOp gIx (dVar 1) (dOp gIx (dVar 0) (dConst (.int 1)))) (dVar 2)) (gtTup 2 (gtCons (gtName 5) (gtCons (gtName 6) gtNil))))
  (sRet (dTup (dCons (dVar 5) (dCons (dVar 6) (dCons (dConst (.str "never")) dNil))))))
  sNil)
  (sSeq (sIf (dOr (dBool (dOp gEq (dVar 4) (dConst (.str "back")))) (dBool (dOp gEq (dVar 4) (dConst (.str "stop")))))
  (sRet (dTup (dCons (dConst (.int 0)) (dCons (dConst (.str "never")) (dCons (dIf (dBool (dOp gEq (dVar 4) (dConst (.str "back")))) (dConst (.int 0)) (dConst (.str "never"))) dNil)))))
  sNil)
  (sSeq (sAsg (dOp gIx (dVar 3) (dConst (.int 0))) (gtTup 3 (gtCons (gtName 5) (gtCons (gtName 7) (gtCons (gtName 8) gtNil)))))
  (sSeq (sIf (dBool (dOp gEq (dVar 4) (dConst (.str "either"))))
  (sSeq (sFor (dSeqI (dSl gCutL (dVar 3) (dPart (dConst (.int 1))) dNoPart)) (gtTup 3 (gtCons (gtName 9) (gtCons (gtName 10) (gtCons (gtName 11) gtNil))))
  (sPar [5, 7, 8] (dCons (dCall [.s, .s] F__law_more (aS (dVar 5) (aS (dVar 9) aNil))) (dCons (dCall [.s, .s] F__law_less (aS (dVar 7) (aS (dVar 10) aNil))) (dCons (dCall [.s, .s] F__law_less (aS (dVar 8) (aS (dVar 11) aNil))) dNil)))))
  (sRet (dTup (dCons (dVar 5) (dCons (dVar 7) (dCons (dVar 8) dNil))))))
  sNil)
  (sSeq (sSet 12 (dOrV (dOp gEq (dVar 7) (dConst (.str "deep"))) (dAndV (dOp gNe (dVar 7) (dConst (.str "never"))) (dOp gLt (dVar 7) (dConst (.int 0))))))
  (sSeq (sIf (dBool (dOp gEq (dVar 4) (dConst (.str "loop"))))
  (sRet (dIf (dTru (dVar 12)) (dTup (dCons (dConst (.str "deep")) (dCons (dConst (.str "deep")) (dCons (dCall [.s, .s] F__law_sum (aS (dConst (.str "deep")) (aS (dVar 8) aNil))) dNil)))) (dTup (dCons (dVar 5) (dCons (dConst (.int 0)) (dCons (dVar 8) dNil))))))
  sNil)
  (sSeq (sSet 13 (dOp gIx (dVar 0) (dConst (.int 1))))
  (sSeq (sIf (dBool (dOp gEq (dVar 13) (dConst (.int 0))))
  (sRet (dTup (dCons (dConst (.int 0)) (dCons (dConst (.int 0)) (dCons (dConst (.str "never")) dNil)))))
  sNil)
  (sSeq (sSet 14 (dConst (.int 0)))
  (sSeq (sIf (dAnd (dTru (dVar 12)) (dBool (dOp gGt (dVar 13) (dConst (.int 1)))))
  (sSet 14 (dIf (dBool (dOp gEq (dVar 7) (dConst (.str "deep")))) (dConst (.str "deep")) (dOp gMul (dOp gSub (dVar 13) (dConst (.int 1))) (dVar 7))))
  sNil)
  (sSeq (sSet 15 (dIf (dBool (dOp (gIn false) (dVar 7) (dTup (dCons (dConst (.str "deep")) (dCons (dConst (.str "never")) dNil))))) (dVar 7) (dOp gMul (dVar 13) (dVar 7))))
  (sRet (dTup (dCons (dIf (dOr (dBool (dOp gEq (dVar 5) (dConst (.str "deep")))) (dBool (dOp gEq (dVar 14) (dConst (.str "deep"))))) (dConst (.str "deep")) (dOp gSub (dVar 5) (dVar 14))) (dCons (dIf (dBool (dOp gEq (dVar 4) (dConst (.str "upto")))) (dCall [.s, .s] F__law_less (aS (dConst (.int 0)) (aS (dVar 15) aNil))) (dVar 15)) (dCons (dCall [.s, .s] F__law_sum (aS (dVar 14) (aS (dVar 8) aNil))) dNil)))))))))))))))))))
theorem sc__law_one : FnScope ["statement", "table", "purse", "inner", "word", "need", "low", "through", "back", "more", "then", "behind", "falls", "many", "ahead", "whole"] ["statement", "table", "purse", "inner"] (defScope (topS 32)) := ⟨rfl, rfl, rfl, by decide +kernel, rfl, by decide +kernel, by decide +kernel⟩
theorem ok__law_one (T : Top K mg) {f : Addr} {fd : FuncData} (h2 : Fun K "_law_one" "_law_one" (topS 32) f fd) : FnOk P w K mg base CX0 2 f fd ["statement", "table", "purse", "inner"] (spD K [0, 0, 0, 0] none F__law_one) :=
  fun_ok (lv := [0, 0, 0, 0, 0, 0, 0, 0, 0, 0, 0, 0, 0, 0, 0, 0]) h2 sc__law_one rfl rfl fun cdv A outer s H H0 vs E M Z hr =>
    (dss_cons (ds_set 4 sc__law_one.nd (e_ix (de_var 0) de_int hF))
    (dss_cons (ds_if (t_eq (de_var 4) de_str hF hr)
    (dss_one (ds_ret (de_tup (das_cons (de_callB (call_max2 rfl) c_max2 T.b_max (by decide +kernel) (das_cons de_int (das_cons (e_neg (e_ix (e_ix (de_var 0) de_int hF) (de_var 2) hF)) das_nil (hq := hF)) (hq := hF))) (das_cons (e_ix (e_ix (de_var 0) de_int hF) (de_var 2) hF) (das_cons de_str das_nil (hq := hF)) (hq := hF)) (hq := hF)))))
    dss_nil)
    (dss_cons (ds_if (t_eq (de_var 4) de_str hF hr)
    (dss_cons (ds_asg (e_ix (e_ix (de_var 1) (e_ix (de_var 0) de_int hF) hF) (de_var 2) hF) (dg_tup rfl (dgs_cons (dg_name 5 sc__law_one.nd) (dgs_cons (dg_name 6 sc__law_one.nd) dgs_nil))))
    (dss_one (ds_ret (de_tup (das_cons (de_var 5) (das_cons (de_var 6) (das_cons de_str das_nil (hq := hF)) (hq := hF)) (hq := hF))))))
    dss_nil)
    (dss_cons (ds_if (dw_dt (dw_or (t_eq (de_var 4) de_str hF hr) (dw_or1 (t_eq (de_var 4) de_str hF hr))))
    (dss_one (ds_ret (de_tup (das_cons de_int (das_cons de_str (das_cons (de_if (t_eq (de_var 4) de_str hF hr) de_int de_str) das_nil (hq := hF)) (hq := hF)) (hq := hF)))))
    dss_nil)
    (dss_cons (ds_asg (e_ix (de_var 3) de_int hF) (dg_tup rfl (dgs_cons (dg_name 5 sc__law_one.nd) (dgs_cons (dg_name 7 sc__law_one.nd) (dgs_cons (dg_name 8 sc__law_one.nd) dgs_nil)))))
    (dss_cons (ds_if (t_eq (de_var 4) de_str hF hr)
    (dss_cons (ds_for PassesOwn.never rfl (di_seq (de_f (df_sl (de_var 3) (do_some (b := false) de_int) do_none))) (dg_tup rfl (dgs_cons (dg_name 9 sc__law_one.nd) (dgs_cons (dg_name 10 sc__law_one.nd) (dgs_cons (dg_name 11 sc__law_one.nd) dgs_nil))))
    (dss_one (ds_par3 5 7 8 rfl sc__law_one.nd (das_cons (de_call (d__law_more T) hr (by decide) (da_s (de_var 5) (da_s (de_var 9) da_nil))) (das_cons (de_call (d__law_less T) hr (by decide) (da_s (de_var 7) (da_s (de_var 10) da_nil))) (das_cons (de_call (d__law_less T) hr (by decide) (da_s (de_var 8) (da_s (de_var 11) da_nil))) das_nil (hq := hF)) (hq := hF)) (hq := hF)))))
    (dss_one (ds_ret (de_tup (das_cons (de_var 5) (das_cons (de_var 7) (das_cons (de_var 8) das_nil (hq := hF)) (hq := hF)) (hq := hF))))))
    dss_nil)
    (dss_cons (ds_set 12 sc__law_one.nd (de_or (e_eq (de_var 7) de_str hF hr) (de_one (de_and (e_ne (de_var 7) de_str hF hr) (de_one (e_lt (de_var 7) de_int hF hr))))))
    (dss_cons (ds_if (t_eq (de_var 4) de_str hF hr)
    (dss_one (ds_ret (de_if (dt_tru (b := false) (de_var 12)) (de_tup (das_cons de_str (das_cons de_str (das_cons (de_call (d__law_sum T) hr (by decide) (da_s de_str (da_s (de_var 8) da_nil))) das_nil (hq := hF)) (hq := hF)) (hq := hF))) (de_tup (das_cons (de_var 5) (das_cons de_int (das_cons (de_var 8) das_nil (hq := hF)) (hq := hF)) (hq := hF))))))
    dss_nil)
    (dss_cons (ds_set 13 sc__law_one.nd (e_ix (de_var 0) de_int hF))
    (dss_cons (ds_if (t_eq (de_var 13) de_int hF hr)
    (dss_one (ds_ret (de_tup (das_cons de_int (das_cons de_int (das_cons de_str das_nil (hq := hF)) (hq := hF)) (hq := hF)))))
    dss_nil)
    (dss_cons (ds_set 14 sc__law_one.nd de_int)
    (dss_cons (ds_if (dw_dt (dw_and (dt_tru (b := false) (de_var 12)) (dw_and1 (t_gt (de_var 13) de_int hF hr))))
    (dss_one (ds_set 14 sc__law_one.nd (de_if (t_eq (de_var 7) de_str hF hr) de_str (e_mul (e_sub (de_var 13) de_int hF) (de_var 7) hF))))
    dss_nil)
    (dss_cons (ds_set 15 sc__law_one.nd (de_if (t_in (de_var 7) (de_tup (das_cons de_str (das_cons de_str das_nil (hq := hF)) (hq := hF))) hF rfl) (de_var 7) (e_mul (de_var 13) (de_var 7) hF)))
    (dss_one (ds_ret (de_tup (das_cons (de_if (dw_dt (dw_or (t_eq (de_var 5) de_str hF hr) (dw_or1 (t_eq (de_var 14) de_str hF hr)))) de_str (e_sub (de_var 5) (de_var 14) hF)) (das_cons (de_if (t_eq (de_var 4) de_str hF hr) (de_call (d__law_less T) hr (by decide) (da_s de_int (da_s (de_var 15) da_nil))) (de_var 15)) (das_cons (de_call (d__law_sum T) hr (by decide) (da_s (de_var 14) (da_s (de_var 8) da_nil))) das_nil (hq := hF)) (hq := hF)) (hq := hF))))))))))))))))))
theorem d__law_one (T : Top K mg) : DFn P w K mg base 2 "_law_one" [0, 0, 0, 0] none F__law_one := by
  obtain ⟨f, fd, h1, h2, h3⟩ := T.f__law_one
  exact ⟨f, fd, ["statement", "table", "purse", "inner"], h1, h2.kp, .all h3, ok__law_one T h2⟩
noncomputable def F__law_figures : Fn := mkF 20 [0, 0, 0, 1, 1] none
  ((sSeq (sSet 5 (dLst (dCons (dTup (dCons (dConst (.int 0)) (dCons (dConst (.int 0)) (dCons (dConst (.str "never")) dNil)))) dNil)))
  (sSeq (sSet 6 (dComp (dSeqI (dUn gRev (dVar 0))) [8] (gtName 8) dYes (dTup (dCons (dConst (.str "do")) (dCons (dVar 8) (dCons (dConst (.int 0)) dNil))))))
  (sSeq (sWhile (dTru (dVar 6))
  (sSeq (sAsg (dPop 6) (gtTup 3 (gtCons (gtName 7) (gtCons (gtName 8) (gtCons (gtName 9) gtNil)))))
  (sSeq (sIf (dBool (dOp gEq (dVar 7) (dConst (.str "in"))))
  (sSeq (sApp 5 (dTup (dCons (dConst (.int 0)) (dCons (dConst (.int 0)) (dCons (dConst (.str "never")) dNil)))))
  (sSeq (sApp 3 (dOp gAdd (dConst (.str "in ")) (dCallB gStrOf (dCons (dVar 9) dNil))))
  sCont))
  sNil)
  (sSeq (sIf (dBool (dOp gEq (dVar 7) (dConst (.str "sums"))))
  (sSeq (sApp 3 (dOp gAdd (dConst (.str "sums ")) (dOp gJoin (dConst (.str " ")) (dComp (dSeqI (dCalm (dOp gIx (dVar 5) (dUn gNeg (dConst (.int 1)))))) [19] (gtName 19) dYes (dCallB gStrOf (dCons (dVar 19) dNil))))))
  sCont)
  sNil)
  (sSeq (sSet 10 (dCall [.s] F__law_inner (aS (dVar 8) aNil)))
  (sSeq (sIf (dAnd (dBool (dOp gEq (dVar 7) (dConst (.str "do")))) (dTru (dVar 10)))
  (sSeq (sApp 6 (dTup (dCons (dConst (.str "fold")) (dCons (dVar 8) (dCons (dVar 9) dNil)))))
  (sSeq (sFor (dSeqI (dUn gRev (dVar 10))) (gtName 11)
  (sSeq (sApp 6 (dTup (dCons (dConst (.str "sums")) (dCons (dConst .non) (dCons (dVar 9) dNil)))))
  (sSeq (sExt 6 (dComp (dSeqI (dUn gRev (dVar 11))) [16] (gtName 16) dYes (dTup (dCons (dConst (.str "do")) (dCons (dVar 16) (dCons (dOp gAdd (dVar 9) (dConst (.int 1))) dNil))))))
  (sApp 6 (dTup (dCons (dConst (.str "in")) (dCons (dConst .non) (dCons (dOp gAdd (dVar 9) (dConst (.int 1))) dNil))))))))
  sCont))
  sNil)
  (sSeq (sSet 12 (dSlO 5 (dPart (dOp gSub (dCalm (dCallB gLen (dCons (dVar 5) dNil))) (dCallB gLen (dCons (dVar 10) dNil)))) dNoPart))
  (sSeq (sSet 5 (dSlO 5 dNoPart (dPart (dOp gSub (dCalm (dCallB gLen (dCons (dVar 5) dNil))) (dCallB gLen (dCons (dVar 10) dNil))))))
  (sSeq (sAsg (dCall [.s, .s, .s, .s] F__law_one (aS (dVar 8) (aS (dVar 1) (aS (dVar 2) (aS (dVar 12) aNil))))) (gtTup 3 (gtCons (gtName 13) (gtCons (gtName 14) (gtCons (gtName 15) gtNil)))))
  (sSeq (sApp 4 (dTup (dCons (dVar 13) (dCons (dVar 14) (dCons (dVar 15) dNil)))))
  (sSeq (sApp 3 (dOp gAdd (dOp gAdd (dOp gAdd (dOp gAdd (dOp gAdd (dOp gAdd (dOp gIx (dVar 8) (dConst (.int 0))) (dConst (.str " gives "))) (dCallB gStrOf (dCons (dVar 13) dNil))) (dConst (.str " "))) (dCallB gStrOf (dCons (dVar 14) dNil))) (dConst (.str " "))) (dCallB gStrOf (dCons (dVar 15) dNil))))
  (sSeq (sAsg (dCalm (dOp gIx (dVar 5) (dUn gNeg (dConst (.int 1))))) (gtTup 3 (gtCons (gtName 16) (gtCons (gtName 17) (gtCons (gtName 18) gtNil)))))
  (sSeq (sSet 13 (dCall [.s, .s] F__law_more (aS (dVar 13) (aS (dCall [.s, .s] F__law_behind (aS (dConst (.int 0)) (aS (dVar 14) aNil))) aNil))))
  (sPut 5 (dTup (dCons (dIf (dBool (dOp gEq (dVar 17) (dConst (.str "never")))) (dVar 16) (dCall [.s, .s] F__law_more (aS (dVar 16) (aS (dCall [.s, .s] F__law_behind (aS (dVar 13) (aS (dVar 17) aNil))) aNil)))) (dCons (dCall [.s, .s] F__law_sum (aS (dVar 17) (aS (dVar 14) aNil))) (dCons (dCall [.s, .s] F__law_less (aS (dVar 18) (aS (dCall [.s, .s] F__law_sum (aS (dVar 17) (aS (dVar 15) aNil))) aNil))) dNil)))) (dUn gNeg (dConst (.int 1)))))))))))))))))
  (sSeq (sApp 3 (dOp gAdd (dConst (.str "sums ")) (dOp gJoin (dConst (.str " ")) (dComp (dSeqI (dCalm (dOp gIx (dVar 5) (dConst (.int 0))))) [19] (gtName 19) dYes (dCallB gStrOf (dCons (dVar 19) dNil))))))
  (sRet (dCalm (dOp gIx (dVar 5) (dConst (.int 0))))))))))
theorem sc__law_figures : FnScope ["body", "table", "purse", "lines", "gives", "sums", "todo", "word", "statement", "deep", "inner", "one", "own", "need", "through", "back", "more", "then", "behind", "figure"] ["body", "table", "purse", "lines", "gives"] (defScope (topS 33)) := ⟨rfl, rfl, rfl, by decide +kernel, rfl, by decide +kernel, by decide +kernel⟩
theorem ok__law_figures (T : Top K mg) {f : Addr} {fd : FuncData} (h2 : Fun K "_law_figures" "_law_figures" (topS 33) f fd) : FnOk P w K mg base CX0 3 f fd ["body", "table", "purse", "lines", "gives"] (spD K [0, 0, 0, 1, 1] none F__law_figures) :=
  fun_ok (lv := [0, 0, 0, 1, 1, 1, 1, 0, 0, 0, 0, 0, 0, 0, 0, 0, 0, 0, 0, 0]) h2 sc__law_figures rfl rfl fun cdv A outer s H H0 vs E M Z hr =>
    (dss_cons (ds_new 5 sc__law_figures.nd (df_lst (das_cons (de_tup (das_cons de_int (das_cons de_int (das_cons de_str das_nil (hq := hF)) (hq := hF)) (hq := hF))) das_nil (hq := hF))))
    (dss_cons (ds_lc 6 (own := [("statement", 8)]) rfl sc__law_figures.nd (sw_true rfl rfl rfl (by decide +kernel)) (di_seq (de_rev (de_var 0))) (blkOk_by (own := [("statement", 8)]) (N := ["body", "table", "purse", "lines", "gives", "sums", "todo", "word", "statement", "deep", "inner", "one", "own", "need", "through", "back", "more", "then", "behind", "figure"]) (sc := defScope (topS 33)) (by decide +kernel)) (fun _ _ _ _ _ => (dg_name 8 sc__law_figures.nd)) (fun _ _ _ _ _ => dts_nil) (fun _ _ _ _ _ => (de_tup (das_cons de_str (das_cons (de_var 8) (das_cons de_int das_nil (hq := hF)) (hq := hF)) (hq := hF)))))
    (dss_cons (ds_while PassesOwn.never (dt_q (dt_tru (b := true) (de_bor 6)))
    (dss_cons (ds_asg (de_pop 6) (dg_tup rfl (dgs_cons (dg_name 7 sc__law_figures.nd) (dgs_cons (dg_name 8 sc__law_figures.nd) (dgs_cons (dg_name 9 sc__law_figures.nd) dgs_nil)))))
    (dss_cons (ds_if (t_eq (de_var 7) de_str hF hr)
    (dss_cons (ds_app 5 (de_tup (das_cons de_int (das_cons de_int (das_cons de_str das_nil (hq := hF)) (hq := hF)) (hq := hF))))
    (dss_cons (ds_app 3 (e_add de_str (de_callTy call_str1 c_str T.b_str (by decide +kernel) (das_cons (de_var 9) das_nil (hq := hF))) hF))
    (dss_one ds_cont)))
    dss_nil)
    (dss_cons (ds_if (t_eq (de_var 7) de_str hF hr)
    (dss_cons (ds_app 3 (e_add de_str (de_join de_str (de_f (df_lc (own := [("figure", 19)]) rfl sc__law_figures.nd (di_seq (de_q (de_calm (e_ix (de_bor 5) (de_b (e_neg de_int)) hT)))) (blkOk_by (own := [("figure", 19)]) (N := ["body", "table", "purse", "lines", "gives", "sums", "todo", "word", "statement", "deep", "inner", "one", "own", "need", "through", "back", "more", "then", "behind", "figure"]) (sc := defScope (topS 33)) (by decide +kernel)) (fun _ _ _ _ _ => (dg_name 19 sc__law_figures.nd)) (fun _ _ _ _ _ => dts_nil) (fun _ _ _ _ _ => (de_callTy call_str1 c_str T.b_str (by decide +kernel) (das_cons (de_var 19) das_nil (hq := hF)))))) hF) hF))
    (dss_one ds_cont))
    dss_nil)
    (dss_cons (ds_set 10 sc__law_figures.nd (de_call (d__law_inner T) hr (by decide) (da_s (de_var 8) da_nil)))
    (dss_cons (ds_if (dw_dt (dw_and (t_eq (de_var 7) de_str hF hr) (dw_and1 (dt_tru (b := false) (de_var 10)))))
    (dss_cons (ds_app 6 (de_tup (das_cons de_str (das_cons (de_var 8) (das_cons (de_var 9) das_nil (hq := hF)) (hq := hF)) (hq := hF))))
    (dss_cons (ds_for PassesOwn.never rfl (di_seq (de_rev (de_var 10))) (dg_name 11 sc__law_figures.nd)
    (dss_cons (ds_app 6 (de_tup (das_cons de_str (das_cons de_non (das_cons (de_var 9) das_nil (hq := hF)) (hq := hF)) (hq := hF))))
    (dss_cons (ds_ext 6 (df_lc (own := [("more", 16)]) rfl sc__law_figures.nd (di_seq (de_rev (de_var 11))) (blkOk_by (own := [("more", 16)]) (N := ["body", "table", "purse", "lines", "gives", "sums", "todo", "word", "statement", "deep", "inner", "one", "own", "need", "through", "back", "more", "then", "behind", "figure"]) (sc := defScope (topS 33)) (by decide +kernel)) (fun _ _ _ _ _ => (dg_name 16 sc__law_figures.nd)) (fun _ _ _ _ _ => dts_nil) (fun _ _ _ _ _ => (de_tup (das_cons de_str (das_cons (de_var 16) (das_cons (e_add (de_var 9) de_int hF) das_nil (hq := hF)) (hq := hF)) (hq := hF))))))
    (dss_one (ds_app 6 (de_tup (das_cons de_str (das_cons de_non (das_cons (e_add (de_var 9) de_int hF) das_nil (hq := hF)) (hq := hF)) (hq := hF))))))))
    (dss_one ds_cont)))
    dss_nil)
    (dss_cons (ds_set 12 sc__law_figures.nd (de_f (df_slO 5 (do_some (b := false) (e_sub (de_q (de_calm (de_callB call_len c_len T.b_len (by decide +kernel) (das_cons (de_bor 5) das_nil (hq := hT))))) (de_callB call_len c_len T.b_len (by decide +kernel) (das_cons (de_var 10) das_nil (hq := hF))) hF)) do_none)))
    (dss_cons (ds_new 5 sc__law_figures.nd (df_slO 5 do_none (do_some (b := false) (e_sub (de_q (de_calm (de_callB call_len c_len T.b_len (by decide +kernel) (das_cons (de_bor 5) das_nil (hq := hT))))) (de_callB call_len c_len T.b_len (by decide +kernel) (das_cons (de_var 10) das_nil (hq := hF))) hF))))
    (dss_cons (ds_asg (de_call (d__law_one T) hr (by decide) (da_s (de_var 8) (da_s (de_var 1) (da_s (de_var 2) (da_s (de_var 12) da_nil))))) (dg_tup rfl (dgs_cons (dg_name 13 sc__law_figures.nd) (dgs_cons (dg_name 14 sc__law_figures.nd) (dgs_cons (dg_name 15 sc__law_figures.nd) dgs_nil)))))
    (dss_cons (ds_app 4 (de_tup (das_cons (de_var 13) (das_cons (de_var 14) (das_cons (de_var 15) das_nil (hq := hF)) (hq := hF)) (hq := hF))))
    (dss_cons (ds_app 3 (e_add (e_add (e_add (e_add (e_add (e_add (e_ix (de_var 8) de_int hF) de_str hF) (de_callTy call_str1 c_str T.b_str (by decide +kernel) (das_cons (de_var 13) das_nil (hq := hF))) hF) de_str hF) (de_callTy call_str1 c_str T.b_str (by decide +kernel) (das_cons (de_var 14) das_nil (hq := hF))) hF) de_str hF) (de_callTy call_str1 c_str T.b_str (by decide +kernel) (das_cons (de_var 15) das_nil (hq := hF))) hF))
    (dss_cons (ds_asg (de_q (de_calm (e_ix (de_bor 5) (de_b (e_neg de_int)) hT))) (dg_tup rfl (dgs_cons (dg_name 16 sc__law_figures.nd) (dgs_cons (dg_name 17 sc__law_figures.nd) (dgs_cons (dg_name 18 sc__law_figures.nd) dgs_nil)))))
    (dss_cons (ds_set 13 sc__law_figures.nd (de_call (d__law_more T) hr (by decide) (da_s (de_var 13) (da_s (de_call (d__law_behind T) hr (by decide) (da_s de_int (da_s (de_var 14) da_nil))) da_nil))))
    (dss_one (ds_put 5 (de_tup (das_cons (de_if (t_eq (de_var 17) de_str hF hr) (de_var 16) (de_call (d__law_more T) hr (by decide) (da_s (de_var 16) (da_s (de_call (d__law_behind T) hr (by decide) (da_s (de_var 13) (da_s (de_var 17) da_nil))) da_nil)))) (das_cons (de_call (d__law_sum T) hr (by decide) (da_s (de_var 17) (da_s (de_var 14) da_nil))) (das_cons (de_call (d__law_less T) hr (by decide) (da_s (de_var 18) (da_s (de_call (d__law_sum T) hr (by decide) (da_s (de_var 17) (da_s (de_var 15) da_nil))) da_nil))) das_nil (hq := hF)) (hq := hF)) (hq := hF))) (e_neg de_int))))))))))))))))
    (dss_cons (ds_app 3 (e_add de_str (de_join de_str (de_f (df_lc (own := [("figure", 19)]) rfl sc__law_figures.nd (di_seq (de_q (de_calm (e_ix (de_bor 5) (de_b de_int) hT)))) (blkOk_by (own := [("figure", 19)]) (N := ["body", "table", "purse", "lines", "gives", "sums", "todo", "word", "statement", "deep", "inner", "one", "own", "need", "through", "back", "more", "then", "behind", "figure"]) (sc := defScope (topS 33)) (by decide +kernel)) (fun _ _ _ _ _ => (dg_name 19 sc__law_figures.nd)) (fun _ _ _ _ _ => dts_nil) (fun _ _ _ _ _ => (de_callTy call_str1 c_str T.b_str (by decide +kernel) (das_cons (de_var 19) das_nil (hq := hF)))))) hF) hF))
    (dss_one (ds_ret (de_q (de_calm (e_ix (de_bor 5) (de_b de_int) hT)))))))))
theorem d__law_figures (T : Top K mg) : DFn P w K mg base 3 "_law_figures" [0, 0, 0, 1, 1] none F__law_figures := by
  obtain ⟨f, fd, h1, h2, h3⟩ := T.f__law_figures
  exact ⟨f, fd, ["body", "table", "purse", "lines", "gives"], h1, h2.kp, .all h3, ok__law_figures T h2⟩
noncomputable def F__law_pair : Fn := mkF 3 [1] none
  ((sSeq (sSet 1 (dOp gIx (dTup (dCons (dConst (.str "deep")) (dCons (dConst (.int 0)) (dCons (dCall [.io 0, .s] F__law_take (aIO 0 (aS (dConst (.int 9)) aNil))) (dCons (dCall [.io 0, .s] F__law_take (aIO 0 (aS (dConst (.int 9)) aNil))) (dCons (dOp gAdd (dOp gPow (dConst (.int 10)) (dConst (.int 40))) (dCall [.io 0, .s] F__law_take (aIO 0 (aS (dConst (.int 9)) aNil)))) dNil)))))) (dCall [.io 0, .s] F__law_take (aIO 0 (aS (dConst (.int 5)) aNil)))))
  (sSeq (sSet 2 (dOp gIx (dTup (dCons (dConst (.str "deep")) (dCons (dConst (.str "never")) (dCons (dConst (.int 0)) (dCons (dOp gSub (dCall [.io 0, .s] F__law_take (aIO 0 (aS (dConst (.int 9)) aNil))) (dConst (.int 4))) (dCons (dOp gSub (dCall [.io 0, .s] F__law_take (aIO 0 (aS (dConst (.int 9)) aNil))) (dConst (.int 4))) (dCons (dOp gSub (dUn gNeg (dOp gPow (dConst (.int 10)) (dConst (.int 40)))) (dCall [.io 0, .s] F__law_take (aIO 0 (aS (dConst (.int 9)) aNil)))) dNil))))))) (dCall [.io 0, .s] F__law_take (aIO 0 (aS (dConst (.int 6)) aNil)))))
  (sRet (dTup (dCons (dVar 1) (dCons (dVar 2) dNil)))))))
theorem sc__law_pair : FnScope ["pool", "need", "low"] ["pool"] (defScope (topS 34)) := ⟨rfl, rfl, rfl, by decide +kernel, rfl, by decide +kernel, by decide +kernel⟩
theorem ok__law_pair (T : Top K mg) {f : Addr} {fd : FuncData} (h2 : Fun K "_law_pair" "_law_pair" (topS 34) f fd) : FnOk P w K mg base CX0 2 f fd ["pool"] (spD K [1] none F__law_pair) :=
  fun_ok (lv := [1, 0, 0]) h2 sc__law_pair rfl rfl fun cdv A outer s H H0 vs E M Z hr =>
    (dss_cons (ds_set 1 sc__law_pair.nd (e_ix (de_tup (das_cons de_str (das_cons de_int (das_cons (de_call (d__law_take T) hr (by decide) (da_io 0 (da_s de_int da_nil))) (das_cons (de_call (d__law_take T) hr (by decide) (da_io 0 (da_s de_int da_nil))) (das_cons (e_add (e_pow de_int de_int hF) (de_call (d__law_take T) hr (by decide) (da_io 0 (da_s de_int da_nil))) hF) das_nil (hq := hF)) (hq := hF)) (hq := hF)) (hq := hF)) (hq := hF))) (de_call (d__law_take T) hr (by decide) (da_io 0 (da_s de_int da_nil))) hF))
    (dss_cons (ds_set 2 sc__law_pair.nd (e_ix (de_tup (das_cons de_str (das_cons de_str (das_cons de_int (das_cons (e_sub (de_call (d__law_take T) hr (by decide) (da_io 0 (da_s de_int da_nil))) de_int hF) (das_cons (e_sub (de_call (d__law_take T) hr (by decide) (da_io 0 (da_s de_int da_nil))) de_int hF) (das_cons (e_sub (e_neg (e_pow de_int de_int hF)) (de_call (d__law_take T) hr (by decide) (da_io 0 (da_s de_int da_nil))) hF) das_nil (hq := hF)) (hq := hF)) (hq := hF)) (hq := hF)) (hq := hF)) (hq := hF))) (de_call (d__law_take T) hr (by decide) (da_io 0 (da_s de_int da_nil))) hF))
    (dss_one (ds_ret (de_tup (das_cons (de_var 1) (das_cons (de_var 2) das_nil (hq := hF)) (hq := hF)))))))
theorem d__law_pair (T : Top K mg) : DFn P w K mg base 2 "_law_pair" [1] none F__law_pair := by
  obtain ⟨f, fd, h1, h2, h3⟩ := T.f__law_pair
  exact ⟨f, fd, ["pool"], h1, h2.kp, .all h3, ok__law_pair T h2⟩
noncomputable def F__law_table : Fn := mkF 4 [1, 0] none
  ((sRet (dCallB gTupOf (dCons (dComp (dSeqI (dOp gIx (dVar 1) (dConst (.int 1)))) [2] (gtName 2) dYes (dCallB gTupOf (dCons (dComp (dSeqI (dOp gIx (dVar 1) (dConst (.int 0)))) [3] (gtName 3) dYes (dCall [.io 0] F__law_pair (aIO 0 aNil))) dNil))) dNil))))
theorem sc__law_table : FnScope ["pool", "program", "name", "purse"] ["pool", "program"] (defScope (topS 35)) := ⟨rfl, rfl, rfl, by decide +kernel, rfl, by decide +kernel, by decide +kernel⟩
theorem ok__law_table (T : Top K mg) {f : Addr} {fd : FuncData} (h2 : Fun K "_law_table" "_law_table" (topS 35) f fd) : FnOk P w K mg base CX0 3 f fd ["pool", "program"] (spD K [1, 0] none F__law_table) :=
  fun_ok (lv := [1, 0, 0, 0]) h2 sc__law_table rfl rfl fun cdv A outer s H H0 vs E M Z hr =>
    (dss_one (ds_ret (de_callTy call_tuple_of c_tuple T.b_tuple (by decide +kernel) (das_cons (de_f (df_lc (own := [("name", 2)]) rfl sc__law_table.nd (di_seq (e_ix (de_var 1) de_int hF)) (blkOk_by (own := [("name", 2)]) (N := ["pool", "program", "name", "purse"]) (sc := defScope (topS 35)) (by decide +kernel)) (fun _ _ _ _ _ => (dg_name 2 sc__law_table.nd)) (fun _ _ _ _ _ => dts_nil) (fun _ _ _ _ _ => (de_callTy call_tuple_of c_tuple T.b_tuple (by decide +kernel) (das_cons (de_f (df_lc (own := [("purse", 3)]) rfl sc__law_table.nd (di_seq (e_ix (de_var 1) de_int hF)) (blkOk_by (own := [("purse", 3)]) (by rfl)) (fun _ _ _ _ _ => (dg_name 3 sc__law_table.nd)) (fun _ _ _ _ _ => dts_nil) (fun _ _ _ _ _ => (de_call (d__law_pair T) hr (by decide) (da_io 0 da_nil))))) das_nil (hq := hF)))))) das_nil (hq := hF)))))
theorem d__law_table (T : Top K mg) : DFn P w K mg base 3 "_law_table" [1, 0] none F__law_table := by
  obtain ⟨f, fd, h1, h2, h3⟩ := T.f__law_table
  exact ⟨f, fd, ["pool", "program"], h1, h2.kp, .all h3, ok__law_table T h2⟩
noncomputable def F__law_change : Fn := mkF 7 [1, 0, 0] none
  ((sSeq (sSet 3 (dCall [.io 0, .s] F__law_take (aIO 0 (aS (dConst (.int 5)) aNil))))
  (sSeq (sSet 4 (dComp (dRng1 (dVar 1)) [5] (gtName 5) dYes (dOp gSub (dCall [.io 0, .s] F__law_take (aIO 0 (aS (dOp gAdd (dOp gMul (dConst (.int 2)) (dVar 2)) (dConst (.int 1))) aNil))) (dVar 2))))
  (sSeq (sIf (dBool (dOp gEq (dVar 3) (dConst (.int 0))))
  (sSet 4 (dComp (dSeqI (dVar 4)) [6] (gtName 6) dYes (dUn gNeg (dCallB gAbs (dCons (dVar 6) dNil)))))
  sNil)
  (sSeq (sIf (dBool (dOp gEq (dVar 3) (dConst (.int 1))))
  (sSet 4 (dComp (dSeqI (dVar 4)) [6] (gtName 6) dYes (dCallB gAbs (dCons (dVar 6) dNil))))
  sNil)
  (sRet (dCallB gTupOf (dCons (dComp (dSeqI (dVar 4)) [6] (gtName 6) dYes (dIf (dAnd (dBool (dOp gEq (dVar 3) (dConst (.int 2)))) (dBool (dOp gEq (dCall [.io 0, .s] F__law_take (aIO 0 (aS (dConst (.int 2)) aNil))) (dConst (.int 0))))) (dConst (.int 0)) (dVar 6))) dNil))))))))
theorem sc__law_change : FnScope ["pool", "purses", "most", "way", "out", "k", "one"] ["pool", "purses", "most"] (defScope (topS 36)) := ⟨rfl, rfl, rfl, by decide +kernel, rfl, by decide +kernel, by decide +kernel⟩
theorem ok__law_change (T : Top K mg) {f : Addr} {fd : FuncData} (h2 : Fun K "_law_change" "_law_change" (topS 36) f fd) : FnOk P w K mg base CX0 2 f fd ["pool", "purses", "most"] (spD K [1, 0, 0] none F__law_change) :=
  fun_ok (lv := [1, 0, 0, 0, 0, 0, 0]) h2 sc__law_change rfl rfl fun cdv A outer s H H0 vs E M Z hr =>
    (dss_cons (ds_set 3 sc__law_change.nd (de_call (d__law_take T) hr (by decide) (da_io 0 (da_s de_int da_nil))))
    (dss_cons (ds_lc0 4 (own := [("k", 5)]) rfl sc__law_change.nd (sw_true rfl rfl rfl (by decide +kernel)) (di_rng1 T.b_range (de_var 1)) (blkOk_by (own := [("k", 5)]) (N := ["pool", "purses", "most", "way", "out", "k", "one"]) (sc := defScope (topS 36)) (by decide +kernel)) (fun _ _ _ _ _ => (dg_name 5 sc__law_change.nd)) (fun _ _ _ _ _ => dts_nil) (fun _ _ _ _ _ => (e_sub (de_call (d__law_take T) hr (by decide) (da_io 0 (da_s (e_add (e_mul de_int (de_var 2) hF) de_int hF) da_nil))) (de_var 2) hF)))
    (dss_cons (ds_if (t_eq (de_var 3) de_int hF hr)
    (dss_one (ds_lc0 4 (own := [("one", 6)]) rfl sc__law_change.nd (sw_true rfl rfl rfl (by decide +kernel)) (di_seq (de_var 4)) (blkOk_by (own := [("one", 6)]) (N := ["pool", "purses", "most", "way", "out", "k", "one"]) (sc := defScope (topS 36)) (by decide +kernel)) (fun _ _ _ _ _ => (dg_name 6 sc__law_change.nd)) (fun _ _ _ _ _ => dts_nil) (fun _ _ _ _ _ => (e_neg (de_callB call_abs c_abs T.b_abs (by decide +kernel) (das_cons (de_var 6) das_nil (hq := hF)))))))
    dss_nil)
    (dss_cons (ds_if (t_eq (de_var 3) de_int hF hr)
    (dss_one (ds_lc0 4 (own := [("one", 6)]) rfl sc__law_change.nd (sw_true rfl rfl rfl (by decide +kernel)) (di_seq (de_var 4)) (blkOk_by (own := [("one", 6)]) (N := ["pool", "purses", "most", "way", "out", "k", "one"]) (sc := defScope (topS 36)) (by decide +kernel)) (fun _ _ _ _ _ => (dg_name 6 sc__law_change.nd)) (fun _ _ _ _ _ => dts_nil) (fun _ _ _ _ _ => (de_callB call_abs c_abs T.b_abs (by decide +kernel) (das_cons (de_var 6) das_nil (hq := hF))))))
    dss_nil)
    (dss_one (ds_ret (de_callTy call_tuple_of c_tuple T.b_tuple (by decide +kernel) (das_cons (de_f (df_lc (own := [("one", 6)]) rfl sc__law_change.nd (di_seq (de_var 4)) (blkOk_by (own := [("one", 6)]) (N := ["pool", "purses", "most", "way", "out", "k", "one"]) (sc := defScope (topS 36)) (by decide +kernel)) (fun _ _ _ _ _ => (dg_name 6 sc__law_change.nd)) (fun _ _ _ _ _ => dts_nil) (fun _ _ _ _ _ => (de_if (dw_dt (dw_and (t_eq (de_var 3) de_int hF hr) (dw_and1 (t_eq (de_call (d__law_take T) hr (by decide) (da_io 0 (da_s de_int da_nil))) de_int hF hr)))) de_int (de_var 6))))) das_nil (hq := hF)))))))))
theorem d__law_change (T : Top K mg) : DFn P w K mg base 2 "_law_change" [1, 0, 0] none F__law_change := by
  obtain ⟨f, fd, h1, h2, h3⟩ := T.f__law_change
  exact ⟨f, fd, ["pool", "purses", "most"], h1, h2.kp, .all h3, ok__law_change T h2⟩
noncomputable def F__law_body : Fn := mkF 12 [1, 0, 0, 0, 0] none
  ((sSeq (sSet 5 (dLst (dCons (dLst (dConsN (dConst (.str "")) (dConsN (dConst (.int 0)) (dCons (dLst dNil) (dCons (dLst dNil) dNil))))) dNil)))
  (sSeq (sSet 6 (dVar 3))
  (sWhile (dTru (dConst (.bl true)))
  (sUnp 5 [(7, false), (8, false), (9, true), (10, true)] (plIx 5 (plName 5) (dUn gNeg (dConst (.int 1))))
  (sSeq (sSet 11 (dIf (dBool (dOp gGt (dVar 6) (dConst (.int 0)))) (dCall [.io 0, .s] F__law_take (aIO 0 (aS (dConst (.int 13)) aNil))) (dConst (.int 12))))
  (sSeq (sAug 6 gSub (dConst (.int 1)))
  (sIf (dBool (dOp gLt (dVar 11) (dConst (.int 4))))
  (sApp 10 (dTup (dCons (dConst (.str "change")) (dCons (dCall [.io 0, .s, .s] F__law_change (aIO 0 (aS (dVar 1) (aS (dConst (.int 3)) aNil)))) dNil))))
  (sIf (dBool (dOp gLt (dVar 11) (dConst (.int 6))))
  (sApp 10 (dTup (dCons (dConst (.str "call")) (dCons (dCall [.io 0, .s] F__law_take (aIO 0 (aS (dVar 2) aNil))) dNil))))
  (sIf (dBool (dOp gEq (dVar 11) (dConst (.int 6))))
  (sApp 10 (dIf (dBool (dOp gGt (dCall [.io 0, .s] F__law_take (aIO 0 (aS (dConst (.int 3)) aNil))) (dConst (.int 0)))) (dTup (dCons (dConst (.str "back")) dNil)) (dTup (dCons (dConst (.str "stop")) dNil))))
  (sIf (dAnd (dBool (dOp gLt (dVar 11) (dConst (.int 11)))) (dBool (dOp gLt (dCalm (dCallB gLen (dCons (dVar 5) dNil))) (dVar 4))))
  (sAppP 5 (plName 5) (dLst (dConsN (dOp gIx (dTup (dCons (dConst (.str "either")) (dCons (dConst (.str "loop")) (dCons (dConst (.str "repeat")) (dCons (dConst (.str "upto")) dNil))))) (dOp gSub (dVar 11) (dConst (.int 7)))) (dConsN (dOp gIx (dTup (dCons (dConst (.int 0)) (dCons (dConst (.int 1)) (dCons (dConst (.int 2)) (dCons (dConst (.int 3)) (dCons (dConst (.int 5)) (dCons (dConst (.int 1000)) dNil))))))) (dCall [.io 0, .s] F__law_take (aIO 0 (aS (dConst (.int 6)) aNil)))) (dCons (dLst dNil) (dCons (dLst dNil) dNil))))))
  (sIf (dAnd (dBool (dOp gEq (dVar 7) (dConst (.str "either")))) (dOr (dBool (dOp gEq (dCalm (dCallB gLen (dCons (dVar 9) dNil))) (dConst (.int 0)))) (dAnd (dBool (dOp gEq (dVar 11) (dConst (.int 11)))) (dBool (dOp gLt (dCalm (dCallB gLen (dCons (dVar 9) dNil))) (dConst (.int 3)))))))
  (sPutP 5 (plName 5) (dUn gNeg (dConst (.int 1))) (dLst (dConsN (dVar 7) (dConsN (dVar 8) (dCons (dCatO 9 (dLst (dCons (dCalm (dCallB gTupOf (dCons (dVar 10) dNil))) dNil))) (dCons (dLst dNil) dNil))))))
  (sSeq (sDrop (dPopP 5 (plName 5)))
  (sSeq (sIf (dNot (dTru (dVar 5)))
  (sRet (dCalm (dCallB gTupOf (dCons (dVar 10) dNil))))
  sNil)
  (sIf (dBool (dOp gEq (dVar 7) (dConst (.str "either"))))
  (sAppP 5 (plIx 5 (plIx 5 (plName 5) (dUn gNeg (dConst (.int 1)))) (dConst (.int 3))) (dTup (dCons (dConst (.str "either")) (dCons (dCallB gTupOf (dCons (dCatO 9 (dLst (dCons (dCalm (dCallB gTupOf (dCons (dVar 10) dNil))) dNil))) dNil)) dNil))))
  (sAppP 5 (plIx 5 (plIx 5 (plName 5) (dUn gNeg (dConst (.int 1)))) (dConst (.int 3))) (dIf (dBool (dOp gEq (dVar 7) (dConst (.str "loop")))) (dTup (dCons (dVar 7) (dCons (dCalm (dCallB gTupOf (dCons (dVar 10) dNil))) dNil))) (dTup (dCons (dVar 7) (dCons (dVar 8) (dCons (dCalm (dCallB gTupOf (dCons (dVar 10) dNil))) dNil)))))))))))))))))))))
theorem sc__law_body : FnScope ["pool", "purses", "procedures", "most", "deep", "frames", "left", "word", "many", "bodies", "here", "way"] ["pool", "purses", "procedures", "most", "deep"] (defScope (topS 37)) := ⟨rfl, rfl, rfl, by decide +kernel, rfl, by decide +kernel, by decide +kernel⟩
theorem ok__law_body (T : Top K mg) {f : Addr} {fd : FuncData} (h2 : Fun K "_law_body" "_law_body" (topS 37) f fd) : FnOk P w K mg base CX0 3 f fd ["pool", "purses", "procedures", "most", "deep"] (spD K [1, 0, 0, 0, 0] none F__law_body) :=
  fun_ok (lv := [1, 0, 0, 0, 0, 3, 0, 0, 0, 1, 1, 0]) h2 sc__law_body rfl rfl fun cdv A outer s H H0 vs E M Z hr =>
    (dss_cons (ds_new 5 sc__law_body.nd (df_lstO (dis_f (df_lstO (dis_n de_str (dis_n de_int (dis_f (df_lst das_nil) (dis_f (df_lst das_nil) dis_nil))))) dis_nil)))
    (dss_cons (ds_set 6 sc__law_body.nd (de_var 3))
    (dss_one (ds_while PassesOwn.never (dt_tru (b := false) de_bl)
    (dss_unp (m := 0) [(7, false), (8, false), (9, true), (10, true)] rfl (dpl_ix (m := 1) (dpl_name 5) (e_neg de_int)) (fun _ =>
    (dss_cons (ds_set 11 sc__law_body.nd (de_if (t_gt (de_var 6) de_int hF hr) (de_call (d__law_take T) hr (by decide) (da_io 0 (da_s de_int da_nil))) de_int))
    (dss_cons (ds_aug 6 sc__law_body.nd iop_sub d_sub de_int)
    (dss_one (ds_if (t_lt (de_var 11) de_int hF hr)
    (dss_one (ds_app 10 (de_tup (das_cons de_str (das_cons (de_call (d__law_change T) hr (by decide) (da_io 0 (da_s (de_var 1) (da_s de_int da_nil)))) das_nil (hq := hF)) (hq := hF)))))
    (dss_one (ds_if (t_lt (de_var 11) de_int hF hr)
    (dss_one (ds_app 10 (de_tup (das_cons de_str (das_cons (de_call (d__law_take T) hr (by decide) (da_io 0 (da_s (de_var 2) da_nil))) das_nil (hq := hF)) (hq := hF)))))
    (dss_one (ds_if (t_eq (de_var 11) de_int hF hr)
    (dss_one (ds_app 10 (de_if (t_gt (de_call (d__law_take T) hr (by decide) (da_io 0 (da_s de_int da_nil))) de_int hF hr) (de_tup (das_cons de_str das_nil (hq := hF))) (de_tup (das_cons de_str das_nil (hq := hF))))))
    (dss_one (ds_if (dw_dt (dw_and (t_lt (de_var 11) de_int hF hr) (dw_and1 (t_lt (de_q (de_calm (de_callB call_len c_len T.b_len (by decide +kernel) (das_cons (de_bor 5) das_nil (hq := hT))))) (de_var 4) hF hr))))
    (dss_one (ds_appPO (n := 1) (dpl_name 5) (df_lstO (dis_n (e_ix (de_tup (das_cons de_str (das_cons de_str (das_cons de_str (das_cons de_str das_nil (hq := hF)) (hq := hF)) (hq := hF)) (hq := hF))) (e_sub (de_var 11) de_int hF) hF) (dis_n (e_ix (de_tup (das_cons de_int (das_cons de_int (das_cons de_int (das_cons de_int (das_cons de_int (das_cons de_int das_nil (hq := hF)) (hq := hF)) (hq := hF)) (hq := hF)) (hq := hF)) (hq := hF))) (de_call (d__law_take T) hr (by decide) (da_io 0 (da_s de_int da_nil))) hF) (dis_f (df_lst das_nil) (dis_f (df_lst das_nil) dis_nil)))))))
    (dss_one (ds_if (dw_dt (dw_and (t_eq (de_var 7) de_str hF hr) (dw_and1 (dw_dt (dw_or (t_eq (de_q (de_calm (de_callB call_len c_len T.b_len (by decide +kernel) (das_cons (de_bor 9) das_nil (hq := hT))))) de_int hF hr) (dw_or1 (dw_dt (dw_and (t_eq (de_var 11) de_int hF hr) (dw_and1 (t_lt (de_q (de_calm (de_callB call_len c_len T.b_len (by decide +kernel) (das_cons (de_bor 9) das_nil (hq := hT))))) de_int hF hr))))))))))
    (dss_one (ds_putPO (n := 1) (df_lstO (dis_n (de_var 7) (dis_n (de_var 8) (dis_f (df_catO 9 (de_f (df_lst (das_cons (de_q (de_calm (de_callTy call_tuple_of c_tuple T.b_tuple (by decide +kernel) (das_cons (de_bor 10) das_nil (hq := hT))))) das_nil (hq := hF))))) (dis_f (df_lst das_nil) dis_nil))))) (dpl_name 5) (e_neg de_int)))
    (dss_cons (ds_dropF (n := 1) (df_popP (dpl_name 5)))
    (dss_cons (ds_if (dt_not (dt_q (dt_tru (b := true) (de_bor 5))))
    (dss_one (ds_ret (de_q (de_calm (de_callTy call_tuple_of c_tuple T.b_tuple (by decide +kernel) (das_cons (de_bor 10) das_nil (hq := hT)))))))
    dss_nil)
    (dss_one (ds_if (t_eq (de_var 7) de_str hF hr)
    (dss_one (ds_appP (dpl_ix (m := 0) (dpl_ix (m := 1) (dpl_name 5) (e_neg de_int)) de_int) (de_tup (das_cons de_str (das_cons (de_callTy call_tuple_of c_tuple T.b_tuple (by decide +kernel) (das_cons (de_f (df_catO 9 (de_f (df_lst (das_cons (de_q (de_calm (de_callTy call_tuple_of c_tuple T.b_tuple (by decide +kernel) (das_cons (de_bor 10) das_nil (hq := hT))))) das_nil (hq := hF)))))) das_nil (hq := hF))) das_nil (hq := hF)) (hq := hF)))))
    (dss_one (ds_appP (dpl_ix (m := 0) (dpl_ix (m := 1) (dpl_name 5) (e_neg de_int)) de_int) (de_if (t_eq (de_var 7) de_str hF hr) (de_tup (das_cons (de_var 7) (das_cons (de_q (de_calm (de_callTy call_tuple_of c_tuple T.b_tuple (by decide +kernel) (das_cons (de_bor 10) das_nil (hq := hT))))) das_nil (hq := hF)) (hq := hF))) (de_tup (das_cons (de_var 7) (das_cons (de_var 8) (das_cons (de_q (de_calm (de_callTy call_tuple_of c_tuple T.b_tuple (by decide +kernel) (das_cons (de_bor 10) das_nil (hq := hT))))) das_nil (hq := hF)) (hq := hF)) (hq := hF))))))))))))))))))))))) (pgs_raw 7 sc__law_body.nd (pgs_raw 8 sc__law_body.nd (pgs_raw 9 sc__law_body.nd (pgs_raw 10 sc__law_body.nd pgs_raw0)))))))))
theorem d__law_body (T : Top K mg) : DFn P w K mg base 3 "_law_body" [1, 0, 0, 0, 0] none F__law_body := by
  obtain ⟨f, fd, h1, h2, h3⟩ := T.f__law_body
  exact ⟨f, fd, ["pool", "purses", "procedures", "most", "deep"], h1, h2.kp, .all h3, ok__law_body T h2⟩
noncomputable def F__law_program : Fn := mkF 9 [1, 0, 0, 0] none
  ((sSeq (sSet 4 (dCallB gTupOf (dCons (dSl gCutL (dCall [.io 0, .s] F__law_mixed (aIO 0 (aS (dLst (dCons (dConst (.str "a")) (dCons (dConst (.str "b")) (dCons (dConst (.str "coin")) (dCons (dConst (.str "gas9")) (dCons (dConst (.str "pay")) dNil)))))) aNil))) dNoPart (dPart (dOp gAdd (dConst (.int 1)) (dCall [.io 0, .s] F__law_take (aIO 0 (aS (dConst (.int 3)) aNil)))))) dNil)))
  (sSeq (sSet 5 (dOp gAdd (dConst (.int 1)) (dCall [.io 0, .s] F__law_take (aIO 0 (aS (dVar 1) aNil)))))
  (sSeq (sSet 6 (dCall [.io 0, .s] F__law_mixed (aIO 0 (aS (dOp gCat (dLst (dCons (dConst (.str "main")) dNil)) (dSl gCutL (dCall [.io 0, .s] F__law_mixed (aIO 0 (aS (dLst (dCons (dConst (.str "f")) (dCons (dConst (.str "g")) (dCons (dConst (.str "main2")) (dCons (dConst (.str "loop")) (dCons (dConst (.str "h1")) (dCons (dConst (.str "buy")) (dCons (dConst (.str "z")) (dCons (dConst (.str "up")) (dCons (dConst (.str "q")) (dCons (dConst (.str "r")) (dCons (dConst (.str "s")) dNil)))))))))))) aNil))) dNoPart (dPart (dOp gSub (dVar 5) (dConst (.int 1)))))) aNil))))
  (sSeq (sSet 7 (dCallB gTupOf (dCons (dComp (dSeqI (dVar 6)) [8] (gtName 8) dYes (dCall [.io 0, .s, .s, .s, .s] F__law_body (aIO 0 (aS (dCallB gLen (dCons (dVar 4) dNil)) (aS (dVar 5) (aS (dOp gAdd (dConst (.int 1)) (dCall [.io 0, .s] F__law_take (aIO 0 (aS (dVar 2) aNil)))) (aS (dVar 3) aNil))))))) dNil)))
  (sRet (dTup (dCons (dVar 4) (dCons (dCallB gTupOf (dCons (dVar 6) dNil)) (dCons (dVar 7) dNil))))))))))
theorem sc__law_program : FnScope ["pool", "most", "size", "deep", "purses", "many", "names", "bodies", "name"] ["pool", "most", "size", "deep"] (defScope (topS 38)) := ⟨rfl, rfl, rfl, by decide +kernel, rfl, by decide +kernel, by decide +kernel⟩
theorem ok__law_program (T : Top K mg) {f : Addr} {fd : FuncData} (h2 : Fun K "_law_program" "_law_program" (topS 38) f fd) : FnOk P w K mg base CX0 4 f fd ["pool", "most", "size", "deep"] (spD K [1, 0, 0, 0] none F__law_program) :=
  fun_ok (lv := [1, 0, 0, 0, 0, 0, 0, 0, 0]) h2 sc__law_program rfl rfl fun cdv A outer s H H0 vs E M Z hr =>
    (dss_cons (ds_set 4 sc__law_program.nd (de_callTy call_tuple_of c_tuple T.b_tuple (by decide +kernel) (das_cons (de_f (df_sl (de_f (df_call (d__law_mixed T) hr (by decide) (da_io 0 (da_s (de_f (df_lst (das_cons de_str (das_cons de_str (das_cons de_str (das_cons de_str (das_cons de_str das_nil (hq := hF)) (hq := hF)) (hq := hF)) (hq := hF)) (hq := hF)))) da_nil)))) do_none (do_some (b := false) (e_add de_int (de_call (d__law_take T) hr (by decide) (da_io 0 (da_s de_int da_nil))) hF)))) das_nil (hq := hF))))
    (dss_cons (ds_set 5 sc__law_program.nd (e_add de_int (de_call (d__law_take T) hr (by decide) (da_io 0 (da_s (de_var 1) da_nil))) hF))
    (dss_cons (ds_set 6 sc__law_program.nd (de_f (df_call (d__law_mixed T) hr (by decide) (da_io 0 (da_s (de_f (df_cat (de_f (df_lst (das_cons de_str das_nil (hq := hF)))) (de_f (df_sl (de_f (df_call (d__law_mixed T) hr (by decide) (da_io 0 (da_s (de_f (df_lst (das_cons de_str (das_cons de_str (das_cons de_str (das_cons de_str (das_cons de_str (das_cons de_str (das_cons de_str (das_cons de_str (das_cons de_str (das_cons de_str (das_cons de_str das_nil (hq := hF)) (hq := hF)) (hq := hF)) (hq := hF)) (hq := hF)) (hq := hF)) (hq := hF)) (hq := hF)) (hq := hF)) (hq := hF)) (hq := hF)))) da_nil)))) do_none (do_some (b := false) (e_sub (de_var 5) de_int hF)))))) da_nil)))))
    (dss_cons (ds_set 7 sc__law_program.nd (de_callTy call_tuple_of c_tuple T.b_tuple (by decide +kernel) (das_cons (de_f (df_lc (own := [("name", 8)]) rfl sc__law_program.nd (di_seq (de_var 6)) (blkOk_by (own := [("name", 8)]) (N := ["pool", "most", "size", "deep", "purses", "many", "names", "bodies", "name"]) (sc := defScope (topS 38)) (by decide +kernel)) (fun _ _ _ _ _ => (dg_name 8 sc__law_program.nd)) (fun _ _ _ _ _ => dts_nil) (fun _ _ _ _ _ => (de_call (d__law_body T) hr (by decide) (da_io 0 (da_s (de_callB call_len c_len T.b_len (by decide +kernel) (das_cons (de_var 4) das_nil (hq := hF))) (da_s (de_var 5) (da_s (e_add de_int (de_call (d__law_take T) hr (by decide) (da_io 0 (da_s (de_var 2) da_nil))) hF) (da_s (de_var 3) da_nil))))))))) das_nil (hq := hF))))
    (dss_one (ds_ret (de_tup (das_cons (de_var 4) (das_cons (de_callTy call_tuple_of c_tuple T.b_tuple (by decide +kernel) (das_cons (de_var 6) das_nil (hq := hF))) (das_cons (de_var 7) das_nil (hq := hF)) (hq := hF)) (hq := hF)))))))))
theorem d__law_program (T : Top K mg) : DFn P w K mg base 4 "_law_program" [1, 0, 0, 0] none F__law_program := by
  obtain ⟨f, fd, h1, h2, h3⟩ := T.f__law_program
  exact ⟨f, fd, ["pool", "most", "size", "deep"], h1, h2.kp, .all h3, ok__law_program T h2⟩
noncomputable def F__law_same : Fn := mkF 6 [0, 0] none
  ((sSeq (sSet 2 (dLst (dCons (dTup (dCons (dVar 0) (dCons (dVar 1) dNil))) dNil)))
  (sSeq (sWhile (dTru (dVar 2))
  (sSeq (sAsg (dPop 2) (gtTup 2 (gtCons (gtName 3) (gtCons (gtName 4) gtNil))))
  (sIf (dOr (dTru (dCallB gIsi (dCons (dVar 4) (dCons (dConst (.ty "tuple")) dNil)))) (dTru (dCallB gIsi (dCons (dVar 4) (dCons (dConst (.ty "list")) dNil)))))
  (sSeq (sIf (dOr (dBool (dOp gNe (dCallB gIsi (dCons (dVar 4) (dCons (dConst (.ty "list")) dNil))) (dCallB gIsi (dCons (dVar 3) (dCons (dConst (.ty "list")) dNil))))) (dBool (dOp gNe (dCallB gIsi (dCons (dVar 4) (dCons (dConst (.ty "tuple")) dNil))) (dCallB gIsi (dCons (dVar 3) (dCons (dConst (.ty "tuple")) dNil))))))
  (sRet (dConst (.bl false)))
  sNil)
  (sSeq (sIf (dBool (dOp gNe (dCallB gLen (dCons (dVar 3) dNil)) (dCallB gLen (dCons (dVar 4) dNil))))
  (sRet (dConst (.bl false)))
  sNil)
  (sFor (dZipT (dCons (dVar 3) (dCons (dVar 4) dNil))) (gtName 5)
  (sApp 2 (dVar 5)))))
  (sIf (dTru (dCallB gIsi (dCons (dVar 4) (dCons (dConst (.ty "str")) dNil))))
  (sIf (dOr (dNot (dTru (dCallB gIsi (dCons (dVar 3) (dCons (dConst (.ty "str")) dNil))))) (dBool (dOp gNe (dVar 3) (dVar 4))))
  (sRet (dConst (.bl false)))
  sNil)
  (sIf (dBool (dOp gIsN (dVar 4) (dConst .non)))
  (sIf (dBool (dOp gNotN (dVar 3) (dConst .non)))
  (sRet (dConst (.bl false)))
  sNil)
  (sIf (dOr (dTru (dCallB gIsi (dCons (dVar 3) (dCons (dConst (.ty "bool")) dNil)))) (dTru (dCallB gIsi (dCons (dVar 4) (dCons (dConst (.ty "bool")) dNil)))))
  (sIf (dOr (dNot (dTru (dCallB gIsi (dCons (dVar 3) (dCons (dConst (.ty "bool")) dNil))))) (dOr (dNot (dTru (dCallB gIsi (dCons (dVar 4) (dCons (dConst (.ty "bool")) dNil))))) (dBool (dOp gNe (dVar 3) (dVar 4)))))
  (sRet (dConst (.bl false)))
  sNil)
  (sIf (dOr (dNot (dTru (dCallB gIsi (dCons (dVar 3) (dCons (dConst (.ty "int")) dNil))))) (dBool (dOp gNe (dVar 3) (dVar 4))))
  (sRet (dConst (.bl false)))
  sNil)))))))
  (sRet (dConst (.bl true))))))
theorem sc__law_same : FnScope ["told", "due", "rows", "one", "other", "pair"] ["told", "due"] (defScope (topS 39)) := ⟨rfl, rfl, rfl, by decide +kernel, rfl, by decide +kernel, by decide +kernel⟩
theorem ok__law_same (T : Top K mg) {f : Addr} {fd : FuncData} (h2 : Fun K "_law_same" "_law_same" (topS 39) f fd) : FnOk P w K mg base CX0 1 f fd ["told", "due"] (spD K [0, 0] none F__law_same) :=
  fun_ok (lv := [0, 0, 1, 0, 0, 0]) h2 sc__law_same rfl rfl fun cdv A outer s H H0 vs E M Z hr =>
    (dss_cons (ds_new 2 sc__law_same.nd (df_lst (das_cons (de_tup (das_cons (de_var 0) (das_cons (de_var 1) das_nil (hq := hF)) (hq := hF))) das_nil (hq := hF))))
    (dss_cons (ds_while PassesOwn.never (dt_q (dt_tru (b := true) (de_bor 2)))
    (dss_cons (ds_asg (de_pop 2) (dg_tup rfl (dgs_cons (dg_name 3 sc__law_same.nd) (dgs_cons (dg_name 4 sc__law_same.nd) dgs_nil))))
    (dss_one (ds_if (dw_dt (dw_or (dt_tru (b := false) (de_callB c_isi_o c_isi T.b_isinstance (by decide +kernel) (das_cons (de_var 4) (das_cons (de_tyn T.b_tuple (by decide +kernel)) das_nil (hq := hF)) (hq := hF)))) (dw_or1 (dt_tru (b := false) (de_callB c_isi_o c_isi T.b_isinstance (by decide +kernel) (das_cons (de_var 4) (das_cons (de_tyn T.b_list (by decide +kernel)) das_nil (hq := hF)) (hq := hF)))))))
    (dss_cons (ds_if (dw_dt (dw_or (t_ne (de_callB c_isi_o c_isi T.b_isinstance (by decide +kernel) (das_cons (de_var 4) (das_cons (de_tyn T.b_list (by decide +kernel)) das_nil (hq := hF)) (hq := hF))) (de_callB c_isi_o c_isi T.b_isinstance (by decide +kernel) (das_cons (de_var 3) (das_cons (de_tyn T.b_list (by decide +kernel)) das_nil (hq := hF)) (hq := hF))) hF hr) (dw_or1 (t_ne (de_callB c_isi_o c_isi T.b_isinstance (by decide +kernel) (das_cons (de_var 4) (das_cons (de_tyn T.b_tuple (by decide +kernel)) das_nil (hq := hF)) (hq := hF))) (de_callB c_isi_o c_isi T.b_isinstance (by decide +kernel) (das_cons (de_var 3) (das_cons (de_tyn T.b_tuple (by decide +kernel)) das_nil (hq := hF)) (hq := hF))) hF hr))))
    (dss_one (ds_ret de_bl))
    dss_nil)
    (dss_cons (ds_if (t_ne (de_callB call_len c_len T.b_len (by decide +kernel) (das_cons (de_var 3) das_nil (hq := hF))) (de_callB call_len c_len T.b_len (by decide +kernel) (das_cons (de_var 4) das_nil (hq := hF))) hF hr)
    (dss_one (ds_ret de_bl))
    dss_nil)
    (dss_one (ds_for PassesOwn.never rfl (di_zipN T.b_zip (das_cons (de_var 3) (das_cons (de_var 4) das_nil (hq := hF)) (hq := hF))) (dg_name 5 sc__law_same.nd)
    (dss_one (ds_app 2 (de_var 5)))))))
    (dss_one (ds_if (dt_tru (b := false) (de_callB c_isi_o c_isi T.b_isinstance (by decide +kernel) (das_cons (de_var 4) (das_cons (de_tyn T.b_str (by decide +kernel)) das_nil (hq := hF)) (hq := hF))))
    (dss_one (ds_if (dw_dt (dw_or (dt_not (dt_tru (b := false) (de_callB c_isi_o c_isi T.b_isinstance (by decide +kernel) (das_cons (de_var 3) (das_cons (de_tyn T.b_str (by decide +kernel)) das_nil (hq := hF)) (hq := hF))))) (dw_or1 (t_ne (de_var 3) (de_var 4) hF hr))))
    (dss_one (ds_ret de_bl))
    dss_nil))
    (dss_one (ds_if (t_is (de_var 4) de_non hF)
    (dss_one (ds_if (t_isnot (de_var 3) de_non hF)
    (dss_one (ds_ret de_bl))
    dss_nil))
    (dss_one (ds_if (dw_dt (dw_or (dt_tru (b := false) (de_callB c_isi_o c_isi T.b_isinstance (by decide +kernel) (das_cons (de_var 3) (das_cons (de_tyn T.b_bool (by decide +kernel)) das_nil (hq := hF)) (hq := hF)))) (dw_or1 (dt_tru (b := false) (de_callB c_isi_o c_isi T.b_isinstance (by decide +kernel) (das_cons (de_var 4) (das_cons (de_tyn T.b_bool (by decide +kernel)) das_nil (hq := hF)) (hq := hF)))))))
    (dss_one (ds_if (dw_dt (dw_or (dt_not (dt_tru (b := false) (de_callB c_isi_o c_isi T.b_isinstance (by decide +kernel) (das_cons (de_var 3) (das_cons (de_tyn T.b_bool (by decide +kernel)) das_nil (hq := hF)) (hq := hF))))) (dw_or (dt_not (dt_tru (b := false) (de_callB c_isi_o c_isi T.b_isinstance (by decide +kernel) (das_cons (de_var 4) (das_cons (de_tyn T.b_bool (by decide +kernel)) das_nil (hq := hF)) (hq := hF))))) (dw_or1 (t_ne (de_var 3) (de_var 4) hF hr)))))
    (dss_one (ds_ret de_bl))
    dss_nil))
    (dss_one (ds_if (dw_dt (dw_or (dt_not (dt_tru (b := false) (de_callB c_isi_o c_isi T.b_isinstance (by decide +kernel) (das_cons (de_var 3) (das_cons (de_tyn T.b_int (by decide +kernel)) das_nil (hq := hF)) (hq := hF))))) (dw_or1 (t_ne (de_var 3) (de_var 4) hF hr))))
    (dss_one (ds_ret de_bl))
    dss_nil))))))))))))
    (dss_one (ds_ret de_bl))))
theorem d__law_same (T : Top K mg) : DFn P w K mg base 1 "_law_same" [0, 0] none F__law_same := by
  obtain ⟨f, fd, h1, h2, h3⟩ := T.f__law_same
  exact ⟨f, fd, ["told", "due"], h1, h2.kp, .all h3, ok__law_same T h2⟩
noncomputable def F__law_asked : Fn := mkF 10 [1, 0, 0] none
  ((sSeq (sFor (dRng1 (dCallB gLen (dCons (dOp gIx (dVar 1) (dConst (.int 0))) dNil))) (gtName 3)
  (sSeq (sSet 4 (dLst dNil))
  (sSeq (sFor (dSeqI (dOp gIx (dVar 1) (dConst (.int 2)))) (gtName 5)
  (sSeq (sSet 6 (dLst dNil))
  (sSeq (sIf (dNot (dTru (dCall [.s, .s] F__law_same (aS (dCall [.s, .s, .s] (F_body_figures 60) (aS (dVar 2) (aS (dVar 5) (aS (dVar 3) aNil)))) (aS (dCall2 10 [.s, .s, .s, .fr, .io 6] F__law_figures (a2S (dVar 5) (a2S (dVar 2) (a2S (dVar 3) (a2F (dLst dNil) (a2IO 6 a2Nil)))))) aNil)))))
  (sRet (dConst (.bl false)))
  sNil)
  (sApp 4 (dCalm (dCallB gTupOf (dCons (dVar 6) dNil)))))))
  (sIf (dNot (dTru (dCall [.s, .s] F__law_same (aS (dCall [.s, .s, .s] F_statement_figures_of (aS (dVar 1) (aS (dVar 2) (aS (dVar 3) aNil)))) (aS (dCalm (dCallB gTupOf (dCons (dVar 4) dNil))) aNil)))))
  (sRet (dConst (.bl false)))
  sNil))))
  (sSeq (sFor (dSeqI (dOp gIx (dVar 1) (dConst (.int 2)))) (gtName 5)
  (sFor (dSeqI (dVar 5)) (gtName 7)
  (sFor (dSeqI (dOp gAdd (dCall [.s] F__law_inner (aS (dVar 7) aNil)) (dTup (dCons (dTup (dCons (dVar 7) (dCons (dTup (dCons (dConst (.str "back")) dNil)) dNil))) (dCons (dTup (dCons (dVar 7) (dCons (dVar 7) dNil))) dNil))))) (gtName 8)
  (sIf (dNot (dTru (dCall [.s, .s] F__law_same (aS (dCall [.s, .s, .s] (F_body_figures 60) (aS (dVar 2) (aS (dVar 8) (aS (dConst (.int 0)) aNil)))) (aS (dCall2 10 [.s, .s, .s, .fr, .fr] F__law_figures (a2S (dVar 8) (a2S (dVar 2) (a2S (dConst (.int 0)) (a2F (dLst dNil) (a2F (dLst dNil) a2Nil)))))) aNil)))))
  (sRet (dConst (.bl false)))
  sNil))))
  (sSeq (sSet 9 (dCall [.io 0, .s, .s] F__law_change (aIO 0 (aS (dCallB gLen (dCons (dOp gIx (dVar 1) (dConst (.int 0))) dNil)) (aS (dOp gPow (dConst (.int 10)) (dConst (.int 6))) aNil)))))
  (sRet (dCall [.s, .s] F__law_same (aS (dCallB gTupOf (dCons (dComp (dRng1 (dCallB gLen (dCons (dVar 9) dNil))) [3] (gtName 3) dYes (dCall [.s, .s] F_change_need (aS (dVar 9) (aS (dVar 3) aNil)))) dNil)) (aS (dCallB gTupOf (dCons (dComp (dSeqI (dVar 9)) [8] (gtName 8) dYes (dCallB gMax2 (dCons (dConst (.int 0)) (dCons (dUn gNeg (dVar 8)) dNil)))) dNil)) aNil))))))))
theorem sc__law_asked : FnScope ["pool", "program", "table", "purse", "due", "body", "gives", "statement", "one", "change"] ["pool", "program", "table"] (defScope (topS 40)) := ⟨rfl, rfl, rfl, by decide +kernel, rfl, by decide +kernel, by decide +kernel⟩
theorem ok__law_asked (T : Top K mg) {f : Addr} {fd : FuncData} (h2 : Fun K "_law_asked" "_law_asked" (topS 40) f fd) : FnOk P w K mg base CX0 126 f fd ["pool", "program", "table"] (spD K [1, 0, 0] none F__law_asked) :=
  fun_ok (lv := [1, 0, 0, 0, 1, 0, 1, 0, 0, 0]) h2 sc__law_asked rfl rfl fun cdv A outer s H H0 vs E M Z hr =>
    (dss_cons (ds_for PassesOwn.never rfl (di_rng1 T.b_range (de_callB call_len c_len T.b_len (by decide +kernel) (das_cons (e_ix (de_var 1) de_int hF) das_nil (hq := hF)))) (dg_name 3 sc__law_asked.nd)
    (dss_cons (ds_new 4 sc__law_asked.nd (df_lst das_nil))
    (dss_cons (ds_for PassesOwn.never rfl (di_seq (e_ix (de_var 1) de_int hF)) (dg_name 5 sc__law_asked.nd)
    (dss_cons (ds_new 6 sc__law_asked.nd (df_lst das_nil))
    (dss_cons (ds_if (dt_not (dt_tru (b := false) (de_call (d__law_same T) hr (by decide) (da_s (de_call (d_body_figures T 60) hr (by decide) (da_s (de_var 2) (da_s (de_var 5) (da_s (de_var 3) da_nil)))) (da_s (de_call2 10 0 (d__law_figures T) hr (by decide) (da2_s (de_var 5) (da2_s (de_var 2) (da2_s (de_var 3) (da2_f (df_lst das_nil) (da2_io 6 da2_nil)))))) da_nil)))))
    (dss_one (ds_ret de_bl))
    dss_nil)
    (dss_one (ds_app 4 (de_q (de_calm (de_callTy call_tuple_of c_tuple T.b_tuple (by decide +kernel) (das_cons (de_bor 6) das_nil (hq := hT))))))))))
    (dss_one (ds_if (dt_not (dt_tru (b := false) (de_call (d__law_same T) hr (by decide) (da_s (de_call (d_statement_figures_of T) hr (by decide) (da_s (de_var 1) (da_s (de_var 2) (da_s (de_var 3) da_nil)))) (da_s (de_q (de_calm (de_callTy call_tuple_of c_tuple T.b_tuple (by decide +kernel) (das_cons (de_bor 4) das_nil (hq := hT))))) da_nil)))))
    (dss_one (ds_ret de_bl))
    dss_nil)))))
    (dss_cons (ds_for PassesOwn.never rfl (di_seq (e_ix (de_var 1) de_int hF)) (dg_name 5 sc__law_asked.nd)
    (dss_one (ds_for PassesOwn.never rfl (di_seq (de_var 5)) (dg_name 7 sc__law_asked.nd)
    (dss_one (ds_for PassesOwn.never rfl (di_seq (e_add (de_call (d__law_inner T) hr (by decide) (da_s (de_var 7) da_nil)) (de_tup (das_cons (de_tup (das_cons (de_var 7) (das_cons (de_tup (das_cons de_str das_nil (hq := hF))) das_nil (hq := hF)) (hq := hF))) (das_cons (de_tup (das_cons (de_var 7) (das_cons (de_var 7) das_nil (hq := hF)) (hq := hF))) das_nil (hq := hF)) (hq := hF))) hF)) (dg_name 8 sc__law_asked.nd)
    (dss_one (ds_if (dt_not (dt_tru (b := false) (de_call (d__law_same T) hr (by decide) (da_s (de_call (d_body_figures T 60) hr (by decide) (da_s (de_var 2) (da_s (de_var 8) (da_s de_int da_nil)))) (da_s (de_call2 10 0 (d__law_figures T) hr (by decide) (da2_s (de_var 8) (da2_s (de_var 2) (da2_s de_int (da2_f (df_lst das_nil) (da2_f (df_lst das_nil) da2_nil)))))) da_nil)))))
    (dss_one (ds_ret de_bl))
    dss_nil)))))))
    (dss_cons (ds_set 9 sc__law_asked.nd (de_call (d__law_change T) hr (by decide) (da_io 0 (da_s (de_callB call_len c_len T.b_len (by decide +kernel) (das_cons (e_ix (de_var 1) de_int hF) das_nil (hq := hF))) (da_s (e_pow de_int de_int hF) da_nil)))))
    (dss_one (ds_ret (de_call (d__law_same T) hr (by decide) (da_s (de_callTy call_tuple_of c_tuple T.b_tuple (by decide +kernel) (das_cons (de_f (df_lc (own := [("purse", 3)]) rfl sc__law_asked.nd (di_rng1 T.b_range (de_callB call_len c_len T.b_len (by decide +kernel) (das_cons (de_var 9) das_nil (hq := hF)))) (blkOk_by (own := [("purse", 3)]) (N := ["pool", "program", "table", "purse", "due", "body", "gives", "statement", "one", "change"]) (sc := defScope (topS 40)) (by decide +kernel)) (fun _ _ _ _ _ => (dg_name 3 sc__law_asked.nd)) (fun _ _ _ _ _ => dts_nil) (fun _ _ _ _ _ => (de_call (d_change_need T) hr (by decide) (da_s (de_var 9) (da_s (de_var 3) da_nil)))))) das_nil (hq := hF))) (da_s (de_callTy call_tuple_of c_tuple T.b_tuple (by decide +kernel) (das_cons (de_f (df_lc (own := [("one", 8)]) rfl sc__law_asked.nd (di_seq (de_var 9)) (blkOk_by (own := [("one", 8)]) (N := ["pool", "program", "table", "purse", "due", "body", "gives", "statement", "one", "change"]) (sc := defScope (topS 40)) (by decide +kernel)) (fun _ _ _ _ _ => (dg_name 8 sc__law_asked.nd)) (fun _ _ _ _ _ => dts_nil) (fun _ _ _ _ _ => (de_callB (call_max2 rfl) c_max2 T.b_max (by decide +kernel) (das_cons de_int (das_cons (e_neg (de_var 8)) das_nil (hq := hF)) (hq := hF)))))) das_nil (hq := hF))) da_nil))))))))
theorem d__law_asked (T : Top K mg) : DFn P w K mg base 126 "_law_asked" [1, 0, 0] none F__law_asked := by
  obtain ⟨f, fd, h1, h2, h3⟩ := T.f__law_asked
  exact ⟨f, fd, ["pool", "program", "table"], h1, h2.kp, .all h3, ok__law_asked T h2⟩
noncomputable def F__law_hand : Fn := mkF 9 [1] none
  ((sSeq (sSet 1 (dOp gAdd (dConst (.int 2)) (dCall [.io 0, .s] F__law_take (aIO 0 (aS (dConst (.int 999)) aNil)))))
  (sSeq (sAsg (dTup (dCons (dTup (dCons (dConst (.str "change")) (dCons (dTup (dCons (dUn gNeg (dConst (.int 1))) dNil)) dNil))) (dCons (dTup (dCons (dConst (.str "change")) (dCons (dTup (dCons (dConst (.int 2)) dNil)) dNil))) dNil))) (gtTup 2 (gtCons (gtName 2) (gtCons (gtName 3) gtNil))))
  (sSeq (sSet 4 (dTup (dCons (dTup (dCons (dTup (dCons (dConst (.int 5)) (dCons (dUn gNeg (dConst (.int 3))) dNil))) dNil)) (dCons (dTup (dCons (dTup (dCons (dConst (.str "deep")) (dCons (dConst (.str "never")) dNil))) dNil)) (dCons (dTup (dCons (dTup (dCons (dConst (.int 0)) (dCons (dConst (.str "deep")) dNil))) dNil)) (dCons (dTup (dCons (dTup (dCons (dConst (.int 7)) (dCons (dConst (.int 4)) dNil))) dNil)) dNil))))))
  (sSeq (sSet 5 (dLst (dCons (dTup (dCons (dTup dNil) (dCons (dTup (dCons (dConst (.int 0)) (dCons (dConst (.int 0)) (dCons (dConst (.str "never")) dNil)))) dNil))) (dCons (dTup (dCons (dTup (dCons (dVar 2) (dCons (dVar 3) dNil))) (dCons (dTup (dCons (dConst (.int 1)) (dCons (dConst (.int 1)) (dCons (dConst (.str "never")) dNil)))) dNil))) (dCons (dTup (dCons (dTup (dCons (dVar 3) (dCons (dVar 2) (dCons (dVar 2) (dCons (dVar 2) dNil))))) (dCons (dTup (dCons (dConst (.int 1)) (dCons (dUn gNeg (dConst (.int 1))) (dCons (dConst (.str "never")) dNil)))) dNil))) (dCons (dTup (dCons (dTup (dCons (dTup (dCons (dConst (.str "back")) dNil)) (dCons (dVar 2) dNil))) (dCons (dTup (dCons (dConst (.int 0)) (dCons (dConst (.str "never")) (dCons (dConst (.int 0)) dNil)))) dNil))) (dCons (dTup (dCons (dTup (dCons (dTup (dCons (dConst (.str "stop")) dNil)) (dCons (dVar 2) dNil))) (dCons (dTup (dCons (dConst (.int 0)) (dCons (dConst (.str "never")) (dCons (dConst (.str "never")) dNil)))) dNil))) (dCons (dTup (dCons (dTup (dCons (dVar 2) (dCons (dTup (dCons (dConst (.str "back")) dNil)) dNil))) (dCons (dTup (dCons (dConst (.int 1)) (dCons (dConst (.str "never")) (dCons (dUn gNeg (dConst (.int 1))) dNil)))) dNil))) (dCons (dTup (dCons (dTup (dCons (dTup (dCons (dConst (.str "loop")) (dCons (dTup (dCons (dVar 2) (dCons (dVar 3) dNil))) dNil))) dNil)) (dCons (dTup (dCons (dConst (.int 1)) (dCons (dConst (.int 0)) (dCons (dConst (.str "never")) dNil)))) dNil))) (dCons (dTup (dCons (dTup (dCons (dTup (dCons (dConst (.str "loop")) (dCons (dTup (dCons (dVar 2) dNil)) dNil))) dNil)) (dCons (dTup (dCons (dConst (.str "deep")) (dCons (dConst (.str "deep")) (dCons (dConst (.str "never")) dNil)))) dNil))) (dCons (dTup (dCons (dTup (dCons (dTup (dCons (dConst (.str "loop")) (dCons (dTup (dCons (dVar 2) (dCons (dTup (dCons (dConst (.str "either")) (dCons (dTup (dCons (dTup (dCons (dTup (dCons (dConst (.str "back")) dNil)) dNil)) (dCons (dTup dNil) dNil))) dNil))) dNil))) dNil))) dNil)) (dCons (dTup (dCons (dConst (.str "deep")) (dCons (dConst (.str "deep")) (dCons (dConst (.str "deep")) dNil)))) dNil))) (dCons (dTup (dCons (dTup (dCons (dTup (dCons (dConst (.str "repeat")) (dCons (dConst (.int 0)) (dCons (dTup (dCons (dVar 2) dNil)) dNil)))) dNil)) (dCons (dTup (dCons (dConst (.int 0)) (dCons (dConst (.int 0)) (dCons (dConst (.str "never")) dNil)))) dNil))) (dCons (dTup (dCons (dTup (dCons (dTup (dCons (dConst (.str "repeat")) (dCons (dVar 1) (dCons (dTup (dCons (dVar 2) dNil)) dNil)))) dNil)) (dCons (dTup (dCons (dVar 1) (dCons (dUn gNeg (dVar 1)) (dCons (dConst (.str "never")) dNil)))) dNil))) (dCons (dTup (dCons (dTup (dCons (dTup (dCons (dConst (.str "upto")) (dCons (dVar 1) (dCons (dTup (dCons (dVar 2) dNil)) dNil)))) dNil)) (dCons (dTup (dCons (dVar 1) (dCons (dUn gNeg (dVar 1)) (dCons (dConst (.str "never")) dNil)))) dNil))) (dCons (dTup (dCons (dTup (dCons (dTup (dCons (dConst (.str "upto")) (dCons (dVar 1) (dCons (dTup (dCons (dVar 3) dNil)) dNil)))) dNil)) (dCons (dTup (dCons (dConst (.int 0)) (dCons (dConst (.int 0)) (dCons (dConst (.str "never")) dNil)))) dNil))) (dCons (dTup (dCons (dTup (dCons (dTup (dCons (dConst (.str "repeat")) (dCons (dVar 1) (dCons (dTup (dCons (dVar 3) (dCons (dVar 2) (dCons (dVar 2) (dCons (dVar 2) dNil))))) dNil)))) dNil)) (dCons (dTup (dCons (dVar 1) (dCons (dUn gNeg (dVar 1)) (dCons (dConst (.str "never")) dNil)))) dNil))) (dCons (dTup (dCons (dTup (dCons (dTup (dCons (dConst (.str "repeat")) (dCons (dVar 1) (dCons (dTup (dCons (dVar 2) (dCons (dVar 3) dNil))) dNil)))) dNil)) (dCons (dTup (dCons (dConst (.int 1)) (dCons (dVar 1) (dCons (dConst (.str "never")) dNil)))) dNil))) (dCons (dTup (dCons (dTup (dCons (dTup (dCons (dConst (.str "repeat")) (dCons (dVar 1) (dCons (dTup (dCons (dTup (dCons (dConst (.str "either")) (dCons (dTup (dCons (dTup (dCons (dVar 2) (dCons (dTup (dCons (dConst (.str "back")) dNil)) dNil))) (dCons (dTup (dCons (dVar 2) dNil)) dNil))) dNil))) dNil)) dNil)))) dNil)) (dCons (dTup (dCons (dVar 1) (dCons (dUn gNeg (dVar 1)) (dCons (dUn gNeg (dVar 1)) dNil)))) dNil))) (dCons (dTup (dCons (dTup (dCons (dTup (dCons (dConst (.str "upto")) (dCons (dVar 1) (dCons (dTup (dCons (dTup (dCons (dConst (.str "back")) dNil)) dNil)) dNil)))) dNil)) (dCons (dTup (dCons (dConst (.int 0)) (dCons (dConst (.int 0)) (dCons (dConst (.int 0)) dNil)))) dNil))) (dCons (dTup (dCons (dTup (dCons (dTup (dCons (dConst (.str "repeat")) (dCons (dVar 1) (dCons (dTup (dCons (dTup (dCons (dConst (.str "stop")) dNil)) dNil)) dNil)))) dNil)) (dCons (dTup (dCons (dConst (.int 0)) (dCons (dConst (.str "never")) (dCons (dConst (.str "never")) dNil)))) dNil))) (dCons (dTup (dCons (dTup (dCons (dTup (dCons (dConst (.str "call")) (dCons (dConst (.int 0)) dNil))) (dCons (dVar 2) dNil))) (dCons (dTup (dCons (dConst (.int 5)) (dCons (dUn gNeg (dConst (.int 4))) (dCons (dConst (.str "never")) dNil)))) dNil))) (dCons (dTup (dCons (dTup (dCons (dTup (dCons (dConst (.str "call")) (dCons (dConst (.int 1)) dNil))) (dCons (dVar 2) dNil))) (dCons (dTup (dCons (dConst (.str "deep")) (dCons (dConst (.str "never")) (dCons (dConst (.str "never")) dNil)))) dNil))) (dCons (dTup (dCons (dTup (dCons (dTup (dCons (dConst (.str "call")) (dCons (dConst (.int 2)) dNil))) (dCons (dVar 3) dNil))) (dCons (dTup (dCons (dConst (.str "deep")) (dCons (dConst (.str "deep")) (dCons (dConst (.str "never")) dNil)))) dNil))) (dCons (dTup (dCons (dTup (dCons (dTup (dCons (dConst (.str "call")) (dCons (dConst (.int 2)) dNil))) (dCons (dVar 2) dNil))) (dCons (dTup (dCons (dConst (.str "deep")) (dCons (dConst (.str "deep")) (dCons (dConst (.str "never")) dNil)))) dNil))) (dCons (dTup (dCons (dTup (dCons (dTup (dCons (dConst (.str "call")) (dCons (dConst (.int 3)) dNil))) (dCons (dTup (dCons (dConst (.str "call")) (dCons (dConst (.int 0)) dNil))) dNil))) (dCons (dTup (dCons (dConst (.int 7)) (dCons (dConst (.int 1)) (dCons (dConst (.str "never")) dNil)))) dNil))) (dCons (dTup (dCons (dTup (dCons (dTup (dCons (dConst (.str "loop")) (dCons (dTup (dCons (dTup (dCons (dConst (.str "call")) (dCons (dConst (.int 3)) dNil))) (dCons (dVar 2) dNil))) dNil))) dNil)) (dCons (dTup (dCons (dConst (.int 7)) (dCons (dConst (.int 0)) (dCons (dConst (.str "never")) dNil)))) dNil))) (dCons (dTup (dCons (dTup (dCons (dTup (dCons (dConst (.str "loop")) (dCons (dTup (dCons (dTup (dCons (dConst (.str "call")) (dCons (dConst (.int 0)) dNil))) dNil)) dNil))) dNil)) (dCons (dTup (dCons (dConst (.str "deep")) (dCons (dConst (.str "deep")) (dCons (dConst (.str "never")) dNil)))) dNil))) (dCons (dTup (dCons (dTup (dCons (dTup (dCons (dConst (.str "loop")) (dCons (dTup (dCons (dTup (dCons (dConst (.str "call")) (dCons (dConst (.int 1)) dNil))) dNil)) dNil))) dNil)) (dCons (dTup (dCons (dConst (.str "deep")) (dCons (dConst (.int 0)) (dCons (dConst (.str "never")) dNil)))) dNil))) (dCons (dTup (dCons (dTup (dCons (dTup (dCons (dConst (.str "either")) (dCons (dTup (dCons (dTup (dCons (dVar 2) (dCons (dTup (dCons (dConst (.str "back")) dNil)) dNil))) (dCons (dTup (dCons (dVar 3) dNil)) (dCons (dTup (dCons (dTup (dCons (dConst (.str "stop")) dNil)) dNil)) dNil)))) dNil))) dNil)) (dCons (dTup (dCons (dConst (.int 1)) (dCons (dConst (.int 2)) (dCons (dUn gNeg (dConst (.int 1))) dNil)))) dNil))) (dCons (dTup (dCons (dTup (dCons (dTup (dCons (dConst (.str "repeat")) (dCons (dVar 1) (dCons (dTup (dCons (dTup (dCons (dConst (.str "call")) (dCons (dConst (.int 2)) dNil))) dNil)) dNil)))) dNil)) (dCons (dTup (dCons (dConst (.str "deep")) (dCons (dConst (.str "deep")) (dCons (dConst (.str "never")) dNil)))) dNil))) (dCons (dTup (dCons (dTup (dCons (dTup (dCons (dConst (.str "repeat")) (dCons (dConst (.int 1)) (dCons (dTup (dCons (dTup (dCons (dConst (.str "call")) (dCons (dConst (.int 2)) dNil))) dNil)) dNil)))) dNil)) (dCons (dTup (dCons (dConst (.str "deep")) (dCons (dConst (.str "deep")) (dCons (dConst (.str "never")) dNil)))) dNil))) (dCons (dTup (dCons (dTup (dCons (dTup (dCons (dConst (.str "upto")) (dCons (dVar 1) (dCons (dTup (dCons (dTup (dCons (dConst (.str "call")) (dCons (dConst (.int 1)) dNil))) dNil)) dNil)))) dNil)) (dCons (dTup (dCons (dConst (.str "deep")) (dCons (dConst (.int 0)) (dCons (dConst (.str "never")) dNil)))) dNil))) dNil))))))))))))))))))))))))))))))))
  (sSeq (sSet 6 (dCall [.io 0, .s] F__law_take (aIO 0 (aS (dCallB gLen (dCons (dVar 5) dNil)) aNil))))
  (sSeq (sFor (dSeqI (dSl gCutL (dOp gCat (dVar 5) (dVar 5)) (dPart (dVar 6)) (dPart (dOp gAdd (dVar 6) (dConst (.int 12)))))) (gtTup 2 (gtCons (gtName 7) (gtCons (gtName 8) gtNil)))
  (sIf (dNot (dTru (dCall [.s, .s] F__law_same (aS (dTup (dCons (dCall [.s, .s, .s] (F_body_figures 60) (aS (dVar 4) (aS (dVar 7) (aS (dConst (.int 0)) aNil)))) (dCons (dCall2 9 [.s, .s, .s, .fr, .fr] F__law_figures (a2S (dVar 7) (a2S (dVar 4) (a2S (dConst (.int 0)) (a2F (dLst dNil) (a2F (dLst dNil) a2Nil)))))) dNil))) (aS (dTup (dCons (dVar 8) (dCons (dVar 8) dNil))) aNil)))))
  (sRet (dConst (.bl false)))
  sNil))
  (sRet (dConst (.bl true))))))))))
theorem sc__law_hand : FnScope ["pool", "n", "one", "two", "table", "cases", "first", "body", "due"] ["pool"] (defScope (topS 41)) := ⟨rfl, rfl, rfl, by decide +kernel, rfl, by decide +kernel, by decide +kernel⟩
theorem ok__law_hand (T : Top K mg) {f : Addr} {fd : FuncData} (h2 : Fun K "_law_hand" "_law_hand" (topS 41) f fd) : FnOk P w K mg base CX0 65 f fd ["pool"] (spD K [1] none F__law_hand) :=
  fun_ok (lv := [1, 0, 0, 0, 0, 0, 0, 0, 0]) h2 sc__law_hand rfl rfl fun cdv A outer s H H0 vs E M Z hr =>
    (dss_cons (ds_set 1 sc__law_hand.nd (e_add de_int (de_call (d__law_take T) hr (by decide) (da_io 0 (da_s de_int da_nil))) hF))
    (dss_cons (ds_asg (de_tup (das_cons (de_tup (das_cons de_str (das_cons (de_tup (das_cons (e_neg de_int) das_nil (hq := hF))) das_nil (hq := hF)) (hq := hF))) (das_cons (de_tup (das_cons de_str (das_cons (de_tup (das_cons de_int das_nil (hq := hF))) das_nil (hq := hF)) (hq := hF))) das_nil (hq := hF)) (hq := hF))) (dg_tup rfl (dgs_cons (dg_name 2 sc__law_hand.nd) (dgs_cons (dg_name 3 sc__law_hand.nd) dgs_nil))))
    (dss_cons (ds_set 4 sc__law_hand.nd (de_tup (das_cons (de_tup (das_cons (de_tup (das_cons de_int (das_cons (e_neg de_int) das_nil (hq := hF)) (hq := hF))) das_nil (hq := hF))) (das_cons (de_tup (das_cons (de_tup (das_cons de_str (das_cons de_str das_nil (hq := hF)) (hq := hF))) das_nil (hq := hF))) (das_cons (de_tup (das_cons (de_tup (das_cons de_int (das_cons de_str das_nil (hq := hF)) (hq := hF))) das_nil (hq := hF))) (das_cons (de_tup (das_cons (de_tup (das_cons de_int (das_cons de_int das_nil (hq := hF)) (hq := hF))) das_nil (hq := hF))) das_nil (hq := hF)) (hq := hF)) (hq := hF)) (hq := hF))))
    (dss_cons (ds_set 5 sc__law_hand.nd (de_f (df_lst (das_cons (de_tup (das_cons (de_tup das_nil) (das_cons (de_tup (das_cons de_int (das_cons de_int (das_cons de_str das_nil (hq := hF)) (hq := hF)) (hq := hF))) das_nil (hq := hF)) (hq := hF))) (das_cons (de_tup (das_cons (de_tup (das_cons (de_var 2) (das_cons (de_var 3) das_nil (hq := hF)) (hq := hF))) (das_cons (de_tup (das_cons de_int (das_cons de_int (das_cons de_str das_nil (hq := hF)) (hq := hF)) (hq := hF))) das_nil (hq := hF)) (hq := hF))) (das_cons (de_tup (das_cons (de_tup (das_cons (de_var 3) (das_cons (de_var 2) (das_cons (de_var 2) (das_cons (de_var 2) das_nil (hq := hF)) (hq := hF)) (hq := hF)) (hq := hF))) (das_cons (de_tup (das_cons de_int (das_cons (e_neg de_int) (das_cons de_str das_nil (hq := hF)) (hq := hF)) (hq := hF))) das_nil (hq := hF)) (hq := hF))) (das_cons (de_tup (das_cons (de_tup (das_cons (de_tup (das_cons de_str das_nil (hq := hF))) (das_cons (de_var 2) das_nil (hq := hF)) (hq := hF))) (das_cons (de_tup (das_cons de_int (das_cons de_str (das_cons de_int das_nil (hq := hF)) (hq := hF)) (hq := hF))) das_nil (hq := hF)) (hq := hF))) (das_cons (de_tup (das_cons (de_tup (das_cons (de_tup (das_cons de_str das_nil (hq := hF))) (das_cons (de_var 2) das_nil (hq := hF)) (hq := hF))) (das_cons (de_tup (das_cons de_int (das_cons de_str (das_cons de_str das_nil (hq := hF)) (hq := hF)) (hq := hF))) das_nil (hq := hF)) (hq := hF))) (das_cons (de_tup (das_cons (de_tup (das_cons (de_var 2) (das_cons (de_tup (das_cons de_str das_nil (hq := hF))) das_nil (hq := hF)) (hq := hF))) (das_cons (de_tup (das_cons de_int (das_cons de_str (das_cons (e_neg de_int) das_nil (hq := hF)) (hq := hF)) (hq := hF))) das_nil (hq := hF)) (hq := hF))) (das_cons (de_tup (das_cons (de_tup (das_cons (de_tup (das_cons de_str (das_cons (de_tup (das_cons (de_var 2) (das_cons (de_var 3) das_nil (hq := hF)) (hq := hF))) das_nil (hq := hF)) (hq := hF))) das_nil (hq := hF))) (das_cons (de_tup (das_cons de_int (das_cons de_int (das_cons de_str das_nil (hq := hF)) (hq := hF)) (hq := hF))) das_nil (hq := hF)) (hq := hF))) (das_cons (de_tup (das_cons (de_tup (das_cons (de_tup (das_cons de_str (das_cons (de_tup (das_cons (de_var 2) das_nil (hq := hF))) das_nil (hq := hF)) (hq := hF))) das_nil (hq := hF))) (das_cons (de_tup (das_cons de_str (das_cons de_str (das_cons de_str das_nil (hq := hF)) (hq := hF)) (hq := hF))) das_nil (hq := hF)) (hq := hF))) (das_cons (de_tup (das_cons (de_tup (das_cons (de_tup (das_cons de_str (das_cons (de_tup (das_cons (de_var 2) (das_cons (de_tup (das_cons de_str (das_cons (de_tup (das_cons (de_tup (das_cons (de_tup (das_cons de_str das_nil (hq := hF))) das_nil (hq := hF))) (das_cons (de_tup das_nil) das_nil (hq := hF)) (hq := hF))) das_nil (hq := hF)) (hq := hF))) das_nil (hq := hF)) (hq := hF))) das_nil (hq := hF)) (hq := hF))) das_nil (hq := hF))) (das_cons (de_tup (das_cons de_str (das_cons de_str (das_cons de_str das_nil (hq := hF)) (hq := hF)) (hq := hF))) das_nil (hq := hF)) (hq := hF))) (das_cons (de_tup (das_cons (de_tup (das_cons (de_tup (das_cons de_str (das_cons de_int (das_cons (de_tup (das_cons (de_var 2) das_nil (hq := hF))) das_nil (hq := hF)) (hq := hF)) (hq := hF))) das_nil (hq := hF))) (das_cons (de_tup (das_cons de_int (das_cons de_int (das_cons de_str das_nil (hq := hF)) (hq := hF)) (hq := hF))) das_nil (hq := hF)) (hq := hF))) (das_cons (de_tup (das_cons (de_tup (das_cons (de_tup (das_cons de_str (das_cons (de_var 1) (das_cons (de_tup (das_cons (de_var 2) das_nil (hq := hF))) das_nil (hq := hF)) (hq := hF)) (hq := hF))) das_nil (hq := hF))) (das_cons (de_tup (das_cons (de_var 1) (das_cons (e_neg (de_var 1)) (das_cons de_str das_nil (hq := hF)) (hq := hF)) (hq := hF))) das_nil (hq := hF)) (hq := hF))) (das_cons (de_tup (das_cons (de_tup (das_cons (de_tup (das_cons de_str (das_cons (de_var 1) (das_cons (de_tup (das_cons (de_var 2) das_nil (hq := hF))) das_nil (hq := hF)) (hq := hF)) (hq := hF))) das_nil (hq := hF))) (das_cons (de_tup (das_cons (de_var 1) (das_cons (e_neg (de_var 1)) (das_cons de_str das_nil (hq := hF)) (hq := hF)) (hq := hF))) das_nil (hq := hF)) (hq := hF))) (das_cons (de_tup (das_cons (de_tup (das_cons (de_tup (das_cons de_str (das_cons (de_var 1) (das_cons (de_tup (das_cons (de_var 3) das_nil (hq := hF))) das_nil (hq := hF)) (hq := hF)) (hq := hF))) das_nil (hq := hF))) (das_cons (de_tup (das_cons de_int (das_cons de_int (das_cons de_str das_nil (hq := hF)) (hq := hF)) (hq := hF))) das_nil (hq := hF)) (hq := hF))) (das_cons (de_tup (das_cons (de_tup (das_cons (de_tup (das_cons de_str (das_cons (de_var 1) (das_cons (de_tup (das_cons (de_var 3) (das_cons (de_var 2) (das_cons (de_var 2) (das_cons (de_var 2) das_nil (hq := hF)) (hq := hF)) (hq := hF)) (hq := hF))) das_nil (hq := hF)) (hq := hF)) (hq := hF))) das_nil (hq := hF))) (das_cons (de_tup (das_cons (de_var 1) (das_cons (e_neg (de_var 1)) (das_cons de_str das_nil (hq := hF)) (hq := hF)) (hq := hF))) das_nil (hq := hF)) (hq := hF))) (das_cons (de_tup (das_cons (de_tup (das_cons (de_tup (das_cons de_str (das_cons (de_var 1) (das_cons (de_tup (das_cons (de_var 2) (das_cons (de_var 3) das_nil (hq := hF)) (hq := hF))) das_nil (hq := hF)) (hq := hF)) (hq := hF))) das_nil (hq := hF))) (das_cons (de_tup (das_cons de_int (das_cons (de_var 1) (das_cons de_str das_nil (hq := hF)) (hq := hF)) (hq := hF))) das_nil (hq := hF)) (hq := hF))) (das_cons (de_tup (das_cons (de_tup (das_cons (de_tup (das_cons de_str (das_cons (de_var 1) (das_cons (de_tup (das_cons (de_tup (das_cons de_str (das_cons (de_tup (das_cons (de_tup (das_cons (de_var 2) (das_cons (de_tup (das_cons de_str das_nil (hq := hF))) das_nil (hq := hF)) (hq := hF))) (das_cons (de_tup (das_cons (de_var 2) das_nil (hq := hF))) das_nil (hq := hF)) (hq := hF))) das_nil (hq := hF)) (hq := hF))) das_nil (hq := hF))) das_nil (hq := hF)) (hq := hF)) (hq := hF))) das_nil (hq := hF))) (das_cons (de_tup (das_cons (de_var 1) (das_cons (e_neg (de_var 1)) (das_cons (e_neg (de_var 1)) das_nil (hq := hF)) (hq := hF)) (hq := hF))) das_nil (hq := hF)) (hq := hF))) (das_cons (de_tup (das_cons (de_tup (das_cons (de_tup (das_cons de_str (das_cons (de_var 1) (das_cons (de_tup (das_cons (de_tup (das_cons de_str das_nil (hq := hF))) das_nil (hq := hF))) das_nil (hq := hF)) (hq := hF)) (hq := hF))) das_nil (hq := hF))) (das_cons (de_tup (das_cons de_int (das_cons de_int (das_cons de_int das_nil (hq := hF)) (hq := hF)) (hq := hF))) das_nil (hq := hF)) (hq := hF))) (das_cons (de_tup (das_cons (de_tup (das_cons (de_tup (das_cons de_str (das_cons (de_var 1) (das_cons (de_tup (das_cons (de_tup (das_cons de_str das_nil (hq := hF))) das_nil (hq := hF))) das_nil (hq := hF)) (hq := hF)) (hq := hF))) das_nil (hq := hF))) (das_cons (de_tup (das_cons de_int (das_cons de_str (das_cons de_str das_nil (hq := hF)) (hq := hF)) (hq := hF))) das_nil (hq := hF)) (hq := hF))) (das_cons (de_tup (das_cons (de_tup (das_cons (de_tup (das_cons de_str (das_cons de_int das_nil (hq := hF)) (hq := hF))) (das_cons (de_var 2) das_nil (hq := hF)) (hq := hF))) (das_cons (de_tup (das_cons de_int (das_cons (e_neg de_int) (das_cons de_str das_nil (hq := hF)) (hq := hF)) (hq := hF))) das_nil (hq := hF)) (hq := hF))) (das_cons (de_tup (das_cons (de_tup (das_cons (de_tup (das_cons de_str (das_cons de_int das_nil (hq := hF)) (hq := hF))) (das_cons (de_var 2) das_nil (hq := hF)) (hq := hF))) (das_cons (de_tup (das_cons de_str (das_cons de_str (das_cons de_str das_nil (hq := hF)) (hq := hF)) (hq := hF))) das_nil (hq := hF)) (hq := hF))) (das_cons (de_tup (das_cons (de_tup (das_cons (de_tup (das_cons de_str (das_cons de_int das_nil (hq := hF)) (hq := hF))) (das_cons (de_var 3) das_nil (hq := hF)) (hq := hF))) (das_cons (de_tup (das_cons de_str (das_cons de_str (das_cons de_str das_nil (hq := hF)) (hq := hF)) (hq := hF))) das_nil (hq := hF)) (hq := hF))) (das_cons (de_tup (das_cons (de_tup (das_cons (de_tup (das_cons de_str (das_cons de_int das_nil (hq := hF)) (hq := hF))) (das_cons (de_var 2) das_nil (hq := hF)) (hq := hF))) (das_cons (de_tup (das_cons de_str (das_cons de_str (das_cons de_str das_nil (hq := hF)) (hq := hF)) (hq := hF))) das_nil (hq := hF)) (hq := hF))) (das_cons (de_tup (das_cons (de_tup (das_cons (de_tup (das_cons de_str (das_cons de_int das_nil (hq := hF)) (hq := hF))) (das_cons (de_tup (das_cons de_str (das_cons de_int das_nil (hq := hF)) (hq := hF))) das_nil (hq := hF)) (hq := hF))) (das_cons (de_tup (das_cons de_int (das_cons de_int (das_cons de_str das_nil (hq := hF)) (hq := hF)) (hq := hF))) das_nil (hq := hF)) (hq := hF))) (das_cons (de_tup (das_cons (de_tup (das_cons (de_tup (das_cons de_str (das_cons (de_tup (das_cons (de_tup (das_cons de_str (das_cons de_int das_nil (hq := hF)) (hq := hF))) (das_cons (de_var 2) das_nil (hq := hF)) (hq := hF))) das_nil (hq := hF)) (hq := hF))) das_nil (hq := hF))) (das_cons (de_tup (das_cons de_int (das_cons de_int (das_cons de_str das_nil (hq := hF)) (hq := hF)) (hq := hF))) das_nil (hq := hF)) (hq := hF))) (das_cons (de_tup (das_cons (de_tup (das_cons (de_tup (das_cons de_str (das_cons (de_tup (das_cons (de_tup (das_cons de_str (das_cons de_int das_nil (hq := hF)) (hq := hF))) das_nil (hq := hF))) das_nil (hq := hF)) (hq := hF))) das_nil (hq := hF))) (das_cons (de_tup (das_cons de_str (das_cons de_str (das_cons de_str das_nil (hq := hF)) (hq := hF)) (hq := hF))) das_nil (hq := hF)) (hq := hF))) (das_cons (de_tup (das_cons (de_tup (das_cons (de_tup (das_cons de_str (das_cons (de_tup (das_cons (de_tup (das_cons de_str (das_cons de_int das_nil (hq := hF)) (hq := hF))) das_nil (hq := hF))) das_nil (hq := hF)) (hq := hF))) das_nil (hq := hF))) (das_cons (de_tup (das_cons de_str (das_cons de_int (das_cons de_str das_nil (hq := hF)) (hq := hF)) (hq := hF))) das_nil (hq := hF)) (hq := hF))) (das_cons (de_tup (das_cons (de_tup (das_cons (de_tup (das_cons de_str (das_cons (de_tup (das_cons (de_tup (das_cons (de_var 2) (das_cons (de_tup (das_cons de_str das_nil (hq := hF))) das_nil (hq := hF)) (hq := hF))) (das_cons (de_tup (das_cons (de_var 3) das_nil (hq := hF))) (das_cons (de_tup (das_cons (de_tup (das_cons de_str das_nil (hq := hF))) das_nil (hq := hF))) das_nil (hq := hF)) (hq := hF)) (hq := hF))) das_nil (hq := hF)) (hq := hF))) das_nil (hq := hF))) (das_cons (de_tup (das_cons de_int (das_cons de_int (das_cons (e_neg de_int) das_nil (hq := hF)) (hq := hF)) (hq := hF))) das_nil (hq := hF)) (hq := hF))) (das_cons (de_tup (das_cons (de_tup (das_cons (de_tup (das_cons de_str (das_cons (de_var 1) (das_cons (de_tup (das_cons (de_tup (das_cons de_str (das_cons de_int das_nil (hq := hF)) (hq := hF))) das_nil (hq := hF))) das_nil (hq := hF)) (hq := hF)) (hq := hF))) das_nil (hq := hF))) (das_cons (de_tup (das_cons de_str (das_cons de_str (das_cons de_str das_nil (hq := hF)) (hq := hF)) (hq := hF))) das_nil (hq := hF)) (hq := hF))) (das_cons (de_tup (das_cons (de_tup (das_cons (de_tup (das_cons de_str (das_cons de_int (das_cons (de_tup (das_cons (de_tup (das_cons de_str (das_cons de_int das_nil (hq := hF)) (hq := hF))) das_nil (hq := hF))) das_nil (hq := hF)) (hq := hF)) (hq := hF))) das_nil (hq := hF))) (das_cons (de_tup (das_cons de_str (das_cons de_str (das_cons de_str das_nil (hq := hF)) (hq := hF)) (hq := hF))) das_nil (hq := hF)) (hq := hF))) (das_cons (de_tup (das_cons (de_tup (das_cons (de_tup (das_cons de_str (das_cons (de_var 1) (das_cons (de_tup (das_cons (de_tup (das_cons de_str (das_cons de_int das_nil (hq := hF)) (hq := hF))) das_nil (hq := hF))) das_nil (hq := hF)) (hq := hF)) (hq := hF))) das_nil (hq := hF))) (das_cons (de_tup (das_cons de_str (das_cons de_int (das_cons de_str das_nil (hq := hF)) (hq := hF)) (hq := hF))) das_nil (hq := hF)) (hq := hF))) das_nil (hq := hF)) (hq := hF)) (hq := hF)) (hq := hF)) (hq := hF)) (hq := hF)) (hq := hF)) (hq := hF)) (hq := hF)) (hq := hF)) (hq := hF)) (hq := hF)) (hq := hF)) (hq := hF)) (hq := hF)) (hq := hF)) (hq := hF)) (hq := hF)) (hq := hF)) (hq := hF)) (hq := hF)) (hq := hF)) (hq := hF)) (hq := hF)) (hq := hF)) (hq := hF)) (hq := hF)) (hq := hF)) (hq := hF)) (hq := hF)))))
    (dss_cons (ds_set 6 sc__law_hand.nd (de_call (d__law_take T) hr (by decide) (da_io 0 (da_s (de_callB call_len c_len T.b_len (by decide +kernel) (das_cons (de_var 5) das_nil (hq := hF))) da_nil))))
    (dss_cons (ds_for PassesOwn.never rfl (di_seq (de_f (df_sl (de_f (df_cat (de_var 5) (de_var 5))) (do_some (b := false) (de_var 6)) (do_some (b := false) (e_add (de_var 6) de_int hF))))) (dg_tup rfl (dgs_cons (dg_name 7 sc__law_hand.nd) (dgs_cons (dg_name 8 sc__law_hand.nd) dgs_nil)))
    (dss_one (ds_if (dt_not (dt_tru (b := false) (de_call (d__law_same T) hr (by decide) (da_s (de_tup (das_cons (de_call (d_body_figures T 60) hr (by decide) (da_s (de_var 4) (da_s (de_var 7) (da_s de_int da_nil)))) (das_cons (de_call2 9 0 (d__law_figures T) hr (by decide) (da2_s (de_var 7) (da2_s (de_var 4) (da2_s de_int (da2_f (df_lst das_nil) (da2_f (df_lst das_nil) da2_nil)))))) das_nil (hq := hF)) (hq := hF))) (da_s (de_tup (das_cons (de_var 8) (das_cons (de_var 8) das_nil (hq := hF)) (hq := hF))) da_nil)))))
    (dss_one (ds_ret de_bl))
    dss_nil)))
    (dss_one (ds_ret de_bl))))))))
theorem d__law_hand (T : Top K mg) : DFn P w K mg base 65 "_law_hand" [1] none F__law_hand := by
  obtain ⟨f, fd, h1, h2, h3⟩ := T.f__law_hand
  exact ⟨f, fd, ["pool"], h1, h2.kp, .all h3, ok__law_hand T h2⟩
noncomputable def F_law : Fn := mkF 8 [0] none
  ((sSeq (sSet 1 (dCall [.s] F__law_pool (aS (dVar 0) aNil)))
  (sSeq (sFor (dRng1 (dConst (.int 4))) (gtName 2)
  (sSeq (sSet 3 (dCall [.io 1, .s, .s, .s] F__law_program (aIO 1 (aS (dConst (.int 4)) (aS (dConst (.int 7)) (aS (dConst (.int 4)) aNil))))))
  (sIf (dNot (dTru (dCall [.io 1, .s, .s] F__law_asked (aIO 1 (aS (dVar 3) (aS (dCall [.io 1, .s] F__law_table (aIO 1 (aS (dVar 3) aNil))) aNil))))))
  (sRet (dConst (.bl false)))
  sNil)))
  (sSeq (sSet 4 (dTup (dCons (dTup (dCons (dConst (.str "change")) (dCons (dTup (dCons (dOp gSub (dCall [.io 1, .s] F__law_take (aIO 1 (aS (dConst (.int 7)) aNil))) (dConst (.int 3))) dNil)) dNil))) dNil)))
  (sSeq (sFor (dRng1 (dConst (.int 11))) (gtName 2)
  (sSeq (sSet 5 (dCall [.io 1, .s] F__law_take (aIO 1 (aS (dConst (.int 4)) aNil))))
  (sSeq (sSet 6 (dTup (dCons (dTup (dCons (dConst (.str "change")) (dCons (dTup (dCons (dOp gSub (dCall [.io 1, .s] F__law_take (aIO 1 (aS (dConst (.int 5)) aNil))) (dConst (.int 2))) dNil)) dNil))) dNil)))
  (sSet 4 (dOp gAdd (dTup (dCons (dIf (dBool (dOp gEq (dVar 5) (dConst (.int 0)))) (dTup (dCons (dConst (.str "either")) (dCons (dTup (dCons (dTup (dCons (dTup (dCons (dConst (.str "call")) (dCons (dConst (.int 0)) dNil))) dNil)) (dCons (dVar 4) dNil))) dNil))) (dIf (dBool (dOp gEq (dVar 5) (dConst (.int 1)))) (dTup (dCons (dConst (.str "loop")) (dCons (dVar 4) dNil))) (dTup (dCons (dOp gIx (dTup (dCons (dConst (.str "repeat")) (dCons (dConst (.str "upto")) dNil))) (dOp gSub (dVar 5) (dConst (.int 2)))) (dCons (dCall [.io 1, .s] F__law_take (aIO 1 (aS (dConst (.int 4)) aNil))) (dCons (dVar 4) dNil)))))) dNil)) (dVar 6))))))
  (sSeq (sSet 3 (dTup (dCons (dTup (dCons (dConst (.str "a")) dNil)) (dCons (dTup (dCons (dConst (.str "main")) dNil)) (dCons (dTup (dCons (dVar 4) dNil)) dNil)))))
  (sSeq (sIf (dNot (dTru (dCall [.io 1, .s, .s] F__law_asked (aIO 1 (aS (dVar 3) (aS (dCall [.io 1, .s] F__law_table (aIO 1 (aS (dVar 3) aNil))) aNil))))))
  (sRet (dConst (.bl false)))
  sNil)
  (sSeq (sIf (dBool (dOp gEq (dCall [.io 1, .s] F__law_take (aIO 1 (aS (dConst (.int 13)) aNil))) (dConst (.int 6))))
  (sSeq (sSet 7 (dCallB gTupOf (dCons (dComp (dRng1 (dConst (.int 100))) [2] (gtName 2) dYes (dTup (dCons (dConst (.str "repeat")) (dCons (dConst (.int 1000)) (dCons (dTup (dCons (dTup (dCons (dConst (.str "change")) (dCons (dTup (dCons (dOp gSub (dCall [.io 1, .s] F__law_take (aIO 1 (aS (dConst (.int 2000001)) aNil))) (dOp gPow (dConst (.int 10)) (dConst (.int 6)))) dNil)) dNil))) dNil)) dNil))))) dNil)))
  (sIf (dNot (dTru (dCall [.io 1, .s, .s] F__law_asked (aIO 1 (aS (dTup (dCons (dTup (dCons (dConst (.str "a")) dNil)) (dCons (dTup (dCons (dConst (.str "main")) dNil)) (dCons (dTup (dCons (dVar 7) dNil)) dNil)))) (aS (dTup (dCons (dTup (dCons (dTup (dCons (dConst (.int 0)) (dCons (dConst (.int 0)) dNil))) dNil)) dNil)) aNil))))))
  (sRet (dConst (.bl false)))
  sNil))
  sNil)
  (sRet (dCall [.io 1] F__law_hand (aIO 1 aNil)))))))))))
theorem sc_law : FnScope ["script", "pool", "k", "program", "body", "way", "some", "wide"] ["script"] (defScope (topS 42)) := ⟨rfl, rfl, rfl, by decide +kernel, rfl, by decide +kernel, by decide +kernel⟩
theorem ok_law (T : Top K mg) {f : Addr} {fd : FuncData} (h2 : Fun K "law" "law" (topS 42) f fd) : FnOk P w K mg base CX0 127 f fd ["script"] (spD K [0] none F_law) :=
  fun_ok (lv := [0, 1, 0, 0, 0, 0, 0, 0]) h2 sc_law rfl rfl fun cdv A outer s H H0 vs E M Z hr =>
    (dss_cons (ds_new 1 sc_law.nd (df_call (d__law_pool T) hr (by decide) (da_s (de_var 0) da_nil)))
    (dss_cons (ds_for PassesOwn.never rfl (di_rng1 T.b_range de_int) (dg_name 2 sc_law.nd)
    (dss_cons (ds_set 3 sc_law.nd (de_call (d__law_program T) hr (by decide) (da_io 1 (da_s de_int (da_s de_int (da_s de_int da_nil))))))
    (dss_one (ds_if (dt_not (dt_tru (b := false) (de_call (d__law_asked T) hr (by decide) (da_io 1 (da_s (de_var 3) (da_s (de_call (d__law_table T) hr (by decide) (da_io 1 (da_s (de_var 3) da_nil))) da_nil))))))
    (dss_one (ds_ret de_bl))
    dss_nil))))
    (dss_cons (ds_set 4 sc_law.nd (de_tup (das_cons (de_tup (das_cons de_str (das_cons (de_tup (das_cons (e_sub (de_call (d__law_take T) hr (by decide) (da_io 1 (da_s de_int da_nil))) de_int hF) das_nil (hq := hF))) das_nil (hq := hF)) (hq := hF))) das_nil (hq := hF))))
    (dss_cons (ds_for PassesOwn.never rfl (di_rng1 T.b_range de_int) (dg_name 2 sc_law.nd)
    (dss_cons (ds_set 5 sc_law.nd (de_call (d__law_take T) hr (by decide) (da_io 1 (da_s de_int da_nil))))
    (dss_cons (ds_set 6 sc_law.nd (de_tup (das_cons (de_tup (das_cons de_str (das_cons (de_tup (das_cons (e_sub (de_call (d__law_take T) hr (by decide) (da_io 1 (da_s de_int da_nil))) de_int hF) das_nil (hq := hF))) das_nil (hq := hF)) (hq := hF))) das_nil (hq := hF))))
    (dss_one (ds_set 4 sc_law.nd (e_add (de_tup (das_cons (de_if (t_eq (de_var 5) de_int hF hr) (de_tup (das_cons de_str (das_cons (de_tup (das_cons (de_tup (das_cons (de_tup (das_cons de_str (das_cons de_int das_nil (hq := hF)) (hq := hF))) das_nil (hq := hF))) (das_cons (de_var 4) das_nil (hq := hF)) (hq := hF))) das_nil (hq := hF)) (hq := hF))) (de_if (t_eq (de_var 5) de_int hF hr) (de_tup (das_cons de_str (das_cons (de_var 4) das_nil (hq := hF)) (hq := hF))) (de_tup (das_cons (e_ix (de_tup (das_cons de_str (das_cons de_str das_nil (hq := hF)) (hq := hF))) (e_sub (de_var 5) de_int hF) hF) (das_cons (de_call (d__law_take T) hr (by decide) (da_io 1 (da_s de_int da_nil))) (das_cons (de_var 4) das_nil (hq := hF)) (hq := hF)) (hq := hF))))) das_nil (hq := hF))) (de_var 6) hF))))))
    (dss_cons (ds_set 3 sc_law.nd (de_tup (das_cons (de_tup (das_cons de_str das_nil (hq := hF))) (das_cons (de_tup (das_cons de_str das_nil (hq := hF))) (das_cons (de_tup (das_cons (de_var 4) das_nil (hq := hF))) das_nil (hq := hF)) (hq := hF)) (hq := hF))))
    (dss_cons (ds_if (dt_not (dt_tru (b := false) (de_call (d__law_asked T) hr (by decide) (da_io 1 (da_s (de_var 3) (da_s (de_call (d__law_table T) hr (by decide) (da_io 1 (da_s (de_var 3) da_nil))) da_nil))))))
    (dss_one (ds_ret de_bl))
    dss_nil)
    (dss_cons (ds_if (t_eq (de_call (d__law_take T) hr (by decide) (da_io 1 (da_s de_int da_nil))) de_int hF hr)
    (dss_cons (ds_set 7 sc_law.nd (de_callTy call_tuple_of c_tuple T.b_tuple (by decide +kernel) (das_cons (de_f (df_lc (own := [("k", 2)]) rfl sc_law.nd (di_rng1 T.b_range de_int) (blkOk_by (own := [("k", 2)]) (N := ["script", "pool", "k", "program", "body", "way", "some", "wide"]) (sc := defScope (topS 42)) (by decide +kernel)) (fun _ _ _ _ _ => (dg_name 2 sc_law.nd)) (fun _ _ _ _ _ => dts_nil) (fun _ _ _ _ _ => (de_tup (das_cons de_str (das_cons de_int (das_cons (de_tup (das_cons (de_tup (das_cons de_str (das_cons (de_tup (das_cons (e_sub (de_call (d__law_take T) hr (by decide) (da_io 1 (da_s de_int da_nil))) (e_pow de_int de_int hF) hF) das_nil (hq := hF))) das_nil (hq := hF)) (hq := hF))) das_nil (hq := hF))) das_nil (hq := hF)) (hq := hF)) (hq := hF)))))) das_nil (hq := hF))))
    (dss_one (ds_if (dt_not (dt_tru (b := false) (de_call (d__law_asked T) hr (by decide) (da_io 1 (da_s (de_tup (das_cons (de_tup (das_cons de_str das_nil (hq := hF))) (das_cons (de_tup (das_cons de_str das_nil (hq := hF))) (das_cons (de_tup (das_cons (de_var 7) das_nil (hq := hF))) das_nil (hq := hF)) (hq := hF)) (hq := hF))) (da_s (de_tup (das_cons (de_tup (das_cons (de_tup (das_cons de_int (das_cons de_int das_nil (hq := hF)) (hq := hF))) das_nil (hq := hF))) das_nil (hq := hF))) da_nil))))))
    (dss_one (ds_ret de_bl))
    dss_nil)))
    dss_nil)
    (dss_one (ds_ret (de_call (d__law_hand T) hr (by decide) (da_io 1 da_nil)))))))))))
theorem d_law (T : Top K mg) : DFn P w K mg base 127 "law" [0] none F_law := by
  obtain ⟨f, fd, h1, h2, h3⟩ := T.f_law
  exact ⟨f, fd, ["script"], h1, h2.kp, .all h3, ok_law T h2⟩
end
end K10
open PySem PySem.Spec PyProof.Rows L2 DL
local macro_rules | `(tactic| walk_at "ds") => `(tactic| try dsimp only [List.set_cons_zero, List.set_cons_succ, List.map_cons, List.map_nil, List.length_cons, List.length_nil, Nat.reduceAdd, Nat.reduceSub, List.replicate_succ, List.replicate_zero, List.cons_append, List.nil_append, wipeE, restE, List.getElem?_cons_zero, List.getElem?_cons_succ, Option.getD_some, Option.getD_none, Int.toNat_one, Int.reduceToNat, Bool.not_true, Bool.not_false])
local macro_rules | `(tactic| walk_at "st") => `(tactic| first
  | with_reducible first
    | refine w_mkF ?_ | refine w_seq ?_ | refine w_if ?_ | refine w_set ?_ | refine w_ret ?_ | refine w_drop ?_ | refine w_nil ?_ | refine w_break ?_ | refine w_cont ?_
    | refine w_const ?_ | refine w_op ?_ | refine w_un ?_ | refine w_nils ?_ | refine w_cons ?_ | refine w_tup ?_ | refine w_lst ?_ | refine w_tru ?_ | refine w_not ?_ | refine w_and ?_ | refine w_or ?_ | refine w_ife ?_ | refine w_andV ?_ | refine w_orV ?_
    | refine w_callB ?_ | refine w_call ?_ | refine w_anil ?_ | refine w_as ?_ | refine w_asg ?_ | refine w_tname ?_ | refine w_sl ?_ | refine w_nopart ?_ | refine w_for ?_ | refine w_comp ?_
    | refine g_add ?_ | refine g_sub ?_ | refine g_neg ?_ | refine g_lt ?_ | refine g_le ?_ | refine g_gt ?_ | refine g_ge ?_ | refine g_eqi ?_ | refine gNe_ii ?_ | refine g_nei ?_ | refine g_int ?_ | refine g_abs ?_ | refine g_lenL ?_ | refine g_lenT ?_ | refine g_trub ?_ | refine g_tupL ?_ | refine g_tupT ?_
    | refine itNT ?_ | refine itNF ?_ | refine iteT ?_ | refine iteF ?_ | refine Ok.ret ?_
  | ((with_reducible refine' w_var ?h1 ?_); (case h1 => exact rfl))
  | ((with_reducible refine' w_take ?h1 ?_); (case h1 => exact rfl))
  | ((with_reducible refine' w_aio ?h1 ?_); (case h1 => exact rfl))
  | ((with_reducible refine gMul_r ?h1 ?h2 ?_); (case h1 => first | decide | omega); (case h2 => first | decide | omega))
  | ((with_reducible refine gMod_p ?h1 ?_); (case h1 => first | decide | assumption | omega))
  | ((with_reducible refine gFdiv_p ?h1 ?_); (case h1 => exact ⟨by decide, by decide⟩))
  | ((with_reducible refine gPow_p ?h1 ?_); (case h1 => decide))
  | ((with_reducible refine gShl_p ?h1 ?_); (case h1 => decide))
  | (with_reducible refine gIx_t0 ?_)
  | (with_reducible refine gIx_l0 ?_)
  | (with_reducible refine gNe_ii ?_)
  | (with_reducible refine gNe_bb ?_)
  | (with_reducible refine gNe_ss ?_)
  | ((with_reducible show Ok (gIsi _) _); first | refine Ok.mk (a := D.bl true) rfl ?_ | refine Ok.mk (a := D.bl false) rfl ?_)
  | ((with_reducible show Ok (gIsN _ _) _); first | refine Ok.mk (a := D.bl true) rfl ?_ | refine Ok.mk (a := D.bl false) rfl ?_)
  | ((with_reducible show Ok (gNotN _ _) _); first | refine Ok.mk (a := D.bl true) rfl ?_ | refine Ok.mk (a := D.bl false) rfl ?_)
  | ((with_reducible show Ok (gtTup _ _ (D.tup [_, _]) _) _); refine Ok.mk rfl ?_)
  | ((with_reducible show Ok (gIx (D.lst (_ :: _)) (D.int _)) _); refine Ok.mk rfl ?_)
  | ((with_reducible show Ok (gIx (D.tup (_ :: _)) (D.int _)) _); refine Ok.mk rfl ?_)
  | ((with_reducible show Ok (fillA _ _ _) _); refine Ok.mk rfl ?_)
  | ((with_reducible show Ok ((outP _ _ _).bind _) _); refine Ok.mk rfl ?_)
  | ((with_reducible show Ok (dYes _) _); refine Ok.mk rfl ?_)
  | ((with_reducible show true = true ∧ Ok _ _); refine ⟨rfl, ?_⟩)
  | ((with_reducible refine w_bool ?_))
  | ((with_reducible show ∃ k : Bool, D.bl _ = D.bl k ∧ _); refine ⟨_, rfl, ?_⟩)
  | ((with_reducible refine w_calm ?_))
  | ((with_reducible refine w_put ?_))
  | ((with_reducible show ∃ ds0 : List D, _ = some (some (D.lst ds0)) ∧ Ok _ _); refine ⟨_, rfl, ?_⟩)
  | ((with_reducible show ∃ (ds : List D) (n : Int) (j : Nat), _ = some (some (D.lst ds)) ∧ _ ∧ _ ∧ _); refine ⟨_, _, _, rfl, rfl, rfl, ?_⟩)
  | ((with_reducible show D.calm (D.int _) = true ∧ _); refine ⟨rfl, ?_⟩))
local macro_rules | `(tactic| walk_at "go") => `(tactic| (walk_at "ds"; repeat (walk_at "st"; walk_at "ds")))
local macro_rules | `(tactic| walk_at "st") => `(tactic| first
  | ((with_reducible refine' w_callL ?h1 ?_); (case h1 => exact rfl))
  | (with_reducible refine w_frz ?_)
  | (with_reducible refine g_not ?_)
  | (with_reducible refine w_setN ?_)
  | (with_reducible refine w_putO ?_)
  | (with_reducible refine w_put2 ?_)
  | (with_reducible refine w_consN ?_)
  | ((with_reducible show D.isL (D.int _) = false ∧ _); refine ⟨rfl, ?_⟩))
local macro_rules | `(tactic| walk_at "st") => `(tactic| first
  | with_reducible first
    | refine w_call2 ?_ | refine w_a2nil ?_ | refine w_a2s ?_ | refine w_a2f ?_ | refine g_revT ?_ | refine g_revL ?_ | refine g_iadd ?_ | refine g_strS ?_ | refine w_part ?_
  | ((with_reducible refine' w_plName ?h1 ?_); (case h1 => exact rfl))
  | ((with_reducible refine' w_slO ?h1 ?_); (case h1 => exact rfl))
  | ((with_reducible refine' w_a2io ?h1 ?_); (case h1 => exact rfl))
  | ((with_reducible refine' w_aug ?h1 ?_); (case h1 => exact rfl))
  | ((with_reducible refine' w_app ?h1 ?_); (case h1 => exact rfl))
  | ((with_reducible show ∃ n : Int, D.int _ = D.int n ∧ Ok _ _); refine ⟨_, rfl, ?_⟩)
  | ((with_reducible show ∃ n : Int, D.int _ = D.int n ∧ _); refine ⟨_, rfl, ?_⟩)
  | ((with_reducible show ∃ ds : List D, _ = some (some (D.lst ds)) ∧ _); refine ⟨_, rfl, ?_⟩))
namespace K10
/-- deep, never, or a number -/
inductive Fg where
  | deep
  | never
  | num (i : Int)
def Fg.d : Fg → D
  | .deep => .str "deep"
  | .never => .str "never"
  | .num i => .int i
/-- deep or a number of nought and more -/
def Fg.nd : Fg → Prop
  | .num i => 0 ≤ i
  | .deep => True
  | .never => False
/-! the figures -/
def sumF : Fg → Fg → Fg
  | .never, _ => .never
  | _, .never => .never
  | .deep, _ => .deep
  | _, .deep => .deep
  | .num i, .num j => .num (i + j)
def ltF : Fg → Fg → Bool
  | .deep, .deep => false
  | .deep, _ => true
  | _, .deep => false
  | .num i, .num j => decide (i < j)
  | .num _, .never => true
  | .never, _ => false
def keyF : Fg → D
  | .deep => .tup [.int 0, .int 0]
  | .never => .tup [.int 2, .int 0]
  | .num i => .tup [.int 1, .int i]
section
variable {f g : Fg} {Q : D × List D → Prop}
theorem low_sum_r (q : Q ((sumF f g).d, [.non, .non])) : Ok (F_low_sum [f.d, g.d]) Q := ⟨_, by cases f <;> cases g <;> rfl, q⟩
theorem low_rank_r (q : Q (keyF f, [.non])) : Ok (F_low_rank [f.d]) Q := ⟨_, by cases f <;> rfl, q⟩
theorem key_lt {Q : D → Prop} (q : Q (.bl (ltF f g))) : Ok (gLt (keyF f) (keyF g)) Q := by
  refine ⟨_, ?_, q⟩
  cases f <;> cases g <;> try rfl
  rename_i i j
  show Res.ok (D.bl (HT.lexLt [1, i] [1, j])) = .ok (.bl (decide (i < j)))
  congr 2
  unfold HT.lexLt HT.lexLt HT.lexLt
  by_cases h : i < j
  · simp [h]; try omega
  · simp [h]; try omega
local macro_rules | `(tactic| walk_at "st") => `(tactic| with_reducible first | refine low_sum_r ?_ | refine low_rank_r ?_ | refine key_lt ?_)
theorem low_less_r (q : Q (.bl (ltF f g), [.non, .non])) : Ok (F_low_less [f.d, g.d]) Q := by
  unfold F_low_less
  walk_at "go"
  exact q
end
def needF : Fg → Fg → Bool
  | .num _, .deep => true
  | .num i, .num j => decide (i < j)
  | _, _ => false
def behindF : Fg → Fg → Fg
  | _, .never => .num 0
  | .deep, _ => .deep
  | _, .deep => .deep
  | .num i, .num j => .num (if i - j > 0 then i - j else 0)
  | _, _ => .deep
section
variable {f g : Fg} {Q : D × List D → Prop}
theorem need_less_r (hf : f.nd) (hg : g.nd) (q : Q (.bl (needF f g), [.non, .non])) : Ok (F_need_less [f.d, g.d]) Q := by
  refine ⟨_, ?_, q⟩
  cases f with
  | never => cases hf
  | deep => rfl
  | num i => cases g with
    | never => cases hg
    | deep => rfl
    | num j => rfl
theorem need_behind_r (hf : f.nd) (q : Q ((behindF f g).d, [.non, .non])) : Ok (F_need_behind [f.d, g.d]) Q := by
  refine ⟨_, ?_, q⟩
  cases f with
  | never => cases hf
  | deep => cases g <;> rfl
  | num i => cases g with
    | num j => rfl
    | _ => rfl
end
def foldF (lt : Fg → Fg → Bool) : List Fg → Fg → Fg
  | [], b => b
  | l :: ls, b => foldF lt ls (if lt l b = true then l else b)
local macro_rules | `(tactic| walk_at "st") => `(tactic| with_reducible first | refine low_sum_r ?_ | refine low_rank_r ?_ | refine key_lt ?_ | refine low_less_r ?_)
theorem least_low_r {a : Fg} {ls : List Fg} {Q : D × List D → Prop} (q : Q ((foldF ltF (a :: ls) a).d, [.non])) : Ok (F_least_low [.tup ((a :: ls).map Fg.d)]) Q := by
  show Ok (F_least_low [.tup (a.d :: List.map Fg.d ls)]) Q
  unfold F_least_low
  walk_at "go"
  refine w_seqI ?_
  walk_at "go"
  refine ⟨_, rfl, ?_⟩
  refine w_loop (fun ds ρ => ∃ rest b x, ds = List.map Fg.d rest ∧ ρ = [some (.tup (a.d :: List.map Fg.d ls)), some (Fg.d b), x] ∧ foldF ltF rest b = foldF ltF (a :: ls) a) ?_ ?_ _ _ ⟨a :: ls, a, none, rfl, rfl, rfl⟩
  · rintro d ds ρ ⟨rest, b, x, e, rfl, h⟩
    cases rest with
    | nil => cases e
    | cons l rest =>
      cases e
      walk_at "go"
      refine ite2 (fun hc => ?_) (fun hc => ?_)
      · walk_at "go"
        refine ⟨rest, l, _, rfl, rfl, ?_⟩
        rw [← h, foldF, if_pos hc]
      · walk_at "go"
        refine ⟨rest, b, _, rfl, rfl, ?_⟩
        rw [← h, foldF, if_neg hc]
  · rintro ρ ⟨rest, b, x, e, rfl, h⟩
    cases rest with
    | cons _ _ => cases e
    | nil =>
      walk_at "go"
      rw [← h] at q
      exact q
theorem greatest_need_r {a : Fg} {ls : List Fg} {Q : D × List D → Prop} (hn : ∀ x ∈ a :: ls, x.nd) (q : Q ((foldF (fun l b => needF b l) (a :: ls) a).d, [.non])) : Ok (F_greatest_need [.tup ((a :: ls).map Fg.d)]) Q := by
  show Ok (F_greatest_need [.tup (a.d :: List.map Fg.d ls)]) Q
  unfold F_greatest_need
  walk_at "go"
  refine w_seqI ?_
  walk_at "go"
  refine ⟨_, rfl, ?_⟩
  refine w_loop (fun ds ρ => ∃ rest b x, ds = List.map Fg.d rest ∧ b.nd ∧ (∀ x ∈ rest, x.nd) ∧ ρ = [some (.tup (a.d :: List.map Fg.d ls)), some (Fg.d b), x] ∧ foldF (fun l b => needF b l) rest b = foldF (fun l b => needF b l) (a :: ls) a) ?_ ?_ _ _ ⟨a :: ls, a, none, rfl, hn a List.mem_cons_self, hn, rfl, rfl⟩
  · rintro d ds ρ ⟨rest, b, x, e, nb, nr, rfl, h⟩
    cases rest with
    | nil => cases e
    | cons l rest =>
      cases e
      have nl := nr l List.mem_cons_self
      walk_at "go"
      refine need_less_r nb nl ?_
      walk_at "go"
      refine ite2 (fun hc => ?_) (fun hc => ?_)
      · walk_at "go"
        refine ⟨rest, l, _, rfl, nl, fun x hx => nr x (List.mem_cons_of_mem _ hx), rfl, ?_⟩
        rw [← h, foldF, if_pos hc]
      · walk_at "go"
        refine ⟨rest, b, _, rfl, nb, fun x hx => nr x (List.mem_cons_of_mem _ hx), rfl, ?_⟩
        rw [← h, foldF, if_neg hc]
  · rintro ρ ⟨rest, b, x, e, _, _, rfl, h⟩
    cases rest with
    | cons _ _ => cases e
    | nil =>
      walk_at "go"
      rw [← h] at q
      exact q
/-- of two -/
def lo2 (f g : Fg) : Fg := if ltF g f = true then g else f
def ne2 (f g : Fg) : Fg := if needF f g = true then g else f
theorem lt_irr (f : Fg) : ltF f f = false := by cases f <;> simp [ltF]
theorem ne_irr (f : Fg) : needF f f = false := by cases f <;> simp [needF]
theorem least2 {f g : Fg} {Q : D × List D → Prop} (q : Q ((lo2 f g).d, [.non])) : Ok (F_least_low [.tup [f.d, g.d]]) Q := by
  refine least_low_r (a := f) (ls := [g]) ?_
  show Q ((if ltF g (if ltF f f = true then f else f) = true then g else (if ltF f f = true then f else f)).d, _)
  rw [lt_irr f, if_neg Bool.false_ne_true]
  exact q
theorem great2 {f g : Fg} (hf : f.nd) (hg : g.nd) {Q : D × List D → Prop} (q : Q ((ne2 f g).d, [.non])) : Ok (F_greatest_need [.tup [f.d, g.d]]) Q := by
  refine greatest_need_r (a := f) (ls := [g]) (fun x hx => ?_) ?_
  · rcases List.mem_cons.mp hx with rfl | hx
    · exact hf
    · rw [List.mem_singleton.mp hx]
      exact hg
  show Q ((if needF (if needF f f = true then f else f) g = true then g else (if needF f f = true then f else f)).d, _)
  rw [ne_irr f, if_neg Bool.false_ne_true]
  exact q
end K10
namespace K10
local macro_rules | `(tactic| walk_at "st") => `(tactic| with_reducible first | refine low_sum_r ?_ | refine low_rank_r ?_ | refine key_lt ?_ | refine low_less_r ?_ | refine least2 ?_)
theorem least_lowL_r {a : Fg} {ls : List Fg} {Q : D × List D → Prop} (q : Q ((foldF ltF (a :: ls) a).d, [.non])) : Ok (F_least_low [.lst ((a :: ls).map Fg.d)]) Q := by
  show Ok (F_least_low [.lst (a.d :: List.map Fg.d ls)]) Q
  unfold F_least_low
  walk_at "go"
  refine w_seqI ?_
  walk_at "go"
  refine ⟨_, rfl, ?_⟩
  refine w_loop (fun ds ρ => ∃ rest b x, ds = List.map Fg.d rest ∧ ρ = [some (.lst (a.d :: List.map Fg.d ls)), some (Fg.d b), x] ∧ foldF ltF rest b = foldF ltF (a :: ls) a) ?_ ?_ _ _ ⟨a :: ls, a, none, rfl, rfl, rfl⟩
  · rintro d ds ρ ⟨rest, b, x, e, rfl, h⟩
    cases rest with
    | nil => cases e
    | cons l rest =>
      cases e
      walk_at "go"
      refine ite2 (fun hc => ?_) (fun hc => ?_)
      · walk_at "go"
        refine ⟨rest, l, _, rfl, rfl, ?_⟩
        rw [← h, foldF, if_pos hc]
      · walk_at "go"
        refine ⟨rest, b, _, rfl, rfl, ?_⟩
        rw [← h, foldF, if_neg hc]
  · rintro ρ ⟨rest, b, x, e, rfl, h⟩
    cases rest with
    | cons _ _ => cases e
    | nil =>
      walk_at "go"
      rw [← h] at q
      exact q
theorem greatest_needL_r {a : Fg} {ls : List Fg} {Q : D × List D → Prop} (hn : ∀ x ∈ a :: ls, x.nd) (q : Q ((foldF (fun l b => needF b l) (a :: ls) a).d, [.non])) : Ok (F_greatest_need [.lst ((a :: ls).map Fg.d)]) Q := by
  show Ok (F_greatest_need [.lst (a.d :: List.map Fg.d ls)]) Q
  unfold F_greatest_need
  walk_at "go"
  refine w_seqI ?_
  walk_at "go"
  refine ⟨_, rfl, ?_⟩
  refine w_loop (fun ds ρ => ∃ rest b x, ds = List.map Fg.d rest ∧ b.nd ∧ (∀ x ∈ rest, x.nd) ∧ ρ = [some (.lst (a.d :: List.map Fg.d ls)), some (Fg.d b), x] ∧ foldF (fun l b => needF b l) rest b = foldF (fun l b => needF b l) (a :: ls) a) ?_ ?_ _ _ ⟨a :: ls, a, none, rfl, hn a List.mem_cons_self, hn, rfl, rfl⟩
  · rintro d ds ρ ⟨rest, b, x, e, nb, nr, rfl, h⟩
    cases rest with
    | nil => cases e
    | cons l rest =>
      cases e
      have nl := nr l List.mem_cons_self
      walk_at "go"
      refine need_less_r nb nl ?_
      walk_at "go"
      refine ite2 (fun hc => ?_) (fun hc => ?_)
      · walk_at "go"
        refine ⟨rest, l, _, rfl, nl, fun x hx => nr x (List.mem_cons_of_mem _ hx), rfl, ?_⟩
        rw [← h, foldF, if_pos hc]
      · walk_at "go"
        refine ⟨rest, b, _, rfl, nb, fun x hx => nr x (List.mem_cons_of_mem _ hx), rfl, ?_⟩
        rw [← h, foldF, if_neg hc]
  · rintro ρ ⟨rest, b, x, e, _, _, rfl, h⟩
    cases rest with
    | cons _ _ => cases e
    | nil =>
      walk_at "go"
      rw [← h] at q
      exact q

/-! statements -/
inductive St where
  | chg (c : List Int)
  | call (k : Nat)
  | eit (bs : List (List St))
  | loop (b : List St)
  | rep (u : Bool) (n : Int) (b : List St)
  | back
  | stop
mutual
def stD : St → D
  | .chg c => .tup [.str "change", .tup (c.map .int)]
  | .call k => .tup [.str "call", .int (k : Nat)]
  | .eit bs => .tup [.str "either", .tup (bosD bs)]
  | .loop b => .tup [.str "loop", .tup (boD b)]
  | .rep u n b => .tup [.str (if u = true then "upto" else "repeat"), .int n, .tup (boD b)]
  | .back => .tup [.str "back"]
  | .stop => .tup [.str "stop"]
def boD : List St → List D
  | [] => []
  | s :: b => stD s :: boD b
def bosD : List (List St) → List D
  | [] => []
  | b :: bs => .tup (boD b) :: bosD bs
end
theorem boD_map : ∀ b : List St, boD b = b.map stD
  | [] => rfl
  | s :: b => by rw [boD, boD_map b]; rfl
theorem bosD_map : ∀ b : List (List St), bosD b = b.map fun b => D.tup (boD b)
  | [] => rfl
  | s :: b => by rw [bosD, bosD_map b]; rfl
mutual
def dpS : St → Nat
  | .eit bs => 1 + dpBs bs
  | .loop b => 1 + dpB b
  | .rep _ _ b => 1 + dpB b
  | _ => 0
def dpB : List St → Nat
  | [] => 0
  | s :: b => max (dpS s) (dpB b)
def dpBs : List (List St) → Nat
  | [] => 0
  | b :: bs => max (dpB b) (dpBs bs)
end
/-- a pair: what is needed, the low -/
abbrev Pr := Fg × Fg
abbrev prD (p : Pr) : D := .tup [p.1.d, p.2.d]
abbrev rowD (r : List Pr) : D := .tup (r.map prD)
abbrev tabD (t : List (List Pr)) : D := .tup (t.map rowD)
mutual
def okS (q m : Nat) : St → Prop
  | .chg c => c.length = m
  | .call k => k < q
  | .eit bs => bs ≠ [] ∧ okBs q m bs
  | .loop b => okB q m b
  | .rep _ n b => 0 ≤ n ∧ n ≤ 1000 ∧ okB q m b
  | .back => True
  | .stop => True
def okB (q m : Nat) : List St → Prop
  | [] => True
  | s :: b => okS q m s ∧ okB q m b
def okBs (q m : Nat) : List (List St) → Prop
  | [] => True
  | b :: bs => okB q m b ∧ okBs q m bs
end
theorem okB_app {q m : Nat} : ∀ {a b : List St}, okB q m a → okB q m b → okB q m (a ++ b)
  | [], _, _, h => h
  | _ :: _, _, h, h2 => ⟨h.1, okB_app h.2 h2⟩
theorem okBs_app {q m : Nat} : ∀ {a b : List (List St)}, okBs q m a → okBs q m b → okBs q m (a ++ b)
  | [], _, _, h => h
  | _ :: _, _, h, h2 => ⟨h.1, okBs_app h.2 h2⟩
/-- figures: need, through, back -/
abbrev Fi := Fg × Fg × Fg
abbrev fiD (f : Fi) : D := .tup [f.1.d, f.2.1.d, f.2.2.d]
def fi0 : Fi := (.num 0, .num 0, .never)
def fallsF (f : Fg) : Bool := match f with
  | .deep => true
  | .num i => decide (i < 0)
  | .never => false
def timesF (f : Fg) (n : Int) : Fg := match f with
  | .num i => .num (i * n)
  | f => f
def aheadF (f : Fg) (n : Int) : Fg := if fallsF f = true ∧ 0 < n then timesF f n else .num 0
def subF (n a : Fg) : Fg := match n, a with
  | .num i, .num j => .num (i - j)
  | _, _ => .deep
def loopF (f : Fi) : Fi := if fallsF f.2.1 = true then (.deep, .deep, sumF .deep f.2.2) else (f.1, .num 0, f.2.2)
def repF (u : Bool) (n : Int) (f : Fi) : Fi := if n = 0 then fi0 else
  (subF f.1 (aheadF f.2.1 (n - 1)), if u = true then lo2 (.num 0) (timesF f.2.1 n) else timesF f.2.1 n, sumF (aheadF f.2.1 (n - 1)) f.2.2)
def eit2 (f g : Fi) : Fi := (ne2 f.1 g.1, lo2 f.2.1 g.2.1, lo2 f.2.2 g.2.2)
def eitF : List Fi → Fi
  | [] => fi0
  | f :: fs => fs.foldl eit2 f
def addF (a f : Fi) : Fi := (ne2 (ne2 a.1 (behindF f.1 a.2.1)) (behindF (.num 0) (sumF a.2.1 f.2.1)), sumF a.2.1 f.2.1, lo2 a.2.2 (sumF a.2.1 f.2.2))
def pairT (t : List (List Pr)) (k p : Nat) : Pr := (t.getD k []).getD p (.deep, .deep)
mutual
def figS (t : List (List Pr)) (p : Nat) : St → Fi
  | .chg c => (.num (if -(c.getD p 0) > 0 then -(c.getD p 0) else 0), .num (c.getD p 0), .never)
  | .call k => ((pairT t k p).1, (pairT t k p).2, .never)
  | .eit bs => eitF (figBs t p bs)
  | .loop b => loopF (figB t p fi0 b)
  | .rep u n b => repF u n (figB t p fi0 b)
  | .back => (.num 0, .never, .num 0)
  | .stop => (.num 0, .never, .never)
def figB (t : List (List Pr)) (p : Nat) (a : Fi) : List St → Fi
  | [] => a
  | s :: b => figB t p (addF a (figS t p s)) b
def figBs (t : List (List Pr)) (p : Nat) : List (List St) → List Fi
  | [] => []
  | b :: bs => figB t p fi0 b :: figBs t p bs
end
/-- a table of q rows of m pairs -/
def tbOk (t : List (List Pr)) (q m : Nat) : Prop := t.length = q ∧ ∀ r ∈ t, r.length = m ∧ ∀ x ∈ r, x.1.nd
theorem pair_get {t : List (List Pr)} {q m k p : Nat} (h : tbOk t q m) (hk : k < q) (hp : p < m) : ∃ r, t[k]? = some r ∧ r[p]? = some (pairT t k p) ∧ (pairT t k p).1.nd := by
  have hk' : k < t.length := by rw [h.1]; exact hk
  have hr := h.2 t[k] (List.getElem_mem hk')
  have hp' : p < t[k].length := by rw [hr.1]; exact hp
  have e : pairT t k p = t[k][p] := by
    unfold pairT
    rw [List.getD_eq_getElem?_getD, List.getD_eq_getElem?_getD, List.getElem?_eq_getElem hk']
    show (t[k][p]?).getD _ = _
    rw [List.getElem?_eq_getElem hp']
    rfl
  exact ⟨t[k], List.getElem?_eq_getElem hk', by rw [e]; exact List.getElem?_eq_getElem hp', by rw [e]; exact hr.2 _ (List.getElem_mem hp')⟩
/-! the figures' needs are needs -/
theorem ne2_nd {f g : Fg} (hf : f.nd) (hg : g.nd) : (ne2 f g).nd := by
  unfold ne2
  split
  · exact hg
  · exact hf
theorem behind_nd {f g : Fg} (hf : f.nd) : (behindF f g).nd := by
  cases f with
  | never => cases hf
  | deep => cases g <;> simp [behindF, Fg.nd]
  | num i => cases g with
    | num j =>
      show (0 : Int) ≤ if i - j > 0 then i - j else 0
      split <;> omega
    | _ => simp [behindF, Fg.nd]
theorem addF_nd {a f : Fi} (ha : a.1.nd) (hf : f.1.nd) : (addF a f).1.nd := ne2_nd (ne2_nd ha (behind_nd hf)) (behind_nd (f := .num 0) (Int.le_refl 0))
theorem eitF_nd : ∀ {fs : List Fi} {f : Fi}, f.1.nd → (∀ x ∈ fs, x.1.nd) → (fs.foldl eit2 f).1.nd
  | [], f, h, _ => h
  | g :: fs, f, h, hs => eitF_nd (fs := fs) (ne2_nd h (hs g List.mem_cons_self)) fun x hx => hs x (List.mem_cons_of_mem _ hx)
theorem falls_neg {f : Fg} {n i : Int} (h : aheadF f n = .num i) : i ≤ 0 := by
  unfold aheadF at h
  split at h
  · rename_i hc
    cases f with
    | num j =>
      have hj : j < 0 := by simpa [fallsF] using hc.1
      have e : j * n = i := Fg.num.inj h
      rw [← e]
      exact Int.mul_nonpos_of_nonpos_of_nonneg (by omega) (by omega)
    | deep => cases h
    | never => cases h
  · cases h
    omega
theorem subF_nd {f : Fg} {n : Int} {g : Fg} (hf : f.nd) : (subF f (aheadF g n)).nd := by
  cases f with
  | never => cases hf
  | deep => trivial
  | num i =>
    cases e : aheadF g n with
    | num j =>
      have := falls_neg e
      have hi : 0 ≤ i := hf
      show (0 : Int) ≤ i - j
      omega
    | deep => trivial
    | never => trivial
mutual
theorem figS_nd {t : List (List Pr)} {q m p : Nat} (ht : tbOk t q m) (hp : p < m) : ∀ s : St, okS q m s → (figS t p s).1.nd
  | .chg c, _ => by
    show (0 : Int) ≤ if -(c.getD p 0) > 0 then -(c.getD p 0) else 0
    split <;> omega
  | .call k, h => by
    obtain ⟨_, _, _, h⟩ := pair_get ht (show k < q from h) hp
    exact h
  | .eit bs, h => by
    have h' : bs ≠ [] ∧ okBs q m bs := h
    have := figBs_nd ht hp bs h'.2
    show (eitF (figBs t p bs)).1.nd
    cases bs with
    | nil => exact absurd rfl h'.1
    | cons b bs => exact eitF_nd (this _ List.mem_cons_self) fun x hx => this x (List.mem_cons_of_mem _ hx)
  | .loop b, h => by
    have := figB_nd ht hp fi0 b (Int.le_refl 0) h
    show (loopF _).1.nd
    unfold loopF
    split
    · trivial
    · exact this
  | .rep u n b, h => by
    have h' : 0 ≤ n ∧ n ≤ 1000 ∧ okB q m b := h
    have := figB_nd ht hp fi0 b (Int.le_refl 0) h'.2.2
    show (repF u n _).1.nd
    unfold repF
    split
    · exact Int.le_refl 0
    · exact subF_nd this
  | .back, _ => Int.le_refl 0
  | .stop, _ => Int.le_refl 0
theorem figB_nd {t : List (List Pr)} {q m p : Nat} (ht : tbOk t q m) (hp : p < m) : ∀ (a : Fi) (b : List St), a.1.nd → okB q m b → (figB t p a b).1.nd
  | a, [], h, _ => h
  | a, s :: b, h, hb => figB_nd ht hp _ b (addF_nd h (figS_nd ht hp s hb.1)) hb.2
theorem figBs_nd {t : List (List Pr)} {q m p : Nat} (ht : tbOk t q m) (hp : p < m) : ∀ (bs : List (List St)), okBs q m bs → ∀ x ∈ figBs t p bs, x.1.nd
  | [], _, x, hx => nomatch hx
  | b :: bs, h, x, hx => by
    rcases List.mem_cons.mp hx with rfl | hx
    · exact figB_nd ht hp fi0 b (Int.le_refl 0) h.1
    · exact figBs_nd ht hp bs h.2 x hx
end
end K10
namespace K10
local macro_rules | `(tactic| walk_at "st") => `(tactic| with_reducible first | refine low_sum_r ?_ | refine low_rank_r ?_ | refine key_lt ?_ | refine low_less_r ?_ | refine least2 ?_)
theorem ite2 {b : Bool} {x y : Prop} (h1 : b = true → x) (h2 : b = false → y) : if b = true then x else y := by
  cases b with
  | true => exact h1 rfl
  | false => exact h2 rfl
theorem ited {c : Prop} [Decidable c] {x y : Prop} (h1 : c → x) (h2 : ¬ c → y) : if decide c = true then x else y := by
  by_cases h : c
  · rw [if_pos (decide_eq_true h)]
    exact h1 h
  · rw [if_neg (by rw [decide_eq_false h]; exact Bool.false_ne_true)]
    exact h2 h
section
variable {f g : Fg} {n : Int} {Q : D × List D → Prop}
theorem low_times_r (hn : 0 < n) (h2 : n < 2 ^ 64) (q : Q ((timesF f n).d, [.non, .non])) : Ok (F_low_times [f.d, .int n]) Q := by
  unfold F_low_times
  walk_at "go"
  refine ited (fun h => absurd h (by omega)) (fun h => ?_)
  walk_at "go"
  cases f with
  | deep =>
    refine Ok.mk (a := D.bl true) rfl ?_
    walk_at "go"
    exact q
  | never =>
    refine Ok.mk (a := D.bl true) rfl ?_
    walk_at "go"
    exact q
  | num i =>
    refine Ok.mk (a := D.bl false) rfl ?_
    walk_at "go"
    refine gMul_r (by omega) h2 ?_
    walk_at "go"
    exact q
theorem least_ahead_r (hn : 0 ≤ n) (h2 : n < 2 ^ 64) (q : Q ((aheadF f n).d, [.non, .non])) : Ok (F_least_ahead [f.d, .int n]) Q := by
  unfold F_least_ahead
  walk_at "go"
  cases f with
  | never =>
    refine Ok.mk (a := D.bl true) rfl ?_
    walk_at "go"
    exact q
  | deep =>
    refine Ok.mk (a := D.bl false) rfl ?_
    walk_at "go"
    refine ited (fun h => ?_) (fun h => ?_)
    · walk_at "go"
      unfold aheadF at q
      rw [if_neg (fun z => by omega)] at q
      exact q
    · walk_at "go"
      refine low_times_r (f := .deep) (by omega) h2 ?_
      walk_at "go"
      refine least2 (f := .num 0) (g := .deep) ?_
      walk_at "go"
      unfold aheadF at q
      rw [if_pos ⟨rfl, by omega⟩] at q
      exact q
  | num i =>
    refine Ok.mk (a := D.bl false) rfl ?_
    walk_at "go"
    refine ited (fun h => ?_) (fun h => ?_)
    · walk_at "go"
      unfold aheadF at q
      rw [if_neg (fun z => by omega)] at q
      exact q
    · walk_at "go"
      refine low_times_r (f := .num i) (by omega) h2 ?_
      walk_at "go"
      refine least2 (f := .num 0) (g := .num (i * n)) ?_
      walk_at "go"
      unfold aheadF at q
      by_cases hi : i < 0
      · rw [if_pos ⟨decide_eq_true hi, by omega⟩] at q
        have : i * n < 0 := Int.mul_neg_of_neg_of_pos hi (by omega)
        have e : lo2 (.num 0) (.num (i * n)) = .num (i * n) := by
          unfold lo2 ltF
          rw [if_pos (decide_eq_true this)]
        rw [e]
        exact q
      · rw [if_neg (fun z => hi (of_decide_eq_true z.1))] at q
        have : ¬ i * n < 0 := by
          have := Int.mul_nonneg (show (0 : Int) ≤ i by omega) hn
          omega
        have e : lo2 (.num 0) (.num (i * n)) = .num 0 := by
          show (if decide (i * n < 0) = true then Fg.num (i * n) else .num 0) = _
          rw [if_neg (by rw [decide_eq_false this]; exact Bool.false_ne_true)]
        rw [e]
        exact q
theorem more_r (hf : f ≠ .never) (hg : g ≠ .never) (q : Q ((subF f g).d, [.non, .non])) : Ok (F_need_behind_or_more [f.d, g.d]) Q := by
  refine ⟨_, ?_, q⟩
  cases f with
  | never => exact absurd rfl hf
  | deep => cases g with
    | never => exact absurd rfl hg
    | _ => rfl
  | num i => cases g with
    | never => exact absurd rfl hg
    | _ => rfl
theorem ahead_nn : aheadF f n ≠ .never := by
  unfold aheadF
  split
  · rename_i h
    cases f with
    | never => exact fun _ => absurd h.1 Bool.false_ne_true
    | _ => exact fun z => nomatch z
  · exact fun z => nomatch z
theorem nd_nn {f : Fg} (h : f.nd) : f ≠ .never := fun e => by rw [e] at h; exact h
end
theorem at_int {c : List Int} {p : Nat} (h : p < c.length) : atI (c.map D.int) (p : Nat) = some (.int (c.getD p 0)) :=
  atI_nat (by rw [List.getElem?_map, List.getElem?_eq_getElem h, List.getD_eq_getElem?_getD, List.getElem?_eq_getElem h]; rfl)
theorem change_need_r {c : List Int} {p : Nat} (h : p < c.length) {Q : D × List D → Prop} (q : Q (.int (if -(c.getD p 0) > 0 then -(c.getD p 0) else 0), [.non, .non])) : Ok (F_change_need [.tup (c.map .int), .int (p : Nat)]) Q := by
  unfold F_change_need
  walk_at "go"
  refine gIx_t (at_int h) ?_
  walk_at "go"
  refine Ok.mk rfl ?_
  walk_at "go"
  exact q
/-- folds of two ways -/
theorem fold_lo {l : List Fg} {b : Fg} : foldF ltF l b = l.foldl lo2 b := by
  induction l generalizing b with
  | nil => rfl
  | cons a l ih =>
    show foldF ltF l (if ltF a b = true then a else b) = l.foldl lo2 (lo2 b a)
    rw [ih]
    rfl
theorem fold_ne {l : List Fg} {b : Fg} : foldF (fun l b => needF b l) l b = l.foldl ne2 b := by
  induction l generalizing b with
  | nil => rfl
  | cons a l ih =>
    show foldF (fun l b => needF b l) l (if needF b a = true then a else b) = l.foldl ne2 (ne2 b a)
    rw [ih]
    rfl
theorem lo2_self {f : Fg} : lo2 f f = f := by unfold lo2; split <;> rfl
theorem ne2_self {f : Fg} : ne2 f f = f := by unfold ne2; split <;> rfl
theorem great3 {a b c : Fg} (ha : a.nd) (hb : b.nd) (hc : c.nd) {Q : D × List D → Prop} (q : Q ((ne2 (ne2 a b) c).d, [.non])) : Ok (F_greatest_need [.tup [a.d, b.d, c.d]]) Q := by
  refine greatest_need_r (a := a) (ls := [b, c]) (fun x hx => ?_) ?_
  · rcases List.mem_cons.mp hx with rfl | hx
    · exact ha
    · rcases List.mem_cons.mp hx with rfl | hx
      · exact hb
      · rw [List.mem_singleton.mp hx]
        exact hc
  · rw [fold_ne]
    show Q ((ne2 (ne2 (ne2 a a) b) c).d, _)
    rw [ne2_self]
    exact q
theorem eit_fold : ∀ {fs : List Fi} {f : Fi}, fs.foldl eit2 f = ((fs.map (·.1)).foldl ne2 f.1, (fs.map (·.2.1)).foldl lo2 f.2.1, (fs.map (·.2.2)).foldl lo2 f.2.2)
  | [], f => rfl
  | g :: fs, f => by
    show fs.foldl eit2 (eit2 f g) = _
    rw [eit_fold]
    rfl
theorem atI_m1 {α : Type} {xs : List α} {x : α} : atI (xs ++ [x]) (-1) = some x := by
  unfold atI ixN
  rw [if_neg (by omega), if_pos (by rw [List.length_append, List.length_singleton]; omega)]
  show (xs ++ [x])[_]? = _
  rw [show ((-1 : Int) + ((xs ++ [x]).length : Nat)).toNat = xs.length by rw [List.length_append, List.length_singleton]; omega]
  rw [List.getElem?_append_right (Nat.le_refl _), Nat.sub_self]
  rfl
instance : DecidableEq Fg := fun a b => match a, b with
  | .deep, .deep => isTrue rfl
  | .never, .never => isTrue rfl
  | .num i, .num j => if h : i = j then isTrue (by rw [h]) else isFalse (fun e => h (Fg.num.inj e))
  | .deep, .never => isFalse (fun e => nomatch e)
  | .deep, .num _ => isFalse (fun e => nomatch e)
  | .never, .deep => isFalse (fun e => nomatch e)
  | .never, .num _ => isFalse (fun e => nomatch e)
  | .num _, .deep => isFalse (fun e => nomatch e)
  | .num _, .never => isFalse (fun e => nomatch e)
theorem eq_deep {f : Fg} {Q : D → Prop} (q : Q (.bl (decide (f = .deep)))) : Ok (gEq f.d (.str "deep")) Q := by
  refine ⟨_, ?_, q⟩
  cases f <;> rfl
theorem at_bo {b : List (List St)} {k : Nat} : True := True.intro
/-! the program's figures -/
def prj (j : Nat) : D → D
  | .tup ds => (ds[j]?).getD .non
  | d => d
theorem prj_map {fs : List Fi} {j : Nat} {g : Fi → Fg} (h : ∀ f : Fi, [f.1.d, f.2.1.d, f.2.2.d][j]? = some (g f).d) : (fs.map fiD).map (prj j) = (fs.map g).map Fg.d := by
  rw [List.map_map, List.map_map]
  refine List.map_congr_left fun f _ => ?_
  show ([f.1.d, f.2.1.d, f.2.2.d][j]?).getD .non = (g f).d
  rw [h]
  rfl
theorem prj_mapC {f : Fi} {fs : List Fi} {j : Nat} {g : Fi → Fg} (h : ∀ f : Fi, [f.1.d, f.2.1.d, f.2.2.d][j]? = some (g f).d) : ((f :: fs).map fiD).map (prj j) = (g f :: fs.map g).map Fg.d := prj_map h
section
variable {t : List (List Pr)} {q m p : Nat}
theorem fi_ret {f : Fi} : fiD f = .tup [f.1.d, f.2.1.d, f.2.2.d] := rfl
theorem word_in {u : Bool} {Q : D → Prop} (k : Q (.bl true)) : Ok (gIn false (.str (if u = true then "upto" else "repeat")) (.tup [.str "repeat", .str "upto"])) Q := by
  cases u
  · exact Ok.mk rfl k
  · exact Ok.mk rfl k
theorem word_eq {u : Bool} {x : PySem.Str} {Q : D → Prop} (hx : x = "change" ∨ x = "call" ∨ x = "either" ∨ x = "loop") (k : Q (.bl false)) : Ok (gEq (.str (if u = true then "upto" else "repeat")) (.str x)) Q := by
  rcases hx with rfl | rfl | rfl | rfl <;> cases u <;> exact Ok.mk rfl k
theorem word_upto {u : Bool} {Q : D → Prop} (k : Q (.bl u)) : Ok (gEq (.str (if u = true then "upto" else "repeat")) (.str "upto")) Q := by
  cases u <;> exact Ok.mk rfl k
theorem loop_r {n : Nat} {b : D} {f : Fi} (h : F_body_figures n [tabD t, b, .int (p : Nat)] = .ok (fiD f, [.non, .non, .non])) {Q : D × List D → Prop} (k : Q (fiD (loopF f), [.non, .non, .non])) : Ok (F_loop_figures (n + 1) [tabD t, b, .int (p : Nat)]) Q := by
  refine Ok.eq (congrFun (F_loop_figures_succ n) _) ?_
  walk_at "go"
  refine Ok.mk h ?_
  walk_at "go"
  refine Ok.mk rfl ?_
  walk_at "go"
  refine eq_deep ?_
  walk_at "go"
  refine ited (fun hd => ?_) (fun hd => ?_)
  · walk_at "go"
    refine low_sum_r (f := .deep) ?_
    walk_at "go"
    have e : loopF f = (.deep, .deep, sumF .deep f.2.2) := by
      unfold loopF
      rw [if_pos (by rw [hd]; rfl)]
    rw [e] at k
    exact k
  · walk_at "go"
    refine low_less_r (f := f.2.1) (g := .num 0) ?_
    walk_at "go"
    have ef : ltF f.2.1 (.num 0) = fallsF f.2.1 := by
      cases e : f.2.1 with
      | deep => exact absurd e hd
      | never => rfl
      | num i => rfl
    rw [ef]
    refine ite2 (fun hc => ?_) (fun hc => ?_)
    · walk_at "go"
      refine low_sum_r (f := .deep) ?_
      walk_at "go"
      have e : loopF f = (.deep, .deep, sumF .deep f.2.2) := by
        unfold loopF
        rw [if_pos hc]
      rw [e] at k
      exact k
    · walk_at "go"
      have e : loopF f = (f.1, .num 0, f.2.2) := by
        unfold loopF
        rw [if_neg (by rw [hc]; exact Bool.false_ne_true)]
      rw [e] at k
      exact k
theorem counted_r {n : Nat} {b : D} {u : Bool} {i : Int} {f : Fi} (h : F_body_figures n [tabD t, b, .int (p : Nat)] = .ok (fiD f, [.non, .non, .non])) (hf : f.1.nd) (h0 : 0 ≤ i) (h1 : i ≤ 1000) {Q : D × List D → Prop} (k : Q (fiD (repF u i f), [.non, .non, .non])) :
    Ok (F_counted_figures (n + 1) [tabD t, .tup [.str (if u = true then "upto" else "repeat"), .int i, b], .int (p : Nat)]) Q := by
  refine Ok.eq (congrFun (F_counted_figures_succ n) _) ?_
  walk_at "go"
  refine Ok.mk rfl ?_
  walk_at "go"
  refine ited (fun hi => ?_) (fun hi => ?_)
  · walk_at "go"
    unfold repF at k
    rw [if_pos hi] at k
    exact k
  · walk_at "go"
    refine Ok.mk h ?_
    walk_at "go"
    refine Ok.mk rfl ?_
    walk_at "go"
    refine least_ahead_r (by omega) (by omega) ?_
    walk_at "go"
    refine low_times_r (by omega) (by omega) ?_
    walk_at "go"
    refine word_upto ?_
    walk_at "go"
    unfold repF at k
    rw [if_neg hi] at k
    cases u with
    | true =>
      walk_at "go"
      refine least2 (f := .num 0) ?_
      walk_at "go"
      refine more_r (nd_nn hf) ahead_nn ?_
      walk_at "go"
      exact k
    | false =>
      walk_at "go"
      refine more_r (nd_nn hf) ahead_nn ?_
      walk_at "go"
      exact k
theorem either_r {n : Nat} {bs : List D} {fs : List Fi} (hl : bs.length = fs.length) (hne : fs ≠ []) (h16 : bs.length ≤ 16777216) (h : ∀ (i : Nat) b f, bs[i]? = some b → fs[i]? = some f → F_body_figures n [tabD t, b, .int (p : Nat)] = .ok (fiD f, [.non, .non, .non])) (hnd : ∀ f ∈ fs, f.1.nd) {Q : D × List D → Prop} (k : Q (fiD (eitF fs), [.non, .non, .non])) :
    Ok (F_either_figures (n + 1) [tabD t, .tup bs, .int (p : Nat)]) Q := by
  refine Ok.eq (congrFun (F_either_figures_succ n) _) ?_
  walk_at "go"
  refine w_seqI ?_
  walk_at "go"
  refine ⟨_, rfl, h16, ?_⟩
  refine w_cloop (fun es acc ρ => ∃ done : Nat, es = bs.drop done ∧ acc = (fs.take done).map fiD ∧ done ≤ bs.length ∧ ρ = [some (tabD t), some (.tup bs), some (.int (p : Nat)), none, none, none, none, none, none]) ?_ ?_ ⟨0, rfl, rfl, Nat.zero_le _, rfl⟩
  · rintro d es acc ρ ⟨done, e, rfl, hd, rfl⟩
    have hlt : done < bs.length := by
      have := congrArg List.length e
      rw [List.length_cons, List.length_drop] at this
      omega
    rw [List.drop_eq_getElem_cons hlt] at e
    obtain ⟨e1, e2⟩ := List.cons.inj e
    have hf : fs[done]? = some (fs[done]'(by omega)) := List.getElem?_eq_getElem (by omega)
    have hb : bs[done]? = some d := by rw [List.getElem?_eq_getElem hlt, e1]
    walk_at "go"
    refine Ok.mk (h done d _ hb hf) ?_
    walk_at "go"
    refine ⟨done + 1, e2, ?_, hlt, rfl⟩
    rw [List.take_add_one, hf, List.map_append]
    rfl
  · rintro acc ρ ⟨done, e, rfl, hd, rfl⟩
    have hdone : done = bs.length := by
      have := congrArg List.length e
      rw [List.length_drop, List.length_nil] at this
      omega
    rw [hdone, hl, List.take_of_length_le (Nat.le_refl _)]
    have hfl0 : fs.length ≤ 16777216 := by rw [← hl]; exact h16
    clear hl h hd hdone e
    obtain ⟨f, fs, rfl⟩ : ∃ f fs', fs = f :: fs' := by
      cases fs with
      | nil => exact absurd rfl hne
      | cons f fs => exact ⟨f, fs, rfl⟩
    have hfl : ((f :: fs).map fiD).length ≤ 16777216 := by rw [List.length_map]; exact hfl0
    walk_at "go"
    refine w_seqI ?_
    walk_at "go"
    refine ⟨_, rfl, hfl, ?_⟩
    refine w_cmap (prj 0) (fun d hd => ?_) ?_
    · obtain ⟨f, _, rfl⟩ := List.mem_map.mp hd
      walk_at "go"
      exact ⟨rfl, rfl⟩
    rw [prj_mapC (j := 0) (g := (fun x : Fi => x.1)) (fun f => rfl)]
    walk_at "go"
    refine w_seqI ?_
    walk_at "go"
    refine ⟨_, rfl, hfl, ?_⟩
    refine w_cmap (prj 1) (fun d hd => ?_) ?_
    · obtain ⟨f, _, rfl⟩ := List.mem_map.mp hd
      walk_at "go"
      exact ⟨rfl, rfl⟩
    rw [prj_mapC (j := 1) (g := (fun x : Fi => x.2.1)) (fun f => rfl)]
    walk_at "go"
    refine w_seqI ?_
    walk_at "go"
    refine ⟨_, rfl, hfl, ?_⟩
    refine w_cmap (prj 2) (fun d hd => ?_) ?_
    · obtain ⟨f, _, rfl⟩ := List.mem_map.mp hd
      walk_at "go"
      exact ⟨rfl, rfl⟩
    rw [prj_mapC (j := 2) (g := (fun x : Fi => x.2.2)) (fun f => rfl)]
    walk_at "go"
    have key : True := True.intro
    · refine greatest_needL_r (a := f.1) (ls := fs.map fun x : Fi => x.1) (fun x hx => ?_) ?_
      · have : x ∈ (f :: fs).map (·.1) := hx
        obtain ⟨g, hg, rfl⟩ := List.mem_map.mp this
        exact hnd g hg
      walk_at "go"
      refine least_lowL_r (a := f.2.1) (ls := fs.map fun x : Fi => x.2.1) ?_
      walk_at "go"
      refine least_lowL_r (a := f.2.2) (ls := fs.map fun x : Fi => x.2.2) ?_
      walk_at "go"
      have e : eitF (f :: fs) = (foldF (fun l b => needF b l) (f.1 :: fs.map (·.1)) f.1, foldF ltF (f.2.1 :: fs.map (·.2.1)) f.2.1, foldF ltF (f.2.2 :: fs.map (·.2.2)) f.2.2) := by
        show fs.foldl eit2 f = _
        rw [eit_fold, fold_ne, fold_lo, fold_lo]
        show _ = (List.foldl ne2 (ne2 f.1 f.1) _, List.foldl lo2 (lo2 f.2.1 f.2.1) _, List.foldl lo2 (lo2 f.2.2 f.2.2) _)
        rw [ne2_self, lo2_self, lo2_self]
      rw [e] at k
      exact k
end
end K10
namespace K10
local macro_rules | `(tactic| walk_at "st") => `(tactic| with_reducible first | refine low_sum_r ?_ | refine low_rank_r ?_ | refine key_lt ?_ | refine low_less_r ?_ | refine least2 ?_ | refine word_upto ?_ | refine word_in ?_)
local macro_rules | `(tactic| walk_at "st") => `(tactic| first
  | ((with_reducible show Ok (gEq (D.str (PySem.Str.ofString _)) (D.str (PySem.Str.ofString _))) _); first | refine Ok.mk (a := D.bl true) rfl ?_ | refine Ok.mk (a := D.bl false) rfl ?_)
  | ((with_reducible show Ok (gIn false (D.str (PySem.Str.ofString _)) (D.tup _)) _); first | refine Ok.mk (a := D.bl true) rfl ?_ | refine Ok.mk (a := D.bl false) rfl ?_)
  | ((with_reducible show Ok (gIn false (D.str (PySem.Str.ofString _)) (D.tup _)) _); first | refine Ok.mk (a := D.bl true) rfl ?_ | refine Ok.mk (a := D.bl false) rfl ?_)
  | ((with_reducible show Ok (gtTup _ _ (D.tup [_, _, _]) _) _); refine Ok.mk rfl ?_)
  | ((with_reducible show Ok (gtTup _ _ (fiD _) _) _); refine Ok.mk rfl ?_))
theorem okEq {α : Type} {x : Res α} {a : α} (h : Ok x fun r => r = a) : x = .ok a := by
  obtain ⟨b, e, q⟩ := h
  rw [e, q]
theorem at_tab {t : List (List Pr)} {r : List Pr} {k : Nat} (h : t[k]? = some r) : atI (t.map rowD) (k : Nat) = some (rowD r) := atI_nat (by rw [List.getElem?_map, h]; rfl)
theorem at_row {r : List Pr} {x : Pr} {k : Nat} (h : r[k]? = some x) : atI (r.map prD) (k : Nat) = some (prD x) := atI_nat (by rw [List.getElem?_map, h]; rfl)
theorem word_neq {u : Bool} {x : PySem.Str} {Q : D → Prop} (hx : x = "change" ∨ x = "call" ∨ x = "either" ∨ x = "loop") (k : Q (.bl false)) : Ok (gEq (.str (if u = true then "upto" else "repeat")) (.str x)) Q := by
  rcases hx with rfl | rfl | rfl | rfl <;> cases u <;> exact Ok.mk rfl k
theorem bosD_len : ∀ bs : List (List St), (bosD bs).length = bs.length := fun bs => by rw [bosD_map, List.length_map]
theorem boD_len : ∀ b : List St, (boD b).length = b.length := fun b => by rw [boD_map, List.length_map]
theorem figBs_len {t : List (List Pr)} {p : Nat} : ∀ bs : List (List St), (figBs t p bs).length = bs.length
  | [] => rfl
  | b :: bs => by rw [figBs, List.length_cons, List.length_cons, figBs_len bs]
mutual
def szS : St → Nat
  | .eit bs => 1 + szBs bs
  | .loop b => 1 + szB b
  | .rep _ _ b => 1 + szB b
  | _ => 1
def szB : List St → Nat
  | [] => 0
  | s :: b => szS s + szB b
def szBs : List (List St) → Nat
  | [] => 0
  | b :: bs => 1 + szB b + szBs bs
end
theorem szBs_len : ∀ bs : List (List St), bs.length ≤ szBs bs
  | [] => Nat.le_refl _
  | b :: bs => by
    have := szBs_len bs
    rw [szBs, List.length_cons]
    omega
mutual
theorem stat_e {t : List (List Pr)} {q m p : Nat} (ht : tbOk t q m) (hp : p < m) : ∀ (s : St) (n : Nat), 3 * dpS s + 1 ≤ n → okS q m s → szS s ≤ 16777216 → F_statement_figures n [tabD t, stD s, .int (p : Nat)] = .ok (fiD (figS t p s), [.non, .non, .non])
  | .chg c, 0, h, _, _ => by omega
  | .chg c, n + 1, _, hs, _ => by
    have hs' : c.length = m := hs
    refine okEq (Ok.eq (congrFun (F_statement_figures_succ n) _) ?_)
    rw [stD]
    walk_at "go"
    refine change_need_r (by omega) ?_
    walk_at "go"
    refine gIx_t (at_int (by omega)) ?_
    walk_at "go"
    rfl
  | .call k, 0, h, _, _ => by omega
  | .call k, n + 1, _, hs, _ => by
    obtain ⟨r, e1, e2, _⟩ := pair_get ht (show k < q from hs) hp
    refine okEq (Ok.eq (congrFun (F_statement_figures_succ n) _) ?_)
    rw [stD]
    walk_at "go"
    refine gIx_t (at_tab e1) ?_
    walk_at "go"
    refine gIx_t (at_row e2) ?_
    walk_at "go"
    rfl
  | .back, 0, h, _, _ => by omega
  | .back, n + 1, _, hs, _ => by
    refine okEq (Ok.eq (congrFun (F_statement_figures_succ n) _) ?_)
    rw [stD]
    walk_at "go"
    rfl
  | .stop, 0, h, _, _ => by omega
  | .stop, n + 1, _, hs, _ => by
    refine okEq (Ok.eq (congrFun (F_statement_figures_succ n) _) ?_)
    rw [stD]
    walk_at "go"
    rfl
  | .eit bs, 0, h, _, _ => by omega
  | .eit bs, 1, h, _, _ => by rw [dpS] at h; omega
  | .eit bs, n + 2, h, hs, hz => by
    have h' : bs ≠ [] ∧ okBs q m bs := hs
    rw [dpS] at h
    rw [szS] at hz
    have hl := szBs_len bs
    refine okEq (Ok.eq (congrFun (F_statement_figures_succ (n + 1)) _) ?_)
    rw [stD]
    walk_at "go"
    refine either_r (fs := figBs t p bs) (by rw [bosD_len, figBs_len]) ?_ (by rw [bosD_len]; omega) (bos_e ht hp bs n (by omega) h'.2 (by omega)) (figBs_nd ht hp bs h'.2) ?_
    · intro e
      have := figBs_len (t := t) (p := p) bs
      rw [e] at this
      exact h'.1 (List.length_eq_zero_iff.mp this.symm)
    walk_at "go"
    rfl
  | .loop b, 0, h, _, _ => by omega
  | .loop b, 1, h, _, _ => by rw [dpS] at h; omega
  | .loop b, n + 2, h, hs, hz => by
    rw [dpS] at h
    rw [szS] at hz
    refine okEq (Ok.eq (congrFun (F_statement_figures_succ (n + 1)) _) ?_)
    rw [stD]
    walk_at "go"
    refine loop_r (body_e ht hp b n (by omega) hs (by omega)) ?_
    walk_at "go"
    rfl
  | .rep u i b, 0, h, _, _ => by omega
  | .rep u i b, 1, h, _, _ => by rw [dpS] at h; omega
  | .rep u i b, n + 2, h, hs, hz => by
    have h' : 0 ≤ i ∧ i ≤ 1000 ∧ okB q m b := hs
    rw [dpS] at h
    rw [szS] at hz
    refine okEq (Ok.eq (congrFun (F_statement_figures_succ (n + 1)) _) ?_)
    rw [stD]
    walk_at "go"
    refine word_neq (.inl rfl) ?_
    walk_at "go"
    refine word_neq (.inr (.inl rfl)) ?_
    walk_at "go"
    refine word_neq (.inr (.inr (.inl rfl))) ?_
    walk_at "go"
    refine word_neq (.inr (.inr (.inr rfl))) ?_
    walk_at "go"
    refine counted_r (body_e ht hp b n (by omega) h'.2.2 (by omega)) (figB_nd ht hp fi0 b (Int.le_refl 0) h'.2.2) h'.1 h'.2.1 ?_
    walk_at "go"
    rfl
theorem body_e {t : List (List Pr)} {q m p : Nat} (ht : tbOk t q m) (hp : p < m) : ∀ (b : List St) (n : Nat), 3 * dpB b + 2 ≤ n → okB q m b → szB b ≤ 16777216 → F_body_figures n [tabD t, .tup (boD b), .int (p : Nat)] = .ok (fiD (figB t p fi0 b), [.non, .non, .non])
  | b, 0, h, _, _ => by omega
  | b, n + 1, h, hs, hz => by
    have items := sts_e ht hp b n (by omega) hs hz
    refine okEq (Ok.eq (congrFun (F_body_figures_succ n) _) ?_)
    walk_at "go"
    refine w_seqI ?_
    walk_at "go"
    refine ⟨_, rfl, ?_⟩
    refine w_loop (fun es ρ => ∃ (rest : List St) (a : Fi) (x6 x7 x8 x9 x10 : Option D), es = boD rest ∧ a.1.nd ∧ okB q m rest ∧ (∀ s ∈ rest, F_statement_figures n [tabD t, stD s, .int (p : Nat)] = .ok (fiD (figS t p s), [.non, .non, .non])) ∧ figB t p a rest = figB t p fi0 b ∧
      ρ = [some (tabD t), some (.tup (boD b)), some (.int (p : Nat)), some a.1.d, some a.2.1.d, some a.2.2.d, x6, x7, x8, x9, x10]) ?_ ?_ _ _ ⟨b, fi0, none, none, none, none, none, rfl, Int.le_refl 0, hs, items, rfl, rfl⟩
    · rintro d es ρ ⟨rest, a, x6, x7, x8, x9, x10, e, ha, ho, hi, hf, rfl⟩
      cases rest with
      | nil => cases e
      | cons s rest =>
        obtain ⟨e1, e2⟩ := List.cons.inj (show d :: es = stD s :: boD rest from e)
        subst e1 e2
        walk_at "go"
        refine Ok.mk (hi s List.mem_cons_self) ?_
        walk_at "go"
        have hnd := figS_nd ht hp s ho.1
        refine need_behind_r hnd ?_
        walk_at "go"
        refine need_behind_r (f := .num 0) (Int.le_refl 0) ?_
        walk_at "go"
        refine great3 ha (behind_nd hnd) (behind_nd (f := .num 0) (Int.le_refl 0)) ?_
        walk_at "go"
        exact ⟨rest, addF a (figS t p s), _, _, _, _, _, rfl, addF_nd ha hnd, ho.2, fun s hs => hi s (List.mem_cons_of_mem _ hs), hf, rfl⟩
    · rintro ρ ⟨rest, a, x6, x7, x8, x9, x10, e, ha, ho, hi, hf, rfl⟩
      cases rest with
      | cons s rest => cases e
      | nil =>
        have hf' : a = figB t p fi0 b := hf
        walk_at "go"
        rw [← hf']
theorem sts_e {t : List (List Pr)} {q m p : Nat} (ht : tbOk t q m) (hp : p < m) : ∀ (b : List St) (n : Nat), 3 * dpB b + 1 ≤ n → okB q m b → szB b ≤ 16777216 → ∀ s ∈ b, F_statement_figures n [tabD t, stD s, .int (p : Nat)] = .ok (fiD (figS t p s), [.non, .non, .non])
  | [], _, _, _, _, s, hs => nomatch hs
  | s0 :: b, n, h, ho, hz, s, hs => by
    rw [dpB] at h
    rw [szB] at hz
    rcases List.mem_cons.mp hs with e | hs
    · rw [e]
      exact stat_e ht hp s0 n (by omega) ho.1 (by omega)
    · exact sts_e ht hp b n (by omega) ho.2 (by omega) s hs
theorem bos_e {t : List (List Pr)} {q m p : Nat} (ht : tbOk t q m) (hp : p < m) : ∀ (bs : List (List St)) (n : Nat), 3 * dpBs bs + 2 ≤ n → okBs q m bs → szBs bs ≤ 16777216 → ∀ (i : Nat) b f, (bosD bs)[i]? = some b → (figBs t p bs)[i]? = some f → F_body_figures n [tabD t, b, .int (p : Nat)] = .ok (fiD f, [.non, .non, .non])
  | [], _, _, _, _, i, b, f, h, _ => by simp [bosD] at h
  | b0 :: bs, n, hn, ho, hz, 0, b, f, h1, h2 => by
    have e1 : D.tup (boD b0) = b := Option.some.inj h1
    have e2 : figB t p fi0 b0 = f := Option.some.inj h2
    rw [dpBs] at hn
    rw [szBs] at hz
    rw [← e1, ← e2]
    exact body_e ht hp b0 n (by omega) ho.1 (by omega)
  | b0 :: bs, n, hn, ho, hz, i + 1, b, f, h1, h2 => by
    rw [dpBs] at hn
    rw [szBs] at hz
    exact bos_e ht hp bs n (by omega) ho.2 (by omega) i b f h1 h2
end
end K10
namespace K10
local macro_rules | `(tactic| walk_at "st") => `(tactic| with_reducible first | refine low_sum_r ?_ | refine low_rank_r ?_ | refine key_lt ?_ | refine low_less_r ?_ | refine least2 ?_ | refine word_upto ?_ | refine word_in ?_)
local macro_rules | `(tactic| walk_at "st") => `(tactic| first
  | ((with_reducible show Ok (gEq (D.str (PySem.Str.ofString _)) (D.str (PySem.Str.ofString _))) _); first | refine Ok.mk (a := D.bl true) rfl ?_ | refine Ok.mk (a := D.bl false) rfl ?_)
  | ((with_reducible show Ok (gIn false (D.str (PySem.Str.ofString _)) (D.tup _)) _); first | refine Ok.mk (a := D.bl true) rfl ?_ | refine Ok.mk (a := D.bl false) rfl ?_)
  | ((with_reducible show Ok (gIn false (D.str (PySem.Str.ofString _)) (D.tup _)) _); first | refine Ok.mk (a := D.bl true) rfl ?_ | refine Ok.mk (a := D.bl false) rfl ?_)
  | ((with_reducible show Ok (gtTup _ _ (D.tup [_, _, _]) _) _); refine Ok.mk rfl ?_)
  | ((with_reducible show Ok (gtTup _ _ (fiD _) _) _); refine Ok.mk rfl ?_))
mutual
def Pl : D → Bool
  | .tup ds => Pls ds
  | .lst _ => false
  | .fn _ => false
  | .ty _ => false
  | .non => true
  | .bl _ => true
  | .int _ => true
  | .str _ => true
def Pls : List D → Bool
  | [] => true
  | d :: ds => Pl d && Pls ds
end
mutual
def wzD : D → Nat
  | .tup ds => 1 + wzS ds
  | .lst ds => 1 + wzS ds
  | .fn _ => 1
  | .ty _ => 1
  | .non => 1
  | .bl _ => 1
  | .int _ => 1
  | .str _ => 1
def wzS : List D → Nat
  | [] => 0
  | d :: ds => wzD d + wzS ds
end
theorem Pls_app : ∀ {as bs : List D}, Pls (as ++ bs) = (Pls as && Pls bs)
  | [], bs => by rw [List.nil_append, Pls, Bool.true_and]
  | a :: as, bs => by rw [List.cons_append, Pls, Pls, Pls_app, Bool.and_assoc]
theorem wzS_app : ∀ {as bs : List D}, wzS (as ++ bs) = wzS as + wzS bs
  | [], bs => by rw [List.nil_append, wzS, Nat.zero_add]
  | a :: as, bs => by rw [List.cons_append, wzS, wzS, wzS_app, Nat.add_assoc]
theorem wzD_pos : ∀ d : D, 1 ≤ wzD d
  | .tup ds => by unfold wzD; omega
  | .lst ds => by unfold wzD; omega
  | .fn _ => by unfold wzD; omega
  | .ty _ => by unfold wzD; omega
  | .non => by unfold wzD; omega
  | .bl _ => by unfold wzD; omega
  | .int _ => by unfold wzD; omega
  | .str _ => by unfold wzD; omega
theorem wzS_len : ∀ ds : List D, ds.length ≤ wzS ds
  | [] => Nat.le_refl _
  | d :: ds => by
    have h1 := wzS_len ds
    have h2 := wzD_pos d
    rw [wzS, List.length_cons]
    omega
def pr (d : D) : D := .tup [d, d]

theorem pair_self : ∀ xs : List D, pairD xs xs = xs.map pr
  | [] => rfl
  | x :: xs => by
    show D.tup [x, x] :: pairD xs xs = pr x :: xs.map pr
    rw [pair_self xs]
    rfl
theorem same (d : D) (hp : Pl d = true) (hz : wzD d ≤ 16777216) {Q : D × List D → Prop} (q : Q (.bl true, [.non, .non])) : Ok (F__law_same [d, d]) Q := by
  unfold F__law_same
  walk_at "go"
  refine w_while (fun n ρ => ∃ st a b c, ρ = [some d, some d, some (.lst (st.map pr)), a, b, c] ∧ Pls st = true ∧ wzS st = n ∧ n ≤ 16777216) ?_ (wzS [d]) _ ⟨[d], none, none, none, rfl, by unfold Pls Pls; rw [hp]; rfl, rfl, by unfold wzS wzS; exact hz⟩
  rintro n ρ ⟨st, a, b, c, rfl, p1, p2, p3⟩
  rcases List.eq_nil_or_concat st with rfl | ⟨st', x, hst⟩
  · walk_at "go"
    refine Ok.mk rfl ?_
    refine ite2 (fun hc => nomatch hc) (fun hc => ?_)
    walk_at "go"
    exact q
  · rw [List.concat_eq_append] at hst
    subst hst
    walk_at "go"
    refine Ok.mk rfl ?_
    refine ite2 (fun hc => ?_) (fun hc => ?_)
    rotate_left
    · exact absurd hc (by simp)
    have e1 : (List.map pr (st' ++ [x]))[(List.map pr (st' ++ [x])).length - 1]? = some (pr x) := by simp
    have e2 : (List.map pr (st' ++ [x])).dropLast = st'.map pr := by simp
    rw [Pls_app, Bool.and_eq_true] at p1
    rw [wzS_app] at p2
    have px : Pl x = true := by
      have := p1.2
      unfold Pls Pls at this
      rw [Bool.and_true] at this
      exact this
    have zx : wzS [x] = wzD x := by unfold wzS wzS; rfl
    have zp := wzD_pos x
    walk_at "go"
    refine w_pop rfl (by exact e1) ?_
    rw [e2]
    unfold pr
    walk_at "go"
    cases x with
    | non =>
      walk_at "go"
      exact ⟨wzS st', by omega, st', _, _, _, rfl, p1.1, rfl, by omega⟩
    | bl k =>
      walk_at "go"
      exact ⟨wzS st', by omega, st', _, _, _, rfl, p1.1, rfl, by omega⟩
    | int k =>
      walk_at "go"
      exact ⟨wzS st', by omega, st', _, _, _, rfl, p1.1, rfl, by omega⟩
    | str k =>
      walk_at "go"
      exact ⟨wzS st', by omega, st', _, _, _, rfl, p1.1, rfl, by omega⟩
    | fn _ => cases px
    | ty _ => cases px
    | lst _ => cases px
    | tup ds =>
      walk_at "go"
      have zt : wzS [D.tup ds] = 1 + wzS ds := by simp only [wzS, wzD]; omega
      have zl := wzS_len ds
      have zl2 := wzS_len st'
      have pl : Pls ds = true := px
      refine w_zipT ?_
      walk_at "go"
      refine ⟨_, _, rfl, ?_⟩
      rw [pair_self]
      refine w_loop (fun es ρ => ∃ (done rest : List D) (c : Option D), es = rest.map pr ∧ done ++ rest = ds ∧ ρ = [some d, some d, some (.lst ((st' ++ done).map pr)), some (.tup ds), some (.tup ds), c]) ?_ ?_ _ _ ⟨[], ds, c, rfl, rfl, by rw [List.append_nil]; rfl⟩
      · rintro e es ρ ⟨done, rest, c, h1, h2, rfl⟩
        cases rest with
        | nil => cases h1
        | cons r rest =>
          obtain ⟨e1, e2⟩ := List.cons.inj (show e :: es = pr r :: rest.map pr from h1)
          subst e1 e2
          have hl := congrArg List.length h2
          rw [List.length_append, List.length_cons] at hl
          walk_at "go"
          refine ⟨by rw [List.length_map, List.length_append]; omega, ?_⟩
          have e3 : List.map pr (st' ++ done) ++ [pr r] = List.map pr (st' ++ (done ++ [r])) := by
            simp only [List.map_append, List.append_assoc]
            rfl
          refine ⟨done ++ [r], rest, some (pr r), rfl, by rw [← h2, List.append_assoc]; rfl, ?_⟩
          rw [← e3]
      · rintro ρ ⟨done, rest, c, h1, h2, rfl⟩
        cases rest with
        | cons _ _ => cases h1
        | nil =>
          rw [List.append_nil] at h2
          subst h2
          exact ⟨wzS (st' ++ done), by rw [wzS_app]; omega, st' ++ done, _, _, _, rfl, by rw [Pls_app, p1.1, pl]; rfl, rfl, by rw [wzS_app]; omega⟩
theorem same2 {d e : D} {Q : D × List D → Prop} (h : d = e) (hp : Pl d = true) (hz : wzD d ≤ 16777216) (q : Q (.bl true, [.non, .non])) : Ok (F__law_same [d, e]) Q := by
  rw [← h]
  exact same d hp hz q
end K10
namespace K10
local macro_rules | `(tactic| walk_at "fg") => `(tactic| (walk_at "ds"; repeat ((fail_if_success (with_reducible show Ok (dOrV _ _ _) _)); (fail_if_success (with_reducible show Ok (sIf (dAnd (dTru (dVar _)) _) _ _ _) _)); walk_at "st"; walk_at "ds")))
local macro_rules | `(tactic| walk_at "st") => `(tactic| with_reducible first | refine low_sum_r ?_ | refine low_rank_r ?_ | refine key_lt ?_ | refine low_less_r ?_ | refine least2 ?_ | refine word_upto ?_ | refine word_in ?_)
local macro_rules | `(tactic| walk_at "st") => `(tactic| first
  | ((with_reducible show Ok (gEq (D.str (PySem.Str.ofString _)) (D.str (PySem.Str.ofString _))) _); first | refine Ok.mk (a := D.bl true) rfl ?_ | refine Ok.mk (a := D.bl false) rfl ?_)
  | ((with_reducible show Ok (gIn false (D.str (PySem.Str.ofString _)) (D.tup _)) _); first | refine Ok.mk (a := D.bl true) rfl ?_ | refine Ok.mk (a := D.bl false) rfl ?_)
  | ((with_reducible show Ok (gIn false (D.str (PySem.Str.ofString _)) (D.tup _)) _); first | refine Ok.mk (a := D.bl true) rfl ?_ | refine Ok.mk (a := D.bl false) rfl ?_)
  | ((with_reducible show Ok (gtTup _ _ (D.tup [_, _, _]) _) _); refine Ok.mk rfl ?_)
  | ((with_reducible show Ok (gtTup _ _ (fiD _) _) _); refine Ok.mk rfl ?_))
section
variable {f g : Fg} {Q : D × List D → Prop}
theorem law_sum_r (q : Q ((sumF f g).d, [.non, .non])) : Ok (F__law_sum [f.d, g.d]) Q := ⟨_, by cases f <;> cases g <;> rfl, q⟩
theorem law_less_r (q : Q ((lo2 f g).d, [.non, .non])) : Ok (F__law_less [f.d, g.d]) Q := by
  refine ⟨_, ?_, q⟩
  cases f with
  | num i => cases g with
    | num j =>
      show Res.ok (D.int (if j < i then j else i), [D.non, D.non]) = .ok ((if decide (j < i) = true then Fg.num j else Fg.num i).d, [D.non, D.non])
      by_cases h : j < i
      · rw [if_pos h, if_pos (decide_eq_true h)]
        rfl
      · rw [if_neg h, if_neg (by rw [decide_eq_false h]; exact Bool.false_ne_true)]
        rfl
    | _ => rfl
  | _ => cases g <;> rfl
theorem law_more_r (hf : f.nd) (hg : g.nd) (q : Q ((ne2 f g).d, [.non, .non])) : Ok (F__law_more [f.d, g.d]) Q := by
  refine ⟨_, ?_, q⟩
  cases f with
  | never => cases hf
  | deep => cases g with
    | never => cases hg
    | _ => rfl
  | num i => cases g with
    | never => cases hg
    | deep => rfl
    | num j =>
      show Res.ok (D.int (if j > i then j else i), [D.non, D.non]) = .ok ((if decide (i < j) = true then Fg.num j else Fg.num i).d, [D.non, D.non])
      by_cases h : i < j
      · rw [if_pos h, if_pos (decide_eq_true h)]
        rfl
      · rw [if_neg h, if_neg (by rw [decide_eq_false h]; exact Bool.false_ne_true)]
        rfl
theorem law_behind_r (hf : f.nd) (q : Q ((behindF f g).d, [.non, .non])) : Ok (F__law_behind [f.d, g.d]) Q := by
  refine ⟨_, ?_, q⟩
  cases f with
  | never => cases hf
  | deep => cases g <;> rfl
  | num i => cases g with
    | num j => rfl
    | _ => rfl
end
/-- the figures of the bodies within -/
def inF (t : List (List Pr)) (p : Nat) : St → List Fi
  | .eit bs => figBs t p bs
  | .loop b => [figB t p fi0 b]
  | .rep _ _ b => [figB t p fi0 b]
  | _ => []
theorem cutL_one {α : Type} {x : α} {xs : List α} : cutL (x :: xs) (some 1) none = xs := by
  have e1 : HT.sIx (x :: xs).length 0 (some 1) = 1 := by
    have := HT.sIx_nat (x :: xs).length 0 1
    rw [show ((1 : Nat) : Int) = 1 from rfl] at this
    rw [this, List.length_cons]
    omega
  unfold cutL
  rw [e1, HT.sIx_none, List.drop_succ_cons, List.drop_zero, List.length_cons]
  exact List.take_of_length_le (by omega)
theorem word_bs {u : Bool} {x : PySem.Str} {Q : D → Prop} (hx : x = "back" ∨ x = "stop") (k : Q (.bl false)) : Ok (gEq (.str (if u = true then "upto" else "repeat")) (.str x)) Q := by
  rcases hx with rfl | rfl <;> cases u <;> exact Ok.mk rfl k
/-- whether a low falls, as the law asks it -/
theorem falls_r {i : Nat} {f : Fg} {ρ : Ev} (h : ρ[i]? = some (some f.d)) {Q : D × Ev → Prop} (k : Q (.bl (fallsF f), ρ)) :
    Ok (dOrV (dOp gEq (dVar i) (dConst (.str "deep"))) (dAndV (dOp gNe (dVar i) (dConst (.str "never"))) (dOp gLt (dVar i) (dConst (.int 0)))) ρ) Q := by
  refine w_orV ?_
  refine w_op ?_
  refine w_var h ?_
  refine w_const ?_
  cases f with
  | deep =>
    refine Ok.mk (a := D.bl true) rfl ?_
    refine g_trub ?_
    exact k
  | never =>
    refine Ok.mk (a := D.bl false) rfl ?_
    refine g_trub ?_
    refine w_andV ?_
    refine w_op ?_
    refine w_var h ?_
    refine w_const ?_
    refine Ok.mk (a := D.bl false) rfl ?_
    refine g_trub ?_
    exact k
  | num j =>
    refine Ok.mk (a := D.bl false) rfl ?_
    refine g_trub ?_
    refine w_andV ?_
    refine w_op ?_
    refine w_var h ?_
    refine w_const ?_
    refine Ok.mk (a := D.bl true) rfl ?_
    refine g_trub ?_
    refine w_op ?_
    refine w_var h ?_
    refine w_const ?_
    exact g_lt k
theorem sub_r {i j : Nat} {f g : Fg} {ρ : Ev} (hi : ρ[i]? = some (some f.d)) (hj : ρ[j]? = some (some g.d)) (hf : f ≠ .never) (hg : g ≠ .never) {Q : D × Ev → Prop} (k : Q ((subF f g).d, ρ)) :
    Ok (dIf (dOr (dBool (dOp gEq (dVar i) (dConst (.str "deep")))) (dBool (dOp gEq (dVar j) (dConst (.str "deep"))))) (dConst (.str "deep")) (dOp gSub (dVar i) (dVar j)) ρ) Q := by
  refine w_ife (w_or (w_bool (w_op (w_var hi (w_const (eq_deep ?_))))))
  refine ⟨_, rfl, ?_⟩
  refine ited (fun h => ?_) (fun h => ?_)
  · rw [if_pos rfl]
    subst h
    exact w_const k
  · refine w_bool (w_op (w_var hj (w_const (eq_deep ?_))))
    refine ⟨_, rfl, ?_⟩
    refine ited (fun h2 => ?_) (fun h2 => ?_)
    · subst h2
      refine w_const ?_
      cases f with
      | never => exact absurd rfl hf
      | _ => exact k
    · cases f with
      | never => exact absurd rfl hf
      | deep => exact absurd rfl h
      | num a => cases g with
        | never => exact absurd rfl hg
        | deep => exact absurd rfl h2
        | num b => exact w_op (w_var hi (w_var hj (g_sub k)))
theorem whole_r {i j : Nat} {f : Fg} {n : Int} {ρ : Ev} (hi : ρ[i]? = some (some f.d)) (hj : ρ[j]? = some (some (.int n))) (h0 : 0 < n) (h1 : n ≤ 1000) {Q : D × Ev → Prop} (k : Q ((timesF f n).d, ρ)) :
    Ok (dIf (dBool (dOp (gIn false) (dVar i) (dTup (dCons (dConst (.str "deep")) (dCons (dConst (.str "never")) dNil))))) (dVar i) (dOp gMul (dVar j) (dVar i)) ρ) Q := by
  refine w_ife (w_bool (w_op (w_var hi (w_tup (w_cons (w_const (w_cons (w_const (w_nils ?_)))))))))
  cases f with
  | deep =>
    refine Ok.mk (a := D.bl true) rfl ⟨_, rfl, ?_⟩
    rw [if_pos rfl]
    exact w_var hi k
  | never =>
    refine Ok.mk (a := D.bl true) rfl ⟨_, rfl, ?_⟩
    rw [if_pos rfl]
    exact w_var hi k
  | num a =>
    refine Ok.mk (a := D.bl false) rfl ⟨_, rfl, ?_⟩
    rw [if_neg Bool.false_ne_true]
    refine w_op (w_var hj (w_var hi (gMul_l (by omega) (by omega) ?_)))
    rw [Int.mul_comm]
    exact k
theorem set_same {ρ : Ev} {i : Nat} {d : D} (h : ρ[i]? = some (some d)) : ρ.set i (some d) = ρ := putD_self.set_self h
theorem ahead_r {i j k l : Nat} {f : Fg} {n : Int} {ρ : Ev} (hi : ρ[i]? = some (some (.bl (fallsF f)))) (hj : ρ[j]? = some (some (.int n))) (hk : ρ[k]? = some (some (.int 0))) (hl : ρ[l]? = some (some f.d)) (h0 : 0 < n) (h1 : n ≤ 1000) {Q : Fl → Prop} (q : Q (.nx (ρ.set k (some (aheadF f (n - 1)).d)))) :
    Ok (sIf (dAnd (dTru (dVar i)) (dBool (dOp gGt (dVar j) (dConst (.int 1))))) (sSet k (dIf (dBool (dOp gEq (dVar l) (dConst (.str "deep")))) (dConst (.str "deep")) (dOp gMul (dOp gSub (dVar j) (dConst (.int 1))) (dVar l)))) sNil ρ) Q := by
  refine w_if (w_and (w_tru (w_var hi (g_trub ?_))))
  refine ite2 (fun hf => ?_) (fun hf => ?_)
  · refine w_bool (w_op (w_var hj (w_const (g_gt ?_))))
    refine ⟨_, rfl, ?_⟩
    refine ited (fun hn => ?_) (fun hn => ?_)
    · refine w_set (w_ife (w_bool (w_op (w_var hl (w_const (eq_deep ?_))))))
      refine ⟨_, rfl, ?_⟩
      have ea : aheadF f (n - 1) = timesF f (n - 1) := if_pos ⟨hf, by omega⟩
      rw [ea] at q
      refine ited (fun hd => ?_) (fun hd => ?_)
      · subst hd
        exact w_const q
      · cases f with
        | deep => exact absurd rfl hd
        | never => cases hf
        | num a =>
          refine w_op (w_op (w_var hj (w_const (g_sub (w_var hl (gMul_l (by omega) (by omega) ?_))))))
          rw [Int.mul_comm]
          exact q
    · refine w_nil ?_
      have ea : aheadF f (n - 1) = .num 0 := if_neg (fun z => by omega)
      rw [ea, show (Fg.num 0).d = D.int 0 from rfl, set_same hk] at q
      exact q
  · rw [if_neg Bool.false_ne_true]
    refine w_nil ?_
    have ea : aheadF f (n - 1) = .num 0 := if_neg (fun z => by have hf' : fallsF f = false := hf; rw [hf'] at z; exact absurd z.1 Bool.false_ne_true)
    rw [ea, show (Fg.num 0).d = D.int 0 from rfl, set_same hk] at q
    exact q
theorem one_e {t : List (List Pr)} {q m p : Nat} (ht : tbOk t q m) (hp : p < m) (s : St) (hs : okS q m s) : F__law_one [stD s, tabD t, .int (p : Nat), .lst ((inF t p s).map fiD)] = .ok (fiD (figS t p s), [.non, .non, .non, .non]) := by
  cases s with
  | chg c =>
    have hs' : c.length = m := hs
    refine okEq ?_
    unfold F__law_one
    rw [stD]
    walk_at "go"
    refine gIx_t (at_int (by omega)) ?_
    walk_at "go"
    refine Ok.mk rfl ?_
    walk_at "go"
    refine gIx_t (at_int (by omega)) ?_
    walk_at "go"
    rfl
  | call k =>
    obtain ⟨r, e1, e2, _⟩ := pair_get ht (show k < q from hs) hp
    refine okEq ?_
    unfold F__law_one
    rw [stD]
    walk_at "go"
    refine gIx_t (at_tab e1) ?_
    walk_at "go"
    refine gIx_t (at_row e2) ?_
    walk_at "go"
    rfl
  | back =>
    refine okEq ?_
    unfold F__law_one
    rw [stD]
    walk_at "go"
    rfl
  | stop =>
    refine okEq ?_
    unfold F__law_one
    rw [stD]
    walk_at "go"
    rfl
  | eit bs =>
    have h' : bs ≠ [] ∧ okBs q m bs := hs
    have hnd := figBs_nd ht hp bs h'.2
    refine okEq ?_
    unfold F__law_one
    rw [stD]
    show Ok _ fun r => r = (fiD (eitF (figBs t p bs)), _)
    have ei : inF t p (.eit bs) = figBs t p bs := rfl
    rw [ei]
    cases hb : figBs t p bs with
    | nil =>
      have := figBs_len (t := t) (p := p) bs
      rw [hb] at this
      exact absurd (List.length_eq_zero_iff.mp this.symm) h'.1
    | cons f fs =>
      rw [hb] at hnd
      rw [List.map_cons]
      walk_at "go"
      refine w_seqI ?_
      walk_at "go"
      refine Ok.mk (a := D.lst (fs.map fiD)) ?_ ?_
      · show Res.ok (D.lst (cutL _ _ _)) = _
        rw [cutL_one]
      walk_at "go"
      refine ⟨_, rfl, ?_⟩
      refine w_loop (fun es ρ => ∃ (rest : List Fi) (a : Fi) (x9 x10 x11 : Option D), es = rest.map fiD ∧ a.1.nd ∧ (∀ x ∈ rest, x.1.nd) ∧ rest.foldl eit2 a = fs.foldl eit2 f ∧
        ρ = [some (.tup [.str "either", .tup (bosD bs)]), some (tabD t), some (.int (p : Nat)), some (.lst (fiD f :: fs.map fiD)), some (.str "either"), some a.1.d, none, some a.2.1.d, some a.2.2.d, x9, x10, x11, none, none, none, none]) ?_ ?_ _ _ ⟨fs, f, none, none, none, rfl, hnd f List.mem_cons_self, fun x hx => hnd x (List.mem_cons_of_mem _ hx), rfl, rfl⟩
      · rintro d es ρ ⟨rest, a, x9, x10, x11, e, ha, hr, hf, rfl⟩
        cases rest with
        | nil => cases e
        | cons g rest =>
          obtain ⟨e1, e2⟩ := List.cons.inj (show d :: es = fiD g :: rest.map fiD from e)
          subst e1 e2
          walk_at "go"
          refine w_par3 ?_
          walk_at "go"
          have hg := hr g List.mem_cons_self
          refine law_more_r ha hg ?_
          walk_at "go"
          refine law_less_r ?_
          walk_at "go"
          refine law_less_r ?_
          walk_at "go"
          refine ⟨_, _, _, rfl, ?_⟩
          exact ⟨rest, eit2 a g, _, _, _, rfl, ne2_nd ha hg, fun x hx => hr x (List.mem_cons_of_mem _ hx), hf, rfl⟩
      · rintro ρ ⟨rest, a, x9, x10, x11, e, ha, hr, hf, rfl⟩
        cases rest with
        | cons _ _ => cases e
        | nil =>
          walk_at "go"
          have hf' : a = fs.foldl eit2 f := hf
          rw [hf']
          rfl
  | loop b =>
    have hnd := figB_nd ht hp fi0 b (Int.le_refl 0) hs
    refine okEq ?_
    unfold F__law_one
    rw [stD]
    show Ok _ fun r => r = (fiD (loopF (figB t p fi0 b)), _)
    have ei : inF t p (.loop b) = [figB t p fi0 b] := rfl
    rw [ei]
    generalize hF : figB t p fi0 b = F at hnd
    obtain ⟨a1, a2, a3⟩ := F
    rw [List.map_cons, List.map_nil]
    walk_at "fg"
    refine falls_r rfl ?_
    walk_at "fg"
    refine ite2 (fun h => ?_) (fun h => ?_)
    · walk_at "fg"
      refine law_sum_r (f := .deep) ?_
      walk_at "fg"
      have : loopF (a1, a2, a3) = (.deep, .deep, sumF .deep a3) := if_pos h
      rw [this]
      rfl
    · walk_at "fg"
      have : loopF (a1, a2, a3) = (a1, .num 0, a3) := if_neg (by show ¬ fallsF a2 = true; rw [h]; exact Bool.false_ne_true)
      rw [this]
      rfl
  | rep u n b =>
    have h' : 0 ≤ n ∧ n ≤ 1000 ∧ okB q m b := hs
    have hnd := figB_nd ht hp fi0 b (Int.le_refl 0) h'.2.2
    refine okEq ?_
    unfold F__law_one
    rw [stD]
    show Ok _ fun r => r = (fiD (repF u n (figB t p fi0 b)), _)
    have ei : inF t p (.rep u n b) = [figB t p fi0 b] := rfl
    rw [ei]
    generalize hF : figB t p fi0 b = F at hnd
    obtain ⟨a1, a2, a3⟩ := F
    rw [List.map_cons, List.map_nil]
    by_cases h0 : n = 0
    · subst h0
      walk_at "fg"
      refine word_neq (.inl rfl) ?_
      walk_at "fg"
      refine word_neq (.inr (.inl rfl)) ?_
      walk_at "fg"
      refine word_bs (.inl rfl) ?_
      walk_at "fg"
      refine word_bs (.inr rfl) ?_
      walk_at "fg"
      refine word_neq (.inr (.inr (.inl rfl))) ?_
      walk_at "fg"
      refine falls_r rfl ?_
      walk_at "fg"
      refine word_neq (.inr (.inr (.inr rfl))) ?_
      walk_at "fg"
      refine ited (fun _ => ?_) (fun h => absurd rfl h)
      walk_at "fg"
      rfl
    · walk_at "fg"
      refine word_neq (.inl rfl) ?_
      walk_at "fg"
      refine word_neq (.inr (.inl rfl)) ?_
      walk_at "fg"
      refine word_bs (.inl rfl) ?_
      walk_at "fg"
      refine word_bs (.inr rfl) ?_
      walk_at "fg"
      refine word_neq (.inr (.inr (.inl rfl))) ?_
      walk_at "fg"
      refine falls_r rfl ?_
      walk_at "fg"
      refine word_neq (.inr (.inr (.inr rfl))) ?_
      walk_at "fg"
      refine ited (fun h => absurd h h0) (fun _ => ?_)
      walk_at "fg"
      refine ahead_r (f := a2) (by exact rfl) (by exact rfl) (by exact rfl) (by exact rfl) (by omega) h'.2.1 ?_
      refine w_seq (w_set (whole_r (f := a2) (n := n) (by exact rfl) (by exact rfl) (by omega) h'.2.1 ?_))
      refine w_ret (w_tup (w_cons (sub_r (f := a1) (g := aheadF a2 (n - 1)) (by exact rfl) (by exact rfl) (nd_nn hnd) ahead_nn ?_)))
      walk_at "fg"
      have er : repF u n (a1, a2, a3) = (subF a1 (aheadF a2 (n - 1)), if u = true then lo2 (.num 0) (timesF a2 n) else timesF a2 n, sumF (aheadF a2 (n - 1)) a3) := if_neg h0
      rw [er]
      cases u with
      | true =>
        walk_at "fg"
        refine law_less_r (f := .num 0) ?_
        walk_at "fg"
        refine law_sum_r ?_
        walk_at "fg"
        rfl
      | false =>
        walk_at "fg"
        refine law_sum_r ?_
        walk_at "fg"
        rfl
end K10
namespace K10
local macro_rules | `(tactic| walk_at "st") => `(tactic| with_reducible first | refine low_sum_r ?_ | refine low_rank_r ?_ | refine key_lt ?_ | refine low_less_r ?_ | refine least2 ?_ | refine word_upto ?_ | refine word_in ?_)
local macro_rules | `(tactic| walk_at "st") => `(tactic| first
  | ((with_reducible show Ok (gEq (D.str (PySem.Str.ofString _)) (D.str (PySem.Str.ofString _))) _); first | refine Ok.mk (a := D.bl true) rfl ?_ | refine Ok.mk (a := D.bl false) rfl ?_)
  | ((with_reducible show Ok (gIn false (D.str (PySem.Str.ofString _)) (D.tup _)) _); first | refine Ok.mk (a := D.bl true) rfl ?_ | refine Ok.mk (a := D.bl false) rfl ?_)
  | ((with_reducible show Ok (gIn false (D.str (PySem.Str.ofString _)) (D.tup _)) _); first | refine Ok.mk (a := D.bl true) rfl ?_ | refine Ok.mk (a := D.bl false) rfl ?_)
  | ((with_reducible show Ok (gtTup _ _ (D.tup [_, _, _]) _) _); refine Ok.mk rfl ?_)
  | ((with_reducible show Ok (gtTup _ _ (fiD _) _) _); refine Ok.mk rfl ?_))
/-! bounds -/
def bdF (B : Int) : Fg → Prop
  | .num i => -B ≤ i ∧ i ≤ B
  | _ => True
def bdFi (B : Int) (f : Fi) : Prop := bdF B f.1 ∧ bdF B f.2.1 ∧ bdF B f.2.2
theorem bdF_mono {A B : Int} (h : A ≤ B) {f : Fg} (hf : bdF A f) : bdF B f := by
  cases f with
  | num i => exact ⟨by have := hf.1; omega, by have := hf.2; omega⟩
  | _ => trivial
theorem bdFi_mono {A B : Int} (h : A ≤ B) {f : Fi} (hf : bdFi A f) : bdFi B f := ⟨bdF_mono h hf.1, bdF_mono h hf.2.1, bdF_mono h hf.2.2⟩
theorem bd_sum {A B : Int} {f g : Fg} (hf : bdF A f) (hg : bdF B g) : bdF (A + B) (sumF f g) := by
  cases f with
  | num i => cases g with
    | num j =>
      have h1 := hf.1
      have h2 := hf.2
      have h3 := hg.1
      have h4 := hg.2
      exact ⟨by omega, by omega⟩
    | _ => trivial
  | _ => cases g <;> trivial
theorem bd_lo2 {A : Int} {f g : Fg} (hf : bdF A f) (hg : bdF A g) : bdF A (lo2 f g) := by
  unfold lo2
  split
  · exact hg
  · exact hf
theorem bd_ne2 {A : Int} {f g : Fg} (hf : bdF A f) (hg : bdF A g) : bdF A (ne2 f g) := by
  unfold ne2
  split
  · exact hg
  · exact hf
theorem bd_behind {A B : Int} (hA : 0 ≤ A) (hB : 0 ≤ B) {f g : Fg} (hf : bdF A f) (hg : bdF B g) : bdF (A + B) (behindF f g) := by
  cases f with
  | num i => cases g with
    | num j =>
      have h1 := hf.1
      have h2 := hf.2
      have h3 := hg.1
      have h4 := hg.2
      show -(A + B) ≤ (if i - j > 0 then i - j else 0) ∧ (if i - j > 0 then i - j else 0) ≤ A + B
      split <;> omega
    | never => exact ⟨by omega, by omega⟩
    | deep => trivial
  | deep => cases g with
    | never => exact ⟨by omega, by omega⟩
    | _ => trivial
  | never => cases g with
    | never => exact ⟨by omega, by omega⟩
    | _ => trivial
theorem bd_addF {A B : Int} (hA : 0 ≤ A) (hB : 0 ≤ B) {a f : Fi} (ha : bdFi A a) (hf : bdFi B f) : bdFi (A + B) (addF a f) := by
  have hs := bd_sum ha.2.1 hf.2.1
  refine ⟨bd_ne2 (bd_ne2 (bdF_mono (by omega) ha.1) ?_) ?_, hs, bd_lo2 (bdF_mono (by omega) ha.2.2) (bd_sum ha.2.1 hf.2.2)⟩
  · have := bd_behind hB hA hf.1 ha.2.1
    rw [Int.add_comm] at this
    exact this
  · have := bd_behind (f := .num 0) (Int.le_refl 0) (by omega) ⟨by omega, by omega⟩ hs
    rw [Int.zero_add] at this
    exact this
theorem mul_bd {B i n k : Int} (hB : 0 ≤ B) (h1 : -B ≤ i) (h2 : i ≤ B) (h3 : 0 ≤ n) (h4 : n ≤ k) : -(B * k) ≤ i * n ∧ i * n ≤ B * k := by
  have a : i * n ≤ B * n := Int.mul_le_mul_of_nonneg_right h2 h3
  have b : B * n ≤ B * k := Int.mul_le_mul_of_nonneg_left h4 hB
  have c : (-B) * n ≤ i * n := Int.mul_le_mul_of_nonneg_right h1 h3
  have e : (-B) * n = -(B * n) := Int.neg_mul B n
  omega
theorem bd_times {B n k : Int} {f : Fg} (hB : 0 ≤ B) (h3 : 0 ≤ n) (h4 : n ≤ k) (hf : bdF B f) : bdF (B * k) (timesF f n) := by
  cases f with
  | num i => exact mul_bd hB hf.1 hf.2 h3 h4
  | _ => trivial
theorem bd_ahead {B n k : Int} {f : Fg} (hB : 0 ≤ B) (h3 : 0 ≤ n) (h4 : n ≤ k) (hf : bdF B f) : bdF (B * k) (aheadF f n) := by
  unfold aheadF
  split
  · exact bd_times hB h3 h4 hf
  · have : 0 ≤ B * k := Int.mul_nonneg hB (by omega)
    exact ⟨by omega, by omega⟩
theorem bd_sub {A B : Int} {f g : Fg} (hf : bdF A f) (hg : bdF B g) : bdF (A + B) (subF f g) := by
  cases f with
  | num i => cases g with
    | num j =>
      have h1 := hf.1
      have h2 := hf.2
      have h3 := hg.1
      have h4 := hg.2
      exact ⟨by omega, by omega⟩
    | _ => trivial
  | _ => cases g <;> trivial
theorem bd_fi0 {A : Int} (h : 0 ≤ A) : bdFi A fi0 := ⟨⟨by omega, by omega⟩, ⟨by omega, by omega⟩, trivial⟩
theorem bd_loop {A : Int} (h : 0 ≤ A) {f : Fi} (hf : bdFi A f) : bdFi A (loopF f) := by
  unfold loopF
  split
  · have := bd_sum (A := 0) (f := .deep) trivial hf.2.2
    rw [Int.zero_add] at this
    exact ⟨trivial, trivial, this⟩
  · exact ⟨hf.1, ⟨by omega, by omega⟩, hf.2.2⟩
theorem bd_rep {A : Int} (h : 0 ≤ A) {f : Fi} {u : Bool} {n : Int} (h0 : 0 ≤ n) (h1 : n ≤ 1000) (hf : bdFi A f) : bdFi (A * 1000) (repF u n f) := by
  have hA : 0 ≤ A * 1000 := by omega
  unfold repF
  split
  · exact bd_fi0 hA
  · have ha := bd_ahead (k := 999) h (show 0 ≤ n - 1 by omega) (by omega) hf.2.1
    have ht := bd_times (k := 1000) h h0 h1 hf.2.1
    refine ⟨bdF_mono (by omega) (bd_sub hf.1 ha), ?_, bdF_mono (by omega) (bd_sum ha hf.2.2)⟩
    show bdF (A * 1000) (if u = true then lo2 (.num 0) (timesF f.2.1 n) else timesF f.2.1 n)
    split
    · exact bd_lo2 ⟨by omega, by omega⟩ ht
    · exact ht
mutual
def wtS (C : Int) : St → Int
  | .chg _ => C
  | .call _ => C
  | .eit bs => wtBs C bs
  | .loop b => wtB C b
  | .rep _ _ b => wtB C b * 1000
  | .back => 0
  | .stop => 0
def wtB (C : Int) : List St → Int
  | [] => 0
  | s :: b => wtS C s + wtB C b
def wtBs (C : Int) : List (List St) → Int
  | [] => 0
  | b :: bs => wtB C b + wtBs C bs
end
mutual
def cbS (C : Int) : St → Prop
  | .chg c => ∀ x ∈ c, -C ≤ x ∧ x ≤ C
  | .eit bs => cbBs C bs
  | .loop b => cbB C b
  | .rep _ _ b => cbB C b
  | _ => True
def cbB (C : Int) : List St → Prop
  | [] => True
  | s :: b => cbS C s ∧ cbB C b
def cbBs (C : Int) : List (List St) → Prop
  | [] => True
  | b :: bs => cbB C b ∧ cbBs C bs
end
theorem cbB_app {C : Int} : ∀ {a b : List St}, cbB C a → cbB C b → cbB C (a ++ b)
  | [], _, _, h => h
  | _ :: _, _, h, h2 => ⟨h.1, cbB_app h.2 h2⟩
theorem cbBs_app {C : Int} : ∀ {a b : List (List St)}, cbBs C a → cbBs C b → cbBs C (a ++ b)
  | [], _, _, h => h
  | _ :: _, _, h, h2 => ⟨h.1, cbBs_app h.2 h2⟩
mutual
theorem wtS_nn {C : Int} (h : 0 ≤ C) : ∀ s : St, 0 ≤ wtS C s
  | .chg _ => h
  | .call _ => h
  | .eit bs => wtBs_nn h bs
  | .loop b => wtB_nn h b
  | .rep _ _ b => by
    have := wtB_nn h b
    show 0 ≤ wtB C b * 1000
    omega
  | .back => Int.le_refl 0
  | .stop => Int.le_refl 0
theorem wtB_nn {C : Int} (h : 0 ≤ C) : ∀ b : List St, 0 ≤ wtB C b
  | [] => Int.le_refl 0
  | s :: b => by
    have h1 := wtS_nn h s
    have h2 := wtB_nn h b
    show 0 ≤ wtS C s + wtB C b
    omega
theorem wtBs_nn {C : Int} (h : 0 ≤ C) : ∀ b : List (List St), 0 ≤ wtBs C b
  | [] => Int.le_refl 0
  | s :: b => by
    have h1 := wtB_nn h s
    have h2 := wtBs_nn h b
    show 0 ≤ wtB C s + wtBs C b
    omega
end
/-- a table's figures -/
def tbBd (C : Int) (t : List (List Pr)) : Prop := ∀ r ∈ t, ∀ x ∈ r, bdF C x.1 ∧ bdF C x.2
theorem pair_bd {C : Int} {t : List (List Pr)} (h : tbBd C t) (k p : Nat) : bdF C (pairT t k p).1 ∧ bdF C (pairT t k p).2 := by
  unfold pairT
  rw [List.getD_eq_getElem?_getD, List.getD_eq_getElem?_getD]
  cases e : t[k]? with
  | none => exact ⟨trivial, trivial⟩
  | some r =>
    show bdF C ((r[p]?).getD _).1 ∧ bdF C ((r[p]?).getD _).2
    cases e2 : r[p]? with
    | none => exact ⟨trivial, trivial⟩
    | some x => exact h r (List.mem_of_getElem? e) x (List.mem_of_getElem? e2)
theorem bd_eit2 {A : Int} {f g : Fi} (hf : bdFi A f) (hg : bdFi A g) : bdFi A (eit2 f g) := ⟨bd_ne2 hf.1 hg.1, bd_lo2 hf.2.1 hg.2.1, bd_lo2 hf.2.2 hg.2.2⟩
theorem bd_fold {A : Int} : ∀ {fs : List Fi} {f : Fi}, bdFi A f → (∀ x ∈ fs, bdFi A x) → bdFi A (fs.foldl eit2 f)
  | [], _, h, _ => h
  | g :: fs, f, h, hs => bd_fold (fs := fs) (bd_eit2 h (hs g List.mem_cons_self)) fun x hx => hs x (List.mem_cons_of_mem _ hx)
mutual
theorem figS_bd {C : Int} {t : List (List Pr)} {p : Nat} (hC : 0 ≤ C) (ht : tbBd C t) : ∀ (s : St) (q m : Nat), okS q m s → cbS C s → bdFi (wtS C s) (figS t p s)
  | .chg c, q, m, _, h => by
    have hx : -C ≤ c.getD p 0 ∧ c.getD p 0 ≤ C := by
      rw [List.getD_eq_getElem?_getD]
      cases e : c[p]? with
      | none => exact ⟨by show -C ≤ 0; omega, hC⟩
      | some x => exact h x (List.mem_of_getElem? e)
    refine ⟨?_, hx, trivial⟩
    show -C ≤ (if -(c.getD p 0) > 0 then -(c.getD p 0) else 0) ∧ (if -(c.getD p 0) > 0 then -(c.getD p 0) else 0) ≤ C
    split <;> omega
  | .call k, q, m, _, _ => ⟨(pair_bd ht k p).1, (pair_bd ht k p).2, trivial⟩
  | .eit bs, q, m, ho, h => by
    have := figBs_bd (p := p) hC ht bs q m ho.2 h
    show bdFi (wtBs C bs) (eitF (figBs t p bs))
    cases e : figBs t p bs with
    | nil => exact bd_fi0 (wtBs_nn hC bs)
    | cons f fs =>
      rw [e] at this
      exact bd_fold (this f List.mem_cons_self) fun x hx => this x (List.mem_cons_of_mem _ hx)
  | .loop b, q, m, ho, h => by
    have := figB_bd (p := p) hC ht fi0 b 0 q m (Int.le_refl 0) (bd_fi0 (Int.le_refl 0)) ho h
    rw [Int.zero_add] at this
    exact bd_loop (wtB_nn hC b) this
  | .rep u n b, q, m, ho, h => by
    have ho' : 0 ≤ n ∧ n ≤ 1000 ∧ okB q m b := ho
    have := figB_bd (p := p) hC ht fi0 b 0 q m (Int.le_refl 0) (bd_fi0 (Int.le_refl 0)) ho'.2.2 h
    rw [Int.zero_add] at this
    exact bd_rep (wtB_nn hC b) ho'.1 ho'.2.1 this
  | .back, q, m, _, _ => ⟨⟨by show -(0 : Int) ≤ 0; omega, Int.le_refl 0⟩, trivial, ⟨by show -(0 : Int) ≤ 0; omega, Int.le_refl 0⟩⟩
  | .stop, q, m, _, _ => ⟨⟨by show -(0 : Int) ≤ 0; omega, Int.le_refl 0⟩, trivial, trivial⟩
theorem figB_bd {C : Int} {t : List (List Pr)} {p : Nat} (hC : 0 ≤ C) (ht : tbBd C t) : ∀ (a : Fi) (b : List St) (A : Int) (q m : Nat), 0 ≤ A → bdFi A a → okB q m b → cbB C b → bdFi (A + wtB C b) (figB t p a b)
  | a, [], A, q, m, hA, ha, _, _ => by
    show bdFi (A + 0) a
    rw [Int.add_zero]
    exact ha
  | a, s :: b, A, q, m, hA, ha, ho, h => by
    have h1 := figS_bd (p := p) hC ht s q m ho.1 h.1
    have h2 := figB_bd (p := p) hC ht (addF a (figS t p s)) b (A + wtS C s) q m (by have := wtS_nn hC s; omega) (bd_addF hA (wtS_nn hC s) ha h1) ho.2 h.2
    show bdFi (A + (wtS C s + wtB C b)) _
    rw [← Int.add_assoc]
    exact h2
theorem figBs_bd {C : Int} {t : List (List Pr)} {p : Nat} (hC : 0 ≤ C) (ht : tbBd C t) : ∀ (bs : List (List St)) (q m : Nat), okBs q m bs → cbBs C bs → ∀ x ∈ figBs t p bs, bdFi (wtBs C bs) x
  | [], q, m, _, _, x, hx => nomatch hx
  | b :: bs, q, m, ho, h, x, hx => by
    have e : wtBs C (b :: bs) = wtB C b + wtBs C bs := rfl
    have n1 := wtB_nn hC b
    have n2 := wtBs_nn hC bs
    rw [e]
    rcases List.mem_cons.mp hx with rfl | hx
    · have := figB_bd (p := p) hC ht fi0 b 0 q m (Int.le_refl 0) (bd_fi0 (Int.le_refl 0)) ho.1 h.1
      rw [Int.zero_add] at this
      exact bdFi_mono (by omega) this
    · exact bdFi_mono (by omega) (figBs_bd (p := p) hC ht bs q m ho.2 h.2 x hx)
end
/-! texts of figures -/
abbrev LIM : Int := 10 ^ 500
theorem lim_log {i : Int} (h1 : -LIM ≤ i) (h2 : i ≤ LIM) : i.natAbs.log2 < 1920 := by
  have h3 : i.natAbs ≤ 10 ^ 500 := by
    have e : LIM = ((10 ^ 500 : Nat) : Int) := by norm_cast
    rw [e] at h1 h2
    omega
  rcases Nat.eq_zero_or_pos i.natAbs with e | e
  · rw [e]
    decide
  · refine (Nat.log2_lt (by omega)).mpr ?_
    have : (10 : Nat) ^ 500 < 2 ^ 1920 := by decide +kernel
    omega
theorem str_len {i : Int} (h1 : -LIM ≤ i) (h2 : i ≤ LIM) : (PySem.Str.ofString (toString i)).length ≤ 502 := by
  have e : LIM = ((10 ^ 500 : Nat) : Int) := by norm_cast
  rw [e] at h1 h2
  have key : ∀ n : Nat, n ≤ 10 ^ 500 → (Nat.repr n).length ≤ 501 := fun n hn => by
    have : (Nat.toDigits 10 n).length ≤ 501 := (Nat.length_toDigits_le_iff (by decide) (by decide)).mpr (Nat.lt_of_le_of_lt hn (by decide +kernel))
    simpa [Nat.repr] using this
  rw [PyProof.Rows.ofString_len]
  cases i with
  | ofNat n =>
    have := key n (by
      have h : (Int.ofNat n) ≤ ((10 ^ 500 : Nat) : Int) := h2
      exact Int.ofNat_le.mp h)
    show (Nat.repr n).length ≤ 502
    omega
  | negSucc n =>
    have := key (n + 1) (by
      have h : -((10 ^ 500 : Nat) : Int) ≤ Int.negSucc n := h1
      omega)
    show ("-" ++ Nat.repr (n + 1)).length ≤ 502
    rw [String.length_append]
    have h3 : "-".length = 1 := rfl
    omega
theorem strF {f : Fg} {B : Int} (hb : bdF B f) (hB : B ≤ LIM) {Q : D → Prop} (k : ∀ s : PySem.Str, s.length ≤ 502 → Q (.str s)) : Ok (gStrOf [f.d]) Q := by
  cases f with
  | deep => exact g_strS (k _ (by decide))
  | never => exact g_strS (k _ (by decide))
  | num i =>
    have h1 := hb.1
    have h2 := hb.2
    exact g_strI (lim_log (by omega) (by omega)) (k _ (str_len (by omega) (by omega)))
theorem join_le (a : PySem.Str) (ys : List PySem.Str) : (Txt.join a ys).length ≤ (ys.map (·.length)).sum + ys.length * a.length := by
  show (PySem.Builtin.Str.glued a ys).length ≤ _
  rw [StrLaws.glued_eq_join]
  exact StrLaws.join_length_le a ys
theorem ne2_num (a b : Int) : ne2 (.num a) (.num b) = .num (if a < b then b else a) := by
  show (if decide (a < b) = true then Fg.num b else .num a) = _
  by_cases h : a < b
  · rw [if_pos (decide_eq_true h), if_pos h]
  · rw [if_neg (by rw [decide_eq_false h]; exact Bool.false_ne_true), if_neg h]
theorem add_eq {a f : Fi} (ha : a.1.nd) (hf : f.1.nd) : addF a f = (if a.2.1 = .never then a.1 else ne2 a.1 (behindF (ne2 f.1 (behindF (.num 0) f.2.1)) a.2.1), sumF a.2.1 f.2.1, lo2 a.2.2 (sumF a.2.1 f.2.2)) := by
  obtain ⟨n, t, b⟩ := a
  obtain ⟨m, on, out⟩ := f
  have ha : n.nd := ha
  have hf : m.nd := hf
  refine Prod.ext ?_ rfl
  show ne2 (ne2 n (behindF m t)) (behindF (.num 0) (sumF t on)) = if t = .never then n else ne2 n (behindF (ne2 m (behindF (.num 0) on)) t)
  cases t with
  | never =>
    rw [if_pos rfl]
    cases n with
    | never => cases ha
    | deep => cases m <;> cases on <;> rfl
    | num i =>
      have hi : 0 ≤ i := ha
      have e : ∀ f : Fg, behindF f .never = .num 0 := fun f => by cases f <;> rfl
      have e2 : sumF .never on = .never := rfl
      rw [e, e2, e]
      have e3 : ne2 (.num i) (.num 0) = .num i := by
        show (if decide (i < 0) = true then Fg.num 0 else .num i) = _
        rw [if_neg (by rw [decide_eq_false (by omega)]; exact Bool.false_ne_true)]
      rw [e3, e3]
  | deep =>
    rw [if_neg (fun z => nomatch z)]
    cases n with
    | never => cases ha
    | deep => cases m <;> cases on <;> first | rfl | (cases hf)
    | num i => cases m with
      | never => cases hf
      | deep => cases on <;> rfl
      | num j =>
        cases on with
        | never => 
          have : ne2 (Fg.num j) (behindF (.num 0) .never) = .num j := by
            have hj : 0 ≤ j := hf
            show (if decide (j < 0) = true then Fg.num 0 else .num j) = _
            rw [if_neg (by rw [decide_eq_false (by omega)]; exact Bool.false_ne_true)]
          rw [this]
          rfl
        | deep => rfl
        | num k =>
          have : ∃ l, ne2 (Fg.num j) (behindF (.num 0) (.num k)) = .num l := by
            exact ⟨_, ne2_num _ _⟩
          obtain ⟨l, hl⟩ := this
          rw [hl]
          rfl
  | num s =>
    rw [if_neg (fun z => nomatch z)]
    cases n with
    | never => cases ha
    | deep =>
      cases m with
      | never => cases hf
      | deep => cases on <;> rfl
      | num j => cases on with
        | never =>
          have : ne2 (Fg.num j) (behindF (.num 0) .never) = .num j := by
            have hj : 0 ≤ j := hf
            show (if decide (j < 0) = true then Fg.num 0 else .num j) = _
            rw [if_neg (by rw [decide_eq_false (by omega)]; exact Bool.false_ne_true)]
          rw [this]
          rfl
        | deep => rfl
        | num k =>
          have : ∃ l, ne2 (Fg.num j) (behindF (.num 0) (.num k)) = .num l := by
            exact ⟨_, ne2_num _ _⟩
          obtain ⟨l, hl⟩ := this
          rw [hl]
          rfl
    | num i =>
      have hi : 0 ≤ i := ha
      cases m with
      | never => cases hf
      | deep => cases on <;> rfl
      | num j =>
        have hj : 0 ≤ j := hf
        have nn : ∀ a b : Int, ne2 (.num a) (.num b) = .num (if a < b then b else a) := fun a b => by
          show (if decide (a < b) = true then Fg.num b else .num a) = _
          by_cases h : a < b
          · rw [if_pos (decide_eq_true h), if_pos h]
          · rw [if_neg (by rw [decide_eq_false h]; exact Bool.false_ne_true), if_neg h]
        have bb : ∀ a b : Int, behindF (.num a) (.num b) = .num (if a - b > 0 then a - b else 0) := fun a b => rfl
        cases on with
        | deep =>
          show ne2 (ne2 (.num i) (.num _)) .deep = _
          rw [nn]
          rfl
        | never =>
          show ne2 (ne2 (.num i) (behindF (.num j) (.num s))) (.num 0) = ne2 (.num i) (behindF (ne2 (.num j) (.num 0)) (.num s))
          rw [nn j 0, bb, bb, nn, nn, nn]
          congr 1
          repeat' split
          all_goals omega
        | num k =>
          show ne2 (ne2 (.num i) (behindF (.num j) (.num s))) (behindF (.num 0) (.num (s + k))) = ne2 (.num i) (behindF (ne2 (.num j) (behindF (.num 0) (.num k))) (.num s))
          rw [bb, bb, bb, nn, nn, nn, bb, nn]
          congr 1
          repeat' split
          all_goals omega
end K10
namespace K10
local macro_rules | `(tactic| walk_at "st") => `(tactic| with_reducible first | refine low_sum_r ?_ | refine low_rank_r ?_ | refine key_lt ?_ | refine low_less_r ?_ | refine least2 ?_ | refine word_upto ?_ | refine word_in ?_)
local macro_rules | `(tactic| walk_at "st") => `(tactic| first
  | ((with_reducible show Ok (gEq (D.str (PySem.Str.ofString _)) (D.str (PySem.Str.ofString _))) _); first | refine Ok.mk (a := D.bl true) rfl ?_ | refine Ok.mk (a := D.bl false) rfl ?_)
  | ((with_reducible show Ok (gIn false (D.str (PySem.Str.ofString _)) (D.tup _)) _); first | refine Ok.mk (a := D.bl true) rfl ?_ | refine Ok.mk (a := D.bl false) rfl ?_)
  | ((with_reducible show Ok (gIn false (D.str (PySem.Str.ofString _)) (D.tup _)) _); first | refine Ok.mk (a := D.bl true) rfl ?_ | refine Ok.mk (a := D.bl false) rfl ?_)
  | ((with_reducible show Ok (gtTup _ _ (D.tup [_, _, _]) _) _); refine Ok.mk rfl ?_)
  | ((with_reducible show Ok (gtTup _ _ (fiD _) _) _); refine Ok.mk rfl ?_))
noncomputable def figTail : Ev → Res Fl :=
  (sSeq (sSet 12 (dSlO 5 (dPart (dOp gSub (dCalm (dCallB gLen (dCons (dVar 5) dNil))) (dCallB gLen (dCons (dVar 10) dNil)))) dNoPart))
  (sSeq (sSet 5 (dSlO 5 dNoPart (dPart (dOp gSub (dCalm (dCallB gLen (dCons (dVar 5) dNil))) (dCallB gLen (dCons (dVar 10) dNil))))))
  (sSeq (sAsg (dCall [.s, .s, .s, .s] F__law_one (aS (dVar 8) (aS (dVar 1) (aS (dVar 2) (aS (dVar 12) aNil))))) (gtTup 3 (gtCons (gtName 13) (gtCons (gtName 14) (gtCons (gtName 15) gtNil)))))
  (sSeq (sApp 4 (dTup (dCons (dVar 13) (dCons (dVar 14) (dCons (dVar 15) dNil)))))
  (sSeq (sApp 3 (dOp gAdd (dOp gAdd (dOp gAdd (dOp gAdd (dOp gAdd (dOp gAdd (dOp gIx (dVar 8) (dConst (.int 0))) (dConst (.str " gives "))) (dCallB gStrOf (dCons (dVar 13) dNil))) (dConst (.str " "))) (dCallB gStrOf (dCons (dVar 14) dNil))) (dConst (.str " "))) (dCallB gStrOf (dCons (dVar 15) dNil))))
  (sSeq (sAsg (dCalm (dOp gIx (dVar 5) (dUn gNeg (dConst (.int 1))))) (gtTup 3 (gtCons (gtName 16) (gtCons (gtName 17) (gtCons (gtName 18) gtNil)))))
  (sSeq (sSet 13 (dCall [.s, .s] F__law_more (aS (dVar 13) (aS (dCall [.s, .s] F__law_behind (aS (dConst (.int 0)) (aS (dVar 14) aNil))) aNil))))
  (sPut 5 (dTup (dCons (dIf (dBool (dOp gEq (dVar 17) (dConst (.str "never")))) (dVar 16) (dCall [.s, .s] F__law_more (aS (dVar 16) (aS (dCall [.s, .s] F__law_behind (aS (dVar 13) (aS (dVar 17) aNil))) aNil)))) (dCons (dCall [.s, .s] F__law_sum (aS (dVar 17) (aS (dVar 14) aNil))) (dCons (dCall [.s, .s] F__law_less (aS (dVar 18) (aS (dCall [.s, .s] F__law_sum (aS (dVar 17) (aS (dVar 15) aNil))) aNil))) dNil)))) (dUn gNeg (dConst (.int 1)))))))))))
noncomputable def figLoop : Ev → Res Fl :=
  (sSeq (sAsg (dPop 6) (gtTup 3 (gtCons (gtName 7) (gtCons (gtName 8) (gtCons (gtName 9) gtNil)))))
  (sSeq (sIf (dBool (dOp gEq (dVar 7) (dConst (.str "in"))))
  (sSeq (sApp 5 (dTup (dCons (dConst (.int 0)) (dCons (dConst (.int 0)) (dCons (dConst (.str "never")) dNil)))))
  (sSeq (sApp 3 (dOp gAdd (dConst (.str "in ")) (dCallB gStrOf (dCons (dVar 9) dNil))))
  sCont))
  sNil)
  (sSeq (sIf (dBool (dOp gEq (dVar 7) (dConst (.str "sums"))))
  (sSeq (sApp 3 (dOp gAdd (dConst (.str "sums ")) (dOp gJoin (dConst (.str " ")) (dComp (dSeqI (dCalm (dOp gIx (dVar 5) (dUn gNeg (dConst (.int 1)))))) [19] (gtName 19) dYes (dCallB gStrOf (dCons (dVar 19) dNil))))))
  sCont)
  sNil)
  (sSeq (sSet 10 (dCall [.s] F__law_inner (aS (dVar 8) aNil)))
  (sSeq (sIf (dAnd (dBool (dOp gEq (dVar 7) (dConst (.str "do")))) (dTru (dVar 10)))
  (sSeq (sApp 6 (dTup (dCons (dConst (.str "fold")) (dCons (dVar 8) (dCons (dVar 9) dNil)))))
  (sSeq (sFor (dSeqI (dUn gRev (dVar 10))) (gtName 11)
  (sSeq (sApp 6 (dTup (dCons (dConst (.str "sums")) (dCons (dConst .non) (dCons (dVar 9) dNil)))))
  (sSeq (sExt 6 (dComp (dSeqI (dUn gRev (dVar 11))) [16] (gtName 16) dYes (dTup (dCons (dConst (.str "do")) (dCons (dVar 16) (dCons (dOp gAdd (dVar 9) (dConst (.int 1))) dNil))))))
  (sApp 6 (dTup (dCons (dConst (.str "in")) (dCons (dConst .non) (dCons (dOp gAdd (dVar 9) (dConst (.int 1))) dNil))))))))
  sCont))
  sNil)
  figTail)))))
theorem fig_eq : F__law_figures = mkF 20 [0, 0, 0, 1, 1] none
  ((sSeq (sSet 5 (dLst (dCons (dTup (dCons (dConst (.int 0)) (dCons (dConst (.int 0)) (dCons (dConst (.str "never")) dNil)))) dNil)))
  (sSeq (sSet 6 (dComp (dSeqI (dUn gRev (dVar 0))) [8] (gtName 8) dYes (dTup (dCons (dConst (.str "do")) (dCons (dVar 8) (dCons (dConst (.int 0)) dNil))))))
  (sSeq (sWhile (dTru (dVar 6)) figLoop)
  (sSeq (sApp 3 (dOp gAdd (dConst (.str "sums ")) (dOp gJoin (dConst (.str " ")) (dComp (dSeqI (dCalm (dOp gIx (dVar 5) (dConst (.int 0))))) [19] (gtName 19) dYes (dCallB gStrOf (dCons (dVar 19) dNil))))))
  (sRet (dCalm (dOp gIx (dVar 5) (dConst (.int 0)))))))))) := rfl
theorem calm_fg (f : Fg) : f.d.calm = true := by cases f <;> rfl
theorem calm_fi (f : Fi) : (fiD f).calm = true := by
  show (f.1.d.calm && (f.2.1.d.calm && (f.2.2.d.calm && true))) = true
  rw [calm_fg, calm_fg, calm_fg]
  rfl
theorem cut_hi {α : Type} (xs ys : List α) : cutL (xs ++ ys) (some (xs.length : Nat)) none = ys := by
  unfold cutL
  rw [HT.sIx_none, HT.sIx_nat, List.length_append, Nat.min_eq_left (by omega), List.drop_left]
  exact List.take_of_length_le (by omega)
theorem cut_lo {α : Type} (xs ys : List α) : cutL (xs ++ ys) none (some (xs.length : Nat)) = xs := by
  unfold cutL
  rw [HT.sIx_none, HT.sIx_nat, List.length_append, Nat.min_eq_left (by omega), List.drop_zero, Nat.sub_zero, List.take_left]
theorem word_of (s : St) : ∃ w : PySem.Str, atI (match stD s with | .tup ds => ds | _ => []) 0 = some (.str w) ∧ w.length ≤ 6 ∧ ∃ ds, stD s = .tup (.str w :: ds) := by
  cases s with
  | rep u n b => cases u <;> exact ⟨_, rfl, by decide, _, rfl⟩
  | _ => exact ⟨_, rfl, by decide, _, rfl⟩
abbrev st20 (b t p lines gives sums todo : D) (xs : List (Option D)) : Ev := some b :: some t :: some p :: some lines :: some gives :: some sums :: some todo :: xs
theorem at_neg {xs : List Fi} {x : Fi} : atI ((xs ++ [x]).map fiD) (-1) = some (fiD x) := by
  rw [List.map_append]
  exact atI_m1
theorem put_neg {xs : List Fi} {x y : Fi} : ixN ((xs ++ [x]).map fiD).length (-1) = some xs.length ∧ ((xs ++ [x]).map fiD).set xs.length (fiD y) = (xs ++ [y]).map fiD := by
  constructor
  · unfold ixN
    rw [if_neg (by omega), if_pos (by rw [List.length_map, List.length_append, List.length_singleton]; omega)]
    congr 1
    rw [List.length_map, List.length_append, List.length_singleton]
    omega
  · rw [List.map_append, List.map_append, List.set_append_right _ _ (by rw [List.length_map]; exact Nat.le_refl _), List.length_map, Nat.sub_self]
    rfl
theorem eq_never {f : Fg} {Q : D → Prop} (q : Q (.bl (decide (f = .never)))) : Ok (gEq f.d (.str "never")) Q := by
  refine ⟨_, ?_, q⟩
  cases f <;> rfl
theorem tail_r {t : List (List Pr)} {q m p : Nat} {C A : Int} (ht : tbOk t q m) (hp : p < m) (hC : 0 ≤ C) (hb : tbBd C t) {s : St} (hs : okS q m s) (hc : cbS C s) {a : Fi} {pre : List Fi} (ha : a.1.nd) (hA : 0 ≤ A) (hab : bdFi A a) (hw : A + wtS C s ≤ LIM)
    {b x7 x9 x11 x12 x13 x14 x15 x16 x17 x18 x19 : Option D} {lines gives inner todo : List D} (hin : inner.length = (inF t p s).length) (hl : lines.length < 16777216) (hg : gives.length < 16777216) {Q : Fl → Prop}
    (k : ∀ (line : D) (xs : List (Option D)), xs.length = 13 → Q (.nx (b :: some (tabD t) :: some (.int (p : Nat)) :: some (.lst (lines ++ [line])) :: some (.lst (gives ++ [fiD (figS t p s)])) :: some (.lst ((pre ++ [addF a (figS t p s)]).map fiD)) :: some (.lst todo) :: xs))) :
    Ok (figTail [b, some (tabD t), some (.int (p : Nat)), some (.lst lines), some (.lst gives), some (.lst ((pre ++ [a]).map fiD ++ (inF t p s).map fiD)), some (.lst todo), x7, some (stD s), x9, some (.tup inner), x11, x12, x13, x14, x15, x16, x17, x18, x19]) Q := by
  unfold figTail
  have e1 : (((pre ++ [a]).map fiD ++ (inF t p s).map fiD).length : Int) - (inner.length : Int) = (((pre ++ [a]).map fiD).length : Nat) := by
    rw [List.length_append, hin, List.length_map (as := inF t p s)]
    omega
  have hf := figS_nd ht hp s hs
  have hfb := figS_bd (p := p) hC hb s q m hs hc
  have hwn := wtS_nn hC s
  walk_at "go"
  rw [e1, cut_hi]
  walk_at "go"
  rw [cut_lo]
  walk_at "go"
  refine Ok.mk (one_e ht hp s hs) ?_
  walk_at "go"
  refine ⟨hg, ?_⟩
  obtain ⟨w, _, hwl, ds, ew⟩ := word_of s
  rw [ew]
  walk_at "go"
  refine g_addS (by rw [show (PySem.Str.ofString " gives ").length = 7 from by decide]; omega) ?_
  walk_at "go"
  refine strF (B := wtS C s) hfb.1 (by omega) fun s1 h1 => ?_
  walk_at "go"
  refine g_addS (by rw [PySem.Str.length_append]; rw [show (PySem.Str.ofString " gives ").length = 7 from by decide]; omega) ?_
  walk_at "go"
  refine g_addS (by rw [PySem.Str.length_append, PySem.Str.length_append, show (PySem.Str.ofString " gives ").length = 7 from by decide, show (PySem.Str.ofString " ").length = 1 from by decide]; omega) ?_
  walk_at "go"
  refine strF (B := wtS C s) hfb.2.1 (by omega) fun s2 h2 => ?_
  walk_at "go"
  refine g_addS (by rw [PySem.Str.length_append, PySem.Str.length_append, PySem.Str.length_append, show (PySem.Str.ofString " gives ").length = 7 from by decide, show (PySem.Str.ofString " ").length = 1 from by decide]; omega) ?_
  walk_at "go"
  refine g_addS (by rw [PySem.Str.length_append, PySem.Str.length_append, PySem.Str.length_append, PySem.Str.length_append, show (PySem.Str.ofString " gives ").length = 7 from by decide, show (PySem.Str.ofString " ").length = 1 from by decide]; omega) ?_
  walk_at "go"
  refine strF (B := wtS C s) hfb.2.2 (by omega) fun s3 h3 => ?_
  walk_at "go"
  refine g_addS (by rw [PySem.Str.length_append, PySem.Str.length_append, PySem.Str.length_append, PySem.Str.length_append, PySem.Str.length_append, show (PySem.Str.ofString " gives ").length = 7 from by decide, show (PySem.Str.ofString " ").length = 1 from by decide]; omega) ?_
  walk_at "go"
  refine ⟨hl, ?_⟩
  walk_at "go"
  refine gIx_l at_neg ?_
  walk_at "go"
  refine ⟨calm_fi a, ?_⟩
  walk_at "go"
  refine law_behind_r (f := .num 0) (Int.le_refl 0) ?_
  walk_at "go"
  refine law_more_r hf (behind_nd (f := .num 0) (Int.le_refl 0)) ?_
  walk_at "go"
  refine eq_never ?_
  walk_at "go"
  have put := put_neg (xs := pre) (x := a) (y := addF a (figS t p s))
  refine ited (fun hn => ?_) (fun hn => ?_)
  · walk_at "go"
    refine law_sum_r ?_
    walk_at "go"
    refine law_sum_r ?_
    walk_at "go"
    refine law_less_r ?_
    walk_at "go"
    refine ⟨_, _, _, rfl, rfl, put.1, ?_⟩
    have ea : addF a (figS t p s) = (a.1, sumF a.2.1 (figS t p s).2.1, lo2 a.2.2 (sumF a.2.1 (figS t p s).2.2)) := by rw [add_eq ha hf, if_pos hn]
    have e2 : (D.tup [a.1.d, (sumF a.2.1 (figS t p s).2.1).d, (lo2 a.2.2 (sumF a.2.1 (figS t p s).2.2)).d]) = fiD (addF a (figS t p s)) := by rw [ea]
    rw [e2, put.2, ← ew]
    exact k _ _ rfl
  · walk_at "go"
    refine law_behind_r (ne2_nd hf (behind_nd (f := .num 0) (Int.le_refl 0))) ?_
    walk_at "go"
    refine law_more_r ha (behind_nd (ne2_nd hf (behind_nd (f := .num 0) (Int.le_refl 0)))) ?_
    walk_at "go"
    refine law_sum_r ?_
    walk_at "go"
    refine law_sum_r ?_
    walk_at "go"
    refine law_less_r ?_
    walk_at "go"
    refine ⟨_, _, _, rfl, rfl, put.1, ?_⟩
    have ea : addF a (figS t p s) = (ne2 a.1 (behindF (ne2 (figS t p s).1 (behindF (.num 0) (figS t p s).2.1)) a.2.1), sumF a.2.1 (figS t p s).2.1, lo2 a.2.2 (sumF a.2.1 (figS t p s).2.2)) := by rw [add_eq ha hf, if_neg hn]
    have e2 : (D.tup [(ne2 a.1 (behindF (ne2 (figS t p s).1 (behindF (.num 0) (figS t p s).2.1)) a.2.1)).d, (sumF a.2.1 (figS t p s).2.1).d, (lo2 a.2.2 (sumF a.2.1 (figS t p s).2.2)).d]) = fiD (addF a (figS t p s)) := by rw [ea]
    rw [e2, put.2, ← ew]
    exact k _ _ rfl
end K10
namespace K10
local macro_rules | `(tactic| walk_at "st") => `(tactic| with_reducible first | refine low_sum_r ?_ | refine low_rank_r ?_ | refine key_lt ?_ | refine low_less_r ?_ | refine least2 ?_ | refine word_upto ?_ | refine word_in ?_)
local macro_rules | `(tactic| walk_at "st") => `(tactic| first
  | ((with_reducible show Ok (gEq (D.str (PySem.Str.ofString _)) (D.str (PySem.Str.ofString _))) _); first | refine Ok.mk (a := D.bl true) rfl ?_ | refine Ok.mk (a := D.bl false) rfl ?_)
  | ((with_reducible show Ok (gIn false (D.str (PySem.Str.ofString _)) (D.tup _)) _); first | refine Ok.mk (a := D.bl true) rfl ?_ | refine Ok.mk (a := D.bl false) rfl ?_)
  | ((with_reducible show Ok (gIn false (D.str (PySem.Str.ofString _)) (D.tup _)) _); first | refine Ok.mk (a := D.bl true) rfl ?_ | refine Ok.mk (a := D.bl false) rfl ?_)
  | ((with_reducible show Ok (gtTup _ _ (D.tup [_, _, _]) _) _); refine Ok.mk rfl ?_)
  | ((with_reducible show Ok (gtTup _ _ (fiD _) _) _); refine Ok.mk rfl ?_))
def innerB : St → List (List St)
  | .eit bs => bs
  | .loop b => [b]
  | .rep _ _ b => [b]
  | _ => []
theorem inF_eq (t : List (List Pr)) (p : Nat) (s : St) : inF t p s = figBs t p (innerB s) := by cases s <;> rfl
theorem inner_e (s : St) : F__law_inner [stD s] = .ok (.tup (bosD (innerB s)), [.non]) := by
  cases s with
  | rep u n b =>
    refine okEq ?_
    unfold F__law_inner
    rw [stD]
    walk_at "go"
    refine word_neq (.inr (.inr (.inl rfl))) ?_
    walk_at "go"
    refine Ok.mk (a := D.bl true) (by cases u <;> rfl) ?_
    walk_at "go"
    rfl
  | _ =>
    refine okEq ?_
    unfold F__law_inner
    rw [stD]
    walk_at "go"
    rfl
abbrev W (ρ : Ev) (Q : Fl → Prop) : Prop := Ok (sWhile (dTru (dVar 6)) figLoop ρ) Q
def doI (k : Int) (d : D) : D := .tup [.str "do", d, .int k]
def blkD (b : List St) (k : Int) : List D := .tup [.str "sums", .non, .int k] :: ((boD b).reverse.map (doI (k + 1)) ++ [.tup [.str "in", .non, .int (k + 1)]])
def blksD : List (List St) → Int → List D
  | [], _ => []
  | b :: bs, k => blksD bs k ++ blkD b k
theorem xs13 {α : Type} {xs : List α} (h : xs.length = 13) : ∃ a b c d e f g i j k l m n, xs = [a, b, c, d, e, f, g, i, j, k, l, m, n] := by
  match xs, h with
  | [a, b, c, d, e, f, g, i, j, k, l, m, n], _ => exact ⟨a, b, c, d, e, f, g, i, j, k, l, m, n, rfl⟩
theorem last_at {α : Type} {xs : List α} {x : α} : (xs ++ [x])[(xs ++ [x]).length - 1]? = some x := by simp
theorem tru_snoc {xs : List D} {x : D} : (!(xs ++ [x]).isEmpty) = true := by simp
theorem bosD_app : ∀ a b : List (List St), bosD (a ++ b) = bosD a ++ bosD b := fun a b => by rw [bosD_map, bosD_map, bosD_map, List.map_append]
theorem boD_app : ∀ a b : List St, boD (a ++ b) = boD a ++ boD b := fun a b => by rw [boD_map, boD_map, boD_map, List.map_append]
theorem szB_len : ∀ b : List St, b.length ≤ szB b
  | [] => Nat.le_refl _
  | s :: b => by
    have := szB_len b
    have hs : 1 ≤ szS s := by
      cases s with
      | eit _ => rw [szS]; omega
      | loop _ => rw [szS]; omega
      | rep _ _ _ => rw [szS]; omega
      | _ => exact Nat.le_refl _
    rw [szB, List.length_cons]
    omega
theorem blkD_len (b : List St) (k : Int) : (blkD b k).length = b.length + 2 := by
  unfold blkD
  rw [List.length_cons, List.length_append, List.length_map, List.length_reverse, boD_len]
  rfl
theorem blksD_len : ∀ (bs : List (List St)) (k : Int), (blksD bs k).length ≤ 2 * szBs bs
  | [], _ => Nat.zero_le _
  | b :: bs, k => by
    have h1 := blksD_len bs k
    have h2 := blkD_len b k
    have h3 := szB_len b
    rw [blksD, List.length_append, szBs]
    omega
theorem sz_inner (s : St) : szBs (innerB s) ≤ szS s := by
  cases s with
  | eit bs =>
    rw [szS]
    show szBs bs ≤ _
    omega
  | loop b =>
    rw [szS]
    show szBs [b] ≤ _
    rw [szBs, szBs]
    omega
  | rep u n b =>
    rw [szS]
    show szBs [b] ≤ _
    rw [szBs, szBs]
    omega
  | _ => exact Nat.zero_le _
theorem szBs_app : ∀ a b : List (List St), szBs (a ++ b) = szBs a + szBs b
  | [], b => by rw [List.nil_append, szBs, Nat.zero_add]
  | x :: a, b => by
    rw [List.cons_append, szBs, szBs, szBs_app a b]
    omega
section
variable {t : List (List Pr)} {q m p : Nat} {C A : Int} {b : D} {lines gives sums todo : List D} {xs : List (Option D)} {k : Int} {Q : Fl → Prop}
theorem deep_str (h0 : 0 ≤ k) (h1 : k ≤ 10000) {Q : D → Prop} (q : ∀ s : PySem.Str, s.length ≤ 502 → Q (.str s)) : Ok (gStrOf [.int k]) Q :=
  strF (f := .num k) (B := 10000) ⟨by omega, by omega⟩ (by decide +kernel) q
theorem in_r (hx : xs.length = 13) (hl : lines.length < 16777216) (hs : sums.length < 16777216) (h0 : 0 ≤ k) (h1 : k ≤ 10000)
    (w : ∀ line xs', xs'.length = 13 → W (st20 b (tabD t) (.int (p : Nat)) (.lst (lines ++ [line])) (.lst gives) (.lst (sums ++ [fiD fi0])) (.lst todo) xs') Q) :
    W (st20 b (tabD t) (.int (p : Nat)) (.lst lines) (.lst gives) (.lst sums) (.lst (todo ++ [.tup [.str "in", .non, .int k]])) xs) Q := by
  obtain ⟨x1, x2, x3, x4, x5, x6, x7, x8, x9, x10, x11, x12, x13, rfl⟩ := xs13 hx
  refine w_step ?_
  unfold figLoop
  walk_at "go"
  refine Ok.mk rfl ?_
  rw [tru_snoc]
  walk_at "go"
  refine w_pop rfl last_at ?_
  rw [List.dropLast_concat]
  walk_at "go"
  refine ⟨hs, ?_⟩
  walk_at "go"
  refine deep_str h0 h1 fun s hs => ?_
  walk_at "go"
  refine g_addS (by rw [show (PySem.Str.ofString "in ").length = 3 from by decide]; omega) ?_
  walk_at "go"
  refine ⟨hl, ?_⟩
  walk_at "go"
  exact w _ _ rfl
def strD (d : D) : D := match gStrOf [d] with
  | .ok z => z
  | .err => .non
theorem strD_e {f : Fg} {B : Int} (hf : bdF B f) (hB : B ≤ LIM) : gStrOf [f.d] = .ok (strD f.d) ∧ ∃ s : PySem.Str, strD f.d = .str s ∧ s.length ≤ 502 := by
  obtain ⟨z, e, s, rfl, hs⟩ := strF (Q := fun z => ∃ s : PySem.Str, z = .str s ∧ s.length ≤ 502) hf hB fun s h => ⟨s, rfl, h⟩
  have e2 : strD f.d = .str s := by
    unfold strD
    rw [e]
  rw [e2]
  exact ⟨e, s, rfl, hs⟩
/-- the text of three figures -/
theorem join_r {f : Fi} {B : Int} (hf : bdFi B f) (hB : B ≤ LIM) {Q : D → Prop} (k : ∀ s : PySem.Str, s.length ≤ 2000 → Q (.str s)) : Ok (gJoin (.str " ") (.lst ([f.1.d, f.2.1.d, f.2.2.d].map strD))) Q := by
  obtain ⟨_, s1, e1, l1⟩ := strD_e hf.1 hB
  obtain ⟨_, s2, e2, l2⟩ := strD_e hf.2.1 hB
  obtain ⟨_, s3, e3, l3⟩ := strD_e hf.2.2 hB
  rw [List.map_cons, List.map_cons, List.map_cons, List.map_nil, e1, e2, e3]
  have hj := join_le (PySem.Str.ofString " ") [s1, s2, s3]
  have h1 : (PySem.Str.ofString " ").length = 1 := by decide
  have hsum : ([s1, s2, s3].map (·.length)).sum + [s1, s2, s3].length * (PySem.Str.ofString " ").length = s1.length + (s2.length + (s3.length + 0)) + 3 * 1 := by rw [h1]; rfl
  rw [hsum] at hj
  refine ⟨.str (Txt.join (PySem.Str.ofString " ") [s1, s2, s3]), ?_, k _ (by omega)⟩
  show (if ([s1, s2, s3].map (·.length)).sum + [s1, s2, s3].length * (PySem.Str.ofString " ").length ≤ 16777216 then Res.ok (D.str (Txt.join (PySem.Str.ofString " ") [s1, s2, s3])) else .err) = _
  rw [hsum, if_pos (by omega)]
theorem sums_r {pre : List Fi} {f : Fi} {B : Int} (hx : xs.length = 13) (hl : lines.length < 16777216) (hf : bdFi B f) (hB : B ≤ LIM)
    (w : ∀ line xs', xs'.length = 13 → W (st20 b (tabD t) (.int (p : Nat)) (.lst (lines ++ [line])) (.lst gives) (.lst ((pre ++ [f]).map fiD)) (.lst todo) xs') Q) :
    W (st20 b (tabD t) (.int (p : Nat)) (.lst lines) (.lst gives) (.lst ((pre ++ [f]).map fiD)) (.lst (todo ++ [.tup [.str "sums", .non, .int k]])) xs) Q := by
  obtain ⟨x1, x2, x3, x4, x5, x6, x7, x8, x9, x10, x11, x12, x13, rfl⟩ := xs13 hx
  refine w_step ?_
  unfold figLoop
  walk_at "go"
  refine Ok.mk rfl ?_
  rw [tru_snoc]
  walk_at "go"
  refine w_pop rfl last_at ?_
  rw [List.dropLast_concat]
  walk_at "go"
  refine w_seqI ?_
  walk_at "go"
  refine gIx_l at_neg ?_
  walk_at "go"
  refine ⟨calm_fi f, ?_⟩
  walk_at "go"
  refine ⟨_, rfl, by show 3 ≤ 16777216; omega, ?_⟩
  refine w_cmap strD (fun d hd => ?_) ?_
  · have : ∃ g : Fg, d = g.d ∧ bdF B g := by
      rcases List.mem_cons.mp hd with rfl | hd
      · exact ⟨_, rfl, hf.1⟩
      · rcases List.mem_cons.mp hd with rfl | hd
        · exact ⟨_, rfl, hf.2.1⟩
        · rw [List.mem_singleton.mp hd]
          exact ⟨_, rfl, hf.2.2⟩
    obtain ⟨g, rfl, hg⟩ := this
    walk_at "go"
    refine Ok.mk (strD_e hg hB).1 ?_
    walk_at "go"
    exact ⟨rfl, rfl⟩
  walk_at "go"
  refine join_r hf hB fun s hs => ?_
  walk_at "go"
  refine g_addS (by rw [show (PySem.Str.ofString "sums ").length = 5 from by decide]; omega) ?_
  walk_at "go"
  refine ⟨hl, ?_⟩
  walk_at "go"
  exact w _ _ rfl
/-- a block's statements are laid down -/
theorem push_r {s : St} (hx : xs.length = 13) (hb : innerB s ≠ []) (hz : todo.length + 4 * szS s + 8 ≤ 16000000)
    (w : ∀ xs', xs'.length = 13 → W (st20 b (tabD t) (.int (p : Nat)) (.lst lines) (.lst gives) (.lst sums) (.lst (todo ++ [.tup [.str "fold", stD s, .int k]] ++ blksD (innerB s) k)) xs') Q) :
    W (st20 b (tabD t) (.int (p : Nat)) (.lst lines) (.lst gives) (.lst sums) (.lst (todo ++ [doI k (stD s)])) xs) Q := by
  obtain ⟨x1, x2, x3, x4, x5, x6, x7, x8, x9, x10, x11, x12, x13, rfl⟩ := xs13 hx
  refine w_step ?_
  unfold figLoop
  walk_at "go"
  refine Ok.mk rfl ?_
  rw [tru_snoc]
  walk_at "go"
  refine w_pop rfl last_at ?_
  rw [List.dropLast_concat]
  unfold doI
  walk_at "go"
  refine Ok.mk (inner_e s) ?_
  walk_at "go"
  refine Ok.mk rfl ?_
  have hne : (!(bosD (innerB s)).isEmpty) = true := by
    cases e : innerB s with
    | nil => exact absurd e hb
    | cons _ _ => rfl
  have hsz := sz_inner s
  rw [hne]
  walk_at "go"
  refine ⟨by omega, ?_⟩
  walk_at "go"
  refine w_seqI ?_
  walk_at "go"
  refine ⟨_, rfl, ?_⟩
  refine w_loop (fun es ρ => ∃ (rest suf : List (List St)) (td : List D) (y7 y11 y12 y13 y14 y15 y16 y17 y18 y19 : Option D), 
    ρ = [some b, some (tabD t), some (.int (p : Nat)), some (.lst lines), some (.lst gives), some (.lst sums), some (.lst td), y7, some (stD s), some (.int k), some (.tup (bosD (innerB s))), y11, y12, y13, y14, y15, y16, y17, y18, y19] ∧ innerB s = rest ++ suf ∧ es = (bosD rest).reverse ∧ td = todo ++ [.tup [.str "fold", stD s, .int k]] ++ blksD suf k) ?_ ?_ _ _
    ⟨innerB s, [], _, _, _, _, _, _, _, _, _, _, _, rfl, by rw [List.append_nil], rfl, by rw [blksD, List.append_nil]⟩
  · rintro d es ρ ⟨rest, suf, td, y7, y11, y12, y13, y14, y15, y16, y17, y18, y19, rfl, hi, he, rfl⟩
    rcases List.eq_nil_or_concat rest with rfl | ⟨rest', bb, hr⟩
    · cases he
    · rw [List.concat_eq_append] at hr
      subst hr
      rw [bosD_app, List.reverse_append] at he
      obtain ⟨e1, e2⟩ := List.cons.inj (show d :: es = D.tup (boD bb) :: (bosD rest').reverse from he)
      subst e1 e2
      have hs2 : szBs (innerB s) = szBs rest' + szBs [bb] + szBs suf := by rw [hi, szBs_app, szBs_app]
      have hs3 : szBs [bb] = 1 + szB bb := by rw [szBs, szBs]; omega
      have hl2 := blksD_len suf k
      have hl3 := szB_len bb
      have hlen : (todo ++ [D.tup [.str "fold", stD s, .int k]] ++ blksD suf k).length = todo.length + 1 + (blksD suf k).length := by rw [List.length_append, List.length_append]; rfl
      walk_at "go"
      refine ⟨by rw [hlen]; omega, ?_⟩
      walk_at "go"
      refine w_ext rfl ?_
      walk_at "go"
      refine w_seqI ?_
      walk_at "go"
      refine ⟨_, rfl, by rw [List.length_reverse, boD_len]; omega, ?_⟩
      refine w_cmap (doI (k + 1)) (fun d hd => ?_) ?_
      · walk_at "go"
        exact ⟨rfl, rfl⟩
      walk_at "go"
      refine ⟨_, _, rfl, rfl, by rw [List.length_append, hlen, List.length_map, List.length_reverse, boD_len, List.length_singleton]; omega, ?_⟩
      walk_at "go"
      refine ⟨by rw [List.length_append, List.length_append, hlen, List.length_map, List.length_reverse, boD_len, List.length_singleton]; omega, ?_⟩
      exact ⟨rest', bb :: suf, _, _, _, _, _, _, _, _, _, _, _, rfl, by rw [hi, List.append_assoc]; rfl, rfl, by
        rw [blksD, blkD]
        simp only [List.append_assoc, List.cons_append, List.nil_append]⟩
  · rintro ρ ⟨rest, suf, td, y7, y11, y12, y13, y14, y15, y16, y17, y18, y19, rfl, hi, he, rfl⟩
    have hr : rest = [] := by
      rcases List.eq_nil_or_concat rest with rfl | ⟨rest', bb, hr⟩
      · rfl
      · rw [hr, List.concat_eq_append, bosD_app, List.reverse_append] at he
        cases he
    subst hr
    rw [List.nil_append] at hi
    walk_at "go"
    rw [← hi]
    exact w _ rfl
end
end K10
namespace K10
local macro_rules | `(tactic| walk_at "st") => `(tactic| with_reducible first | refine low_sum_r ?_ | refine low_rank_r ?_ | refine key_lt ?_ | refine low_less_r ?_ | refine least2 ?_ | refine word_upto ?_ | refine word_in ?_)
local macro_rules | `(tactic| walk_at "st") => `(tactic| first
  | ((with_reducible show Ok (gEq (D.str (PySem.Str.ofString _)) (D.str (PySem.Str.ofString _))) _); first | refine Ok.mk (a := D.bl true) rfl ?_ | refine Ok.mk (a := D.bl false) rfl ?_)
  | ((with_reducible show Ok (gIn false (D.str (PySem.Str.ofString _)) (D.tup _)) _); first | refine Ok.mk (a := D.bl true) rfl ?_ | refine Ok.mk (a := D.bl false) rfl ?_)
  | ((with_reducible show Ok (gIn false (D.str (PySem.Str.ofString _)) (D.tup _)) _); first | refine Ok.mk (a := D.bl true) rfl ?_ | refine Ok.mk (a := D.bl false) rfl ?_)
  | ((with_reducible show Ok (gtTup _ _ (D.tup [_, _, _]) _) _); refine Ok.mk rfl ?_)
  | ((with_reducible show Ok (gtTup _ _ (fiD _) _) _); refine Ok.mk rfl ?_))
section
variable {t : List (List Pr)} {q m p : Nat} {C A : Int} {b : D} {lines gives sums todo : List D} {xs : List (Option D)} {k : Int} {Q : Fl → Prop}
theorem fold_r (ht : tbOk t q m) (hp : p < m) (hC : 0 ≤ C) (hb : tbBd C t) {s : St} (hs : okS q m s) (hc : cbS C s) {a : Fi} {pre : List Fi} (ha : a.1.nd) (hA : 0 ≤ A) (hab : bdFi A a) (hw : A + wtS C s ≤ LIM)
    (hx : xs.length = 13) (hl : lines.length < 16777216) (hg : gives.length < 16777216)
    (w : ∀ line xs', xs'.length = 13 → W (st20 b (tabD t) (.int (p : Nat)) (.lst (lines ++ [line])) (.lst (gives ++ [fiD (figS t p s)])) (.lst ((pre ++ [addF a (figS t p s)]).map fiD)) (.lst todo) xs') Q) :
    W (st20 b (tabD t) (.int (p : Nat)) (.lst lines) (.lst gives) (.lst ((pre ++ [a]).map fiD ++ (inF t p s).map fiD)) (.lst (todo ++ [.tup [.str "fold", stD s, .int k]])) xs) Q := by
  obtain ⟨x1, x2, x3, x4, x5, x6, x7, x8, x9, x10, x11, x12, x13, rfl⟩ := xs13 hx
  refine w_step ?_
  unfold figLoop
  walk_at "go"
  refine Ok.mk rfl ?_
  rw [tru_snoc]
  walk_at "go"
  refine w_pop rfl last_at ?_
  rw [List.dropLast_concat]
  walk_at "go"
  refine Ok.mk (inner_e s) ?_
  walk_at "go"
  refine tail_r ht hp hC hb hs hc ha hA hab hw ?_ hl hg ?_
  · rw [bosD_map, List.length_map, inF_eq, figBs_len]
  exact w
theorem leaf_r (ht : tbOk t q m) (hp : p < m) (hC : 0 ≤ C) (hb : tbBd C t) {s : St} (hs : okS q m s) (hc : cbS C s) {a : Fi} {pre : List Fi} (ha : a.1.nd) (hA : 0 ≤ A) (hab : bdFi A a) (hw : A + wtS C s ≤ LIM)
    (hx : xs.length = 13) (hl : lines.length < 16777216) (hg : gives.length < 16777216) (hi : innerB s = [])
    (w : ∀ line xs', xs'.length = 13 → W (st20 b (tabD t) (.int (p : Nat)) (.lst (lines ++ [line])) (.lst (gives ++ [fiD (figS t p s)])) (.lst ((pre ++ [addF a (figS t p s)]).map fiD)) (.lst todo) xs') Q) :
    W (st20 b (tabD t) (.int (p : Nat)) (.lst lines) (.lst gives) (.lst ((pre ++ [a]).map fiD)) (.lst (todo ++ [doI k (stD s)])) xs) Q := by
  obtain ⟨x1, x2, x3, x4, x5, x6, x7, x8, x9, x10, x11, x12, x13, rfl⟩ := xs13 hx
  have hi2 : inF t p s = [] := by rw [inF_eq, hi]; rfl
  have he : (pre ++ [a]).map fiD = (pre ++ [a]).map fiD ++ (inF t p s).map fiD := by rw [hi2, List.map_nil, List.append_nil]
  rw [he]
  refine w_step ?_
  unfold figLoop
  walk_at "go"
  refine Ok.mk rfl ?_
  rw [tru_snoc]
  walk_at "go"
  refine w_pop rfl last_at ?_
  rw [List.dropLast_concat]
  unfold doI
  walk_at "go"
  refine Ok.mk (inner_e s) ?_
  walk_at "go"
  refine Ok.mk rfl ?_
  rw [hi, show (!(bosD []).isEmpty) = false from rfl]
  walk_at "go"
  refine tail_r ht hp hC hb hs hc ha hA hab hw ?_ hl hg ?_
  · rw [hi2]; rfl
  exact w
end
mutual
/-- the figures that are given on the way -/
def gvS (t : List (List Pr)) (p : Nat) : St → List Fi
  | .eit bs => gvBs t p bs ++ [figS t p (.eit bs)]
  | .loop b => gvB t p b ++ [figS t p (.loop b)]
  | .rep u n b => gvB t p b ++ [figS t p (.rep u n b)]
  | s => [figS t p s]
def gvB (t : List (List Pr)) (p : Nat) : List St → List Fi
  | [] => []
  | s :: b => gvS t p s ++ gvB t p b
def gvBs (t : List (List Pr)) (p : Nat) : List (List St) → List Fi
  | [] => []
  | b :: bs => gvB t p b ++ gvBs t p bs
end
theorem gvS_eq (t : List (List Pr)) (p : Nat) (s : St) : gvS t p s = gvBs t p (innerB s) ++ [figS t p s] := by
  cases s with
  | eit bs => rw [gvS]; rfl
  | loop b => rw [gvS, innerB, gvBs, gvBs, List.append_nil]
  | rep u n b => rw [gvS, innerB, gvBs, gvBs, List.append_nil]
  | _ => rfl
mutual
theorem gvS_len (t : List (List Pr)) (p : Nat) : ∀ s : St, (gvS t p s).length ≤ szS s
  | .eit bs => by
    have := gvBs_len t p bs
    rw [gvS, szS, List.length_append, List.length_singleton]
    omega
  | .loop b => by
    have := gvB_len t p b
    rw [gvS, szS, List.length_append, List.length_singleton]
    omega
  | .rep _ _ b => by
    have := gvB_len t p b
    rw [gvS, szS, List.length_append, List.length_singleton]
    omega
  | .chg _ => Nat.le_refl 1
  | .call _ => Nat.le_refl 1
  | .back => Nat.le_refl 1
  | .stop => Nat.le_refl 1
theorem gvB_len (t : List (List Pr)) (p : Nat) : ∀ b : List St, (gvB t p b).length ≤ szB b
  | [] => Nat.le_refl _
  | s :: b => by
    have h1 := gvS_len t p s
    have h2 := gvB_len t p b
    rw [gvB, szB, List.length_append]
    omega
theorem gvBs_len (t : List (List Pr)) (p : Nat) : ∀ bs : List (List St), (gvBs t p bs).length ≤ szBs bs
  | [] => Nat.le_refl _
  | b :: bs => by
    have h1 := gvB_len t p b
    have h2 := gvBs_len t p bs
    rw [gvBs, szBs, List.length_append]
    omega
end
structure Cx where
  t : List (List Pr)
  q : Nat
  m : Nat
  p : Nat
  C : Int
  ht : tbOk t q m
  hp : p < m
  hC : 0 ≤ C
  hb : tbBd C t
/-- there is room -/
abbrev Rm (lines gives todo : List D) (pre : List Fi) (k : Int) (n j : Nat) : Prop := lines.length + 4 * n ≤ 16000000 ∧ gives.length + 4 * n ≤ 16000000 ∧ todo.length + 4 * n + 8 ≤ 16000000 + j ∧ pre.length + 4 * n ≤ 16000000 + j ∧ 0 ≤ k ∧ k + n ≤ 10000
def DoS (c : Cx) (s : St) : Prop := ∀ {b : D} {lines gives todo : List D} {xs : List (Option D)} {k A : Int} {a : Fi} {pre : List Fi} {Q : Fl → Prop}, okS c.q c.m s → cbS c.C s → a.1.nd → 0 ≤ A → bdFi A a → A + wtS c.C s ≤ LIM → xs.length = 13 → Rm lines gives todo pre k (szS s) 0 →
  (∀ lines' xs', xs'.length = 13 → lines'.length ≤ lines.length + 4 * szS s → W (st20 b (tabD c.t) (.int (c.p : Nat)) (.lst lines') (.lst (gives ++ (gvS c.t c.p s).map fiD)) (.lst ((pre ++ [addF a (figS c.t c.p s)]).map fiD)) (.lst todo) xs') Q) →
  W (st20 b (tabD c.t) (.int (c.p : Nat)) (.lst lines) (.lst gives) (.lst ((pre ++ [a]).map fiD)) (.lst (todo ++ [doI k (stD s)])) xs) Q
def DoB (c : Cx) (bo : List St) : Prop := ∀ {b : D} {lines gives todo : List D} {xs : List (Option D)} {k A : Int} {a : Fi} {pre : List Fi} {Q : Fl → Prop}, okB c.q c.m bo → cbB c.C bo → a.1.nd → 0 ≤ A → bdFi A a → A + wtB c.C bo ≤ LIM → xs.length = 13 → Rm lines gives todo pre k (szB bo) 0 →
  (∀ lines' xs', xs'.length = 13 → lines'.length ≤ lines.length + 4 * szB bo → W (st20 b (tabD c.t) (.int (c.p : Nat)) (.lst lines') (.lst (gives ++ (gvB c.t c.p bo).map fiD)) (.lst ((pre ++ [figB c.t c.p a bo]).map fiD)) (.lst todo) xs') Q) →
  W (st20 b (tabD c.t) (.int (c.p : Nat)) (.lst lines) (.lst gives) (.lst ((pre ++ [a]).map fiD)) (.lst (todo ++ (boD bo).reverse.map (doI k))) xs) Q
def DoBs (c : Cx) (bs : List (List St)) : Prop := ∀ {b : D} {lines gives todo : List D} {xs : List (Option D)} {k : Int} {pre : List Fi} {Q : Fl → Prop}, okBs c.q c.m bs → cbBs c.C bs → wtBs c.C bs ≤ LIM → xs.length = 13 → Rm lines gives todo pre k (szBs bs) bs.length →
  (∀ lines' xs', xs'.length = 13 → lines'.length + bs.length ≤ lines.length + 4 * szBs bs → W (st20 b (tabD c.t) (.int (c.p : Nat)) (.lst lines') (.lst (gives ++ (gvBs c.t c.p bs).map fiD)) (.lst (pre.map fiD ++ (figBs c.t c.p bs).map fiD)) (.lst todo) xs') Q) →
  W (st20 b (tabD c.t) (.int (c.p : Nat)) (.lst lines) (.lst gives) (.lst (pre.map fiD)) (.lst (todo ++ blksD bs k)) xs) Q
theorem doS_of {c : Cx} {s : St} (h : DoBs c (innerB s)) : DoS c s := by
  intro b lines gives todo xs k A a pre Q hs hc ha hA hab hw hx hr w
  obtain ⟨r1, r2, r3, r4, r5, r6⟩ := hr
  have hg := gvS_len c.t c.p s
  have hz := sz_inner s
  by_cases hi : innerB s = []
  · refine leaf_r c.ht c.hp c.hC c.hb hs hc ha hA hab hw hx (by omega) (by omega) hi fun line xs' hx' => ?_
    have h1 : 1 ≤ szS s := by
      have := hg
      rw [gvS_eq, List.length_append, List.length_singleton] at this
      omega
    have := w (lines ++ [line]) xs' hx' (by rw [List.length_append, List.length_singleton]; omega)
    rw [gvS_eq, hi] at this
    exact this
  · have hne : 1 ≤ (innerB s).length := by
      cases e : innerB s with
      | nil => exact absurd e hi
      | cons _ _ => rw [List.length_cons]; omega
    have ho : okBs c.q c.m (innerB s) := by
      cases s with
      | eit bs => exact hs.2
      | loop b => exact ⟨hs, trivial⟩
      | rep u n b => exact ⟨hs.2.2, trivial⟩
      | _ => trivial
    have hcb : cbBs c.C (innerB s) := by
      cases s with
      | eit bs => exact hc
      | loop b => exact ⟨hc, trivial⟩
      | rep u n b => exact ⟨hc, trivial⟩
      | _ => trivial
    have hwt : wtBs c.C (innerB s) ≤ LIM := by
      have hn := wtBs_nn c.hC (innerB s)
      cases s with
      | eit bs => rw [wtS] at hw; show wtBs c.C bs ≤ LIM; omega
      | loop b => rw [wtS] at hw; show wtBs c.C [b] ≤ LIM; rw [wtBs, wtBs]; omega
      | rep u n b =>
        rw [wtS] at hw
        change 0 ≤ wtBs c.C [b] at hn
        show wtBs c.C [b] ≤ LIM
        rw [wtBs, wtBs] at hn ⊢
        omega
      | _ => show (0 : Int) ≤ LIM; decide
    refine push_r hx hi (by omega) fun xs' hx' => ?_
    have hg2 := gvBs_len c.t c.p (innerB s)
    refine h (pre := pre ++ [a]) (k := k) ho hcb hwt hx' ⟨by omega, by omega, ?_, ?_, r5, by omega⟩ fun lines' xs' hx' hl' => ?_
    · rw [List.length_append, List.length_singleton]
      omega
    · rw [List.length_append, List.length_singleton]
      omega
    · rw [← inF_eq]
      refine fold_r c.ht c.hp c.hC c.hb hs hc ha hA hab hw hx' (by omega) (by rw [List.length_append, List.length_map]; omega) fun line xs' hx' => ?_
      have := w (lines' ++ [line]) xs' hx' (by rw [List.length_append, List.length_singleton]; omega)
      rw [gvS_eq, List.map_append, ← List.append_assoc] at this
      exact this
theorem doB_nil (c : Cx) : DoB c [] := by
  intro b lines gives todo xs k A a pre Q _ _ _ _ _ _ hx _ w
  have := w lines xs hx (Nat.le_add_right _ _)
  rw [show (gvB c.t c.p []).map fiD = [] from rfl, List.append_nil] at this
  rw [show (boD []).reverse.map (doI k) = [] from rfl, List.append_nil]
  exact this
theorem doB_cons {c : Cx} {s : St} {bo : List St} (h1 : DoS c s) (h2 : DoB c bo) : DoB c (s :: bo) := by
  intro b lines gives todo xs k A a pre Q ho hc ha hA hab hw hx hr w
  obtain ⟨r1, r2, r3, r4, r5, r6⟩ := hr
  rw [szB] at r1 r2 r3 r4 r6 w
  rw [wtB] at hw
  have hg := gvS_len c.t c.p s
  have hl := szB_len bo
  have hn1 := wtS_nn c.hC s
  have hn2 := wtB_nn c.hC bo
  have e : todo ++ (boD (s :: bo)).reverse.map (doI k) = (todo ++ (boD bo).reverse.map (doI k)) ++ [doI k (stD s)] := by
    rw [boD, List.reverse_cons, List.map_append, List.append_assoc]
    rfl
  rw [e]
  refine h1 ho.1 hc.1 ha hA hab (by omega) hx ⟨by omega, by omega, ?_, by omega, r5, by omega⟩ fun lines' xs' hx' hl' => ?_
  · rw [List.length_append, List.length_map, List.length_reverse, boD_len]
    omega
  · have hf := figS_nd c.ht c.hp s ho.1
    have hfb := figS_bd (p := c.p) c.hC c.hb s c.q c.m ho.1 hc.1
    refine h2 (A := A + wtS c.C s) ho.2 hc.2 (addF_nd ha hf) (by omega) (bd_addF hA hn1 hab hfb) (by omega) hx' ⟨by omega, ?_, by omega, by omega, r5, by omega⟩ fun lines'' xs'' hx'' hl'' => ?_
    · rw [List.length_append, List.length_map]
      omega
    · have := w lines'' xs'' hx'' (by omega)
      rw [gvB, List.map_append, ← List.append_assoc] at this
      exact this
theorem doBs_nil (c : Cx) : DoBs c [] := by
  intro b lines gives todo xs k pre Q _ _ _ hx _ w
  have := w lines xs hx (Nat.le_add_right _ _)
  rw [show (gvBs c.t c.p []).map fiD = [] from rfl, List.append_nil, show (figBs c.t c.p []).map fiD = [] from rfl, List.append_nil] at this
  rw [show blksD [] k = [] from rfl, List.append_nil]
  exact this
theorem doBs_cons {c : Cx} {bo : List St} {bs : List (List St)} (h1 : DoB c bo) (h2 : DoBs c bs) : DoBs c (bo :: bs) := by
  intro b lines gives todo xs k pre Q ho hc hw hx hr w
  obtain ⟨r1, r2, r3, r4, r5, r6⟩ := hr
  rw [szBs] at r1 r2 r3 r4 r6 w
  rw [wtBs] at hw
  have hg := gvB_len c.t c.p bo
  have hl := szB_len bo
  have hl2 := blksD_len bs k
  have hl3 := szBs_len bs
  rw [List.length_cons] at r3 r4
  have hn1 := wtB_nn c.hC bo
  have hn2 := wtBs_nn c.hC bs
  have e : todo ++ blksD (bo :: bs) k = (((todo ++ blksD bs k) ++ [D.tup [.str "sums", .non, .int k]]) ++ (boD bo).reverse.map (doI (k + 1))) ++ [D.tup [.str "in", .non, .int (k + 1)]] := by
    rw [blksD, blkD]
    simp only [List.append_assoc, List.cons_append, List.nil_append]
  rw [e]
  refine in_r hx (by omega) (by rw [List.length_map]; omega) (by omega) (by omega) fun line xs' hx' => ?_
  have e2 : pre.map fiD ++ [fiD fi0] = (pre ++ [fi0]).map fiD := by rw [List.map_append]; rfl
  rw [e2]
  refine h1 (A := 0) ho.1 hc.1 (Int.le_refl 0) (Int.le_refl 0) (bd_fi0 (Int.le_refl 0)) (by omega) hx' ⟨?_, by omega, ?_, by omega, by omega, by omega⟩ fun lines' xs' hx' hl' => ?_
  · rw [List.length_append, List.length_singleton]
    omega
  · rw [List.length_append, List.length_append, List.length_singleton]
    omega
  · rw [List.length_append, List.length_singleton] at hl'
    have hfb := figB_bd (p := c.p) c.hC c.hb fi0 bo 0 c.q c.m (Int.le_refl 0) (bd_fi0 (Int.le_refl 0)) ho.1 hc.1
    refine sums_r hx' (by omega) hfb (by omega) fun line xs' hx' => ?_
    refine h2 (pre := pre ++ [figB c.t c.p fi0 bo]) ho.2 hc.2 (by omega) hx' ⟨?_, ?_, by omega, ?_, r5, by omega⟩ fun lines'' xs'' hx'' hl'' => ?_
    · rw [List.length_append, List.length_singleton]
      omega
    · rw [List.length_append, List.length_map]
      omega
    · rw [List.length_append, List.length_singleton]
      omega
    · rw [List.length_append, List.length_singleton] at hl''
      have := w lines'' xs'' hx'' (by rw [List.length_cons]; omega)
      rw [gvBs, List.map_append, ← List.append_assoc, figBs] at this
      rw [show (pre ++ [figB c.t c.p fi0 bo]).map fiD ++ (figBs c.t c.p bs).map fiD = pre.map fiD ++ (figB c.t c.p fi0 bo :: figBs c.t c.p bs).map fiD from by rw [List.map_append, List.append_assoc]; rfl]
      exact this
mutual
theorem doS (c : Cx) : ∀ s : St, DoS c s
  | .eit bs => doS_of (doBs c bs)
  | .loop b => doS_of (doBs_cons (doB c b) (doBs_nil c))
  | .rep _ _ b => doS_of (doBs_cons (doB c b) (doBs_nil c))
  | .chg _ => doS_of (doBs_nil c)
  | .call _ => doS_of (doBs_nil c)
  | .back => doS_of (doBs_nil c)
  | .stop => doS_of (doBs_nil c)
theorem doB (c : Cx) : ∀ b : List St, DoB c b
  | [] => doB_nil c
  | s :: b => doB_cons (doS c s) (doB c b)
theorem doBs (c : Cx) : ∀ bs : List (List St), DoBs c bs
  | [] => doBs_nil c
  | b :: bs => doBs_cons (doB c b) (doBs c bs)
end
/-- what the law's own figures give -/
theorem figs_r (c : Cx) {bo : List St} {lines gives : List D} (ho : okB c.q c.m bo) (hc : cbB c.C bo) (hw : wtB c.C bo ≤ LIM) (h1 : lines.length ≤ 1000000) (h2 : gives.length ≤ 1000000) (hz : szB bo ≤ 9000) {Q : D × List D → Prop}
    (q : ∀ lines' : List D, Q (fiD (figB c.t c.p fi0 bo), [.non, .non, .non, .lst lines', .lst (gives ++ (gvB c.t c.p bo).map fiD)])) : Ok (F__law_figures [.tup (boD bo), tabD c.t, .int (c.p : Nat), .lst lines, .lst gives]) Q := by
  have hl := szB_len bo
  rw [fig_eq]
  walk_at "go"
  refine w_seqI ?_
  walk_at "go"
  refine ⟨_, rfl, by rw [List.length_reverse, boD_len]; omega, ?_⟩
  refine w_cmap (doI 0) (fun d hd => ?_) ?_
  · walk_at "go"
    exact ⟨rfl, rfl⟩
  walk_at "go"
  refine doB c bo (pre := []) (a := fi0) (A := 0) (k := 0) (todo := []) (lines := lines) (gives := gives) ho hc (Int.le_refl 0) (Int.le_refl 0) (bd_fi0 (Int.le_refl 0)) (by omega) rfl ⟨by omega, by omega, by rw [List.length_nil]; omega, by rw [List.length_nil]; omega, by omega, by omega⟩ fun lines' xs' hx' hl' => ?_
  obtain ⟨x1, x2, x3, x4, x5, x6, x7, x8, x9, x10, x11, x12, x13, rfl⟩ := xs13 hx'
  have hfb := figB_bd (p := c.p) c.hC c.hb fi0 bo 0 c.q c.m (Int.le_refl 0) (bd_fi0 (Int.le_refl 0)) ho hc
  refine w_step ?_
  walk_at "go"
  refine Ok.mk rfl ?_
  rw [show (!([] : List D).isEmpty) = false from rfl]
  walk_at "go"
  refine w_seqI ?_
  walk_at "go"
  refine gIx_l (d := fiD (figB c.t c.p fi0 bo)) rfl ?_
  walk_at "go"
  refine ⟨calm_fi _, ?_⟩
  walk_at "go"
  refine ⟨_, rfl, by show 3 ≤ 16777216; omega, ?_⟩
  refine w_cmap strD (fun d hd => ?_) ?_
  · have : ∃ g : Fg, d = g.d ∧ bdF (0 + wtB c.C bo) g := by
      rcases List.mem_cons.mp hd with rfl | hd
      · exact ⟨_, rfl, hfb.1⟩
      · rcases List.mem_cons.mp hd with rfl | hd
        · exact ⟨_, rfl, hfb.2.1⟩
        · rw [List.mem_singleton.mp hd]
          exact ⟨_, rfl, hfb.2.2⟩
    obtain ⟨g, rfl, hg⟩ := this
    walk_at "go"
    refine Ok.mk (strD_e hg (by omega)).1 ?_
    walk_at "go"
    exact ⟨rfl, rfl⟩
  walk_at "go"
  refine join_r hfb (by omega) fun s hs => ?_
  walk_at "go"
  refine g_addS (by rw [show (PySem.Str.ofString "sums ").length = 5 from by decide]; omega) ?_
  walk_at "go"
  refine ⟨by omega, ?_⟩
  walk_at "go"
  refine gIx_l (d := fiD (figB c.t c.p fi0 bo)) rfl ?_
  walk_at "go"
  refine ⟨calm_fi _, ?_⟩
  walk_at "go"
  exact q _
end K10
namespace K10
local macro_rules | `(tactic| walk_at "st") => `(tactic| with_reducible first | refine low_sum_r ?_ | refine low_rank_r ?_ | refine key_lt ?_ | refine low_less_r ?_ | refine least2 ?_ | refine word_upto ?_ | refine word_in ?_)
local macro_rules | `(tactic| walk_at "st") => `(tactic| first
  | ((with_reducible show Ok (gEq (D.str (PySem.Str.ofString _)) (D.str (PySem.Str.ofString _))) _); first | refine Ok.mk (a := D.bl true) rfl ?_ | refine Ok.mk (a := D.bl false) rfl ?_)
  | ((with_reducible show Ok (gIn false (D.str (PySem.Str.ofString _)) (D.tup _)) _); first | refine Ok.mk (a := D.bl true) rfl ?_ | refine Ok.mk (a := D.bl false) rfl ?_)
  | ((with_reducible show Ok (gIn false (D.str (PySem.Str.ofString _)) (D.tup _)) _); first | refine Ok.mk (a := D.bl true) rfl ?_ | refine Ok.mk (a := D.bl false) rfl ?_)
  | ((with_reducible show Ok (gtTup _ _ (D.tup [_, _, _]) _) _); refine Ok.mk rfl ?_)
  | ((with_reducible show Ok (gtTup _ _ (fiD _) _) _); refine Ok.mk rfl ?_))
/-! the pool -/
def Po (p : D) : Prop := ∃ (a b : Int) (ns : List Int), p = .lst (.int a :: .int b :: ns.map .int) ∧ ns.length ≤ 63
theorem putD_nil (x d : D) : putD [] x d = x := rfl
theorem ixN_in {n : Nat} {i : Int} (h0 : 0 ≤ i) (h1 : i < n) : ixN n i = some i.toNat := by
  unfold ixN
  rw [if_pos h0, if_pos (by omega)]
noncomputable def takeTail : Ev → Res Fl :=
  (sSeq (sAugP 0 gIAdd (plName 0) (dConst (.int 1)) (dConst (.int 1)))
  (sSeq (sPut 0 (dOp gMod (dCallB gIntOf (dCons (dOp gAdd (dOp gAdd (dOp gMul (dCalm (dOp gIx (dVar 0) (dConst (.int 0)))) (dConst (.int 39373))) (dOp gMul (dCalm (dOp gIx (dVar 0) (dConst (.int 1)))) (dConst (.int 8597)))) (dConst (.int 17))) dNil)) (dConst (.int 2147483647))) (dConst (.int 0)))
  (sRet (dOp gMod (dCallB gIntOf (dCons (dOp gFdiv (dCalm (dOp gIx (dVar 0) (dConst (.int 0)))) (dConst (.int 160))) dNil)) (dVar 1)))))
theorem take_eq : F__law_take = mkF 3 [1, 0] none
  ((sSeq (sIf (dBool (dOp gGt (dCalm (dCallB gLen (dCons (dVar 0) dNil))) (dConst (.int 2))))
  (sSeq (sSet 2 (dPop 0))
  (sIf (dBool (dOp gGt (dVar 2) (dConst (.int 1))))
  (sSeq (sApp 0 (dOp gFdiv (dVar 2) (dVar 1)))
  (sRet (dOp gMod (dCallB gIntOf (dCons (dVar 2) dNil)) (dVar 1))))
  sNil))
  sNil)
  takeTail)) := rfl
theorem takeTail_r {a b many : Int} {ns : List Int} {x : Option D} (h0 : 0 < many) (hn : ns.length ≤ 63) {Q : Fl → Prop} (q : ∀ v p', Po p' → 0 ≤ v → v < many → Q (.rt (.int v) [some p', some (.int many), x])) : Ok (takeTail [some (.lst (.int a :: .int b :: ns.map .int)), some (.int many), x]) Q := by
  unfold takeTail
  walk_at "go"
  refine w_augP ?_
  walk_at "go"
  refine ⟨_, _, _, 1, _, rfl, rfl, rfl, ixN_in (by omega) (by simp only [List.length_cons]; omega), rfl, ?_⟩
  walk_at "go"
  rw [putD_nil]
  walk_at "go"
  refine gIx_l (atI_nat (j := 1) rfl) ?_
  walk_at "go"
  refine ⟨_, _, 0, rfl, rfl, ixN_in (by omega) (by simp only [List.length_cons]; omega), ?_⟩
  walk_at "go"
  exact q _ _ ⟨_, _, _, rfl, hn⟩ (Int.emod_nonneg _ (by omega)) (Int.emod_lt_of_pos _ h0)
theorem drop2 {x y : D} {xs : List D} {z : D} : (x :: y :: (xs ++ [z])).dropLast = x :: y :: xs := by
  rw [show x :: y :: (xs ++ [z]) = (x :: y :: xs) ++ [z] from rfl, List.dropLast_concat]
theorem take2 {p : D} {many : Int} (h : Po p) (h0 : 0 < many) (h1 : many ≤ 10 ^ 62) {Q : D × List D → Prop} (q : ∀ v p', Po p' → 0 ≤ v → v < many → Q (.int v, [p', .non])) : Ok (F__law_take [p, .int many]) Q := by
  obtain ⟨a, b, ns, rfl, hn⟩ := h
  have hm : many.natAbs < 2 ^ 256 := Nat.lt_of_le_of_lt (show many.natAbs ≤ 10 ^ 62 by omega) (by decide)
  rw [take_eq]
  walk_at "go"
  rcases List.eq_nil_or_concat ns with rfl | ⟨ns', n, e⟩
  · refine ite2 (fun hc => ?_) (fun hc => ?_)
    · cases hc
    · walk_at "go"
      refine takeTail_r (ns := []) h0 hn fun v p' hp hv hv2 => ?_
      walk_at "go"
      exact q _ _ hp hv hv2
  · rw [List.concat_eq_append] at e
    subst e
    rw [List.length_append, List.length_singleton] at hn
    rw [List.map_append, List.map_cons, List.map_nil]
    refine ite2 (fun hc => ?_) (fun hc => ?_)
    · walk_at "go"
      refine w_pop (d := .int n) rfl ?_ ?_
      · simp
      rw [drop2]
      walk_at "go"
      refine ite2 (fun hc => ?_) (fun hc => ?_)
      · walk_at "go"
        refine gFdiv_p (wide_div h0 hm (by omega) (by omega)) ?_
        refine ⟨_, rfl, by simp only [List.length_cons, List.length_map]; omega, ?_⟩
        walk_at "go"
        refine q _ _ ⟨a, b, ns' ++ [n / many], ?_, by rw [List.length_append, List.length_singleton]; omega⟩ (Int.emod_nonneg _ (by omega)) (Int.emod_lt_of_pos _ h0)
        rw [List.map_append]
        rfl
      · walk_at "go"
        refine takeTail_r h0 (by omega) fun v p' hp hv hv2 => ?_
        walk_at "go"
        exact q _ _ hp hv hv2
    · exfalso
      have := of_decide_eq_false hc
      simp only [List.length_append, List.length_map, List.length_singleton] at this
      omega
end K10
namespace K10
local macro_rules | `(tactic| walk_at "st") => `(tactic| with_reducible first | refine low_sum_r ?_ | refine low_rank_r ?_ | refine key_lt ?_ | refine low_less_r ?_ | refine least2 ?_ | refine word_upto ?_ | refine word_in ?_)
local macro_rules | `(tactic| walk_at "st") => `(tactic| first
  | ((with_reducible show Ok (gEq (D.str (PySem.Str.ofString _)) (D.str (PySem.Str.ofString _))) _); first | refine Ok.mk (a := D.bl true) rfl ?_ | refine Ok.mk (a := D.bl false) rfl ?_)
  | ((with_reducible show Ok (gIn false (D.str (PySem.Str.ofString _)) (D.tup _)) _); first | refine Ok.mk (a := D.bl true) rfl ?_ | refine Ok.mk (a := D.bl false) rfl ?_)
  | ((with_reducible show Ok (gIn false (D.str (PySem.Str.ofString _)) (D.tup _)) _); first | refine Ok.mk (a := D.bl true) rfl ?_ | refine Ok.mk (a := D.bl false) rfl ?_)
  | ((with_reducible show Ok (gtTup _ _ (D.tup [_, _, _]) _) _); refine Ok.mk rfl ?_)
  | ((with_reducible show Ok (gtTup _ _ (fiD _) _) _); refine Ok.mk rfl ?_))
theorem gSl_l {ds : List D} {lo hi : Option Int} {Q : D → Prop} (q : Q (.lst (cutL ds lo hi))) : Ok (gCutL (.lst ds) lo hi) Q := Ok.ret q
theorem pool_r {ns : List Int} {Q : D × List D → Prop} (hl : ns.length ≤ 63) (q : ∀ p, Po p → Q (p, [.non])) : Ok (F__law_pool [.lst (ns.map .int)]) Q := by
  unfold F__law_pool
  walk_at "go"
  refine w_seqI ?_
  walk_at "go"
  refine ⟨_, rfl, ?_⟩
  walk_at "go"
  refine ⟨_, rfl, ?_⟩
  have hcl : (cutL (ns.map D.int) none (some 63)).length ≤ 63 := by
    unfold cutL
    rw [List.length_take, List.length_drop, List.length_map]
    omega
  have hci : ∀ d ∈ cutL (ns.map D.int) none (some 63), ∃ i : Int, d = .int i := fun d hd => by
    unfold cutL at hd
    obtain ⟨i, _, rfl⟩ := List.mem_map.mp (List.mem_of_mem_drop (List.mem_of_mem_take hd))
    exact ⟨i, rfl⟩
  refine w_loop (fun ds ρ => ∃ (nums : List Int) (mixed : Int) (a b : Option D), ρ = [some (.lst (ns.map .int)), some (.int mixed), some (.lst (nums.map .int)), a, b] ∧ nums.length + ds.length ≤ 63 ∧ (∀ d ∈ ds, ∃ i : Int, d = .int i)) ?_ ?_ _ _ ⟨[], _, _, _, rfl, by simpa using hcl, hci⟩
  · rintro d ds ρ ⟨nums, mixed, a, b, rfl, hn, hd⟩
    obtain ⟨i, rfl⟩ := hd d List.mem_cons_self
    have hd' := fun d h => hd d (List.mem_cons_of_mem _ h)
    rw [List.length_cons] at hn
    walk_at "go"
    refine ite2 (fun hc => ?_) (fun hc => ?_)
    · walk_at "go"
      refine ⟨by rw [List.length_map]; omega, ?_⟩
      rw [show ∀ z : Int, List.map D.int nums ++ [.int z] = List.map D.int (nums ++ [z]) from fun z => by rw [List.map_append]; rfl]
      exact ⟨_, _, _, _, rfl, by rw [List.length_append, List.length_singleton]; omega, hd'⟩
    · walk_at "go"
      exact ⟨nums, _, _, _, rfl, by omega, hd'⟩
  · rintro ρ ⟨nums, mixed, a, b, rfl, hn, hd⟩
    walk_at "go"
    refine w_catE ?_
    walk_at "go"
    refine ⟨_, _, rfl, rfl, by simp only [List.length_cons, List.length_nil, List.length_map]; omega, ?_⟩
    walk_at "go"
    exact q _ ⟨mixed, 0, nums, rfl, by simpa using hn⟩
local macro_rules | `(tactic| walk_at "st") => `(tactic| first
  | ((with_reducible refine take2 ?h1 ?h2 ?h3 (fun _ _ _ _ _ => ?_)); (case h1 => assumption); (case h2 => omega); (case h3 => omega))
  | (with_reducible refine gSl_l ?_)
  | ((with_reducible show ∃ n : Int, D.int _ = D.int n ∧ Ok _ _); refine ⟨_, rfl, ?_⟩))
theorem pair_r {p : D} (h : Po p) {Q : D × List D → Prop} (q : ∀ (x : Pr) p', Po p' → x.1.nd → bdF (10 ^ 41) x.1 → bdF (10 ^ 41) x.2 → Q (prD x, [p'])) : Ok (F__law_pair [p]) Q := by
  unfold F__law_pair
  walk_at "go"
  rename_i a1 p1 hp1 a10 a11 a2 p2 hp2 a20 a21 a3 p3 hp3 a30 a31 v p4 hp4 v0 v1
  have key : ∃ f : Fg, atI [D.str "deep", .int 0, .int a1, .int a2, .int (10 ^ 40 + a3)] v = some f.d ∧ f.nd ∧ bdF (10 ^ 41) f := by
    have : v = 0 ∨ v = 1 ∨ v = 2 ∨ v = 3 ∨ v = 4 := by omega
    rcases this with rfl | rfl | rfl | rfl | rfl
    · exact ⟨.deep, rfl, trivial, trivial⟩
    · exact ⟨.num 0, rfl, Int.le_refl 0, by constructor <;> decide⟩
    · exact ⟨.num a1, rfl, a10, by constructor <;> omega⟩
    · exact ⟨.num a2, rfl, a20, by constructor <;> omega⟩
    · exact ⟨.num (10 ^ 40 + a3), rfl, by show (0 : Int) ≤ _; omega, by constructor <;> omega⟩
  obtain ⟨f, ef, nf, bf⟩ := key
  refine gIx_t ef ?_
  walk_at "go"
  rename_i b1 p5 hp5 b10 b11 b2 p6 hp6 b20 b21 b3 p7 hp7 b30 b31 w p8 hp8 w0 w1
  have key : ∃ f : Fg, atI [D.str "deep", .str "never", .int 0, .int (b1 - 4), .int (b2 - 4), .int (-10 ^ 40 - b3)] w = some f.d ∧ bdF (10 ^ 41) f := by
    have : w = 0 ∨ w = 1 ∨ w = 2 ∨ w = 3 ∨ w = 4 ∨ w = 5 := by omega
    rcases this with rfl | rfl | rfl | rfl | rfl | rfl
    · exact ⟨.deep, rfl, trivial⟩
    · exact ⟨.never, rfl, trivial⟩
    · exact ⟨.num 0, rfl, by constructor <;> decide⟩
    · exact ⟨.num (b1 - 4), rfl, by constructor <;> omega⟩
    · exact ⟨.num (b2 - 4), rfl, by constructor <;> omega⟩
    · exact ⟨.num (-10 ^ 40 - b3), rfl, by constructor <;> omega⟩
  obtain ⟨g, eg, bg⟩ := key
  refine gIx_t eg ?_
  walk_at "go"
  exact q (f, g) _ hp8 nf bf bg
theorem map_snocP (xs : List Pr) (x : Pr) : xs.map prD ++ [prD x] = (xs ++ [x]).map prD := by rw [List.map_append]; rfl
theorem map_snocR (xs : List (List Pr)) (x : List Pr) : xs.map rowD ++ [rowD x] = (xs ++ [x]).map rowD := by rw [List.map_append]; rfl
def rOk (m : Nat) (r : List Pr) : Prop := r.length = m ∧ ∀ x ∈ r, x.1.nd ∧ bdF (10 ^ 41) x.1 ∧ bdF (10 ^ 41) x.2
theorem table_r {p : D} (h : Po p) {ps qs : List D} {z : D} (hp : ps.length ≤ 1000) (hq : qs.length ≤ 1000) {Q : D × List D → Prop} (q : ∀ (t : List (List Pr)) p', Po p' → t.length = qs.length → (∀ r ∈ t, rOk ps.length r) → Q (tabD t, [p', .non])) : Ok (F__law_table [p, .tup [.tup ps, .tup qs, z]]) Q := by
  unfold F__law_table
  walk_at "go"
  refine w_seqI ?_
  walk_at "go"
  refine ⟨_, rfl, ?_⟩
  walk_at "go"
  refine ⟨by omega, ?_⟩
  refine w_cloop (fun ds acc ρ => ∃ (p : D) (t : List (List Pr)), acc = List.map rowD t ∧ (∀ r ∈ t, rOk ps.length r) ∧ t.length + ds.length = qs.length ∧ Po p ∧ ρ = [some p, some (.tup [.tup ps, .tup qs, z]), none, none]) ?_ ?_ ⟨p, [], rfl, (fun x hx => nomatch hx), by show 0 + _ = _; omega, h, rfl⟩
  · rintro d ds acc ρ ⟨p, t, rfl, ht, hl, hj, rfl⟩
    walk_at "go"
    refine w_seqI ?_
    walk_at "go"
    refine ⟨_, rfl, ?_⟩
    walk_at "go"
    refine ⟨by omega, ?_⟩
    refine w_cloop (fun ds acc ρ => ∃ (p : D) (r : List Pr), acc = List.map prD r ∧ (∀ x ∈ r, x.1.nd ∧ bdF (10 ^ 41) x.1 ∧ bdF (10 ^ 41) x.2) ∧ r.length + ds.length = ps.length ∧ Po p ∧ ρ = [some p, some (.tup [.tup ps, .tup qs, z]), some d, none]) ?_ ?_ ⟨p, [], rfl, (fun x hx => nomatch hx), by show 0 + _ = _; omega, hj, rfl⟩
    · rintro e es acc ρ ⟨p, r, rfl, hr, hl', hj, rfl⟩
      walk_at "go"
      refine pair_r hj fun x p2 hj2 h1 h2 h3 => ?_
      walk_at "go"
      refine ⟨p2, r ++ [x], map_snocP r x, fun y hy => ?_, by rw [List.length_append, List.length_singleton]; rw [List.length_cons] at hl'; omega, hj2, rfl⟩
      rcases List.mem_append.mp hy with e | e
      · exact hr y e
      · rw [List.mem_singleton.mp e]
        exact ⟨h1, h2, h3⟩
    · rintro acc ρ ⟨p2, r, rfl, hr, hl', hj2, rfl⟩
      walk_at "go"
      refine ⟨p2, t ++ [r], map_snocR t r, fun x hx => ?_, by rw [List.length_append, List.length_singleton]; rw [List.length_cons] at hl; omega, hj2, rfl⟩
      rcases List.mem_append.mp hx with e | e
      · exact ht x e
      · rw [List.mem_singleton.mp e]
        exact ⟨by simpa using hl', hr⟩
  · rintro acc ρ ⟨p2, t, rfl, ht, hl, hj2, rfl⟩
    walk_at "go"
    exact q t _ hj2 (by simpa using hl) ht
end K10
namespace K10
local macro_rules | `(tactic| walk_at "st") => `(tactic| with_reducible first | refine low_sum_r ?_ | refine low_rank_r ?_ | refine key_lt ?_ | refine low_less_r ?_ | refine least2 ?_ | refine word_upto ?_ | refine word_in ?_)
local macro_rules | `(tactic| walk_at "st") => `(tactic| first
  | ((with_reducible show Ok (gEq (D.str (PySem.Str.ofString _)) (D.str (PySem.Str.ofString _))) _); first | refine Ok.mk (a := D.bl true) rfl ?_ | refine Ok.mk (a := D.bl false) rfl ?_)
  | ((with_reducible show Ok (gIn false (D.str (PySem.Str.ofString _)) (D.tup _)) _); first | refine Ok.mk (a := D.bl true) rfl ?_ | refine Ok.mk (a := D.bl false) rfl ?_)
  | ((with_reducible show Ok (gIn false (D.str (PySem.Str.ofString _)) (D.tup _)) _); first | refine Ok.mk (a := D.bl true) rfl ?_ | refine Ok.mk (a := D.bl false) rfl ?_)
  | ((with_reducible show Ok (gtTup _ _ (D.tup [_, _, _]) _) _); refine Ok.mk rfl ?_)
  | ((with_reducible show Ok (gtTup _ _ (fiD _) _) _); refine Ok.mk rfl ?_))
local macro_rules | `(tactic| walk_at "st") => `(tactic| first
  | ((with_reducible refine take2 ?h1 ?h2 ?h3 (fun _ _ _ _ _ => ?_)); (case h1 => assumption); (case h2 => omega); (case h3 => omega))
  | (with_reducible refine w_rng1 ?_)
  | ((with_reducible show ∃ n : Int, D.int _ = D.int n ∧ Ok _ _); refine ⟨_, rfl, ?_⟩))
theorem rgD_len {n : Int} : (rgD 0 n).length = n.toNat := by
  unfold rgD
  rw [List.length_map, List.length_range, Int.sub_zero]
theorem map_snocI (xs : List Int) (x : Int) : xs.map D.int ++ [D.int x] = (xs ++ [x]).map D.int := by rw [List.map_append]; rfl
def chOk (n most : Int) (c : List Int) : Prop := (c.length : Int) = n ∧ ∀ x ∈ c, -most ≤ x ∧ x ≤ most
theorem chOk_map {n most : Int} {c : List Int} (f : Int → Int) (hf : ∀ x, -most ≤ x → x ≤ most → -most ≤ f x ∧ f x ≤ most) (h : chOk n most c) : chOk n most (c.map f) := by
  refine ⟨by rw [List.length_map]; exact h.1, fun x hx => ?_⟩
  obtain ⟨y, hy, rfl⟩ := List.mem_map.mp hx
  exact hf y (h.2 y hy).1 (h.2 y hy).2
noncomputable def chTail : Ev → Res Fl := (sRet (dCallB gTupOf (dCons (dComp (dSeqI (dVar 4)) [6] (gtName 6) dYes (dIf (dAnd (dBool (dOp gEq (dVar 3) (dConst (.int 2)))) (dBool (dOp gEq (dCall [.io 0, .s] F__law_take (aIO 0 (aS (dConst (.int 2)) aNil))) (dConst (.int 0))))) (dConst (.int 0)) (dVar 6))) dNil)))
theorem change_eq : F__law_change = mkF 7 [1, 0, 0] none
  ((sSeq (sSet 3 (dCall [.io 0, .s] F__law_take (aIO 0 (aS (dConst (.int 5)) aNil))))
  (sSeq (sSet 4 (dComp (dRng1 (dVar 1)) [5] (gtName 5) dYes (dOp gSub (dCall [.io 0, .s] F__law_take (aIO 0 (aS (dOp gAdd (dOp gMul (dConst (.int 2)) (dVar 2)) (dConst (.int 1))) aNil))) (dVar 2))))
  (sSeq (sIf (dBool (dOp gEq (dVar 3) (dConst (.int 0))))
  (sSet 4 (dComp (dSeqI (dVar 4)) [6] (gtName 6) dYes (dUn gNeg (dCallB gAbs (dCons (dVar 6) dNil)))))
  sNil)
  (sSeq (sIf (dBool (dOp gEq (dVar 3) (dConst (.int 1))))
  (sSet 4 (dComp (dSeqI (dVar 4)) [6] (gtName 6) dYes (dCallB gAbs (dCons (dVar 6) dNil))))
  sNil)
  chTail))))) := rfl
theorem change_r {p : D} (h : Po p) {n most : Int} (n0 : 0 ≤ n) (n1 : n ≤ 1000) (m0 : 0 ≤ most) (m1 : most ≤ 10 ^ 7) {Q : D × List D → Prop} (q : ∀ (c : List Int) p', Po p' → chOk n most c → Q (.tup (c.map .int), [p', .non, .non])) : Ok (F__law_change [p, .int n, .int most]) Q := by
  rw [change_eq]
  walk_at "go"
  rename_i way p1 hp1 w0 w1
  refine ⟨by omega, by omega, by rw [rgD_len]; omega, ?_⟩
  refine w_cloop (fun ds acc ρ => ∃ (p : D) (c : List Int), acc = List.map .int c ∧ (∀ x ∈ c, -most ≤ x ∧ x ≤ most) ∧ (c.length : Int) + ds.length = n ∧ Po p ∧ ρ = [some p, some (.int n), some (.int most), some (.int way), none, none, none]) ?_ ?_ ⟨p1, [], rfl, (fun x hx => nomatch hx), by rw [rgD_len]; show (0 : Int) + _ = _; omega, hp1, rfl⟩
  · rintro d ds acc ρ ⟨p, c, rfl, hc, hl, hj, rfl⟩
    walk_at "go"
    rename_i v p2 hp2 v0 v1
    refine ⟨p2, c ++ [v - most], map_snocI c _, fun y hy => ?_, by rw [List.length_append, List.length_singleton]; rw [List.length_cons] at hl; omega, hp2, rfl⟩
    rcases List.mem_append.mp hy with e | e
    · exact hc y e
    · rw [List.mem_singleton.mp e]
      constructor <;> omega
  · rintro acc ρ ⟨p, c, rfl, hc, hl, hp, rfl⟩
    have hcO : chOk n most c := ⟨by simpa using hl, hc⟩
    walk_at "go"
    have fin : ∀ (c : List Int), chOk n most c → ∀ {x5 x6 : Option D} {R : Fl → Prop}, (∀ (c' : List Int) p', Po p' → chOk n most c' → R (.rt (.tup (c'.map .int)) [some p', some (.int n), some (.int most), some (.int way), some (.lst (c.map .int)), x5, x6])) → Ok (chTail [some p, some (.int n), some (.int most), some (.int way), some (.lst (c.map .int)), x5, x6]) R := by
      intro c hc x5 x6 R k
      unfold chTail
      have hlen : c.length ≤ 1000 := by have := hc.1; omega
      walk_at "go"
      refine w_seqI ?_
      walk_at "go"
      refine ⟨_, rfl, by rw [List.length_map]; omega, ?_⟩
      refine w_cloop (fun ds acc ρ => ∃ (p : D) (c1 c2 : List Int), ds = List.map .int c1 ∧ acc = List.map .int c2 ∧ (∀ x ∈ c1, -most ≤ x ∧ x ≤ most) ∧ (∀ x ∈ c2, -most ≤ x ∧ x ≤ most) ∧ c2.length + c1.length = c.length ∧ Po p ∧ ρ = [some p, some (.int n), some (.int most), some (.int way), some (.lst (c.map .int)), x5, none]) ?_ ?_ ⟨p, c, [], rfl, rfl, hc.2, (fun x hx => nomatch hx), Nat.zero_add _, hp, rfl⟩
      · rintro d ds acc ρ ⟨p, c1, c2, e1, rfl, h1, h2, hl, hj, rfl⟩
        cases c1 with
        | nil => cases e1
        | cons i c1 =>
          cases e1
          have h1' := fun x h => h1 x (List.mem_cons_of_mem _ h)
          have hi := h1 i List.mem_cons_self
          rw [List.length_cons] at hl
          have last : ∀ (z : Int) (p' : D), -most ≤ z → z ≤ most → Po p' → ∃ (p : D) (d1 d2 : List Int), List.map D.int c1 = List.map .int d1 ∧ List.map D.int c2 ++ [.int z] = List.map .int d2 ∧ (∀ x ∈ d1, -most ≤ x ∧ x ≤ most) ∧ (∀ x ∈ d2, -most ≤ x ∧ x ≤ most) ∧ d2.length + d1.length = c.length ∧ Po p ∧ [some p', some (.int n), some (.int most), some (.int way), some (.lst (c.map .int)), x5, none] = [some p, some (.int n), some (.int most), some (.int way), some (.lst (c.map .int)), x5, none] := fun z p' z0 z1 hp' => ⟨p', c1, c2 ++ [z], rfl, map_snocI c2 z, h1', fun y hy => by
            rcases List.mem_append.mp hy with e | e
            · exact h2 y e
            · rw [List.mem_singleton.mp e]
              exact ⟨z0, z1⟩, by rw [List.length_append, List.length_singleton]; omega, hp', rfl⟩
          walk_at "go"
          refine ite2 (fun hw => ?_) (fun hw => ?_)
          · walk_at "go"
            refine ite2 (fun hv => ?_) (fun hv => ?_)
            · walk_at "go"
              exact last _ _ (by omega) (by omega) (by assumption)
            · walk_at "go"
              exact last _ _ hi.1 hi.2 (by assumption)
          · walk_at "go"
            exact last _ _ hi.1 hi.2 (by assumption)
      · rintro acc ρ ⟨p, c1, c2, e1, rfl, h1, h2, hl, hj, rfl⟩
        cases c1 with
        | cons _ _ => cases e1
        | nil =>
          walk_at "go"
          exact k c2 _ hj ⟨by have := hc.1; rw [List.length_nil] at hl; omega, h2⟩
    refine ite2 (fun hw => ?_) (fun hw => ?_)
    · walk_at "go"
      refine w_seqI ?_
      walk_at "go"
      refine ⟨_, rfl, by rw [List.length_map]; omega, ?_⟩
      refine w_cmap (fun d => match d with | .int i => D.int (-(if i < 0 then -i else i)) | d => d) (fun d hd => ?_) ?_
      · obtain ⟨i, _, rfl⟩ := List.mem_map.mp hd
        walk_at "go"
        exact ⟨rfl, rfl⟩
      have e : (c.map D.int).map (fun d => match d with | .int i => D.int (-(if i < 0 then -i else i)) | d => d) = (c.map fun i => -(if i < 0 then -i else i)).map D.int := by
        rw [List.map_map, List.map_map]
        rfl
      rw [e]
      walk_at "go"
      refine ite2 (fun hw2 => ?_) (fun hw2 => ?_)
      · exfalso
        have e1 := of_decide_eq_true hw
        have e2 := of_decide_eq_true hw2
        omega
      · walk_at "go"
        refine fin _ (chOk_map _ (fun x h0 h1 => by split <;> omega) hcO) fun c' p' hp' hc' => ?_
        walk_at "go"
        exact q c' p' hp' hc'
    · walk_at "go"
      refine ite2 (fun hw2 => ?_) (fun hw2 => ?_)
      · walk_at "go"
        refine w_seqI ?_
        walk_at "go"
        refine ⟨_, rfl, by rw [List.length_map]; omega, ?_⟩
        refine w_cmap (fun d => match d with | .int i => D.int (if i < 0 then -i else i) | d => d) (fun d hd => ?_) ?_
        · obtain ⟨i, _, rfl⟩ := List.mem_map.mp hd
          walk_at "go"
          exact ⟨rfl, rfl⟩
        have e : (c.map D.int).map (fun d => match d with | .int i => D.int (if i < 0 then -i else i) | d => d) = (c.map fun i => if i < 0 then -i else i).map D.int := by
          rw [List.map_map, List.map_map]
          rfl
        rw [e]
        walk_at "go"
        refine fin _ (chOk_map _ (fun x h0 h1 => by split <;> omega) hcO) fun c' p' hp' hc' => ?_
        walk_at "go"
        exact q c' p' hp' hc'
      · walk_at "go"
        refine fin _ hcO fun c' p' hp' hc' => ?_
        walk_at "go"
        exact q c' p' hp' hc'
theorem mixed_r {p : D} (h : Po p) {rows : List D} (hr : rows.length ≤ 1000) {Q : D × List D → Prop} (q : ∀ (ds : List D) p', Po p' → ds.length = rows.length → Q (.lst ds, [p', .non])) : Ok (F__law_mixed [p, .lst rows]) Q := by
  unfold F__law_mixed
  walk_at "go"
  refine Ok.bind ?_
  walk_at "go"
  refine ⟨by omega, by omega, ?_⟩
  refine w_loop (fun es ρ => ∃ (p : D) (rest out : List D) (x : Option D), rest.length = es.length ∧ out.length + es.length = rows.length ∧ Po p ∧ ρ = [some p, some (.lst rows), some (.lst rest), some (.lst out), x]) ?_ ?_ _ _ ⟨p, rows, [], _, by rw [rgD_len]; omega, by rw [rgD_len]; show 0 + _ = _; omega, h, rfl⟩
  · rintro d es ρ ⟨p, rest, out, x, h1, h2, hp, rfl⟩
    rw [List.length_cons] at h1 h2
    walk_at "go"
    refine w_popAt rfl ?_
    walk_at "go"
    rename_i v p1 hp1 v0 v1
    have hv : v.toNat < rest.length := by omega
    refine ⟨_, _, _, rfl, rfl, v0, by omega, List.getElem?_eq_getElem hv, ?_⟩
    walk_at "go"
    refine ⟨by omega, ?_⟩
    exact ⟨p1, _, _, _, by rw [List.length_eraseIdx, if_pos hv]; omega, by rw [List.length_append, List.length_singleton]; omega, hp1, rfl⟩
  · rintro ρ ⟨p, rest, out, x, h1, h2, hp, rfl⟩
    walk_at "go"
    exact q out _ hp (by simpa using h2)
end K10
namespace K10
local macro_rules | `(tactic| walk_at "st") => `(tactic| with_reducible first | refine low_sum_r ?_ | refine low_rank_r ?_ | refine key_lt ?_ | refine low_less_r ?_ | refine least2 ?_ | refine word_upto ?_ | refine word_in ?_)
local macro_rules | `(tactic| walk_at "st") => `(tactic| first
  | ((with_reducible show Ok (gEq (D.str (PySem.Str.ofString _)) (D.str (PySem.Str.ofString _))) _); first | refine Ok.mk (a := D.bl true) rfl ?_ | refine Ok.mk (a := D.bl false) rfl ?_)
  | ((with_reducible show Ok (gIn false (D.str (PySem.Str.ofString _)) (D.tup _)) _); first | refine Ok.mk (a := D.bl true) rfl ?_ | refine Ok.mk (a := D.bl false) rfl ?_)
  | ((with_reducible show Ok (gIn false (D.str (PySem.Str.ofString _)) (D.tup _)) _); first | refine Ok.mk (a := D.bl true) rfl ?_ | refine Ok.mk (a := D.bl false) rfl ?_)
  | ((with_reducible show Ok (gtTup _ _ (D.tup [_, _, _]) _) _); refine Ok.mk rfl ?_)
  | ((with_reducible show Ok (gtTup _ _ (fiD _) _) _); refine Ok.mk rfl ?_))
abbrev TS : List (Nat × Bool) := [(7, false), (8, false), (9, true), (10, true)]
abbrev PLC : Ev → Res (List Nat × Ev) := plIx 5 (plName 5) (dUn gNeg (dConst (.int 1)))
noncomputable def bodyIn : Ev → Res Fl :=
  (sSeq (sSet 11 (dIf (dBool (dOp gGt (dVar 6) (dConst (.int 0)))) (dCall [.io 0, .s] F__law_take (aIO 0 (aS (dConst (.int 13)) aNil))) (dConst (.int 12))))
  (sSeq (sAug 6 gSub (dConst (.int 1)))
  (sIf (dBool (dOp gLt (dVar 11) (dConst (.int 4))))
  (sApp 10 (dTup (dCons (dConst (.str "change")) (dCons (dCall [.io 0, .s, .s] F__law_change (aIO 0 (aS (dVar 1) (aS (dConst (.int 3)) aNil)))) dNil))))
  (sIf (dBool (dOp gLt (dVar 11) (dConst (.int 6))))
  (sApp 10 (dTup (dCons (dConst (.str "call")) (dCons (dCall [.io 0, .s] F__law_take (aIO 0 (aS (dVar 2) aNil))) dNil))))
  (sIf (dBool (dOp gEq (dVar 11) (dConst (.int 6))))
  (sApp 10 (dIf (dBool (dOp gGt (dCall [.io 0, .s] F__law_take (aIO 0 (aS (dConst (.int 3)) aNil))) (dConst (.int 0)))) (dTup (dCons (dConst (.str "back")) dNil)) (dTup (dCons (dConst (.str "stop")) dNil))))
  (sIf (dAnd (dBool (dOp gLt (dVar 11) (dConst (.int 11)))) (dBool (dOp gLt (dCalm (dCallB gLen (dCons (dVar 5) dNil))) (dVar 4))))
  (sAppP 5 (plName 5) (dLst (dConsN (dOp gIx (dTup (dCons (dConst (.str "either")) (dCons (dConst (.str "loop")) (dCons (dConst (.str "repeat")) (dCons (dConst (.str "upto")) dNil))))) (dOp gSub (dVar 11) (dConst (.int 7)))) (dConsN (dOp gIx (dTup (dCons (dConst (.int 0)) (dCons (dConst (.int 1)) (dCons (dConst (.int 2)) (dCons (dConst (.int 3)) (dCons (dConst (.int 5)) (dCons (dConst (.int 1000)) dNil))))))) (dCall [.io 0, .s] F__law_take (aIO 0 (aS (dConst (.int 6)) aNil)))) (dCons (dLst dNil) (dCons (dLst dNil) dNil))))))
  (sIf (dAnd (dBool (dOp gEq (dVar 7) (dConst (.str "either")))) (dOr (dBool (dOp gEq (dCalm (dCallB gLen (dCons (dVar 9) dNil))) (dConst (.int 0)))) (dAnd (dBool (dOp gEq (dVar 11) (dConst (.int 11)))) (dBool (dOp gLt (dCalm (dCallB gLen (dCons (dVar 9) dNil))) (dConst (.int 3)))))))
  (sPutP 5 (plName 5) (dUn gNeg (dConst (.int 1))) (dLst (dConsN (dVar 7) (dConsN (dVar 8) (dCons (dCatO 9 (dLst (dCons (dCalm (dCallB gTupOf (dCons (dVar 10) dNil))) dNil))) (dCons (dLst dNil) dNil))))))
  (sSeq (sDrop (dPopP 5 (plName 5)))
  (sSeq (sIf (dNot (dTru (dVar 5)))
  (sRet (dCalm (dCallB gTupOf (dCons (dVar 10) dNil))))
  sNil)
  (sIf (dBool (dOp gEq (dVar 7) (dConst (.str "either"))))
  (sAppP 5 (plIx 5 (plIx 5 (plName 5) (dUn gNeg (dConst (.int 1)))) (dConst (.int 3))) (dTup (dCons (dConst (.str "either")) (dCons (dCallB gTupOf (dCons (dCatO 9 (dLst (dCons (dCalm (dCallB gTupOf (dCons (dVar 10) dNil))) dNil))) dNil)) dNil))))
  (sAppP 5 (plIx 5 (plIx 5 (plName 5) (dUn gNeg (dConst (.int 1)))) (dConst (.int 3))) (dIf (dBool (dOp gEq (dVar 7) (dConst (.str "loop")))) (dTup (dCons (dVar 7) (dCons (dCalm (dCallB gTupOf (dCons (dVar 10) dNil))) dNil))) (dTup (dCons (dVar 7) (dCons (dVar 8) (dCons (dCalm (dCallB gTupOf (dCons (dVar 10) dNil))) dNil))))))))))))))))
theorem body_eq2 : F__law_body = mkF 12 [1, 0, 0, 0, 0] none
  ((sSeq (sSet 5 (dLst (dCons (dLst (dConsN (dConst (.str "")) (dConsN (dConst (.int 0)) (dCons (dLst dNil) (dCons (dLst dNil) dNil))))) dNil)))
  (sSeq (sSet 6 (dVar 3))
  (sWhile (dTru (dConst (.bl true)))
  (sUnp 5 TS PLC bodyIn))))) := rfl
abbrev bst (p : D) (pu pr mo de : Int) (fs : List D) (left : Int) (x7 x8 x9 x10 x11 : Option D) : Ev := [some p, some (.int pu), some (.int pr), some (.int mo), some (.int de), some (.lst fs), some (.int left), x7, x8, x9, x10, x11]
section
variable {pre post B H fs : List D} {w n p x : D} {pu pr mo de left : Int} {x7 x8 x9 x10 x11 : Option D} {b1 b2 : Addr} {Q : Fl → Prop} {k : Nat}
theorem subD_at {q : List Nat} : subD (pre.length :: q) (.lst (pre ++ x :: post)) = subD q x := by
  rw [subD]
  rw [List.getElem?_append_right (Nat.le_refl _), Nat.sub_self]
  rfl
theorem putD_at {q : List Nat} {e : D} : putD (pre.length :: q) e (.lst (pre ++ x :: post)) = .lst (pre ++ putD q e x :: post) := by
  rw [putD]
  rw [List.getElem?_append_right (Nat.le_refl _), Nat.sub_self]
  show D.lst ((pre ++ x :: post).set pre.length (putD q e x)) = _
  rw [List.set_append_right _ _ (Nat.le_refl _), Nat.sub_self]
  rfl
theorem backs_in : backsE 5 [pre.length] 0 TS [b1, b2] (bst p pu pr mo de (pre ++ .lst [w, n, .fn b1, .fn b2] :: post) left x7 x8 (some (.lst B)) (some (.lst H)) x11) = bst p pu pr mo de (pre ++ .lst [w, n, .lst B, .lst H] :: post) left x7 x8 none none x11 := by
  show backE 5 10 [pre.length, 3] b2 (backE 5 9 [pre.length, 2] b1 (bst p pu pr mo de (pre ++ .lst [w, n, .fn b1, .fn b2] :: post) left x7 x8 (some (.lst B)) (some (.lst H)) x11)) = _
  have e1 : backE 5 9 [pre.length, 2] b1 (bst p pu pr mo de (pre ++ .lst [w, n, .fn b1, .fn b2] :: post) left x7 x8 (some (.lst B)) (some (.lst H)) x11) = bst p pu pr mo de (pre ++ .lst [w, n, .lst B, .fn b2] :: post) left x7 x8 none (some (.lst H)) x11 := by
    show (if isFn b1 (subD [pre.length, 2] (.lst (pre ++ .lst [w, n, .fn b1, .fn b2] :: post))) = true then _ else _) = _
    rw [subD_at, if_pos (by show decide _ = true; simp), putD_at]
    rfl
  rw [e1]
  show (if isFn b2 (subD [pre.length, 3] (.lst (pre ++ .lst [w, n, .lst B, .fn b2] :: post))) = true then _ else _) = _
  rw [subD_at, if_pos (by show decide _ = true; simp), putD_at]
  rfl
theorem backs_out (h2 : ∀ b, isFn b (subD [k, 2] (.lst fs)) = false) (h3 : ∀ b, isFn b (subD [k, 3] (.lst fs)) = false) : backsE 5 [k] 0 TS [b1, b2] (bst p pu pr mo de fs left x7 x8 (some (.lst B)) (some (.lst H)) x11) = bst p pu pr mo de fs left x7 x8 none none x11 := by
  show backE 5 10 [k, 3] b2 (backE 5 9 [k, 2] b1 (bst p pu pr mo de fs left x7 x8 (some (.lst B)) (some (.lst H)) x11)) = _
  have e1 : backE 5 9 [k, 2] b1 (bst p pu pr mo de fs left x7 x8 (some (.lst B)) (some (.lst H)) x11) = bst p pu pr mo de fs left x7 x8 none (some (.lst H)) x11 := by
    show (if isFn b1 (subD [k, 2] (.lst fs)) = true then _ else _) = _
    rw [h2]
    rfl
  rw [e1]
  show (if isFn b2 (subD [k, 3] (.lst fs)) = true then _ else _) = _
  rw [h3]
  rfl
theorem unp_r (hw : w.isL = false) (hn : n.isL = false) {fl : Fl} (h : ∀ b1 b2, Ok (bodyIn (bst p pu pr mo de (pre ++ [.lst [w, n, .fn b1, .fn b2]]) left (some w) (some n) (some (.lst B)) (some (.lst H)) x11)) fun fl' => fl'.map (backsE 5 [pre.length] 0 TS [b1, b2]) = fl) (q : Q fl) :
    Ok (sUnp 5 TS PLC bodyIn (bst p pu pr mo de (pre ++ [.lst [w, n, .lst B, .lst H]]) left x7 x8 x9 x10 x11)) Q := by
  refine w_unp ?_
  refine w_plIx ?_
  walk_at "go"
  have hix : ixN (pre ++ [D.lst [w, n, .lst B, .lst H]]).length (-1) = some pre.length := by
    unfold ixN
    rw [if_neg (by omega), if_pos (by rw [List.length_append, List.length_singleton]; omega)]
    congr 1
    rw [List.length_append, List.length_singleton]
    omega
  refine ⟨_, _, pre.length, [w, n, .lst B, .lst H], rfl, rfl, ?_, ?_⟩
  · unfold ixD
    rw [subD]
    dsimp only
    rw [hix]
    dsimp only
    rw [List.getElem?_append_right (Nat.le_refl _), Nat.sub_self]
    rfl
  refine ⟨_, _, fl, rfl, subD_at, rfl, fun as has => ?_, q⟩
  match as, has with
  | [b1, b2], _ =>
    refine runU_of (r := ([w, n, .fn b1, .fn b2], bst p pu pr mo de (pre ++ [.lst [w, n, .lst B, .lst H]]) left (some w) (some n) (some (.lst B)) (some (.lst H)) x11)) ?_ ?_
    · show lendN TS [w, n, .lst B, .lst H] [b1, b2] _ = _
      unfold lendN
      rw [if_pos hw]
      unfold lendN
      rw [if_pos hn]
      rfl
    · show Ok (bodyIn (List.set (bst p pu pr mo de (pre ++ [.lst [w, n, .lst B, .lst H]]) left (some w) (some n) (some (.lst B)) (some (.lst H)) x11) 5 (some (putD [pre.length] (.lst [w, n, .fn b1, .fn b2]) (.lst (pre ++ [.lst [w, n, .lst B, .lst H]])))))) _
      rw [putD_at]
      exact h b1 b2
end
end K10
namespace K10
local macro_rules | `(tactic| walk_at "st") => `(tactic| with_reducible first | refine low_sum_r ?_ | refine low_rank_r ?_ | refine key_lt ?_ | refine low_less_r ?_ | refine least2 ?_ | refine word_upto ?_ | refine word_in ?_)
local macro_rules | `(tactic| walk_at "st") => `(tactic| first
  | ((with_reducible show Ok (gEq (D.str (PySem.Str.ofString _)) (D.str (PySem.Str.ofString _))) _); first | refine Ok.mk (a := D.bl true) rfl ?_ | refine Ok.mk (a := D.bl false) rfl ?_)
  | ((with_reducible show Ok (gIn false (D.str (PySem.Str.ofString _)) (D.tup _)) _); first | refine Ok.mk (a := D.bl true) rfl ?_ | refine Ok.mk (a := D.bl false) rfl ?_)
  | ((with_reducible show Ok (gIn false (D.str (PySem.Str.ofString _)) (D.tup _)) _); first | refine Ok.mk (a := D.bl true) rfl ?_ | refine Ok.mk (a := D.bl false) rfl ?_)
  | ((with_reducible show Ok (gtTup _ _ (D.tup [_, _, _]) _) _); refine Ok.mk rfl ?_)
  | ((with_reducible show Ok (gtTup _ _ (fiD _) _) _); refine Ok.mk rfl ?_))
noncomputable def bodyPop : Ev → Res Fl :=
  (sSeq (sDrop (dPopP 5 (plName 5)))
  (sSeq (sIf (dNot (dTru (dVar 5)))
  (sRet (dCalm (dCallB gTupOf (dCons (dVar 10) dNil))))
  sNil)
  (sIf (dBool (dOp gEq (dVar 7) (dConst (.str "either"))))
  (sAppP 5 (plIx 5 (plIx 5 (plName 5) (dUn gNeg (dConst (.int 1)))) (dConst (.int 3))) (dTup (dCons (dConst (.str "either")) (dCons (dCallB gTupOf (dCons (dCatO 9 (dLst (dCons (dCalm (dCallB gTupOf (dCons (dVar 10) dNil))) dNil))) dNil)) dNil))))
  (sAppP 5 (plIx 5 (plIx 5 (plName 5) (dUn gNeg (dConst (.int 1)))) (dConst (.int 3))) (dIf (dBool (dOp gEq (dVar 7) (dConst (.str "loop")))) (dTup (dCons (dVar 7) (dCons (dCalm (dCallB gTupOf (dCons (dVar 10) dNil))) dNil))) (dTup (dCons (dVar 7) (dCons (dVar 8) (dCons (dCalm (dCallB gTupOf (dCons (dVar 10) dNil))) dNil)))))))))
noncomputable def bodyLast : Ev → Res Fl :=
  (sIf (dAnd (dBool (dOp gEq (dVar 7) (dConst (.str "either")))) (dOr (dBool (dOp gEq (dCalm (dCallB gLen (dCons (dVar 9) dNil))) (dConst (.int 0)))) (dAnd (dBool (dOp gEq (dVar 11) (dConst (.int 11)))) (dBool (dOp gLt (dCalm (dCallB gLen (dCons (dVar 9) dNil))) (dConst (.int 3)))))))
  (sPutP 5 (plName 5) (dUn gNeg (dConst (.int 1))) (dLst (dConsN (dVar 7) (dConsN (dVar 8) (dCons (dCatO 9 (dLst (dCons (dCalm (dCallB gTupOf (dCons (dVar 10) dNil))) dNil))) (dCons (dLst dNil) dNil))))))
  bodyPop)
noncomputable def bodyRest : Ev → Res Fl :=
  (sIf (dBool (dOp gLt (dVar 11) (dConst (.int 4))))
  (sApp 10 (dTup (dCons (dConst (.str "change")) (dCons (dCall [.io 0, .s, .s] F__law_change (aIO 0 (aS (dVar 1) (aS (dConst (.int 3)) aNil)))) dNil))))
  (sIf (dBool (dOp gLt (dVar 11) (dConst (.int 6))))
  (sApp 10 (dTup (dCons (dConst (.str "call")) (dCons (dCall [.io 0, .s] F__law_take (aIO 0 (aS (dVar 2) aNil))) dNil))))
  (sIf (dBool (dOp gEq (dVar 11) (dConst (.int 6))))
  (sApp 10 (dIf (dBool (dOp gGt (dCall [.io 0, .s] F__law_take (aIO 0 (aS (dConst (.int 3)) aNil))) (dConst (.int 0)))) (dTup (dCons (dConst (.str "back")) dNil)) (dTup (dCons (dConst (.str "stop")) dNil))))
  (sIf (dAnd (dBool (dOp gLt (dVar 11) (dConst (.int 11)))) (dBool (dOp gLt (dCalm (dCallB gLen (dCons (dVar 5) dNil))) (dVar 4))))
  (sAppP 5 (plName 5) (dLst (dConsN (dOp gIx (dTup (dCons (dConst (.str "either")) (dCons (dConst (.str "loop")) (dCons (dConst (.str "repeat")) (dCons (dConst (.str "upto")) dNil))))) (dOp gSub (dVar 11) (dConst (.int 7)))) (dConsN (dOp gIx (dTup (dCons (dConst (.int 0)) (dCons (dConst (.int 1)) (dCons (dConst (.int 2)) (dCons (dConst (.int 3)) (dCons (dConst (.int 5)) (dCons (dConst (.int 1000)) dNil))))))) (dCall [.io 0, .s] F__law_take (aIO 0 (aS (dConst (.int 6)) aNil)))) (dCons (dLst dNil) (dCons (dLst dNil) dNil))))))
  bodyLast))))
theorem in_eq : bodyIn = sSeq (sSet 11 (dIf (dBool (dOp gGt (dVar 6) (dConst (.int 0)))) (dCall [.io 0, .s] F__law_take (aIO 0 (aS (dConst (.int 13)) aNil))) (dConst (.int 12)))) (sSeq (sAug 6 gSub (dConst (.int 1))) bodyRest) := rfl
theorem take_e {p : D} {many : Int} (h : Po p) (h0 : 0 < many) (h1 : many ≤ 10 ^ 62) : ∃ v p', F__law_take [p, .int many] = .ok (.int v, [p', .non]) ∧ Po p' ∧ 0 ≤ v ∧ v < many := by
  obtain ⟨_, e, v, p', rfl, h⟩ := take2 (Q := fun r => ∃ v p', r = (.int v, [p', .non]) ∧ Po p' ∧ 0 ≤ v ∧ v < many) h h0 h1 fun v p' a b c => ⟨v, p', rfl, a, b, c⟩
  exact ⟨v, p', e, h⟩
theorem change_e {p : D} (h : Po p) {n most : Int} (n0 : 0 ≤ n) (n1 : n ≤ 1000) (m0 : 0 ≤ most) (m1 : most ≤ 10 ^ 7) : ∃ c p', F__law_change [p, .int n, .int most] = .ok (.tup (c.map .int), [p', .non, .non]) ∧ Po p' ∧ chOk n most c := by
  obtain ⟨_, e, v, p', rfl, h⟩ := change_r (Q := fun r => ∃ c p', r = (.tup (c.map .int), [p', .non, .non]) ∧ Po p' ∧ chOk n most c) h n0 n1 m0 m1 fun v p' a b => ⟨v, p', rfl, a, b⟩
  exact ⟨v, p', e, h⟩
local macro_rules | `(tactic| walk_at "st") => `(tactic| first
  | (with_reducible refine w_consN ?_)
  | ((with_reducible show D.isL (D.str _) = false ∧ _); refine ⟨rfl, ?_⟩)
  | ((with_reducible show D.isL (D.int _) = false ∧ _); refine ⟨rfl, ?_⟩))
section
variable {pre fs B H : List D} {w n p p1 p2 : D} {pu pr mo de left way v : Int} {x7 x8 x9 x10 x11 : Option D} {Q : Fl → Prop}
theorem in_way (hp : Po p) (left : Int) : ∃ way p1, Po p1 ∧ 0 ≤ way ∧ way < 13 ∧ (left ≤ 0 → way = 12) ∧ ∀ {fs pu pr mo de x7 x8 x9 x10 x11 Q}, Ok (bodyRest (bst p1 pu pr mo de fs (left - 1) x7 x8 x9 x10 (some (.int way)))) Q → Ok (bodyIn (bst p pu pr mo de fs left x7 x8 x9 x10 x11)) Q := by
  by_cases hl : 0 < left
  · obtain ⟨v, p', e, hp', h0, h1⟩ := take_e hp (many := 13) (by omega) (by omega)
    refine ⟨v, p', hp', h0, h1, fun h => absurd hl (by omega), fun k => ?_⟩
    rw [in_eq]
    walk_at "go"
    rw [decide_eq_true hl]
    walk_at "go"
    refine Ok.mk e ?_
    walk_at "go"
    exact k
  · refine ⟨12, p, hp, by omega, by omega, fun _ => rfl, fun k => ?_⟩
    rw [in_eq]
    walk_at "go"
    rw [decide_eq_false hl]
    walk_at "go"
    exact k
theorem rest_chg {c : List Int} (hw : way < 4) (e : F__law_change [p, .int pu, .int 3] = .ok (.tup (c.map .int), [p2, .non, .non])) (hH : H.length < 16777216) (q : Q (.nx (bst p2 pu pr mo de fs left x7 x8 x9 (some (.lst (H ++ [.tup [.str "change", .tup (c.map .int)]]))) (some (.int way))))) : Ok (bodyRest (bst p pu pr mo de fs left x7 x8 x9 (some (.lst H)) (some (.int way)))) Q := by
  unfold bodyRest
  walk_at "go"
  rw [decide_eq_true hw]
  walk_at "go"
  refine Ok.mk e ?_
  walk_at "go"
  refine ⟨hH, ?_⟩
  walk_at "go"
  exact q
theorem rest_call (hw : 4 ≤ way) (hw2 : way < 6) (e : F__law_take [p, .int pr] = .ok (.int v, [p2, .non])) (hH : H.length < 16777216) (q : Q (.nx (bst p2 pu pr mo de fs left x7 x8 x9 (some (.lst (H ++ [.tup [.str "call", .int v]]))) (some (.int way))))) : Ok (bodyRest (bst p pu pr mo de fs left x7 x8 x9 (some (.lst H)) (some (.int way)))) Q := by
  unfold bodyRest
  walk_at "go"
  rw [decide_eq_false (show ¬ way < 4 by omega)]
  walk_at "go"
  rw [decide_eq_true hw2]
  walk_at "go"
  refine Ok.mk e ?_
  walk_at "go"
  refine ⟨hH, ?_⟩
  walk_at "go"
  exact q
theorem rest_end (hw : way = 6) (e : F__law_take [p, .int 3] = .ok (.int v, [p2, .non])) (hH : H.length < 16777216) (q : Q (.nx (bst p2 pu pr mo de fs left x7 x8 x9 (some (.lst (H ++ [if 0 < v then .tup [.str "back"] else .tup [.str "stop"]]))) (some (.int way))))) : Ok (bodyRest (bst p pu pr mo de fs left x7 x8 x9 (some (.lst H)) (some (.int way)))) Q := by
  unfold bodyRest
  walk_at "go"
  rw [decide_eq_false (show ¬ way < 4 by omega)]
  walk_at "go"
  rw [decide_eq_false (show ¬ way < 6 by omega)]
  walk_at "go"
  rw [decide_eq_true hw]
  walk_at "go"
  refine Ok.mk e ?_
  walk_at "go"
  refine ite2 (fun h => ?_) (fun h => ?_)
  · rw [if_pos (of_decide_eq_true h)] at q
    walk_at "go"
    refine ⟨hH, ?_⟩
    walk_at "go"
    exact q
  · rw [if_neg (of_decide_eq_false h)] at q
    walk_at "go"
    refine ⟨hH, ?_⟩
    walk_at "go"
    exact q
theorem rest_push {ws : PySem.Str} {nn : Int} (hw : 7 ≤ way) (hw2 : way < 11) (hl : (fs.length : Int) < de) (hf : fs.length < 16777216) (e : F__law_take [p, .int 6] = .ok (.int v, [p2, .non])) (e1 : atI [D.str "either", .str "loop", .str "repeat", .str "upto"] (way - 7) = some (.str ws)) (e2 : atI [D.int 0, .int 1, .int 2, .int 3, .int 5, .int 1000] v = some (.int nn))
    (q : Q (.nx (bst p2 pu pr mo de (fs ++ [.lst [.str ws, .int nn, .lst [], .lst []]]) left x7 x8 x9 (some (.lst H)) (some (.int way))))) : Ok (bodyRest (bst p pu pr mo de fs left x7 x8 x9 (some (.lst H)) (some (.int way)))) Q := by
  unfold bodyRest
  walk_at "go"
  rw [decide_eq_false (show ¬ way < 4 by omega)]
  walk_at "go"
  rw [decide_eq_false (show ¬ way < 6 by omega)]
  walk_at "go"
  rw [decide_eq_false (show ¬ way = 6 by omega)]
  walk_at "go"
  rw [decide_eq_true hw2]
  walk_at "go"
  rw [decide_eq_true hl]
  walk_at "go"
  refine w_appP ?_
  walk_at "go"
  refine ⟨_, _, rfl, rfl, ?_⟩
  walk_at "go"
  refine gIx_t e1 ?_
  walk_at "go"
  refine Ok.mk e ?_
  walk_at "go"
  refine gIx_t e2 ?_
  walk_at "go"
  refine ⟨hf, ?_⟩
  rw [putD_nil]
  exact q
theorem rest_last (hw : 7 ≤ way) (hl : ¬ (way < 11 ∧ (fs.length : Int) < de)) (q : Ok (bodyLast (bst p pu pr mo de fs left x7 x8 x9 (some (.lst H)) (some (.int way)))) Q) : Ok (bodyRest (bst p pu pr mo de fs left x7 x8 x9 (some (.lst H)) (some (.int way)))) Q := by
  unfold bodyRest
  walk_at "go"
  rw [decide_eq_false (show ¬ way < 4 by omega)]
  walk_at "go"
  rw [decide_eq_false (show ¬ way < 6 by omega)]
  walk_at "go"
  rw [decide_eq_false (show ¬ way = 6 by omega)]
  walk_at "go"
  by_cases h1 : way < 11
  · rw [decide_eq_true h1]
    walk_at "go"
    rw [decide_eq_false (fun h => hl ⟨h1, h⟩)]
    walk_at "go"
    exact q
  · rw [decide_eq_false h1]
    walk_at "go"
    exact q
end
end K10
namespace K10
local macro_rules | `(tactic| walk_at "st") => `(tactic| with_reducible first | refine low_sum_r ?_ | refine low_rank_r ?_ | refine key_lt ?_ | refine low_less_r ?_ | refine least2 ?_ | refine word_upto ?_ | refine word_in ?_)
local macro_rules | `(tactic| walk_at "st") => `(tactic| first
  | ((with_reducible show Ok (gEq (D.str (PySem.Str.ofString _)) (D.str (PySem.Str.ofString _))) _); first | refine Ok.mk (a := D.bl true) rfl ?_ | refine Ok.mk (a := D.bl false) rfl ?_)
  | ((with_reducible show Ok (gIn false (D.str (PySem.Str.ofString _)) (D.tup _)) _); first | refine Ok.mk (a := D.bl true) rfl ?_ | refine Ok.mk (a := D.bl false) rfl ?_)
  | ((with_reducible show Ok (gIn false (D.str (PySem.Str.ofString _)) (D.tup _)) _); first | refine Ok.mk (a := D.bl true) rfl ?_ | refine Ok.mk (a := D.bl false) rfl ?_)
  | ((with_reducible show Ok (gtTup _ _ (D.tup [_, _, _]) _) _); refine Ok.mk rfl ?_)
  | ((with_reducible show Ok (gtTup _ _ (fiD _) _) _); refine Ok.mk rfl ?_))
local macro_rules | `(tactic| walk_at "st") => `(tactic| first
  | (with_reducible refine w_consN ?_)
  | ((with_reducible show D.isL (D.str _) = false ∧ _); refine ⟨rfl, ?_⟩)
  | ((with_reducible show D.isL (D.int _) = false ∧ _); refine ⟨rfl, ?_⟩))
inductive Wd where
  | base
  | eit
  | loop
  | rep (u : Bool)
def wdS : Wd → PySem.Str
  | .base => ""
  | .eit => "either"
  | .loop => "loop"
  | .rep u => if u = true then "upto" else "repeat"
def wdD : Wd → Int → List D → List D → D
  | .eit, _, B, H => .tup [.str "either", .tup (B ++ [.tup H])]
  | .loop, _, _, H => .tup [.str "loop", .tup H]
  | .rep u, n, _, H => .tup [.str (if u = true then "upto" else "repeat"), .int n, .tup H]
  | .base, _, _, _ => .non
section
variable {pre fs B H B' H' : List D} {w n p p1 p2 w' n' hf : D} {wd : Wd} {nn pu pr mo de left way v : Int} {x7 x8 x9 x10 x11 : Option D} {Q : Fl → Prop}
theorem last_close (hHc : (D.tup H).calm = true) (hc : B = [] ∨ (way = 11 ∧ B.length < 3)) (hB : B.length < 1000000) (q : Q (.nx (bst p pu pr mo de (pre ++ [.lst [.str "either", .int nn, .lst (B ++ [.tup H]), .lst []]]) left (some (.str "either")) (some (.int nn)) (some (.lst B)) (some (.lst H)) (some (.int way))))) : Ok (bodyLast (bst p pu pr mo de (pre ++ [hf]) left (some (.str "either")) (some (.int nn)) (some (.lst B)) (some (.lst H)) (some (.int way)))) Q := by
  have hix : ixN (pre ++ [hf]).length (-1) = some pre.length := by
    unfold ixN
    rw [if_neg (by omega), if_pos (by rw [List.length_append, List.length_singleton]; omega)]
    congr 1
    rw [List.length_append, List.length_singleton]
    omega
  have rest : ∀ {R : Fl → Prop}, R (.nx (bst p pu pr mo de (pre ++ [.lst [.str "either", .int nn, .lst (B ++ [.tup H]), .lst []]]) left (some (.str "either")) (some (.int nn)) (some (.lst B)) (some (.lst H)) (some (.int way)))) → Ok (sPutP 5 (plName 5) (dUn gNeg (dConst (.int 1))) (dLst (dConsN (dVar 7) (dConsN (dVar 8) (dCons (dCatO 9 (dLst (dCons (dCalm (dCallB gTupOf (dCons (dVar 10) dNil))) dNil))) (dCons (dLst dNil) dNil))))) (bst p pu pr mo de (pre ++ [hf]) left (some (.str "either")) (some (.int nn)) (some (.lst B)) (some (.lst H)) (some (.int way)))) R := fun k => by
    refine w_putP ?_
    walk_at "go"
    refine w_catO rfl ?_
    walk_at "go"
    refine ⟨hHc, ?_⟩
    walk_at "go"
    refine ⟨_, _, rfl, rfl, by rw [List.length_singleton]; omega, ?_⟩
    walk_at "go"
    refine ⟨_, _, _, _, rfl, rfl, rfl, hix, ?_⟩
    rw [putD_nil, List.set_append_right _ _ (Nat.le_refl _), Nat.sub_self]
    exact k
  unfold bodyLast
  walk_at "go"
  by_cases hb : B = []
  · subst hb
    walk_at "go"
    exact rest q
  · have hb2 : way = 11 ∧ B.length < 3 := hc.resolve_left hb
    have hb3 : ¬ ((B.length : Int) = 0) := fun h => hb (List.eq_nil_of_length_eq_zero (by omega))
    rw [decide_eq_false hb3]
    walk_at "go"
    rw [decide_eq_true hb2.1]
    walk_at "go"
    rw [decide_eq_true (show (B.length : Int) < 3 by omega)]
    walk_at "go"
    exact rest q
theorem pop_r (hHc : (D.tup H).calm = true) (hb : wd ≠ .base) (hB : B.length < 1000000) (hH : H'.length < 1000000) (q : Q (.nx (bst p pu pr mo de (pre ++ [.lst [w', n', .lst B', .lst (H' ++ [wdD wd nn B H])]]) left (some (.str (wdS wd))) (some (.int nn)) (some (.lst B)) (some (.lst H)) (some (.int way))))) : Ok (bodyPop (bst p pu pr mo de (pre ++ [.lst [w', n', .lst B', .lst H']] ++ [hf]) left (some (.str (wdS wd))) (some (.int nn)) (some (.lst B)) (some (.lst H)) (some (.int way)))) Q := by
  have hix : ixN (pre ++ [D.lst [w', n', .lst B', .lst H']]).length (-1) = some pre.length := by
    unfold ixN
    rw [if_neg (by omega), if_pos (by rw [List.length_append, List.length_singleton]; omega)]
    congr 1
    rw [List.length_append, List.length_singleton]
    omega
  have pl : ∀ {ρ : Ev} {R : List Nat × Ev → Prop}, ρ[5]? = some (some (.lst (pre ++ [.lst [w', n', .lst B', .lst H']]))) → R ([pre.length, 3], ρ) → Ok (plIx 5 (plIx 5 (plName 5) (dUn gNeg (dConst (.int 1)))) (dConst (.int 3)) ρ) R := fun {ρ R} h0 k => by
    refine w_plIx ?_
    refine w_plIx ?_
    refine w_plName h0 ?_
    walk_at "go"
    refine ⟨_, _, pre.length, [w', n', .lst B', .lst H'], rfl, h0, ?_, ?_⟩
    · unfold ixD
      rw [subD]
      dsimp only
      rw [hix]
      dsimp only
      rw [List.getElem?_append_right (Nat.le_refl _), Nat.sub_self]
      rfl
    walk_at "go"
    refine ⟨_, _, 3, H', rfl, h0, ?_, k⟩
    unfold ixD
    rw [subD_at]
    rfl
  unfold bodyPop
  walk_at "go"
  refine w_popP ?_
  walk_at "go"
  refine ⟨_, _, hf, rfl, rfl, last_at, ?_⟩
  rw [putD_nil, List.dropLast_concat]
  walk_at "go"
  refine Ok.mk rfl ?_
  rw [tru_snoc]
  walk_at "go"
  cases wd with
  | base => exact absurd rfl hb
  | eit =>
    refine Ok.mk (a := D.bl true) rfl ?_
    walk_at "go"
    refine w_appP ?_
    refine pl rfl ?_
    refine ⟨_, _, rfl, subD_at, ?_⟩
    walk_at "go"
    refine w_catO rfl ?_
    walk_at "go"
    refine ⟨hHc, ?_⟩
    walk_at "go"
    refine ⟨_, _, rfl, rfl, by rw [List.length_singleton]; omega, ?_⟩
    walk_at "go"
    refine ⟨by omega, ?_⟩
    rw [putD_at]
    exact q
  | loop =>
    refine Ok.mk (a := D.bl false) rfl ?_
    walk_at "go"
    refine w_appP ?_
    refine pl rfl ?_
    refine ⟨_, _, rfl, subD_at, ?_⟩
    walk_at "go"
    refine Ok.mk (a := D.bl true) rfl ?_
    walk_at "go"
    refine ⟨hHc, ?_⟩
    walk_at "go"
    refine ⟨by omega, ?_⟩
    rw [putD_at]
    exact q
  | rep u =>
    refine Ok.mk (a := D.bl false) (by cases u <;> rfl) ?_
    walk_at "go"
    refine w_appP ?_
    refine pl rfl ?_
    refine ⟨_, _, rfl, subD_at, ?_⟩
    walk_at "go"
    refine Ok.mk (a := D.bl false) (by cases u <;> rfl) ?_
    walk_at "go"
    refine ⟨hHc, ?_⟩
    walk_at "go"
    refine ⟨by omega, ?_⟩
    rw [putD_at]
    exact q
theorem last_pop (hc : ¬ (wd = .eit ∧ (B = [] ∨ (way = 11 ∧ B.length < 3)))) (q : Ok (bodyPop (bst p pu pr mo de fs left (some (.str (wdS wd))) (some (.int nn)) (some (.lst B)) (some (.lst H)) (some (.int way)))) Q) : Ok (bodyLast (bst p pu pr mo de fs left (some (.str (wdS wd))) (some (.int nn)) (some (.lst B)) (some (.lst H)) (some (.int way)))) Q := by
  unfold bodyLast
  walk_at "go"
  cases wd with
  | base =>
    refine Ok.mk (a := D.bl false) rfl ?_
    walk_at "go"
    exact q
  | loop =>
    refine Ok.mk (a := D.bl false) rfl ?_
    walk_at "go"
    exact q
  | rep u =>
    refine Ok.mk (a := D.bl false) (by cases u <;> rfl) ?_
    walk_at "go"
    exact q
  | eit =>
    refine Ok.mk (a := D.bl true) rfl ?_
    walk_at "go"
    have hb : ¬ B = [] := fun h => hc ⟨rfl, .inl h⟩
    have hb3 : ¬ ((B.length : Int) = 0) := fun h => hb (List.eq_nil_of_length_eq_zero (by omega))
    rw [decide_eq_false hb3]
    walk_at "go"
    by_cases h1 : way = 11
    · rw [decide_eq_true h1]
      walk_at "go"
      rw [decide_eq_false (show ¬ (B.length : Int) < 3 from fun h => hc ⟨rfl, .inr ⟨h1, by omega⟩⟩)]
      walk_at "go"
      exact q
    · rw [decide_eq_false h1]
      walk_at "go"
      exact q
theorem last_ret (hHc : (D.tup H).calm = true) (q : Q (.rt (.tup H) (bst p pu pr mo de [] left (some (.str (wdS .base))) (some (.int nn)) (some (.lst B)) (some (.lst H)) (some (.int way))))) : Ok (bodyPop (bst p pu pr mo de [hf] left (some (.str (wdS .base))) (some (.int nn)) (some (.lst B)) (some (.lst H)) (some (.int way)))) Q := by
  unfold bodyPop
  walk_at "go"
  refine w_popP ?_
  walk_at "go"
  refine ⟨_, _, hf, rfl, rfl, rfl, ?_⟩
  rw [putD_nil, show [hf].dropLast = [] from rfl]
  walk_at "go"
  refine Ok.mk rfl ?_
  rw [show (!([] : List D).isEmpty) = false from rfl]
  walk_at "go"
  refine ⟨hHc, ?_⟩
  walk_at "go"
  exact q
end
mutual
theorem calmS : ∀ s : St, (stD s).calm = true
  | .chg c => by
    show (true && ((D.tup (c.map .int)).calm && true)) = true
    have : (D.tup (c.map .int)).calm = true := by
      show D.calms (c.map .int) = true
      induction c with
      | nil => rfl
      | cons _ _ ih => exact ih
    rw [this]
    rfl
  | .call _ => rfl
  | .eit bs => by
    show (true && ((D.tup (bosD bs)).calm && true)) = true
    rw [calmBs bs]
    rfl
  | .loop b => by
    show (true && ((D.tup (boD b)).calm && true)) = true
    rw [calmB b]
    rfl
  | .rep u n b => by
    show (true && (true && ((D.tup (boD b)).calm && true))) = true
    rw [calmB b]
    rfl
  | .back => rfl
  | .stop => rfl
theorem calmB : ∀ b : List St, (D.tup (boD b)).calm = true
  | [] => rfl
  | s :: b => by
    show ((stD s).calm && (D.tup (boD b)).calm) = true
    rw [calmS s, calmB b]
    rfl
theorem calmBs : ∀ b : List (List St), (D.tup (bosD b)).calm = true
  | [] => rfl
  | s :: b => by
    show ((D.tup (boD s)).calm && (D.tup (bosD b)).calm) = true
    rw [calmB s, calmBs b]
    rfl
end
end K10
namespace K10
local macro_rules | `(tactic| walk_at "st") => `(tactic| with_reducible first | refine low_sum_r ?_ | refine low_rank_r ?_ | refine key_lt ?_ | refine low_less_r ?_ | refine least2 ?_ | refine word_upto ?_ | refine word_in ?_)
local macro_rules | `(tactic| walk_at "st") => `(tactic| first
  | ((with_reducible show Ok (gEq (D.str (PySem.Str.ofString _)) (D.str (PySem.Str.ofString _))) _); first | refine Ok.mk (a := D.bl true) rfl ?_ | refine Ok.mk (a := D.bl false) rfl ?_)
  | ((with_reducible show Ok (gIn false (D.str (PySem.Str.ofString _)) (D.tup _)) _); first | refine Ok.mk (a := D.bl true) rfl ?_ | refine Ok.mk (a := D.bl false) rfl ?_)
  | ((with_reducible show Ok (gIn false (D.str (PySem.Str.ofString _)) (D.tup _)) _); first | refine Ok.mk (a := D.bl true) rfl ?_ | refine Ok.mk (a := D.bl false) rfl ?_)
  | ((with_reducible show Ok (gtTup _ _ (D.tup [_, _, _]) _) _); refine Ok.mk rfl ?_)
  | ((with_reducible show Ok (gtTup _ _ (fiD _) _) _); refine Ok.mk rfl ?_))
structure Fr where
  w : Wd
  n : Int
  bs : List (List St)
  here : List St
def frD (f : Fr) : D := .lst [.str (wdS f.w), .int f.n, .lst (bosD f.bs), .lst (boD f.here)]
def rv (r : List Fr) : List D := r.reverse.map frD
theorem rv_cons (f : Fr) (r : List Fr) : rv (f :: r) = rv r ++ [frD f] := by
  unfold rv
  rw [List.reverse_cons, List.map_append]
  rfl
theorem rv_len (r : List Fr) : (rv r).length = r.length := by
  unfold rv
  rw [List.length_map, List.length_reverse]
def szF : List Fr → Nat
  | [] => 0
  | f :: r => szBs f.bs + szB f.here + 1 + szF r
def muF : List Fr → Nat
  | [] => 0
  | f :: r => (if f.bs = [] then 2 else 1) + muF r
structure Bd (q m : Nat) (C : Int) (b : List St) : Prop where
  ok : okB q m b
  cb : cbB C b
structure Gf (q m deep : Nat) (C : Int) (f : Fr) (lv : Nat) : Prop where
  ok : okB q m f.here
  cb : cbB C f.here
  oks : okBs q m f.bs
  cbs : cbBs C f.bs
  dp : dpB f.here + lv + 1 ≤ deep
  dps : dpBs f.bs + lv + 1 ≤ deep
  n0 : 0 ≤ f.n
  n1 : f.n ≤ 1000
  bas : f.w = .base ↔ lv = 0
def Good (q m deep : Nat) (C : Int) : List Fr → Prop
  | [] => True
  | f :: r => Gf q m deep C f r.length ∧ Good q m deep C r
theorem szB_snoc : ∀ (a : List St) (s : St), szB (a ++ [s]) = szB a + szS s
  | [], s => by show szS s + 0 = 0 + szS s; omega
  | x :: a, s => by rw [List.cons_append, szB, szB, szB_snoc a s]; omega
theorem dpB_snoc : ∀ (a : List St) (s : St), dpB (a ++ [s]) = max (dpB a) (dpS s)
  | [], s => by show max (dpS s) 0 = max 0 (dpS s); omega
  | x :: a, s => by rw [List.cons_append, dpB, dpB, dpB_snoc a s]; omega
theorem dpBs_snoc : ∀ (a : List (List St)) (s : List St), dpBs (a ++ [s]) = max (dpBs a) (dpB s)
  | [], s => by show max (dpB s) 0 = max 0 (dpB s); omega
  | x :: a, s => by rw [List.cons_append, dpBs, dpBs, dpBs_snoc a s]; omega
def wdSt : Wd → Int → List (List St) → List St → St
  | .eit, _, bs, h => .eit (bs ++ [h])
  | .loop, _, _, h => .loop h
  | .rep u, n, _, h => .rep u n h
  | .base, _, _, _ => .stop
theorem wd_eq {w : Wd} (h : w ≠ .base) (n : Int) (bs : List (List St)) (b : List St) : wdD w n (bosD bs) (boD b) = stD (wdSt w n bs b) := by
  cases w with
  | base => exact absurd rfl h
  | eit => rw [wdSt, stD, bosD_app]; rfl
  | loop => rfl
  | rep u => rfl
theorem bo_snoc (b : List St) (s : St) : boD b ++ [stD s] = boD (b ++ [s]) := by rw [boD_app]; rfl
theorem bos_snoc (b : List (List St)) (s : List St) : bosD b ++ [D.tup (boD s)] = bosD (b ++ [s]) := by rw [bosD_app]; rfl
section
variable {q m deep : Nat} {C : Int} {f : Fr} {r : List Fr} {p : D} {mo left : Int} {x7 x8 x9 x10 x11 : Option D} {Q : Fl → Prop}
/-- a statement more -/
theorem gf_more {lv : Nat} {s : St} (g : Gf q m deep C f lv) (h1 : okS q m s) (h2 : cbS C s) (h3 : dpS s + lv + 1 ≤ deep) : Gf q m deep C { f with here := f.here ++ [s] } lv where
  ok := okB_app g.ok ⟨h1, trivial⟩
  cb := cbB_app g.cb ⟨h2, trivial⟩
  oks := g.oks
  cbs := g.cbs
  dp := by
    have := g.dp
    show dpB (f.here ++ [s]) + lv + 1 ≤ deep
    rw [dpB_snoc]
    omega
  dps := g.dps
  n0 := g.n0
  n1 := g.n1
  bas := g.bas
theorem okS_wd {lv : Nat} (g : Gf q m deep C f lv) : okS q m (wdSt f.w f.n f.bs f.here) ∧ cbS C (wdSt f.w f.n f.bs f.here) ∧ dpS (wdSt f.w f.n f.bs f.here) + lv ≤ deep ∧ szS (wdSt f.w f.n f.bs f.here) ≤ szBs f.bs + szB f.here + 2 := by
  have h1 := g.dp
  have h2 := g.dps
  cases f.w with
  | base => exact ⟨trivial, trivial, by show 0 + lv ≤ deep; omega, by show 1 ≤ _; omega⟩
  | eit =>
    refine ⟨show okS q m (.eit (f.bs ++ [f.here])) from ⟨by simp, okBs_app g.oks ⟨g.ok, trivial⟩⟩, show cbS C (.eit (f.bs ++ [f.here])) from cbBs_app g.cbs ⟨g.cb, trivial⟩, ?_, ?_⟩
    · rw [wdSt, dpS, dpBs_snoc]
      omega
    · rw [wdSt, szS, szBs_app, szBs, szBs]
      omega
  | loop =>
    refine ⟨g.ok, g.cb, ?_, ?_⟩
    · rw [wdSt, dpS]
      omega
    · rw [wdSt, szS]
      omega
  | rep u =>
    refine ⟨⟨g.n0, g.n1, g.ok⟩, g.cb, ?_, ?_⟩
    · rw [wdSt, dpS]
      omega
    · rw [wdSt, szS]
      omega
theorem round_r (hp : Po p) (hC : 3 ≤ C) (hq : 0 < q) (hq2 : q ≤ 1000) (hm : m ≤ 1000) (hd : deep ≤ 1000) (hg : Good q m deep C (f :: r)) (hs : szF (f :: r) ≤ 100000)
    (k : ∀ p' f' r' left' x7 x8 x11, Po p' → Good q m deep C (f' :: r') → szF (f' :: r') + (3 * left'.toNat + muF (f' :: r')) ≤ szF (f :: r) + (3 * left.toNat + muF (f :: r)) → 3 * left'.toNat + muF (f' :: r') < 3 * left.toNat + muF (f :: r) → Q (.nx (bst p' (m : Nat) (q : Nat) mo (deep : Nat) (rv (f' :: r')) left' x7 x8 none none x11)))
    (ret : r = [] → ∀ p' left' x7 x8 x11, Po p' → Q (.rt (.tup (boD f.here)) (bst p' (m : Nat) (q : Nat) mo (deep : Nat) [] left' x7 x8 none none x11))) :
    Ok (sUnp 5 TS PLC bodyIn (bst p (m : Nat) (q : Nat) mo (deep : Nat) (rv (f :: r)) left x7 x8 x9 x10 x11)) Q := by
  obtain ⟨g, gr⟩ := hg
  rw [szF] at hs
  have hh := szB_len f.here
  have hbl := szBs_len f.bs
  have hmu : 1 ≤ (if f.bs = [] then 2 else 1) := by split <;> omega
  have hmu2 : (if f.bs = [] then 2 else 1) ≤ 2 := by split <;> omega
  obtain ⟨way, p1, hp1, w0, w1, wl, kw⟩ := in_way hp left
  have hleft : way ≠ 12 → (left - 1).toNat + 1 = left.toNat := fun h => by
    have : 0 < left := by
      by_cases c : 0 < left
      · exact c
      · exact absurd (wl (by omega)) h
    omega
  have hleft2 : (left - 1).toNat ≤ left.toNat := by omega
  rw [rv_cons]
  unfold frD
  -- a statement is laid down
  have lay : ∀ (s : St) (p2 : D), Po p2 → okS q m s → cbS C s → dpS s = 0 → szS s = 1 → way ≠ 12 →
      Q (.nx (bst p2 (m : Nat) (q : Nat) mo (deep : Nat) (rv r ++ [.lst [.str (wdS f.w), .int f.n, .lst (bosD f.bs), .lst (boD f.here ++ [stD s])]]) (left - 1) (some (.str (wdS f.w))) (some (.int f.n)) none none (some (.int way)))) := fun s p2 hp2 h1 h2 h3 h4 h5 => by
    have := k p2 { f with here := f.here ++ [s] } r (left - 1) (some (.str (wdS f.w))) (some (.int f.n)) (some (.int way)) hp2 ⟨gf_more g h1 h2 (by have := g.dp; omega), gr⟩ ?_ ?_
    · rw [rv_cons] at this
      unfold frD at this
      rw [bo_snoc]
      exact this
    · have := hleft h5
      rw [szF, szF, muF, muF, szB_snoc]
      dsimp only
      omega
    · have := hleft h5
      rw [muF, muF]
      dsimp only
      omega
  by_cases c1 : way < 4
  · obtain ⟨c, p2, ec, hp2, hc⟩ := change_e hp1 (n := (m : Nat)) (most := 3) (by omega) (by omega) (by omega) (by omega)
    refine unp_r rfl rfl (fun b1 b2 => kw (rest_chg c1 ec (by rw [boD_len]; omega) (congrArg Fl.nx backs_in))) ?_
    exact lay (.chg c) p2 hp2 (by have := hc.1; show c.length = m; omega) (fun x hx => by have := hc.2 x hx; constructor <;> omega) rfl rfl (by omega)
  by_cases c2 : way < 6
  · obtain ⟨v, p2, ec, hp2, v0, v1⟩ := take_e hp1 (many := (q : Nat)) (by omega) (by omega)
    refine unp_r rfl rfl (fun b1 b2 => kw (rest_call (by omega) c2 ec (by rw [boD_len]; omega) (congrArg Fl.nx backs_in))) ?_
    have := lay (.call v.toNat) p2 hp2 (by show v.toNat < q; omega) trivial rfl rfl (by omega)
    rw [stD, Int.toNat_of_nonneg v0] at this
    exact this
  by_cases c3 : way = 6
  · obtain ⟨v, p2, ec, hp2, v0, v1⟩ := take_e hp1 (many := 3) (by omega) (by omega)
    refine unp_r rfl rfl (fun b1 b2 => kw (rest_end c3 ec (by rw [boD_len]; omega) (congrArg Fl.nx backs_in))) ?_
    by_cases hv : 0 < v
    · rw [if_pos hv]
      exact lay .back p2 hp2 trivial trivial rfl rfl (by omega)
    · rw [if_neg hv]
      exact lay .stop p2 hp2 trivial trivial rfl rfl (by omega)
  by_cases c4 : way < 11 ∧ r.length + 1 < deep
  · obtain ⟨v, p2, ec, hp2, v0, v1⟩ := take_e hp1 (many := 6) (by omega) (by omega)
    have e1 : ∃ w : Wd, w ≠ .base ∧ atI [D.str "either", .str "loop", .str "repeat", .str "upto"] (way - 7) = some (.str (wdS w)) := by
      have : way = 7 ∨ way = 8 ∨ way = 9 ∨ way = 10 := by omega
      rcases this with rfl | rfl | rfl | rfl
      · exact ⟨.eit, (fun h => nomatch h), rfl⟩
      · exact ⟨.loop, (fun h => nomatch h), rfl⟩
      · exact ⟨.rep false, (fun h => nomatch h), rfl⟩
      · exact ⟨.rep true, (fun h => nomatch h), rfl⟩
    have e2 : ∃ nn : Int, 0 ≤ nn ∧ nn ≤ 1000 ∧ atI [D.int 0, .int 1, .int 2, .int 3, .int 5, .int 1000] v = some (.int nn) := by
      have : v = 0 ∨ v = 1 ∨ v = 2 ∨ v = 3 ∨ v = 4 ∨ v = 5 := by omega
      rcases this with rfl | rfl | rfl | rfl | rfl | rfl
      · exact ⟨0, by omega, by omega, rfl⟩
      · exact ⟨1, by omega, by omega, rfl⟩
      · exact ⟨2, by omega, by omega, rfl⟩
      · exact ⟨3, by omega, by omega, rfl⟩
      · exact ⟨5, by omega, by omega, rfl⟩
      · exact ⟨1000, by omega, by omega, rfl⟩
    obtain ⟨w, hw, e1⟩ := e1
    obtain ⟨nn, n0, n1, e2⟩ := e2
    have hfl : ∀ x : D, (rv r ++ [x]).length = r.length + 1 := fun x => by rw [List.length_append, rv_len]; rfl
    refine unp_r (fl := .nx (bst p2 (m : Nat) (q : Nat) mo (deep : Nat) (rv r ++ .lst [.str (wdS f.w), .int f.n, .lst (bosD f.bs), .lst (boD f.here)] :: [.lst [.str (wdS w), .int nn, .lst [], .lst []]]) (left - 1) (some (.str (wdS f.w))) (some (.int f.n)) none none (some (.int way)))) rfl rfl (fun b1 b2 => kw (rest_push (by omega) c4.1 (by rw [hfl]; omega) (by rw [hfl]; omega) ec e1 e2 ?_)) ?_
    · rw [List.append_assoc]
      exact congrArg Fl.nx backs_in
    · have := k p2 ⟨w, nn, [], []⟩ (f :: r) (left - 1) (some (.str (wdS f.w))) (some (.int f.n)) (some (.int way)) hp2 ⟨⟨trivial, trivial, trivial, trivial, by show 0 + (r.length + 1) + 1 ≤ deep; omega, by show 0 + (r.length + 1) + 1 ≤ deep; omega, n0, n1, ⟨fun h => absurd h hw, fun h => nomatch h⟩⟩, g, gr⟩ ?_ ?_
      · rw [rv_cons, rv_cons, List.append_assoc] at this
        exact this
      · have := hleft (by omega)
        rw [szF, muF, if_pos rfl]
        show 0 + 0 + 1 + szF (f :: r) + _ ≤ _
        omega
      · have := hleft (by omega)
        rw [muF, if_pos rfl]
        omega
  have hnp : ∀ x : D, ¬ (way < 11 ∧ ((rv r ++ [x]).length : Int) < (deep : Nat)) := fun x h => c4 ⟨h.1, by rw [List.length_append, rv_len, List.length_singleton] at h; omega⟩
  by_cases c5 : f.w = .eit ∧ (bosD f.bs = [] ∨ (way = 11 ∧ (bosD f.bs).length < 3))
  · obtain ⟨c5, c6⟩ := c5
    rw [c5]
    refine unp_r (fl := .nx (bst p1 (m : Nat) (q : Nat) mo (deep : Nat) (rv r ++ [.lst [.str "either", .int f.n, .lst (bosD f.bs ++ [.tup (boD f.here)]), .lst []]]) (left - 1) (some (.str (wdS .eit))) (some (.int f.n)) none none (some (.int way)))) rfl rfl (fun b1 b2 => kw (rest_last (by omega) (hnp _) (last_close (calmB f.here) c6 (by rw [bosD_len]; omega) ?_))) ?_
    · refine congrArg Fl.nx (backs_out (fun b => ?_) (fun b => ?_))
      · rw [subD_at]
        rfl
      · rw [subD_at]
        rfl
    · have := k p1 ⟨.eit, f.n, f.bs ++ [f.here], []⟩ r (left - 1) (some (.str (wdS .eit))) (some (.int f.n)) (some (.int way)) hp1 ⟨⟨trivial, trivial, okBs_app g.oks ⟨g.ok, trivial⟩, cbBs_app g.cbs ⟨g.cb, trivial⟩, by have := g.dp; show 0 + r.length + 1 ≤ deep; omega, by have := g.dp; have := g.dps; show dpBs (f.bs ++ [f.here]) + r.length + 1 ≤ deep; rw [dpBs_snoc]; omega, g.n0, g.n1, c5 ▸ g.bas⟩, gr⟩ ?_ ?_
      · rw [rv_cons] at this
        unfold frD at this
        rw [bos_snoc]
        exact this
      · rw [szF, szF, muF, muF, if_neg (show ¬ f.bs ++ [f.here] = [] by simp), szBs_app, szBs, szBs]
        show szBs f.bs + (1 + szB f.here + 0) + 0 + 1 + _ + _ ≤ _
        rcases c6 with h | h
        · have : f.bs = [] := by
            cases e : f.bs with
            | nil => rfl
            | cons _ _ => rw [e] at h; cases h
          rw [if_pos this]
          omega
        · have := hleft (by omega)
          omega
      · rw [muF, muF, if_neg (show ¬ f.bs ++ [f.here] = [] by simp)]
        rcases c6 with h | h
        · have : f.bs = [] := by
            cases e : f.bs with
            | nil => rfl
            | cons _ _ => rw [e] at h; cases h
          rw [if_pos this]
          omega
        · have := hleft (by omega)
          omega
  cases r with
  | nil =>
    have hb : f.w = .base := g.bas.2 rfl
    rw [hb]
    refine unp_r (pre := rv []) rfl rfl (fun b1 b2 => kw (rest_last (by omega) (hnp _) (last_pop (hb ▸ c5) (last_ret (calmB f.here) ?_)))) (ret rfl p1 (left - 1) (some (.str (wdS .base))) (some (.int f.n)) (some (.int way)) hp1)
    exact congrArg (Fl.rt _) (backs_out (fun b => rfl) (fun b => rfl))
  | cons h r =>
    obtain ⟨gh, gr⟩ := gr
    have hb : f.w ≠ .base := fun e => by have := g.bas.1 e; cases this
    rw [rv_cons]
    obtain ⟨o1, o2, o3, o4⟩ := okS_wd g
    have hh2 := szB_len h.here
    rw [szF] at hs
    refine unp_r (fl := .nx (bst p1 (m : Nat) (q : Nat) mo (deep : Nat) (rv r ++ [.lst [.str (wdS h.w), .int h.n, .lst (bosD h.bs), .lst (boD h.here ++ [wdD f.w f.n (bosD f.bs) (boD f.here)])]]) (left - 1) (some (.str (wdS f.w))) (some (.int f.n)) none none (some (.int way)))) rfl rfl (fun b1 b2 => kw (rest_last (by omega) (by have := hnp (.lst [.str (wdS f.w), .int f.n, .fn b1, .fn b2]); rw [rv_cons] at this; exact this) (last_pop c5 (pop_r (calmB f.here) hb (by rw [bosD_len]; omega) (by rw [boD_len]; omega) ?_)))) ?_
    · refine congrArg Fl.nx (backs_out (fun b => ?_) (fun b => ?_))
      · rw [subD, List.getElem?_eq_none (by rw [List.length_append, List.length_append]; exact Nat.le_refl _)]
        rfl
      · rw [subD, List.getElem?_eq_none (by rw [List.length_append, List.length_append]; exact Nat.le_refl _)]
        rfl
    · have := k p1 { h with here := h.here ++ [wdSt f.w f.n f.bs f.here] } r (left - 1) (some (.str (wdS f.w))) (some (.int f.n)) (some (.int way)) hp1 ⟨gf_more gh o1 o2 (by rw [List.length_cons] at o3; omega), gr⟩ ?_ ?_
      · rw [rv_cons] at this
        unfold frD at this
        rw [wd_eq hb, bo_snoc]
        exact this
      · rw [szF, szF, szF, muF, muF, muF, szB_snoc]
        dsimp only
        omega
      · rw [muF, muF, muF]
        dsimp only
        omega
end
end K10
namespace K10
local macro_rules | `(tactic| walk_at "st") => `(tactic| with_reducible first | refine low_sum_r ?_ | refine low_rank_r ?_ | refine key_lt ?_ | refine low_less_r ?_ | refine least2 ?_ | refine word_upto ?_ | refine word_in ?_)
local macro_rules | `(tactic| walk_at "st") => `(tactic| first
  | ((with_reducible show Ok (gEq (D.str (PySem.Str.ofString _)) (D.str (PySem.Str.ofString _))) _); first | refine Ok.mk (a := D.bl true) rfl ?_ | refine Ok.mk (a := D.bl false) rfl ?_)
  | ((with_reducible show Ok (gIn false (D.str (PySem.Str.ofString _)) (D.tup _)) _); first | refine Ok.mk (a := D.bl true) rfl ?_ | refine Ok.mk (a := D.bl false) rfl ?_)
  | ((with_reducible show Ok (gIn false (D.str (PySem.Str.ofString _)) (D.tup _)) _); first | refine Ok.mk (a := D.bl true) rfl ?_ | refine Ok.mk (a := D.bl false) rfl ?_)
  | ((with_reducible show Ok (gtTup _ _ (D.tup [_, _, _]) _) _); refine Ok.mk rfl ?_)
  | ((with_reducible show Ok (gtTup _ _ (fiD _) _) _); refine Ok.mk rfl ?_))
structure GB (q m : Nat) (C : Int) (N Dp : Nat) (b : List St) : Prop where
  ok : okB q m b
  cb : cbB C b
  sz : szB b ≤ N
  dp : dpB b ≤ Dp
section
variable {q m deep : Nat} {C : Int} {mo : Int} {Q : Fl → Prop}
theorem body_loop (hC : 3 ≤ C) (hq : 0 < q) (hq2 : q ≤ 1000) (hm : m ≤ 1000) (hd : deep ≤ 1000) {M : Nat} (hM : M ≤ 100000)
    (ret : ∀ b p' left' x7 x8 x11, GB q m C M (deep - 1) b → Po p' → Q (.rt (.tup (boD b)) (bst p' (m : Nat) (q : Nat) mo (deep : Nat) [] left' x7 x8 none none x11))) :
    ∀ (N : Nat) (f : Fr) (r : List Fr) (left : Int) (p : D) (x7 x8 x9 x10 x11 : Option D), Po p → Good q m deep C (f :: r) → szF (f :: r) + (3 * left.toNat + muF (f :: r)) ≤ M → 3 * left.toNat + muF (f :: r) ≤ N →
    Ok (sWhile (dTru (dConst (.bl true))) (sUnp 5 TS PLC bodyIn) (bst p (m : Nat) (q : Nat) mo (deep : Nat) (rv (f :: r)) left x7 x8 x9 x10 x11)) Q := by
  intro N
  induction N with
  | zero =>
    intro f r left p x7 x8 x9 x10 x11 _ _ _ h
    rw [muF] at h
    have : 1 ≤ (if f.bs = [] then 2 else 1) := by split <;> omega
    omega
  | succ N ih =>
    intro f r left p x7 x8 x9 x10 x11 hp hg hz hn
    refine w_step ?_
    walk_at "go"
    refine round_r hp hC hq hq2 hm hd hg (by omega) (fun p' f' r' left' x7 x8 x11 hp' hg' h1 h2 => ?_) (fun hr p' left' x7 x8 x11 hp' => ?_)
    · exact ih f' r' left' p' x7 x8 none none x11 hp' hg' (by omega) (by omega)
    · subst hr
      refine ret f.here p' left' x7 x8 x11 ⟨hg.1.ok, hg.1.cb, ?_, ?_⟩ hp'
      · rw [szF, szF] at hz
        omega
      · have := hg.1.dp
        omega
end
theorem body_r {q m deep : Nat} {C : Int} {most : Nat} {p : D} (hp : Po p) (hC : 3 ≤ C) (hq : 0 < q) (hq2 : q ≤ 1000) (hm : m ≤ 1000) (hd0 : 0 < deep) (hd : deep ≤ 1000) (hmo : most ≤ 1000) {Q : D × List D → Prop}
    (k : ∀ b p', GB q m C (3 * most + 3) (deep - 1) b → Po p' → Q (.tup (boD b), [p', .non, .non, .non, .non])) : Ok (F__law_body [p, .int (m : Nat), .int (q : Nat), .int (most : Nat), .int (deep : Nat)]) Q := by
  rw [body_eq2]
  walk_at "go"
  refine ⟨rfl, ?_⟩
  walk_at "go"
  refine body_loop (C := C) (M := 3 * most + 3) hC hq hq2 hm hd (by omega) (fun b p' left' x7 x8 x11 hb hp' => ?_) (3 * most + 2) ⟨.base, 0, [], []⟩ [] (most : Nat) p none none none none none hp ⟨⟨trivial, trivial, trivial, trivial, by show 0 + 0 + 1 ≤ deep; omega, by show 0 + 0 + 1 ≤ deep; omega, by show (0 : Int) ≤ 0; omega, by show (0 : Int) ≤ 1000; omega, ⟨fun _ => rfl, fun _ => rfl⟩⟩, trivial⟩ (by show 0 + 0 + 1 + 0 + (3 * (most : Int).toNat + (2 + 0)) ≤ _; omega) (by show 3 * (most : Int).toNat + (2 + 0) ≤ _; omega)
  walk_at "go"
  exact k b p' hb hp'
local macro_rules | `(tactic| walk_at "st") => `(tactic| first
  | ((with_reducible refine take2 ?h1 ?h2 ?h3 (fun _ _ _ _ _ => ?_)); (case h1 => assumption); (case h2 => omega); (case h3 => omega))
  | (with_reducible refine gSl_l ?_)
  | ((with_reducible show ∃ n : Int, D.int _ = D.int n ∧ Ok _ _); refine ⟨_, rfl, ?_⟩))
theorem cutN {α : Type} {xs : List α} {i : Int} (h0 : 0 ≤ i) (h1 : i ≤ xs.length) : (cutL xs none (some i)).length = i.toNat := by
  unfold cutL
  have e : i = (i.toNat : Nat) := by omega
  rw [HT.sIx_none, e, HT.sIx_nat, List.length_take, List.length_drop]
  omega
theorem program_r {most size deep : Nat} {C : Int} {p : D} (hp : Po p) (hC : 3 ≤ C) (hm0 : 0 < most) (hm : most ≤ 12) (hs0 : 0 < size) (hs : size ≤ 100) (hd0 : 0 < deep) (hd : deep ≤ 1000) {Q : D × List D → Prop}
    (k : ∀ (ps ns : List D) (bs : List (List St)) p', Po p' → 1 ≤ ps.length → ps.length ≤ 3 → 1 ≤ ns.length → ns.length ≤ most → bs.length = ns.length → (∀ b ∈ bs, GB ns.length ps.length C (3 * size + 3) (deep - 1) b) → Q (.tup [.tup ps, .tup ns, .tup (bosD bs)], [p', .non, .non, .non])) : Ok (F__law_program [p, .int (most : Nat), .int (size : Nat), .int (deep : Nat)]) Q := by
  unfold F__law_program
  walk_at "go"
  refine mixed_r hp (by decide) fun ds p1 hp1 hl => ?_
  walk_at "go"
  rename_i v p2 hp2 v0 v1
  rename_i x4 x3 x2 x1 x0
  refine mixed_r hp2 (by decide) fun es p3 hp3 hl2 => ?_
  walk_at "go"
  have hes : es.length = 11 := hl2
  have hcl : (cutL es none (some (1 + v - 1))).length = v.toNat := by rw [cutN (by omega) (by omega)]; omega
  refine g_cat (by rw [hcl, List.length_singleton]; omega) ?_
  walk_at "go"
  refine mixed_r hp3 (by rw [List.length_cons, hcl]; omega) fun ns p4 hp4 hl3 => ?_
  rw [List.length_cons, hcl] at hl3
  walk_at "go"
  refine w_seqI ?_
  walk_at "go"
  refine ⟨_, rfl, by omega, ?_⟩
  have hds : ds.length = 5 := hl
  have hps : (cutL ds none (some (1 + x4))).length = (1 + x4).toNat := cutN (by omega) (by omega)
  refine w_cloop (fun rest acc ρ => ∃ (p : D) (bs : List (List St)), acc = bosD bs ∧ bs.length + rest.length = ns.length ∧ (∀ b ∈ bs, GB ns.length (cutL ds none (some (1 + x4))).length C (3 * size + 3) (deep - 1) b) ∧ Po p ∧ ρ = [some p, some (.int (most : Nat)), some (.int (size : Nat)), some (.int (deep : Nat)), some (.tup (cutL ds none (some (1 + x4)))), some (.int (1 + v)), some (.lst ns), none, none]) ?_ ?_ ⟨p4, [], rfl, Nat.zero_add _, (fun x hx => nomatch hx), hp4, rfl⟩
  · rintro d rest acc ρ ⟨p, bs, rfl, hb, hbs, hp, rfl⟩
    rw [List.length_cons] at hb
    walk_at "go"
    rename_i z p5 hp5 z0 z1
    have e1 : (1 + v : Int) = (ns.length : Nat) := by omega
    have e2 : (1 + z : Int) = ((1 + z).toNat : Nat) := by omega
    rw [e1, e2]
    refine body_r hp5 hC (by omega) (by omega) (by omega) hd0 hd (by omega) fun b p6 hb2 hp6 => ?_
    walk_at "go"
    refine ⟨p6, bs ++ [b], bos_snoc bs b, by rw [List.length_append, List.length_singleton]; omega, fun x hx => ?_, hp6, by rw [← e1]; rfl⟩
    rcases List.mem_append.mp hx with h | h
    · exact hbs x h
    · rw [List.mem_singleton.mp h]
      exact ⟨hb2.ok, hb2.cb, by have := hb2.sz; omega, hb2.dp⟩
  · rintro acc ρ ⟨p, bs, rfl, hb, hbs, hp, rfl⟩
    walk_at "go"
    exact k _ ns bs p hp (by omega) (by omega) (by omega) (by omega) (by simpa using hb) hbs
end K10
namespace K10
local macro_rules | `(tactic| walk_at "st") => `(tactic| with_reducible first | refine low_sum_r ?_ | refine low_rank_r ?_ | refine key_lt ?_ | refine low_less_r ?_ | refine least2 ?_ | refine word_upto ?_ | refine word_in ?_)
local macro_rules | `(tactic| walk_at "st") => `(tactic| first
  | ((with_reducible show Ok (gEq (D.str (PySem.Str.ofString _)) (D.str (PySem.Str.ofString _))) _); first | refine Ok.mk (a := D.bl true) rfl ?_ | refine Ok.mk (a := D.bl false) rfl ?_)
  | ((with_reducible show Ok (gIn false (D.str (PySem.Str.ofString _)) (D.tup _)) _); first | refine Ok.mk (a := D.bl true) rfl ?_ | refine Ok.mk (a := D.bl false) rfl ?_)
  | ((with_reducible show Ok (gIn false (D.str (PySem.Str.ofString _)) (D.tup _)) _); first | refine Ok.mk (a := D.bl true) rfl ?_ | refine Ok.mk (a := D.bl false) rfl ?_)
  | ((with_reducible show Ok (gtTup _ _ (D.tup [_, _, _]) _) _); refine Ok.mk rfl ?_)
  | ((with_reducible show Ok (gtTup _ _ (fiD _) _) _); refine Ok.mk rfl ?_))
theorem mulC {C : Int} (h : 0 ≤ C) {x y : Nat} (hx : x ≤ y) : C * (x : Nat) ≤ C * (y : Nat) := Int.mul_le_mul_of_nonneg_left (Int.ofNat_le.mpr hx) h
theorem pw_le {n n' d d' : Nat} (h : n ≤ n') (hd : d ≤ d') : n * 1000 ^ d ≤ n' * 1000 ^ d' := Nat.mul_le_mul h (Nat.pow_le_pow_right (by decide) hd)
mutual
theorem wtS_le {C : Int} (h : 0 ≤ C) : ∀ s : St, wtS C s ≤ C * ((szS s * 1000 ^ dpS s : Nat) : Int)
  | .chg _ => by show C ≤ C * ((1 * 1000 ^ 0 : Nat) : Int); omega
  | .call _ => by show C ≤ C * ((1 * 1000 ^ 0 : Nat) : Int); omega
  | .eit bs => by
    rw [wtS, szS, dpS]
    exact Int.le_trans (wtBs_le h bs) (mulC h (pw_le (by omega) (by omega)))
  | .loop b => by
    rw [wtS, szS, dpS]
    exact Int.le_trans (wtB_le h b) (mulC h (pw_le (by omega) (by omega)))
  | .rep _ _ b => by
    rw [wtS, szS, dpS]
    have h1 := wtB_le h b
    have h2 : wtB C b * 1000 ≤ (C * ((szB b * 1000 ^ dpB b : Nat) : Int)) * 1000 := Int.mul_le_mul_of_nonneg_right h1 (by omega)
    refine Int.le_trans h2 ?_
    rw [Int.mul_assoc, show (((szB b * 1000 ^ dpB b : Nat) : Int) * 1000) = ((szB b * 1000 ^ (1 + dpB b) : Nat) : Int) from by rw [Nat.pow_add, Nat.mul_comm (1000 ^ 1), ← Nat.mul_assoc]; rfl]
    exact mulC h (pw_le (by omega) (Nat.le_refl _))
  | .back => by show 0 ≤ C * ((1 * 1000 ^ 0 : Nat) : Int); omega
  | .stop => by show 0 ≤ C * ((1 * 1000 ^ 0 : Nat) : Int); omega
theorem wtB_le {C : Int} (h : 0 ≤ C) : ∀ b : List St, wtB C b ≤ C * ((szB b * 1000 ^ dpB b : Nat) : Int)
  | [] => by rw [wtB]; exact Int.mul_nonneg h (by omega)
  | s :: b => by
    rw [wtB, szB, dpB, Nat.add_mul, Int.natCast_add, Int.mul_add]
    exact Int.add_le_add (Int.le_trans (wtS_le h s) (mulC h (pw_le (Nat.le_refl _) (Nat.le_max_left ..)))) (Int.le_trans (wtB_le h b) (mulC h (pw_le (Nat.le_refl _) (Nat.le_max_right ..))))
theorem wtBs_le {C : Int} (h : 0 ≤ C) : ∀ b : List (List St), wtBs C b ≤ C * ((szBs b * 1000 ^ dpBs b : Nat) : Int)
  | [] => by rw [wtBs]; exact Int.mul_nonneg h (by omega)
  | s :: b => by
    rw [wtBs, szBs, dpBs]
    refine Int.le_trans ?_ (mulC h (pw_le (show szB s + szBs b ≤ 1 + szB s + szBs b by omega) (Nat.le_refl _)))
    rw [Nat.add_mul, Int.natCast_add, Int.mul_add]
    exact Int.add_le_add (Int.le_trans (wtB_le h s) (mulC h (pw_le (Nat.le_refl _) (Nat.le_max_left ..)))) (Int.le_trans (wtBs_le h b) (mulC h (pw_le (Nat.le_refl _) (Nat.le_max_right ..))))
end
theorem wt_lim {b : List St} (hz : szB b ≤ 9000) (hd : dpB b ≤ 19) : wtB (10 ^ 41) b ≤ LIM := by
  refine Int.le_trans (wtB_le (by decide) b) (Int.le_trans (mulC (by decide) (pw_le hz hd)) (by decide +kernel))
theorem within_e (s : St) : F_bodies_within [stD s] = .ok (.tup (bosD (innerB s)), [.non]) := by
  refine okEq ?_
  unfold F_bodies_within
  cases s with
  | rep u n b =>
    rw [stD]
    walk_at "go"
    refine word_neq (.inr (.inr (.inl rfl))) ?_
    walk_at "go"
    refine Ok.mk (a := D.bl true) (by cases u <;> rfl) ?_
    walk_at "go"
    rfl
  | _ =>
    rw [stD]
    walk_at "go"
    rfl
theorem gvBs_cons {t : List (List Pr)} {p : Nat} (b : List St) (bs : List (List St)) : gvBs t p (b :: bs) = gvB t p b ++ gvBs t p bs := rfl
theorem rows_e {t : List (List Pr)} {q m p : Nat} (ht : tbOk t q m) (hp : p < m) : ∀ (n : Nat) (b : List St), dpB b + 1 ≤ n → 3 * dpB b + 1 ≤ 60 → okB q m b → szB b ≤ 1000000 → F_body_rows n [tabD t, .tup (boD b), .int (p : Nat)] = .ok (.lst ((gvB t p b).map fiD), [.non, .non, .non]) := by
  intro n
  induction n with
  | zero => intro b h; omega
  | succ n ih =>
    intro b hd hd2 ho hz
    refine okEq ?_
    rw [F_body_rows_succ]
    walk_at "go"
    refine w_seqI ?_
    walk_at "go"
    refine ⟨_, rfl, ?_⟩
    refine w_loop (fun ds ρ => ∃ (acc : List Fi) (rest : List St) (x4 x5 : Option D), ds = boD rest ∧ okB q m rest ∧ dpB rest ≤ dpB b ∧ acc ++ gvB t p rest = gvB t p b ∧ acc.length + szB rest ≤ szB b ∧ ρ = [some (tabD t), some (.tup (boD b)), some (.int (p : Nat)), some (.lst (acc.map fiD)), x4, x5]) ?_ ?_ _ _ ⟨[], b, _, _, rfl, ho, Nat.le_refl _, rfl, by show 0 + _ ≤ _; omega, rfl⟩
    · rintro d ds ρ ⟨acc, rest, x4, x5, e, ho, hd3, hg, hl, rfl⟩
      cases rest with
      | nil => cases e
      | cons s rest =>
        obtain ⟨e1, e2⟩ := List.cons.inj (show d :: ds = stD s :: boD rest from e)
        subst e1 e2
        rw [dpB] at hd3
        rw [szB] at hl
        rw [gvB, gvS_eq] at hg
        have hgl := gvBs_len t p (innerB s)
        have hsz := sz_inner s
        have hso : okBs q m (innerB s) := by
          have := ho.1
          cases s with
          | eit bs => exact this.2
          | loop b => exact ⟨this, trivial⟩
          | rep u n b => exact ⟨this.2.2, trivial⟩
          | _ => trivial
        have hsd : dpBs (innerB s) + 1 ≤ dpB b ∨ innerB s = [] := by
          have hd4 : dpS s ≤ dpB b := by omega
          cases s with
          | eit bs => rw [dpS] at hd4; show dpBs bs + 1 ≤ _ ∨ _; omega
          | loop b => rw [dpS] at hd4; left; show dpBs [b] + 1 ≤ _; rw [dpBs, dpBs]; omega
          | rep u n b => rw [dpS] at hd4; left; show dpBs [b] + 1 ≤ _; rw [dpBs, dpBs]; omega
          | _ => exact .inr rfl
        walk_at "go"
        refine w_seqI ?_
        walk_at "go"
        refine Ok.mk (within_e s) ?_
        walk_at "go"
        refine ⟨_, rfl, ?_⟩
        refine w_loop (fun es ρ => ∃ (acc2 : List Fi) (bs : List (List St)) (x5 : Option D), es = bosD bs ∧ okBs q m bs ∧ (dpBs bs + 1 ≤ dpB b ∨ bs = []) ∧ acc2 ++ gvBs t p bs = acc ++ gvBs t p (innerB s) ∧ acc2.length + szBs bs ≤ acc.length + szBs (innerB s) ∧ ρ = [some (tabD t), some (.tup (boD b)), some (.int (p : Nat)), some (.lst (acc2.map fiD)), some (stD s), x5]) ?_ ?_ _ _ ⟨acc, innerB s, _, rfl, hso, hsd, rfl, Nat.le_refl _, rfl⟩
        · rintro d es ρ ⟨acc2, bs, x5, e, ho2, hd5, hg2, hl2, rfl⟩
          cases bs with
          | nil => cases e
          | cons c bs =>
            obtain ⟨e1, e2⟩ := List.cons.inj (show d :: es = D.tup (boD c) :: bosD bs from e)
            subst e1 e2
            rw [dpBs] at hd5
            rw [szBs] at hl2
            have hd6 : max (dpB c) (dpBs bs) + 1 ≤ dpB b := hd5.resolve_right (fun h => nomatch h)
            have hcl := gvB_len t p c
            walk_at "go"
            refine w_catO rfl ?_
            walk_at "go"
            refine Ok.mk (ih c (by omega) (by omega) ho2.1 (by omega)) ?_
            walk_at "go"
            refine ⟨_, _, rfl, rfl, by rw [List.length_map, List.length_map]; omega, ?_⟩
            walk_at "go"
            refine ⟨acc2 ++ gvB t p c, bs, _, rfl, ho2.2, .inl (by omega), ?_, ?_, by rw [List.map_append]; rfl⟩
            · rw [gvBs_cons, ← List.append_assoc] at hg2
              exact hg2
            · rw [List.length_append]
              omega
        · rintro ρ ⟨acc2, bs, x5, e, ho2, hd5, hg2, hl2, rfl⟩
          cases bs with
          | cons _ _ => cases e
          | nil =>
            rw [show gvBs t p [] = [] from rfl, List.append_nil] at hg2
            subst hg2
            walk_at "go"
            refine Ok.mk (stat_e ht hp s 60 (by omega) ho.1 (by omega)) ?_
            walk_at "go"
            have hgg : (acc ++ gvBs t p (innerB s)).length + 1 ≤ acc.length + szS s := by
              have := gvS_len t p s
              rw [gvS_eq, List.length_append, List.length_singleton] at this
              rw [List.length_append]
              omega
            refine ⟨by rw [List.length_map]; omega, ?_⟩
            refine ⟨acc ++ gvBs t p (innerB s) ++ [figS t p s], rest, _, _, rfl, ho.2, by omega, ?_, ?_, by rw [List.map_append (l₂ := [figS t p s])]; rfl⟩
            · rw [← hg]
              simp only [List.append_assoc]
            · rw [List.length_append, List.length_singleton]
              omega
    · rintro ρ ⟨acc, rest, x4, x5, e, ho, hd3, hg, hl, rfl⟩
      cases rest with
      | cons _ _ => cases e
      | nil =>
        rw [show gvB t p [] = [] from rfl, List.append_nil] at hg
        subst hg
        walk_at "go"
end K10
namespace K10
local macro_rules | `(tactic| walk_at "st") => `(tactic| with_reducible first | refine low_sum_r ?_ | refine low_rank_r ?_ | refine key_lt ?_ | refine low_less_r ?_ | refine least2 ?_ | refine word_upto ?_ | refine word_in ?_)
local macro_rules | `(tactic| walk_at "st") => `(tactic| first
  | ((with_reducible show Ok (gEq (D.str (PySem.Str.ofString _)) (D.str (PySem.Str.ofString _))) _); first | refine Ok.mk (a := D.bl true) rfl ?_ | refine Ok.mk (a := D.bl false) rfl ?_)
  | ((with_reducible show Ok (gIn false (D.str (PySem.Str.ofString _)) (D.tup _)) _); first | refine Ok.mk (a := D.bl true) rfl ?_ | refine Ok.mk (a := D.bl false) rfl ?_)
  | ((with_reducible show Ok (gIn false (D.str (PySem.Str.ofString _)) (D.tup _)) _); first | refine Ok.mk (a := D.bl true) rfl ?_ | refine Ok.mk (a := D.bl false) rfl ?_)
  | ((with_reducible show Ok (gtTup _ _ (D.tup [_, _, _]) _) _); refine Ok.mk rfl ?_)
  | ((with_reducible show Ok (gtTup _ _ (fiD _) _) _); refine Ok.mk rfl ?_))
theorem pl_fg (f : Fg) : Pl f.d = true := by cases f <;> rfl
theorem wz_fg (f : Fg) : wzD f.d = 1 := by cases f <;> rfl
theorem pl_fi (f : Fi) : Pl (fiD f) = true := by
  show (Pl f.1.d && (Pl f.2.1.d && (Pl f.2.2.d && true))) = true
  rw [pl_fg, pl_fg, pl_fg]
  rfl
theorem wz_fi (f : Fi) : wzD (fiD f) = 4 := by
  show 1 + (wzD f.1.d + (wzD f.2.1.d + (wzD f.2.2.d + 0))) = 4
  rw [wz_fg, wz_fg, wz_fg]
theorem pl_fis : ∀ fs : List Fi, Pls (fs.map fiD) = true
  | [] => rfl
  | f :: fs => by rw [List.map_cons, Pls, pl_fi, pl_fis fs]; rfl
theorem wz_fis : ∀ fs : List Fi, wzS (fs.map fiD) = 4 * fs.length
  | [] => rfl
  | f :: fs => by rw [List.map_cons, wzS, wz_fi, wz_fis fs, List.length_cons]; omega
theorem calm_fis : ∀ fs : List Fi, D.calms (fs.map fiD) = true
  | [] => rfl
  | f :: fs => by
    show ((fiD f).calm && D.calms (fs.map fiD)) = true
    rw [calm_fi, calm_fis fs]
    rfl
abbrev gvT (t : List (List Pr)) (p : Nat) (b : List St) : D := .tup ((gvB t p b).map fiD)
theorem pl_gvs {t : List (List Pr)} {p : Nat} : ∀ bs : List (List St), Pls (bs.map (gvT t p)) = true
  | [] => rfl
  | b :: bs => by
    rw [List.map_cons, Pls, pl_gvs bs]
    show (Pls ((gvB t p b).map fiD) && true) = true
    rw [pl_fis]
    rfl
theorem calm_gvs {t : List (List Pr)} {p : Nat} : ∀ bs : List (List St), D.calms (bs.map (gvT t p)) = true
  | [] => rfl
  | b :: bs => by
    show (D.calms ((gvB t p b).map fiD) && D.calms (bs.map (gvT t p))) = true
    rw [calm_fis, calm_gvs bs]
    rfl
theorem wz_gvs {t : List (List Pr)} {p N : Nat} : ∀ bs : List (List St), (∀ b ∈ bs, szB b ≤ N) → wzS (bs.map (gvT t p)) ≤ bs.length * (4 * N + 1)
  | [], _ => Nat.zero_le _
  | b :: bs, h => by
    have h1 := wz_gvs (t := t) (p := p) bs fun b hb => h b (List.mem_cons_of_mem _ hb)
    have h2 := h b List.mem_cons_self
    have h3 := gvB_len t p b
    rw [List.map_cons, wzS, List.length_cons, Nat.succ_mul]
    show 1 + wzS ((gvB t p b).map fiD) + _ ≤ _
    rw [wz_fis]
    omega
theorem body_e' {t : List (List Pr)} {q m p N Dp : Nat} (ht : tbOk t q m) (hp : p < m) {b : List St} {C : Int} (h : GB q m C N Dp b) (hN : N ≤ 9000) (hD : Dp ≤ 19) : F_body_figures 60 [tabD t, .tup (boD b), .int (p : Nat)] = .ok (fiD (figB t p fi0 b), [.non, .non, .non]) :=
  body_e ht hp b 60 (by have := h.dp; omega) h.ok (by have := h.sz; omega)
def cxO {t : List (List Pr)} {q m p : Nat} (ht : tbOk t q m) (hp : p < m) (hb : tbBd (10 ^ 41) t) : Cx := ⟨t, q, m, p, 10 ^ 41, ht, hp, by decide, hb⟩
theorem figs_r' {t : List (List Pr)} {q m p N Dp : Nat} (ht : tbOk t q m) (hp : p < m) (hb : tbBd (10 ^ 41) t) {b : List St} (h : GB q m (10 ^ 41) N Dp b) (hN : N ≤ 9000) (hD : Dp ≤ 19) {Q : D × List D → Prop}
    (k : ∀ lines' : List D, Q (fiD (figB t p fi0 b), [.non, .non, .non, .lst lines', .lst ((gvB t p b).map fiD)])) : Ok (F__law_figures [.tup (boD b), tabD t, .int (p : Nat), .lst [], .lst []]) Q :=
  figs_r (cxO ht hp hb) h.ok h.cb (wt_lim (by have := h.sz; omega) (by have := h.dp; omega)) (Nat.zero_le _) (Nat.zero_le _) (by have := h.sz; omega) k
theorem stats_r {t : List (List Pr)} {q m p N Dp : Nat} (ht : tbOk t q m) (hp : p < m) {C : Int} {x y : D} {bs : List (List St)} (h : ∀ b ∈ bs, GB q m C N Dp b) (hN : N ≤ 9000) (hD : Dp ≤ 19) (hl : bs.length ≤ 1000) {Q : D × List D → Prop}
    (k : Q (.tup (bs.map (gvT t p)), [.non, .non, .non])) : Ok (F_statement_figures_of [.tup [x, y, .tup (bosD bs)], tabD t, .int (p : Nat)]) Q := by
  unfold F_statement_figures_of
  walk_at "go"
  refine w_seqI ?_
  walk_at "go"
  refine ⟨_, rfl, by rw [bosD_len]; omega, ?_⟩
  rw [bosD_map]
  refine w_cloop (fun ds acc ρ => ∃ done rest : List (List St), bs = done ++ rest ∧ ds = rest.map (fun b => D.tup (boD b)) ∧ acc = done.map (gvT t p) ∧ ρ = [some (.tup [x, y, .tup (bosD bs)]), some (tabD t), some (.int (p : Nat)), none]) ?_ ?_ ⟨[], bs, rfl, rfl, rfl, by rw [bosD_map]; rfl⟩
  · rintro d ds acc ρ ⟨done, rest, e, e1, rfl, rfl⟩
    cases rest with
    | nil => cases e1
    | cons b rest =>
      cases e1
      have hb := h b (by rw [e]; exact List.mem_append_right _ List.mem_cons_self)
      walk_at "go"
      refine Ok.mk (rows_e ht hp 60 b (by have := hb.dp; omega) (by have := hb.dp; omega) hb.ok (by have := hb.sz; omega)) ?_
      walk_at "go"
      refine ⟨done ++ [b], rest, by rw [e, List.append_assoc]; rfl, rfl, by rw [List.map_append]; rfl, rfl⟩
  · rintro acc ρ ⟨done, rest, e, e1, rfl, rfl⟩
    cases rest with
    | cons _ _ => cases e1
    | nil =>
      rw [List.append_nil] at e
      subst e
      walk_at "go"
      exact k
theorem rg_in {n : Nat} {d : D} (h : d ∈ rgD 0 (n : Nat)) : ∃ i : Nat, d = .int (i : Nat) ∧ i < n := by
  unfold rgD at h
  obtain ⟨i, h1, rfl⟩ := List.mem_map.mp h
  have := List.mem_range.mp h1
  exact ⟨i, by rw [Int.zero_add], by omega⟩
theorem gAdd_tt {xs ys : List D} {Q : D → Prop} (h : xs.length + ys.length ≤ 16777216) (q : Q (.tup (xs ++ ys))) : Ok (DL.gAdd (.tup xs) (.tup ys)) Q := Ok.iteT h (Ok.ret q)
theorem gb_in {q m N Dp : Nat} {C : Int} {b : List St} (h : GB q m C N Dp b) : ∀ s ∈ b, okS q m s ∧ cbS C s ∧ szS s ≤ N ∧ dpS s ≤ Dp := by
  obtain ⟨h1, h2, h3, h4⟩ := h
  induction b with
  | nil => intro s hs; cases hs
  | cons x b ih =>
    intro s hs
    rw [szB] at h3
    rw [dpB] at h4
    rcases List.mem_cons.mp hs with rfl | hs
    · exact ⟨h1.1, h2.1, by omega, by omega⟩
    · exact ih h1.2 h2.2 (by omega) (by omega) s hs
theorem gb_inner {q m N Dp : Nat} {C : Int} {s : St} (h1 : okS q m s) (h2 : cbS C s) (h3 : szS s ≤ N) (h4 : dpS s ≤ Dp) : ∀ b ∈ innerB s, GB q m C N Dp b := by
  have key : ∀ bs : List (List St), okBs q m bs → cbBs C bs → szBs bs ≤ N → dpBs bs ≤ Dp → ∀ b ∈ bs, GB q m C N Dp b := by
    intro bs
    induction bs with
    | nil => intro _ _ _ _ b hb; cases hb
    | cons x bs ih =>
      intro h1 h2 h3 h4 b hb
      rw [szBs] at h3
      rw [dpBs] at h4
      rcases List.mem_cons.mp hb with rfl | hb
      · exact ⟨h1.1, h2.1, by omega, by omega⟩
      · exact ih h1.2 h2.2 (by omega) (by omega) b hb
  cases s with
  | eit bs =>
    rw [szS] at h3
    rw [dpS] at h4
    exact key bs h1.2 h2 (by omega) (by omega)
  | loop b =>
    rw [szS] at h3
    rw [dpS] at h4
    exact key [b] ⟨h1, trivial⟩ ⟨h2, trivial⟩ (by rw [szBs, szBs]; omega) (by rw [dpBs, dpBs]; omega)
  | rep u n b =>
    rw [szS] at h3
    rw [dpS] at h4
    exact key [b] ⟨h1.2.2, trivial⟩ ⟨h2, trivial⟩ (by rw [szBs, szBs]; omega) (by rw [dpBs, dpBs]; omega)
  | _ => intro b hb; cases hb
theorem change_pl : ∀ c : List Int, Pls (c.map D.int) = true
  | [] => rfl
  | x :: c => by rw [List.map_cons, Pls, change_pl c]; rfl
theorem change_wz : ∀ c : List Int, wzS (c.map D.int) = c.length
  | [] => rfl
  | x :: c => by rw [List.map_cons, wzS, change_wz c, List.length_cons]; show 1 + _ = _; omega
def needD (c : List Int) : D → D
  | .int i => .int (if -(c.getD i.toNat 0) > 0 then -(c.getD i.toNat 0) else 0)
  | d => d
def negD : D → D
  | .int i => .int (if -i > 0 then -i else 0)
  | d => d
theorem neg_map (c : List Int) : (c.map D.int).map negD = (c.map fun i => if -i > 0 then -i else 0).map D.int := by
  rw [List.map_map, List.map_map]
  rfl
theorem need_eq (c : List Int) : (rgD 0 (c.length : Nat)).map (needD c) = (c.map D.int).map negD := by
  apply List.ext_getElem?
  intro i
  unfold rgD
  rw [List.getElem?_map, List.getElem?_map, List.getElem?_map, List.getElem?_map]
  by_cases h : i < c.length
  · rw [List.getElem?_range (by omega), List.getElem?_eq_getElem h]
    show some (needD c (.int (0 + (i : Nat)))) = some (negD (.int c[i]))
    rw [Int.zero_add]
    show some (D.int (if -(c.getD i 0) > 0 then -(c.getD i 0) else 0)) = some (D.int (if -c[i] > 0 then -c[i] else 0))
    have e : c.getD i 0 = c[i] := by rw [List.getD_eq_getElem?_getD, List.getElem?_eq_getElem h]; rfl
    rw [e]
  · rw [List.getElem?_eq_none (by rw [List.length_range]; omega), List.getElem?_eq_none (by omega)]
    rfl
theorem asked_r {t : List (List Pr)} {N Dp : Nat} {p : D} {ps ns : List D} {bs : List (List St)} (hpo : Po p) (hps : 1 ≤ ps.length) (hps2 : ps.length ≤ 1000) (ht : tbOk t ns.length ps.length) (hb : tbBd (10 ^ 41) t) (hbs : ∀ b ∈ bs, GB ns.length ps.length (10 ^ 41) N Dp b) (hN : N ≤ 400) (hD : Dp ≤ 18) (hl : bs.length ≤ 100) {Q : D × List D → Prop}
    (k : ∀ p', Po p' → Q (.bl true, [p', .non, .non])) : Ok (F__law_asked [p, .tup [.tup ps, .tup ns, .tup (bosD bs)], tabD t]) Q := by
  unfold F__law_asked
  walk_at "go"
  refine w_rng1 ?_
  walk_at "go"
  refine ⟨by omega, by omega, ?_⟩
  refine w_loop (fun ds ρ => (∀ d ∈ ds, ∃ j : Nat, d = .int (j : Nat) ∧ j < ps.length) ∧ ∃ x3 x4 x5 x6 x7 x8 x9 : Option D, ρ = [some p, some (.tup [.tup ps, .tup ns, .tup (bosD bs)]), some (tabD t), x3, x4, x5, x6, x7, x8, x9]) ?_ ?_ _ _ ⟨fun d hd => rg_in hd, _, _, _, _, _, _, _, rfl⟩
  · rintro d ds ρ ⟨hds, x3, x4, x5, x6, x7, x8, x9, rfl⟩
    obtain ⟨j, rfl, hj⟩ := hds d List.mem_cons_self
    walk_at "go"
    refine w_seqI ?_
    walk_at "go"
    refine ⟨_, rfl, ?_⟩
    refine w_loop (fun es ρ => ∃ (done rest : List (List St)) (x5 x6 : Option D), bs = done ++ rest ∧ es = bosD rest ∧ ρ = [some p, some (.tup [.tup ps, .tup ns, .tup (bosD bs)]), some (tabD t), some (.int (j : Nat)), some (.lst (done.map (gvT t j))), x5, x6, x7, x8, x9]) ?_ ?_ _ _ ⟨[], bs, _, _, rfl, rfl, rfl⟩
    · rintro d es ρ ⟨done, rest, x5, x6, e, e1, rfl⟩
      cases rest with
      | nil => cases e1
      | cons b rest =>
        obtain ⟨e2, e3⟩ := List.cons.inj (show d :: es = D.tup (boD b) :: bosD rest from e1)
        subst e2 e3
        have hbb := hbs b (by rw [e]; exact List.mem_append_right _ List.mem_cons_self)
        have hdl : done.length ≤ 100 := by
          have := congrArg List.length e
          rw [List.length_append] at this
          omega
        walk_at "go"
        refine Ok.mk (body_e' ht hj hbb (by omega) (by omega)) ?_
        walk_at "go"
        refine ⟨rfl, ?_⟩
        walk_at "go"
        refine figs_r' ht hj hb hbb (by omega) (by omega) fun lines' => ?_
        walk_at "go"
        refine same _ (pl_fi _) (by rw [wz_fi]; omega) ?_
        walk_at "go"
        refine ⟨by rw [show (D.tup ((gvB t j b).map fiD)).calm = D.calms ((gvB t j b).map fiD) from rfl]; exact calm_fis _, ?_⟩
        walk_at "go"
        refine ⟨by rw [List.length_map]; omega, ?_⟩
        refine ⟨done ++ [b], rest, _, _, by rw [e, List.append_assoc]; rfl, rfl, by rw [List.map_append]; rfl⟩
    · rintro ρ ⟨done, rest, x5, x6, e, e1, rfl⟩
      cases rest with
      | cons _ _ => cases e1
      | nil =>
        rw [List.append_nil] at e
        subst e
        walk_at "go"
        refine stats_r ht hj hbs (by omega) (by omega) (by omega) ?_
        walk_at "go"
        refine ⟨by rw [show (D.tup (bs.map (gvT t j))).calm = D.calms (bs.map (gvT t j)) from rfl]; exact calm_gvs _, ?_⟩
        walk_at "go"
        refine same _ (by show Pls _ = true; exact pl_gvs _) ?_ ?_
        · show 1 + wzS _ ≤ _
          have := wz_gvs (t := t) (p := j) bs fun b hb => (hbs b hb).sz
          have h2 : bs.length * (4 * N + 1) ≤ 100 * (4 * 400 + 1) := Nat.mul_le_mul hl (by omega)
          omega
        walk_at "go"
        exact ⟨fun d hd => hds d (List.mem_cons_of_mem _ hd), _, _, _, _, _, _, _, rfl⟩
  · rintro ρ ⟨hds, x3, x4, x5, x6, x7, x8, x9, rfl⟩
    walk_at "go"
    refine w_seqI ?_
    walk_at "go"
    refine ⟨_, rfl, ?_⟩
    rw [bosD_map]
    refine w_loop (fun es ρ => (∀ d ∈ es, ∃ b ∈ bs, d = .tup (boD b)) ∧ ∃ x3 x4 x5 x6 x7 x8 x9 : Option D, ρ = [some p, some (.tup [.tup ps, .tup ns, .tup (bosD bs)]), some (tabD t), x3, x4, x5, x6, x7, x8, x9]) ?_ ?_ _ _ ⟨fun d hd => by obtain ⟨b, hb, rfl⟩ := List.mem_map.mp hd; exact ⟨b, hb, rfl⟩, _, _, _, _, _, _, _, by rw [bosD_map]⟩
    · rintro d es ρ ⟨hds, x3, x4, x5, x6, x7, x8, x9, rfl⟩
      obtain ⟨b, hbm, rfl⟩ := hds d List.mem_cons_self
      have hds' := fun d hd => hds d (List.mem_cons_of_mem _ hd)
      have hbb := hbs b hbm
      walk_at "go"
      refine w_seqI ?_
      walk_at "go"
      refine ⟨_, rfl, ?_⟩
      rw [boD_map]
      refine w_loop (fun fs ρ => (∀ d ∈ fs, ∃ s ∈ b, d = stD s) ∧ ∃ x3 x4 x5 x6 x7 x8 x9 : Option D, ρ = [some p, some (.tup [.tup ps, .tup ns, .tup (bosD bs)]), some (tabD t), x3, x4, x5, x6, x7, x8, x9]) ?_ ?_ _ _ ⟨fun d hd => by obtain ⟨s, hs, rfl⟩ := List.mem_map.mp hd; exact ⟨s, hs, rfl⟩, _, _, _, _, _, _, _, rfl⟩
      · rintro d fs ρ ⟨hds, x3, x4, x5, x6, x7, x8, x9, rfl⟩
        obtain ⟨s, hsm, rfl⟩ := hds d List.mem_cons_self
        have hds'' := fun d hd => hds d (List.mem_cons_of_mem _ hd)
        obtain ⟨s1, s2, s3, s4⟩ := gb_in hbb s hsm
        have hin := gb_inner s1 s2 s3 s4
        walk_at "go"
        refine w_seqI ?_
        walk_at "go"
        refine Ok.mk (inner_e s) ?_
        walk_at "go"
        have hil := szBs_len (innerB s)
        have hiz := sz_inner s
        refine gAdd_tt (by rw [bosD_len]; show _ + 2 ≤ _; omega) ?_
        refine ⟨_, rfl, ?_⟩
        refine w_loop (fun fs ρ => (∀ d ∈ fs, ∃ b', d = .tup (boD b') ∧ GB ns.length ps.length (10 ^ 41) (2 * N + 1) Dp b') ∧ ∃ x3 x4 x5 x6 x7 x8 x9 : Option D, ρ = [some p, some (.tup [.tup ps, .tup ns, .tup (bosD bs)]), some (tabD t), x3, x4, x5, x6, x7, x8, x9]) ?_ ?_ _ _ ⟨fun d hd => ?_, _, _, _, _, _, _, _, rfl⟩
        · rintro d gs ρ ⟨hgs, x3, x4, x5, x6, x7, x8, x9, rfl⟩
          obtain ⟨b', rfl, hb'⟩ := hgs d List.mem_cons_self
          have hj : 0 < ps.length := by omega
          walk_at "go"
          refine Ok.mk (body_e' (p := 0) ht hj hb' (by omega) (by omega)) ?_
          walk_at "go"
          refine ⟨rfl, ?_⟩
          walk_at "go"
          refine figs_r' (p := 0) ht hj hb hb' (by omega) (by omega) fun lines' => ?_
          walk_at "go"
          refine same _ (pl_fi _) (by rw [wz_fi]; omega) ?_
          walk_at "go"
          exact ⟨fun d hd => hgs d (List.mem_cons_of_mem _ hd), _, _, _, _, _, _, _, rfl⟩
        · rintro ρ ⟨_, x3, x4, x5, x6, x7, x8, x9, rfl⟩
          walk_at "go"
          exact ⟨hds'', _, _, _, _, _, _, _, rfl⟩
        · rcases List.mem_append.mp hd with hd | hd
          · rw [bosD_map] at hd
            obtain ⟨c, hc, rfl⟩ := List.mem_map.mp hd
            have := hin c hc
            exact ⟨c, rfl, this.ok, this.cb, by have := this.sz; omega, this.dp⟩
          · rcases List.mem_cons.mp hd with rfl | hd
            · exact ⟨[s, .back], rfl, ⟨s1, trivial, trivial⟩, ⟨s2, trivial, trivial⟩, by show szS s + (1 + 0) ≤ _; omega, by show max (dpS s) (max 0 0) ≤ Dp; omega⟩
            · rw [List.mem_singleton.mp hd]
              exact ⟨[s, s], rfl, ⟨s1, s1, trivial⟩, ⟨s2, s2, trivial⟩, by rw [szB, szB, szB]; omega, by rw [dpB, dpB, dpB]; omega⟩
      · rintro ρ ⟨_, x3, x4, x5, x6, x7, x8, x9, rfl⟩
        walk_at "go"
        exact ⟨hds', _, _, _, _, _, _, _, rfl⟩
    · rintro ρ ⟨_, x3, x4, x5, x6, x7, x8, x9, rfl⟩
      walk_at "go"
      refine change_r hpo (by omega) (by omega) (by omega) (by omega) fun c p' hp' hc => ?_
      walk_at "go"
      have hcl : c.length = ps.length := by have := hc.1; omega
      refine w_rng1 ?_
      walk_at "go"
      refine ⟨by rw [List.length_map]; omega, by omega, ?_⟩
      rw [List.length_map]
      refine ⟨by rw [rgD_len]; omega, ?_⟩
      refine w_cmap (needD c) (fun d hd => ?_) ?_
      · obtain ⟨i, rfl, hi⟩ := rg_in hd
        walk_at "go"
        refine change_need_r hi ?_
        walk_at "go"
        exact ⟨rfl, rfl⟩
      walk_at "go"
      refine w_seqI ?_
      walk_at "go"
      refine ⟨_, rfl, by rw [List.length_map]; omega, ?_⟩
      refine w_cmap negD (fun d hd => ?_) ?_
      · obtain ⟨i, _, rfl⟩ := List.mem_map.mp hd
        walk_at "go"
        refine Ok.mk (a := .int (if -i > 0 then -i else 0)) rfl ?_
        walk_at "go"
        exact ⟨rfl, rfl⟩
      walk_at "go"
      rw [need_eq]
      refine same _ (by show Pls _ = true; rw [neg_map]; exact change_pl _) (by show 1 + wzS _ ≤ _; rw [neg_map, change_wz, List.length_map]; omega) ?_
      walk_at "go"
      exact k p' hp'
end K10
namespace K10
local macro_rules | `(tactic| walk_at "st") => `(tactic| with_reducible first | refine low_sum_r ?_ | refine low_rank_r ?_ | refine key_lt ?_ | refine low_less_r ?_ | refine least2 ?_ | refine word_upto ?_ | refine word_in ?_)
local macro_rules | `(tactic| walk_at "st") => `(tactic| first
  | ((with_reducible show Ok (gEq (D.str (PySem.Str.ofString _)) (D.str (PySem.Str.ofString _))) _); first | refine Ok.mk (a := D.bl true) rfl ?_ | refine Ok.mk (a := D.bl false) rfl ?_)
  | ((with_reducible show Ok (gIn false (D.str (PySem.Str.ofString _)) (D.tup _)) _); first | refine Ok.mk (a := D.bl true) rfl ?_ | refine Ok.mk (a := D.bl false) rfl ?_)
  | ((with_reducible show Ok (gIn false (D.str (PySem.Str.ofString _)) (D.tup _)) _); first | refine Ok.mk (a := D.bl true) rfl ?_ | refine Ok.mk (a := D.bl false) rfl ?_)
  | ((with_reducible show Ok (gtTup _ _ (D.tup [_, _, _]) _) _); refine Ok.mk rfl ?_)
  | ((with_reducible show Ok (gtTup _ _ (fiD _) _) _); refine Ok.mk rfl ?_))
def hand (n : Int) : List (List St × Fi) :=
  [([], .num (0), .num (0), .never),
   ([.chg [-1], .chg [2]], .num (1), .num (1), .never),
   ([.chg [2], .chg [-1], .chg [-1], .chg [-1]], .num (1), .num (-1), .never),
   ([.back, .chg [-1]], .num (0), .never, .num (0)),
   ([.stop, .chg [-1]], .num (0), .never, .never),
   ([.chg [-1], .back], .num (1), .never, .num (-1)),
   ([.loop [.chg [-1], .chg [2]]], .num (1), .num (0), .never),
   ([.loop [.chg [-1]]], .deep, .deep, .never),
   ([.loop [.chg [-1], .eit [[.back], []]]], .deep, .deep, .deep),
   ([.rep false 0 [.chg [-1]]], .num (0), .num (0), .never),
   ([.rep false n [.chg [-1]]], .num (n), .num (-n), .never),
   ([.rep true n [.chg [-1]]], .num (n), .num (-n), .never),
   ([.rep true n [.chg [2]]], .num (0), .num (0), .never),
   ([.rep false n [.chg [2], .chg [-1], .chg [-1], .chg [-1]]], .num (n), .num (-n), .never),
   ([.rep false n [.chg [-1], .chg [2]]], .num (1), .num (n), .never),
   ([.rep false n [.eit [[.chg [-1], .back], [.chg [-1]]]]], .num (n), .num (-n), .num (-n)),
   ([.rep true n [.back]], .num (0), .num (0), .num (0)),
   ([.rep false n [.stop]], .num (0), .never, .never),
   ([.call 0, .chg [-1]], .num (5), .num (-4), .never),
   ([.call 1, .chg [-1]], .deep, .never, .never),
   ([.call 2, .chg [2]], .deep, .deep, .never),
   ([.call 2, .chg [-1]], .deep, .deep, .never),
   ([.call 3, .call 0], .num (7), .num (1), .never),
   ([.loop [.call 3, .chg [-1]]], .num (7), .num (0), .never),
   ([.loop [.call 0]], .deep, .deep, .never),
   ([.loop [.call 1]], .deep, .num (0), .never),
   ([.eit [[.chg [-1], .back], [.chg [2]], [.stop]]], .num (1), .num (2), .num (-1)),
   ([.rep false n [.call 2]], .deep, .deep, .never),
   ([.rep false 1 [.call 2]], .deep, .deep, .never),
   ([.rep true n [.call 1]], .deep, .num (0), .never)]
noncomputable def casesE : Ev → Res (D × Ev) :=
  (dLst (dCons (dTup (dCons (dTup dNil) (dCons (dTup (dCons (dConst (.int 0)) (dCons (dConst (.int 0)) (dCons (dConst (.str "never")) dNil)))) dNil))) (dCons (dTup (dCons (dTup (dCons (dVar 2) (dCons (dVar 3) dNil))) (dCons (dTup (dCons (dConst (.int 1)) (dCons (dConst (.int 1)) (dCons (dConst (.str "never")) dNil)))) dNil))) (dCons (dTup (dCons (dTup (dCons (dVar 3) (dCons (dVar 2) (dCons (dVar 2) (dCons (dVar 2) dNil))))) (dCons (dTup (dCons (dConst (.int 1)) (dCons (dUn gNeg (dConst (.int 1))) (dCons (dConst (.str "never")) dNil)))) dNil))) (dCons (dTup (dCons (dTup (dCons (dTup (dCons (dConst (.str "back")) dNil)) (dCons (dVar 2) dNil))) (dCons (dTup (dCons (dConst (.int 0)) (dCons (dConst (.str "never")) (dCons (dConst (.int 0)) dNil)))) dNil))) (dCons (dTup (dCons (dTup (dCons (dTup (dCons (dConst (.str "stop")) dNil)) (dCons (dVar 2) dNil))) (dCons (dTup (dCons (dConst (.int 0)) (dCons (dConst (.str "never")) (dCons (dConst (.str "never")) dNil)))) dNil))) (dCons (dTup (dCons (dTup (dCons (dVar 2) (dCons (dTup (dCons (dConst (.str "back")) dNil)) dNil))) (dCons (dTup (dCons (dConst (.int 1)) (dCons (dConst (.str "never")) (dCons (dUn gNeg (dConst (.int 1))) dNil)))) dNil))) (dCons (dTup (dCons (dTup (dCons (dTup (dCons (dConst (.str "loop")) (dCons (dTup (dCons (dVar 2) (dCons (dVar 3) dNil))) dNil))) dNil)) (dCons (dTup (dCons (dConst (.int 1)) (dCons (dConst (.int 0)) (dCons (dConst (.str "never")) dNil)))) dNil))) (dCons (dTup (dCons (dTup (dCons (dTup (dCons (dConst (.str "loop")) (dCons (dTup (dCons (dVar 2) dNil)) dNil))) dNil)) (dCons (dTup (dCons (dConst (.str "deep")) (dCons (dConst (.str "deep")) (dCons (dConst (.str "never")) dNil)))) dNil))) (dCons (dTup (dCons (dTup (dCons (dTup (dCons (dConst (.str "loop")) (dCons (dTup (dCons (dVar 2) (dCons (dTup (dCons (dConst (.str "either")) (dCons (dTup (dCons (dTup (dCons (dTup (dCons (dConst (.str "back")) dNil)) dNil)) (dCons (dTup dNil) dNil))) dNil))) dNil))) dNil))) dNil)) (dCons (dTup (dCons (dConst (.str "deep")) (dCons (dConst (.str "deep")) (dCons (dConst (.str "deep")) dNil)))) dNil))) (dCons (dTup (dCons (dTup (dCons (dTup (dCons (dConst (.str "repeat")) (dCons (dConst (.int 0)) (dCons (dTup (dCons (dVar 2) dNil)) dNil)))) dNil)) (dCons (dTup (dCons (dConst (.int 0)) (dCons (dConst (.int 0)) (dCons (dConst (.str "never")) dNil)))) dNil))) (dCons (dTup (dCons (dTup (dCons (dTup (dCons (dConst (.str "repeat")) (dCons (dVar 1) (dCons (dTup (dCons (dVar 2) dNil)) dNil)))) dNil)) (dCons (dTup (dCons (dVar 1) (dCons (dUn gNeg (dVar 1)) (dCons (dConst (.str "never")) dNil)))) dNil))) (dCons (dTup (dCons (dTup (dCons (dTup (dCons (dConst (.str "upto")) (dCons (dVar 1) (dCons (dTup (dCons (dVar 2) dNil)) dNil)))) dNil)) (dCons (dTup (dCons (dVar 1) (dCons (dUn gNeg (dVar 1)) (dCons (dConst (.str "never")) dNil)))) dNil))) (dCons (dTup (dCons (dTup (dCons (dTup (dCons (dConst (.str "upto")) (dCons (dVar 1) (dCons (dTup (dCons (dVar 3) dNil)) dNil)))) dNil)) (dCons (dTup (dCons (dConst (.int 0)) (dCons (dConst (.int 0)) (dCons (dConst (.str "never")) dNil)))) dNil))) (dCons (dTup (dCons (dTup (dCons (dTup (dCons (dConst (.str "repeat")) (dCons (dVar 1) (dCons (dTup (dCons (dVar 3) (dCons (dVar 2) (dCons (dVar 2) (dCons (dVar 2) dNil))))) dNil)))) dNil)) (dCons (dTup (dCons (dVar 1) (dCons (dUn gNeg (dVar 1)) (dCons (dConst (.str "never")) dNil)))) dNil))) (dCons (dTup (dCons (dTup (dCons (dTup (dCons (dConst (.str "repeat")) (dCons (dVar 1) (dCons (dTup (dCons (dVar 2) (dCons (dVar 3) dNil))) dNil)))) dNil)) (dCons (dTup (dCons (dConst (.int 1)) (dCons (dVar 1) (dCons (dConst (.str "never")) dNil)))) dNil))) (dCons (dTup (dCons (dTup (dCons (dTup (dCons (dConst (.str "repeat")) (dCons (dVar 1) (dCons (dTup (dCons (dTup (dCons (dConst (.str "either")) (dCons (dTup (dCons (dTup (dCons (dVar 2) (dCons (dTup (dCons (dConst (.str "back")) dNil)) dNil))) (dCons (dTup (dCons (dVar 2) dNil)) dNil))) dNil))) dNil)) dNil)))) dNil)) (dCons (dTup (dCons (dVar 1) (dCons (dUn gNeg (dVar 1)) (dCons (dUn gNeg (dVar 1)) dNil)))) dNil))) (dCons (dTup (dCons (dTup (dCons (dTup (dCons (dConst (.str "upto")) (dCons (dVar 1) (dCons (dTup (dCons (dTup (dCons (dConst (.str "back")) dNil)) dNil)) dNil)))) dNil)) (dCons (dTup (dCons (dConst (.int 0)) (dCons (dConst (.int 0)) (dCons (dConst (.int 0)) dNil)))) dNil))) (dCons (dTup (dCons (dTup (dCons (dTup (dCons (dConst (.str "repeat")) (dCons (dVar 1) (dCons (dTup (dCons (dTup (dCons (dConst (.str "stop")) dNil)) dNil)) dNil)))) dNil)) (dCons (dTup (dCons (dConst (.int 0)) (dCons (dConst (.str "never")) (dCons (dConst (.str "never")) dNil)))) dNil))) (dCons (dTup (dCons (dTup (dCons (dTup (dCons (dConst (.str "call")) (dCons (dConst (.int 0)) dNil))) (dCons (dVar 2) dNil))) (dCons (dTup (dCons (dConst (.int 5)) (dCons (dUn gNeg (dConst (.int 4))) (dCons (dConst (.str "never")) dNil)))) dNil))) (dCons (dTup (dCons (dTup (dCons (dTup (dCons (dConst (.str "call")) (dCons (dConst (.int 1)) dNil))) (dCons (dVar 2) dNil))) (dCons (dTup (dCons (dConst (.str "deep")) (dCons (dConst (.str "never")) (dCons (dConst (.str "never")) dNil)))) dNil))) (dCons (dTup (dCons (dTup (dCons (dTup (dCons (dConst (.str "call")) (dCons (dConst (.int 2)) dNil))) (dCons (dVar 3) dNil))) (dCons (dTup (dCons (dConst (.str "deep")) (dCons (dConst (.str "deep")) (dCons (dConst (.str "never")) dNil)))) dNil))) (dCons (dTup (dCons (dTup (dCons (dTup (dCons (dConst (.str "call")) (dCons (dConst (.int 2)) dNil))) (dCons (dVar 2) dNil))) (dCons (dTup (dCons (dConst (.str "deep")) (dCons (dConst (.str "deep")) (dCons (dConst (.str "never")) dNil)))) dNil))) (dCons (dTup (dCons (dTup (dCons (dTup (dCons (dConst (.str "call")) (dCons (dConst (.int 3)) dNil))) (dCons (dTup (dCons (dConst (.str "call")) (dCons (dConst (.int 0)) dNil))) dNil))) (dCons (dTup (dCons (dConst (.int 7)) (dCons (dConst (.int 1)) (dCons (dConst (.str "never")) dNil)))) dNil))) (dCons (dTup (dCons (dTup (dCons (dTup (dCons (dConst (.str "loop")) (dCons (dTup (dCons (dTup (dCons (dConst (.str "call")) (dCons (dConst (.int 3)) dNil))) (dCons (dVar 2) dNil))) dNil))) dNil)) (dCons (dTup (dCons (dConst (.int 7)) (dCons (dConst (.int 0)) (dCons (dConst (.str "never")) dNil)))) dNil))) (dCons (dTup (dCons (dTup (dCons (dTup (dCons (dConst (.str "loop")) (dCons (dTup (dCons (dTup (dCons (dConst (.str "call")) (dCons (dConst (.int 0)) dNil))) dNil)) dNil))) dNil)) (dCons (dTup (dCons (dConst (.str "deep")) (dCons (dConst (.str "deep")) (dCons (dConst (.str "never")) dNil)))) dNil))) (dCons (dTup (dCons (dTup (dCons (dTup (dCons (dConst (.str "loop")) (dCons (dTup (dCons (dTup (dCons (dConst (.str "call")) (dCons (dConst (.int 1)) dNil))) dNil)) dNil))) dNil)) (dCons (dTup (dCons (dConst (.str "deep")) (dCons (dConst (.int 0)) (dCons (dConst (.str "never")) dNil)))) dNil))) (dCons (dTup (dCons (dTup (dCons (dTup (dCons (dConst (.str "either")) (dCons (dTup (dCons (dTup (dCons (dVar 2) (dCons (dTup (dCons (dConst (.str "back")) dNil)) dNil))) (dCons (dTup (dCons (dVar 3) dNil)) (dCons (dTup (dCons (dTup (dCons (dConst (.str "stop")) dNil)) dNil)) dNil)))) dNil))) dNil)) (dCons (dTup (dCons (dConst (.int 1)) (dCons (dConst (.int 2)) (dCons (dUn gNeg (dConst (.int 1))) dNil)))) dNil))) (dCons (dTup (dCons (dTup (dCons (dTup (dCons (dConst (.str "repeat")) (dCons (dVar 1) (dCons (dTup (dCons (dTup (dCons (dConst (.str "call")) (dCons (dConst (.int 2)) dNil))) dNil)) dNil)))) dNil)) (dCons (dTup (dCons (dConst (.str "deep")) (dCons (dConst (.str "deep")) (dCons (dConst (.str "never")) dNil)))) dNil))) (dCons (dTup (dCons (dTup (dCons (dTup (dCons (dConst (.str "repeat")) (dCons (dConst (.int 1)) (dCons (dTup (dCons (dTup (dCons (dConst (.str "call")) (dCons (dConst (.int 2)) dNil))) dNil)) dNil)))) dNil)) (dCons (dTup (dCons (dConst (.str "deep")) (dCons (dConst (.str "deep")) (dCons (dConst (.str "never")) dNil)))) dNil))) (dCons (dTup (dCons (dTup (dCons (dTup (dCons (dConst (.str "upto")) (dCons (dVar 1) (dCons (dTup (dCons (dTup (dCons (dConst (.str "call")) (dCons (dConst (.int 1)) dNil))) dNil)) dNil)))) dNil)) (dCons (dTup (dCons (dConst (.str "deep")) (dCons (dConst (.int 0)) (dCons (dConst (.str "never")) dNil)))) dNil))) dNil)))))))))))))))))))))))))))))))
noncomputable def tableE : Ev → Res (D × Ev) :=
  (dTup (dCons (dTup (dCons (dTup (dCons (dConst (.int 5)) (dCons (dUn gNeg (dConst (.int 3))) dNil))) dNil)) (dCons (dTup (dCons (dTup (dCons (dConst (.str "deep")) (dCons (dConst (.str "never")) dNil))) dNil)) (dCons (dTup (dCons (dTup (dCons (dConst (.int 0)) (dCons (dConst (.str "deep")) dNil))) dNil)) (dCons (dTup (dCons (dTup (dCons (dConst (.int 7)) (dCons (dConst (.int 4)) dNil))) dNil)) dNil)))))
theorem hand_eq : F__law_hand = mkF 9 [1] none
  ((sSeq (sSet 1 (dOp gAdd (dConst (.int 2)) (dCall [.io 0, .s] F__law_take (aIO 0 (aS (dConst (.int 999)) aNil)))))
  (sSeq (sAsg (dTup (dCons (dTup (dCons (dConst (.str "change")) (dCons (dTup (dCons (dUn gNeg (dConst (.int 1))) dNil)) dNil))) (dCons (dTup (dCons (dConst (.str "change")) (dCons (dTup (dCons (dConst (.int 2)) dNil)) dNil))) dNil))) (gtTup 2 (gtCons (gtName 2) (gtCons (gtName 3) gtNil))))
  (sSeq (sSet 4 tableE)
  (sSeq (sSet 5 casesE)
  (sSeq (sSet 6 (dCall [.io 0, .s] F__law_take (aIO 0 (aS (dCallB gLen (dCons (dVar 5) dNil)) aNil))))
  (sSeq (sFor (dSeqI (dSl gCutL (dOp gCat (dVar 5) (dVar 5)) (dPart (dVar 6)) (dPart (dOp gAdd (dVar 6) (dConst (.int 12)))))) (gtTup 2 (gtCons (gtName 7) (gtCons (gtName 8) gtNil)))
  (sIf (dNot (dTru (dCall [.s, .s] F__law_same (aS (dTup (dCons (dCall [.s, .s, .s] (F_body_figures 60) (aS (dVar 4) (aS (dVar 7) (aS (dConst (.int 0)) aNil)))) (dCons (dCall2 9 [.s, .s, .s, .fr, .fr] F__law_figures (a2S (dVar 7) (a2S (dVar 4) (a2S (dConst (.int 0)) (a2F (dLst dNil) (a2F (dLst dNil) a2Nil)))))) dNil))) (aS (dTup (dCons (dVar 8) (dCons (dVar 8) dNil))) aNil)))))
  (sRet (dConst (.bl false)))
  sNil))
  (sRet (dConst (.bl true)))))))))) := rfl

abbrev handT : List (List Pr) := [[(.num 5, .num (-3))], [(.deep, .never)], [(.num 0, .deep)], [(.num 7, .num 4)]]
def hcD (x : List St × Fi) : D := .tup [.tup (boD x.1), fiD x.2]
theorem casesE_eq (p z : D) (n : Int) (r : List (Option D)) : casesE (some p :: some (.int n) :: some (.tup [.str "change", .tup [.int (-1)]]) :: some (.tup [.str "change", .tup [.int 2]]) :: some z :: r) = .ok (.lst ((hand n).map hcD), some p :: some (.int n) :: some (.tup [.str "change", .tup [.int (-1)]]) :: some (.tup [.str "change", .tup [.int 2]]) :: some z :: r) := rfl
theorem tableE_eq (ρ : Ev) : tableE ρ = .ok (tabD handT, ρ) := rfl
instance : DecidableEq Fg := fun a b => match a, b with
  | .deep, .deep => isTrue rfl
  | .never, .never => isTrue rfl
  | .num i, .num j => if h : i = j then isTrue (by rw [h]) else isFalse fun e => h (by cases e; rfl)
  | .deep, .never => isFalse fun e => nomatch e
  | .deep, .num _ => isFalse fun e => nomatch e
  | .never, .deep => isFalse fun e => nomatch e
  | .never, .num _ => isFalse fun e => nomatch e
  | .num _, .deep => isFalse fun e => nomatch e
  | .num _, .never => isFalse fun e => nomatch e
def handOk (n : Int) : Bool := (hand n).all fun x => decide (figB handT 0 fi0 x.1 = x.2)
theorem hand_ok : ∀ i : Fin 999, handOk (2 + (i.val : Nat)) = true := by decide +kernel
end K10
namespace K10
local macro_rules | `(tactic| walk_at "st") => `(tactic| with_reducible first | refine low_sum_r ?_ | refine low_rank_r ?_ | refine key_lt ?_ | refine low_less_r ?_ | refine least2 ?_ | refine word_upto ?_ | refine word_in ?_)
local macro_rules | `(tactic| walk_at "st") => `(tactic| first
  | ((with_reducible show Ok (gEq (D.str (PySem.Str.ofString _)) (D.str (PySem.Str.ofString _))) _); first | refine Ok.mk (a := D.bl true) rfl ?_ | refine Ok.mk (a := D.bl false) rfl ?_)
  | ((with_reducible show Ok (gIn false (D.str (PySem.Str.ofString _)) (D.tup _)) _); first | refine Ok.mk (a := D.bl true) rfl ?_ | refine Ok.mk (a := D.bl false) rfl ?_)
  | ((with_reducible show Ok (gIn false (D.str (PySem.Str.ofString _)) (D.tup _)) _); first | refine Ok.mk (a := D.bl true) rfl ?_ | refine Ok.mk (a := D.bl false) rfl ?_)
  | ((with_reducible show Ok (gtTup _ _ (D.tup [_, _, _]) _) _); refine Ok.mk rfl ?_)
  | ((with_reducible show Ok (gtTup _ _ (fiD _) _) _); refine Ok.mk rfl ?_))
theorem gbs_mem {q m N Dp : Nat} {C : Int} : ∀ bs : List (List St), okBs q m bs → cbBs C bs → szBs bs ≤ N → dpBs bs ≤ Dp → ∀ b ∈ bs, GB q m C N Dp b
  | [], _, _, _, _, b, hb => by cases hb
  | x :: bs, h1, h2, h3, h4, b, hb => by
    rw [szBs] at h3
    rw [dpBs] at h4
    rcases List.mem_cons.mp hb with rfl | hb
    · exact ⟨h1.1, h2.1, by omega, by omega⟩
    · exact gbs_mem bs h1.2 h2.2 (by omega) (by omega) b hb
abbrev handB (n : Int) : List (List St) := (hand n).map (·.1)
theorem hand_okBs {n : Int} (h0 : 0 ≤ n) (h1 : n ≤ 1000) : okBs 4 1 (handB n) := by
  simp [handB, hand, okBs, okB, okS, h0, h1]
theorem hand_cbBs (n : Int) : cbBs (10 ^ 41) (handB n) := by
  simp only [handB, hand, List.map_cons, List.map_nil, cbBs, cbB, cbS, List.mem_cons, List.not_mem_nil, or_false, forall_eq, and_true, true_and]
  decide
theorem hand_sz (n : Int) : szBs (handB n) ≤ 200 := by
  simp [handB, hand, szBs, szB, szS]
theorem hand_dp (n : Int) : dpBs (handB n) ≤ 18 := by
  simp [handB, hand, dpBs, dpB, dpS]
theorem handT_ok : tbOk handT 4 1 := ⟨rfl, by simp [handT, Fg.nd]⟩
theorem handT_bd : tbBd (10 ^ 41) handT := by
  unfold tbBd
  simp only [handT, List.mem_cons, List.not_mem_nil, or_false, forall_eq_or_imp, forall_eq, bdF]
  decide
theorem hand_mem {n : Int} (h0 : 2 ≤ n) (h1 : n ≤ 1000) : ∀ x ∈ hand n, GB 4 1 (10 ^ 41) 200 18 x.1 ∧ figB handT 0 fi0 x.1 = x.2 := by
  intro x hx
  refine ⟨gbs_mem _ (hand_okBs (by omega) h1) (hand_cbBs n) (hand_sz n) (hand_dp n) x.1 (List.mem_map.mpr ⟨x, hx, rfl⟩), ?_⟩
  have h := hand_ok ⟨(n - 2).toNat, by omega⟩
  rw [show (2 + ((n - 2).toNat : Nat) : Int) = n by omega] at h
  exact of_decide_eq_true (List.all_eq_true.mp h x hx)
theorem hand_r {p : D} (hp : Po p) {Q : D × List D → Prop} (k : ∀ p', Po p' → Q (.bl true, [p'])) : Ok (F__law_hand [p]) Q := by
  rw [hand_eq]
  walk_at "go"
  refine take2 hp (by omega) (by omega) fun v p1 hp1 v0 v1 => ?_
  walk_at "go"
  refine Ok.mk (tableE_eq _) ?_
  walk_at "go"
  refine Ok.mk (casesE_eq _ _ _ _) ?_
  walk_at "go"
  have hlen : (hand (2 + v)).length = 30 := rfl
  have hmem := hand_mem (n := 2 + v) (by omega) (by omega)
  generalize hand (2 + v) = hs at hlen hmem ⊢
  rw [List.length_map, hlen]
  refine take2 hp1 (by omega) (by omega) fun u p2 hp2 u0 u1 => ?_
  walk_at "go"
  refine w_seqI ?_
  walk_at "go"
  refine g_cat (by rw [List.length_map, hlen]; omega) ?_
  walk_at "go"
  refine gSl_l ?_
  refine ⟨_, rfl, ?_⟩
  refine w_loop (fun ds ρ => (∀ d ∈ ds, ∃ x ∈ hs, d = hcD x) ∧ ∃ x7 x8 : Option D, ρ = [some p2, some (.int (2 + v)), some (.tup [.str "change", .tup [.int (-1)]]), some (.tup [.str "change", .tup [.int 2]]), some (tabD handT), some (.lst (hs.map hcD)), some (.int u), x7, x8]) ?_ ?_ _ _ ⟨fun d hd => ?_, none, none, rfl⟩
  · rintro d ds ρ ⟨hds, x7, x8, rfl⟩
    obtain ⟨⟨b, f⟩, hx, rfl⟩ := hds d List.mem_cons_self
    obtain ⟨hb, hf⟩ := hmem _ hx
    unfold hcD
    walk_at "go"
    refine Ok.mk (body_e' (p := 0) handT_ok (by omega) hb (by omega) (by omega)) ?_
    walk_at "go"
    refine ⟨rfl, ?_⟩
    walk_at "go"
    refine figs_r' (p := 0) handT_ok (by omega) handT_bd hb (by omega) (by omega) fun lines' => ?_
    walk_at "go"
    rw [show figB handT 0 fi0 b = f from hf]
    refine same _ (by show (Pl (fiD f) && (Pl (fiD f) && true)) = true; rw [pl_fi]; rfl) (by show 1 + (wzD (fiD f) + (wzD (fiD f) + 0)) ≤ _; rw [wz_fi]; omega) ?_
    walk_at "go"
    exact ⟨fun d hd => hds d (List.mem_cons_of_mem _ hd), _, _, rfl⟩
  · rintro ρ ⟨hds, x7, x8, rfl⟩
    walk_at "go"
    exact k p2 hp2
  · have : d ∈ hs.map hcD ++ hs.map hcD := by
      unfold cutL at hd
      exact List.mem_of_mem_drop (List.mem_of_mem_take hd)
    rcases List.mem_append.mp this with h | h
    · obtain ⟨x, hx, rfl⟩ := List.mem_map.mp h
      exact ⟨x, hx, rfl⟩
    · obtain ⟨x, hx, rfl⟩ := List.mem_map.mp h
      exact ⟨x, hx, rfl⟩
end K10
namespace K10
local macro_rules | `(tactic| walk_at "st") => `(tactic| with_reducible first | refine low_sum_r ?_ | refine low_rank_r ?_ | refine key_lt ?_ | refine low_less_r ?_ | refine least2 ?_ | refine word_upto ?_ | refine word_in ?_)
local macro_rules | `(tactic| walk_at "st") => `(tactic| first
  | ((with_reducible show Ok (gEq (D.str (PySem.Str.ofString _)) (D.str (PySem.Str.ofString _))) _); first | refine Ok.mk (a := D.bl true) rfl ?_ | refine Ok.mk (a := D.bl false) rfl ?_)
  | ((with_reducible show Ok (gIn false (D.str (PySem.Str.ofString _)) (D.tup _)) _); first | refine Ok.mk (a := D.bl true) rfl ?_ | refine Ok.mk (a := D.bl false) rfl ?_)
  | ((with_reducible show Ok (gIn false (D.str (PySem.Str.ofString _)) (D.tup _)) _); first | refine Ok.mk (a := D.bl true) rfl ?_ | refine Ok.mk (a := D.bl false) rfl ?_)
  | ((with_reducible show Ok (gtTup _ _ (D.tup [_, _, _]) _) _); refine Ok.mk rfl ?_)
  | ((with_reducible show Ok (gtTup _ _ (fiD _) _) _); refine Ok.mk rfl ?_))
theorem tb_of {t : List (List Pr)} {q m : Nat} (h : t.length = q) (hr : ∀ r ∈ t, rOk m r) : tbOk t q m ∧ tbBd (10 ^ 41) t :=
  ⟨⟨h, fun r hr' => ⟨(hr r hr').1, fun x hx => ((hr r hr').2 x hx).1⟩⟩, fun r hr' x hx => ⟨((hr r hr').2 x hx).2.1, ((hr r hr').2 x hx).2.2⟩⟩
theorem law_true : ∀ ns : List Int, ns.length ≤ 63 → ∃ o, F_law [.lst (ns.map .int)] = .ok (.bl true, o) := by
  intro ns hl
  suffices h : Ok (F_law [.lst (ns.map .int)]) fun r => r.1 = .bl true by
    obtain ⟨⟨d, o⟩, e, h⟩ := h
    exact ⟨o, by rw [e]; cases h; rfl⟩
  unfold F_law
  walk_at "go"
  refine pool_r hl fun p hp => ?_
  walk_at "go"
  refine w_rng1 ?_
  walk_at "go"
  refine ⟨by omega, by omega, ?_⟩
  refine w_loop (fun ds ρ => ∃ (p : D) (x2 x3 : Option D), Po p ∧ ρ = [some (.lst (ns.map .int)), some p, x2, x3, none, none, none, none]) ?_ ?_ _ _ ⟨p, _, _, hp, rfl⟩
  · rintro d ds ρ ⟨p, x2, x3, hp, rfl⟩
    walk_at "go"
    refine program_r (most := 4) (size := 7) (deep := 4) (C := 10 ^ 41) hp (by decide) (by omega) (by omega) (by omega) (by omega) (by omega) (by omega) fun ps ms bs p1 hp1 q1 q2 q3 q4 q5 q6 => ?_
    walk_at "go"
    refine table_r hp1 (by omega) (by omega) fun t p2 hp2 ht1 ht2 => ?_
    walk_at "go"
    obtain ⟨k1, k2⟩ := tb_of ht1 ht2
    refine asked_r hp2 (by omega) (by omega) k1 k2 q6 (by omega) (by omega) (by omega) fun p3 hp3 => ?_
    walk_at "go"
    exact ⟨p3, _, _, hp3, rfl⟩
  · rintro ρ ⟨p, x2, x3, hp, rfl⟩
    walk_at "go"
    refine take2 hp (by omega) (by omega) fun v p1 hp1 v0 v1 => ?_
    walk_at "go"
    refine w_rng1 ?_
    walk_at "go"
    refine ⟨by omega, by omega, ?_⟩
    refine w_loop (fun ds ρ => ∃ (p : D) (b : List St) (x2 x5 x6 : Option D), Po p ∧ okB 1 1 b ∧ cbB (10 ^ 41) b ∧ szB b + 6 * ds.length ≤ 80 ∧ dpB b + ds.length ≤ 11 ∧ ρ = [some (.lst (ns.map .int)), some p, x2, x3, some (.tup (boD b)), x5, x6, none]) ?_ ?_ _ _ ⟨p1, [.chg [v - 3]], _, _, _, hp1, ⟨rfl, trivial⟩, ⟨?_, trivial⟩, by rw [rgD_len]; show 1 + 0 + 6 * 11 ≤ 80; omega, by rw [rgD_len]; show max 0 0 + 11 ≤ 11; omega, rfl⟩
    · rintro d ds ρ ⟨p, b, x2, x5, x6, hp, b1, b2, b3, b4, rfl⟩
      rw [List.length_cons] at b3 b4
      walk_at "go"
      refine take2 hp (by omega) (by omega) fun way p1 hp1 w0 w1 => ?_
      walk_at "go"
      refine take2 hp1 (by omega) (by omega) fun u p2 hp2 u0 u1 => ?_
      walk_at "go"
      have hch : ∀ x ∈ [u - 2], -(10 ^ 41 : Int) ≤ x ∧ x ≤ 10 ^ 41 := fun x hx => by
        rw [List.mem_singleton.mp hx]
        constructor <;> omega
      have nb : ∀ s : St, okS 1 1 s → cbS (10 ^ 41) s → szS s ≤ 4 + szB b → dpS s ≤ 1 + dpB b → okB 1 1 [s, .chg [u - 2]] ∧ cbB (10 ^ 41) [s, .chg [u - 2]] ∧ szB [s, .chg [u - 2]] + 6 * ds.length ≤ 80 ∧ dpB [s, .chg [u - 2]] + ds.length ≤ 11 := fun s h1 h2 h3 h4 => ⟨⟨h1, rfl, trivial⟩, ⟨h2, hch, trivial⟩, by show szS s + (1 + 0) + _ ≤ _; omega, by show max (dpS s) (max 0 0) + _ ≤ _; omega⟩
      refine ited (fun c1 => ?_) (fun c1 => ?_)
      · walk_at "go"
        refine gAdd_tt (by show 1 + 1 ≤ _; omega) ?_
        obtain ⟨n1, n2, n3, n4⟩ := nb (.eit [[.call 0], b]) ⟨by simp, ⟨by show 0 < 1; omega, trivial⟩, b1, trivial⟩ ⟨⟨trivial, trivial⟩, b2, trivial⟩ (by show 1 + (1 + (1 + 0) + (1 + szB b + 0)) ≤ _; omega) (by show 1 + max (max 0 0) (max (dpB b) 0) ≤ _; omega)
        exact ⟨_, _, _, _, _, hp2, n1, n2, n3, n4, rfl⟩
      walk_at "go"
      refine ited (fun c2 => ?_) (fun c2 => ?_)
      · walk_at "go"
        refine gAdd_tt (by show 1 + 1 ≤ _; omega) ?_
        obtain ⟨n1, n2, n3, n4⟩ := nb (.loop b) b1 b2 (by show 1 + szB b ≤ _; omega) (by show 1 + dpB b ≤ _; omega)
        exact ⟨_, _, _, _, _, hp2, n1, n2, n3, n4, rfl⟩
      walk_at "go"
      have hw : way = 2 ∨ way = 3 := by omega
      rcases hw with rfl | rfl
      · refine gIx_t (d := .str "repeat") rfl ?_
        walk_at "go"
        refine take2 hp2 (by omega) (by omega) fun nn p3 hp3 n0 n1 => ?_
        walk_at "go"
        refine gAdd_tt (by show 1 + 1 ≤ _; omega) ?_
        obtain ⟨n1, n2, n3, n4⟩ := nb (.rep false nn b) ⟨n0, by omega, b1⟩ b2 (by show 1 + szB b ≤ _; omega) (by show 1 + dpB b ≤ _; omega)
        exact ⟨_, _, _, _, _, hp3, n1, n2, n3, n4, rfl⟩
      · refine gIx_t (d := .str "upto") rfl ?_
        walk_at "go"
        refine take2 hp2 (by omega) (by omega) fun nn p3 hp3 n0 n1 => ?_
        walk_at "go"
        refine gAdd_tt (by show 1 + 1 ≤ _; omega) ?_
        obtain ⟨n1, n2, n3, n4⟩ := nb (.rep true nn b) ⟨n0, by omega, b1⟩ b2 (by show 1 + szB b ≤ _; omega) (by show 1 + dpB b ≤ _; omega)
        exact ⟨_, _, _, _, _, hp3, n1, n2, n3, n4, rfl⟩
    · rintro ρ ⟨p, b, x2, x5, x6, hp, b1, b2, b3, b4, rfl⟩
      rw [List.length_nil] at b3 b4
      walk_at "go"
      refine table_r (ps := [D.str "a"]) (qs := [D.str "main"]) hp (by decide) (by decide) fun t p2 hp2 ht1 ht2 => ?_
      walk_at "go"
      obtain ⟨k1, k2⟩ := tb_of ht1 ht2
      refine asked_r (ps := [D.str "a"]) (ns := [D.str "main"]) (bs := [b]) (N := 80) (Dp := 11) hp2 (by decide) (by decide) k1 k2 (fun c hc => ?_) (by omega) (by omega) (by show 1 ≤ 100; omega) fun p3 hp3 => ?_
      · rw [List.mem_singleton.mp hc]
        exact ⟨b1, b2, by omega, by omega⟩
      walk_at "go"
      refine take2 hp3 (by omega) (by omega) fun w p4 hp4 w0 w1 => ?_
      walk_at "go"
      refine ite2 (fun hw => ?_) (fun hw => ?_)
      · walk_at "go"
        refine w_rng1 ?_
        walk_at "go"
        refine ⟨by omega, by omega, by rw [rgD_len]; decide, ?_⟩
        refine w_cloop (fun ds acc ρ => ∃ (p : D) (c : List St), acc = boD c ∧ okB 1 1 c ∧ cbB (10 ^ 41) c ∧ szB c + 2 * ds.length ≤ 200 ∧ dpB c ≤ 1 ∧ Po p ∧ ρ = [some (.lst (ns.map .int)), some p, none, some (.tup [.tup [.str "a"], .tup [.str "main"], .tup [.tup (boD b)]]), some (.tup (boD b)), x5, x6, none]) ?_ ?_ ⟨p4, [], rfl, trivial, trivial, by rw [rgD_len]; show 0 + 2 * 100 ≤ 200; omega, Nat.zero_le _, hp4, rfl⟩
        · rintro d ds acc ρ ⟨p, c, rfl, c1, c2, c3, c4, hp, rfl⟩
          rw [List.length_cons] at c3
          walk_at "go"
          refine take2 hp (by omega) (by omega) fun u p5 hp5 u0 u1 => ?_
          walk_at "go"
          have es : boD c ++ [D.tup [.str "repeat", .int 1000, .tup [.tup [.str "change", .tup [.int (u - 10 ^ 6)]]]]] = boD (c ++ [.rep false 1000 [.chg [u - 10 ^ 6]]]) := by
            rw [← bo_snoc]
            rfl
          have o1 : okB 1 1 [St.rep false 1000 [.chg [u - 10 ^ 6]]] := ⟨⟨by omega, by omega, rfl, trivial⟩, trivial⟩
          have o2 : cbB (10 ^ 41) [St.rep false 1000 [.chg [u - 10 ^ 6]]] := ⟨⟨fun x hx => by
            rw [List.mem_singleton.mp hx]
            constructor <;> omega, trivial⟩, trivial⟩
          refine ⟨p5, c ++ [.rep false 1000 [.chg [u - 10 ^ 6]]], es, okB_app c1 o1, cbB_app c2 o2, ?_, ?_, hp5, rfl⟩
          · rw [szB_snoc]
            show szB c + (1 + (1 + 0)) + _ ≤ _
            omega
          · rw [dpB_snoc]
            show max (dpB c) (1 + max 0 0) ≤ _
            omega
        · rintro acc ρ ⟨p, c, rfl, c1, c2, c3, c4, hp, rfl⟩
          rw [List.length_nil] at c3
          walk_at "go"
          refine asked_r (t := [[(.num 0, .num 0)]]) (ps := [D.str "a"]) (ns := [D.str "main"]) (bs := [c]) (N := 200) (Dp := 1) hp (by decide) (by decide) ⟨rfl, by simp [Fg.nd]⟩ (by unfold tbBd; simp only [List.mem_cons, List.not_mem_nil, or_false, forall_eq, bdF]; decide) (fun e he => ?_) (by omega) (by omega) (by show 1 ≤ 100; omega) fun p6 hp6 => ?_
          · rw [List.mem_singleton.mp he]
            exact ⟨c1, c2, by omega, c4⟩
          walk_at "go"
          refine hand_r hp6 fun p7 hp7 => ?_
          walk_at "go"
      · walk_at "go"
        refine hand_r hp4 fun p5 hp5 => ?_
        walk_at "go"
    · intro x hx
      rw [List.mem_singleton.mp hx]
      constructor <;> omega
end K10
namespace K10
open PySem PySem.Spec PyProof.Rows L2 DL
theorem fin {l : PySem.W.OpenLaw} {w : World} {K : PySem.W.Frag} {h : Heap} {mg : Str → Option Value} {fa : Addr} (X : K.In h) (G : h.Ns mainGlobals mg) (hmg : mg "law" = some (.ref fa)) (T : Top K mg) :
    ∃ fd : FuncData, (∀ (s : Shared) (u : Value), BindsTo s fd ⟨[u], []⟩ [("script", u)]) ∧ ∀ base : Heap, K.In base → base.Ns mainGlobals mg → FnOk l.prog w K mg base CX0 127 fa fd ["script"] (spLaw K) := by
  obtain ⟨f, fd, h1, h2, h3⟩ := T.f_law
  have e := hmg.symm.trans h1
  cases e
  exact ⟨fd, fun s u => .of_eq (h3 [u] rfl), fun base _ _ => law_ok (ok_law T h2) law_true⟩
end K10
open PySem PySem.W PyProof.Rows
set_option maxRecDepth 100000 in
set_option maxHeartbeats 0 in
theorem PySem.Challenge.cw_neveroverdrawn_k10_body_figures_holds : PySem.Challenge.rw_neveroverdrawn_k10_body_figures.Holds := by
  w_on; o_law; k_head; (case hw => w_witness2)
  k_fill
  refine L2.walk_ofK (l := PySem.Challenge.rw_neveroverdrawn_k10_body_figures) (n := 63) (k := 127) (x := "script") (CX := L2.CX0) (sp := DL.spLaw) rfl (by decide) rfl ⟨rfl, by decide, by decide⟩ (fun w h Y => PySem.W.kIn_of Y) ?F (fun _ _ a ns hl _ hS => ⟨a, ns, rfl, hS, hl, fun _ => rfl⟩) (fun _ _ _ _ h => h)
  case F =>
    intro w mg fa h KX G hmg
    refine' K10.fin KX G hmg ?T
    case T =>
      refine' { f_low_sum := ?f_low_sum, f_low_rank := ?f_low_rank, f_low_less := ?f_low_less, f_least_low := ?f_least_low, f_low_times := ?f_low_times, f_need_less := ?f_need_less, f_greatest_need := ?f_greatest_need, f_need_behind := ?f_need_behind, f_change_need := ?f_change_need, f_either_figures := ?f_either_figures, f_loop_figures := ?f_loop_figures, f_least_ahead := ?f_least_ahead, f_counted_figures := ?f_counted_figures, f_need_behind_or_more := ?f_need_behind_or_more, f_statement_figures := ?f_statement_figures, f_body_figures := ?f_body_figures, f_bodies_within := ?f_bodies_within, f_body_rows := ?f_body_rows, f_statement_figures_of := ?f_statement_figures_of, f__law_pool := ?f__law_pool, f__law_take := ?f__law_take, f__law_mixed := ?f__law_mixed, f__law_sum := ?f__law_sum, f__law_less := ?f__law_less, f__law_more := ?f__law_more, f__law_behind := ?f__law_behind, f__law_inner := ?f__law_inner, f__law_one := ?f__law_one, f__law_figures := ?f__law_figures, f__law_pair := ?f__law_pair, f__law_table := ?f__law_table, f__law_change := ?f__law_change, f__law_body := ?f__law_body, f__law_program := ?f__law_program, f__law_same := ?f__law_same, f__law_asked := ?f__law_asked, f__law_hand := ?f__law_hand, f_law := ?f_law, b_abs := ?b_abs, b_bool := ?b_bool, b_int := ?b_int, b_isinstance := ?b_isinstance, b_len := ?b_len, b_list := ?b_list, b_max := ?b_max, b_min := ?b_min, b_range := ?b_range, b_str := ?b_str, b_tuple := ?b_tuple, b_zip := ?b_zip }
      case f_low_sum =>
        refine' DL.mkSrc (fun _ _ _ _ _ _ us hl => match us, hl with | [_, _], _ => rfl) KX G ?a ?l ?c ?k
        (case a => k_is); (case l => k_is); (case c => k_is); (case k => k_is)
      case f_low_rank =>
        refine' DL.mkSrc (fun _ _ _ _ _ _ us hl => match us, hl with | [_], _ => rfl) KX G ?a ?l ?c ?k
        (case a => k_is); (case l => k_is); (case c => k_is); (case k => k_is)
      case f_low_less =>
        refine' DL.mkSrc (fun _ _ _ _ _ _ us hl => match us, hl with | [_, _], _ => rfl) KX G ?a ?l ?c ?k
        (case a => k_is); (case l => k_is); (case c => k_is); (case k => k_is)
      case f_least_low =>
        refine' DL.mkSrc (fun _ _ _ _ _ _ us hl => match us, hl with | [_], _ => rfl) KX G ?a ?l ?c ?k
        (case a => k_is); (case l => k_is); (case c => k_is); (case k => k_is)
      case f_low_times =>
        refine' DL.mkSrc (fun _ _ _ _ _ _ us hl => match us, hl with | [_, _], _ => rfl) KX G ?a ?l ?c ?k
        (case a => k_is); (case l => k_is); (case c => k_is); (case k => k_is)
      case f_need_less =>
        refine' DL.mkSrc (fun _ _ _ _ _ _ us hl => match us, hl with | [_, _], _ => rfl) KX G ?a ?l ?c ?k
        (case a => k_is); (case l => k_is); (case c => k_is); (case k => k_is)
      case f_greatest_need =>
        refine' DL.mkSrc (fun _ _ _ _ _ _ us hl => match us, hl with | [_], _ => rfl) KX G ?a ?l ?c ?k
        (case a => k_is); (case l => k_is); (case c => k_is); (case k => k_is)
      case f_need_behind =>
        refine' DL.mkSrc (fun _ _ _ _ _ _ us hl => match us, hl with | [_, _], _ => rfl) KX G ?a ?l ?c ?k
        (case a => k_is); (case l => k_is); (case c => k_is); (case k => k_is)
      case f_change_need =>
        refine' DL.mkSrc (fun _ _ _ _ _ _ us hl => match us, hl with | [_, _], _ => rfl) KX G ?a ?l ?c ?k
        (case a => k_is); (case l => k_is); (case c => k_is); (case k => k_is)
      case f_either_figures =>
        refine' DL.mkSrc (fun _ _ _ _ _ _ us hl => match us, hl with | [_, _, _], _ => rfl) KX G ?a ?l ?c ?k
        (case a => k_is); (case l => k_is); (case c => k_is); (case k => k_is)
      case f_loop_figures =>
        refine' DL.mkSrc (fun _ _ _ _ _ _ us hl => match us, hl with | [_, _, _], _ => rfl) KX G ?a ?l ?c ?k
        (case a => k_is); (case l => k_is); (case c => k_is); (case k => k_is)
      case f_least_ahead =>
        refine' DL.mkSrc (fun _ _ _ _ _ _ us hl => match us, hl with | [_, _], _ => rfl) KX G ?a ?l ?c ?k
        (case a => k_is); (case l => k_is); (case c => k_is); (case k => k_is)
      case f_counted_figures =>
        refine' DL.mkSrc (fun _ _ _ _ _ _ us hl => match us, hl with | [_, _, _], _ => rfl) KX G ?a ?l ?c ?k
        (case a => k_is); (case l => k_is); (case c => k_is); (case k => k_is)
      case f_need_behind_or_more =>
        refine' DL.mkSrc (fun _ _ _ _ _ _ us hl => match us, hl with | [_, _], _ => rfl) KX G ?a ?l ?c ?k
        (case a => k_is); (case l => k_is); (case c => k_is); (case k => k_is)
      case f_statement_figures =>
        refine' DL.mkSrc (fun _ _ _ _ _ _ us hl => match us, hl with | [_, _, _], _ => rfl) KX G ?a ?l ?c ?k
        (case a => k_is); (case l => k_is); (case c => k_is); (case k => k_is)
      case f_body_figures =>
        refine' DL.mkSrc (fun _ _ _ _ _ _ us hl => match us, hl with | [_, _, _], _ => rfl) KX G ?a ?l ?c ?k
        (case a => k_is); (case l => k_is); (case c => k_is); (case k => k_is)
      case f_bodies_within =>
        refine' DL.mkSrc (fun _ _ _ _ _ _ us hl => match us, hl with | [_], _ => rfl) KX G ?a ?l ?c ?k
        (case a => k_is); (case l => k_is); (case c => k_is); (case k => k_is)
      case f_body_rows =>
        refine' DL.mkSrc (fun _ _ _ _ _ _ us hl => match us, hl with | [_, _, _], _ => rfl) KX G ?a ?l ?c ?k
        (case a => k_is); (case l => k_is); (case c => k_is); (case k => k_is)
      case f_statement_figures_of =>
        refine' DL.mkSrc (fun _ _ _ _ _ _ us hl => match us, hl with | [_, _, _], _ => rfl) KX G ?a ?l ?c ?k
        (case a => k_is); (case l => k_is); (case c => k_is); (case k => k_is)
      case f__law_pool =>
        refine' DL.mkSrc (fun _ _ _ _ _ _ us hl => match us, hl with | [_], _ => rfl) KX G ?a ?l ?c ?k
        (case a => k_is); (case l => k_is); (case c => k_is); (case k => k_is)
      case f__law_take =>
        refine' DL.mkSrc (fun _ _ _ _ _ _ us hl => match us, hl with | [_, _], _ => rfl) KX G ?a ?l ?c ?k
        (case a => k_is); (case l => k_is); (case c => k_is); (case k => k_is)
      case f__law_mixed =>
        refine' DL.mkSrc (fun _ _ _ _ _ _ us hl => match us, hl with | [_, _], _ => rfl) KX G ?a ?l ?c ?k
        (case a => k_is); (case l => k_is); (case c => k_is); (case k => k_is)
      case f__law_sum =>
        refine' DL.mkSrc (fun _ _ _ _ _ _ us hl => match us, hl with | [_, _], _ => rfl) KX G ?a ?l ?c ?k
        (case a => k_is); (case l => k_is); (case c => k_is); (case k => k_is)
      case f__law_less =>
        refine' DL.mkSrc (fun _ _ _ _ _ _ us hl => match us, hl with | [_, _], _ => rfl) KX G ?a ?l ?c ?k
        (case a => k_is); (case l => k_is); (case c => k_is); (case k => k_is)
      case f__law_more =>
        refine' DL.mkSrc (fun _ _ _ _ _ _ us hl => match us, hl with | [_, _], _ => rfl) KX G ?a ?l ?c ?k
        (case a => k_is); (case l => k_is); (case c => k_is); (case k => k_is)
      case f__law_behind =>
        refine' DL.mkSrc (fun _ _ _ _ _ _ us hl => match us, hl with | [_, _], _ => rfl) KX G ?a ?l ?c ?k
        (case a => k_is); (case l => k_is); (case c => k_is); (case k => k_is)
      case f__law_inner =>
        refine' DL.mkSrc (fun _ _ _ _ _ _ us hl => match us, hl with | [_], _ => rfl) KX G ?a ?l ?c ?k
        (case a => k_is); (case l => k_is); (case c => k_is); (case k => k_is)
      case f__law_one =>
        refine' DL.mkSrc (fun _ _ _ _ _ _ us hl => match us, hl with | [_, _, _, _], _ => rfl) KX G ?a ?l ?c ?k
        (case a => k_is); (case l => k_is); (case c => k_is); (case k => k_is)
      case f__law_figures =>
        refine' DL.mkSrc (fun _ _ _ _ _ _ us hl => match us, hl with | [_, _, _, _, _], _ => rfl) KX G ?a ?l ?c ?k
        (case a => k_is); (case l => k_is); (case c => k_is); (case k => k_is)
      case f__law_pair =>
        refine' DL.mkSrc (fun _ _ _ _ _ _ us hl => match us, hl with | [_], _ => rfl) KX G ?a ?l ?c ?k
        (case a => k_is); (case l => k_is); (case c => k_is); (case k => k_is)
      case f__law_table =>
        refine' DL.mkSrc (fun _ _ _ _ _ _ us hl => match us, hl with | [_, _], _ => rfl) KX G ?a ?l ?c ?k
        (case a => k_is); (case l => k_is); (case c => k_is); (case k => k_is)
      case f__law_change =>
        refine' DL.mkSrc (fun _ _ _ _ _ _ us hl => match us, hl with | [_, _, _], _ => rfl) KX G ?a ?l ?c ?k
        (case a => k_is); (case l => k_is); (case c => k_is); (case k => k_is)
      case f__law_body =>
        refine' DL.mkSrc (fun _ _ _ _ _ _ us hl => match us, hl with | [_, _, _, _, _], _ => rfl) KX G ?a ?l ?c ?k
        (case a => k_is); (case l => k_is); (case c => k_is); (case k => k_is)
      case f__law_program =>
        refine' DL.mkSrc (fun _ _ _ _ _ _ us hl => match us, hl with | [_, _, _, _], _ => rfl) KX G ?a ?l ?c ?k
        (case a => k_is); (case l => k_is); (case c => k_is); (case k => k_is)
      case f__law_same =>
        refine' DL.mkSrc (fun _ _ _ _ _ _ us hl => match us, hl with | [_, _], _ => rfl) KX G ?a ?l ?c ?k
        (case a => k_is); (case l => k_is); (case c => k_is); (case k => k_is)
      case f__law_asked =>
        refine' DL.mkSrc (fun _ _ _ _ _ _ us hl => match us, hl with | [_, _, _], _ => rfl) KX G ?a ?l ?c ?k
        (case a => k_is); (case l => k_is); (case c => k_is); (case k => k_is)
      case f__law_hand =>
        refine' DL.mkSrc (fun _ _ _ _ _ _ us hl => match us, hl with | [_], _ => rfl) KX G ?a ?l ?c ?k
        (case a => k_is); (case l => k_is); (case c => k_is); (case k => k_is)
      case f_law =>
        refine' DL.mkSrc (fun _ _ _ _ _ _ us hl => match us, hl with | [_], _ => rfl) KX G ?a ?l ?c ?k
        (case a => k_is); (case l => k_is); (case c => k_is); (case k => k_is)
      case b_abs => exact PySem.W.mg_none_of KX G (by k_is)
      case b_bool => exact PySem.W.mg_none_of KX G (by k_is)
      case b_int => exact PySem.W.mg_none_of KX G (by k_is)
      case b_isinstance => exact PySem.W.mg_none_of KX G (by k_is)
      case b_len => exact PySem.W.mg_none_of KX G (by k_is)
      case b_list => exact PySem.W.mg_none_of KX G (by k_is)
      case b_max => exact PySem.W.mg_none_of KX G (by k_is)
      case b_min => exact PySem.W.mg_none_of KX G (by k_is)
      case b_range => exact PySem.W.mg_none_of KX G (by k_is)
      case b_str => exact PySem.W.mg_none_of KX G (by k_is)
      case b_tuple => exact PySem.W.mg_none_of KX G (by k_is)
      case b_zip => exact PySem.W.mg_none_of KX G (by k_is)
