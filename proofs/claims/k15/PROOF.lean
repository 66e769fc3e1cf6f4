import PyProof.Rows.All
import Wide.All
import OpenK.AllK
import Wide.FinOn
import HandS.ForMost
import HandS.ForExc
import HandS.Flow
import HandS.Style
import HandS.Zip
import HandS.IsInst
import HandS.Wide
import HandS.Walk
import HandS.Conv
import HandS.TupLe
import HandS.TupAny
import HandS.CallLocal
import PySem.Challenge.RW_neveroverdrawn_k15_tabletools
set_option Elab.async false
set_option linter.all false
set_option maxRecDepth 100000
set_option maxHeartbeats 4000000
/-! The D-layer: values as plain data over the hand layer's abstract heap; what is owned by slots may change, what is shared never does. -/
namespace DL
open PySem PySem.Spec PyProof.Rows L2

/-! ### data, results -/
inductive D where
  | non
  | bl (b : Bool)
  | int (i : Int)
  | str (x : PySem.Str)
  | tup (ds : List D)
  | lst (ds : List D)
  | fn (a : Addr)
  | ty (n : String)

inductive Res (α : Type) where
  | ok (a : α)
  | err
def Res.bind {α β : Type} (x : Res α) (f : α → Res β) : Res β := match x with
  | .ok a => f a
  | .err => .err
theorem Res.ok_bind {α β : Type} (a : α) (f : α → Res β) : (Res.ok a).bind f = f a := rfl
theorem Res.err_bind {α β : Type} (f : α → Res β) : (Res.err : Res α).bind f = .err := rfl
theorem Res.bind_ok {α β : Type} {x : Res α} {f : α → Res β} {b : β} (h : x.bind f = .ok b) : ∃ a, x = .ok a ∧ f a = .ok b := by
  cases x with
  | ok a => exact ⟨a, rfl, h⟩
  | err => cases h
theorem Res.bind_assoc {α β γ : Type} (x : Res α) (f : α → Res β) (g : β → Res γ) : (x.bind f).bind g = x.bind fun a => (f a).bind g := by cases x <;> rfl

abbrev Ev := List (Option D)

/-! ### what represents a datum: Z tells the addresses that may change -/
abbrev AP := Addr → Prop
def RdT (K : PySem.W.Frag) (Z : AP) (H : Hp) (a : Addr) (vs : List V) : Prop := (H a = some (.tup vs) ∧ ¬ Z a) ∨ SqT K (fun _ => none) a vs
def RdL (K : PySem.W.Frag) (Z : AP) (H : Hp) (a : Addr) (vs : List V) : Prop := (Rd H a (.lst vs) ∧ ¬ Z a) ∨ SqL K (fun _ => none) a vs
mutual
def Sh (K : PySem.W.Frag) (Z : AP) (H : Hp) : D → V → Prop
  | .non, v => v = .non
  | .bl b, v => v = .bl b
  | .int i, v => v = .int i
  | .str x, v => v = .str x
  | .tup ds, v => ∃ a vs, v = .ref a ∧ RdT K Z H a vs ∧ Shs K Z H ds vs
  | .lst ds, v => ∃ a vs, v = .ref a ∧ RdL K Z H a vs ∧ Shs K Z H ds vs
  | .fn a, v => v = .ref a
  | .ty n, v => v = .ty n
def Shs (K : PySem.W.Frag) (Z : AP) (H : Hp) : List D → List V → Prop
  | [], vs => vs = []
  | d :: ds, vs => ∃ v r, vs = v :: r ∧ Sh K Z H d v ∧ Shs K Z H ds r
end
abbrev Z0 : AP := fun _ => False
section
variable {K : PySem.W.Frag} {Z Z' Z'' : AP} {H H' H'' : Hp} {a : Addr} {vs : List V}
theorem RdT.sq (h : RdT K Z H a vs) : SqT K H a vs := by
  rcases h with ⟨h, _⟩ | h
  · exact .inl (.inl h)
  · rcases h with (h | ⟨o, h⟩) | h
    · cases h
    · cases h
    · exact .inr h
theorem RdL.sq (h : RdL K Z H a vs) : SqL K H a vs := by
  rcases h with ⟨h, _⟩ | h
  · exact .inl h
  · rcases h with (h | ⟨o, h⟩) | h
    · cases h
    · cases h
    · exact .inr h
theorem RdT.new (h : H a = some (.tup vs)) (hz : ¬ Z a) : RdT K Z H a vs := .inl ⟨h, hz⟩
theorem RdL.new (h : H a = some (.lst vs)) (hz : ¬ Z a) : RdL K Z H a vs := .inl ⟨.inl h, hz⟩
mutual
theorem Sh.mono (hT : ∀ a vs, RdT K Z H a vs → RdT K Z' H' a vs) (hL : ∀ a vs, RdL K Z H a vs → RdL K Z' H' a vs) : ∀ (d : D) (v : V), Sh K Z H d v → Sh K Z' H' d v
  | .non, _, h => h
  | .bl _, _, h => h
  | .int _, _, h => h
  | .str _, _, h => h
  | .tup ds, _, ⟨a, vs, e, r, s⟩ => ⟨a, vs, e, hT a vs r, Shs.mono hT hL ds vs s⟩
  | .lst ds, _, ⟨a, vs, e, r, s⟩ => ⟨a, vs, e, hL a vs r, Shs.mono hT hL ds vs s⟩
  | .fn _, _, h => h
  | .ty _, _, h => h
theorem Shs.mono (hT : ∀ a vs, RdT K Z H a vs → RdT K Z' H' a vs) (hL : ∀ a vs, RdL K Z H a vs → RdL K Z' H' a vs) : ∀ (ds : List D) (vs : List V), Shs K Z H ds vs → Shs K Z' H' ds vs
  | [], _, h => h
  | d :: ds, _, ⟨v, r, e, s1, s2⟩ => ⟨v, r, e, Sh.mono hT hL d v s1, Shs.mono hT hL ds r s2⟩
end
/-- one step: what is not owned stays, what becomes owned is new -/
def Stp0 (Z : AP) (H : Hp) (Z' : AP) (H' : Hp) : Prop := (∀ b o, H b = some o → ¬ Z b → H' b = some o) ∧ ∀ b, Z' b → Z b ∨ H b = none
theorem Stp0.refl : Stp0 Z H Z H := ⟨fun _ _ h _ => h, fun _ h => .inl h⟩
theorem Stp0.trans (a : Stp0 Z H Z' H') (b : Stp0 Z' H' Z'' H'') : Stp0 Z H Z'' H'' := by
  refine ⟨fun c o h hz => b.1 c o (a.1 c o h hz) fun z => ?_, fun c hc => ?_⟩
  · rcases a.2 c z with q | q
    · exact hz q
    · rw [q] at h; cases h
  · rcases b.2 c hc with q | q
    · exact a.2 c q
    · by_cases hz : Z c
      · exact .inl hz
      · refine .inr ?_
        cases e : H c with
        | none => rfl
        | some o =>
          have e2 := a.1 c o e hz
          rw [q] at e2; cases e2
theorem Stp0.same (s : Same H H') : Stp0 Z H Z H' := ⟨fun b o h _ => s b o h, fun _ h => .inl h⟩
theorem RdT.stp (s : Stp0 Z H Z' H') (h : RdT K Z H a vs) : RdT K Z' H' a vs := by
  rcases h with ⟨h, hz⟩ | h
  · refine .inl ⟨s.1 _ _ h hz, fun z => ?_⟩
    rcases s.2 a z with q | q
    · exact hz q
    · rw [q] at h; cases h
  · exact .inr h
theorem RdL.stp (s : Stp0 Z H Z' H') (h : RdL K Z H a vs) : RdL K Z' H' a vs := by
  rcases h with ⟨h, hz⟩ | h
  · refine .inl ⟨?_, fun z => ?_⟩
    · rcases h with h | ⟨o, h⟩
      · exact .inl (s.1 _ _ h hz)
      · exact .inr ⟨o, s.1 _ _ h hz⟩
    · rcases s.2 a z with q | q
      · exact hz q
      · rcases h with h | ⟨o, h⟩ <;> rw [q] at h <;> cases h
  · exact .inr h
theorem Sh.stp (s : Stp0 Z H Z' H') {d : D} {v : V} (h : Sh K Z H d v) : Sh K Z' H' d v := Sh.mono (fun _ _ => RdT.stp s) (fun _ _ => RdL.stp s) d v h
theorem Shs.stp (s : Stp0 Z H Z' H') {ds : List D} (h : Shs K Z H ds vs) : Shs K Z' H' ds vs := Shs.mono (fun _ _ => RdT.stp s) (fun _ _ => RdL.stp s) ds vs h
theorem RdT.same (s : Same H H') (h : RdT K Z H a vs) : RdT K Z H' a vs := h.stp (Stp0.same s)
theorem Sh.same (s : Same H H') {d : D} {v : V} (h : Sh K Z H d v) : Sh K Z H' d v := h.stp (Stp0.same s)
theorem Shs.same (s : Same H H') {ds : List D} (h : Shs K Z H ds vs) : Shs K Z H' ds vs := h.stp (Stp0.same s)
/-- fewer owned ones -/
theorem Sh.less (hz : ∀ b, Z' b → Z b) {d : D} {v : V} (h : Sh K Z H d v) : Sh K Z' H d v :=
  Sh.stp (Z := Z) ⟨fun _ _ h _ => h, fun b z => .inl (hz b z)⟩ h
theorem Shs.less (hz : ∀ b, Z' b → Z b) {ds : List D} (h : Shs K Z H ds vs) : Shs K Z' H ds vs :=
  Shs.stp (Z := Z) ⟨fun _ _ h _ => h, fun b z => .inl (hz b z)⟩ h
theorem Sh.cur {d : D} {v : V} (h : Sh K Z H d v) : Sh K Z0 H d v := h.less fun _ z => z.elim
theorem Shs.len : ∀ {ds : List D} {vs : List V}, Shs K Z H ds vs → ds.length = vs.length
  | [], vs, h => by
    have e : vs = [] := h
    subst e
    rfl
  | d :: ds, _, ⟨v, r, e, _, s⟩ => by rw [e, List.length_cons, List.length_cons, Shs.len s]
theorem Shs.get : ∀ {ds : List D} {vs : List V} {i : Nat} {d : D}, Shs K Z H ds vs → ds[i]? = some d → ∃ v, vs[i]? = some v ∧ Sh K Z H d v
  | [], _, _, _, _, h => by simp at h
  | d :: ds, _, 0, d', ⟨v, r, e, s, _⟩, h => by
    have h' : d = d' := by simpa using h
    subst h'
    exact ⟨v, by rw [e]; rfl, s⟩
  | d :: ds, _, i + 1, _, ⟨v, r, e, _, s⟩, h => by
    obtain ⟨w, h1, h2⟩ := Shs.get (i := i) s (by simpa using h)
    exact ⟨w, by rw [e]; simpa using h1, h2⟩
theorem Shs.getV : ∀ {ds : List D} {vs : List V} {i : Nat} {v : V}, Shs K Z H ds vs → vs[i]? = some v → ∃ d, ds[i]? = some d ∧ Sh K Z H d v
  | [], vs, _, _, h, q => by
    have e : vs = [] := h
    subst e
    simp at q
  | d :: ds, _, 0, v', ⟨v, r, e, s, _⟩, h => by
    rw [e] at h
    have h' : v = v' := by simpa using h
    subst h'
    exact ⟨d, rfl, s⟩
  | d :: ds, _, i + 1, _, ⟨v, r, e, _, s⟩, h => by
    rw [e] at h
    obtain ⟨w, h1, h2⟩ := Shs.getV (i := i) s (by simpa using h)
    exact ⟨w, by simpa using h1, h2⟩
theorem Shs.app : ∀ {ds es : List D} {vs ws : List V}, Shs K Z H ds vs → Shs K Z H es ws → Shs K Z H (ds ++ es) (vs ++ ws)
  | [], _, vs, _, h, q => by
    have e : vs = [] := h
    subst e
    exact q
  | d :: ds, _, _, ws, ⟨v, r, e, s, t⟩, q => ⟨v, r ++ ws, by rw [e]; rfl, s, Shs.app t q⟩
theorem Shs.one {d : D} {v : V} (h : Sh K Z H d v) : Shs K Z H [d] [v] := ⟨v, [], rfl, h, rfl⟩
theorem Shs.set : ∀ {ds : List D} {vs : List V} (i : Nat) {d : D} {v : V}, Shs K Z H ds vs → Sh K Z H d v → Shs K Z H (ds.set i d) (vs.set i v)
  | [], vs, _, _, _, h, _ => by
    have e : vs = [] := h
    subst e
    exact rfl
  | x :: ds, _, 0, d, v, ⟨y, r, e, _, t⟩, q => ⟨v, r, by rw [e]; rfl, q, t⟩
  | x :: ds, _, i + 1, d, v, ⟨y, r, e, s, t⟩, q => ⟨y, r.set i v, by rw [e]; rfl, s, Shs.set i t q⟩
theorem Shs.take : ∀ {ds : List D} {vs : List V} (n : Nat), Shs K Z H ds vs → Shs K Z H (ds.take n) (vs.take n)
  | _, _, 0, _ => by rw [List.take_zero, List.take_zero]; exact rfl
  | [], vs, n + 1, h => by
    have e : vs = [] := h
    subst e
    exact rfl
  | d :: ds, _, n + 1, ⟨v, r, e, s, t⟩ => ⟨v, r.take n, by rw [e]; rfl, s, Shs.take n t⟩
theorem Shs.drop : ∀ {ds : List D} {vs : List V} (n : Nat), Shs K Z H ds vs → Shs K Z H (ds.drop n) (vs.drop n)
  | _, _, 0, h => h
  | [], vs, n + 1, h => by
    have e : vs = [] := h
    subst e
    exact rfl
  | d :: ds, _, n + 1, ⟨v, r, e, s, t⟩ => by rw [e]; exact Shs.drop n t
theorem Shs.erase : ∀ {ds : List D} {vs : List V} (n : Nat), Shs K Z H ds vs → Shs K Z H (ds.eraseIdx n) (vs.eraseIdx n)
  | [], vs, _, h => by
    have e : vs = [] := h
    subst e
    exact rfl
  | d :: ds, _, 0, ⟨v, r, e, s, t⟩ => by rw [e]; exact t
  | d :: ds, _, n + 1, ⟨v, r, e, s, t⟩ => ⟨v, r.eraseIdx n, by rw [e]; rfl, s, Shs.erase n t⟩
theorem Shs.rev : ∀ {ds : List D} {vs : List V}, Shs K Z H ds vs → Shs K Z H ds.reverse vs.reverse
  | [], vs, h => by
    have e : vs = [] := h
    subst e
    exact rfl
  | d :: ds, _, ⟨v, r, e, s, t⟩ => by
    rw [e, List.reverse_cons, List.reverse_cons]
    exact (Shs.rev t).app (Shs.one s)
theorem Shs.dropLast {ds : List D} {vs : List V} (h : Shs K Z H ds vs) : Shs K Z H ds.dropLast vs.dropLast := by
  rw [List.dropLast_eq_take, List.dropLast_eq_take, ← h.len]
  exact h.take _
theorem Shs.rep {ds : List D} {vs : List V} (h : Shs K Z H ds vs) : ∀ n : Nat, Shs K Z H (List.replicate n ds).flatten (List.replicate n vs).flatten
  | 0 => rfl
  | n + 1 => by
    rw [List.replicate_succ, List.replicate_succ, List.flatten_cons, List.flatten_cons]
    exact h.app (Shs.rep h n)
end

/-! ### owned lists: level 0 is shared data; level n + 1 a list of level n, its own addresses within P -/
def Ow (K : PySem.W.Frag) (Z : AP) (H : Hp) : Nat → D → V → AP → Prop
  | 0, d, v, _ => Sh K Z H d v
  | n + 1, d, v, P => match d with
    | .lst ds => ∃ a vs, v = .ref a ∧ P a ∧ Z a ∧ H a = some (.lst vs) ∧ ds.length = vs.length ∧ ∃ Q : Nat → AP, (∀ i b, Q i b → P b ∧ b ≠ a) ∧ (∀ i j b, Q i b → Q j b → i = j) ∧
        ∀ i d v, ds[i]? = some d → vs[i]? = some v → Ow K Z H n d v (Q i)
    | d => Sh K Z H d v
theorem Shs.of {K : PySem.W.Frag} {Z : AP} {H : Hp} : ∀ {ds : List D} {vs : List V}, ds.length = vs.length → (∀ (i : Nat) (d : D) (v : V), ds[i]? = some d → vs[i]? = some v → Sh K Z H d v) → Shs K Z H ds vs
  | [], [], _, _ => rfl
  | d :: ds, v :: vs, h, q => ⟨v, vs, rfl, q 0 d v rfl rfl, Shs.of (by simpa using h) fun i d v h1 h2 => q (i + 1) d v (by simpa using h1) (by simpa using h2)⟩
  | [], _ :: _, h, _ => by simp at h
  | _ :: _, [], h, _ => by simp at h
section
variable {K : PySem.W.Frag} {Z Z' : AP} {H H' : Hp} {P P' : AP}
theorem Ow.keep (hs : ∀ d v, Sh K Z H d v → Sh K Z' H' d v) : ∀ (n : Nat) (d : D) (v : V) (P : AP), (∀ b, P b → Z b → H b ≠ none → H' b = H b ∧ Z' b) → Ow K Z H n d v P → Ow K Z' H' n d v P
  | 0, d, v, P, _, h => hs d v h
  | n + 1, d, v, P, hp, h => by
    cases d with
    | lst ds =>
      obtain ⟨a, vs, e, pa, za, ha, l, Q, q1, q2, q3⟩ := h
      obtain ⟨e1, e2⟩ := hp a pa za (by rw [ha]; exact fun z => nomatch z)
      exact ⟨a, vs, e, pa, e2, by rw [e1]; exact ha, l, Q, q1, q2, fun i d v h1 h2 => Ow.keep hs n d v (Q i) (fun b hb => hp b (q1 i b hb).1) (q3 i d v h1 h2)⟩
    | _ => exact hs _ _ h
theorem Ow.more (hP : ∀ b, P b → P' b) : ∀ {n : Nat} {d : D} {v : V}, Ow K Z H n d v P → Ow K Z H n d v P'
  | 0, _, _, h => h
  | n + 1, d, v, h => by
    cases d with
    | lst ds =>
      obtain ⟨a, vs, e, pa, za, ha, l, Q, q1, q2, q3⟩ := h
      exact ⟨a, vs, e, hP a pa, za, ha, l, Q, fun i b hb => ⟨hP b (q1 i b hb).1, (q1 i b hb).2⟩, q2, q3⟩
    | _ => exact h
/-- as shared data, once its addresses are given up -/
theorem Ow.frz (hZ : ∀ b, Z' b → Z b ∧ ¬ P b) : ∀ {n : Nat} {d : D} {v : V} {P1 : AP}, (∀ b, P1 b → P b) → Ow K Z H n d v P1 → Sh K Z' H d v
  | 0, d, v, _, _, h => h.less fun b z => (hZ b z).1
  | n + 1, d, v, P1, h1, h => by
    cases d with
    | lst ds =>
      obtain ⟨a, vs, e, pa, za, ha, l, Q, q1, q2, q3⟩ := h
      exact ⟨a, vs, e, RdL.new ha fun z => (hZ a z).2 (h1 a pa), Shs.of l fun i d v e1 e2 => Ow.frz hZ (fun b hb => h1 b (q1 i b hb).1) (q3 i d v e1 e2)⟩
    | _ => exact Sh.less (fun b z => (hZ b z).1) h
theorem Ow.cur {n : Nat} {d : D} {v : V} (h : Ow K Z H n d v P) : Sh K Z0 H d v := Ow.frz (P := P) (fun _ z => z.elim) (fun _ z => z) h
theorem Ow.same (s : Same H H') {n : Nat} {d : D} {v : V} (h : Ow K Z H n d v P) : Ow K Z H' n d v P := by
  refine Ow.keep (fun d v q => q.same s) n d v P (fun b _ hz hn => ⟨?_, hz⟩) h
  cases e : H b with
  | none => exact absurd e hn
  | some o => exact s b o e
end

/-! ### the state -/
structure DC where
  ks : List Nat
  pl : List Nat
  pv : Nat → Option (Option V)
  M : AP
  Zi : AP
  Hi : Hp
/-- what may be owned -/
def mutO : HO → Bool
  | .lst _ => true
  | .dK _ => true
  | .dT _ => true
  | .set _ _ => true
  | .ins _ _ _ => true
  | _ => false
structure RS (c : DC) (K : PySem.W.Frag) (ρ : Ev) (Z : AP) (σ : L2.St) (H : Hp) (fo : Nat → AP) : Prop where
  len : ρ.length = σ.length
  val : ∀ i d, ρ[i]? = some (some d) → ∃ v, σ[i]? = some (some v) ∧ Ow K Z H (c.ks.getD i 0) d v (fo i)
  dis : ∀ i j b, fo i b → fo j b → i = j
  own : ∀ b, Z b → ∃ o, H b = some o ∧ mutO o = true
  sub : ∀ i b, fo i b → Z b ∧ (c.M b ∨ c.Hi b = none)
  e1 : ∀ b o, c.Hi b = some o → ¬ c.M b → H b = some o
  dm : ∀ b, H b = none → c.Hi b = none
  e2 : ∀ b, Z b → c.Zi b ∨ c.Hi b = none
  e3 : ∀ b, c.Zi b → ¬ c.M b → Z b
  zi : ∀ b, c.Zi b → c.Hi b ≠ none
  pin : ∀ i ∈ c.pl, σ[i]? = c.pv i
/-- one step of the program: only what slots own changes -/
structure Stp (fo : Nat → AP) (Z : AP) (H : Hp) (fo' : Nat → AP) (Z' : AP) (H' : Hp) : Prop where
  k1 : ∀ b o, H b = some o → (∀ i, ¬ fo i b) → H' b = some o
  k2 : ∀ b, Z' b → Z b ∨ H b = none ∨ ∃ i, fo i b
  k3 : ∀ b, Z b → H b ≠ none → (∀ i, ¬ fo i b) → Z' b
  k4 : ∀ i b, fo' i b → (∃ j, fo j b) ∨ H b = none
section
variable {fo fo' fo'' : Nat → AP} {Z Z' Z'' : AP} {H H' H'' : Hp}
theorem Stp.refl : Stp fo Z H fo Z H := ⟨fun _ _ h _ => h, fun _ h => .inl h, fun _ h _ _ => h, fun i _ h => .inl ⟨i, h⟩⟩
theorem Stp.same (s : Same H H') : Stp fo Z H fo Z H' := ⟨fun b o h _ => s b o h, fun _ h => .inl h, fun _ h _ _ => h, fun i _ h => .inl ⟨i, h⟩⟩
theorem Stp.none (s : Stp fo Z H fo' Z' H') {b : Addr} (h : H' b = Option.none) : H b = Option.none ∨ ∃ i, fo i b := by
  by_cases hf : ∃ i, fo i b
  · exact .inr hf
  · refine .inl ?_
    cases e : H b with
    | none => rfl
    | some o =>
      have := s.k1 b o e fun i hi => hf ⟨i, hi⟩
      rw [h] at this; cases this
theorem Stp.nf (s : Stp fo Z H fo' Z' H') {b : Addr} {o : HO} (e : H b = some o) (h : ∀ i, ¬ fo i b) : ∀ i, ¬ fo' i b := fun i hi => by
  rcases s.k4 i b hi with ⟨j, hj⟩ | z
  · exact h j hj
  · rw [z] at e; cases e
theorem Stp.trans (a : Stp fo Z H fo' Z' H') (c : Stp fo' Z' H' fo'' Z'' H'') : Stp fo Z H fo'' Z'' H'' := by
  refine ⟨fun b o h hf => c.k1 b o (a.k1 b o h hf) (a.nf h hf), fun b hb => ?_, fun b hb hn hf => ?_, fun i b hb => ?_⟩
  · rcases c.k2 b hb with z | z | ⟨i, z⟩
    · exact a.k2 b z
    · exact .inr (a.none z)
    · rcases a.k4 i b z with z | z
      · exact .inr (.inr z)
      · exact .inr (.inl z)
  · cases e : H b with
    | none => exact absurd e hn
    | some o =>
      have e1 := a.k1 b o e hf
      exact c.k3 b (a.k3 b hb hn hf) (by rw [e1]; exact fun z => nomatch z) (a.nf e hf)
  · rcases c.k4 i b hb with ⟨j, hj⟩ | z
    · exact a.k4 j b hj
    · exact (a.none z).symm
theorem Stp.s0 {c : DC} {K : PySem.W.Frag} {ρ : Ev} {σ : L2.St} (s : Stp fo Z H fo' Z' H') (R : RS c K ρ Z σ H fo) : Stp0 Z H Z' H' := by
  refine ⟨fun b o h hz => s.k1 b o h fun i hi => hz (R.sub i b hi).1, fun b hb => ?_⟩
  rcases s.k2 b hb with z | z | ⟨i, z⟩
  · exact .inl z
  · exact .inr z
  · exact .inl (R.sub i b z).1
end
section
variable {c : DC} {K : PySem.W.Frag} {ρ : Ev} {Z Z' : AP} {σ : L2.St} {H H' : Hp} {fo : Nat → AP}
theorem RS.same (s : Same H H') (r : RS c K ρ Z σ H fo) : RS c K ρ Z σ H' fo :=
  { r with
    val := fun i d h => let ⟨v, h1, h2⟩ := r.val i d h; ⟨v, h1, h2.same s⟩
    own := fun b hb => let ⟨o, h1, h2⟩ := r.own b hb; ⟨o, s b o h1, h2⟩
    e1 := fun b o h1 h2 => s b o (r.e1 b o h1 h2)
    dm := fun b h => r.dm b (s.free h) }
theorem same_upd {H : Hp} {p : Addr} {o : HO} (h : H p = none) : Same H (upd H p o) := fun b x e => by
  rw [upd_ne (ne_of_none e h)]
  exact e
theorem RS.ownN (r : RS c K ρ Z σ H fo) : ∀ b, Z b → H b ≠ none := fun b hb z => by
  obtain ⟨o, h1, _⟩ := r.own b hb
  rw [z] at h1; cases h1
theorem RS.nz {p : Addr} (r : RS c K ρ Z σ H fo) (h : H p = none) : ¬ Z p := fun z => r.ownN p z h
theorem RS.notup (r : RS c K ρ Z σ H fo) : ∀ b u, Z b → H b ≠ some (.tup u) := fun b u hb h => by
  obtain ⟨o, h1, h2⟩ := r.own b hb
  rw [h1] at h; cases h; cases h2
/-- a slot of level 0 set to shared data -/
theorem npl {l : List Nat} {i : Nat} (h : l.contains i = false) : i ∉ l := fun z => by
  rw [List.contains_iff_mem.mpr z] at h
  cases h
theorem RS.set {i : Nat} {d : D} {v : V} (r : RS c K ρ Z σ H fo) (hk : c.ks.getD i 0 = 0) (hp0 : c.pl.contains i = false) (h : Sh K Z H d v) : RS c K (ρ.set i (some d)) Z (σ.set i (some v)) H fo := by
  have hp := npl hp0
  refine { r with len := by rw [List.length_set, List.length_set]; exact r.len, val := fun j e he => ?_, pin := fun j hj => ?_ }
  · by_cases q : i = j
    · subst q
      by_cases hl : i < ρ.length
      · rw [List.getElem?_set_self hl] at he
        have e1 : d = e := Option.some.inj (Option.some.inj he)
        subst e1
        exact ⟨v, List.getElem?_set_self (r.len ▸ hl), by rw [hk]; exact h⟩
      · rw [List.getElem?_eq_none (by simpa using hl)] at he; cases he
    · rw [List.getElem?_set_ne q] at he
      obtain ⟨w, h1, h2⟩ := r.val j e he
      exact ⟨w, by rw [List.getElem?_set_ne q]; exact h1, h2⟩
  · rw [List.getElem?_set_ne (fun (e : i = j) => hp (by rw [e]; exact hj))]
    exact r.pin j hj
/-- a slot forgotten -/
theorem RS.unset (r : RS c K ρ Z σ H fo) (i : Nat) : RS c K (ρ.set i none) Z σ H fo := by
  refine { r with len := by rw [List.length_set]; exact r.len, val := fun j e he => ?_ }
  by_cases q : i = j
  · subst q
    by_cases hl : i < ρ.length
    · rw [List.getElem?_set_self hl] at he; cases he
    · rw [List.getElem?_eq_none (by simpa using hl)] at he; cases he
  · rw [List.getElem?_set_ne q] at he
    exact r.val j e he
end

/-! ### judgements: expressions -/
def Rp (K : PySem.W.Frag) (b : Bool) (Z : AP) (H : Hp) (d : D) (v : V) : Prop := Sh K (if b = true then Z0 else Z) H d v
def Rps (K : PySem.W.Frag) (b : Bool) (Z : AP) (H : Hp) (ds : List D) (vs : List V) : Prop := Shs K (if b = true then Z0 else Z) H ds vs
/-- f reads the expression: q: it changes nothing; b: what it gives is only borrowed -/
def tD (c : DC) (K : PySem.W.Frag) (q b : Bool) (f : Ev → Res (D × Ev)) : TE := fun σ H Q => ∃ ρ Z fo, RS c K ρ Z σ H fo ∧ ∃ d ρ', f ρ = .ok (d, ρ') ∧
  ∀ v H' Z' fo', RS c K ρ' Z' σ H' fo' → Stp fo Z H fo' Z' H' → (q = true → Same H H') → Rp K b Z' H' d v → Q v H'
def tDs (c : DC) (K : PySem.W.Frag) (q b : Bool) (n : Nat) (f : Ev → Res (List D × Ev)) : TA := fun σ H Q => ∃ ρ Z fo, RS c K ρ Z σ H fo ∧ ∃ ds ρ', f ρ = .ok (ds, ρ') ∧
  ∀ vs H' Z' fo', RS c K ρ' Z' σ H' fo' → Stp fo Z H fo' Z' H' → (q = true → Same H H') → vs.length = n → Rps K b Z' H' ds vs → Q vs H'
def tT (c : DC) (K : PySem.W.Frag) (q : Bool) (f : Ev → Res (Bool × Ev)) : TT := fun σ H Q => ∃ ρ Z fo, RS c K ρ Z σ H fo ∧ ∃ k ρ', f ρ = .ok (k, ρ') ∧
  ∀ H' Z' fo', RS c K ρ' Z' σ H' fo' → Stp fo Z H fo' Z' H' → (q = true → Same H H') → Q k H'
structure DE (X : Cx) (c : DC) (q b : Bool) (e : Expr) (f : Ev → Res (D × Ev)) : Prop where
  pe : PE X e (tD c X.K q b f)
structure DAs (X : Cx) (c : DC) (q b : Bool) (es : List Expr) (f : Ev → Res (List D × Ev)) : Prop where
  pa : PA X es (tDs c X.K q b es.length f)
structure DT (X : Cx) (c : DC) (q : Bool) (e : Expr) (f : Ev → Res (Bool × Ev)) : Prop where
  pt : PT X e (tT c X.K q f)
theorem PE.imp {X : Cx} {e : Expr} {t u : TE} (h : PE X e t) (k : ∀ σ H Q, u σ H Q → t σ H Q) : PE X e u := ⟨fun pins s σ H Q I q => h.run pins s σ H Q I (k _ _ _ q)⟩
theorem PT.imp {X : Cx} {e : Expr} {t u : TT} (h : PT X e t) (k : ∀ σ H Q, u σ H Q → t σ H Q) : PT X e u := ⟨fun pins s σ H Q I q => h.run pins s σ H Q I (k _ _ _ q)⟩
theorem PA.imp {X : Cx} {es : List Expr} {t u : TA} (h : PA X es t) (k : ∀ σ H Q, u σ H Q → t σ H Q) : PA X es u := ⟨fun pos pins s σ H Q I q => h.run pos pins s σ H Q I (k _ _ _ q)⟩
theorem PS.imp {X : Cx} {e : Stmt} {t u : TS} (h : PS X e t) (k : ∀ D σ H, u D σ H → t D σ H) : PS X e u := ⟨fun pins s σ H D I q => h.run pins s σ H D I (k _ _ _ q)⟩
theorem PSs.imp {X : Cx} {e : List Stmt} {t u : TS} (h : PSs X e t) (k : ∀ D σ H, u D σ H → t D σ H) : PSs X e u := ⟨fun pins s σ H D I q => h.run pins s σ H D I (k _ _ _ q)⟩
/-- what a borrowed or shared value keeps behind a later expression -/
theorem Rp.keep {c : DC} {K : PySem.W.Frag} {ρ : Ev} {σ : L2.St} {fo fo' : Nat → AP} {b q : Bool} {Z Z' : AP} {H H' : Hp} {d : D} {v : V} (R : RS c K ρ Z σ H fo) (hq : b = true → q = true) (s : Stp fo Z H fo' Z' H') (sm : q = true → Same H H') (h : Rp K b Z H d v) : Rp K b Z' H' d v := by
  cases b with
  | false => exact Sh.stp (s.s0 R) h
  | true => exact Sh.same (sm (hq rfl)) h
theorem Rps.keep {c : DC} {K : PySem.W.Frag} {ρ : Ev} {σ : L2.St} {fo fo' : Nat → AP} {b q : Bool} {Z Z' : AP} {H H' : Hp} {d : List D} {v : List V} (R : RS c K ρ Z σ H fo) (hq : b = true → q = true) (s : Stp fo Z H fo' Z' H') (sm : q = true → Same H H') (h : Rps K b Z H d v) : Rps K b Z' H' d v := by
  cases b with
  | false => exact Shs.stp (s.s0 R) h
  | true => exact Shs.same (sm (hq rfl)) h
theorem zb_own {b : Bool} {Z : AP} {H : Hp} (h : ∀ a, Z a → H a ≠ none) : ∀ a, (if b = true then Z0 else Z) a → H a ≠ none := by
  cases b with
  | false => exact h
  | true => exact fun a z => z.elim

section
variable {X : Cx} {c : DC} {q b : Bool}
/-! names, constants -/
def dVar (i : Nat) (ρ : Ev) : Res (D × Ev) := match ρ[i]? with
  | some (some d) => .ok (d, ρ)
  | _ => .err
theorem dVar_ok {i : Nat} {ρ ρ' : Ev} {d : D} (h : dVar i ρ = .ok (d, ρ')) : ρ[i]? = some (some d) ∧ ρ' = ρ := by
  unfold dVar at h
  split at h
  · rename_i e he
    have h2 := Res.ok.inj h
    cases h2
    exact ⟨he, rfl⟩
  · cases h
theorem de_var (i : Nat) {x : Str} {pos : Pos} (hk : c.ks.getD i 0 = 0 := by rfl) (hN : X.N[i]? = some x := by rfl) (hv : Vis X.env.scope x := by first | exact Or.inl rfl | exact Or.inr (Or.inl rfl) | exact Or.inr (Or.inr rfl)) (hd : (x == ("__debug__" : Str)) = false := by decide)
    (hcd : (x == ("__classdict__" : Str)) = false := by decide) : DE X c q false (.Name x pos) (dVar i) := ⟨by
  refine PE.imp (pe_var hN hv hd hcd) fun σ H Q ⟨ρ, Z, fo, R, d, ρ', hf, k⟩ => ?_
  obtain ⟨e, rfl⟩ := dVar_ok hf
  obtain ⟨v, h1, h2⟩ := R.val i d e
  rw [hk] at h2
  exact ⟨v, h1, k v H Z fo R Stp.refl (fun _ => Same.refl H) h2⟩⟩
/-- a name of any level, borrowed -/
theorem de_bor (i : Nat) {x : Str} {pos : Pos} (hN : X.N[i]? = some x := by rfl) (hv : Vis X.env.scope x := by first | exact Or.inl rfl | exact Or.inr (Or.inl rfl) | exact Or.inr (Or.inr rfl)) (hd : (x == ("__debug__" : Str)) = false := by decide)
    (hcd : (x == ("__classdict__" : Str)) = false := by decide) : DE X c q true (.Name x pos) (dVar i) := ⟨by
  refine PE.imp (pe_var hN hv hd hcd) fun σ H Q ⟨ρ, Z, fo, R, d, ρ', hf, k⟩ => ?_
  obtain ⟨e, rfl⟩ := dVar_ok hf
  obtain ⟨v, h1, h2⟩ := R.val i d e
  exact ⟨v, h1, k v H Z fo R Stp.refl (fun _ => Same.refl H) h2.cur⟩⟩
/-- a name of an owned list, given up: it is shared from here on, the slot is empty -/
def dTake (i : Nat) (ρ : Ev) : Res (D × Ev) := match ρ[i]? with
  | some (some d) => .ok (d, ρ.set i none)
  | _ => .err
theorem dTake_ok {i : Nat} {ρ ρ' : Ev} {d : D} (h : dTake i ρ = .ok (d, ρ')) : ρ[i]? = some (some d) ∧ ρ' = ρ.set i none := by
  unfold dTake at h
  split at h
  · rename_i e he
    have h2 := Res.ok.inj h
    cases h2
    exact ⟨he, rfl⟩
  · cases h
theorem RS.give {K : PySem.W.Frag} {ρ : Ev} {Z : AP} {σ : L2.St} {H : Hp} {fo : Nat → AP} {i : Nat} {d : D} (R : RS c K ρ Z σ H fo) (e : ρ[i]? = some (some d)) :
    ∃ v, σ[i]? = some (some v) ∧ RS c K (ρ.set i none) (fun b => Z b ∧ ¬ fo i b) σ H (fun j b => fo j b ∧ j ≠ i) ∧ Stp fo Z H (fun j b => fo j b ∧ j ≠ i) (fun b => Z b ∧ ¬ fo i b) H ∧ Sh K (fun b => Z b ∧ ¬ fo i b) H d v := by
  obtain ⟨v, h1, h2⟩ := R.val i d e
  have st : Stp0 Z H (fun b => Z b ∧ ¬ fo i b) H := ⟨fun _ _ h _ => h, fun b hb => .inl hb.1⟩
  refine ⟨v, h1, ?_, ⟨fun _ _ h _ => h, fun b hb => .inl hb.1, fun b hb _ hf => ⟨hb, hf i⟩, fun j b hb => .inl ⟨j, hb.1⟩⟩, Ow.frz (P := fo i) (fun b z => z) (fun b z => z) h2⟩
  refine { R with len := by rw [List.length_set]; exact R.len, val := fun j e he => ?_, dis := fun i j b h1 h2 => R.dis i j b h1.1 h2.1, own := fun b hb => R.own b hb.1, sub := fun j b hj => ⟨⟨(R.sub j b hj.1).1, fun z => hj.2 (R.dis j i b hj.1 z)⟩, (R.sub j b hj.1).2⟩, e2 := fun b hb => R.e2 b hb.1, e3 := fun b h1 h2 => ⟨R.e3 b h1 h2, fun z => ?_⟩ }
  · by_cases q : i = j
    · subst q
      by_cases hl : i < ρ.length
      · rw [List.getElem?_set_self hl] at he; cases he
      · rw [List.getElem?_eq_none (by simpa using hl)] at he; cases he
    · rw [List.getElem?_set_ne q] at he
      obtain ⟨w, h3, h4⟩ := R.val j e he
      refine ⟨w, h3, Ow.more (P := fo j) (fun b hb => ⟨hb, fun z => q z.symm⟩) (Ow.keep (fun d v s => s.stp st) _ e w (fo j) (fun b hb hz hn => ⟨rfl, hz, fun z => q (R.dis i j b z hb)⟩) h4)⟩
  · rcases (R.sub i b z).2 with z2 | z2
    · exact h2 z2
    · exact R.zi b h1 z2
theorem de_take (i : Nat) {x : Str} {pos : Pos} (hN : X.N[i]? = some x := by rfl) (hv : Vis X.env.scope x := by first | exact Or.inl rfl | exact Or.inr (Or.inl rfl) | exact Or.inr (Or.inr rfl)) (hd : (x == ("__debug__" : Str)) = false := by decide)
    (hcd : (x == ("__classdict__" : Str)) = false := by decide) : DE X c q false (.Name x pos) (dTake i) := ⟨by
  refine PE.imp (pe_var hN hv hd hcd) fun σ H Q ⟨ρ, Z, fo, R, d, ρ', hf, k⟩ => ?_
  obtain ⟨e, rfl⟩ := dTake_ok hf
  obtain ⟨v, h1, R2, st, s⟩ := R.give e
  exact ⟨v, h1, k v H _ _ R2 st (fun _ => Same.refl H) s⟩⟩
/-- shared may be read as borrowed -/
theorem de_b {e : Expr} {f : Ev → Res (D × Ev)} (h : DE X c q false e f) : DE X c q true e f := ⟨by
  refine PE.imp h.pe fun σ H Q ⟨ρ, Z, fo, R, d, ρ', hf, k⟩ => ⟨ρ, Z, fo, R, d, ρ', hf, fun v H' Z' fo' R' st sm s => k v H' Z' fo' R' st sm (Sh.cur s)⟩⟩
/-- a quiet one is one -/
theorem de_q {e : Expr} {f : Ev → Res (D × Ev)} (h : DE X c true b e f) : DE X c false b e f := ⟨by
  refine PE.imp h.pe fun σ H Q ⟨ρ, Z, fo, R, d, ρ', hf, k⟩ => ⟨ρ, Z, fo, R, d, ρ', hf, fun v H' Z' fo' R' st sm s => k v H' Z' fo' R' st (fun z => nomatch z) s⟩⟩
/-! no list within: borrowed is shared -/
mutual
def D.calm : D → Bool
  | .tup ds => D.calms ds
  | .lst _ => false
  | _ => true
def D.calms : List D → Bool
  | [] => true
  | d :: ds => d.calm && D.calms ds
end
end
end DL
/-! operators, comparisons, tests, displays, subscripts, built-in calls -/
namespace DL
open PySem PySem.Spec PyProof.Rows L2

/-! ### operators by values -/
/-- the pure operator g tells what the rule r asks -/
def OpD (K : PySem.W.Frag) (r : R2) (g : D → D → Res D) : Prop := ∀ (Z : AP) (H : Hp) (d e z : D) (x y : V) (Q : VK), (∀ a, Z a → H a ≠ none) → Sh K Z H d x → Sh K Z H e y → g d e = .ok z →
  (∀ v H', Same H H' → Sh K Z H' z v → Q v H') → r x y H Q
def UnD (K : PySem.W.Frag) (r : V → Hp → VK → Prop) (g : D → Res D) : Prop := ∀ (Z : AP) (H : Hp) (d z : D) (x : V) (Q : VK), (∀ a, Z a → H a ≠ none) → Sh K Z H d x → g d = .ok z →
  (∀ v H', Same H H' → Sh K Z H' z v → Q v H') → r x H Q
def CallD (K : PySem.W.Frag) (r : List V → Hp → VK → Prop) (g : List D → Res D) : Prop := ∀ (Z : AP) (H : Hp) (ds : List D) (z : D) (xs : List V) (Q : VK), (∀ a, Z a → H a ≠ none) → Shs K Z H ds xs → g ds = .ok z →
  (∀ v H', Same H H' → Sh K Z H' z v → Q v H') → r xs H Q
def dOp (g : D → D → Res D) (fa fb : Ev → Res (D × Ev)) (ρ : Ev) : Res (D × Ev) := (fa ρ).bind fun p => (fb p.2).bind fun r => (g p.1 r.1).bind fun z => .ok (z, r.2)
def dUn (g : D → Res D) (fa : Ev → Res (D × Ev)) (ρ : Ev) : Res (D × Ev) := (fa ρ).bind fun p => (g p.1).bind fun z => .ok (z, p.2)
def dConst (d : D) (ρ : Ev) : Res (D × Ev) := .ok (d, ρ)
section
variable {X : Cx} {c : DC} {q b : Bool} {a e : Expr} {fa fb : Ev → Res (D × Ev)} {pos : Pos}
theorem tOpD {K : PySem.W.Frag} {r : R2} {g : D → D → Res D} (h : OpD K r g) (hq : b = true → q = true) {σ : L2.St} {H : Hp} {Q : VK} (t : tD c K q b (dOp g fa fb) σ H Q) : tOp r (tD c K q b fa) (tD c K q b fb) σ H Q := by
  obtain ⟨ρ, Z, fo, R, d, ρ', hf, k⟩ := t
  obtain ⟨⟨d1, ρ1⟩, h1, hf⟩ := Res.bind_ok hf
  obtain ⟨⟨d2, ρ2⟩, h2, hf⟩ := Res.bind_ok hf
  obtain ⟨z, h3, hf⟩ := Res.bind_ok hf
  cases hf
  refine ⟨ρ, Z, fo, R, d1, ρ1, h1, fun x H1 Z1 fo1 R1 s1 m1 p1 => ⟨ρ1, Z1, fo1, R1, d2, ρ2, h2, fun y H2 Z2 fo2 R2 s2 m2 p2 => ?_⟩⟩
  refine h _ H2 d1 d2 _ x y Q (zb_own R2.ownN) (Rp.keep R1 hq s2 m2 p1) p2 h3 fun v H3 sm p3 => ?_
  exact k v H3 Z2 fo2 (R2.same sm) ((s1.trans s2).trans (Stp.same sm)) (fun hq => ((m1 hq).trans (m2 hq)).trans sm) p3
theorem de_op {op : Operator} {r : R2} {g : D → D → Res D} (ho : OpR X (binaryOp op) r) (h : OpD X.K r g) (ha : DE X c q b a fa) (hb : DE X c q b e fb) (hq : b = true → q = true := by decide) : DE X c q b (.BinOp a op e pos) (dOp g fa fb) :=
  ⟨PE.imp (pe_op ho ha.pe hb.pe) fun _ _ _ t => tOpD h hq t⟩
theorem de_cmp {op : CmpOp} {r : R2} {g : D → D → Res D} (ho : OpR X (compareOp op) r) (h : OpD X.K r g) (ha : DE X c q b a fa) (hb : DE X c q b e fb) (hm : behindInMarks op e = false) (hq : b = true → q = true := by decide) : DE X c q b (.Compare a [op] [e] pos) (dOp g fa fb) :=
  ⟨PE.imp (pe_cmpR ho ha.pe hb.pe hm) fun _ _ _ t => tOpD h hq t⟩
theorem de_ix {r : R2} {g : D → D → Res D} (ho : IxR X r) (h : OpD X.K r g) (ha : DE X c q b a fa) (hb : DE X c q b e fb) (hs : PlainIx e := by intro _ _; rfl) (hq : b = true → q = true := by decide) : DE X c q b (.Subscript a e pos) (dOp g fa fb) :=
  ⟨PE.imp (pe_ix ho ha.pe hb.pe hs) fun _ _ _ t => tOpD h hq t⟩
theorem de_un {op : UnaryOp} {r : V → Hp → VK → Prop} {g : D → Res D} (ho : UnR X (unaryOp op) r) (h : UnD X.K r g) (ha : DE X c q b a fa) : DE X c q b (.UnaryOp op a pos) (dUn g fa) := ⟨by
  refine PE.imp (pe_un ho ha.pe) fun σ H Q ⟨ρ, Z, fo, R, d, ρ', hf, k⟩ => ?_
  obtain ⟨⟨d1, ρ1⟩, h1, hf⟩ := Res.bind_ok hf
  obtain ⟨z, h3, hf⟩ := Res.bind_ok hf
  cases hf
  refine ⟨ρ, Z, fo, R, d1, ρ1, h1, fun x H1 Z1 fo1 R1 s1 m1 p1 => ?_⟩
  exact h _ H1 d1 _ x Q (zb_own R1.ownN) p1 h3 fun v H3 sm p3 => k v H3 Z1 fo1 (R1.same sm) (s1.trans (Stp.same sm)) (fun hq => (m1 hq).trans sm) p3⟩
/-- constants -/
theorem de_const {e : Expr} {d : D} {v : V} (h : PE X e (tC v)) (hs : ∀ K Z H, Sh K Z H d v) : DE X c q b e (dConst d) := ⟨by
  refine PE.imp h fun σ H Q ⟨ρ, Z, fo, R, d, ρ', hf, k⟩ => ?_
  cases hf
  exact k v H Z fo R Stp.refl (fun _ => Same.refl H) (hs _ _ _)⟩
theorem de_int {i : Int} {j pos} : DE X c q b (.Constant (.int i) j pos) (dConst (.int i)) := de_const pe_int fun _ _ _ => rfl
theorem de_str {x : PySem.Str} {j pos} : DE X c q b (.Constant (.str x) j pos) (dConst (.str x)) := de_const pe_str fun _ _ _ => rfl
theorem de_bl {x : Bool} {j pos} : DE X c q b (.Constant (.bool x) j pos) (dConst (.bl x)) := de_const pe_bl fun _ _ _ => rfl
theorem de_non {j pos} : DE X c q b (.Constant .none j pos) (dConst .non) := de_const pe_non fun _ _ _ => rfl
/-- borrowed and without a list: shared -/
def dCalm (f : Ev → Res (D × Ev)) (ρ : Ev) : Res (D × Ev) := (f ρ).bind fun p => if p.1.calm = true then .ok p else .err
mutual
theorem Sh.calm {K : PySem.W.Frag} {Z : AP} {H : Hp} (hz : ∀ b u, Z b → H b ≠ some (.tup u)) : ∀ (d : D) (v : V), d.calm = true → Sh K Z0 H d v → Sh K Z H d v
  | .non, _, _, h => h
  | .bl _, _, _, h => h
  | .int _, _, _, h => h
  | .str _, _, _, h => h
  | .fn _, _, _, h => h
  | .ty _, _, _, h => h
  | .lst _, _, hc, _ => by cases hc
  | .tup ds, _, hc, ⟨a, vs, e, r, s⟩ => by
    refine ⟨a, vs, e, ?_, Shs.calm hz ds vs hc s⟩
    rcases r with ⟨r, _⟩ | r
    · exact .inl ⟨r, fun z => hz a vs z r⟩
    · exact .inr r
theorem Shs.calm {K : PySem.W.Frag} {Z : AP} {H : Hp} (hz : ∀ b u, Z b → H b ≠ some (.tup u)) : ∀ (ds : List D) (vs : List V), D.calms ds = true → Shs K Z0 H ds vs → Shs K Z H ds vs
  | [], _, _, h => h
  | d :: ds, _, hc, ⟨v, r, e, s1, s2⟩ => by
    have hc' : (d.calm && D.calms ds) = true := hc
    rw [Bool.and_eq_true] at hc'
    exact ⟨v, r, e, Sh.calm hz d v hc'.1 s1, Shs.calm hz ds r hc'.2 s2⟩
end
theorem de_calm {f : Ev → Res (D × Ev)} (h : DE X c q true e f) : DE X c q false e (dCalm f) := ⟨by
  refine PE.imp h.pe fun σ H Q ⟨ρ, Z, fo, R, d, ρ', hf, k⟩ => ?_
  obtain ⟨⟨d1, ρ1⟩, h1, hf⟩ := Res.bind_ok hf
  by_cases hc : d1.calm = true
  · rw [if_pos hc] at hf
    cases hf
    exact ⟨ρ, Z, fo, R, _, _, h1, fun v H1 Z1 fo1 R1 s1 m1 p1 => k v H1 Z1 fo1 R1 s1 m1 (Sh.calm R1.notup _ v hc p1)⟩
  · rw [if_neg hc] at hf
    cases hf⟩

/-! ### lists of expressions, displays -/
def dNil (ρ : Ev) : Res (List D × Ev) := .ok ([], ρ)
def dCons (f : Ev → Res (D × Ev)) (g : Ev → Res (List D × Ev)) (ρ : Ev) : Res (List D × Ev) := (f ρ).bind fun p => (g p.2).bind fun r => .ok (p.1 :: r.1, r.2)
theorem das_nil : DAs X c q b [] dNil := ⟨by
  refine PA.imp pa_nil fun σ H Q ⟨ρ, Z, fo, R, ds, ρ', hf, k⟩ => ?_
  cases hf
  exact k [] H Z fo R Stp.refl (fun _ => Same.refl H) rfl rfl⟩
theorem das_cons {es : List Expr} {f : Ev → Res (D × Ev)} {g : Ev → Res (List D × Ev)} (ha : DE X c q b a f) (hr : DAs X c q b es g) (hq : b = true → q = true := by decide)
    (hs : starEach (a :: es) X.env = (false, eval a X.env) :: starEach es X.env := by rfl) : DAs X c q b (a :: es) (dCons f g) := ⟨by
  refine PA.imp (pa_cons ha.pe hr.pa hs) fun σ H Q ⟨ρ, Z, fo, R, ds, ρ', hf, k⟩ => ?_
  obtain ⟨⟨d1, ρ1⟩, h1, hf⟩ := Res.bind_ok hf
  obtain ⟨⟨d2, ρ2⟩, h2, hf⟩ := Res.bind_ok hf
  cases hf
  refine ⟨ρ, Z, fo, R, d1, ρ1, h1, fun x H1 Z1 fo1 R1 s1 m1 p1 => ⟨ρ1, Z1, fo1, R1, d2, ρ2, h2, fun xs H2 Z2 fo2 R2 s2 m2 l2 p2 => ?_⟩⟩
  exact k (x :: xs) H2 Z2 fo2 R2 (s1.trans s2) (fun hq => (m1 hq).trans (m2 hq)) (by rw [List.length_cons, List.length_cons, l2]) ⟨x, xs, rfl, Rp.keep R1 hq s2 m2 p1, p2⟩⟩
def dTup (g : Ev → Res (List D × Ev)) (ρ : Ev) : Res (D × Ev) := (g ρ).bind fun p => .ok (.tup p.1, p.2)
theorem sizeLine_ge {n : Nat} (h : n ≤ 16777216) : n ≤ sizeLine := by rw [sizeLine_eq]; exact h
theorem zb_nz {b : Bool} {Z : AP} {p : Addr} (h : ¬ Z p) : ¬ (if b = true then Z0 else Z) p := by
  cases b with
  | false => exact h
  | true => exact fun z => z
theorem de_tup {es : List Expr} {k} {g : Ev → Res (List D × Ev)} (ha : DAs X c q b es g) (hl : es.length ≤ 16777216 := by decide) : DE X c q b (.Tuple es k pos) (dTup g) := ⟨by
  refine PE.imp (pe_tup ha.pa) fun σ H Q ⟨ρ, Z, fo, R, ds, ρ', hf, k⟩ => ?_
  obtain ⟨⟨d1, ρ1⟩, h1, hf⟩ := Res.bind_ok hf
  cases hf
  refine ⟨ρ, Z, fo, R, _, _, h1, fun xs H1 Z1 fo1 R1 s1 m1 l1 p1 => ⟨sizeLine_ge (by omega), fun p hp => ?_⟩⟩
  have sm : Same H1 (upd H1 p (.tup xs)) := same_upd hp
  exact k _ _ Z1 fo1 (R1.same sm) (s1.trans (Stp.same sm)) (fun hq => (m1 hq).trans sm) ⟨p, xs, rfl, RdT.new upd_same (zb_nz (R1.nz hp)), Shs.same sm p1⟩⟩
/-! a fresh list of the program's own: its addresses are new, or were a slot's -/
structure FrR (c : DC) (K : PySem.W.Frag) (fo0 : Nat → AP) (H0 : Hp) (fo : Nat → AP) (Z : AP) (H : Hp) (n : Nat) (d : D) (v : V) : Prop where
  ex : ∃ P : AP, Ow K Z H (n + 1) d v P ∧ (∀ b, P b → Z b ∧ (c.M b ∨ c.Hi b = none)) ∧ (∀ i b, P b → ¬ fo i b) ∧ ∀ b, P b → (∃ j, fo0 j b) ∨ H0 b = none
def tF (c : DC) (K : PySem.W.Frag) (n : Nat) (f : Ev → Res (D × Ev)) : TE := fun σ H Q => ∃ ρ Z fo, RS c K ρ Z σ H fo ∧ ∃ d ρ', f ρ = .ok (d, ρ') ∧
  ∀ v H' Z' fo', RS c K ρ' Z' σ H' fo' → Stp fo Z H fo' Z' H' → FrR c K fo H fo' Z' H' n d v → Q v H'
structure DF (X : Cx) (c : DC) (n : Nat) (e : Expr) (f : Ev → Res (D × Ev)) : Prop where
  pe : PE X e (tF c X.K n f)
theorem FrR.back {K : PySem.W.Frag} {fo0 fo1 fo : Nat → AP} {Z0 Z1 Z : AP} {H0 H1 H : Hp} {n : Nat} {d : D} {v : V} (s : Stp fo0 Z0 H0 fo1 Z1 H1) (h : FrR c K fo1 H1 fo Z H n d v) : FrR c K fo0 H0 fo Z H n d v := by
  obtain ⟨P, h1, h2, h3, h4⟩ := h.ex
  refine ⟨P, h1, h2, h3, fun b hb => ?_⟩
  rcases h4 b hb with ⟨j, hj⟩ | z
  · exact s.k4 j b hj
  · exact (s.none z).symm
/-- an address that was free is owned from here on -/
theorem RS.take {K : PySem.W.Frag} {ρ : Ev} {Z : AP} {σ : L2.St} {H : Hp} {fo : Nat → AP} {p : Addr} {vs : List V} (R : RS c K ρ Z σ H fo) (hp : H p = none) :
    RS c K ρ (fun b => Z b ∨ b = p) σ (upd H p (.lst vs)) fo ∧ Stp fo Z H fo (fun b => Z b ∨ b = p) (upd H p (.lst vs)) := by
  have sm : Same H (upd H p (.lst vs)) := same_upd hp
  have st : Stp0 Z H (fun b => Z b ∨ b = p) (upd H p (.lst vs)) := ⟨fun b o h _ => sm b o h, fun b hb => hb.elim .inl fun e => .inr (e ▸ hp)⟩
  have R1 := R.same sm
  refine ⟨{ R1 with val := fun i d h => ?_, own := fun b hb => ?_, sub := fun i b hb => ⟨.inl (R.sub i b hb).1, (R.sub i b hb).2⟩, e2 := fun b hb => ?_, e3 := fun b h1 h2 => .inl (R.e3 b h1 h2) },
    ⟨fun b o h _ => sm b o h, fun b hb => hb.elim .inl fun e => .inr (.inl (e ▸ hp)), fun b hb _ _ => .inl hb, fun i b hb => .inl ⟨i, hb⟩⟩⟩
  · obtain ⟨v, h1, h2⟩ := R.val i d h
    refine ⟨v, h1, Ow.keep (fun d v s => s.stp st) _ d v (fo i) (fun b hb hz hn => ⟨?_, .inl hz⟩) h2⟩
    rw [upd_ne]
    intro e
    rw [e] at hn
    exact hn hp
  · rcases hb with hb | hb
    · exact R1.own b hb
    · exact ⟨.lst vs, by rw [hb]; exact upd_same, rfl⟩
  · rcases hb with hb | hb
    · exact R.e2 b hb
    · rw [hb]
      exact .inr (R.dm p hp)
/-- a new list of shared items -/
theorem FrR.new {K : PySem.W.Frag} {ρ : Ev} {Z : AP} {σ : L2.St} {H : Hp} {fo : Nat → AP} {p : Addr} {ds : List D} {vs : List V} (R : RS c K ρ Z σ H fo) (hp : H p = none) (h : Shs K Z H ds vs) :
    FrR c K fo H fo (fun b => Z b ∨ b = p) (upd H p (.lst vs)) 0 (.lst ds) (.ref p) := by
  obtain ⟨R1, st⟩ := R.take (vs := vs) hp
  refine ⟨fun b => b = p, ⟨p, vs, rfl, rfl, .inr rfl, upd_same, h.len, fun _ _ => False, fun _ _ z => z.elim, fun _ _ _ z _ => z.elim, fun i d v h1 h2 => ?_⟩, fun b hb => ⟨.inr hb, .inr (by rw [hb]; exact R.dm p hp)⟩, fun i b hb z => ?_, fun b hb => .inr (by rw [hb]; exact hp)⟩
  · obtain ⟨w, h3, h4⟩ := (h.stp (st.s0 R)).get h1
    rw [h3] at h2
    cases h2
    exact h4
  · rw [hb] at z
    exact R.nz hp (R.sub i p z).1
def dLst (g : Ev → Res (List D × Ev)) (ρ : Ev) : Res (D × Ev) := (g ρ).bind fun p => .ok (.lst p.1, p.2)
theorem df_lst {es : List Expr} {g : Ev → Res (List D × Ev)} (ha : DAs X c false false es g) (hl : es.length ≤ 16777216 := by decide) : DF X c 0 (.List es pos) (dLst g) := ⟨by
  refine PE.imp (pe_lst ha.pa) fun σ H Q ⟨ρ, Z, fo, R, ds, ρ', hf, k⟩ => ?_
  obtain ⟨⟨d1, ρ1⟩, h1, hf⟩ := Res.bind_ok hf
  cases hf
  refine ⟨ρ, Z, fo, R, _, _, h1, fun xs H1 Z1 fo1 R1 s1 m1 l1 p1 => ⟨sizeLine_ge (by omega), fun p hp => ?_⟩⟩
  obtain ⟨R2, st⟩ := R1.take (vs := xs) hp
  exact k _ _ _ fo1 R2 (s1.trans st) ((FrR.new R1 hp p1).back s1)⟩
/-- a fresh list, taken as shared data -/
theorem RS.freeze {K : PySem.W.Frag} {ρ : Ev} {Z Z0 : AP} {σ : L2.St} {H H0 : Hp} {fo fo0 : Nat → AP} {n : Nat} {d : D} {v : V} (R : RS c K ρ Z σ H fo) (s : Stp fo0 Z0 H0 fo Z H) (h : FrR c K fo0 H0 fo Z H n d v) :
    ∃ Z', RS c K ρ Z' σ H fo ∧ Stp fo0 Z0 H0 fo Z' H ∧ Sh K Z' H d v := by
  obtain ⟨P, h1, h2, h3, h4⟩ := h.ex
  have st : Stp0 Z H (fun b => Z b ∧ ¬ P b) H := ⟨fun _ _ h _ => h, fun b hb => .inl hb.1⟩
  refine ⟨fun b => Z b ∧ ¬ P b, ?_, ⟨s.k1, fun b hb => s.k2 b hb.1, fun b hb hn hf => ⟨s.k3 b hb hn hf, fun z => ?_⟩, s.k4⟩, Ow.frz (P := P) (fun b z => z) (fun b z => z) h1⟩
  refine { R with val := fun i e he => ?_, own := fun b hb => R.own b hb.1, sub := fun i b hb => ⟨⟨(R.sub i b hb).1, fun z => h3 i b z hb⟩, (R.sub i b hb).2⟩, e2 := fun b hb => R.e2 b hb.1, e3 := fun b z1 z2 => ⟨R.e3 b z1 z2, fun z => ?_⟩ }
  · obtain ⟨w, q1, q2⟩ := R.val i e he
    exact ⟨w, q1, Ow.keep (fun d v s => s.stp st) _ e w (fo i) (fun b hb hz hn => ⟨rfl, hz, fun z => h3 i b z hb⟩) q2⟩
  · rcases (h2 b z).2 with y | y
    · exact z2 y
    · exact R.zi b z1 y
  · rcases h4 b z with ⟨j, hj⟩ | y
    · exact hf j hj
    · exact hn y
theorem de_f {n : Nat} {f : Ev → Res (D × Ev)} (h : DF X c n e f) : DE X c false false e f := ⟨by
  refine PE.imp h.pe fun σ H Q ⟨ρ, Z, fo, R, d, ρ', hf, k⟩ => ⟨ρ, Z, fo, R, d, ρ', hf, fun v H1 Z1 fo1 R1 s1 p1 => ?_⟩
  obtain ⟨Z2, R2, s2, p2⟩ := R1.freeze s1 p1
  exact k v H1 Z2 fo1 R2 s2 (fun z => nomatch z) p2⟩

/-! ### tests -/
/-- truth -/
def gTru : D → Res Bool
  | .non => .ok false
  | .bl b => .ok b
  | .int i => .ok (i != 0)
  | .str x => if x.length ≤ 16777216 then .ok ((x.length : Int) != 0) else .err
  | .tup ds => .ok (!ds.isEmpty)
  | .lst ds => .ok (!ds.isEmpty)
  | .fn _ => .err
  | .ty _ => .err
theorem isEmpty_len {α β : Type} {xs : List α} {ys : List β} (h : xs.length = ys.length) : xs.isEmpty = ys.isEmpty := by
  cases xs <;> cases ys <;> simp at h ⊢
theorem gTru_ok {K : PySem.W.Frag} {Z : AP} {H : Hp} {d : D} {v : V} {k : Bool} (h : Sh K Z H d v) (g : gTru d = .ok k) : TruV K v H k := by
  cases d with
  | non => cases h; cases g; exact (rfl : false = false)
  | bl bb => cases h; cases g; exact (rfl : k = k)
  | int i => cases h; cases g; exact (rfl : (i != 0) = (i != 0))
  | str x =>
    cases h
    have g' : (if x.length ≤ 16777216 then Res.ok ((x.length : Int) != 0) else .err) = .ok k := g
    by_cases hl : x.length ≤ 16777216
    · rw [if_pos hl] at g'
      cases g'
      exact (⟨sizeLine_ge hl, rfl⟩ : x.length ≤ sizeLine ∧ _)
    · rw [if_neg hl] at g'; cases g'
  | tup ds =>
    obtain ⟨a, vs, rfl, r, s⟩ := h
    cases g
    exact .inr (.inl ⟨vs, r.sq, by rw [isEmpty_len s.len]⟩)
  | lst ds =>
    obtain ⟨a, vs, rfl, r, s⟩ := h
    cases g
    exact .inl ⟨vs, r.sq, by rw [isEmpty_len s.len]⟩
  | fn _ => cases g
  | ty _ => cases g
def dTru (f : Ev → Res (D × Ev)) (ρ : Ev) : Res (Bool × Ev) := (f ρ).bind fun p => (gTru p.1).bind fun k => .ok (k, p.2)
def dBool (f : Ev → Res (D × Ev)) (ρ : Ev) : Res (Bool × Ev) := (f ρ).bind fun p => match p.1 with
  | .bl k => .ok (k, p.2)
  | _ => .err
theorem dt_tru {f : Ev → Res (D × Ev)} (h : DE X c q b e f) (he : ∀ whole, isTrue e X.env whole = (do let v ← whole; standAt e.pos; holding [v] (truthy v)) := by intro _; rfl) : DT X c q e (dTru f) := ⟨by
  refine PT.imp (pt_truth h.pe he) fun σ H Q ⟨ρ, Z, fo, R, d, ρ', hf, k⟩ => ?_
  obtain ⟨⟨d1, ρ1⟩, h1, hf⟩ := Res.bind_ok hf
  obtain ⟨z, h3, hf⟩ := Res.bind_ok hf
  cases hf
  exact ⟨ρ, Z, fo, R, d1, ρ1, h1, fun v H1 Z1 fo1 R1 s1 m1 p1 => ⟨_, gTru_ok p1 h3, k H1 Z1 fo1 R1 s1 m1⟩⟩⟩
theorem tTestD {K : PySem.W.Frag} {t : TE} {σ : L2.St} {H : Hp} {f : Ev → Res (D × Ev)} {Q : Bool → Hp → Prop} (ht : ∀ Q, tD c K q b f σ H Q → t σ H Q) (h : tT c K q (dBool f) σ H Q) : tTest t σ H Q := by
  obtain ⟨ρ, Z, fo, R, d, ρ', hf, k⟩ := h
  obtain ⟨⟨d1, ρ1⟩, h1, hf⟩ := Res.bind_ok hf
  refine ht _ ⟨ρ, Z, fo, R, d1, ρ1, h1, fun v H1 Z1 fo1 R1 s1 m1 p1 => ?_⟩
  cases d1 with
  | bl z =>
    cases hf
    exact ⟨_, p1, k H1 Z1 fo1 R1 s1 m1⟩
  | _ => cases hf
theorem dt_cmp {op : CmpOp} {r : R2} {g : D → D → Res D} (ho : OpR X (compareOp op) r) (h : OpD X.K r g) (ha : DE X c q b a fa) (hb : DE X c q b e fb) (hm : behindInMarks op e = false) (hq : b = true → q = true := by decide) : DT X c q (.Compare a [op] [e] pos) (dBool (dOp g fa fb)) :=
  ⟨PT.imp (pt_cmpR ho ha.pe hb.pe hm) fun σ H Q t => tTestD (b := b) (fun Q' t' => tOpD h hq t') t⟩
def dNot (f : Ev → Res (Bool × Ev)) (ρ : Ev) : Res (Bool × Ev) := (f ρ).bind fun p => .ok (!p.1, p.2)
theorem dt_not {f : Ev → Res (Bool × Ev)} (h : DT X c q e f) : DT X c q (.UnaryOp .Not e pos) (dNot f) := ⟨by
  refine PT.imp (pt_not h.pt) fun σ H Q ⟨ρ, Z, fo, R, d, ρ', hf, k⟩ => ?_
  obtain ⟨⟨d1, ρ1⟩, h1, hf⟩ := Res.bind_ok hf
  cases hf
  exact ⟨ρ, Z, fo, R, d1, ρ1, h1, k⟩⟩
def dAnd (f g : Ev → Res (Bool × Ev)) (ρ : Ev) : Res (Bool × Ev) := (f ρ).bind fun p => if p.1 = true then g p.2 else .ok (false, p.2)
def dOr (f g : Ev → Res (Bool × Ev)) (ρ : Ev) : Res (Bool × Ev) := (f ρ).bind fun p => if p.1 = true then .ok (true, p.2) else g p.2
structure DW (X : Cx) (c : DC) (q : Bool) (e : Expr) (f : Ev → Res (Bool × Ev)) : Prop where
  pw : PW X e (tT c X.K q f)
theorem PW.imp {X : Cx} {e : Expr} {t u : TT} (h : PW X e t) (k : ∀ σ H Q, u σ H Q → t σ H Q) : PW X e u := ⟨fun wh pins s σ H Q I q => h.run wh pins s σ H Q I (k _ _ _ q)⟩
theorem dw_dt {f : Ev → Res (Bool × Ev)} (h : DW X c q e f) : DT X c q e f := ⟨h.pw.pt⟩
theorem dw_and1 {f : Ev → Res (Bool × Ev)} (h : DT X c q e f) : DW X c q (.BoolOp .And [e] pos) f := ⟨pw_and1 h.pt⟩
theorem dw_or1 {f : Ev → Res (Bool × Ev)} (h : DT X c q e f) : DW X c q (.BoolOp .Or [e] pos) f := ⟨pw_or1 h.pt⟩
theorem dw_and {rest : List Expr} {f g : Ev → Res (Bool × Ev)} (h : DT X c q a f) (h2 : DW X c q (.BoolOp .And (e :: rest) pos) g) : DW X c q (.BoolOp .And (a :: e :: rest) pos) (dAnd f g) := ⟨by
  refine PW.imp (pw_and h.pt h2.pw) fun σ H Q ⟨ρ, Z, fo, R, d, ρ', hf, k⟩ => ?_
  obtain ⟨⟨d1, ρ1⟩, h1, hf⟩ := Res.bind_ok hf
  refine ⟨ρ, Z, fo, R, d1, ρ1, h1, fun H1 Z1 fo1 R1 s1 m1 => ?_⟩
  cases d1 with
  | true =>
    rw [if_pos rfl] at hf ⊢
    exact ⟨ρ1, Z1, fo1, R1, d, ρ', hf, fun H2 Z2 fo2 R2 s2 m2 => k H2 Z2 fo2 R2 (s1.trans s2) (fun hq => (m1 hq).trans (m2 hq))⟩
  | false =>
    rw [if_neg Bool.false_ne_true] at hf ⊢
    cases hf
    exact k H1 Z1 fo1 R1 s1 m1⟩
theorem dw_or {rest : List Expr} {f g : Ev → Res (Bool × Ev)} (h : DT X c q a f) (h2 : DW X c q (.BoolOp .Or (e :: rest) pos) g) : DW X c q (.BoolOp .Or (a :: e :: rest) pos) (dOr f g) := ⟨by
  refine PW.imp (pw_or h.pt h2.pw) fun σ H Q ⟨ρ, Z, fo, R, d, ρ', hf, k⟩ => ?_
  obtain ⟨⟨d1, ρ1⟩, h1, hf⟩ := Res.bind_ok hf
  refine ⟨ρ, Z, fo, R, d1, ρ1, h1, fun H1 Z1 fo1 R1 s1 m1 => ?_⟩
  cases d1 with
  | false =>
    rw [if_neg Bool.false_ne_true] at hf ⊢
    exact ⟨ρ1, Z1, fo1, R1, d, ρ', hf, fun H2 Z2 fo2 R2 s2 m2 => k H2 Z2 fo2 R2 (s1.trans s2) (fun hq => (m1 hq).trans (m2 hq))⟩
  | true =>
    rw [if_pos rfl] at hf ⊢
    cases hf
    exact k H1 Z1 fo1 R1 s1 m1⟩
/-- a if t else b -/
def dIf {α : Type} (t : Ev → Res (Bool × Ev)) (f g : Ev → Res α) (ρ : Ev) : Res α := (t ρ).bind fun p => if p.1 = true then f p.2 else g p.2
theorem de_if {t : Expr} {ft : Ev → Res (Bool × Ev)} (h : DT X c q t ft) (ha : DE X c q b a fa) (hb : DE X c q b e fb) : DE X c q b (.IfExp t a e pos) (dIf ft fa fb) := ⟨by
  refine PE.imp (pe_ifExp h.pt ha.pe hb.pe) fun σ H Q ⟨ρ, Z, fo, R, d, ρ', hf, k⟩ => ?_
  obtain ⟨⟨d1, ρ1⟩, h1, hf⟩ := Res.bind_ok hf
  refine ⟨ρ, Z, fo, R, d1, ρ1, h1, fun H1 Z1 fo1 R1 s1 m1 => ?_⟩
  cases d1 with
  | true =>
    rw [if_pos rfl] at hf ⊢
    exact ⟨ρ1, Z1, fo1, R1, d, ρ', hf, fun v H2 Z2 fo2 R2 s2 m2 p2 => k v H2 Z2 fo2 R2 (s1.trans s2) (fun hq => (m1 hq).trans (m2 hq)) p2⟩
  | false =>
    rw [if_neg Bool.false_ne_true] at hf ⊢
    exact ⟨ρ1, Z1, fo1, R1, d, ρ', hf, fun v H2 Z2 fo2 R2 s2 m2 p2 => k v H2 Z2 fo2 R2 (s1.trans s2) (fun hq => (m1 hq).trans (m2 hq)) p2⟩⟩
/-- and, or, not as values -/
def dAndV (f g : Ev → Res (D × Ev)) (ρ : Ev) : Res (D × Ev) := (f ρ).bind fun p => (gTru p.1).bind fun k => if k = true then g p.2 else .ok p
def dOrV (f g : Ev → Res (D × Ev)) (ρ : Ev) : Res (D × Ev) := (f ρ).bind fun p => (gTru p.1).bind fun k => if k = true then .ok p else g p.2
def gNot (d : D) : Res D := (gTru d).bind fun k => .ok (.bl (!k))
theorem de_one {op} (h : DE X c q b a fa) : DE X c q b (.BoolOp op [a] pos) fa := ⟨pe_one h.pe⟩
theorem de_and {rest : List Expr} (ha : DE X c q b a fa) (hb : DE X c q b (.BoolOp .And (e :: rest) pos) fb) : DE X c q b (.BoolOp .And (a :: e :: rest) pos) (dAndV fa fb) := ⟨by
  refine PE.imp (pe_andT ha.pe hb.pe) fun σ H Q ⟨ρ, Z, fo, R, d, ρ', hf, k⟩ => ?_
  obtain ⟨⟨d1, ρ1⟩, h1, hf⟩ := Res.bind_ok hf
  obtain ⟨kk, h2, hf⟩ := Res.bind_ok hf
  refine ⟨ρ, Z, fo, R, d1, ρ1, h1, fun v H1 Z1 fo1 R1 s1 m1 p1 => ⟨kk, gTru_ok p1 h2, ?_⟩⟩
  cases kk with
  | true =>
    rw [if_pos rfl] at hf ⊢
    exact ⟨ρ1, Z1, fo1, R1, d, ρ', hf, fun v H2 Z2 fo2 R2 s2 m2 p2 => k v H2 Z2 fo2 R2 (s1.trans s2) (fun hq => (m1 hq).trans (m2 hq)) p2⟩
  | false =>
    rw [if_neg Bool.false_ne_true] at hf ⊢
    cases hf
    exact k v H1 Z1 fo1 R1 s1 m1 p1⟩
theorem de_or {rest : List Expr} (ha : DE X c q b a fa) (hb : DE X c q b (.BoolOp .Or (e :: rest) pos) fb) : DE X c q b (.BoolOp .Or (a :: e :: rest) pos) (dOrV fa fb) := ⟨by
  refine PE.imp (pe_orT ha.pe hb.pe) fun σ H Q ⟨ρ, Z, fo, R, d, ρ', hf, k⟩ => ?_
  obtain ⟨⟨d1, ρ1⟩, h1, hf⟩ := Res.bind_ok hf
  obtain ⟨kk, h2, hf⟩ := Res.bind_ok hf
  refine ⟨ρ, Z, fo, R, d1, ρ1, h1, fun v H1 Z1 fo1 R1 s1 m1 p1 => ⟨kk, gTru_ok p1 h2, ?_⟩⟩
  cases kk with
  | false =>
    rw [if_neg Bool.false_ne_true] at hf ⊢
    exact ⟨ρ1, Z1, fo1, R1, d, ρ', hf, fun v H2 Z2 fo2 R2 s2 m2 p2 => k v H2 Z2 fo2 R2 (s1.trans s2) (fun hq => (m1 hq).trans (m2 hq)) p2⟩
  | true =>
    rw [if_pos rfl] at hf ⊢
    cases hf
    exact k v H1 Z1 fo1 R1 s1 m1 p1⟩
theorem de_not (ha : DE X c q b a fa) : DE X c q b (.UnaryOp .Not a pos) (dUn gNot fa) := ⟨by
  refine PE.imp (pe_notT ha.pe) fun σ H Q ⟨ρ, Z, fo, R, d, ρ', hf, k⟩ => ?_
  obtain ⟨⟨d1, ρ1⟩, h1, hf⟩ := Res.bind_ok hf
  obtain ⟨z, h2, hf⟩ := Res.bind_ok hf
  obtain ⟨kk, h3, h2⟩ := Res.bind_ok h2
  cases h2
  cases hf
  exact ⟨ρ, Z, fo, R, d1, ρ1, h1, fun v H1 Z1 fo1 R1 s1 m1 p1 => ⟨kk, gTru_ok p1 h3, k _ H1 Z1 fo1 R1 s1 m1 rfl⟩⟩⟩

/-! ### calls of built-ins -/
def dCallB (g : List D → Res D) (f : Ev → Res (List D × Ev)) (ρ : Ev) : Res (D × Ev) := (f ρ).bind fun p => (g p.1).bind fun z => .ok (z, p.2)
theorem tCBD {K : PySem.W.Frag} {r : List V → Hp → VK → Prop} {g : List D → Res D} {n : Nat} {f : Ev → Res (List D × Ev)} (h : CallD K r g) {σ : L2.St} {H : Hp} {Q : VK} (t : tD c K q b (dCallB g f) σ H Q) : tCB r (tDs c K q b n f) σ H Q := by
  obtain ⟨ρ, Z, fo, R, d, ρ', hf, k⟩ := t
  obtain ⟨⟨d1, ρ1⟩, h1, hf⟩ := Res.bind_ok hf
  obtain ⟨z, h3, hf⟩ := Res.bind_ok hf
  cases hf
  refine ⟨ρ, Z, fo, R, d1, ρ1, h1, fun x H1 Z1 fo1 R1 s1 m1 _ p1 => ?_⟩
  exact h _ H1 d1 _ x Q (zb_own R1.ownN) p1 h3 fun v H3 sm p3 => k v H3 Z1 fo1 (R1.same sm) (s1.trans (Stp.same sm)) (fun hq => (m1 hq).trans sm) p3
theorem de_callB {x : PySem.Str} {id : String} {p : Pos} {es : List Expr} {r : List V → Hp → VK → Prop} {g : List D → Res D} {f : Ev → Res (List D × Ev)} (hc : CallR X (.builtin id) r) (h : CallD X.K r g) (hm : X.mg x = none) (hv : bootBuiltins x = some (.builtin id)) (ha : DAs X c q b (e :: es) f)
    (hg : Gl X x := by rfl) (hn : x ≠ "__name__" := by decide) (hdb : (x == ("__debug__" : Str)) = false := by decide) (he : starEach (e :: es) X.env = (false, eval e X.env) :: starEach es X.env := by rfl) (hpl : (backTo pos (starEach es X.env)).any (·.1) = false := by rfl) :
    DE X c q b (.Call (.Name x p) (e :: es) [] pos) (dCallB g f) := ⟨PE.imp (pe_callB hc hg hm hv ha.pa hn hdb he hpl) fun _ _ _ t => tCBD h t⟩
theorem de_callTy {x : PySem.Str} {T : String} {p : Pos} {es : List Expr} {r : List V → Hp → VK → Prop} {g : List D → Res D} {f : Ev → Res (List D × Ev)} (hc : CallR X (.type T) r) (h : CallD X.K r g) (hm : X.mg x = none) (hv : bootBuiltins x = some (.type T)) (ha : DAs X c q b (e :: es) f)
    (hg : Gl X x := by rfl) (hn : x ≠ "__name__" := by decide) (hdb : (x == ("__debug__" : Str)) = false := by decide) (he : starEach (e :: es) X.env = (false, eval e X.env) :: starEach es X.env := by rfl) (hpl : (backTo pos (starEach es X.env)).any (·.1) = false := by rfl) :
    DE X c q b (.Call (.Name x p) (e :: es) [] pos) (dCallB g f) := ⟨PE.imp (pe_callTy hc hg hm hv ha.pa hn hdb he hpl) fun _ _ _ t => tCBD h t⟩
end
end DL
/-! pure operators and their rules -/
namespace DL
open PySem PySem.Spec PyProof.Rows L2

instance {i j : Int} : Decidable (CMul i j) := by unfold CMul; infer_instance
instance {i j : Int} : Decidable (CMulW i j) := by unfold CMulW; infer_instance
instance {i j : Int} : Decidable (CDivW i j) := by unfold CDivW; infer_instance
instance {i j : Int} : Decidable (CPow i j) := by unfold CPow; infer_instance
abbrev CMulA (i j : Int) : Prop := CMul i j ∨ CMulW i j

/-- two ints under C -/
def gInt (C : Int → Int → Prop) [∀ i j, Decidable (C i j)] (f : Int → Int → D) : D → D → Res D
  | .int i, .int j => if C i j then .ok (f i j) else .err
  | _, _ => .err
def gAdd : D → D → Res D
  | .int i, .int j => .ok (.int (i + j))
  | .str x, .str y => if x.length + y.length ≤ 16777216 then .ok (.str (x ++ y)) else .err
  | .tup xs, .tup ys => if xs.length + ys.length ≤ 16777216 then .ok (.tup (xs ++ ys)) else .err
  | .int i, .bl k => .ok (.int (i + b2i k))
  | _, _ => .err
def gSub : D → D → Res D
  | .int i, .int j => .ok (.int (i - j))
  | _, _ => .err
abbrev gMul : D → D → Res D := gInt CMulA fun i j => .int (i * j)
abbrev gFdiv : D → D → Res D := gInt CDivW fun i j => .int (i / j)
abbrev gMod : D → D → Res D := gInt (fun _ j => 0 < j) fun i j => .int (i % j)
abbrev gPow : D → D → Res D := gInt CPow fun i j => .int (i ^ j.toNat)
abbrev gShl : D → D → Res D := gInt CPow fun i j => .int (i * 2 ^ j.toNat)
def gNeg : D → Res D
  | .int i => .ok (.int (-i))
  | _ => .err
def rAddA (K : PySem.W.Frag) : R2 := fun x y H Q => (rI0 fun i j => .int (i + j)) x y H Q ∨ (∃ i j, x = .str i ∧ y = .str j ∧ i.length + j.length ≤ sizeLine ∧ Q (.str (i ++ j)) H) ∨ rCatA K x y H Q ∨ (∃ i k, x = .int i ∧ y = .bl k ∧ Q (.int (i + b2i k)) H)
theorem if_ok {α : Type} {c : Prop} [Decidable c] {a b : α} (h : (if c then Res.ok a else .err) = .ok b) : c ∧ a = b := by
  by_cases hc : c
  · rw [if_pos hc] at h
    cases h
    exact ⟨hc, rfl⟩
  · rw [if_neg hc] at h
    cases h
/-- the ints of a row of data -/
def ints? : List D → Option (List Int)
  | [] => some []
  | .int i :: ds => (ints? ds).map (i :: ·)
  | _ :: _ => none
theorem ints?_ok {K : PySem.W.Frag} {Z : AP} {H : Hp} : ∀ {ds : List D} {vs : List V} {ns : List Int}, Shs K Z H ds vs → ints? ds = some ns → vs = ns.map V.int
  | [], vs, ns, h, e => by
    cases e
    exact h
  | .int i :: ds, _, ns, ⟨v, r, rfl, s1, s2⟩, e => by
    cases q : ints? ds with
    | none => rw [show ints? (.int i :: ds) = (ints? ds).map (i :: ·) from rfl, q] at e; cases e
    | some ms =>
      rw [show ints? (.int i :: ds) = (ints? ds).map (i :: ·) from rfl, q] at e
      cases e
      have s1' : v = .int i := s1
      rw [s1', ints?_ok s2 q]
      rfl
  | .non :: ds, _, _, _, e => by cases e
  | .bl _ :: ds, _, _, _, e => by cases e
  | .str _ :: ds, _, _, _, e => by cases e
  | .tup _ :: ds, _, _, _, e => by cases e
  | .lst _ :: ds, _, _, _, e => by cases e
  | .fn _ :: ds, _, _, _, e => by cases e
  | .ty _ :: ds, _, _, _, e => by cases e
/-- < and its kin -/
def gLt : D → D → Res D
  | .int i, .int j => .ok (.bl (decide (i < j)))
  | .str x, .str y => .ok (.bl (decide (x.cps.toList < y.cps.toList)))
  | .tup xs, .tup ys => match ints? xs, ints? ys with
    | some ns, some ms => .ok (.bl (HT.lexLt ns ms))
    | _, _ => .err
  | _, _ => .err
def gIntB (f : Int → Int → Bool) : D → D → Res D
  | .int i, .int j => .ok (.bl (f i j))
  | _, _ => .err
abbrev gLe := gIntB fun i j => decide (i ≤ j)
def lexGt (ns ms : List Int) : Bool := Ob.lexAt (fun j => decide (ns.getD j 0 = ms.getD j 0)) (fun j => decide (ms.getD j 0 < ns.getD j 0)) (decide (ns.length > ms.length)) 0 (min ns.length ms.length)
def gGt : D → D → Res D
  | .int i, .int j => .ok (.bl (decide (j < i)))
  | .tup xs, .tup ys => match ints? xs, ints? ys with
    | some ns, some ms => .ok (.bl (lexGt ns ms))
    | _, _ => .err
  | _, _ => .err
def rGtT (K : PySem.W.Frag) : R2 := fun x y H Q => ∃ (a b : Addr) (ns ms : List Int), x = .ref a ∧ y = .ref b ∧ SqT K H a (ns.map V.int) ∧ SqT K H b (ms.map V.int) ∧ Q (.bl (lexGt ns ms)) H
def rGtA (K : PySem.W.Frag) : R2 := fun x y H Q => (rI0 fun i j => .bl (decide (j < i))) x y H Q ∨ rGtT K x y H Q
theorem op_gtT {X : Cx} (hu : X.A.units < cLine) : OpR X (compareOp .Gt) (rGtT X.K) := by
  intro pins s σ H x y v u Q I rx ry h
  obtain ⟨a, b, ns, ms, rfl, rfl, ha, hb, q⟩ := h
  cases rx
  cases ry
  obtain ⟨its, r1, p1, _⟩ := I.tuple ha
  obtain ⟨its2, r2, p2, _⟩ := I.tuple hb
  have i1 : IntsAre its ns := Vals.ints r1
  have i2 : IntsAre its2 ms := Vals.ints r2
  have e1 : its.toArray.size = ns.length := by rw [List.size_toArray]; exact i1.length
  have e2 : its2.toArray.size = ms.length := by rw [List.size_toArray]; exact i2.length
  have at1 : ∀ j (h1 : j < its.toArray.size), ∃ t, its.toArray[j] = .int (ns.getD j 0) t := fun j h1 => PyProof.Rows.IntsAre.int_at i1 _ _ (by simp at h1; simp [h1])
  have at2 : ∀ j (h1 : j < its2.toArray.size), ∃ t, its2.toArray[j] = .int (ms.getD j 0) t := fun j h1 => PyProof.Rows.IntsAre.int_at i2 _ _ (by simp at h1; simp [h1])
  have R := Ob.RcOp.tuples_gt (A := X.A) (s := s) (e := fun j => decide (ns.getD j 0 = ms.getD j 0)) (r := fun j => decide (ms.getD j 0 < ns.getD j 0)) p1 p2 hu (fun j h1 h2 => by
    obtain ⟨t, et⟩ := at1 j h1
    obtain ⟨t', et'⟩ := at2 j h2
    rw [et, et']
    have z : (ns.getD j 0 == ms.getD j 0) = decide (ns.getD j 0 = ms.getD j 0) := by
      by_cases q : ns.getD j 0 = ms.getD j 0
      · rw [decide_eq_true q]; exact beq_iff_eq.mpr q
      · rw [decide_eq_false q]; exact beq_eq_false_iff_ne.mpr q
    rw [← z]
    exact SeqAt.EqAt.int_int _ _ _ _) (fun j h1 h2 _ => by
    obtain ⟨t, et⟩ := at1 j h1
    obtain ⟨t', et'⟩ := at2 j h2
    rw [et, et']
    exact Ob.RcOp.gt_int _ _ _ _)
  rw [e1, e2] at R
  have z : wpAny (model X.prog X.w) X.A (compareOp .Gt (.ref a) (.ref b)) (EP X pins σ Q) X.xe s := R X.prog X.w X.xe (EP X pins σ Q) ⟨.bl _, H, I, rfl, q⟩
  exact z
abbrev gGe := gIntB fun i j => decide (j ≤ i)
def rLtA (K : PySem.W.Frag) : R2 := fun x y H Q => (rI0 fun i j => .bl (decide (i < j))) x y H Q ∨ (∃ i j, x = .str i ∧ y = .str j ∧ Q (.bl (decide (i.cps.toList < j.cps.toList))) H) ∨ rLtT K x y H Q
/-! as the library's data -/
mutual
def D.py : D → Option PyData
  | .non => some .none
  | .bl b => some (.bool b)
  | .int i => some (.int i)
  | .str x => some (.str x)
  | .tup ds => match D.pys ds with
    | some es => some (.tuple es)
    | none => none
  | .lst ds => match D.pys ds with
    | some es => some (.list es)
    | none => none
  | .fn _ => none
  | .ty _ => none
def D.pys : List D → Option (List PyData)
  | [] => some []
  | d :: ds => match d.py, D.pys ds with
    | some e, some es => some (e :: es)
    | _, _ => none
end
mutual
theorem Sh.dp {K : PySem.W.Frag} {Z : AP} {H : Hp} : ∀ (d : D) (v : V) (e : PyData), Sh K Z H d v → d.py = some e → Dp K H v e
  | .non, v, e, h, q => by cases q; cases h; exact .non
  | .bl b, v, e, h, q => by cases q; cases h; exact .bl b
  | .int i, v, e, h, q => by cases q; cases h; exact .int i
  | .str x, v, e, h, q => by cases q; cases h; exact .str x
  | .fn _, v, e, h, q => by cases q
  | .ty _, v, e, h, q => by cases q
  | .tup ds, v, e, h, q => by
    obtain ⟨a, vs, rfl, r, s⟩ := h
    have q' : (match D.pys ds with | some es => some (PyData.tuple es) | none => none) = some e := q
    cases z : D.pys ds with
    | none => rw [z] at q'; cases q'
    | some es =>
      rw [z] at q'
      cases q'
      exact .tup r.sq (Shs.dps ds vs es s z)
  | .lst ds, v, e, h, q => by
    obtain ⟨a, vs, rfl, r, s⟩ := h
    have q' : (match D.pys ds with | some es => some (PyData.list es) | none => none) = some e := q
    cases z : D.pys ds with
    | none => rw [z] at q'; cases q'
    | some es =>
      rw [z] at q'
      cases q'
      exact .lst r.sq (Shs.dps ds vs es s z)
theorem Shs.dps {K : PySem.W.Frag} {Z : AP} {H : Hp} : ∀ (ds : List D) (vs : List V) (es : List PyData), Shs K Z H ds vs → D.pys ds = some es → DpAll K H vs es
  | [], vs, es, h, q => by
    have e : vs = [] := h
    subst e
    cases q
    exact .nil
  | d :: ds, vs, es, ⟨v, r, e, s1, s2⟩, q => by
    subst e
    have q' : (match d.py, D.pys ds with | some e, some es => some (e :: es) | _, _ => none) = some es := q
    cases z1 : d.py with
    | none => rw [z1] at q'; cases q'
    | some e1 =>
      cases z2 : D.pys ds with
      | none => rw [z1, z2] at q'; cases q'
      | some e2 =>
        rw [z1, z2] at q'
        cases q'
        exact .cons (Sh.dp d v e1 s1 z1) (Shs.dps ds r e2 s2 z2)
end
/-- == of scalars of like kinds -/
def eqS : D → D → Option Bool
  | .non, .non => some true | .non, .int _ => some false | .int _, .non => some false | .non, .bl _ => some false | .bl _, .non => some false | .non, .str _ => some false | .str _, .non => some false
  | .int i, .int j => some (decide (i = j)) | .bl a, .bl b => some (decide (a = b)) | .str x, .str y => some (decide (x = y))
  | .int _, .str _ => some false | .str _, .int _ => some false | .bl _, .str _ => some false | .str _, .bl _ => some false
  | _, _ => none
def eqP (d e : D) : Option Bool := match d.py, e.py with
  | some x, some y => if SeqAt.shaped x = true ∧ SeqAt.shaped y = true then some (PyData.eqv x y) else none
  | _, _ => none
def eqD (d e : D) : Option Bool := match eqS d e with
  | some k => some k
  | none => eqP d e
def gEq (d e : D) : Res D := match eqD d e with
  | some k => .ok (.bl k)
  | none => .err
def gNe (d e : D) : Res D := match eqD d e with
  | some k => .ok (.bl (!k))
  | none => .err
def rEqA (K : PySem.W.Frag) : R2 := fun x y H Q => rEq x y H Q ∨ rEqD K x y H Q
def rNeA (K : PySem.W.Frag) : R2 := fun x y H Q => rNe x y H Q ∨ rNeD K x y H Q
/-- in, not in: flat items -/
def D.flat : D → Bool
  | .non => true
  | .bl _ => true
  | .int _ => true
  | .str _ => true
  | _ => false
def eqF : D → D → Bool
  | .non, .non => true
  | .bl a, .bl b => a == b
  | .bl a, .int b => (if a then 1 else 0) == b
  | .int a, .bl b => a == (if b then 1 else 0)
  | .int a, .int b => a == b
  | .str a, .str b => a == b
  | _, _ => false
def seqOf : D → Option (List D)
  | .tup ds => some ds
  | .lst ds => some ds
  | _ => none
def gIn (neg : Bool) (x s : D) : Res D := match seqOf s with
  | some ds => if x.flat = true ∧ ds.all D.flat = true then .ok (.bl (if neg then !(ds.any fun y => eqF y x) else ds.any fun y => eqF y x)) else .err
  | none => match x, s with
    | .str i, .str j => .ok (.bl (if neg then !(!(Builtin.Str.occurrences j i 0 j.length 1).isEmpty) else !(Builtin.Str.occurrences j i 0 j.length 1).isEmpty))
    | _, _ => .err
def rInA (K : PySem.W.Frag) (neg : Bool) : R2 := fun x y H Q => rIn K neg x y H Q ∨ (∃ i j, x = .str i ∧ y = .str j ∧ Q (.bl (if neg then !(!(Builtin.Str.occurrences j i 0 j.length 1).isEmpty) else !(Builtin.Str.occurrences j i 0 j.length 1).isEmpty)) H)
/-- is None -/
def D.isN : D → Bool
  | .non => true
  | _ => false
def gIsN (d e : D) : Res D := if e.isN = true then .ok (.bl d.isN) else .err
def gNotN (d e : D) : Res D := if e.isN = true then .ok (.bl (!d.isN)) else .err
/-- x[i] -/
def gIx (d e : D) : Res D := match e with
  | .int i => match d with
    | .tup ds => match atI ds i with
      | some z => .ok z
      | none => .err
    | .lst ds => match atI ds i with
      | some z => .ok z
      | none => .err
    | .str z => if z.length ≤ 16777216 then match atI z.cps.toList i with
      | some c => .ok (.str ⟨#[c]⟩)
      | none => .err
      else .err
    | _ => .err
  | _ => .err
section
variable {X : Cx} {K : PySem.W.Frag}
theorem d_int {C : Int → Int → Prop} [∀ i j, Decidable (C i j)] {f : Int → Int → Int} : OpD K (rI C fun i j => .int (f i j)) (gInt C fun i j => .int (f i j)) := by
  intro Z H d e z x y Q hz hx hy hg k
  cases d with
  | int i =>
    cases e with
    | int j =>
      cases hx; cases hy
      obtain ⟨h1, rfl⟩ := if_ok hg
      exact ⟨i, j, rfl, rfl, h1, k _ H (Same.refl H) rfl⟩
    | _ => cases hg
  | _ => cases e <;> cases hg
theorem o_add : OpR X (binaryOp .Add) (rAddA X.K) := op_add.or (op_add_str.or (op_catA.or op_add_ib))
theorem nil_of_len {α β : Type} {xs : List α} {ys : List β} (h : xs.length = ys.length) (e : ys = []) : xs = [] := by
  subst e
  exact List.eq_nil_of_length_eq_zero h
theorem d_add : OpD K (rAddA K) gAdd := by
  intro Z H d e z x y Q hz hx hy hg k
  cases d with
  | int i =>
    cases e with
    | int j => cases hx; cases hy; cases hg; exact .inl ⟨i, j, rfl, rfl, k _ H (Same.refl H) rfl⟩
    | bl j => cases hx; cases hy; cases hg; exact .inr (.inr (.inr ⟨i, j, rfl, rfl, k _ H (Same.refl H) rfl⟩))
    | _ => cases hg
  | str i =>
    cases e with
    | str j =>
      cases hx; cases hy
      obtain ⟨h1, rfl⟩ := if_ok hg
      exact .inr (.inl ⟨i, j, rfl, rfl, sizeLine_ge h1, k _ H (Same.refl H) rfl⟩)
    | _ => cases hg
  | tup ds =>
    cases e with
    | tup es =>
      obtain ⟨a, vs, rfl, r1, s1⟩ := hx
      obtain ⟨b, ws, rfl, r2, s2⟩ := hy
      obtain ⟨h1, rfl⟩ := if_ok hg
      refine .inr (.inr (.inl ⟨a, b, vs, ws, rfl, rfl, r1.sq, r2.sq, sizeLine_ge (by rw [← s1.len, ← s2.len]; exact h1), fun e => ?_, fun _ e => ?_, fun _ _ p hp => ?_⟩))
      · have e1 := nil_of_len s1.len e
        subst e1
        exact k _ H (Same.refl H) ⟨b, ws, rfl, r2, s2⟩
      · have e1 := nil_of_len s2.len e
        subst e1
        rw [List.append_nil] at k
        exact k _ H (Same.refl H) ⟨a, vs, rfl, r1, s1⟩
      · have sm : Same H (upd H p (.tup (vs ++ ws))) := same_upd hp
        exact k _ _ sm ⟨p, vs ++ ws, rfl, RdT.new upd_same fun z => hz p z hp, Shs.same sm (s1.app s2)⟩
    | _ => cases hg
  | _ => cases e <;> cases hg
theorem d_sub : OpD K (rI0 fun i j => .int (i - j)) gSub := by
  intro Z H d e z x y Q hz hx hy hg k
  cases d with
  | int i =>
    cases e with
    | int j => cases hx; cases hy; cases hg; exact ⟨i, j, rfl, rfl, k _ H (Same.refl H) rfl⟩
    | _ => cases hg
  | _ => cases e <;> cases hg
theorem o_mul : OpR X (binaryOp .Mult) (rI CMulA fun i j => .int (i * j)) := opI fun _ _ _ _ _ _ _ hc q => mul_int q (hc.elim CMul.ok CMulW.ok)
theorem d_neg : UnD K (rU fun i => .int (-i)) gNeg := by
  intro Z H d z x Q hz hx hg k
  cases d with
  | int i => cases hx; cases hg; exact ⟨i, rfl, k _ H (Same.refl H) rfl⟩
  | _ => cases hg
theorem o_lt (hu : X.A.units < cLine) : OpR X (compareOp .Lt) (rLtA X.K) := op_lt.or (op_lt_str.or (op_ltT hu))
theorem d_lt : OpD K (rLtA K) gLt := by
  intro Z H d e z x y Q hz hx hy hg k
  cases d with
  | int i =>
    cases e with
    | int j => cases hx; cases hy; cases hg; exact .inl ⟨i, j, rfl, rfl, k _ H (Same.refl H) rfl⟩
    | _ => cases hg
  | str i =>
    cases e with
    | str j => cases hx; cases hy; cases hg; exact .inr (.inl ⟨i, j, rfl, rfl, k _ H (Same.refl H) rfl⟩)
    | _ => cases hg
  | tup ds =>
    cases e with
    | tup es =>
      obtain ⟨a, vs, rfl, r1, s1⟩ := hx
      obtain ⟨b, ws, rfl, r2, s2⟩ := hy
      have hg' : (match ints? ds, ints? es with | some ns, some ms => Res.ok (D.bl (HT.lexLt ns ms)) | _, _ => .err) = .ok z := hg
      cases z1 : ints? ds with
      | none => rw [z1] at hg'; cases hg'
      | some ns =>
        cases z2 : ints? es with
        | none => rw [z1, z2] at hg'; cases hg'
        | some ms =>
          rw [z1, z2] at hg'
          cases hg'
          have e1 := ints?_ok s1 z1
          have e2 := ints?_ok s2 z2
          subst e1 e2
          exact .inr (.inr ⟨a, b, ns, ms, rfl, rfl, r1.sq, r2.sq, k _ H (Same.refl H) rfl⟩)
    | _ => cases hg
  | _ => cases e <;> cases hg
theorem o_gt (hu : X.A.units < cLine) : OpR X (compareOp .Gt) (rGtA X.K) := op_gt.or (op_gtT hu)
theorem d_gt : OpD K (rGtA K) gGt := by
  intro Z H d e z x y Q hz hx hy hg k
  cases d with
  | int i =>
    cases e with
    | int j => cases hx; cases hy; cases hg; exact .inl ⟨i, j, rfl, rfl, k _ H (Same.refl H) rfl⟩
    | _ => cases hg
  | tup ds =>
    cases e with
    | tup es =>
      obtain ⟨a, vs, rfl, r1, s1⟩ := hx
      obtain ⟨b, ws, rfl, r2, s2⟩ := hy
      have hg' : (match ints? ds, ints? es with | some ns, some ms => Res.ok (D.bl (lexGt ns ms)) | _, _ => .err) = .ok z := hg
      cases z1 : ints? ds with
      | none => rw [z1] at hg'; cases hg'
      | some ns =>
        cases z2 : ints? es with
        | none => rw [z1, z2] at hg'; cases hg'
        | some ms =>
          rw [z1, z2] at hg'
          cases hg'
          have e1 := ints?_ok s1 z1
          have e2 := ints?_ok s2 z2
          subst e1 e2
          exact .inr ⟨a, b, ns, ms, rfl, rfl, r1.sq, r2.sq, k _ H (Same.refl H) rfl⟩
    | _ => cases hg
  | _ => cases e <;> cases hg
theorem d_intB {f : Int → Int → Bool} : OpD K (rI0 fun i j => .bl (f i j)) (gIntB f) := by
  intro Z H d e z x y Q hz hx hy hg k
  cases d with
  | int i =>
    cases e with
    | int j => cases hx; cases hy; cases hg; exact ⟨i, j, rfl, rfl, k _ H (Same.refl H) rfl⟩
    | _ => cases hg
  | _ => cases e <;> cases hg
theorem o_eq (hu : X.A.units + 64 < cLine) : OpR X (compareOp .Eq) (rEqA X.K) := op_eq.or (op_eqD hu)
theorem o_ne (hu : X.A.units + 64 < cLine) : OpR X (compareOp .NotEq) (rNeA X.K) := op_ne.or (op_neD hu)
theorem eqS_ok {Z : AP} {H : Hp} {d e : D} {x y : V} {k : Bool} (hx : Sh K Z H d x) (hy : Sh K Z H e y) (h : eqS d e = some k) : scal x y = true ∧ decide (x = y) = k := by
  cases d <;> cases e <;> first
    | (cases h; done)
    | (cases hx; cases hy; cases h; exact ⟨rfl, by simp⟩)
theorem eqP_ok {Z : AP} {H : Hp} {d e : D} {x y : V} {k : Bool} (hx : Sh K Z H d x) (hy : Sh K Z H e y) (h : eqP d e = some k) : ∃ a b, Dp K H x a ∧ Dp K H y b ∧ SeqAt.shaped a = true ∧ SeqAt.shaped b = true ∧ PyData.eqv a b = k := by
  unfold eqP at h
  cases z1 : d.py with
  | none => rw [z1] at h; cases h
  | some a =>
    cases z2 : e.py with
    | none => rw [z1, z2] at h; cases h
    | some b =>
      rw [z1, z2] at h
      have h' : (if SeqAt.shaped a = true ∧ SeqAt.shaped b = true then some (PyData.eqv a b) else none) = some k := h
      by_cases hc : SeqAt.shaped a = true ∧ SeqAt.shaped b = true
      · rw [if_pos hc] at h'
        cases h'
        exact ⟨a, b, Sh.dp d x a hx z1, Sh.dp e y b hy z2, hc.1, hc.2, rfl⟩
      · rw [if_neg hc] at h'; cases h'
theorem d_eq : OpD K (rEqA K) gEq := by
  intro Z H d e z x y Q hz hx hy hg k
  unfold gEq eqD at hg
  cases h1 : eqS d e with
  | some kk =>
    rw [h1] at hg
    cases hg
    obtain ⟨q1, q2⟩ := eqS_ok hx hy h1
    exact .inl ⟨q1, by rw [q2]; exact k _ H (Same.refl H) rfl⟩
  | none =>
    rw [h1] at hg
    cases h2 : eqP d e with
    | some kk =>
      rw [h2] at hg
      cases hg
      obtain ⟨a, b, q1, q2, q3, q4, q5⟩ := eqP_ok hx hy h2
      exact .inr ⟨a, b, q1, q2, q3, q4, by rw [q5]; exact k _ H (Same.refl H) rfl⟩
    | none => rw [h2] at hg; cases hg
theorem d_ne : OpD K (rNeA K) gNe := by
  intro Z H d e z x y Q hz hx hy hg k
  unfold gNe eqD at hg
  cases h1 : eqS d e with
  | some kk =>
    rw [h1] at hg
    cases hg
    obtain ⟨q1, q2⟩ := eqS_ok hx hy h1
    exact .inl ⟨q1, by rw [q2]; exact k _ H (Same.refl H) rfl⟩
  | none =>
    rw [h1] at hg
    cases h2 : eqP d e with
    | some kk =>
      rw [h2] at hg
      cases hg
      obtain ⟨a, b, q1, q2, q3, q4, q5⟩ := eqP_ok hx hy h2
      exact .inr ⟨a, b, q1, q2, q3, q4, by rw [q5]; exact k _ H (Same.refl H) rfl⟩
    | none => rw [h2] at hg; cases hg
theorem flat_ok {Z : AP} {H : Hp} {d : D} {x : V} (h : Sh K Z H d x) (f : d.flat = true) : flatV x = true := by
  cases d <;> first
    | (cases f; done)
    | (cases h; rfl)
theorem flats_ok {Z : AP} {H : Hp} : ∀ {ds : List D} {vs : List V}, Shs K Z H ds vs → ds.all D.flat = true → vs.all flatV = true
  | [], vs, h, _ => by
    have e : vs = [] := h
    subst e
    rfl
  | d :: ds, vs, ⟨v, r, e, s1, s2⟩, f => by
    subst e
    rw [List.all_cons, Bool.and_eq_true] at f ⊢
    exact ⟨flat_ok s1 f.1, flats_ok s2 f.2⟩
theorem eqF_ok {Z : AP} {H : Hp} {d e : D} {x y : V} (hx : Sh K Z H d x) (hy : Sh K Z H e y) (f : d.flat = true) (f2 : e.flat = true) : eqV x y = eqF d e := by
  cases d <;> cases e <;> first
    | (cases f; done)
    | (cases f2; done)
    | (cases hx; cases hy; rfl)
theorem any_ok {Z : AP} {H : Hp} {e : D} {y : V} (hy : Sh K Z H e y) (f2 : e.flat = true) : ∀ {ds : List D} {vs : List V}, Shs K Z H ds vs → ds.all D.flat = true → vs.any (fun x => eqV x y) = ds.any fun d => eqF d e
  | [], vs, h, _ => by
    have e : vs = [] := h
    subst e
    rfl
  | d :: ds, vs, ⟨v, r, e, s1, s2⟩, f => by
    subst e
    rw [List.all_cons, Bool.and_eq_true] at f
    rw [List.any_cons, List.any_cons, eqF_ok s1 hy f.1 f2, any_ok hy f2 s2 f.2]
theorem o_in : OpR X (compareOp .In) (rInA X.K false) := op_in_seq.or op_in_str
theorem o_notIn : OpR X (compareOp .NotIn) (rInA X.K true) := op_notIn_seq.or L2.op_notin_str
theorem seq_ok {Z : AP} {H : Hp} {d : D} {x : V} {ds : List D} (h : Sh K Z H d x) (e : seqOf d = some ds) : ∃ p vs, x = .ref p ∧ (SqL K H p vs ∨ SqT K H p vs) ∧ Shs K Z H ds vs := by
  cases d with
  | tup es =>
    cases e
    obtain ⟨a, vs, rfl, r, s⟩ := h
    exact ⟨a, vs, rfl, .inr r.sq, s⟩
  | lst es =>
    cases e
    obtain ⟨a, vs, rfl, r, s⟩ := h
    exact ⟨a, vs, rfl, .inl r.sq, s⟩
  | _ => cases e
theorem d_in {neg : Bool} : OpD K (rInA K neg) (gIn neg) := by
  intro Z H d e z x y Q hz hx hy hg k
  unfold gIn at hg
  cases h1 : seqOf e with
  | some ds =>
    rw [h1] at hg
    obtain ⟨⟨f1, f2⟩, rfl⟩ := if_ok hg
    obtain ⟨p, vs, rfl, hs, s⟩ := seq_ok hy h1
    refine .inl ⟨p, vs, rfl, hs, flat_ok hx f1, flats_ok s f2, ?_⟩
    have e1 : inV x vs = ds.any fun y => eqF y d := any_ok hx f1 s f2
    rw [e1]
    exact k _ H (Same.refl H) rfl
  | none =>
    rw [h1] at hg
    cases d with
    | str i =>
      cases e with
      | str j => cases hx; cases hy; cases hg; exact .inr ⟨i, j, rfl, rfl, k _ H (Same.refl H) rfl⟩
      | _ => cases hg
    | _ => cases e <;> cases hg
theorem isN_ok {Z : AP} {H : Hp} {d : D} {x : V} (h : Sh K Z H d x) : decide (x = .non) = d.isN := by
  cases d with
  | tup ds =>
    obtain ⟨a, vs, rfl, _⟩ := h
    rfl
  | lst ds =>
    obtain ⟨a, vs, rfl, _⟩ := h
    rfl
  | _ => cases h; rfl
theorem d_isN : OpD K (fun x y H Q => y = .non ∧ Q (.bl (decide (x = .non))) H) gIsN := by
  intro Z H d e z x y Q hz hx hy hg k
  obtain ⟨h1, rfl⟩ := if_ok hg
  have e1 := isN_ok hy
  rw [h1] at e1
  refine ⟨of_decide_eq_true e1, ?_⟩
  rw [isN_ok hx]
  exact k _ H (Same.refl H) rfl
theorem d_notN : OpD K (fun x y H Q => y = .non ∧ Q (.bl (!decide (x = .non))) H) gNotN := by
  intro Z H d e z x y Q hz hx hy hg k
  obtain ⟨h1, rfl⟩ := if_ok hg
  have e1 := isN_ok hy
  rw [h1] at e1
  refine ⟨of_decide_eq_true e1, ?_⟩
  rw [isN_ok hx]
  exact k _ H (Same.refl H) rfl
theorem atI_ok {Z : AP} {H : Hp} {ds : List D} {vs : List V} {i : Int} {d : D} (s : Shs K Z H ds vs) (h : atI ds i = some d) : ∃ v, atI vs i = some v ∧ Sh K Z H d v := by
  unfold atI at h ⊢
  rw [← s.len]
  cases e : ixN ds.length i with
  | none => rw [e] at h; cases h
  | some j =>
    rw [e] at h
    exact s.get h
theorem d_ix : OpD K (rIx K) gIx := by
  intro Z H d e z x y Q hz hx hy hg k
  cases e with
  | int i =>
    cases hy
    cases d with
    | tup ds =>
      obtain ⟨a, vs, rfl, r, s⟩ := hx
      have hg' : (match atI ds i with | some z => Res.ok z | none => .err) = .ok z := hg
      cases q : atI ds i with
      | none => rw [q] at hg'; cases hg'
      | some w =>
        rw [q] at hg'
        cases hg'
        obtain ⟨v, h1, h2⟩ := atI_ok s q
        exact .inr (.inl ⟨a, vs, i, v, rfl, rfl, r.sq, h1, k _ H (Same.refl H) h2⟩)
    | lst ds =>
      obtain ⟨a, vs, rfl, r, s⟩ := hx
      have hg' : (match atI ds i with | some z => Res.ok z | none => .err) = .ok z := hg
      cases q : atI ds i with
      | none => rw [q] at hg'; cases hg'
      | some w =>
        rw [q] at hg'
        cases hg'
        obtain ⟨v, h1, h2⟩ := atI_ok s q
        exact .inl ⟨a, vs, i, v, rfl, rfl, r.sq, h1, k _ H (Same.refl H) h2⟩
    | str w =>
      cases hx
      have hg' : (if w.length ≤ 16777216 then (match atI w.cps.toList i with | some c => Res.ok (D.str ⟨#[c]⟩) | none => .err) else .err) = .ok z := hg
      by_cases hl : w.length ≤ 16777216
      · rw [if_pos hl] at hg'
        cases q : atI w.cps.toList i with
        | none => rw [q] at hg'; cases hg'
        | some c =>
          rw [q] at hg'
          cases hg'
          exact .inr (.inr ⟨w, i, c, rfl, rfl, sizeLine_ge hl, q, k _ H (Same.refl H) rfl⟩)
      · rw [if_neg hl] at hg'; cases hg'
    | _ => cases hg
  | _ => cases d <;> cases hg
end
end DL
/-! built-in functions, slices -/
namespace DL
open PySem PySem.Spec PyProof.Rows L2

/-! ### slices -/
def cutL {α : Type} (xs : List α) (lo hi : Option Int) : List α := (xs.drop (HT.sIx xs.length 0 lo)).take (HT.sIx xs.length xs.length hi - HT.sIx xs.length 0 lo)
theorem Shs.cut {K : PySem.W.Frag} {Z : AP} {H : Hp} {ds : List D} {vs : List V} (h : Shs K Z H ds vs) (lo hi : Option Int) : Shs K Z H (cutL ds lo hi) (cutV vs lo hi) := by
  unfold cutL cutV
  rw [h.len]
  exact (h.drop _).take _
def tO (c : DC) (K : PySem.W.Frag) (q : Bool) (f : Ev → Res (Option Int × Ev)) : TO := fun σ H Q => ∃ ρ Z fo, RS c K ρ Z σ H fo ∧ ∃ o ρ', f ρ = .ok (o, ρ') ∧
  ∀ H' Z' fo', RS c K ρ' Z' σ H' fo' → Stp fo Z H fo' Z' H' → (q = true → Same H H') → Q o H'
structure DO (X : Cx) (c : DC) (q : Bool) (e : Option Expr) (f : Ev → Res (Option Int × Ev)) : Prop where
  po : PO X e (tO c X.K q f)
theorem PO.imp {X : Cx} {e : Option Expr} {t u : TO} (h : PO X e t) (k : ∀ σ H Q, u σ H Q → t σ H Q) : PO X e u := ⟨fun pins s σ H Q I q => h.run pins s σ H Q I (k _ _ _ q)⟩
def dNoPart (ρ : Ev) : Res (Option Int × Ev) := .ok (none, ρ)
def dPart (f : Ev → Res (D × Ev)) (ρ : Ev) : Res (Option Int × Ev) := (f ρ).bind fun p => match p.1 with
  | .int i => .ok (some i, p.2)
  | _ => .err
def SlD (K : PySem.W.Frag) (r : V → Option Int → Option Int → Hp → VK → Prop) (g : D → Option Int → Option Int → Res D) : Prop := ∀ (Z : AP) (H : Hp) (d z : D) (lo hi : Option Int) (x : V) (Q : VK), (∀ a, Z a → H a ≠ none) → Sh K Z H d x → g d lo hi = .ok z →
  (∀ v H', Same H H' → Sh K Z H' z v → Q v H') → r x lo hi H Q
def dSl (g : D → Option Int → Option Int → Res D) (f : Ev → Res (D × Ev)) (l h : Ev → Res (Option Int × Ev)) (ρ : Ev) : Res (D × Ev) := (f ρ).bind fun p => (l p.2).bind fun a => (h a.2).bind fun b => (g p.1 a.1 b.1).bind fun z => .ok (z, b.2)
def gSl (d : D) (lo hi : Option Int) : Res D := match d with
  | .tup ds => .ok (.tup (cutL ds lo hi))
  | .str z => if z.length ≤ 16777216 then .ok (.str (cutS z lo hi)) else .err
  | _ => .err
def rSlA2 (K : PySem.W.Frag) : V → Option Int → Option Int → Hp → VK → Prop := fun x lo hi H Q => rSlA K x lo hi H Q ∨ (∃ z, x = .str z ∧ z.length ≤ sizeLine ∧ Q (.str (cutS z lo hi)) H)
section
variable {X : Cx} {K : PySem.W.Frag} {c : DC} {q b : Bool} {a e : Expr} {fa fb : Ev → Res (D × Ev)} {pos p2 : Pos}
theorem do_none : DO X c q none dNoPart := ⟨by
  refine PO.imp po_none fun σ H Q ⟨ρ, Z, fo, R, o, ρ', hf, k⟩ => ?_
  cases hf
  exact k H Z fo R Stp.refl (fun _ => Same.refl H)⟩
theorem do_some (h : DE X c q b e fa) : DO X c q (some e) (dPart fa) := ⟨by
  refine PO.imp (po_some h.pe) fun σ H Q ⟨ρ, Z, fo, R, o, ρ', hf, k⟩ => ?_
  obtain ⟨⟨d1, ρ1⟩, h1, hf⟩ := Res.bind_ok hf
  refine ⟨ρ, Z, fo, R, d1, ρ1, h1, fun v H1 Z1 fo1 R1 s1 m1 p1 => ?_⟩
  cases d1 with
  | int i =>
    cases hf
    exact ⟨i, p1, k H1 Z1 fo1 R1 s1 m1⟩
  | _ => cases hf⟩
theorem de_sl {r : V → Option Int → Option Int → Hp → VK → Prop} {g : D → Option Int → Option Int → Res D} {lo hi : Option Expr} {l h : Ev → Res (Option Int × Ev)} (hr : SlR X r) (hg : SlD X.K r g) (he : DE X c q b e fa) (hl : DO X c q lo l) (hh : DO X c q hi h) (hq : b = true → q = true := by decide) :
    DE X c q b (.Subscript e (.Slice lo hi none p2) pos) (dSl g fa l h) := ⟨by
  refine PE.imp (pe_slice hr he.pe hl.po hh.po) fun σ H Q ⟨ρ, Z, fo, R, d, ρ', hf, k⟩ => ?_
  obtain ⟨⟨d1, ρ1⟩, h1, hf⟩ := Res.bind_ok hf
  obtain ⟨⟨o1, ρ2⟩, h2, hf⟩ := Res.bind_ok hf
  obtain ⟨⟨o2, ρ3⟩, h3, hf⟩ := Res.bind_ok hf
  obtain ⟨z, h4, hf⟩ := Res.bind_ok hf
  cases hf
  refine ⟨ρ, Z, fo, R, d1, ρ1, h1, fun x H1 Z1 fo1 R1 s1 m1 p1 => ⟨ρ1, Z1, fo1, R1, o1, ρ2, h2, fun H2 Z2 fo2 R2 s2 m2 => ⟨ρ2, Z2, fo2, R2, o2, ρ3, h3, fun H3 Z3 fo3 R3 s3 m3 => ?_⟩⟩⟩
  refine hg _ H3 d1 _ o1 o2 x Q (zb_own R3.ownN) (Rp.keep R1 hq (s2.trans s3) (fun hq => (m2 hq).trans (m3 hq)) p1) h4 fun v H4 sm p4 => ?_
  exact k v H4 Z3 fo3 (R3.same sm) (((s1.trans s2).trans s3).trans (Stp.same sm)) (fun hq => (((m1 hq).trans (m2 hq)).trans (m3 hq)).trans sm) p4⟩
theorem s_sl : SlR X (rSlA2 X.K) := sl_tupA.or sl_str
theorem d_sl : SlD K (rSlA2 K) gSl := by
  intro Z H d z lo hi x Q hz hx hg k
  cases d with
  | tup ds =>
    obtain ⟨p, vs, rfl, r, s⟩ := hx
    cases hg
    refine .inl ⟨p, vs, rfl, r.sq, fun ⟨h1, h2⟩ => ?_, fun _ t ht => ?_⟩
    · have e : cutL ds lo hi = ds := by
        unfold cutL
        rw [s.len, h1, h2, List.drop_zero, Nat.sub_zero, ← s.len, List.take_length]
      rw [e] at k
      exact k _ H (Same.refl H) ⟨p, vs, rfl, r, s⟩
    · have sm : Same H (upd H t (.tup (cutV vs lo hi))) := same_upd ht
      exact k _ _ sm ⟨t, _, rfl, RdT.new upd_same fun z => hz t z ht, Shs.same sm (s.cut lo hi)⟩
  | str w =>
    cases hx
    obtain ⟨h1, rfl⟩ := if_ok hg
    exact .inr ⟨w, rfl, sizeLine_ge h1, k _ H (Same.refl H) rfl⟩
  | _ => cases hg
/-- xs[lo:hi] of a list: a fresh list -/
def gCutL (d : D) (lo hi : Option Int) : Res D := match d with
  | .lst ds => .ok (.lst (cutL ds lo hi))
  | _ => .err
theorem df_sl {lo hi : Option Expr} {l h : Ev → Res (Option Int × Ev)} (he : DE X c false false e fa) (hl : DO X c false lo l) (hh : DO X c false hi h) :
    DF X c 0 (.Subscript e (.Slice lo hi none p2) pos) (dSl gCutL fa l h) := ⟨by
  refine PE.imp (pe_slice sl_list he.pe hl.po hh.po) fun σ H Q ⟨ρ, Z, fo, R, d, ρ', hf, k⟩ => ?_
  obtain ⟨⟨d1, ρ1⟩, h1, hf⟩ := Res.bind_ok hf
  obtain ⟨⟨o1, ρ2⟩, h2, hf⟩ := Res.bind_ok hf
  obtain ⟨⟨o2, ρ3⟩, h3, hf⟩ := Res.bind_ok hf
  obtain ⟨z, h4, hf⟩ := Res.bind_ok hf
  cases hf
  refine ⟨ρ, Z, fo, R, d1, ρ1, h1, fun x H1 Z1 fo1 R1 s1 m1 p1 => ⟨ρ1, Z1, fo1, R1, o1, ρ2, h2, fun H2 Z2 fo2 R2 s2 m2 => ⟨ρ2, Z2, fo2, R2, o2, ρ3, h3, fun H3 Z3 fo3 R3 s3 m3 => ?_⟩⟩⟩
  have p3 : Sh X.K Z3 H3 d1 x := Sh.stp ((s2.trans s3).s0 R1) p1
  cases d1 with
  | lst ds =>
    obtain ⟨p, vs, rfl, r, s⟩ := p3
    cases h4
    refine ⟨p, vs, rfl, r.sq, fun t ht => ?_⟩
    obtain ⟨R4, st⟩ := R3.take (vs := cutV vs o1 o2) ht
    exact k _ _ _ fo3 R4 (((s1.trans s2).trans s3).trans st) ((FrR.new R3 ht (s.cut o1 o2)).back ((s1.trans s2).trans s3))
  | _ => cases h4⟩
/-! ### built-in functions -/
def gLen : List D → Res D
  | [.tup ds] => .ok (.int ds.length)
  | [.lst ds] => .ok (.int ds.length)
  | [.str x] => if x.length ≤ 16777216 then .ok (.int x.length) else .err
  | _ => .err
theorem shs1 {Z : AP} {H : Hp} {d : D} {xs : List V} (h : Shs K Z H [d] xs) : ∃ x, xs = [x] ∧ Sh K Z H d x := by
  obtain ⟨v, r, rfl, s, t⟩ := h
  have e : r = [] := t
  subst e
  exact ⟨v, rfl, s⟩
theorem shs2 {Z : AP} {H : Hp} {d e : D} {xs : List V} (h : Shs K Z H [d, e] xs) : ∃ x y, xs = [x, y] ∧ Sh K Z H d x ∧ Sh K Z H e y := by
  obtain ⟨v, r, rfl, s, t⟩ := h
  obtain ⟨y, rfl, s2⟩ := shs1 t
  exact ⟨v, y, rfl, s, s2⟩
theorem c_len : CallD K (fun xs H Q => ∃ x n, xs = [x] ∧ LenV K x H n ∧ Q (.int n) H) gLen := by
  intro Z H ds z xs Q hz hx hg k
  unfold gLen at hg
  split at hg
  · obtain ⟨x, rfl, a, vs, rfl, r, s⟩ := shs1 hx
    cases hg
    exact ⟨_, vs.length, rfl, .inr ⟨vs, r.sq, rfl⟩, by rw [← s.len]; exact k _ H (Same.refl H) rfl⟩
  · obtain ⟨x, rfl, a, vs, rfl, r, s⟩ := shs1 hx
    cases hg
    exact ⟨_, vs.length, rfl, .inl ⟨vs, r.sq, rfl⟩, by rw [← s.len]; exact k _ H (Same.refl H) rfl⟩
  · obtain ⟨x, rfl, hx2⟩ := shs1 hx
    cases hx2
    obtain ⟨h1, rfl⟩ := if_ok hg
    exact ⟨_, _, rfl, (⟨sizeLine_ge h1, rfl⟩ : _ ∧ _), k _ H (Same.refl H) rfl⟩
  · cases hg
def gAbs : List D → Res D
  | [.int i] => .ok (.int (if i < 0 then -i else i))
  | _ => .err
theorem c_abs : CallD K (fun xs H Q => ∃ i, xs = [.int i] ∧ Q (.int (if i < 0 then -i else i)) H) gAbs := by
  intro Z H ds z xs Q hz hx hg k
  unfold gAbs at hg
  split at hg
  · obtain ⟨x, rfl, hx2⟩ := shs1 hx
    cases hx2
    cases hg
    exact ⟨_, rfl, k _ H (Same.refl H) rfl⟩
  · cases hg
def gMax2 : List D → Res D
  | [.int i, .int j] => .ok (.int (if j > i then j else i))
  | _ => .err
theorem c_max2 : CallD K (fun xs H Q => ∃ i j, xs = [.int i, .int j] ∧ Q (.int (if j > i then j else i)) H) gMax2 := by
  intro Z H ds z xs Q hz hx hg k
  unfold gMax2 at hg
  split at hg
  · obtain ⟨x, y, rfl, hx2, hy⟩ := shs2 hx
    cases hx2; cases hy; cases hg
    exact ⟨_, _, rfl, k _ H (Same.refl H) rfl⟩
  · cases hg
def gMin2 : List D → Res D
  | [.int i, .int j] => .ok (.int (if j < i then j else i))
  | _ => .err
theorem c_min2 : CallD K (fun xs H Q => ∃ i j, xs = [.int i, .int j] ∧ Q (.int (if j < i then j else i)) H) gMin2 := by
  intro Z H ds z xs Q hz hx hg k
  unfold gMin2 at hg
  split at hg
  · obtain ⟨x, y, rfl, hx2, hy⟩ := shs2 hx
    cases hx2; cases hy; cases hg
    exact ⟨_, _, rfl, k _ H (Same.refl H) rfl⟩
  · cases hg
def gIntOf : List D → Res D
  | [.int i] => .ok (.int i)
  | [.bl k] => .ok (.int (if k then 1 else 0))
  | _ => .err
theorem c_int : CallD K (fun xs H Q => (∃ i, xs = [.int i] ∧ Q (.int i) H) ∨ ∃ k, xs = [.bl k] ∧ Q (.int (if k then 1 else 0)) H) gIntOf := by
  intro Z H ds z xs Q hz hx hg k
  unfold gIntOf at hg
  split at hg
  · obtain ⟨x, rfl, hx2⟩ := shs1 hx
    cases hx2
    cases hg
    exact .inl ⟨_, rfl, k _ H (Same.refl H) rfl⟩
  · obtain ⟨x, rfl, hx2⟩ := shs1 hx
    cases hx2
    cases hg
    exact .inr ⟨_, rfl, k _ H (Same.refl H) rfl⟩
  · cases hg
def gTupOf : List D → Res D
  | [.lst ds] => .ok (.tup ds)
  | [.tup ds] => .ok (.tup ds)
  | _ => .err
theorem c_tuple : CallD K (fun xs H Q => ∃ p ys, xs = [.ref p] ∧ ((SqL K H p ys ∧ ∀ l, H l = none → Q (.ref l) (upd H l (.tup ys))) ∨ (SqT K H p ys ∧ Q (.ref p) H))) gTupOf := by
  intro Z H ds z xs Q hz hx hg k
  unfold gTupOf at hg
  split at hg
  · obtain ⟨x, rfl, a, vs, rfl, r, s⟩ := shs1 hx
    cases hg
    refine ⟨a, vs, rfl, .inl ⟨r.sq, fun l hl => ?_⟩⟩
    have sm : Same H (upd H l (.tup vs)) := same_upd hl
    exact k _ _ sm ⟨l, vs, rfl, RdT.new upd_same fun z => hz l z hl, s.same sm⟩
  · obtain ⟨x, rfl, a, vs, rfl, r, s⟩ := shs1 hx
    cases hg
    exact ⟨a, vs, rfl, .inr ⟨r.sq, k _ H (Same.refl H) ⟨a, vs, rfl, r, s⟩⟩⟩
  · cases hg
def bools? : List D → Option (List Bool)
  | [] => some []
  | .bl i :: ds => (bools? ds).map (i :: ·)
  | _ :: _ => none
theorem bools?_ok {Z : AP} {H : Hp} : ∀ {ds : List D} {vs : List V} {ns : List Bool}, Shs K Z H ds vs → bools? ds = some ns → vs = ns.map V.bl
  | [], vs, ns, h, e => by
    cases e
    exact h
  | .bl i :: ds, _, ns, ⟨v, r, rfl, s1, s2⟩, e => by
    cases q : bools? ds with
    | none => rw [show bools? (.bl i :: ds) = (bools? ds).map (i :: ·) from rfl, q] at e; cases e
    | some ms =>
      rw [show bools? (.bl i :: ds) = (bools? ds).map (i :: ·) from rfl, q] at e
      cases e
      have s1' : v = .bl i := s1
      rw [s1', bools?_ok s2 q]
      rfl
  | .non :: ds, _, _, _, e => by cases e
  | .int _ :: ds, _, _, _, e => by cases e
  | .str _ :: ds, _, _, _, e => by cases e
  | .tup _ :: ds, _, _, _, e => by cases e
  | .lst _ :: ds, _, _, _, e => by cases e
  | .fn _ :: ds, _, _, _, e => by cases e
  | .ty _ :: ds, _, _, _, e => by cases e
def gAny : List D → Res D
  | [.lst ds] => match bools? ds with
    | some bs => .ok (.bl (bs.any id))
    | none => .err
  | _ => .err
def gAll : List D → Res D
  | [.lst ds] => match bools? ds with
    | some bs => .ok (.bl (bs.all id))
    | none => .err
  | _ => .err
def gSum : List D → Res D
  | [.lst ds] => match ints? ds with
    | some ns => .ok (.int ns.sum)
    | none => .err
  | _ => .err
theorem c_any : CallD K (rAny K) gAny := by
  intro Z H ds z xs Q hz hx hg k
  unfold gAny at hg
  split at hg
  · obtain ⟨x, rfl, a, vs, rfl, r, s⟩ := shs1 hx
    split at hg
    · rename_i bs hb
      cases hg
      have e := bools?_ok s hb
      subst e
      exact ⟨a, bs, rfl, r.sq, k _ H (Same.refl H) rfl⟩
    · cases hg
  · cases hg
theorem c_all : CallD K (rAll K) gAll := by
  intro Z H ds z xs Q hz hx hg k
  unfold gAll at hg
  split at hg
  · obtain ⟨x, rfl, a, vs, rfl, r, s⟩ := shs1 hx
    split at hg
    · rename_i bs hb
      cases hg
      have e := bools?_ok s hb
      subst e
      exact ⟨a, bs, rfl, r.sq, k _ H (Same.refl H) rfl⟩
    · cases hg
  · cases hg
theorem c_sum : CallD K (rSum K) gSum := by
  intro Z H ds z xs Q hz hx hg k
  unfold gSum at hg
  split at hg
  · obtain ⟨x, rfl, a, vs, rfl, r, s⟩ := shs1 hx
    split at hg
    · rename_i bs hb
      cases hg
      have e := ints?_ok s hb
      subst e
      exact ⟨a, bs, rfl, r.sq, k _ H (Same.refl H) rfl⟩
    · cases hg
  · cases hg
/-- max, min of a list of ints -/
def maxI : List Int → Int
  | [] => 0
  | [n] => n
  | n :: ns => if maxI ns > n then maxI ns else n
def minI : List Int → Int
  | [] => 0
  | [n] => n
  | n :: ns => if minI ns < n then minI ns else n
theorem maxI_ok : ∀ {ns : List Int}, 0 < ns.length → maxI ns ∈ ns ∧ ∀ y ∈ ns, y ≤ maxI ns
  | [n], _ => ⟨by simp [maxI], by simp [maxI]⟩
  | n :: m :: ns, _ => by
    obtain ⟨h1, h2⟩ := maxI_ok (ns := m :: ns) (by simp)
    have e : maxI (n :: m :: ns) = if maxI (m :: ns) > n then maxI (m :: ns) else n := rfl
    rw [e]
    by_cases hc : maxI (m :: ns) > n
    · rw [if_pos hc]
      refine ⟨List.mem_cons_of_mem _ h1, fun y hy => ?_⟩
      rcases List.mem_cons.mp hy with rfl | hy
      · exact Int.le_of_lt hc
      · exact h2 y hy
    · rw [if_neg hc]
      refine ⟨List.mem_cons_self, fun y hy => ?_⟩
      rcases List.mem_cons.mp hy with rfl | hy
      · exact Int.le_refl _
      · exact Int.le_trans (h2 y hy) (Int.not_lt.mp hc)
theorem minI_ok : ∀ {ns : List Int}, 0 < ns.length → minI ns ∈ ns ∧ ∀ y ∈ ns, minI ns ≤ y
  | [n], _ => ⟨by simp [minI], by simp [minI]⟩
  | n :: m :: ns, _ => by
    obtain ⟨h1, h2⟩ := minI_ok (ns := m :: ns) (by simp)
    have e : minI (n :: m :: ns) = if minI (m :: ns) < n then minI (m :: ns) else n := rfl
    rw [e]
    by_cases hc : minI (m :: ns) < n
    · rw [if_pos hc]
      refine ⟨List.mem_cons_of_mem _ h1, fun y hy => ?_⟩
      rcases List.mem_cons.mp hy with rfl | hy
      · exact Int.le_of_lt hc
      · exact h2 y hy
    · rw [if_neg hc]
      refine ⟨List.mem_cons_self, fun y hy => ?_⟩
      rcases List.mem_cons.mp hy with rfl | hy
      · exact Int.le_refl _
      · exact Int.le_trans (Int.not_lt.mp hc) (h2 y hy)
def gMaxL : List D → Res D
  | [.lst ds] => match ints? ds with
    | some ns => if 0 < ns.length then .ok (.int (maxI ns)) else .err
    | none => .err
  | _ => .err
def gMinL : List D → Res D
  | [.lst ds] => match ints? ds with
    | some ns => if 0 < ns.length then .ok (.int (minI ns)) else .err
    | none => .err
  | _ => .err
theorem c_maxL : CallD K (rMax K) gMaxL := by
  intro Z H ds z xs Q hz hx hg k
  unfold gMaxL at hg
  split at hg
  · obtain ⟨x, rfl, a, vs, rfl, r, s⟩ := shs1 hx
    split at hg
    · rename_i bs hb
      obtain ⟨h1, rfl⟩ := if_ok hg
      have e := ints?_ok s hb
      subst e
      refine ⟨a, bs, rfl, r.sq, h1, fun m hm hle => ?_⟩
      obtain ⟨q1, q2⟩ := maxI_ok h1
      have e : m = maxI bs := Int.le_antisymm (q2 m hm) (hle _ q1)
      rw [e]
      exact k _ H (Same.refl H) rfl
    · cases hg
  · cases hg
theorem c_minL : CallD K (rMin K) gMinL := by
  intro Z H ds z xs Q hz hx hg k
  unfold gMinL at hg
  split at hg
  · obtain ⟨x, rfl, a, vs, rfl, r, s⟩ := shs1 hx
    split at hg
    · rename_i bs hb
      obtain ⟨h1, rfl⟩ := if_ok hg
      have e := ints?_ok s hb
      subst e
      refine ⟨a, bs, rfl, r.sq, h1, fun m hm hle => ?_⟩
      obtain ⟨q1, q2⟩ := minI_ok h1
      have e : m = minI bs := Int.le_antisymm (hle _ q1) (q2 m hm)
      rw [e]
      exact k _ H (Same.refl H) rfl
    · cases hg
  · cases hg
/-- isinstance -/
def D.tyn : D → Option String
  | .non => some "NoneType"
  | .bl _ => some "bool"
  | .int _ => some "int"
  | .str _ => some "str"
  | .tup _ => some "tuple"
  | .lst _ => some "list"
  | _ => none
theorem tyn_ok {Z : AP} {H : Hp} {d : D} {x : V} {t : String} (h : Sh K Z H d x) (e : d.tyn = some t) : TyX K H x (.type t) := by
  cases d with
  | non => cases h; cases e; exact .base .non
  | bl b => cases h; cases e; exact .base (.bl b)
  | int i => cases h; cases e; exact .base (.int i)
  | str s => cases h; cases e; exact .base (.str s)
  | tup ds =>
    obtain ⟨a, vs, rfl, r, s⟩ := h
    cases e
    rcases r.sq with (r | ⟨o, r⟩) | ⟨o, its, n, h1, h2, _⟩
    · exact .base (.tup r)
    · exact .fTuple r
    · exact .kTuple h1 h2
  | lst ds =>
    obtain ⟨a, vs, rfl, r, s⟩ := h
    cases e
    rcases r.sq with (r | ⟨o, r⟩) | ⟨o, its, n, h1, h2, _⟩
    · exact .base (.lst r)
    · exact .base (.frz r)
    · exact .kList h1 h2
  | _ => cases e
def tys? : List D → Option (List String)
  | [] => some []
  | .ty n :: ds => (tys? ds).map (n :: ·)
  | _ :: _ => none
def kitAll (a : String) : List String → Option Bool
  | [] => some false
  | n :: ns => match kitB a n with
    | some true => some true
    | some false => kitAll a ns
    | none => none
def gIsi : List D → Res D
  | [d, .ty n] => match d.tyn with
    | some t => match kitB t n with
      | some k => .ok (.bl k)
      | none => .err
    | none => .err
  | [d, .tup es] => match d.tyn, tys? es with
    | some t, some ns => match kitAll t ns with
      | some k => .ok (.bl k)
      | none => .err
    | _, _ => .err
  | _ => .err
def rIsiA (K : PySem.W.Frag) : List V → Hp → VK → Prop := fun xs H Q => rIsi K xs H Q ∨ rIsiT K xs H Q ∨ rIsiK K xs H Q
theorem c_isi_o : CallR X (.builtin "isinstance") (rIsiA X.K) := call_isi.or (call_isiT.or call_isiK)
theorem kitAll_ok {t : String} : ∀ {ns : List String} {k : Bool}, kitAll t ns = some k → PySem.W.kitAny K (.type t) (ns.map Value.type) = some k
  | [], k, h => by
    cases h
    exact kitAny_nil
  | n :: ns, k, h => by
    have h' : (match kitB t n with | some true => some true | some false => kitAll t ns | none => none) = some k := h
    cases e : kitB t n with
    | none => rw [e] at h'; cases h'
    | some r =>
      rw [e] at h'
      cases r with
      | true =>
        cases h'
        exact kitAny_cons (kit_ty e) (fun z => nomatch z) fun _ => rfl
      | false => exact kitAny_cons (kit_ty e) (fun _ => kitAll_ok h') fun z => nomatch z
theorem tys?_ok {Z : AP} {H : Hp} : ∀ {ds : List D} {vs : List V} {ns : List String}, Shs K Z H ds vs → tys? ds = some ns → vs = ns.map V.ty
  | [], vs, ns, h, e => by
    cases e
    exact h
  | .ty i :: ds, _, ns, ⟨v, r, rfl, s1, s2⟩, e => by
    cases q : tys? ds with
    | none => rw [show tys? (.ty i :: ds) = (tys? ds).map (i :: ·) from rfl, q] at e; cases e
    | some ms =>
      rw [show tys? (.ty i :: ds) = (tys? ds).map (i :: ·) from rfl, q] at e
      cases e
      have s1' : v = .ty i := s1
      rw [s1', tys?_ok s2 q]
      rfl
  | .non :: ds, _, _, _, e => by cases e
  | .int _ :: ds, _, _, _, e => by cases e
  | .str _ :: ds, _, _, _, e => by cases e
  | .tup _ :: ds, _, _, _, e => by cases e
  | .lst _ :: ds, _, _, _, e => by cases e
  | .fn _ :: ds, _, _, _, e => by cases e
  | .bl _ :: ds, _, _, _, e => by cases e
theorem paired_ty : ∀ ns : List String, Paired ClsV (ns.map V.ty) (ns.map Value.type)
  | [] => .nil
  | n :: ns => .cons (.ty n) (paired_ty ns)
theorem vals_ty : ∀ {ns : List String} {us : List Value}, Vals (ns.map V.ty) us → us = ns.map Value.type
  | [], us, h => by cases h; rfl
  | n :: ns, us, h => by
    cases h with
    | cons r t =>
      have r' : _ = Value.type n := r
      rw [r', vals_ty t]
      rfl
theorem c_isi : CallD K (rIsiA K) gIsi := by
  intro Z H ds z xs Q hz hx hg k
  unfold gIsi at hg
  split at hg
  · obtain ⟨x, y, rfl, hx2, hy⟩ := shs2 hx
    split at hg
    · rename_i t ht
      split at hg
      · rename_i kk hk
        cases hg
        cases hy
        exact .inl ⟨_, _, _, _, _, rfl, .ty _, tyn_ok hx2 ht, kit_ty hk, k _ H (Same.refl H) rfl⟩
      · cases hg
    · cases hg
  · obtain ⟨x, y, rfl, hx2, hy⟩ := shs2 hx
    split at hg
    · rename_i t ns ht hn
      split at hg
      · rename_i kk hk
        cases hg
        obtain ⟨p, vs, rfl, r, s⟩ := hy
        have e := tys?_ok s hn
        subst e
        have fin := k _ H (Same.refl H) (show Sh K Z H (.bl kk) (.bl kk) from rfl)
        rcases r with ⟨r, _⟩ | r
        · exact .inr (.inl ⟨x, p, _, _, _, kk, rfl, r, paired_ty ns, tyn_ok hx2 ht, kitAll_ok hk, fin⟩)
        · rcases r with (r | ⟨o, r⟩) | ⟨o, its, n, h1, h2, h3, _, h4⟩
          · cases r
          · cases r
          · have e4 := vals_ty h4
            refine .inr (.inr ⟨x, p, o.dict, ns.map Value.type, n, o.slots, _, kk, rfl, ?_, tyn_ok hx2 ht, kitAll_ok hk, fin⟩)
            rw [h1]
            obtain ⟨c1, c2, c3, c4⟩ := o
            simp only at h2 h3 ⊢
            rw [h2, h3, ← e4]
      · cases hg
    · cases hg
  · cases hg
theorem de_tyn {n : String} {x : PySem.Str} {pos : Pos} (hm : X.mg x = none) (hv : bootBuiltins x = some (.type n)) (hg : Gl X x := by rfl) (hn : x ≠ "__name__" := by decide) (hd : (x == ("__debug__" : Str)) = false := by decide) : DE X c q b (.Name x pos) (dConst (.ty n)) :=
  de_const (pe_bltn (v := .ty n) hg hm hv rfl hn hd) fun _ _ _ => rfl
end
end DL
/-! statements, owned lists changed, loops -/
namespace DL
open PySem PySem.Spec PyProof.Rows L2

inductive Fl where
  | nx (ρ : Ev)
  | rt (d : D) (ρ : Ev)
  | bk (ρ : Ev)
  | ct (ρ : Ev)
/-- what is handed back: shared, or fresh of level n + 1 -/
def RtR (c : DC) (K : PySem.W.Frag) (rk : Option Nat) (fo : Nat → AP) (Z : AP) (H : Hp) (d : D) (v : V) : Prop := match rk with
  | none => Sh K Z H d v
  | some n => FrR c K (fun _ _ => True) H fo Z H n d v
def SEnd (c : DC) (K : PySem.W.Frag) (rk : Option Nat) (fo : Nat → AP) (Z : AP) (H : Hp) (E : Ends) : Fl → Prop
  | .nx ρ' => ∀ σ' H' Z' fo', RS c K ρ' Z' σ' H' fo' → Stp fo Z H fo' Z' H' → E.nx σ' H'
  | .bk ρ' => ∀ σ' H' Z' fo', RS c K ρ' Z' σ' H' fo' → Stp fo Z H fo' Z' H' → E.bk σ' H'
  | .ct ρ' => ∀ σ' H' Z' fo', RS c K ρ' Z' σ' H' fo' → Stp fo Z H fo' Z' H' → E.ct σ' H'
  | .rt d ρ' => ∀ v σ' H' Z' fo', RS c K ρ' Z' σ' H' fo' → Stp fo Z H fo' Z' H' → RtR c K rk fo' Z' H' d v → E.rt v H'
theorem SEnd.stp {c : DC} {K : PySem.W.Frag} {rk : Option Nat} {fo fo1 : Nat → AP} {Z Z1 : AP} {H H1 : Hp} {E : Ends} {fl : Fl} (h : SEnd c K rk fo Z H E fl) (s : Stp fo Z H fo1 Z1 H1) : SEnd c K rk fo1 Z1 H1 E fl := by
  cases fl with
  | nx ρ => exact fun σ' H' Z' fo' R s' => h σ' H' Z' fo' R (s.trans s')
  | bk ρ => exact fun σ' H' Z' fo' R s' => h σ' H' Z' fo' R (s.trans s')
  | ct ρ => exact fun σ' H' Z' fo' R s' => h σ' H' Z' fo' R (s.trans s')
  | rt d ρ => exact fun v σ' H' Z' fo' R s' => h v σ' H' Z' fo' R (s.trans s')
def tS (c : DC) (K : PySem.W.Frag) (rk : Option Nat) (f : Ev → Res Fl) : TS := fun E σ H => ∃ ρ Z fo, RS c K ρ Z σ H fo ∧ ∃ fl, f ρ = .ok fl ∧ SEnd c K rk fo Z H E fl
structure DS (X : Cx) (c : DC) (rk : Option Nat) (st : Stmt) (f : Ev → Res Fl) : Prop where
  ps : PS X st (tS c X.K rk f)
structure DSs (X : Cx) (c : DC) (rk : Option Nat) (st : List Stmt) (f : Ev → Res Fl) : Prop where
  ps : PSs X st (tS c X.K rk f)
def sNil (ρ : Ev) : Res Fl := .ok (.nx ρ)
def sSeq (f g : Ev → Res Fl) (ρ : Ev) : Res Fl := (f ρ).bind fun fl => match fl with
  | .nx ρ' => g ρ'
  | fl => .ok fl
def sIf (t : Ev → Res (Bool × Ev)) (f g : Ev → Res Fl) : Ev → Res Fl := dIf t f g
def sSet (i : Nat) (f : Ev → Res (D × Ev)) (ρ : Ev) : Res Fl := (f ρ).bind fun p => .ok (.nx (p.2.set i (some p.1)))
def sRet (f : Ev → Res (D × Ev)) (ρ : Ev) : Res Fl := (f ρ).bind fun p => .ok (.rt p.1 p.2)
def sDrop (f : Ev → Res (D × Ev)) (ρ : Ev) : Res Fl := (f ρ).bind fun p => .ok (.nx p.2)
def sErr (_ : Ev) : Res Fl := .err
section
variable {X : Cx} {c : DC} {rk : Option Nat} {q b : Bool} {e : Expr} {st : Stmt} {sts : List Stmt} {f g : Ev → Res Fl} {fe : Ev → Res (D × Ev)} {pos : Pos}
theorem dss_nil : DSs X c rk [] sNil := ⟨by
  refine PSs.imp pss_nil fun E σ H ⟨ρ, Z, fo, R, fl, hf, k⟩ => ?_
  cases hf
  exact k σ H Z fo R Stp.refl⟩
theorem dss_cons (h1 : DS X c rk st f) (h2 : DSs X c rk sts g) : DSs X c rk (st :: sts) (sSeq f g) := ⟨by
  refine PSs.imp (pss_cons h1.ps h2.ps) fun E σ H ⟨ρ, Z, fo, R, fl, hf, k⟩ => ?_
  obtain ⟨fl1, e1, hf⟩ := Res.bind_ok hf
  refine ⟨ρ, Z, fo, R, fl1, e1, ?_⟩
  cases fl1 with
  | nx ρ1 => exact fun σ1 H1 Z1 fo1 R1 s1 => ⟨ρ1, Z1, fo1, R1, fl, hf, k.stp s1⟩
  | rt d ρ1 => cases hf; exact k
  | bk ρ1 => cases hf; exact k
  | ct ρ1 => cases hf; exact k⟩
theorem dss_one (h1 : DS X c rk st f) : DSs X c rk [st] f := ⟨pss_one h1.ps⟩
theorem ds_if {t : Expr} {a b : List Stmt} {ft : Ev → Res (Bool × Ev)} (ht : DT X c false t ft) (ha : DSs X c rk a f) (hb : DSs X c rk b g) : DS X c rk (.If t a b pos) (sIf ft f g) := ⟨by
  refine PS.imp (ps_if ht.pt ha.ps hb.ps) fun E σ H ⟨ρ, Z, fo, R, fl, hf, k⟩ => ?_
  obtain ⟨⟨d1, ρ1⟩, h1, hf⟩ := Res.bind_ok hf
  refine ⟨ρ, Z, fo, R, d1, ρ1, h1, fun H1 Z1 fo1 R1 s1 m1 => ?_⟩
  cases d1 with
  | true =>
    rw [if_pos rfl] at hf ⊢
    exact ⟨ρ1, Z1, fo1, R1, fl, hf, k.stp s1⟩
  | false =>
    rw [if_neg Bool.false_ne_true] at hf ⊢
    exact ⟨ρ1, Z1, fo1, R1, fl, hf, k.stp s1⟩⟩
theorem ds_set (i : Nat) {x : PySem.Str} {pos' : Pos} (nd : X.N.Nodup) (he : DE X c false false e fe) (hk : c.ks.getD i 0 = 0 := by rfl) (hp : c.pl.contains i = false := by rfl) (hi : X.N[i]? = some x := by rfl) (hx : Loc X.env.scope x := by first | exact Or.inl rfl | exact Or.inr rfl)
    (hs : swapsWith e (some (.Name x pos')) pos.line X.env = pure false := by rfl) (hf : X.fn x = true ∨ X.env.scope.names.lookup x = some .local := by first | exact .inl rfl | exact .inr rfl) : DS X c rk (.Assign [.Name x pos'] e pos) (sSet i fe) := ⟨by
  refine PS.imp (ps_set nd hi hx he.pe hs hf) fun E σ H ⟨ρ, Z, fo, R, fl, hf, k⟩ => ?_
  obtain ⟨⟨d1, ρ1⟩, h1, hf⟩ := Res.bind_ok hf
  cases hf
  exact ⟨ρ, Z, fo, R, d1, ρ1, h1, fun v H1 Z1 fo1 R1 s1 m1 p1 => k _ H1 Z1 fo1 (R1.set hk hp p1) s1⟩⟩
/-- a slot of level n + 1 takes a fresh list -/
theorem RS.adopt {K : PySem.W.Frag} {ρ : Ev} {Z Zz : AP} {σ : L2.St} {H H0 : Hp} {fo fo0 : Nat → AP} {i n : Nat} {d : D} {v : V} (R : RS c K ρ Z σ H fo) (hk : c.ks.getD i 0 = n + 1) (hp0 : c.pl.contains i = false) (s : Stp fo0 Zz H0 fo Z H) (h : FrR c K fo0 H0 fo Z H n d v) :
    ∃ fo', RS c K (ρ.set i (some d)) Z (σ.set i (some v)) H fo' ∧ Stp fo0 Zz H0 fo' Z H := by
  have hp := npl hp0
  obtain ⟨P, h1, h2, h3, h4⟩ := h.ex
  refine ⟨fun j b => if j = i then P b else fo j b, ?_, ⟨s.k1, s.k2, s.k3, fun j b hj => ?_⟩⟩
  rotate_left
  · by_cases qj : j = i
    · rw [if_pos qj] at hj
      exact h4 b hj
    · rw [if_neg qj] at hj
      exact s.k4 j b hj
  refine { R with len := by rw [List.length_set, List.length_set]; exact R.len, val := fun j e he => ?_, dis := fun j k b hj hk => ?_, sub := fun j b hj => ?_, pin := fun j hj => ?_ }
  · by_cases q : i = j
    · subst q
      by_cases hl : i < ρ.length
      · rw [List.getElem?_set_self hl] at he
        have e1 : d = e := Option.some.inj (Option.some.inj he)
        subst e1
        refine ⟨v, List.getElem?_set_self (R.len ▸ hl), ?_⟩
        rw [hk]
        exact Ow.more (P := P) (fun b hb => by rw [if_pos rfl]; exact hb) h1
      · rw [List.getElem?_eq_none (by simpa using hl)] at he; cases he
    · rw [List.getElem?_set_ne q] at he
      obtain ⟨w, h4, h5⟩ := R.val j e he
      refine ⟨w, by rw [List.getElem?_set_ne q]; exact h4, Ow.more (P := fo j) (fun b hb => ?_) h5⟩
      rw [if_neg (fun z => q z.symm)]
      exact hb
  · by_cases qj : j = i
    · by_cases qk : k = i
      · rw [qj, qk]
      · rw [if_pos qj] at hj
        rw [if_neg qk] at hk
        exact absurd hk (h3 k b hj)
    · by_cases qk : k = i
      · rw [if_neg qj] at hj
        rw [if_pos qk] at hk
        exact absurd hj (h3 j b hk)
      · rw [if_neg qj] at hj
        rw [if_neg qk] at hk
        exact R.dis j k b hj hk
  · by_cases qj : j = i
    · rw [if_pos qj] at hj
      exact h2 b hj
    · rw [if_neg qj] at hj
      exact R.sub j b hj
  · rw [List.getElem?_set_ne (fun (e : i = j) => hp (by rw [e]; exact hj))]
    exact R.pin j hj
theorem ds_new (i : Nat) {n : Nat} {x : PySem.Str} {pos' : Pos} (nd : X.N.Nodup) (he : DF X c n e fe) (hk : c.ks.getD i 0 = n + 1 := by rfl) (hp : c.pl.contains i = false := by rfl) (hi : X.N[i]? = some x := by rfl) (hx : Loc X.env.scope x := by first | exact Or.inl rfl | exact Or.inr rfl)
    (hs : swapsWith e (some (.Name x pos')) pos.line X.env = pure false := by rfl) (hf : X.fn x = true ∨ X.env.scope.names.lookup x = some .local := by first | exact .inl rfl | exact .inr rfl) : DS X c rk (.Assign [.Name x pos'] e pos) (sSet i fe) := ⟨by
  refine PS.imp (ps_set nd hi hx he.pe hs hf) fun E σ H ⟨ρ, Z, fo, R, fl, hf, k⟩ => ?_
  obtain ⟨⟨d1, ρ1⟩, h1, hf⟩ := Res.bind_ok hf
  cases hf
  refine ⟨ρ, Z, fo, R, d1, ρ1, h1, fun v H1 Z1 fo1 R1 s1 p1 => ?_⟩
  obtain ⟨fo2, R2, s2⟩ := R1.adopt hk hp s1 p1
  exact k _ H1 Z1 fo2 R2 s2⟩
theorem ds_ret (he : DE X c false false e fe) : DS X c none (.Return (some e) pos) (sRet fe) := ⟨by
  refine PS.imp (ps_ret he.pe) fun E σ H ⟨ρ, Z, fo, R, fl, hf, k⟩ => ?_
  obtain ⟨⟨d1, ρ1⟩, h1, hf⟩ := Res.bind_ok hf
  cases hf
  exact ⟨ρ, Z, fo, R, d1, ρ1, h1, fun v H1 Z1 fo1 R1 s1 m1 p1 => k v σ H1 Z1 fo1 R1 s1 p1⟩⟩
theorem ds_retF {n : Nat} (he : DF X c n e fe) : DS X c (some n) (.Return (some e) pos) (sRet fe) := ⟨by
  refine PS.imp (ps_ret he.pe) fun E σ H ⟨ρ, Z, fo, R, fl, hf, k⟩ => ?_
  obtain ⟨⟨d1, ρ1⟩, h1, hf⟩ := Res.bind_ok hf
  cases hf
  exact ⟨ρ, Z, fo, R, d1, ρ1, h1, fun v H1 Z1 fo1 R1 s1 p1 => k v σ H1 Z1 fo1 R1 s1 ⟨let ⟨P, h1, h2, h3, _⟩ := p1.ex; ⟨P, h1, h2, h3, fun b _ => .inl ⟨0, True.intro⟩⟩⟩⟩⟩
/-- a name of an owned list, handed out as fresh -/
theorem df_own (i : Nat) {n : Nat} {x : PySem.Str} (hk : c.ks.getD i 0 = n + 1 := by rfl) (hN : X.N[i]? = some x := by rfl) (hv : Vis X.env.scope x := by first | exact Or.inl rfl | exact Or.inr (Or.inl rfl) | exact Or.inr (Or.inr rfl)) (hd : (x == ("__debug__" : Str)) = false := by decide)
    (hcd : (x == ("__classdict__" : Str)) = false := by decide) : DF X c n (.Name x pos) (dTake i) := ⟨by
  refine PE.imp (pe_var hN hv hd hcd) fun σ H Q ⟨ρ, Z, fo, R, d, ρ', hf, k⟩ => ?_
  obtain ⟨e, rfl⟩ := dTake_ok hf
  obtain ⟨v, h1, h2⟩ := R.val i d e
  rw [hk] at h2
  refine ⟨v, h1, k v H Z (fun j b => fo j b ∧ j ≠ i) ?_ ⟨fun _ _ h _ => h, fun _ h => .inl h, fun _ h _ _ => h, fun j b hj => .inl ⟨j, hj.1⟩⟩ ⟨fo i, h2, R.sub i, fun j b hb hj => hj.2 (R.dis j i b hj.1 hb), fun b hb => .inl ⟨i, hb⟩⟩⟩
  refine { R with len := by rw [List.length_set]; exact R.len, val := fun j e he => ?_, dis := fun i j b h1 h2 => R.dis i j b h1.1 h2.1, sub := fun j b hj => R.sub j b hj.1 }
  by_cases q : i = j
  · subst q
    by_cases hl : i < ρ.length
    · rw [List.getElem?_set_self hl] at he; cases he
    · rw [List.getElem?_eq_none (by simpa using hl)] at he; cases he
  · rw [List.getElem?_set_ne q] at he
    obtain ⟨w, h3, h4⟩ := R.val j e he
    exact ⟨w, h3, Ow.more (P := fo j) (fun b hb => ⟨hb, fun z => q z.symm⟩) h4⟩⟩
def sRetN (ρ : Ev) : Res Fl := .ok (.rt .non ρ)
theorem ds_retN : DS X c none (.Return none pos) sRetN := ⟨by
  refine PS.imp ps_retN fun E σ H ⟨ρ, Z, fo, R, fl, hf, k⟩ => ?_
  cases hf
  exact k _ σ H Z fo R Stp.refl rfl⟩
theorem ds_drop (he : DE X c false false e fe) (hs : swapsWith e none pos.line X.env = pure false := by rfl) : DS X c rk (.Expr e pos) (sDrop fe) := ⟨by
  refine PS.imp (ps_expr he.pe hs) fun E σ H ⟨ρ, Z, fo, R, fl, hf, k⟩ => ?_
  obtain ⟨⟨d1, ρ1⟩, h1, hf⟩ := Res.bind_ok hf
  cases hf
  exact ⟨ρ, Z, fo, R, d1, ρ1, h1, fun v H1 Z1 fo1 R1 s1 m1 p1 => k σ H1 Z1 fo1 R1 s1⟩⟩
theorem ds_never : DS X c rk st sErr := ⟨PS.imp ps_never fun E σ H ⟨ρ, Z, fo, R, fl, hf, k⟩ => by cases hf⟩
theorem ds_pass : DS X c rk (.Pass pos) sNil := ⟨by
  refine PS.imp ps_pass fun E σ H ⟨ρ, Z, fo, R, fl, hf, k⟩ => ?_
  cases hf
  exact k σ H Z fo R Stp.refl⟩
def sBreak (ρ : Ev) : Res Fl := .ok (.bk ρ)
def sCont (ρ : Ev) : Res Fl := .ok (.ct ρ)
theorem ds_break : DS X c rk (.Break pos) sBreak := ⟨by
  refine PS.imp ps_break fun E σ H ⟨ρ, Z, fo, R, fl, hf, k⟩ => ?_
  cases hf
  exact k σ H Z fo R Stp.refl⟩
theorem ds_cont : DS X c rk (.Continue pos) sCont := ⟨by
  refine PS.imp ps_continue fun E σ H ⟨ρ, Z, fo, R, fl, hf, k⟩ => ?_
  cases hf
  exact k σ H Z fo R Stp.refl⟩
/-- x op= e -/
def sAug (i : Nat) (g : D → D → Res D) (f : Ev → Res (D × Ev)) (ρ : Ev) : Res Fl := match ρ[i]? with
  | some (some x) => (f ρ).bind fun p => (g x p.1).bind fun z => .ok (.nx (p.2.set i (some z)))
  | _ => .err
theorem ds_aug (i : Nat) {x : PySem.Str} {op : Operator} {r : R2} {g : D → D → Res D} {pos' : Pos} (nd : X.N.Nodup) (ho : OpR X (inplaceOp op) r) (hg : OpD X.K r g) (he : DE X c false false e fe) (hk : c.ks.getD i 0 = 0 := by rfl) (hp : c.pl.contains i = false := by rfl)
    (hi : X.N[i]? = some x := by rfl) (hx : Loc X.env.scope x := by first | exact Or.inl rfl | exact Or.inr rfl) (hf : X.fn x = true ∨ X.env.scope.names.lookup x = some .local := by first | exact .inl rfl | exact .inr rfl) : DS X c rk (.AugAssign (.Name x pos') op e pos) (sAug i g fe) := ⟨by
  refine PS.imp (ps_aug nd hi hx he.pe (ti := r) ho hf) fun E σ H ⟨ρ, Z, fo, R, fl, hf, k⟩ => ?_
  unfold sAug at hf
  split at hf
  · rename_i d0 h0
    obtain ⟨⟨d1, ρ1⟩, h1, hf⟩ := Res.bind_ok hf
    obtain ⟨z, h2, hf⟩ := Res.bind_ok hf
    cases hf
    obtain ⟨v, q1, q2⟩ := R.val i d0 h0
    rw [hk] at q2
    refine ⟨v, q1, ρ, Z, fo, R, d1, ρ1, h1, fun w H1 Z1 fo1 R1 s1 m1 p1 => ?_⟩
    refine hg Z1 H1 d0 d1 _ v w _ R1.ownN (Sh.stp (s1.s0 R) q2) p1 h2 fun u H2 sm p2 => ?_
    exact k _ H2 Z1 fo1 ((R1.same sm).set hk hp p2) (s1.trans (Stp.same sm))
  · cases hf⟩

/-! targets -/
/-- only the slots ts are stored -/
def Only (ts : List Nat) (σ σ' : L2.St) : Prop := σ'.length = σ.length ∧ ∀ j, j ∉ ts → σ'[j]? = σ[j]?
theorem Only.refl {ts : List Nat} {σ : L2.St} : Only ts σ σ := ⟨rfl, fun _ _ => rfl⟩
theorem Only.trans {ts us : List Nat} {σ σ' σ'' : L2.St} (a : Only ts σ σ') (b : Only us σ' σ'') : Only (ts ++ us) σ σ'' :=
  ⟨b.1.trans a.1, fun j hj => (b.2 j fun z => hj (List.mem_append_right _ z)).trans (a.2 j fun z => hj (List.mem_append_left _ z))⟩
def tG (c : DC) (K : PySem.W.Frag) (ts : List Nat) (g : D → Ev → Res Ev) : TG := fun v σ H Q => ∃ ρ Z fo d, RS c K ρ Z σ H fo ∧ Sh K Z H d v ∧ ∃ ρ', g d ρ = .ok ρ' ∧ ∀ σ' H' Z' fo', RS c K ρ' Z' σ' H' fo' → Stp fo Z H fo' Z' H' → Only ts σ σ' → Q σ' H'
def tGs (c : DC) (K : PySem.W.Frag) (ts : List Nat) (g : List D → Ev → Res Ev) : TGs := fun vs σ H Q => ∃ ρ Z fo ds, RS c K ρ Z σ H fo ∧ Shs K Z H ds vs ∧ ∃ ρ', g ds ρ = .ok ρ' ∧ ∀ σ' H' Z' fo', RS c K ρ' Z' σ' H' fo' → Stp fo Z H fo' Z' H' → Only ts σ σ' → Q σ' H'
structure DG (X : Cx) (c : DC) (tg : Expr) (ts : List Nat) (g : D → Ev → Res Ev) : Prop where
  pg : PG X tg (tG c X.K ts g)
structure DGs (X : Cx) (c : DC) (tg : List Expr) (ts : List Nat) (g : List D → Ev → Res Ev) : Prop where
  pg : PGs X tg (tGs c X.K ts g)
theorem PG.imp {X : Cx} {e : Expr} {t u : TG} (h : PG X e t) (k : ∀ v σ H Q, u v σ H Q → t v σ H Q) : PG X e u := ⟨fun pins s σ H v w Q I r q => h.run pins s σ H v w Q I r (k _ _ _ _ q)⟩
theorem PGs.imp {X : Cx} {e : List Expr} {t u : TGs} (h : PGs X e t) (k : ∀ v σ H Q, u v σ H Q → t v σ H Q) : PGs X e u := ⟨fun pins s σ H v w Q I r q => h.run pins s σ H v w Q I r (k _ _ _ _ q)⟩
def gtName (i : Nat) (d : D) (ρ : Ev) : Res Ev := .ok (ρ.set i (some d))
def gtNil (ds : List D) (ρ : Ev) : Res Ev := match ds with
  | [] => .ok ρ
  | _ => .err
def gtCons (g : D → Ev → Res Ev) (gs : List D → Ev → Res Ev) (ds : List D) (ρ : Ev) : Res Ev := match ds with
  | d :: r => (g d ρ).bind fun ρ1 => gs r ρ1
  | [] => .err
def gtTup (n : Nat) (gs : List D → Ev → Res Ev) (d : D) (ρ : Ev) : Res Ev := match d with
  | .tup ds => if ds.length = n then gs ds ρ else .err
  | _ => .err
theorem dg_name (i : Nat) {x : PySem.Str} (nd : X.N.Nodup) (hk : c.ks.getD i 0 = 0 := by rfl) (hp : c.pl.contains i = false := by rfl) (hi : X.N[i]? = some x := by rfl) (hx : Loc X.env.scope x := by first | exact Or.inl rfl | exact Or.inr rfl)
    (hf : X.fn x = true ∨ X.env.scope.names.lookup x = some .local := by first | exact .inl rfl | exact .inr rfl) : DG X c (.Name x pos) [i] (gtName i) := ⟨by
  refine PG.imp (pg_name nd hi hx hf) fun v σ H Q ⟨ρ, Z, fo, d, R, p, ρ', hf, k⟩ => ?_
  cases hf
  exact k _ H Z fo (R.set hk hp p) Stp.refl ⟨by rw [List.length_set], fun j hj => List.getElem?_set_ne fun e => hj (by rw [e]; exact List.mem_singleton_self _)⟩⟩
theorem dgs_nil : DGs X c [] [] gtNil := ⟨by
  refine PGs.imp pgs_nil fun vs σ H Q ⟨ρ, Z, fo, ds, R, p, ρ', hf, k⟩ => ?_
  cases ds with
  | nil =>
    cases hf
    exact ⟨p, k σ H Z fo R Stp.refl Only.refl⟩
  | cons _ _ => cases hf⟩
theorem dgs_cons {es : List Expr} {g : D → Ev → Res Ev} {gs : List D → Ev → Res Ev} {ts us : List Nat} (h1 : DG X c e ts g) (h2 : DGs X c es us gs) (hs : (assignEach (e :: es) X.env).map (·.2) = assign e X.env :: (assignEach es X.env).map (·.2) := by rfl) : DGs X c (e :: es) (ts ++ us) (gtCons g gs) := ⟨by
  refine PGs.imp (pgs_cons h1.pg h2.pg hs) fun vs σ H Q ⟨ρ, Z, fo, ds, R, p, ρ', hf, k⟩ => ?_
  cases ds with
  | nil => cases hf
  | cons d r =>
    obtain ⟨ρ1, e1, hf⟩ := Res.bind_ok hf
    obtain ⟨v, vr, rfl, p1, p2⟩ := p
    refine ⟨v, vr, rfl, ρ, Z, fo, d, R, p1, ρ1, e1, fun σ1 H1 Z1 fo1 R1 s1 o1 => ⟨ρ1, Z1, fo1, r, R1, Shs.stp (s1.s0 R) p2, ρ', hf, fun σ2 H2 Z2 fo2 R2 s2 o2 => k σ2 H2 Z2 fo2 R2 (s1.trans s2) (o1.trans o2)⟩⟩⟩
theorem dg_tup {es : List Expr} {k n : Nat} {gs : List D → Ev → Res Ev} {ts : List Nat} (hc : X.calm = true) (h : DGs X c es ts gs) (hn : (assignEach es X.env).length = n := by rfl) (hst : (assignEach es X.env).findIdx? (·.1) = none := by rfl) : DG X c (.Tuple es k pos) ts (gtTup n gs) := ⟨by
  refine PG.imp (pg_tup hc h.pg hn hst) fun v σ H Q ⟨ρ, Z, fo, d, R, p, ρ', hf, k⟩ => ?_
  cases d with
  | tup ds =>
    obtain ⟨a, vs, rfl, r, s⟩ := p
    have hf' : (if ds.length = n then gs ds ρ else .err) = .ok ρ' := hf
    by_cases hl : ds.length = n
    · rw [if_pos hl] at hf'
      exact ⟨a, vs, rfl, r.sq, s.len ▸ hl, ρ, Z, fo, ds, R, s, ρ', hf', k⟩
    · rw [if_neg hl] at hf'; cases hf'
  | _ => cases hf⟩
def sAsg (f : Ev → Res (D × Ev)) (g : D → Ev → Res Ev) (ρ : Ev) : Res Fl := (f ρ).bind fun p => (g p.1 p.2).bind fun ρ' => .ok (.nx ρ')
theorem ds_asg {tg : Expr} {ts : List Nat} {gt : D → Ev → Res Ev} (he : DE X c false false e fe) (hg : DG X c tg ts gt) (hs : swapsWithSole [tg] e pos.line X.env = pure false := by rfl) (hw : swappedStores [tg] e X.env = pure none := by rfl)
    (h1 : (assignEach [tg] X.env).map (·.2) = [assign tg X.env] := by rfl) : DS X c rk (.Assign [tg] e pos) (sAsg fe gt) := ⟨by
  refine PS.imp (ps_asg he.pe hg.pg hs hw h1) fun E σ H ⟨ρ, Z, fo, R, fl, hf, k⟩ => ?_
  obtain ⟨⟨d1, ρ1⟩, h1, hf⟩ := Res.bind_ok hf
  obtain ⟨ρ2, h2, hf⟩ := Res.bind_ok hf
  cases hf
  exact ⟨ρ, Z, fo, R, d1, ρ1, h1, fun v H1 Z1 fo1 R1 s1 m1 p1 => ⟨ρ1, Z1, fo1, d1, R1, p1, ρ2, h2, fun σ2 H2 Z2 fo2 R2 s2 _ => k σ2 H2 Z2 fo2 R2 (s1.trans s2)⟩⟩⟩
def sPar (is : List Nat) (f : Ev → Res (List D × Ev)) (ρ : Ev) : Res Fl := (f ρ).bind fun p => match is, p.1 with
  | [i, j], [x, y] => .ok (.nx ((p.2.set i (some x)).set j (some y)))
  | [i, j, l], [x, y, z] => .ok (.nx (((p.2.set i (some x)).set j (some y)).set l (some z)))
  | _, _ => .err
theorem ds_par (i j : Nat) {x y : PySem.Str} {a e : Expr} {px py pt : Pos} {kt k2 pt2} {fs : Ev → Res (List D × Ev)} (hc : X.calm = true) (nd : X.N.Nodup) (ha : DAs X c false false [a, e] fs) (hki : c.ks.getD i 0 = 0 := by rfl) (hpi : c.pl.contains i = false := by rfl) (hkj : c.ks.getD j 0 = 0 := by rfl) (hpj : c.pl.contains j = false := by rfl)
    (hi : X.N[i]? = some x := by rfl) (hj : X.N[j]? = some y := by rfl) (hij : i ≠ j := by decide) (hx : X.env.scope.names.lookup x = some .local := by rfl) (hy : X.env.scope.names.lookup y = some .local := by rfl)
    (hw : swappedStores [.Tuple [.Name x px, .Name y py] kt pt] (.Tuple [a, e] k2 pt2) X.env = pure (some [x, y]) := by rfl)
    (hs : swapsWithSole [.Tuple [.Name x px, .Name y py] kt pt] (.Tuple [a, e] k2 pt2) pos.line X.env = pure false := by rfl) :
    DS X c rk (.Assign [.Tuple [.Name x px, .Name y py] kt pt] (.Tuple [a, e] k2 pt2) pos) (sPar [i, j] fs) := ⟨by
  refine PS.imp (ps_par hc nd hi hj hij hx hy ha.pa hw hs) fun E σ H ⟨ρ, Z, fo, R, fl, hf, k⟩ => ?_
  obtain ⟨⟨d1, ρ1⟩, h1, hf⟩ := Res.bind_ok hf
  refine ⟨ρ, Z, fo, R, d1, ρ1, h1, fun vs H1 Z1 fo1 R1 s1 m1 l1 p1 => ?_⟩
  match d1, hf, p1 with
  | [d, d2], hf, p1 =>
    cases hf
    obtain ⟨v, w, rfl, q1, q2⟩ := shs2 p1
    exact ⟨v, w, rfl, k _ H1 Z1 fo1 ((R1.set hki hpi q1).set hkj hpj q2) s1⟩
  | [], hf, _ => cases hf
  | [_], hf, _ => cases hf
  | _ :: _ :: _ :: _, hf, _ => cases hf⟩
theorem shs3 {K : PySem.W.Frag} {Z : AP} {H : Hp} {d e g : D} {xs : List V} (h : Shs K Z H [d, e, g] xs) : ∃ x y z, xs = [x, y, z] ∧ Sh K Z H d x ∧ Sh K Z H e y ∧ Sh K Z H g z := by
  obtain ⟨v, r, rfl, s, t⟩ := h
  obtain ⟨y, z, rfl, s2, s3⟩ := shs2 t
  exact ⟨v, y, z, rfl, s, s2, s3⟩
theorem ds_par3 (i j l : Nat) {x y z : PySem.Str} {a e e3 : Expr} {px py pz pt : Pos} {kt k2 pt2} {fs : Ev → Res (List D × Ev)} (hc : X.calm = true) (nd : X.N.Nodup) (ha : DAs X c false false [a, e, e3] fs) (hki : c.ks.getD i 0 = 0 := by rfl) (hpi : c.pl.contains i = false := by rfl) (hkj : c.ks.getD j 0 = 0 := by rfl) (hpj : c.pl.contains j = false := by rfl)
    (hkl : c.ks.getD l 0 = 0 := by rfl) (hpl : c.pl.contains l = false := by rfl) (hi : X.N[i]? = some x := by rfl) (hj : X.N[j]? = some y := by rfl) (hl : X.N[l]? = some z := by rfl) (hij : i ≠ j := by decide) (hil : i ≠ l := by decide) (hjl : j ≠ l := by decide)
    (hx : X.env.scope.names.lookup x = some .local := by rfl) (hy : X.env.scope.names.lookup y = some .local := by rfl) (hz : X.env.scope.names.lookup z = some .local := by rfl)
    (hw : swappedStores [.Tuple [.Name x px, .Name y py, .Name z pz] kt pt] (.Tuple [a, e, e3] k2 pt2) X.env = pure (some [x, y, z]) := by rfl)
    (hs : swapsWithSole [.Tuple [.Name x px, .Name y py, .Name z pz] kt pt] (.Tuple [a, e, e3] k2 pt2) pos.line X.env = pure false := by rfl) :
    DS X c rk (.Assign [.Tuple [.Name x px, .Name y py, .Name z pz] kt pt] (.Tuple [a, e, e3] k2 pt2) pos) (sPar [i, j, l] fs) := ⟨by
  refine PS.imp (ps_par3 hc nd hi hj hl hij hil hjl hx hy hz ha.pa hw hs) fun E σ H ⟨ρ, Z, fo, R, fl, hf, k⟩ => ?_
  obtain ⟨⟨d1, ρ1⟩, h1, hf⟩ := Res.bind_ok hf
  refine ⟨ρ, Z, fo, R, d1, ρ1, h1, fun vs H1 Z1 fo1 R1 s1 m1 l1 p1 => ?_⟩
  match d1, hf, p1 with
  | [d, d2, d3], hf, p1 =>
    cases hf
    obtain ⟨v, w, u, rfl, q1, q2, q3⟩ := shs3 p1
    exact ⟨v, w, u, rfl, k _ H1 Z1 fo1 (((R1.set hki hpi q1).set hkj hpj q2).set hkl hpl q3) s1⟩
  | [], hf, _ => cases hf
  | [_], hf, _ => cases hf
  | [_, _], hf, _ => cases hf
  | _ :: _ :: _ :: _ :: _, hf, _ => cases hf⟩

/-! owned lists of shared items, changed -/
theorem RS.mut1 {K : PySem.W.Frag} {ρ : Ev} {Z : AP} {σ : L2.St} {H : Hp} {fo : Nat → AP} {i : Nat} {ds : List D} (R : RS c K ρ Z σ H fo) (hk : c.ks.getD i 0 = 1) (h : ρ[i]? = some (some (.lst ds))) :
    ∃ a vs, σ[i]? = some (some (.ref a)) ∧ H a = some (.lst vs) ∧ Shs K Z H ds vs ∧ ∀ ds' vs', Shs K Z H ds' vs' →
      RS c K (ρ.set i (some (.lst ds'))) Z σ (upd H a (.lst vs')) fo ∧ Stp fo Z H fo Z (upd H a (.lst vs')) := by
  obtain ⟨v, h1, h2⟩ := R.val i _ h
  rw [hk] at h2
  obtain ⟨a, vs, rfl, pa, za, ha, l, Q, q1, q2, q3⟩ := h2
  refine ⟨a, vs, h1, ha, Shs.of l fun i d v e1 e2 => q3 i d v e1 e2, fun ds' vs' hs => ?_⟩
  have st : Stp0 Z H Z (upd H a (.lst vs')) := ⟨fun b o hb hz => by
    rw [upd_ne (fun (e : b = a) => hz (by rw [e]; exact za))]
    exact hb, fun b hb => .inl hb⟩
  refine ⟨?_, ⟨fun b o hb hf => by
    rw [upd_ne (fun (e : b = a) => hf i (by rw [e]; exact pa))]
    exact hb, fun b hb => .inl hb, fun b hb _ _ => hb, fun j b hb => .inl ⟨j, hb⟩⟩⟩
  refine { R with len := by rw [List.length_set]; exact R.len, val := fun j e he => ?_, own := fun b hb => ?_, e1 := fun b o h3 h4 => ?_, dm := fun b hb => ?_ }
  · by_cases q : i = j
    · subst q
      have hl : i < ρ.length := (List.getElem?_eq_some_iff.mp h).1
      rw [List.getElem?_set_self hl] at he
      have e1 : D.lst ds' = e := Option.some.inj (Option.some.inj he)
      subst e1
      refine ⟨_, h1, ?_⟩
      rw [hk]
      refine ⟨a, vs', rfl, pa, za, upd_same, hs.len, fun _ _ => False, fun _ _ z => z.elim, fun _ _ _ z _ => z.elim, fun j d v e1 e2 => ?_⟩
      obtain ⟨w, h5, h6⟩ := (hs.stp st).get e1
      rw [h5] at e2
      cases e2
      exact h6
    · rw [List.getElem?_set_ne q] at he
      obtain ⟨w, h5, h6⟩ := R.val j e he
      refine ⟨w, h5, Ow.keep (fun d v s => s.stp st) _ e w (fo j) (fun b hb hz hn => ⟨upd_ne fun e => q (R.dis i j b (e ▸ pa) hb), hz⟩) h6⟩
  · by_cases e : b = a
    · rw [e]
      exact ⟨_, upd_same, rfl⟩
    · rw [upd_ne e]
      exact R.own b hb
  · by_cases e : b = a
    · rcases (R.sub i a pa).2 with z | z
      · exact absurd (e ▸ z) h4
      · rw [e, z] at h3; cases h3
    · rw [upd_ne e]
      exact R.e1 b o h3 h4
  · by_cases e : b = a
    · rw [e, upd_same] at hb; cases hb
    · rw [upd_ne e] at hb
      exact R.dm b hb
def sApp (i : Nat) (f : Ev → Res (D × Ev)) (ρ : Ev) : Res Fl := match ρ[i]? with
  | some (some (.lst _)) => (f ρ).bind fun p => match p.2[i]? with
    | some (some (.lst ds)) => if ds.length < 16777216 then .ok (.nx (p.2.set i (some (.lst (ds ++ [p.1]))))) else .err
    | _ => .err
  | _ => .err
theorem sizeLine_gt {n : Nat} (h : n < 16777216) : n < sizeLine := by rw [sizeLine_eq]; exact h
theorem ds_app (i : Nat) {x : PySem.Str} {px apos cpos : Pos} (he : DE X c false false e fe) (hk : c.ks.getD i 0 = 1 := by rfl) (hN : X.N[i]? = some x := by rfl) (hv : Vis X.env.scope x := by first | exact Or.inl rfl | exact Or.inr (Or.inl rfl) | exact Or.inr (Or.inr rfl)) (hd : (x == ("__debug__" : Str)) = false := by decide)
    (hcd : (x == ("__classdict__" : Str)) = false := by decide) (hbase : attributeBase (.Name x px) "append" X.env (eval (.Name x px) X.env) = eval (.Name x px) X.env := by rfl)
    (hfew : ((backTo cpos (starEach [e] X.env)).all (fun x => !x.1) && (backToKw cpos (keywordEach [] X.env)).all (fun x => x.1.isSome) && decide ([e].length + ([] : List Keyword).length + (if ([] : List Keyword).isEmpty then 0 else 1) < 30)) = true := by rfl)
    (hline : (apos.endLine == cpos.line) = true := by rfl) (hs : starEach [e] X.env = (false, eval e X.env) :: starEach [] X.env := by rfl) (hplain : (backTo cpos (starEach [] X.env)).any (·.1) = false := by rfl)
    (hsw : swapsWith (.Call (.Attribute (.Name x px) "append" apos) [e] [] cpos) none pos.line X.env = pure false := by rfl) :
    DS X c rk (.Expr (.Call (.Attribute (.Name x px) "append" apos) [e] [] cpos) pos) (sApp i fe) := ⟨by
  refine PS.imp (ps_expr (pe_bm PySem.F.plainAttrs_list PySem.F.slot_list_append PySem.F.type_list_append mt_append (pe_var hN hv hd hcd) (pa_cons he.pe pa_nil hs) hbase hfew hline hs hplain) hsw) fun E σ H ⟨ρ, Z, fo, R, fl, hf, k⟩ => ?_
  unfold sApp at hf
  split at hf
  · rename_i ds0 h0
    obtain ⟨⟨d1, ρ1⟩, h1, hf⟩ := Res.bind_ok hf
    obtain ⟨a0, vs0, q1, q2, q3, _⟩ := R.mut1 hk h0
    refine ⟨_, q1, .inl ⟨rfl, vs0, SqL.of q2⟩, ρ, Z, fo, R, d1, ρ1, h1, fun w H1 Z1 fo1 R1 s1 m1 p1 => ?_⟩
    dsimp only at hf
    split at hf
    · rename_i ds h3
      obtain ⟨a, vs, r1, r2, r3, r4⟩ := R1.mut1 hk h3
      obtain ⟨h4, e4⟩ := if_ok hf
      subst e4
      have ea : a = a0 := by
        rw [q1] at r1
        cases r1
        rfl
      subst ea
      obtain ⟨R2, s2⟩ := r4 (ds ++ [d1]) (vs ++ [w]) (r3.app (Shs.one p1))
      exact ⟨a, vs, w, rfl, rfl, r2, sizeLine_gt (by rw [← r3.len]; exact h4), k σ _ Z1 fo1 R2 (s1.trans s2)⟩
    · cases hf
  · cases hf⟩
/-- x.pop() -/
def dPop (i : Nat) (ρ : Ev) : Res (D × Ev) := match ρ[i]? with
  | some (some (.lst ds)) => match ds[ds.length - 1]? with
    | some d => .ok (d, ρ.set i (some (.lst ds.dropLast)))
    | none => .err
  | _ => .err
theorem de_pop (i : Nat) {x : PySem.Str} {px apos cpos : Pos} (hk : c.ks.getD i 0 = 1 := by rfl) (hN : X.N[i]? = some x := by rfl) (hv : Vis X.env.scope x := by first | exact Or.inl rfl | exact Or.inr (Or.inl rfl) | exact Or.inr (Or.inr rfl)) (hd : (x == ("__debug__" : Str)) = false := by decide)
    (hcd : (x == ("__classdict__" : Str)) = false := by decide) (hbase : attributeBase (.Name x px) "pop" X.env (eval (.Name x px) X.env) = eval (.Name x px) X.env := by rfl) (hline : (apos.endLine == cpos.line) = true := by rfl) :
    DE X c false false (.Call (.Attribute (.Name x px) "pop" apos) [] [] cpos) (dPop i) := ⟨by
  refine PE.imp (pe_bm0 PySem.F.plainAttrs_list PySem.F.slot_list_pop PySem.F.type_list_pop mt_pop (pe_var hN hv hd hcd) hbase hline) fun σ H Q ⟨ρ, Z, fo, R, d, ρ', hf, k⟩ => ?_
  unfold dPop at hf
  split at hf
  · rename_i ds h0
    obtain ⟨a, vs, q1, q2, q3, q4⟩ := R.mut1 hk h0
    split at hf
    · rename_i d1 h1
      cases hf
      obtain ⟨w, h2, h3⟩ := q3.get h1
      obtain ⟨R2, s2⟩ := q4 ds.dropLast vs.dropLast q3.dropLast
      exact ⟨_, q1, .inl ⟨rfl, vs, SqL.of q2⟩, a, vs, w, rfl, rfl, q2, by rw [← q3.len]; exact h2, k w _ Z fo R2 s2 (fun z => nomatch z) (Sh.stp (s2.s0 R) h3)⟩
    · cases hf
  · cases hf⟩
/-- x.extend(fresh list) -/
def sExt (i : Nat) (f : Ev → Res (D × Ev)) (ρ : Ev) : Res Fl := match ρ[i]? with
  | some (some (.lst _)) => (f ρ).bind fun p => match p.2[i]? with
    | some (some (.lst ds)) => match p.1 with
      | .lst es => if ds.length + es.length ≤ 16777216 then .ok (.nx (p.2.set i (some (.lst (ds ++ es))))) else .err
      | _ => .err
    | _ => .err
  | _ => .err
theorem ds_ext (i : Nat) {x : PySem.Str} {px apos cpos : Pos} (he : DF X c 0 e fe) (hk : c.ks.getD i 0 = 1 := by rfl) (hN : X.N[i]? = some x := by rfl) (hv : Vis X.env.scope x := by first | exact Or.inl rfl | exact Or.inr (Or.inl rfl) | exact Or.inr (Or.inr rfl)) (hd : (x == ("__debug__" : Str)) = false := by decide)
    (hcd : (x == ("__classdict__" : Str)) = false := by decide) (hbase : attributeBase (.Name x px) "extend" X.env (eval (.Name x px) X.env) = eval (.Name x px) X.env := by rfl)
    (hfew : ((backTo cpos (starEach [e] X.env)).all (fun x => !x.1) && (backToKw cpos (keywordEach [] X.env)).all (fun x => x.1.isSome) && decide ([e].length + ([] : List Keyword).length + (if ([] : List Keyword).isEmpty then 0 else 1) < 30)) = true := by rfl)
    (hline : (apos.endLine == cpos.line) = true := by rfl) (hs : starEach [e] X.env = (false, eval e X.env) :: starEach [] X.env := by rfl) (hplain : (backTo cpos (starEach [] X.env)).any (·.1) = false := by rfl)
    (hsw : swapsWith (.Call (.Attribute (.Name x px) "extend" apos) [e] [] cpos) none pos.line X.env = pure false := by rfl) :
    DS X c rk (.Expr (.Call (.Attribute (.Name x px) "extend" apos) [e] [] cpos) pos) (sExt i fe) := ⟨by
  refine PS.imp (ps_expr (pe_bm PySem.F.plainAttrs_list PySem.F.slot_list_extend PySem.F.type_list_extend mt_extend (pe_var hN hv hd hcd) (pa_cons he.pe pa_nil hs) hbase hfew hline hs hplain) hsw) fun E σ H ⟨ρ, Z, fo, R, fl, hf, k⟩ => ?_
  unfold sExt at hf
  split at hf
  · rename_i ds0 h0
    obtain ⟨⟨d1, ρ1⟩, h1, hf⟩ := Res.bind_ok hf
    obtain ⟨a0, vs0, q1, q2, q3, _⟩ := R.mut1 hk h0
    refine ⟨_, q1, .inl ⟨rfl, vs0, SqL.of q2⟩, ρ, Z, fo, R, d1, ρ1, h1, fun w H1 Z1 fo1 R1 s1 p1 => ?_⟩
    dsimp only at hf
    split at hf
    · rename_i ds h3
      obtain ⟨a, vs, r1, r2, r3, r4⟩ := R1.mut1 hk h3
      cases d1 with
      | lst es => ?_
      | _ => cases hf
      obtain ⟨h4, e4⟩ := if_ok hf
      subst e4
      have ea : a = a0 := by
        rw [q1] at r1
        cases r1
        rfl
      subst ea
      obtain ⟨P, ⟨b, ws, rfl, pb, zb, hb, l, Q', o1, o2, o3⟩, _, _, _⟩ := p1.ex
      have hes : Shs X.K Z1 H1 es ws := Shs.of l fun i d v e1 e2 => o3 i d v e1 e2
      obtain ⟨R2, s2⟩ := r4 (ds ++ es) (vs ++ ws) (r3.app hes)
      exact ⟨a, b, vs, ws, rfl, rfl, r2, hb, sizeLine_ge (by rw [← r3.len, ← hes.len]; exact h4), k σ _ Z1 fo1 R2 (s1.trans s2)⟩
    · cases hf
  · cases hf⟩
/-- x[k] = e -/
def sPut (i : Nat) (f g : Ev → Res (D × Ev)) (ρ : Ev) : Res Fl := (f ρ).bind fun p => match p.2[i]? with
  | some (some (.lst _)) => (g p.2).bind fun r => match r.2[i]? with
    | some (some (.lst ds)) => match r.1 with
      | .int n => match ixN ds.length n with
        | some j => .ok (.nx (r.2.set i (some (.lst (ds.set j p.1)))))
        | none => .err
      | _ => .err
    | _ => .err
  | _ => .err
theorem ds_put (i : Nat) {x : PySem.Str} {ix : Expr} {px tpos : Pos} {fi : Ev → Res (D × Ev)} (he : DE X c false false e fe) (hi : DE X c false false ix fi) (hk : c.ks.getD i 0 = 1 := by rfl) (hN : X.N[i]? = some x := by rfl) (hv : Vis X.env.scope x := by first | exact Or.inl rfl | exact Or.inr (Or.inl rfl) | exact Or.inr (Or.inr rfl)) (hd : (x == ("__debug__" : Str)) = false := by decide)
    (hcd : (x == ("__classdict__" : Str)) = false := by decide)
    (ha : ∀ v, assign (.Subscript (.Name x px) ix tpos) X.env v = (do
      let ov ← holding [v] (eval (.Name x px) X.env)
      let iv ← holding [v, ov] (eval ix X.env)
      standAt tpos
      holding [v, ov, iv] (setItem ov iv v)
      release [v, ov, iv] []) := by intro _; rfl)
    (hs : swapsWithSole [.Subscript (.Name x px) ix tpos] e pos.line X.env = pure false := by rfl) (hw : swappedStores [.Subscript (.Name x px) ix tpos] e X.env = pure none := by rfl)
    (h1 : (assignEach [.Subscript (.Name x px) ix tpos] X.env).map (·.2) = [assign (.Subscript (.Name x px) ix tpos) X.env] := by rfl) :
    DS X c rk (.Assign [.Subscript (.Name x px) ix tpos] e pos) (sPut i fe fi) := ⟨by
  refine PS.imp (ps_asg he.pe (pg_sub (pe_var hN hv hd hcd) hi.pe set_list ha) hs hw h1) fun E σ H ⟨ρ, Z, fo, R, fl, hf, k⟩ => ?_
  obtain ⟨⟨d1, ρ1⟩, e1, hf⟩ := Res.bind_ok hf
  dsimp only at hf
  split at hf
  · rename_i ds0 h0
    obtain ⟨⟨d2, ρ2⟩, e2, hf⟩ := Res.bind_ok hf
    dsimp only at hf
    split at hf
    · rename_i ds h3
      cases d2 with
      | int n =>
        dsimp only at hf
        split at hf
        · rename_i j hj
          cases hf
          refine ⟨ρ, Z, fo, R, d1, ρ1, e1, fun w H1 Z1 fo1 R1 s1 m1 p1 => ?_⟩
          obtain ⟨a0, vs0, q1, q2, q3, _⟩ := R1.mut1 hk h0
          refine ⟨_, q1, ρ1, Z1, fo1, R1, .int n, ρ2, e2, fun y H2 Z2 fo2 R2 s2 m2 p2 => ?_⟩
          cases p2
          obtain ⟨a, vs, r1, r2, r3, r4⟩ := R2.mut1 hk h3
          rw [q1] at r1
          cases r1
          obtain ⟨R3, s3⟩ := r4 (ds.set j d1) (vs.set j w) (r3.set j (Sh.stp (s2.s0 R1) p1))
          exact ⟨_, vs, n, j, rfl, rfl, r2, by rw [← r3.len]; exact hj, k σ _ Z2 fo2 R3 ((s1.trans s2).trans s3)⟩
        · cases hf
      | _ => cases hf
    · cases hf
  · cases hf⟩
end
end DL
/-! loops, comprehensions -/
namespace DL
open PySem PySem.Spec PyProof.Rows L2

/-! ### what is walked -/
/-- J walks the items ds, while what is shared stays -/
def ItR (K : PySem.W.Frag) (Z : AP) (H : Hp) (J : It) (ds : List D) : Prop := ∃ G Y, L2.Walk J ds.length G Y ∧ (∀ Z1 H1, Stp0 Z H Z1 H1 → G H1) ∧
  ∀ i Z1 H1 x H2, i < ds.length → Stp0 Z H Z1 H1 → (∀ b, Z1 b → H1 b ≠ none) → Y i H1 x H2 → Same H1 H2 ∧ ∃ d, ds[i]? = some d ∧ Sh K Z1 H2 d x
def tI (c : DC) (K : PySem.W.Frag) (f : Ev → Res (List D × Ev)) : TI := fun σ H R => ∃ ρ Z fo, RS c K ρ Z σ H fo ∧ ∃ ds ρ', f ρ = .ok (ds, ρ') ∧
  ∀ J H' Z' fo', RS c K ρ' Z' σ H' fo' → Stp fo Z H fo' Z' H' → ItR K Z' H' J ds → R J H'
structure DI (X : Cx) (c : DC) (tg iter : Expr) (f : Ev → Res (List D × Ev)) : Prop where
  pi : PI X tg iter (tI c X.K f)
theorem PI.imp {X : Cx} {tg e : Expr} {t u : TI} (h : PI X tg e t) (k : ∀ σ H R, u σ H R → t σ H R) : PI X tg e u := ⟨fun pins s σ H R I q => h.run pins s σ H R I (k _ _ _ q)⟩
def dSeqI (f : Ev → Res (D × Ev)) (ρ : Ev) : Res (List D × Ev) := (f ρ).bind fun p => match seqOf p.1 with
  | some ds => .ok (ds, p.2)
  | none => .err
def dTupI (f : Ev → Res (D × Ev)) (ρ : Ev) : Res (List D × Ev) := (f ρ).bind fun p => match p.1 with
  | .tup ds => .ok (ds, p.2)
  | _ => .err
def dLstI (f : Ev → Res (D × Ev)) (ρ : Ev) : Res (List D × Ev) := (f ρ).bind fun p => match p.1 with
  | .lst ds => .ok (ds, p.2)
  | _ => .err
def rgD (a b : Int) : List D := (List.range (b - a).toNat).map fun i => D.int (a + (i : Nat))
abbrev RgI (a b : Int) : Prop := -(2 ^ 62) ≤ a ∧ a < 2 ^ 62 ∧ -(2 ^ 62) ≤ b ∧ b < 2 ^ 62
def dRng1 (f : Ev → Res (D × Ev)) (ρ : Ev) : Res (List D × Ev) := (f ρ).bind fun p => match p.1 with
  | .int n => if RgI 0 n then .ok (rgD 0 n, p.2) else .err
  | _ => .err
def dRng2 (f : Ev → Res (List D × Ev)) (ρ : Ev) : Res (List D × Ev) := (f ρ).bind fun p => match p.1 with
  | [.int m, .int n] => if RgI m n then .ok (rgD m n, p.2) else .err
  | _ => .err
/-- range(a, b, -1) -/
def rgDn (a b : Int) : List D := (List.range (a - b).toNat).map fun i => D.int (a - (i : Nat))
def dRngD (f : Ev → Res (List D × Ev)) (ρ : Ev) : Res (List D × Ev) := (f ρ).bind fun p => match p.1 with
  | [.int m, .int n, .int k] => if RgI m n ∧ k = -1 then .ok (rgDn m n, p.2) else .err
  | _ => .err
def pairD (xs ys : List D) : List D := (xs.zip ys).map fun p => .tup [p.1, p.2]
def dZip (f : Ev → Res (List D × Ev)) (ρ : Ev) : Res (List D × Ev) := (f ρ).bind fun p => match p.1 with
  | [.tup xs, .tup ys] => .ok (pairD xs ys, p.2)
  | [.lst xs, .lst ys] => .ok (pairD xs ys, p.2)
  | _ => .err
def enumD (ds : List D) : List D := (ds.zipIdx).map fun p => .tup [.int (p.2 : Nat), p.1]
def dEnumL (f : Ev → Res (D × Ev)) (ρ : Ev) : Res (List D × Ev) := (f ρ).bind fun p => match p.1 with
  | .lst xs => .ok (enumD xs, p.2)
  | _ => .err
def dStrI (f : Ev → Res (D × Ev)) (ρ : Ev) : Res (List D × Ev) := (f ρ).bind fun p => match p.1 with
  | .str z => .ok (z.cps.toList.map fun c => .str ⟨#[c]⟩, p.2)
  | _ => .err
section
variable {X : Cx} {c : DC} {q b : Bool} {tg e : Expr} {fe : Ev → Res (D × Ev)} {pos p : Pos}
theorem ItR.list {K : PySem.W.Frag} {Z : AP} {H : Hp} {a : Addr} {vs : List V} {ds : List D} (r : RdL K Z H a vs) (s : Shs K Z H ds vs) : ItR K Z H (Itl K a) ds := by
  refine ⟨_, _, by rw [s.len]; exact walk_list (xs := vs), fun Z1 H1 st => (r.stp st).sq, fun i Z1 H1 x H2 hi st hz y => ?_⟩
  obtain ⟨rfl, y⟩ := y
  obtain ⟨d, h1, h2⟩ := (Shs.stp st s).getV y
  exact ⟨Same.refl _, d, h1, h2⟩
theorem ItR.tup {K : PySem.W.Frag} {Z : AP} {H : Hp} {a : Addr} {vs : List V} {ds : List D} (r : RdT K Z H a vs) (s : Shs K Z H ds vs) : ItR K Z H (Itt K a) ds := by
  refine ⟨_, _, by rw [s.len]; exact walk_tup (xs := vs), fun Z1 H1 st => (r.stp st).sq, fun i Z1 H1 x H2 hi st hz y => ?_⟩
  obtain ⟨rfl, y⟩ := y
  obtain ⟨d, h1, h2⟩ := (Shs.stp st s).getV y
  exact ⟨Same.refl _, d, h1, h2⟩
theorem di_tup (he : DE X c false false e fe) : DI X c tg e (dTupI fe) := ⟨by
  refine PI.imp (pi_tup he.pe) fun σ H R ⟨ρ, Z, fo, RR, ds, ρ', hf, k⟩ => ?_
  obtain ⟨⟨d1, ρ1⟩, e1, hf⟩ := Res.bind_ok hf
  refine ⟨ρ, Z, fo, RR, d1, ρ1, e1, fun v H1 Z1 fo1 R1 s1 m1 p1 => ?_⟩
  cases d1 with
  | tup es =>
    cases hf
    obtain ⟨a, vs, rfl, r, s⟩ := p1
    exact ⟨a, rfl, ⟨vs, r.sq⟩, k _ H1 Z1 fo1 R1 s1 (ItR.tup r s)⟩
  | _ => cases hf⟩
theorem di_list (he : DE X c false false e fe) : DI X c tg e (dLstI fe) := ⟨by
  refine PI.imp (pi_list he.pe) fun σ H R ⟨ρ, Z, fo, RR, ds, ρ', hf, k⟩ => ?_
  obtain ⟨⟨d1, ρ1⟩, e1, hf⟩ := Res.bind_ok hf
  refine ⟨ρ, Z, fo, RR, d1, ρ1, e1, fun v H1 Z1 fo1 R1 s1 m1 p1 => ?_⟩
  cases d1 with
  | lst es =>
    cases hf
    obtain ⟨a, vs, rfl, r, s⟩ := p1
    exact ⟨a, rfl, ⟨vs, r.sq⟩, k _ H1 Z1 fo1 R1 s1 (ItR.list r s)⟩
  | _ => cases hf⟩
theorem ItR.range {K : PySem.W.Frag} {Z : AP} {H : Hp} {a b : Int} : ItR K Z H (Itr a (b - a).toNat) (rgD a b) := by
  have hl : (rgD a b).length = (b - a).toNat := by unfold rgD; rw [List.length_map, List.length_range]
  refine ⟨_, _, by rw [hl]; exact walk_range, fun _ _ _ => True.intro, fun i Z1 H1 x H2 hi st hz y => ?_⟩
  obtain ⟨rfl, rfl⟩ := y
  refine ⟨Same.refl _, .int (a + (i : Nat)), ?_, rfl⟩
  rw [hl] at hi
  unfold rgD
  rw [List.getElem?_map, List.getElem?_range hi]
  rfl
theorem di_rng1 (hm : X.mg "range" = none) (ha : DE X c false false e fe) (hg : Gl X "range" := by rfl) (hs : starEach [e] X.env = [(false, eval e X.env)] := by rfl) : DI X c tg (.Call (.Name "range" p) [e] [] pos) (dRng1 fe) := ⟨by
  refine PI.imp (pi_range1 hg hm (pa_cons ha.pe pa_nil hs) hs) fun σ H R ⟨ρ, Z, fo, RR, ds, ρ', hf, k⟩ => ?_
  obtain ⟨⟨d1, ρ1⟩, e1, hf⟩ := Res.bind_ok hf
  refine ⟨ρ, Z, fo, RR, d1, ρ1, e1, fun v H1 Z1 fo1 R1 s1 m1 p1 => ?_⟩
  cases d1 with
  | int n =>
    obtain ⟨⟨h0, h1, h2, h3⟩, e2⟩ := if_ok hf
    cases e2
    cases p1
    have it : ItR X.K Z1 H1 (Itr 0 (n - 0).toNat) (rgD 0 n) := ItR.range
    rw [Int.sub_zero] at it
    exact ⟨n, rfl, h2, h3, k _ H1 Z1 fo1 R1 s1 it⟩
  | _ => cases hf⟩
theorem di_rng2 {e2 : Expr} {f : Ev → Res (List D × Ev)} (hm : X.mg "range" = none) (ha : DAs X c false false [e, e2] f) (hg : Gl X "range" := by rfl) (hs : starEach [e, e2] X.env = [(false, eval e X.env), (false, eval e2 X.env)] := by rfl) (hs2 : starEach [e2] X.env = [(false, eval e2 X.env)] := by rfl) : DI X c tg (.Call (.Name "range" p) [e, e2] [] pos) (dRng2 f) := ⟨by
  refine PI.imp (pi_range2 hg hm ha.pa hs hs2) fun σ H R ⟨ρ, Z, fo, RR, ds, ρ', hf, k⟩ => ?_
  obtain ⟨⟨d1, ρ1⟩, e1, hf⟩ := Res.bind_ok hf
  refine ⟨ρ, Z, fo, RR, d1, ρ1, e1, fun vs H1 Z1 fo1 R1 s1 m1 l1 p1 => ?_⟩
  dsimp only at hf
  split at hf
  · obtain ⟨x, y, rfl, x1, x2⟩ := shs2 p1
    obtain ⟨hR, e2⟩ := if_ok hf
    cases e2
    cases x1
    cases x2
    exact ⟨_, _, rfl, hR, k _ H1 Z1 fo1 R1 s1 ItR.range⟩
  · cases hf⟩
theorem getElem?_pair {xs ys : List D} {i : Nat} {d e : D} (h1 : xs[i]? = some d) (h2 : ys[i]? = some e) : (pairD xs ys)[i]? = some (.tup [d, e]) := by
  unfold pairD
  rw [List.getElem?_map, (List.getElem?_zip_eq_some (z := (d, e))).mpr ⟨h1, h2⟩]
  rfl
theorem pair_len {xs ys : List D} : (pairD xs ys).length = min xs.length ys.length := by
  unfold pairD
  rw [List.length_map, List.length_zip]
theorem Sh.pair {K : PySem.W.Frag} {Z : AP} {H : Hp} {T : Addr} {d e : D} {x y : V} (hn : H T = none) (hz : ∀ b, Z b → H b ≠ none) (h1 : Sh K Z H d x) (h2 : Sh K Z H e y) : Sh K Z (upd H T (.tup [x, y])) (.tup [d, e]) (.ref T) := by
  have sm : Same H (upd H T (.tup [x, y])) := same_upd hn
  exact ⟨T, _, rfl, RdT.new upd_same fun z => hz T z hn, x, [y], rfl, h1.same sm, y, [], rfl, h2.same sm, rfl⟩
theorem walk_zipT {K : PySem.W.Frag} {a b : Addr} {xs ys : List V} {n : Nat} (hn : n = min xs.length ys.length) : L2.Walk (RZ.ItzT K a b) n (fun H => SqT K H a xs ∧ SqT K H b ys) (YPair (fun i => xs[i]?) (fun i => ys[i]?)) := by
  subst hn
  refine ⟨fun i _ hi q => ?_, fun _ q => ⟨xs, ys, q.1, q.2, by omega⟩, fun i H v H' _ q y => ?_⟩
  · have h1 : i < xs.length := by omega
    have h2 : i < ys.length := by omega
    exact ⟨xs, ys, xs[i], ys[i], q.1, q.2, by simp [h1], by simp [h2]⟩
  · obtain ⟨T, x, z, h1, h2, h3, h4, h5⟩ := y
    exact ⟨T, x, z, h1, h2, h3, h4 xs q.1, h5 ys q.2⟩
theorem di_zip {e2 : Expr} {elts : List Expr} {kk : Nat} {tpos : Pos} {f : Ev → Res (List D × Ev)} (hm : X.mg "zip" = none) (ha : DAs X c false false [e, e2] f) (hg : Gl X "zip" := by rfl) (hs : starEach [e, e2] X.env = (false, eval e X.env) :: starEach [e2] X.env := by rfl) (hs2 : (backTo pos (starEach [e2] X.env)).any (·.1) = false := by rfl) :
    DI X c (.Tuple elts kk tpos) (.Call (.Name "zip" p) [e, e2] [] pos) (dZip f) := ⟨by
  refine PI.imp (RZ.pi_zipA hg hm ha.pa hs hs2) fun σ H R ⟨ρ, Z, fo, RR, ds, ρ', hf, k⟩ => ?_
  obtain ⟨⟨d1, ρ1⟩, e1, hf⟩ := Res.bind_ok hf
  refine ⟨ρ, Z, fo, RR, d1, ρ1, e1, fun vs H1 Z1 fo1 R1 s1 m1 l1 p1 => ?_⟩
  dsimp only at hf
  split at hf
  · rename_i xs ys
    obtain ⟨x, y, rfl, ⟨a, us, rfl, r1, q1⟩, ⟨b, ws, rfl, r2, q2⟩⟩ := shs2 p1
    cases hf
    refine ⟨a, b, us, ws, rfl, .inr ⟨r1.sq, r2.sq, k _ H1 Z1 fo1 R1 s1 ?_⟩⟩
    refine ⟨_, _, walk_zipT (xs := us) (ys := ws) (by rw [pair_len, q1.len, q2.len]), fun Z2 H2 st => ⟨(r1.stp st).sq, (r2.stp st).sq⟩, fun i Z2 H2 v H3 hi st hz yy => ?_⟩
    obtain ⟨T, x, y, rfl, nT, rfl, g1, g2⟩ := yy
    obtain ⟨dx, g3, g4⟩ := (Shs.stp st q1).getV g1
    obtain ⟨dy, g5, g6⟩ := (Shs.stp st q2).getV g2
    exact ⟨same_upd nT, _, getElem?_pair g3 g5, Sh.pair nT hz g4 g6⟩
  · rename_i xs ys
    obtain ⟨x, y, rfl, ⟨a, us, rfl, r1, q1⟩, ⟨b, ws, rfl, r2, q2⟩⟩ := shs2 p1
    cases hf
    refine ⟨a, b, us, ws, rfl, .inl ⟨r1.sq, r2.sq, k _ H1 Z1 fo1 R1 s1 ?_⟩⟩
    refine ⟨_, _, L2.walk_zip (xs := us) (ys := ws) (by rw [pair_len, q1.len, q2.len]), fun Z2 H2 st => ⟨(r1.stp st).sq, (r2.stp st).sq⟩, fun i Z2 H2 v H3 hi st hz yy => ?_⟩
    obtain ⟨T, x, y, rfl, nT, rfl, g1, g2⟩ := yy
    obtain ⟨dx, g3, g4⟩ := (Shs.stp st q1).getV g1
    obtain ⟨dy, g5, g6⟩ := (Shs.stp st q2).getV g2
    exact ⟨same_upd nT, _, getElem?_pair g3 g5, Sh.pair nT hz g4 g6⟩
  · cases hf⟩
/-! ### for -/
def sLoop (g : D → Ev → Res Ev) (f : Ev → Res Fl) : List D → Ev → Res Fl
  | [], ρ => .ok (.nx ρ)
  | d :: ds, ρ => (g d ρ).bind fun ρ1 => (f ρ1).bind fun fl => match fl with
    | .nx ρ2 => sLoop g f ds ρ2
    | .ct ρ2 => sLoop g f ds ρ2
    | .bk ρ2 => .ok (.nx ρ2)
    | .rt d ρ2 => .ok (.rt d ρ2)
def sFor (fi : Ev → Res (List D × Ev)) (g : D → Ev → Res Ev) (f : Ev → Res Fl) (ρ : Ev) : Res Fl := (fi ρ).bind fun p => sLoop g f p.1 p.2
theorem ds_for {rk : Option Nat} {iter : Expr} {body : List Stmt} {fi : Ev → Res (List D × Ev)} {g : D → Ev → Res Ev} {f : Ev → Res Fl} (hp : PassesOwn (model X.prog X.w) X.A X.env X.xe) (hc : X.calm = true) {ts : List Nat} (hi : DI X c tg iter fi) (hg : DG X c tg ts g) (hb : DSs X c rk body f)
    (hs : ∀ x, foldedSetIterable iter X.env x = pure x := by intro _; rfl) : DS X c rk (.For tg iter body [] pos) (sFor fi g f) := ⟨by
  refine PS.imp (ps_for hp hc hi.pi hg.pg hb.ps hs) fun E σ H ⟨ρ, Z, fo, R, fl, hf, k⟩ => ?_
  obtain ⟨⟨ds, ρ1⟩, e1, hf⟩ := Res.bind_ok hf
  refine ⟨ρ, Z, fo, R, ds, ρ1, e1, fun J H1 Z1 fo1 R1 s1 it => ?_⟩
  obtain ⟨G, Y, w, hG, hY⟩ := it
  have k1 := k.stp s1
  refine L2.for_it w (fun i σ' H' => ∃ ρi Zi foi, RS c X.K ρi Zi σ' H' foi ∧ Stp fo1 Z1 H1 foi Zi H' ∧ sLoop g f (ds.drop i) ρi = .ok fl) ⟨ρ1, Z1, fo1, R1, Stp.refl, hf⟩ (fun i σ' H' _ ⟨ρi, Zi, foi, Ri, si, _⟩ => hG Zi H' (si.s0 R1)) ?_ ?_
  · rintro i x σ' H' H2 hi ⟨ρi, Zi, foi, Ri, si, li⟩ y
    obtain ⟨sm, d, hd, hx⟩ := hY i Zi H' x H2 hi (si.s0 R1) Ri.ownN y
    have ed : ds.drop i = d :: ds.drop (i + 1) := by
      rw [List.drop_eq_getElem_cons hi]
      congr 1
      rw [List.getElem?_eq_getElem hi] at hd
      exact Option.some.inj hd
    rw [ed] at li
    obtain ⟨ρ2, g1, li⟩ := Res.bind_ok (show (g d ρi).bind (fun ρ1 => (f ρ1).bind fun fl => _) = .ok fl from li)
    obtain ⟨fl2, g2, li⟩ := Res.bind_ok li
    refine ⟨ρi, Zi, foi, d, Ri.same sm, hx, ρ2, g1, fun σ3 H3 Z3 fo3 R3 s3 _ => ⟨ρ2, Z3, fo3, R3, fl2, g2, ?_⟩⟩
    have s13 : Stp fo1 Z1 H1 fo3 Z3 H3 := (si.trans (Stp.same sm)).trans s3
    cases fl2 with
    | nx ρ4 => exact fun σ4 H4 Z4 fo4 R4 s4 => ⟨ρ4, Z4, fo4, R4, s13.trans s4, li⟩
    | ct ρ4 => exact fun σ4 H4 Z4 fo4 R4 s4 => ⟨ρ4, Z4, fo4, R4, s13.trans s4, li⟩
    | bk ρ4 =>
      cases li
      exact fun σ4 H4 Z4 fo4 R4 s4 => k1 σ4 H4 Z4 fo4 R4 (s13.trans s4)
    | rt d ρ4 =>
      cases li
      exact fun v σ4 H4 Z4 fo4 R4 s4 => k1 v σ4 H4 Z4 fo4 R4 (s13.trans s4)
  · rintro σ' H' ⟨ρi, Zi, foi, Ri, si, li⟩
    rw [List.drop_length] at li
    cases li
    exact k1 σ' H' Zi foi Ri si⟩
/-! ### while -/
def sWhileN (t : Ev → Res (Bool × Ev)) (f : Ev → Res Fl) : Nat → Ev → Res Fl
  | 0, _ => .err
  | n + 1, ρ => (t ρ).bind fun p => if p.1 = true then (f p.2).bind fun fl => match fl with
      | .nx ρ2 => sWhileN t f n ρ2
      | .ct ρ2 => sWhileN t f n ρ2
      | .bk ρ2 => .ok (.nx ρ2)
      | .rt d ρ2 => .ok (.rt d ρ2)
    else .ok (.nx p.2)
open Classical in
noncomputable def sWhile (t : Ev → Res (Bool × Ev)) (f : Ev → Res Fl) (ρ : Ev) : Res Fl := if h : ∃ n fl, sWhileN t f n ρ = .ok fl then sWhileN t f h.choose ρ else .err
theorem sWhileN_mono {t : Ev → Res (Bool × Ev)} {f : Ev → Res Fl} : ∀ {n : Nat} {ρ : Ev} {fl : Fl}, sWhileN t f n ρ = .ok fl → ∀ m, n ≤ m → sWhileN t f m ρ = .ok fl
  | 0, _, _, h, _, _ => by cases h
  | n + 1, ρ, fl, h, m, hm => by
    obtain ⟨m', rfl⟩ : ∃ m', m = m' + 1 := ⟨m - 1, by omega⟩
    obtain ⟨⟨k, ρ1⟩, h1, h⟩ := Res.bind_ok (show (t ρ).bind _ = .ok fl from h)
    show (t ρ).bind _ = .ok fl
    rw [h1]
    show (if k = true then _ else _) = Res.ok fl
    have h' : (if k = true then _ else _) = Res.ok fl := h
    cases k with
    | false => exact h'
    | true =>
      rw [if_pos rfl] at h' ⊢
      obtain ⟨fl2, h2, h'⟩ := Res.bind_ok h'
      rw [h2]
      cases fl2 with
      | nx ρ2 => exact sWhileN_mono h' m' (by omega)
      | ct ρ2 => exact sWhileN_mono h' m' (by omega)
      | bk ρ2 => exact h'
      | rt d ρ2 => exact h'
theorem sWhile_of {t : Ev → Res (Bool × Ev)} {f : Ev → Res Fl} {n : Nat} {ρ : Ev} {fl : Fl} (h : sWhileN t f n ρ = .ok fl) : sWhile t f ρ = .ok fl := by
  have ex : ∃ n fl, sWhileN t f n ρ = .ok fl := ⟨n, fl, h⟩
  unfold sWhile
  rw [dif_pos ex]
  obtain ⟨fl2, h2⟩ := ex.choose_spec
  rw [h2]
  have a := sWhileN_mono h (max n ex.choose) (Nat.le_max_left _ _)
  have b := sWhileN_mono h2 (max n ex.choose) (Nat.le_max_right _ _)
  rw [a] at b
  exact b.symm
theorem sWhile_to {t : Ev → Res (Bool × Ev)} {f : Ev → Res Fl} {ρ : Ev} {fl : Fl} (h : sWhile t f ρ = .ok fl) : ∃ n, sWhileN t f n ρ = .ok fl := by
  unfold sWhile at h
  split at h
  · rename_i ex
    exact ⟨_, h⟩
  · cases h
/-- the one-turn equation, as far as it ends -/
theorem sWhile_step {t : Ev → Res (Bool × Ev)} {f : Ev → Res Fl} {ρ ρ1 : Ev} {fl : Fl} {k : Bool} (h1 : t ρ = .ok (k, ρ1)) (h2 : k = false → fl = .nx ρ1)
    (h3 : k = true → ∃ fl2, f ρ1 = .ok fl2 ∧ match fl2 with
      | .nx ρ2 => sWhile t f ρ2 = .ok fl
      | .ct ρ2 => sWhile t f ρ2 = .ok fl
      | .bk ρ2 => fl = .nx ρ2
      | .rt d ρ2 => fl = .rt d ρ2) : sWhile t f ρ = .ok fl := by
  cases k with
  | false =>
    refine sWhile_of (n := 1) ?_
    show (t ρ).bind _ = _
    rw [h1, h2 rfl]
    rfl
  | true =>
    obtain ⟨fl2, h4, h5⟩ := h3 rfl
    cases fl2 with
    | nx ρ2 =>
      obtain ⟨n, h6⟩ := sWhile_to h5
      refine sWhile_of (n := n + 1) ?_
      show (t ρ).bind _ = _
      rw [h1]
      show (f ρ1).bind _ = _
      rw [h4]
      exact h6
    | ct ρ2 =>
      obtain ⟨n, h6⟩ := sWhile_to h5
      refine sWhile_of (n := n + 1) ?_
      show (t ρ).bind _ = _
      rw [h1]
      show (f ρ1).bind _ = _
      rw [h4]
      exact h6
    | bk ρ2 =>
      refine sWhile_of (n := 1) ?_
      show (t ρ).bind _ = _
      rw [h1]
      show (f ρ1).bind _ = _
      rw [h4, h5]
      rfl
    | rt d ρ2 =>
      refine sWhile_of (n := 1) ?_
      show (t ρ).bind _ = _
      rw [h1]
      show (f ρ1).bind _ = _
      rw [h4, h5]
      rfl
theorem ds_while {rk : Option Nat} {t : Expr} {body : List Stmt} {ft : Ev → Res (Bool × Ev)} {f : Ev → Res Fl} (hp : PassesOwn (model X.prog X.w) X.A X.env X.xe) (ht : DT X c false t ft) (hb : DSs X c rk body f) : DS X c rk (.While t body [] pos) (sWhile ft f) := ⟨by
  refine PS.imp (ps_while hp ht.pt hb.ps) fun E σ H ⟨ρ, Z, fo, R, fl, hf, k⟩ => ?_
  obtain ⟨n, hf⟩ := sWhile_to hf
  refine ⟨fun m σ' H' => ∃ ρi Zi foi, RS c X.K ρi Zi σ' H' foi ∧ Stp fo Z H foi Zi H' ∧ sWhileN ft f m ρi = .ok fl, ⟨n, ρ, Z, fo, R, Stp.refl, hf⟩, fun m σ' H' ⟨ρi, Zi, foi, Ri, si, li⟩ => ?_⟩
  cases m with
  | zero => cases li
  | succ m =>
    obtain ⟨⟨kk, ρ1⟩, h1, li⟩ := Res.bind_ok (show (ft ρi).bind _ = .ok fl from li)
    refine ⟨ρi, Zi, foi, Ri, kk, ρ1, h1, fun H1 Z1 fo1 R1 s1 m1 => ?_⟩
    have s01 := si.trans s1
    cases kk with
    | false =>
      rw [if_neg Bool.false_ne_true] at li
      cases li
      exact iteF (k σ' H1 Z1 fo1 R1 s01)
    | true =>
      rw [if_pos rfl] at li
      obtain ⟨fl2, h2, li⟩ := Res.bind_ok li
      refine iteT ⟨fun σ3 H3 => ∃ ρi Zi foi, RS c X.K ρi Zi σ3 H3 foi ∧ Stp fo Z H foi Zi H3 ∧ sWhileN ft f m ρi = .ok fl, fun σ3 H3 h3 => ⟨m, by omega, h3⟩, ρ1, Z1, fo1, R1, fl2, h2, ?_⟩
      cases fl2 with
      | nx ρ4 => exact fun σ4 H4 Z4 fo4 R4 s4 => ⟨ρ4, Z4, fo4, R4, s01.trans s4, li⟩
      | ct ρ4 => exact fun σ4 H4 Z4 fo4 R4 s4 => ⟨ρ4, Z4, fo4, R4, s01.trans s4, li⟩
      | bk ρ4 =>
        cases li
        exact fun σ4 H4 Z4 fo4 R4 s4 => k σ4 H4 Z4 fo4 R4 (s01.trans s4)
      | rt d ρ4 =>
        cases li
        exact fun v σ4 H4 Z4 fo4 R4 s4 => k v σ4 H4 Z4 fo4 R4 (s01.trans s4)⟩
end
end DL
/-! comprehensions, defs and their calls -/
namespace DL
open PySem PySem.Spec PyProof.Rows L2

def wipeE (ρ : Ev) : List Nat → Ev
  | [] => ρ
  | v :: vs => (wipeE ρ vs).set v none
def restE (ρ ρ1 : Ev) : List Nat → Ev
  | [] => ρ
  | v :: vs => (restE ρ ρ1 vs).set v ((ρ1[v]?).getD none)
def cLoop (vs : List Nat) (g : D → Ev → Res Ev) (tt : Ev → Res (Bool × Ev)) (te : Ev → Res (D × Ev)) : List D → Ev → Res (List D × Ev)
  | [], ρ => .ok ([], ρ)
  | d :: ds, ρ => (g d ρ).bind fun ρ1 => (tt ρ1).bind fun p => if p.1 = true then (te p.2).bind fun r => (cLoop vs g tt te ds (wipeE r.2 vs)).bind fun s => .ok (r.1 :: s.1, s.2)
      else cLoop vs g tt te ds (wipeE p.2 vs)
def dComp (fi : Ev → Res (List D × Ev)) (vs : List Nat) (g : D → Ev → Res Ev) (tt : Ev → Res (Bool × Ev)) (te : Ev → Res (D × Ev)) (ρ : Ev) : Res (D × Ev) := (fi ρ).bind fun p => if p.1.length ≤ 16777216 then
    (cLoop vs g tt te p.1 (wipeE p.2 vs)).bind fun r => .ok (.lst r.1, restE r.2 p.2 vs) else .err
def dYes (ρ : Ev) : Res (Bool × Ev) := .ok (true, ρ)
structure DTs (X : Cx) (c : DC) (ifs : List Expr) (f : Ev → Res (Bool × Ev)) : Prop where
  pt : PTs X ifs (tT c X.K false f)
theorem PTs.imp {X : Cx} {e : List Expr} {t u : TT} (h : PTs X e t) (k : ∀ σ H Q, u σ H Q → t σ H Q) : PTs X e u := ⟨fun pins s σ H Q I q => h.run pins s σ H Q I (k _ _ _ q)⟩
theorem wipeE_len (ρ : Ev) : ∀ vs, (wipeE ρ vs).length = ρ.length
  | [] => rfl
  | v :: vs => by unfold wipeE; rw [List.length_set, wipeE_len ρ vs]
theorem wipeE_get {ρ : Ev} {i : Nat} {d : D} : ∀ {vs : List Nat}, (wipeE ρ vs)[i]? = some (some d) → ρ[i]? = some (some d) ∧ i ∉ vs
  | [], h => ⟨h, by simp⟩
  | v :: vs, h => by
    unfold wipeE at h
    by_cases hi : v = i
    · subst hi
      by_cases hv : v < (wipeE ρ vs).length
      · rw [List.getElem?_set_self hv] at h; cases h
      · rw [List.getElem?_eq_none (by simpa using hv)] at h; cases h
    · rw [List.getElem?_set_ne hi] at h
      obtain ⟨h1, h2⟩ := wipeE_get h
      exact ⟨h1, by simp only [List.mem_cons, not_or]; exact ⟨fun e => hi e.symm, h2⟩⟩
theorem restE_len (ρ ρ1 : Ev) : ∀ vs, (restE ρ ρ1 vs).length = ρ.length
  | [] => rfl
  | v :: vs => by unfold restE; rw [List.length_set, restE_len ρ ρ1 vs]
theorem restE_in {ρ ρ1 : Ev} {i : Nat} {d : D} : ∀ {vs : List Nat}, i ∈ vs → (restE ρ ρ1 vs)[i]? = some (some d) → ρ1[i]? = some (some d)
  | v :: vs, hi, h => by
    unfold restE at h
    by_cases e : v = i
    · subst e
      by_cases hv : v < (restE ρ ρ1 vs).length
      · rw [List.getElem?_set_self hv] at h
        have h' : (ρ1[v]?).getD none = some d := Option.some.inj h
        cases q : ρ1[v]? with
        | none => rw [q] at h'; cases h'
        | some o => rw [q] at h'; rw [show o = some d from h']
      · rw [List.getElem?_eq_none (by simpa using hv)] at h; cases h
    · rw [List.getElem?_set_ne e] at h
      exact restE_in ((List.mem_cons.mp hi).resolve_left fun z => e z.symm) h
theorem restE_out {ρ ρ1 : Ev} {i : Nat} : ∀ {vs : List Nat}, i ∉ vs → (restE ρ ρ1 vs)[i]? = ρ[i]?
  | [], _ => rfl
  | v :: vs, hi => by
    unfold restE
    rw [List.getElem?_set_ne (fun e => hi (by rw [e]; exact List.mem_cons_self)), restE_out (fun z => hi (List.mem_cons_of_mem _ z))]
theorem wipe_ext {σ σ' : L2.St} {vs : List Nat} (h : σ.length = σ'.length) (k : ∀ j, j ∉ vs → σ[j]? = σ'[j]?) : wipe σ vs = wipe σ' vs := by
  apply List.ext_getElem?
  intro j
  by_cases hj : j ∈ vs
  · have go : ∀ (τ : L2.St) (us : List Nat), j ∈ us → (wipe τ us)[j]? = if j < τ.length then some none else none := by
      intro τ us
      induction us with
      | nil => intro z; cases z
      | cons u us ih =>
        intro z
        unfold wipe
        by_cases e : u = j
        · subst e
          by_cases hv : u < τ.length
          · rw [List.getElem?_set_self (by rw [wipe_length]; exact hv), if_pos hv]
          · rw [List.getElem?_eq_none (by rw [List.length_set, wipe_length]; omega), if_neg hv]
        · rw [List.getElem?_set_ne e]
          exact ih ((List.mem_cons.mp z).resolve_left fun q => e q.symm)
    rw [go σ vs hj, go σ' vs hj, h]
  · rw [wipe_out hj, wipe_out hj, k j hj]
theorem wipe_wipe (σ : L2.St) (vs : List Nat) : wipe (wipe σ vs) vs = wipe σ vs := wipe_ext (wipe_length σ vs) fun j hj => wipe_out hj
section
variable {X : Cx} {c : DC} {K : PySem.W.Frag} {ρ ρ1 : Ev} {Z Z1 : AP} {σ : L2.St} {H H1 : Hp} {fo fo1 : Nat → AP} {vs : List Nat}
theorem RS.wipe (R : RS c K ρ Z σ H fo) (hp : ∀ v ∈ vs, v ∉ c.pl) : RS c K (wipeE ρ vs) Z (L2.wipe σ vs) H fo :=
  { R with
    len := by rw [wipeE_len, wipe_length]; exact R.len
    val := fun i d h => by
      obtain ⟨h1, h2⟩ := wipeE_get h
      obtain ⟨v, h3, h4⟩ := R.val i d h1
      exact ⟨v, by rw [wipe_out h2]; exact h3, h4⟩
    pin := fun i hi => by
      rw [wipe_out fun z => hp i z hi]
      exact R.pin i hi }
theorem RS.unwipe (R : RS c K ρ Z (L2.wipe σ vs) H fo) (R1 : RS c K ρ1 Z1 σ H1 fo1) (s : Stp fo1 Z1 H1 fo Z H) (hk : ∀ v ∈ vs, c.ks.getD v 0 = 0) (hp : ∀ v ∈ vs, v ∉ c.pl) : RS c K (restE ρ ρ1 vs) Z σ H fo :=
  { R with
    len := by rw [restE_len, R.len, wipe_length]
    val := fun i d h => by
      by_cases hi : i ∈ vs
      · obtain ⟨v, h1, h2⟩ := R1.val i d (restE_in hi h)
        rw [hk i hi] at h2 ⊢
        exact ⟨v, h1, Sh.stp (s.s0 R1) h2⟩
      · rw [restE_out hi] at h
        obtain ⟨v, h1, h2⟩ := R.val i d h
        exact ⟨v, by rw [← wipe_out hi]; exact h1, h2⟩
    pin := fun i hi => by
      rw [← wipe_out (vs := vs) fun z => hp i z hi]
      exact R.pin i hi }
/-- an owned list that no slot holds is changed -/
theorem RS.pend {D : Addr} {xs ys : List V} (R : RS c K ρ Z σ H fo) (hz : Z D) (hf : ∀ i, ¬ fo i D) (hi : c.Hi D = none) (hD : H D = some (.lst xs)) :
    RS c K ρ Z σ (upd H D (.lst ys)) fo ∧ Stp0 Z H Z (upd H D (.lst ys)) := by
  have st : Stp0 Z H Z (upd H D (.lst ys)) := ⟨fun b o h z => by
    rw [upd_ne (fun (e : b = D) => z (by rw [e]; exact hz))]
    exact h, fun b h => .inl h⟩
  refine ⟨{ R with val := fun i d h => ?_, own := fun b hb => ?_, e1 := fun b o h1 h2 => ?_, dm := fun b h => ?_ }, st⟩
  · obtain ⟨v, h1, h2⟩ := R.val i d h
    exact ⟨v, h1, Ow.keep (fun d v s => s.stp st) _ d v (fo i) (fun b hb z _ => ⟨upd_ne fun e => hf i (by rw [← e]; exact hb), z⟩) h2⟩
  · by_cases e : b = D
    · rw [e]
      exact ⟨_, upd_same, rfl⟩
    · rw [upd_ne e]
      exact R.own b hb
  · have e : b ≠ D := fun e => by rw [e, hi] at h1; cases h1
    rw [upd_ne e]
    exact R.e1 b o h1 h2
  · by_cases e : b = D
    · rw [e, upd_same] at h; cases h
    · rw [upd_ne e] at h
      exact R.dm b h
theorem dts_nil : DTs X c [] dYes := ⟨by
  refine PTs.imp pts_nil fun σ H Q ⟨ρ, Z, fo, R, k, ρ', hf, q⟩ => ?_
  cases hf
  exact q H Z fo R Stp.refl (fun z => nomatch z)⟩
theorem dts_one {e : Expr} {f : Ev → Res (Bool × Ev)} (h : DT X c false e f) : DTs X c [e] f := ⟨pts_one h.pt⟩
end
section
variable {X : Cx} {c : DC} {pos : Pos}
theorem allK {vs : List Nat} {l : List Nat} (h : (vs.all fun v => l.getD v 0 == 0) = true) : ∀ v ∈ vs, l.getD v 0 = 0 := fun v hv => by
  have := List.all_eq_true.mp h v hv
  simpa using this
theorem allP {vs : List Nat} {l : List Nat} (h : (vs.all fun v => !l.contains v) = true) : ∀ v ∈ vs, v ∉ l := fun v hv => by
  have := List.all_eq_true.mp h v hv
  simpa using this
theorem lc_read {fi : Ev → Res (List D × Ev)} {vs ts : List Nat} {g : D → Ev → Res Ev} {tt : Ev → Res (Bool × Ev)} {te : Ev → Res (D × Ev)} {K : PySem.W.Frag} (hk : ∀ v ∈ vs, c.ks.getD v 0 = 0) (hp : ∀ v ∈ vs, v ∉ c.pl) (ht : ∀ t ∈ ts, t ∈ vs) {σ : L2.St} {H : Hp} {Q : VK}
    (h : tF c K 0 (dComp fi vs g tt te) σ H Q) : tLc (tI c K fi) (tG c K ts g) (tT c K false tt) (tD c K false false te) vs σ H Q := by
  obtain ⟨ρ, Z, fo, R, d, ρ', hf, k⟩ := h
  obtain ⟨⟨ds, ρ1⟩, e1, hf⟩ := Res.bind_ok hf
  dsimp only at hf
  by_cases hl : ds.length ≤ 16777216
  · rw [if_pos hl] at hf
    obtain ⟨⟨es, ρ2⟩, e2, hf⟩ := Res.bind_ok hf
    cases hf
    refine ⟨ρ, Z, fo, R, ds, ρ1, e1, fun J H1 Z1 fo1 R1 s1 it D hD => ?_⟩
    obtain ⟨G, Y, w, hG, hY⟩ := it
    have hiD : c.Hi D = none := R1.dm D hD
    refine L2.lc_it w (fun i H' => ∃ ρi Zi foi acc aV rest, RS c K ρi Zi (L2.wipe σ vs) H' foi ∧ Stp fo1 Z1 H1 foi Zi H' ∧ Zi D ∧ (∀ j, ¬ foi j D) ∧ H' D = some (.lst aV) ∧ Shs K Zi H' acc aV ∧ acc.length ≤ i ∧
      cLoop vs g tt te (ds.drop i) ρi = .ok (rest, ρ2) ∧ es = acc ++ rest) ?_ ?_ ?_ ?_
    · obtain ⟨R2, s2⟩ := R1.take (vs := []) hD
      exact ⟨_, _, fo1, [], [], es, R2.wipe hp, s2, .inr rfl, fun j hj => R1.nz hD (R1.sub j D hj).1, upd_same, rfl, Nat.zero_le _, e2, rfl⟩
    · rintro i H' _ ⟨ρi, Zi, foi, acc, aV, rest, Ri, si, _⟩
      exact hG Zi H' (si.s0 R1)
    · rintro i x H' H2 hi ⟨ρi, Zi, foi, acc, aV, rest, Ri, si, zD, fD, hD', sA, lA, cl, ee⟩ y
      obtain ⟨sm, dd, hd, hx⟩ := hY i Zi H' x H2 hi (si.s0 R1) Ri.ownN y
      have ed : ds.drop i = dd :: ds.drop (i + 1) := by
        rw [List.drop_eq_getElem_cons hi]
        congr 1
        rw [List.getElem?_eq_getElem hi] at hd
        exact Option.some.inj hd
      rw [ed] at cl
      obtain ⟨ρ3, g1, cl⟩ := Res.bind_ok (show (g dd ρi).bind _ = .ok (rest, ρ2) from cl)
      obtain ⟨⟨kk, ρ4⟩, g2, cl⟩ := Res.bind_ok cl
      dsimp only at cl
      refine ⟨ρi, Zi, foi, dd, Ri.same sm, hx, ρ3, g1, fun σ3 H3 Z3 fo3 R3 s3 o3 => ?_⟩
      have ew : L2.wipe σ3 vs = L2.wipe σ vs := by
        rw [← wipe_wipe σ vs]
        exact wipe_ext o3.1 fun j hj => o3.2 j fun z => hj (ht j z)
      refine ⟨ew, ρ3, Z3, fo3, R3, kk, ρ4, g2, fun H4 Z4 fo4 R4 s4 _ => ?_⟩
      have s04 : Stp foi Zi H' fo4 Z4 H4 := ((Stp.same sm).trans s3).trans s4
      have hn : H' D ≠ none := by rw [hD']; exact fun z => nomatch z
      have D4 : H4 D = some (.lst aV) := s04.k1 D _ hD' fD
      have zD4 : Z4 D := s04.k3 D zD hn fD
      have fD4 : ∀ j, ¬ fo4 j D := s04.nf hD' fD
      cases kk with
      | false =>
        rw [if_neg Bool.false_ne_true] at cl
        refine iteF ⟨wipeE ρ4 vs, Z4, fo4, acc, aV, rest, ?_, si.trans s04, zD4, fD4, D4, Shs.stp (s04.s0 Ri) sA, by omega, cl, ee⟩
        rw [← ew]
        exact R4.wipe hp
      | true =>
        rw [if_pos rfl] at cl
        obtain ⟨⟨y1, ρ5⟩, g3, cl⟩ := Res.bind_ok cl
        obtain ⟨⟨rest2, ρ6⟩, g4, cl⟩ := Res.bind_ok cl
        cases cl
        refine iteT ⟨ρ4, Z4, fo4, R4, y1, ρ5, g3, fun yv H5 Z5 fo5 R5 s5 _ p5 => ?_⟩
        have s05 := s04.trans s5
        have D5 : H5 D = some (.lst aV) := s05.k1 D _ hD' fD
        have zD5 : Z5 D := s05.k3 D zD hn fD
        have fD5 : ∀ j, ¬ fo5 j D := s05.nf hD' fD
        have sA5 : Shs K Z5 H5 acc aV := Shs.stp (s05.s0 Ri) sA
        obtain ⟨R6, s6⟩ := R5.pend (ys := aV ++ [yv]) zD5 fD5 hiD D5
        refine ⟨aV, D5, ?_, wipeE ρ5 vs, Z5, fo5, acc ++ [y1], aV ++ [yv], rest2, ?_, ?_, zD5, fD5, upd_same, Shs.stp s6 (sA5.app (Shs.one p5)), by rw [List.length_append, List.length_singleton]; omega, g4, by rw [ee, List.append_assoc]; rfl⟩
        · rw [← sA5.len]
          exact sizeLine_gt (by omega)
        · rw [← ew]
          exact R6.wipe hp
        · have s15 := si.trans s05
          refine ⟨fun b o hb hf => ?_, s15.k2, s15.k3, s15.k4⟩
          rw [upd_ne (fun (e : b = D) => by rw [e, hD] at hb; cases hb)]
          exact s15.k1 b o hb hf
    · rintro H' ⟨ρi, Zi, foi, acc, aV, rest, Ri, si, zD, fD, hD', sA, lA, cl, ee⟩
      rw [List.drop_length] at cl
      cases cl
      rw [List.append_nil] at ee
      subst ee
      refine k _ H' Zi foi (Ri.unwipe R1 si hk hp) (s1.trans si) ⟨fun b => b = D, ⟨D, aV, rfl, rfl, zD, hD', sA.len, fun _ _ => False, fun _ _ z => z.elim, fun _ _ _ z _ => z.elim, fun i d v h1 h2 => ?_⟩, fun b hb => ⟨by rw [hb]; exact zD, .inr (by rw [hb]; exact hiD)⟩, fun j b hb z => fD j (by rw [← hb]; exact z), fun b hb => ?_⟩
      · obtain ⟨w, h3, h4⟩ := sA.get h1
        rw [h3] at h2
        cases h2
        exact h4
      · rw [hb]
        exact (s1.none hD).symm
  · rw [if_neg hl] at hf; cases hf
theorem df_lc {elt tg iter : Expr} {ifs : List Expr} {scope : Scope} {own : List (PySem.Str × Nat)} {fi : Ev → Res (List D × Ev)} {ts : List Nat} {g : D → Ev → Res Ev} {tt : Ev → Res (Bool × Ev)} {te : Ev → Res (D × Ev)} (hc : X.calm = true) (nd : X.N.Nodup) (hi : DI X c tg iter fi) (ok : BlkOk X.N X.env.scope scope own)
    (hg : ∀ (s : Shared) (H : Hp) (C : Addr) (cl : List (PySem.Str × Addr)) (fp : List Addr), DG (X.blk s H scope (compEnvC scope cl C X.env) fp) c tg ts g)
    (htt : ∀ (s : Shared) (H : Hp) (C : Addr) (cl : List (PySem.Str × Addr)) (fp : List Addr), DTs (X.blk s H scope (compEnvC scope cl C X.env) fp) c ifs tt)
    (he : ∀ (s : Shared) (H : Hp) (C : Addr) (cl : List (PySem.Str × Addr)) (fp : List Addr), DE (X.blk s H scope (compEnvC scope cl C X.env) fp) c false false elt te)
    (hk : ((own.map (·.2)).all fun v => c.ks.getD v 0 == 0) = true := by rfl) (hp : ((own.map (·.2)).all fun v => !c.pl.contains v) = true := by rfl) (ht : ∀ t ∈ ts, t ∈ own.map (·.2) := by decide) (hs : ∀ x, foldedSetIterable iter X.env x = pure x := by intro _; rfl) :
    DF X c 0 (.ListComp elt [⟨tg, iter, ifs, 0⟩] scope pos) (dComp fi (own.map (·.2)) g tt te) :=
  ⟨PE.imp (pe_lc hc nd hi.pi ok (fun s H C cl fp => (hg s H C cl fp).pg) (fun s H C cl fp => (htt s H C cl fp).pt) (fun s H C cl fp => (he s H C cl fp).pe) hs) fun σ H Q h => lc_read (allK hk) (allP hp) ht h⟩
/-- y = [..]: into a slot of level 1 -/
theorem ds_lc (i : Nat) {rk : Option Nat} {y : PySem.Str} {py spos : Pos} {elt tg iter : Expr} {ifs : List Expr} {scope : Scope} {own : List (PySem.Str × Nat)} {fi : Ev → Res (List D × Ev)} {ts : List Nat} {g : D → Ev → Res Ev} {tt : Ev → Res (Bool × Ev)} {te : Ev → Res (D × Ev)} (hc : X.calm = true) (nd : X.N.Nodup)
    (hsw : swapsWith (.ListComp elt [⟨tg, iter, ifs, 0⟩] scope pos) (some (.Name y py)) spos.line X.env = pure true) (hi : DI X c tg iter fi) (ok : BlkOk X.N X.env.scope scope own)
    (hg : ∀ (s : Shared) (H : Hp) (C : Addr) (cl : List (PySem.Str × Addr)) (fp : List Addr), DG (X.blk s H scope (compEnvC scope cl C X.env) fp) c tg ts g)
    (htt : ∀ (s : Shared) (H : Hp) (C : Addr) (cl : List (PySem.Str × Addr)) (fp : List Addr), DTs (X.blk s H scope (compEnvC scope cl C X.env) fp) c ifs tt)
    (he : ∀ (s : Shared) (H : Hp) (C : Addr) (cl : List (PySem.Str × Addr)) (fp : List Addr), DE (X.blk s H scope (compEnvC scope cl C X.env) fp) c false false elt te)
    (hki : c.ks.getD i 0 = 1 := by rfl) (hpi : c.pl.contains i = false := by rfl) (hy : X.N[i]? = some y := by rfl) (hyl : X.env.scope.names.lookup y = some .local := by rfl)
    (hk : ((own.map (·.2)).all fun v => c.ks.getD v 0 == 0) = true := by rfl) (hp : ((own.map (·.2)).all fun v => !c.pl.contains v) = true := by rfl) (ht : ∀ t ∈ ts, t ∈ own.map (·.2) := by decide) (hs : ∀ x, foldedSetIterable iter X.env x = pure x := by intro _; rfl) :
    DS X c rk (.Assign [.Name y py] (.ListComp elt [⟨tg, iter, ifs, 0⟩] scope pos) spos) (sSet i (dComp fi (own.map (·.2)) g tt te)) := ⟨by
  refine PS.imp (ps_setLc (te := tD c X.K false false te) (g := tG c X.K ts g) (tt := tT c X.K false tt) hc nd hy hyl hsw hi.pi ok (fun s H C cl fp => (hg s H C cl fp).pg) (fun s H C cl fp => (htt s H C cl fp).pt) (fun s H C cl fp => (he s H C cl fp).pe) hs) fun E σ H ⟨ρ, Z, fo, R, fl, hf, k⟩ => ?_
  obtain ⟨⟨d1, ρ1⟩, h1, hf⟩ := Res.bind_ok hf
  cases hf
  refine lc_read (allK hk) (allP hp) ht ⟨ρ, Z, fo, R, d1, ρ1, h1, fun v H1 Z1 fo1 R1 s1 p1 => ?_⟩
  obtain ⟨fo2, R2, s2⟩ := R1.adopt hki hpi s1 p1
  exact k _ H1 Z1 fo2 R2 s2⟩
/-- .. into a slot of level 0: shared from here on -/
theorem ds_lc0 (i : Nat) {rk : Option Nat} {y : PySem.Str} {py spos : Pos} {elt tg iter : Expr} {ifs : List Expr} {scope : Scope} {own : List (PySem.Str × Nat)} {fi : Ev → Res (List D × Ev)} {ts : List Nat} {g : D → Ev → Res Ev} {tt : Ev → Res (Bool × Ev)} {te : Ev → Res (D × Ev)} (hc : X.calm = true) (nd : X.N.Nodup)
    (hsw : swapsWith (.ListComp elt [⟨tg, iter, ifs, 0⟩] scope pos) (some (.Name y py)) spos.line X.env = pure true) (hi : DI X c tg iter fi) (ok : BlkOk X.N X.env.scope scope own)
    (hg : ∀ (s : Shared) (H : Hp) (C : Addr) (cl : List (PySem.Str × Addr)) (fp : List Addr), DG (X.blk s H scope (compEnvC scope cl C X.env) fp) c tg ts g)
    (htt : ∀ (s : Shared) (H : Hp) (C : Addr) (cl : List (PySem.Str × Addr)) (fp : List Addr), DTs (X.blk s H scope (compEnvC scope cl C X.env) fp) c ifs tt)
    (he : ∀ (s : Shared) (H : Hp) (C : Addr) (cl : List (PySem.Str × Addr)) (fp : List Addr), DE (X.blk s H scope (compEnvC scope cl C X.env) fp) c false false elt te)
    (hki : c.ks.getD i 0 = 0 := by rfl) (hpi : c.pl.contains i = false := by rfl) (hy : X.N[i]? = some y := by rfl) (hyl : X.env.scope.names.lookup y = some .local := by rfl)
    (hk : ((own.map (·.2)).all fun v => c.ks.getD v 0 == 0) = true := by rfl) (hp : ((own.map (·.2)).all fun v => !c.pl.contains v) = true := by rfl) (ht : ∀ t ∈ ts, t ∈ own.map (·.2) := by decide) (hs : ∀ x, foldedSetIterable iter X.env x = pure x := by intro _; rfl) :
    DS X c rk (.Assign [.Name y py] (.ListComp elt [⟨tg, iter, ifs, 0⟩] scope pos) spos) (sSet i (dComp fi (own.map (·.2)) g tt te)) := ⟨by
  refine PS.imp (ps_setLc (te := tD c X.K false false te) (g := tG c X.K ts g) (tt := tT c X.K false tt) hc nd hy hyl hsw hi.pi ok (fun s H C cl fp => (hg s H C cl fp).pg) (fun s H C cl fp => (htt s H C cl fp).pt) (fun s H C cl fp => (he s H C cl fp).pe) hs) fun E σ H ⟨ρ, Z, fo, R, fl, hf, k⟩ => ?_
  obtain ⟨⟨d1, ρ1⟩, h1, hf⟩ := Res.bind_ok hf
  cases hf
  refine lc_read (allK hk) (allP hp) ht ⟨ρ, Z, fo, R, d1, ρ1, h1, fun v H1 Z1 fo1 R1 s1 p1 => ?_⟩
  obtain ⟨Z2, R2, s2, p2⟩ := R1.freeze s1 p1
  exact k _ H1 Z2 fo1 (R2.set hki hpi p2) s2⟩
end
end DL
/-! defs and their calls -/
namespace DL
open PySem PySem.Spec PyProof.Rows L2

abbrev Fn := List D → Res (D × List D)
/-- what a call hands back -/
def ResC (K : PySem.W.Frag) (rk : Option Nat) (fo : Nat → AP) (H : Hp) (fo' : Nat → AP) (Z' : AP) (H' : Hp) (d : D) (v : V) : Prop := match rk with
  | none => Sh K Z' H' d v
  | some n => ∃ P : AP, Ow K Z' H' (n + 1) d v P ∧ (∀ b, P b → Z' b ∧ ((∃ i, fo i b) ∨ H b = none)) ∧ ∀ j b, P b → ¬ fo' j b
def ResK (c : DC) (K : PySem.W.Frag) (rk : Option Nat) (fo : Nat → AP) (H : Hp) (fo' : Nat → AP) (Z' : AP) (H' : Hp) (d : D) (v : V) : Prop := match rk with
  | none => Sh K Z' H' d v
  | some n => FrR c K fo H fo' Z' H' n d v
/-- what holds behind a call -/
structure CEnd (K : PySem.W.Frag) (ks : List Nat) (rk : Option Nat) (fo : Nat → AP) (Z : AP) (H : Hp) (fo' : Nat → AP) (Z' : AP) (H' : Hp) (vs : List V) (ds' : List D) (d : D) (v : V) : Prop where
  e1 : ∀ b o, H b = some o → (∀ j, ¬ fo j b) → H' b = some o
  dm : ∀ b, H' b = none → H b = none
  e2 : ∀ b, Z' b → Z b ∨ H b = none
  e3 : ∀ b, Z b → (∀ j, ¬ fo j b) → Z' b
  own : ∀ b, Z' b → ∃ o, H' b = some o ∧ mutO o = true
  dis : ∀ i j b, fo' i b → fo' j b → i = j
  sub : ∀ j b, fo' j b → Z' b ∧ ((∃ i, fo i b) ∨ H b = none)
  lds : ds'.length = ks.length
  par : ∀ j k d' v, ks[j]? = some k → k ≠ 0 → ds'[j]? = some d' → vs[j]? = some v → Ow K Z' H' k d' v (fo' j)
  res : ResC K rk fo H fo' Z' H' d v
/-- a def's promise by its pure function; ks: the parameters' levels -/
def spD (K : PySem.W.Frag) (ks : List Nat) (rk : Option Nat) (F : Fn) : Sp := fun vs H Q _ => ∃ ds Z fo, vs.length = ks.length ∧ ds.length = ks.length ∧ (∀ j k d v, ks[j]? = some k → ds[j]? = some d → vs[j]? = some v → Ow K Z H k d v (fo j)) ∧
  (∀ i j b, fo i b → fo j b → i = j) ∧ (∀ b, Z b → ∃ o, H b = some o ∧ mutO o = true) ∧ (∀ j b, fo j b → Z b) ∧
  ∃ d ds', F ds = .ok (d, ds') ∧ ∀ v H' Z' fo', CEnd K ks rk fo Z H fo' Z' H' vs ds' d v → Q v H'
/-- the parameters' last values -/
def outP (ρ : Ev) : List Nat → Nat → Res (List D)
  | [], _ => .ok []
  | k :: ks, j => if k = 0 then (outP ρ ks (j + 1)).bind fun ds => .ok (.non :: ds) else match ρ[j]? with
    | some (some d) => (outP ρ ks (j + 1)).bind fun ds => .ok (d :: ds)
    | _ => .err
/-- a def's pure function, by its body -/
def mkF (N : Nat) (ks : List Nat) (rk : Option Nat) (body : Ev → Res Fl) : Fn := fun ds => (body (ds.map some ++ List.replicate (N - ds.length) none)).bind fun fl => match fl with
  | .rt d ρ => (outP ρ ks 0).bind fun o => .ok (d, o)
  | .nx ρ => match rk with
    | none => (outP ρ ks 0).bind fun o => .ok (.non, o)
    | some _ => .err
  | _ => .err
theorem outP_get {ρ : Ev} : ∀ {ks : List Nat} {i : Nat} {ds : List D}, outP ρ ks i = .ok ds → ds.length = ks.length ∧ ∀ j k d, ks[j]? = some k → k ≠ 0 → ds[j]? = some d → ρ[i + j]? = some (some d)
  | [], i, ds, h => by
    cases h
    exact ⟨rfl, fun j k d h => by simp at h⟩
  | k :: ks, i, ds, h => by
    by_cases hk : k = 0
    · have h' : (outP ρ ks (i + 1)).bind (fun ds => Res.ok (D.non :: ds)) = .ok ds := by
        have h2 := h
        unfold outP at h2
        rw [if_pos hk] at h2
        exact h2
      obtain ⟨es, h1, h2⟩ := Res.bind_ok h'
      cases h2
      obtain ⟨l, q⟩ := outP_get h1
      refine ⟨by rw [List.length_cons, List.length_cons, l], fun j k' d h3 h4 h5 => ?_⟩
      cases j with
      | zero =>
        have e : k = k' := by simpa using h3
        exact absurd (e ▸ hk) h4
      | succ j =>
        rw [show i + (j + 1) = (i + 1) + j by omega]
        exact q j k' d (by simpa using h3) h4 (by simpa using h5)
    · have h' : (match ρ[i]? with | some (some d) => (outP ρ ks (i + 1)).bind (fun ds => Res.ok (d :: ds)) | _ => .err) = .ok ds := by
        have h2 := h
        unfold outP at h2
        rw [if_neg hk] at h2
        exact h2
      split at h'
      · rename_i d0 h0
        obtain ⟨es, h1, h2⟩ := Res.bind_ok h'
        cases h2
        obtain ⟨l, q⟩ := outP_get h1
        refine ⟨by rw [List.length_cons, List.length_cons, l], fun j k' d h3 h4 h5 => ?_⟩
        cases j with
        | zero =>
          have e : d0 = d := by simpa using h5
          rw [← e]
          exact h0
        | succ j =>
          rw [show i + (j + 1) = (i + 1) + j by omega]
          exact q j k' d (by simpa using h3) h4 (by simpa using h5)
      · cases h'
/-- which slots are pinned: the parameters that are changed in place -/
def pinL : List Nat → Nat → List Nat
  | [], _ => []
  | k :: ks, i => if k = 0 then pinL ks (i + 1) else i :: pinL ks (i + 1)
theorem mem_pinL : ∀ {ks : List Nat} {i j : Nat}, j ∈ pinL ks i ↔ ∃ m k, j = i + m ∧ ks[m]? = some k ∧ k ≠ 0
  | [], i, j => by simp [pinL]
  | k :: ks, i, j => by
    unfold pinL
    by_cases hk : k = 0
    · rw [if_pos hk, mem_pinL]
      constructor
      · rintro ⟨m, k', e, h1, h2⟩
        exact ⟨m + 1, k', by omega, by simpa using h1, h2⟩
      · rintro ⟨m, k', e, h1, h2⟩
        cases m with
        | zero =>
          have e2 : k = k' := by simpa using h1
          exact absurd (e2 ▸ hk) h2
        | succ m => exact ⟨m, k', by omega, by simpa using h1, h2⟩
    · rw [if_neg hk, List.mem_cons, mem_pinL]
      constructor
      · rintro (e | ⟨m, k', e, h1, h2⟩)
        · exact ⟨0, k, by omega, rfl, hk⟩
        · exact ⟨m + 1, k', by omega, by simpa using h1, h2⟩
      · rintro ⟨m, k', e, h1, h2⟩
        cases m with
        | zero => exact .inl (by omega)
        | succ m => exact .inr ⟨m, k', by omega, by simpa using h1, h2⟩
section
variable {P : Program} {w : World} {K : PySem.W.Frag} {mg : Str → Option Value} {base : Heap}
theorem start_get {N : List PySem.Str} {vs : List V} {i : Nat} (h : i < vs.length) : (L2.start N vs)[i]? = (vs[i]?).map some := by
  unfold L2.start
  rw [List.getElem?_append_left (by simpa using h), List.getElem?_map]
/-- the context of a def's body -/
abbrev dc (ks lv : List Nat) (N : List PySem.Str) (vs : List V) (M Z : AP) (H : Hp) : DC := ⟨lv, pinL ks 0, fun j => (L2.start N vs)[j]?, M, Z, H⟩
theorem fun_ok {x qual : PySem.Str} {st : Stmt} {f : Addr} {fd : FuncData} {N ps : List PySem.Str} {k : Nat} {ks lv : List Nat} {rk : Option Nat} {b : Ev → Res Fl} (F : Fun K x qual st f fd) (S : FnScope N ps (defScope st)) (hps : ps.length = ks.length) (hlv : lv.take ks.length = ks)
    (hbody : ∀ (cdv : Value) (A : Around) (outer : List Env) (s : Shared) (H H0 : Hp) (vs : List V) (E : XK) (M Z : AP), Room k (A.deeper (envOfC qual (defScope st) s.heap.objs.size f cdv)) →
      DSs (cxOf CX0 P w K mg base N qual (defScope st) f cdv A outer s H E).nox (dc ks lv N vs M Z H0) rk (defBody st) b) :
    FnOk P w K mg base CX0 (k + 1) f fd ps (spD K ks rk (mkF N.length ks rk b)) := by
  refine F.ok S (fun vs H Q E ⟨ds, Z, fo, h, _⟩ => by rw [h, hps]) fun cdv A outer s H vs Q E hr h => ?_
  obtain ⟨ds, Z, fo, lv1, ld, hp, hdis, hown, hsub, d, ds', hF, hQ⟩ := h
  refine ⟨_, (hbody cdv A outer s H H vs E (fun b => ∃ j, fo j b) Z hr).ps, ?_⟩
  obtain ⟨fl, hb, hF⟩ := Res.bind_ok hF
  have hN : ks.length ≤ N.length := by
    have e := congrArg List.length S.pre
    rw [List.length_take, hps] at e
    omega
  have lget : ∀ {i k}, ks[i]? = some k → lv.getD i 0 = k := fun {i k} h => by
    have hi : i < ks.length := (List.getElem?_eq_some_iff.mp h).1
    rw [← hlv, List.getElem?_take_of_lt hi] at h
    rw [List.getD_eq_getElem?_getD, h]
    rfl
  refine ⟨ds.map some ++ List.replicate (N.length - ds.length) none, Z, fo, ?_, fl, hb, ?_⟩
  · refine ⟨?_, fun i d h => ?_, hdis, hown, fun i b h => ⟨hsub i b h, .inl ⟨i, h⟩⟩, fun b o h _ => h, fun b h => h, fun b h => .inl h, fun b h _ => h, fun b h => ?_, fun i hi => rfl⟩
    · unfold L2.start
      rw [List.length_append, List.length_append, List.length_map, List.length_map, List.length_replicate, List.length_replicate, ld, lv1]
    · have hi : i < ds.length := by
        by_cases hi : i < ds.length
        · exact hi
        · rw [List.getElem?_append_right (by simpa using hi), List.getElem?_replicate] at h
          split at h <;> cases h
      rw [List.getElem?_append_left (by simpa using hi), List.getElem?_map] at h
      have hd : ds[i]? = some d := by
        cases e : ds[i]? with
        | none => rw [e] at h; cases h
        | some z =>
          rw [e] at h
          cases h
          rfl
      have hiv : i < vs.length := by omega
      obtain ⟨k, hk⟩ : ∃ k, ks[i]? = some k := ⟨ks[i]'(by omega), List.getElem?_eq_getElem (by omega)⟩
      refine ⟨vs[i], ?_, ?_⟩
      · rw [start_get hiv, List.getElem?_eq_getElem hiv]
        rfl
      · show Ow K Z H (lv.getD i 0) d vs[i] (fo i)
        rw [lget hk]
        exact hp i k d _ hk hd (List.getElem?_eq_getElem hiv)
    · obtain ⟨o, h1, _⟩ := hown b h
      show H b ≠ none
      rw [h1]
      exact fun z => nomatch z
  · -- the end
    have fin : ∀ {ρ' : Ev} {o : List D} {v : V} {σ' : L2.St} {H' : Hp} {Z' : AP} {fo' : Nat → AP}, outP ρ' ks 0 = .ok o → RS (dc ks lv N vs (fun b => ∃ j, fo j b) Z H) K ρ' Z' σ' H' fo' → (d : D) →
        ResC K rk fo H fo' Z' H' d v →
        CEnd K ks rk fo Z H fo' Z' H' vs o d v := fun {ρ' o v σ' H' Z' fo'} h R d hr2 => by
      refine ⟨fun b o h1 h2 => R.e1 b o h1 fun ⟨j, hj⟩ => h2 j hj, R.dm, R.e2, fun b h1 h2 => R.e3 b h1 fun ⟨j, hj⟩ => h2 j hj, R.own, R.dis, R.sub, (outP_get h).1, fun j k d' v' h1 h2 h3 h4 => ?_, hr2⟩
      obtain ⟨lo, hg⟩ := outP_get h
      have e1 := hg j k d' h1 h2 h3
      rw [Nat.zero_add] at e1
      obtain ⟨u, q1, q2⟩ := R.val j d' e1
      have hpin := R.pin j (mem_pinL.mpr ⟨j, k, by omega, h1, h2⟩)
      have hjv : j < vs.length := (List.getElem?_eq_some_iff.mp h4).1
      rw [q1] at hpin
      have hpin' : some (some u) = (L2.start N vs)[j]? := hpin
      rw [start_get hjv, h4] at hpin'
      have eu : u = v' := Option.some.inj (Option.some.inj hpin')
      rw [← eu]
      have e3 : (dc ks lv N vs (fun b => ∃ j, fo j b) Z H).ks.getD j 0 = k := lget h1
      rw [e3] at q2
      exact q2
    cases fl with
    | rt d1 ρ1 =>
      obtain ⟨o, h1, h2⟩ := Res.bind_ok (show (outP ρ1 ks 0).bind (fun o => Res.ok (d1, o)) = .ok (d, ds') from hF)
      cases h2
      intro v σ' H' Z' fo' R' s' r'
      refine hQ v H' Z' fo' (fin h1 R' d ?_)
      cases rk with
      | none => exact r'
      | some n =>
        obtain ⟨P, q1, q2, q3, _⟩ := FrR.ex r'
        exact ⟨P, q1, q2, q3⟩
    | nx ρ1 =>
      cases rk with
      | some n => cases hF
      | none =>
        obtain ⟨o, h1, h2⟩ := Res.bind_ok (show (outP ρ1 ks 0).bind (fun o => Res.ok (D.non, o)) = .ok (d, ds') from hF)
        cases h2
        intro σ' H' Z' fo' R' s'
        exact hQ .non H' Z' fo' (fin h1 R' .non rfl)
    | bk ρ1 => cases hF
    | ct ρ1 => cases hF
end

/-! ### calls -/
inductive AK where
  | s
  | io (i : Nat)
def ArgsR (K : PySem.W.Frag) (σ : L2.St) (Z : AP) (H : Hp) : List AK → List (Option D) → List V → Prop
  | [], [], [] => True
  | .s :: as, some d :: ds, v :: vs => Sh K Z H d v ∧ ArgsR K σ Z H as ds vs
  | .io i :: as, none :: ds, v :: vs => σ[i]? = some (some v) ∧ ArgsR K σ Z H as ds vs
  | _, _, _ => False
def tArgs (c : DC) (K : PySem.W.Frag) (as : List AK) (f : Ev → Res (List (Option D) × Ev)) : TA := fun σ H Q => ∃ ρ Z fo, RS c K ρ Z σ H fo ∧ ∃ ds ρ', f ρ = .ok (ds, ρ') ∧
  ∀ vs H' Z' fo', RS c K ρ' Z' σ H' fo' → Stp fo Z H fo' Z' H' → ArgsR K σ Z' H' as ds vs → Q vs H'
structure DA (X : Cx) (c : DC) (es : List Expr) (as : List AK) (f : Ev → Res (List (Option D) × Ev)) : Prop where
  pa : PA X es (tArgs c X.K as f)
def aNil (ρ : Ev) : Res (List (Option D) × Ev) := .ok ([], ρ)
def aS (f : Ev → Res (D × Ev)) (g : Ev → Res (List (Option D) × Ev)) (ρ : Ev) : Res (List (Option D) × Ev) := (f ρ).bind fun p => (g p.2).bind fun r => .ok (some p.1 :: r.1, r.2)
def aIO (i : Nat) (g : Ev → Res (List (Option D) × Ev)) (ρ : Ev) : Res (List (Option D) × Ev) := match ρ[i]? with
  | some (some _) => (g ρ).bind fun r => .ok (none :: r.1, r.2)
  | _ => .err
theorem ArgsR.stp {K : PySem.W.Frag} {σ : L2.St} {Z Z' : AP} {H H' : Hp} (s : Stp0 Z H Z' H') : ∀ {as : List AK} {ds : List (Option D)} {vs : List V}, ArgsR K σ Z H as ds vs → ArgsR K σ Z' H' as ds vs
  | [], [], [], _ => True.intro
  | .s :: as, some d :: ds, v :: vs, h => ⟨Sh.stp s h.1, ArgsR.stp s h.2⟩
  | .io i :: as, none :: ds, v :: vs, h => ⟨h.1, ArgsR.stp s h.2⟩
  | [], [], _ :: _, h => h.elim
  | [], _ :: _, _, h => by cases h
  | .s :: as, [], _, h => by cases h
  | .s :: as, none :: ds, _, h => by cases h
  | .s :: as, some d :: ds, [], h => by cases h
  | .io i :: as, [], _, h => by cases h
  | .io i :: as, some d :: ds, _, h => by cases h
  | .io i :: as, none :: ds, [], h => by cases h
def fillA (ρ : Ev) : List AK → List (Option D) → Res (List D)
  | [], [] => .ok []
  | .s :: as, some d :: ds => (fillA ρ as ds).bind fun r => .ok (d :: r)
  | .io i :: as, none :: ds => match ρ[i]? with
    | some (some d) => (fillA ρ as ds).bind fun r => .ok (d :: r)
    | _ => .err
  | _, _ => .err
def putA : List AK → List D → Ev → Ev
  | .s :: as, _ :: ds, ρ => putA as ds ρ
  | .io i :: as, d :: ds, ρ => putA as ds (ρ.set i (some d))
  | _, _, ρ => ρ
def dCall (as : List AK) (F : Fn) (g : Ev → Res (List (Option D) × Ev)) (ρ : Ev) : Res (D × Ev) := (g ρ).bind fun p => (fillA p.2 as p.1).bind fun ds => (F ds).bind fun r => .ok (r.1, putA as r.2 p.2)
/-- the slots that are handed in, by the parameters' places; the levels that are due -/
def ioAt : List AK → Nat → Option Nat
  | .io i :: _, 0 => some i
  | _ :: as, j + 1 => ioAt as j
  | _, _ => none
def ksOf (lv : List Nat) : List AK → List Nat
  | [] => []
  | .s :: as => 0 :: ksOf lv as
  | .io i :: as => lv.getD i 0 :: ksOf lv as
def ios : List AK → List Nat
  | [] => []
  | .s :: as => ios as
  | .io i :: as => i :: ios as
section
variable {X : Cx} {c : DC} {K : PySem.W.Frag}
theorem da_nil : DA X c [] [] aNil := ⟨by
  refine PA.imp pa_nil fun σ H Q ⟨ρ, Z, fo, R, ds, ρ', hf, k⟩ => ?_
  cases hf
  exact k [] H Z fo R Stp.refl True.intro⟩
theorem da_s {e : Expr} {es : List Expr} {as : List AK} {f : Ev → Res (D × Ev)} {g : Ev → Res (List (Option D) × Ev)} (ha : DE X c false false e f) (hr : DA X c es as g) (hs : starEach (e :: es) X.env = (false, eval e X.env) :: starEach es X.env := by rfl) : DA X c (e :: es) (.s :: as) (aS f g) := ⟨by
  refine PA.imp (pa_cons ha.pe hr.pa hs) fun σ H Q ⟨ρ, Z, fo, R, ds, ρ', hf, k⟩ => ?_
  obtain ⟨⟨d1, ρ1⟩, h1, hf⟩ := Res.bind_ok hf
  obtain ⟨⟨d2, ρ2⟩, h2, hf⟩ := Res.bind_ok hf
  cases hf
  refine ⟨ρ, Z, fo, R, d1, ρ1, h1, fun x H1 Z1 fo1 R1 s1 m1 p1 => ⟨ρ1, Z1, fo1, R1, d2, ρ2, h2, fun xs H2 Z2 fo2 R2 s2 p2 => ?_⟩⟩
  exact k (x :: xs) H2 Z2 fo2 R2 (s1.trans s2) ⟨Sh.stp (s2.s0 R1) p1, p2⟩⟩
theorem da_io (i : Nat) {x : PySem.Str} {pos : Pos} {es : List Expr} {as : List AK} {g : Ev → Res (List (Option D) × Ev)} (hr : DA X c es as g) (hN : X.N[i]? = some x := by rfl) (hv : Vis X.env.scope x := by first | exact Or.inl rfl | exact Or.inr (Or.inl rfl) | exact Or.inr (Or.inr rfl)) (hd : (x == ("__debug__" : Str)) = false := by decide)
    (hcd : (x == ("__classdict__" : Str)) = false := by decide) (hs : starEach (.Name x pos :: es) X.env = (false, eval (.Name x pos) X.env) :: starEach es X.env := by rfl) : DA X c (.Name x pos :: es) (.io i :: as) (aIO i g) := ⟨by
  refine PA.imp (pa_cons (pe_var hN hv hd hcd) hr.pa hs) fun σ H Q ⟨ρ, Z, fo, R, ds, ρ', hf, k⟩ => ?_
  unfold aIO at hf
  split at hf
  · rename_i d0 h0
    obtain ⟨⟨d2, ρ2⟩, h2, hf⟩ := Res.bind_ok hf
    cases hf
    obtain ⟨v, q1, _⟩ := R.val i d0 h0
    exact ⟨v, q1, ρ, Z, fo, R, d2, ρ2, h2, fun xs H2 Z2 fo2 R2 s2 p2 => k (v :: xs) H2 Z2 fo2 R2 s2 ⟨q1, p2⟩⟩
  · cases hf⟩
theorem mem_ios : ∀ {as : List AK} {i : Nat}, i ∈ ios as ↔ ∃ j, ioAt as j = some i
  | [], i => by simp [ios, ioAt]
  | .s :: as, i => by
    show i ∈ ios as ↔ _
    rw [mem_ios]
    constructor
    · rintro ⟨j, h⟩
      exact ⟨j + 1, h⟩
    · rintro ⟨j, h⟩
      cases j with
      | zero => cases h
      | succ j => exact ⟨j, h⟩
  | .io k :: as, i => by
    show i ∈ k :: ios as ↔ _
    rw [List.mem_cons, mem_ios]
    constructor
    · rintro (e | ⟨j, h⟩)
      · exact ⟨0, by rw [e]; rfl⟩
      · exact ⟨j + 1, h⟩
    · rintro ⟨j, h⟩
      cases j with
      | zero =>
        have h' : some k = some i := h
        exact .inl (Option.some.inj h').symm
      | succ j => exact .inr ⟨j, h⟩
theorem ioAt_inj : ∀ {as : List AK} {j k i : Nat}, (ios as).Nodup → ioAt as j = some i → ioAt as k = some i → j = k
  | [], j, k, i, _, h, _ => by cases j <;> cases h
  | .s :: as, 0, k, i, _, h, _ => by cases h
  | .s :: as, j + 1, 0, i, _, _, h => by cases h
  | .s :: as, j + 1, k + 1, i, nd, h1, h2 => by rw [ioAt_inj (as := as) nd h1 h2]
  | .io m :: as, 0, 0, i, _, _, _ => rfl
  | .io m :: as, 0, k + 1, i, nd, h1, h2 => by
    have e : some m = some i := h1
    cases e
    exact absurd (mem_ios.mpr ⟨k, h2⟩) (List.nodup_cons.mp nd).1
  | .io m :: as, j + 1, 0, i, nd, h1, h2 => by
    have e : some m = some i := h2
    cases e
    exact absurd (mem_ios.mpr ⟨j, h1⟩) (List.nodup_cons.mp nd).1
  | .io m :: as, j + 1, k + 1, i, nd, h1, h2 => by rw [ioAt_inj (as := as) (List.nodup_cons.mp nd).2 h1 h2]
/-- what the arguments are, place by place -/
theorem args_get {σ : L2.St} {Z : AP} {H : Hp} {ρ : Ev} {lv : List Nat} : ∀ {as : List AK} {os : List (Option D)} {vs : List V} {ds : List D}, ArgsR K σ Z H as os vs → fillA ρ as os = .ok ds → vs.length = as.length ∧ ds.length = as.length ∧
    ∀ j d v, ds[j]? = some d → vs[j]? = some v → (ioAt as j = none ∧ (ksOf lv as)[j]? = some 0 ∧ Sh K Z H d v) ∨ ∃ i, ioAt as j = some i ∧ (ksOf lv as)[j]? = some (lv.getD i 0) ∧ σ[i]? = some (some v) ∧ ρ[i]? = some (some d)
  | [], [], [], ds, _, h => by
    cases h
    exact ⟨rfl, rfl, fun j d v h => by simp at h⟩
  | .s :: as, some d :: os, v :: vs, ds, a, h => by
    obtain ⟨r, h1, h2⟩ := Res.bind_ok (show (fillA ρ as os).bind (fun r => Res.ok (d :: r)) = .ok ds from h)
    cases h2
    obtain ⟨l1, l2, q⟩ := args_get (lv := lv) a.2 h1
    refine ⟨by rw [List.length_cons, List.length_cons, l1], by rw [List.length_cons, List.length_cons, l2], fun j d' v' e1 e2 => ?_⟩
    cases j with
    | zero =>
      have z1 : d = d' := by simpa using e1
      have z2 : v = v' := by simpa using e2
      rw [← z1, ← z2]
      exact .inl ⟨rfl, rfl, a.1⟩
    | succ j => exact q j d' v' (by simpa using e1) (by simpa using e2)
  | .io i :: as, none :: os, v :: vs, ds, a, h => by
    have h' : (match ρ[i]? with | some (some d) => (fillA ρ as os).bind (fun r => Res.ok (d :: r)) | _ => .err) = .ok ds := h
    split at h'
    · rename_i d hd
      obtain ⟨r, h1, h2⟩ := Res.bind_ok h'
      cases h2
      obtain ⟨l1, l2, q⟩ := args_get (lv := lv) a.2 h1
      refine ⟨by rw [List.length_cons, List.length_cons, l1], by rw [List.length_cons, List.length_cons, l2], fun j d' v' e1 e2 => ?_⟩
      cases j with
      | zero =>
        have z1 : d = d' := by simpa using e1
        have z2 : v = v' := by simpa using e2
        rw [← z1, ← z2]
        exact .inr ⟨i, rfl, rfl, a.1, hd⟩
      | succ j => exact q j d' v' (by simpa using e1) (by simpa using e2)
    · cases h'
  | [], [], _ :: _, _, h, _ => h.elim
  | [], _ :: _, _, _, h, _ => by cases h
  | .s :: as, [], _, _, h, _ => by cases h
  | .s :: as, none :: ds, _, _, h, _ => by cases h
  | .s :: as, some d :: ds, [], _, h, _ => by cases h
  | .io i :: as, [], _, _, h, _ => by cases h
  | .io i :: as, some d :: ds, _, _, h, _ => by cases h
  | .io i :: as, none :: ds, [], _, h, _ => by cases h
theorem putA_len : ∀ {as : List AK} {ds : List D} {ρ : Ev}, (putA as ds ρ).length = ρ.length
  | [], _, _ => rfl
  | .s :: as, [], _ => rfl
  | .io i :: as, [], _ => rfl
  | .s :: as, _ :: ds, ρ => putA_len (as := as)
  | .io i :: as, d :: ds, ρ => by
    show (putA as ds (ρ.set i (some d))).length = _
    rw [putA_len, List.length_set]
theorem putA_out : ∀ {as : List AK} {ds : List D} {ρ : Ev} {i : Nat}, i ∉ ios as → (putA as ds ρ)[i]? = ρ[i]?
  | [], _, _, _, _ => rfl
  | .s :: as, [], _, _, _ => rfl
  | .io i :: as, [], _, _, _ => rfl
  | .s :: as, _ :: ds, ρ, i, h => putA_out (as := as) h
  | .io k :: as, d :: ds, ρ, i, h => by
    show (putA as ds (ρ.set k (some d)))[i]? = _
    rw [putA_out (fun z => h (List.mem_cons_of_mem _ z)), List.getElem?_set_ne (fun e => h (by rw [e]; exact List.mem_cons_self))]
theorem putA_in : ∀ {as : List AK} {ds : List D} {ρ : Ev} {i j : Nat} {d : D}, (ios as).Nodup → ioAt as j = some i → ds.length = as.length → (putA as ds ρ)[i]? = some (some d) → ds[j]? = some d
  | [], _, _, _, j, _, _, h, _, _ => by cases j <;> cases h
  | .s :: as, [], _, _, _, _, _, _, l, _ => by simp at l
  | .io i :: as, [], _, _, _, _, _, _, l, _ => by simp at l
  | .s :: as, _ :: ds, ρ, i, 0, d, nd, h, l, e => by cases h
  | .s :: as, _ :: ds, ρ, i, j + 1, d, nd, h, l, e => by
    have := putA_in (as := as) (ds := ds) (ρ := ρ) nd h (by simpa using l) e
    simpa using this
  | .io k :: as, d' :: ds, ρ, i, 0, d, nd, h, l, e => by
    have h' : some k = some i := h
    cases h'
    have e' : (putA as ds (ρ.set k (some d')))[k]? = some (some d) := e
    rw [putA_out (List.nodup_cons.mp nd).1] at e'
    by_cases hk : k < ρ.length
    · rw [List.getElem?_set_self hk] at e'
      have z : d' = d := Option.some.inj (Option.some.inj e')
      rw [z]
      rfl
    · rw [List.getElem?_eq_none (by simpa using hk)] at e'; cases e'
  | .io k :: as, d' :: ds, ρ, i, j + 1, d, nd, h, l, e => by
    have := putA_in (as := as) (ds := ds) (ρ := ρ.set k (some d')) (List.nodup_cons.mp nd).2 h (by simpa using l) e
    simpa using this
/-- the call's own footprints -/
def foC (fo : Nat → AP) (as : List AK) (j : Nat) : AP := fun b => ∃ i, ioAt as j = some i ∧ fo i b
def foN (fo fo' : Nat → AP) (as : List AK) (i : Nat) : AP := fun b => (∃ j, ioAt as j = some i ∧ fo' j b) ∨ (i ∉ ios as ∧ fo i b)
theorem RS.called {ρ : Ev} {Z Z' : AP} {σ : L2.St} {H H' : Hp} {fo fo' : Nat → AP} {as : List AK} {os : List (Option D)} {vs : List V} {ds ds' : List D} {rk : Option Nat} {d : D} {v : V} (R : RS c K ρ Z σ H fo) (nd : (ios as).Nodup) (a : ArgsR K σ Z H as os vs) (hf : fillA ρ as os = .ok ds)
    (h0 : ∀ i ∈ ios as, c.ks.getD i 0 ≠ 0) (h : CEnd K (ksOf c.ks as) rk (foC fo as) Z H fo' Z' H' vs ds' d v) : RS c K (putA as ds' ρ) Z' σ H' (foN fo fo' as) ∧ Stp fo Z H (foN fo fo' as) Z' H' := by
  obtain ⟨l1, l2, q⟩ := args_get (lv := c.ks) a hf
  have st : Stp0 Z H Z' H' := ⟨fun b o h1 h2 => h.e1 b o h1 fun j ⟨i, _, hi⟩ => h2 (R.sub i b hi).1, fun b hb => h.e2 b hb⟩
  have lk : ∀ (as : List AK), (ksOf c.ks as).length = as.length := fun as => by
    induction as with
    | nil => rfl
    | cons x as ih => cases x <;> (show _ + 1 = _ + 1; rw [ih])
  have apart : ∀ {i b}, i ∉ ios as → fo i b → ∀ j, ¬ foC fo as j b := fun {i b} hi hb j ⟨k, hk, hkb⟩ => by
    have e := R.dis i k b hb hkb
    exact hi (mem_ios.mpr ⟨j, e ▸ hk⟩)
  have newF : ∀ {j b}, fo' j b → (∃ i, i ∈ ios as ∧ fo i b) ∨ H b = none := fun {j b} hj => by
    rcases (h.sub j b hj).2 with ⟨x, i, hi, hb⟩ | z
    · exact .inl ⟨i, mem_ios.mpr ⟨x, hi⟩, hb⟩
    · exact .inr z
  refine ⟨⟨?_, fun i d hd => ?_, fun i k b hi hk => ?_, h.own, fun i b hb => ?_, fun b o h1 h2 => ?_, fun b hb => R.dm b (h.dm b hb), fun b hb => ?_, fun b h1 h2 => ?_, R.zi, R.pin⟩, ⟨fun b o h1 h2 => h.e1 b o h1 fun j ⟨i, _, hi⟩ => h2 i hi, fun b hb => ?_, fun b h1 _ h2 => h.e3 b h1 fun j ⟨i, _, hi⟩ => h2 i hi, fun i b hb => ?_⟩⟩
  · rw [putA_len]
    exact R.len
  · by_cases hi : i ∈ ios as
    · obtain ⟨j, hj⟩ := mem_ios.mp hi
      have hl : ds'.length = as.length := by rw [h.lds, lk]
      have e1 := putA_in nd hj hl hd
      have hja : j < as.length := by
        have := (List.getElem?_eq_some_iff.mp e1).1
        omega
      have hv : vs[j]? = some (vs[j]'(by omega)) := List.getElem?_eq_getElem (by omega)
      have hd0 : ds[j]? = some (ds[j]'(by omega)) := List.getElem?_eq_getElem (by omega)
      rcases q j _ _ hd0 hv with ⟨z, _⟩ | ⟨k, hk, hks, hσ, _⟩
      · rw [z] at hj; cases hj
      · rw [hj] at hk
        cases hk
        refine ⟨_, hσ, ?_⟩
        exact Ow.more (P := fo' j) (fun b hb => .inl ⟨j, hj, hb⟩) (h.par j _ d _ hks (h0 i hi) e1 hv)
    · rw [putA_out hi] at hd
      obtain ⟨v, h1, h2⟩ := R.val i d hd
      refine ⟨v, h1, Ow.more (P := fo i) (fun b hb => .inr ⟨hi, hb⟩) (Ow.keep (fun d v s => s.stp st) _ d v (fo i) (fun b hb hz hn => ⟨?_, h.e3 b hz (apart hi hb)⟩) h2)⟩
      cases e : H b with
      | none => exact absurd e hn
      | some o => exact h.e1 b o e (apart hi hb)
  · rcases hi with ⟨j, hj, hjb⟩ | ⟨hi, hib⟩
    · rcases hk with ⟨l, hl, hlb⟩ | ⟨hk, hkb⟩
      · have e := h.dis j l b hjb hlb
        rw [e, hl] at hj
        cases hj
        rfl
      · rcases newF hjb with ⟨x, hx, hxb⟩ | z
        · exact absurd (R.dis k x b hkb hxb ▸ hx) hk
        · exact absurd z (R.ownN b (R.sub k b hkb).1)
    · rcases hk with ⟨l, hl, hlb⟩ | ⟨hk, hkb⟩
      · rcases newF hlb with ⟨x, hx, hxb⟩ | z
        · exact absurd (R.dis i x b hib hxb ▸ hx) hi
        · exact absurd z (R.ownN b (R.sub i b hib).1)
      · exact R.dis i k b hib hkb
  · rcases hb with ⟨j, hj, hjb⟩ | ⟨hi, hib⟩
    · refine ⟨(h.sub j b hjb).1, ?_⟩
      rcases newF hjb with ⟨x, hx, hxb⟩ | z
      · exact (R.sub x b hxb).2
      · exact .inr (R.dm b z)
    · exact ⟨h.e3 b (R.sub i b hib).1 (apart hi hib), (R.sub i b hib).2⟩
  · refine h.e1 b o (R.e1 b o h1 h2) fun j ⟨i, _, hi⟩ => ?_
    rcases (R.sub i b hi).2 with z | z
    · exact h2 z
    · rw [z] at h1; cases h1
  · rcases h.e2 b hb with z | z
    · exact R.e2 b z
    · exact .inr (R.dm b z)
  · refine h.e3 b (R.e3 b h1 h2) fun j ⟨i, _, hi⟩ => ?_
    rcases (R.sub i b hi).2 with z | z
    · exact h2 z
    · exact R.zi b h1 z
  · rcases h.e2 b hb with z | z
    · exact .inl z
    · exact .inr (.inl z)
  · rcases hb with ⟨j, hj, hjb⟩ | ⟨hi, hib⟩
    · rcases newF hjb with ⟨x, _, hxb⟩ | z
      · exact .inl ⟨x, hxb⟩
      · exact .inr z
    · exact .inl ⟨i, hib⟩
/-- what a caller must show -/
theorem sp_of {ρ : Ev} {Z : AP} {σ : L2.St} {H : Hp} {fo : Nat → AP} {as : List AK} {os : List (Option D)} {vs : List V} {ds ds' : List D} {rk : Option Nat} {F : Fn} {d : D} {Q : VK} {E : XK} (R : RS c K ρ Z σ H fo) (nd : (ios as).Nodup) (a : ArgsR K σ Z H as os vs) (hf : fillA ρ as os = .ok ds)
    (hF : F ds = .ok (d, ds')) (k : ∀ v H' Z' fo', CEnd K (ksOf c.ks as) rk (foC fo as) Z H fo' Z' H' vs ds' d v → Q v H') : spD K (ksOf c.ks as) rk F vs H Q E := by
  obtain ⟨l1, l2, q⟩ := args_get (lv := c.ks) a hf
  have lk : ∀ (as : List AK), (ksOf c.ks as).length = as.length := fun as => by
    induction as with
    | nil => rfl
    | cons x as ih => cases x <;> (show _ + 1 = _ + 1; rw [ih])
  refine ⟨ds, Z, foC fo as, by rw [l1, lk], by rw [l2, lk], fun j k d v h1 h2 h3 => ?_, fun i j b ⟨x, hx, hxb⟩ ⟨y, hy, hyb⟩ => ?_, R.own, fun j b ⟨i, _, hi⟩ => (R.sub i b hi).1, d, ds', hF, k⟩
  · rcases q j d v h2 h3 with ⟨_, hk, s⟩ | ⟨i, hi, hk, hσ, hρ⟩
    · rw [hk] at h1
      cases h1
      exact s
    · rw [hk] at h1
      cases h1
      obtain ⟨u, e1, e2⟩ := R.val i d hρ
      rw [hσ] at e1
      cases e1
      exact Ow.more (P := fo i) (fun b hb => ⟨i, hi, hb⟩) e2
  · have e := R.dis x y b hxb hyb
    rw [← e] at hy
    exact ioAt_inj nd hx hy
/-- a def of the text, as its callers use it -/
structure DFn (P : Program) (w : World) (K : PySem.W.Frag) (mg : Str → Option Value) (base : Heap) (k : Nat) (x : PySem.Str) (ks : List Nat) (rk : Option Nat) (F : Fn) : Prop where
  ex : ∃ (f : Addr) (fd : FuncData) (ps : List PySem.Str), mg x = some (.ref f) ∧ PySem.W.keepIn K (.ref f) = true ∧ Binds K fd ps [] ∧ FnOk P w K mg base CX0 k f fd ps (spD K ks rk F)
theorem DFn.mono {P : Program} {w : World} {K : PySem.W.Frag} {mg : Str → Option Value} {base : Heap} {j k : Nat} {x : PySem.Str} {ks : List Nat} {rk : Option Nat} {F : Fn} (h : DFn P w K mg base j x ks rk F) (hj : j ≤ k) : DFn P w K mg base k x ks rk F := by
  obtain ⟨f, fd, ps, h1, h2, h3, h4⟩ := h.ex
  exact ⟨f, fd, ps, h1, h2, h3, h4.mono hj⟩
theorem allN {vs : List Nat} {l : List Nat} (h : (vs.all fun v => l.getD v 0 != 0) = true) : ∀ v ∈ vs, l.getD v 0 ≠ 0 := fun v hv => by
  have := List.all_eq_true.mp h v hv
  simpa using this
theorem call_read {ks : List Nat} {rk : Option Nat} {F : Fn} {as : List AK} {g : Ev → Res (List (Option D) × Ev)} {σ : L2.St} {H : Hp} {Q : VK} (hks : ksOf c.ks as = ks) (nd : (ios as).Nodup) (h0 : ∀ i ∈ ios as, c.ks.getD i 0 ≠ 0)
    (h : ∃ ρ Z fo, RS c K ρ Z σ H fo ∧ ∃ d ρ', dCall as F g ρ = .ok (d, ρ') ∧ ∀ v H' Z' fo', RS c K ρ' Z' σ H' fo' → Stp fo Z H fo' Z' H' → ResK c K rk fo H fo' Z' H' d v → Q v H') : tCall (spD K ks rk F) [] E0 (tArgs c K as g) σ H Q := by
  obtain ⟨ρ, Z, fo, R, d, ρ', hf, k⟩ := h
  obtain ⟨⟨os, ρ1⟩, h1, hf⟩ := Res.bind_ok hf
  obtain ⟨ds, h2, hf⟩ := Res.bind_ok hf
  obtain ⟨⟨d1, ds'⟩, h3, hf⟩ := Res.bind_ok hf
  cases hf
  subst hks
  refine ⟨ρ, Z, fo, R, os, ρ1, h1, fun vs H1 Z1 fo1 R1 s1 a1 => ?_⟩
  show spD K (ksOf c.ks as) rk F (vs ++ []) H1 Q E0
  rw [List.append_nil]
  refine sp_of R1 nd a1 h2 h3 fun v H2 Z2 fo2 ce => ?_
  obtain ⟨R2, s2⟩ := R1.called nd a1 h2 h0 ce
  refine k v H2 Z2 _ R2 (s1.trans s2) ?_
  cases rk with
  | none => exact ce.res
  | some n =>
    obtain ⟨P, q1, q2, q3⟩ := ce.res
    have hP : ∀ b, P b → (∃ i, i ∈ ios as ∧ fo1 i b) ∨ H1 b = none := fun b hb => by
      rcases (q2 b hb).2 with ⟨x, i, hi, hib⟩ | z
      · exact .inl ⟨i, mem_ios.mpr ⟨x, hi⟩, hib⟩
      · exact .inr z
    refine FrR.back s1 ⟨P, q1, fun b hb => ⟨(q2 b hb).1, ?_⟩, fun i b hb z => ?_, fun b hb => ?_⟩
    · rcases hP b hb with ⟨i, _, hib⟩ | z
      · exact (R1.sub i b hib).2
      · exact .inr (R1.dm b z)
    · rcases z with ⟨j, hj, hjb⟩ | ⟨hi, hib⟩
      · exact q3 j b hb hjb
      · rcases hP b hb with ⟨x, hx, hxb⟩ | y
        · exact hi (R1.dis i x b hib hxb ▸ hx)
        · exact R1.ownN b (R1.sub i b hib).1 y
    · rcases hP b hb with ⟨i, _, hib⟩ | z
      · exact .inl ⟨i, hib⟩
      · exact .inr z
theorem de_call {k j : Nat} {x : PySem.Str} {p pos : Pos} {e : Expr} {es : List Expr} {ks : List Nat} {F : Fn} {as : List AK} {g : Ev → Res (List (Option D) × Ev)} (G : DFn X.prog X.w X.K X.mg X.base j x ks none F) (hr : Room k X.A) (hj : j ≤ k) (ha : DA X c (e :: es) as g) (hks : ksOf c.ks as = ks := by rfl) (nd : (ios as).Nodup := by decide) (h0 : ((ios as).all fun i => c.ks.getD i 0 != 0) = true := by rfl)
    (hg : Gl X x := by rfl) (hdb : (x == ("__debug__" : Str)) = false := by decide) (he : starEach (e :: es) X.env = (false, eval e X.env) :: starEach es X.env := by rfl) (hpl : (backTo pos (starEach es X.env)).any (·.1) = false := by rfl) :
    DE X c false false (.Call (.Name x p) (e :: es) [] pos) (dCall as F g) := ⟨by
  obtain ⟨f, fd, ps, h1, h2, h3, h4⟩ := G.ex
  refine PE.imp (pe_call h4 (hr.mono hj) hg h1 h2 h3 .nil pass0 ha.pa hdb he hpl) fun σ H Q ⟨ρ, Z, fo, R, d, ρ', hf, q⟩ => ?_
  exact call_read hks nd (allN h0) ⟨ρ, Z, fo, R, d, ρ', hf, fun v H' Z' fo' R' s' r' => q v H' Z' fo' R' s' (fun z => nomatch z) r'⟩⟩
theorem df_call {k j n : Nat} {x : PySem.Str} {p pos : Pos} {e : Expr} {es : List Expr} {ks : List Nat} {F : Fn} {as : List AK} {g : Ev → Res (List (Option D) × Ev)} (G : DFn X.prog X.w X.K X.mg X.base j x ks (some n) F) (hr : Room k X.A) (hj : j ≤ k) (ha : DA X c (e :: es) as g) (hks : ksOf c.ks as = ks := by rfl) (nd : (ios as).Nodup := by decide) (h0 : ((ios as).all fun i => c.ks.getD i 0 != 0) = true := by rfl)
    (hg : Gl X x := by rfl) (hdb : (x == ("__debug__" : Str)) = false := by decide) (he : starEach (e :: es) X.env = (false, eval e X.env) :: starEach es X.env := by rfl) (hpl : (backTo pos (starEach es X.env)).any (·.1) = false := by rfl) :
    DF X c n (.Call (.Name x p) (e :: es) [] pos) (dCall as F g) := ⟨by
  obtain ⟨f, fd, ps, h1, h2, h3, h4⟩ := G.ex
  refine PE.imp (pe_call h4 (hr.mono hj) hg h1 h2 h3 .nil pass0 ha.pa hdb he hpl) fun σ H Q ⟨ρ, Z, fo, R, d, ρ', hf, q⟩ => ?_
  exact call_read hks nd (allN h0) ⟨ρ, Z, fo, R, d, ρ', hf, fun v H' Z' fo' R' s' r' => q v H' Z' fo' R' s' r'⟩⟩
end
end DL
/-! further rules; short names for the common ones -/
namespace DL
open PySem PySem.Spec PyProof.Rows L2
section
variable {X : Cx} {c : DC} {q b : Bool} {tg e a : Expr} {fe fa fb : Ev → Res (D × Ev)} {pos p : Pos} {K : PySem.W.Frag}
theorem dt_q {f : Ev → Res (Bool × Ev)} (h : DT X c true e f) : DT X c false e f := ⟨by
  refine PT.imp h.pt fun σ H Q ⟨ρ, Z, fo, R, d, ρ', hf, k⟩ => ⟨ρ, Z, fo, R, d, ρ', hf, fun H' Z' fo' R' st sm => k H' Z' fo' R' st (fun z => nomatch z)⟩⟩
/-- a list or a tuple that is walked -/
theorem di_seq (he : DE X c false false e fe) : DI X c tg e (dSeqI fe) := by
  refine ⟨⟨fun pins s σ H R I h => ?_⟩⟩
  obtain ⟨ρ, Z, fo, RR, ds, ρ', hf, k⟩ := h
  obtain ⟨⟨d1, ρ1⟩, e1, hf⟩ := Res.bind_ok hf
  have hw : tD c X.K false false fe σ H (fun v H1 => ∃ a, v = .ref a ∧ ((∃ xs, SqL X.K H1 a xs) ∧ R (Itl X.K a) H1 ∨ (∃ xs, SqT X.K H1 a xs) ∧ R (Itt X.K a) H1)) := by
    refine ⟨ρ, Z, fo, RR, d1, ρ1, e1, fun v H1 Z1 fo1 R1 s1 m1 p1 => ?_⟩
    cases d1 with
    | tup es =>
      cases hf
      obtain ⟨a, vs, rfl, r, s⟩ := p1
      exact ⟨a, rfl, .inr ⟨⟨vs, r.sq⟩, k _ H1 Z1 fo1 R1 s1 (ItR.tup r s)⟩⟩
    | lst es =>
      cases hf
      obtain ⟨a, vs, rfl, r, s⟩ := p1
      exact ⟨a, rfl, .inl ⟨⟨vs, r.sq⟩, k _ H1 Z1 fo1 R1 s1 (ItR.list r s)⟩⟩
    | _ => cases hf
  refine thn (he.pe.run pins s σ H _ I hw) fun v s1 ⟨x, H1, I1, r1, q1⟩ => ?_
  obtain ⟨a, ex, q1⟩ := q1
  subst ex
  cases r1
  rcases q1 with ⟨⟨xs, hq⟩, qq⟩ | ⟨⟨xs, hq⟩, qq⟩
  · obtain ⟨its, rv, pl, hz⟩ := I1.list hq
    refine wpAny_pyIter_list pl.isList ?_
    refine ⟨s1.heap.objs.size, [s1.heap.objs.size], _, _, H1, rfl, I1.kept (t' := s1.toks) fun b o e => Heap.get?_push_of_some _ e, turn_list a _, ⟨_, Heap.get?_push_size _ rfl, rfl, rfl⟩, fun b hb => ?_, qq⟩
    have e : b = s1.heap.objs.size := by simpa using hb
    subst e
    exact I1.fpOk (Nat.le_refl _) (I1.hok.fresh (Nat.le_refl _))
  · obtain ⟨its, rv, pl, hz⟩ := I1.tuple hq
    refine wpAny_pyIter_tuple (show s1.heap.IsTuple a its.toArray from pl) ?_
    refine ⟨s1.heap.objs.size, [s1.heap.objs.size], _, _, H1, rfl, I1.kept (t' := s1.toks) fun b o e => Heap.get?_push_of_some _ e, turn_tuple a _, ⟨_, Heap.get?_push_size _ rfl, rfl, rfl⟩, fun b hb => ?_, qq⟩
    have e : b = s1.heap.objs.size := by simpa using hb
    subst e
    exact I1.fpOk (Nat.le_refl _) (I1.hok.fresh (Nat.le_refl _))
theorem ItR.down {Z : AP} {H : Hp} {a b : Int} : ItR K Z H (Itc a (-1) (a - b).toNat) (rgDn a b) := by
  have hl : (rgDn a b).length = (a - b).toNat := by unfold rgDn; rw [List.length_map, List.length_range]
  refine ⟨_, _, by rw [hl]; exact walk_rangeC, fun _ _ _ => True.intro, fun i Z1 H1 x H2 hi st hz y => ?_⟩
  obtain ⟨rfl, rfl⟩ := y
  refine ⟨Same.refl _, .int (a + (i : Nat) * (-1)), ?_, rfl⟩
  rw [hl] at hi
  unfold rgDn
  rw [List.getElem?_map, List.getElem?_range hi, Option.map_some, show a + (i : Int) * (-1) = a - i by omega]
theorem di_rngD {e1 e2 e3 : Expr} {f : Ev → Res (List D × Ev)} (hm : X.mg "range" = none) (ha : DAs X c false false [e1, e2, e3] f) (hg : Gl X "range" := by rfl) (hs : starEach [e1, e2, e3] X.env = (false, eval e1 X.env) :: starEach [e2, e3] X.env := by rfl) (hpl : (backTo pos (starEach [e2, e3] X.env)).any (·.1) = false := by rfl) :
    DI X c tg (.Call (.Name "range" p) [e1, e2, e3] [] pos) (dRngD f) := ⟨by
  refine PI.imp (pi_range3 hg hm ha.pa hs hpl) fun σ H R ⟨ρ, Z, fo, RR, ds, ρ', hf, k⟩ => ?_
  obtain ⟨⟨d1, ρ1⟩, e1, hf⟩ := Res.bind_ok hf
  refine ⟨ρ, Z, fo, RR, d1, ρ1, e1, fun vs H1 Z1 fo1 R1 s1 m1 l1 p1 => ?_⟩
  dsimp only at hf
  split at hf
  · obtain ⟨x, y, z, rfl, x1, x2, x3⟩ := shs3 p1
    obtain ⟨⟨⟨h1, h2, h3, h4⟩, rfl⟩, e2⟩ := if_ok hf
    cases e2
    cases x1
    cases x2
    cases x3
    exact ⟨_, _, _, _, rfl, RgC.neg h1 h2 h3 h4, k _ H1 Z1 fo1 R1 s1 ItR.down⟩
  · cases hf⟩
/-- list(range(n)) -/
def dLstRg (f : Ev → Res (D × Ev)) (ρ : Ev) : Res (D × Ev) := (f ρ).bind fun p => match p.1 with
  | .int n => if 0 ≤ n ∧ n ≤ 16777216 then .ok (.lst (rgD 0 n), p.2) else .err
  | _ => .err
theorem rgV_rgD {Z : AP} {H : Hp} {a b : Int} : Shs K Z H (rgD a b) (rgV a b) := by
  unfold rgD rgV
  generalize (List.range (b - a).toNat) = l
  induction l with
  | nil => exact rfl
  | cons x l ih => exact ⟨_, _, rfl, rfl, ih⟩
theorem df_lstRg {p2 pos2 : Pos} (hc : X.calm = true) (hm : X.mg "list" = none) (hm2 : X.mg "range" = none) (ha : DE X c false false e fe) (hg : Gl X "list" := by rfl) (hg2 : Gl X "range" := by rfl) (na : starEach [e] X.env = (false, eval e X.env) :: starEach [] X.env := by rfl)
    (na2 : starEach [Expr.Call (.Name "range" p2) [e] [] pos2] X.env = (false, eval (Expr.Call (.Name "range" p2) [e] [] pos2) X.env) :: starEach [] X.env := by rfl) : DF X c 0 (.Call (.Name "list" p) [.Call (.Name "range" p2) [e] [] pos2] [] pos) (dLstRg fe) := ⟨by
  refine PE.imp (pe_listRg hc hg hm (prg_1 hg2 hm2 ha.pe na) na2) fun σ H Q ⟨ρ, Z, fo, R, d, ρ', hf, k⟩ => ?_
  obtain ⟨⟨d1, ρ1⟩, h1, hf⟩ := Res.bind_ok hf
  refine ⟨ρ, Z, fo, R, d1, ρ1, h1, fun v H1 Z1 fo1 R1 s1 m1 p1 => ?_⟩
  cases d1 with
  | int n =>
    obtain ⟨⟨g1, g2⟩, e2⟩ := if_ok hf
    cases e2
    cases p1
    refine ⟨n, rfl, RgOk.of_le (by omega) g2 (by omega) g1, fun t ht => ?_⟩
    obtain ⟨R2, st⟩ := R1.take (vs := rgV 0 n) ht
    exact k _ _ _ fo1 R2 (s1.trans st) ((FrR.new R1 ht rgV_rgD).back s1)
  | _ => cases hf⟩
/-- list(x) of a list or tuple -/
def dLstOf (f : Ev → Res (List D × Ev)) (ρ : Ev) : Res (D × Ev) := (f ρ).bind fun p => match p.1 with
  | [.lst ds] => .ok (.lst ds, p.2)
  | [.tup ds] => .ok (.lst ds, p.2)
  | _ => .err
theorem df_lstOf {f : Ev → Res (List D × Ev)} (hm : X.mg "list" = none) (ha : DAs X c false false [e] f) (hg : Gl X "list" := by rfl) (he : starEach [e] X.env = (false, eval e X.env) :: starEach [] X.env := by rfl) (hpl : (backTo pos (starEach [] X.env)).any (·.1) = false := by rfl) :
    DF X c 0 (.Call (.Name "list" p) [e] [] pos) (dLstOf f) := ⟨by
  refine PE.imp (pe_callTy call_list_of hg hm (by decide +kernel) ha.pa (by decide) (by decide) he hpl) fun σ H Q ⟨ρ, Z, fo, R, d, ρ', hf, k⟩ => ?_
  obtain ⟨⟨d1, ρ1⟩, h1, hf⟩ := Res.bind_ok hf
  refine ⟨ρ, Z, fo, R, d1, ρ1, h1, fun vs H1 Z1 fo1 R1 s1 m1 l1 p1 => ?_⟩
  dsimp only at hf
  split at hf
  · obtain ⟨x, rfl, a, ws, rfl, r, s⟩ := shs1 p1
    cases hf
    refine ⟨a, ws, rfl, .inl r.sq, fun t ht => ?_⟩
    obtain ⟨R2, st⟩ := R1.take (vs := ws) ht
    exact k _ _ _ fo1 R2 (s1.trans st) ((FrR.new R1 ht s).back s1)
  · obtain ⟨x, rfl, a, ws, rfl, r, s⟩ := shs1 p1
    cases hf
    refine ⟨a, ws, rfl, .inr r.sq, fun t ht => ?_⟩
    obtain ⟨R2, st⟩ := R1.take (vs := ws) ht
    exact k _ _ _ fo1 R2 (s1.trans st) ((FrR.new R1 ht s).back s1)
  · cases hf⟩
/-! short names -/
section
variable (ha : DE X c q b a fa) (hb : DE X c q b e fb) (hq : b = true → q = true)
include ha hb hq
theorem e_add : DE X c q b (.BinOp a .Add e pos) (dOp gAdd fa fb) := de_op o_add d_add ha hb hq
theorem e_sub : DE X c q b (.BinOp a .Sub e pos) (dOp gSub fa fb) := de_op op_sub d_sub ha hb hq
theorem e_mul : DE X c q b (.BinOp a .Mult e pos) (dOp gMul fa fb) := de_op o_mul d_int ha hb hq
theorem e_fdiv : DE X c q b (.BinOp a .FloorDiv e pos) (dOp gFdiv fa fb) := de_op op_fdivW d_int ha hb hq
theorem e_mod : DE X c q b (.BinOp a .Mod e pos) (dOp gMod fa fb) := de_op op_mod d_int ha hb hq
theorem e_pow : DE X c q b (.BinOp a .Pow e pos) (dOp gPow fa fb) := de_op op_pow d_int ha hb hq
theorem e_shl : DE X c q b (.BinOp a .LShift e pos) (dOp gShl fa fb) := de_op op_shl d_int ha hb hq
theorem e_lt {k : Nat} (hr : Room k X.A) : DE X c q b (.Compare a [.Lt] [e] pos) (dOp gLt fa fb) := de_cmp (o_lt hr.units0) d_lt ha hb (nomark _) hq
theorem e_le : DE X c q b (.Compare a [.LtE] [e] pos) (dOp gLe fa fb) := de_cmp op_le d_intB ha hb (nomark _) hq
theorem e_gt {k : Nat} (hr : Room k X.A) : DE X c q b (.Compare a [.Gt] [e] pos) (dOp gGt fa fb) := de_cmp (o_gt hr.units0) d_gt ha hb (nomark _) hq
theorem e_ge : DE X c q b (.Compare a [.GtE] [e] pos) (dOp gGe fa fb) := de_cmp op_ge d_intB ha hb (nomark _) hq
theorem e_eq {k : Nat} (hr : Room k X.A) : DE X c q b (.Compare a [.Eq] [e] pos) (dOp gEq fa fb) := de_cmp (o_eq hr.units) d_eq ha hb (nomark _) hq
theorem e_ne {k : Nat} (hr : Room k X.A) : DE X c q b (.Compare a [.NotEq] [e] pos) (dOp gNe fa fb) := de_cmp (o_ne hr.units) d_ne ha hb (nomark _) hq
theorem e_in (hm : behindInMarks .In e = false) : DE X c q b (.Compare a [.In] [e] pos) (dOp (gIn false) fa fb) := de_cmp o_in d_in ha hb hm hq
theorem e_notIn (hm : behindInMarks .NotIn e = false) : DE X c q b (.Compare a [.NotIn] [e] pos) (dOp (gIn true) fa fb) := de_cmp o_notIn d_in ha hb hm hq
theorem e_is : DE X c q b (.Compare a [.Is] [e] pos) (dOp gIsN fa fb) := de_cmp op_isN d_isN ha hb (nomark _) hq
theorem e_isnot : DE X c q b (.Compare a [.IsNot] [e] pos) (dOp gNotN fa fb) := de_cmp op_notN d_notN ha hb (nomark _) hq
theorem t_lt {k : Nat} (hr : Room k X.A) : DT X c q (.Compare a [.Lt] [e] pos) (dBool (dOp gLt fa fb)) := dt_cmp (o_lt hr.units0) d_lt ha hb (nomark _) hq
theorem t_le : DT X c q (.Compare a [.LtE] [e] pos) (dBool (dOp gLe fa fb)) := dt_cmp op_le d_intB ha hb (nomark _) hq
theorem t_gt {k : Nat} (hr : Room k X.A) : DT X c q (.Compare a [.Gt] [e] pos) (dBool (dOp gGt fa fb)) := dt_cmp (o_gt hr.units0) d_gt ha hb (nomark _) hq
theorem t_ge : DT X c q (.Compare a [.GtE] [e] pos) (dBool (dOp gGe fa fb)) := dt_cmp op_ge d_intB ha hb (nomark _) hq
theorem t_eq {k : Nat} (hr : Room k X.A) : DT X c q (.Compare a [.Eq] [e] pos) (dBool (dOp gEq fa fb)) := dt_cmp (o_eq hr.units) d_eq ha hb (nomark _) hq
theorem t_ne {k : Nat} (hr : Room k X.A) : DT X c q (.Compare a [.NotEq] [e] pos) (dBool (dOp gNe fa fb)) := dt_cmp (o_ne hr.units) d_ne ha hb (nomark _) hq
theorem t_in (hm : behindInMarks .In e = false) : DT X c q (.Compare a [.In] [e] pos) (dBool (dOp (gIn false) fa fb)) := dt_cmp o_in d_in ha hb hm hq
theorem t_notIn (hm : behindInMarks .NotIn e = false) : DT X c q (.Compare a [.NotIn] [e] pos) (dBool (dOp (gIn true) fa fb)) := dt_cmp o_notIn d_in ha hb hm hq
theorem t_is : DT X c q (.Compare a [.Is] [e] pos) (dBool (dOp gIsN fa fb)) := dt_cmp op_isN d_isN ha hb (nomark _) hq
theorem t_isnot : DT X c q (.Compare a [.IsNot] [e] pos) (dBool (dOp gNotN fa fb)) := dt_cmp op_notN d_notN ha hb (nomark _) hq
end
theorem e_neg (ha : DE X c q b a fa) : DE X c q b (.UnaryOp .USub a pos) (dUn gNeg fa) := de_un un_neg d_neg ha
theorem e_ix (ha : DE X c q b a fa) (hb : DE X c q b e fb) (hq : b = true → q = true) (hs : PlainIx e := by intro _ _; rfl) : DE X c q b (.Subscript a e pos) (dOp gIx fa fb) := de_ix ix_seq d_ix ha hb hs hq
end
end DL
namespace DL
open PySem PySem.Spec PyProof.Rows L2
theorem hF {q : Bool} : false = true → q = true := fun h => by cases h
theorem hT {b : Bool} : b = true → true = true := fun _ => rfl
/-- a def as it stands behind the top -/
def Src (K : PySem.W.Frag) (mg : Str → Option Value) (x : PySem.Str) (st : Stmt) (ps : List PySem.Str) : Prop := ∃ (f : Addr) (fd : FuncData), mg x = some (.ref f) ∧ Fun K x x st f fd ∧ ∀ us : List Value, us.length = ps.length → bindArgs fd ⟨us, []⟩ = pure (ps.zip us)
theorem mkSrc {K : PySem.W.Frag} {h : Heap} {mg : Str → Option Value} {x : PySem.Str} {st : Stmt} {ps : List PySem.Str} {f : Addr} {oc : Value} {od an : Option Addr} {osl : Array (Option Value)} {kV doc pm cdv ct : Value}
    (hb : ∀ (kV doc pm : Value) (an : Option Addr) (cdv ct : Value) (us : List Value), us.length = ps.length → bindArgs (PySem.W.fnOf x x (defArgs st) (defBody st) (defScope st) .none kV doc pm an cdv ct) ⟨us, []⟩ = pure (ps.zip us))
    (X : K.In h) (G : h.Ns mainGlobals mg) (a : PySem.W.nsIn K mainGlobals x = some (some (.ref f))) (l : K.lookup f = some ⟨oc, od, .func (PySem.W.fnOf x x (defArgs st) (defBody st) (defScope st) .none kV doc pm an cdv ct), osl⟩)
    (c : PySem.W.codeIn K cdv x = true) (k : PySem.W.keepIn K (.ref f) = true) : Src K mg x st ps :=
  ⟨f, _, PySem.W.mg_of X G a, fun_mk l c k, fun us hl => hb _ _ _ _ _ _ us hl⟩
/-- the law's own promise -/
def spLaw (K : PySem.W.Frag) : Sp := fun vs H Q _ => ∃ (a : Addr) (ns : List Int), vs = [.ref a] ∧ SqL K H a (ns.map V.int) ∧ ns.length ≤ 63 ∧ ∀ H', Q (.bl true) H'
theorem shs_ints {K : PySem.W.Frag} {Z : AP} {H : Hp} : ∀ ns : List Int, Shs K Z H (ns.map D.int) (ns.map V.int)
  | [] => rfl
  | n :: ns => ⟨_, _, rfl, rfl, shs_ints ns⟩
theorem law_ok {P : Program} {w : World} {K : PySem.W.Frag} {mg : Str → Option Value} {base : Heap} {k : Nat} {f : Addr} {fd : FuncData} {F : Fn} (h : FnOk P w K mg base CX0 k f fd ["script"] (spD K [0] none F)) (hF : ∀ ns : List Int, ns.length ≤ 63 → ∃ o, F [.lst (ns.map D.int)] = .ok (.bl true, o)) :
    FnOk P w K mg base CX0 k f fd ["script"] (spLaw K) := by
  refine h.imp fun vs H Q E ⟨a, ns, e, hs, hl, q⟩ => ?_
  subst e
  obtain ⟨o, ho⟩ := hF ns hl
  refine ⟨[.lst (ns.map D.int)], fun _ => False, fun _ _ => False, rfl, rfl, fun j k d v h1 h2 h3 => ?_, fun _ _ _ z => z.elim, fun _ z => z.elim, fun _ _ z => z, _, o, ho, fun v H' Z' fo' ce => ?_⟩
  · cases j with
    | zero =>
      cases h1
      cases h2
      cases h3
      refine ⟨a, _, rfl, ?_, shs_ints ns⟩
      rcases hs with hs | hs
      · exact .inl ⟨hs, fun z => z⟩
      · exact .inr (.inr hs)
    | succ j => simp at h1
  · have e : v = .bl true := ce.res
    rw [e]
    exact q H'
end DL
/-! more: slots given up, lists within owned lists -/
namespace DL
open PySem PySem.Spec PyProof.Rows L2
/-! a slot of owned lists that is shared from here on -/
def Fl.un (i : Nat) : Fl → Fl
  | .nx ρ => .nx (ρ.set i none)
  | .rt d ρ => .rt d (ρ.set i none)
  | .bk ρ => .bk (ρ.set i none)
  | .ct ρ => .ct (ρ.set i none)
def sFrz (i : Nat) (f : Ev → Res Fl) (ρ : Ev) : Res Fl := (f ρ).bind fun fl => .ok (fl.un i)
def DC.frz (c : DC) (i : Nat) : DC := { c with ks := c.ks.set i 0 }
theorem getD_ne {l : List Nat} {i j : Nat} (h : i ≠ j) : (l.set i 0).getD j 0 = l.getD j 0 := by
  rw [List.getD_eq_getElem?_getD, List.getD_eq_getElem?_getD, List.getElem?_set_ne h]
theorem getD_eq {l : List Nat} {i : Nat} : (l.set i 0).getD i 0 = 0 := by
  rw [List.getD_eq_getElem?_getD]
  by_cases h : i < l.length
  · rw [List.getElem?_set_self h]
    rfl
  · rw [List.getElem?_eq_none (by rw [List.length_set]; omega)]
    rfl
section
variable {c : DC} {K : PySem.W.Frag} {ρ : Ev} {Z : AP} {σ : L2.St} {H : Hp} {fo : Nat → AP} {i : Nat}
theorem RS.frz (R : RS c K ρ Z σ H fo) : ∃ Z' fo', RS (c.frz i) K ρ Z' σ H fo' ∧ Stp fo Z H fo' Z' H := by
  cases h : ρ[i]? with
  | none =>
    refine ⟨Z, fo, { R with val := fun j e he => ?_, e1 := R.e1, dm := R.dm, e2 := R.e2, e3 := R.e3, zi := R.zi, pin := R.pin, sub := R.sub }, Stp.refl⟩
    obtain ⟨v, h1, h2⟩ := R.val j e he
    refine ⟨v, h1, ?_⟩
    have q : i ≠ j := fun z => by rw [z, he] at h; cases h
    show Ow K Z H ((c.ks.set i 0).getD j 0) e v (fo j)
    rw [getD_ne q]
    exact h2
  | some o =>
    cases o with
    | none =>
      refine ⟨Z, fo, { R with val := fun j e he => ?_, e1 := R.e1, dm := R.dm, e2 := R.e2, e3 := R.e3, zi := R.zi, pin := R.pin, sub := R.sub }, Stp.refl⟩
      obtain ⟨v, h1, h2⟩ := R.val j e he
      refine ⟨v, h1, ?_⟩
      have q : i ≠ j := fun z => by rw [z, he] at h; cases h
      show Ow K Z H ((c.ks.set i 0).getD j 0) e v (fo j)
      rw [getD_ne q]
      exact h2
    | some d =>
      obtain ⟨v, h1, R2, s2, p2⟩ := R.give h
      refine ⟨_, _, { R2 with len := R.len, val := fun j e he => ?_, e1 := R2.e1, dm := R2.dm, e2 := R2.e2, e3 := R2.e3, zi := R2.zi, pin := R2.pin, sub := R2.sub }, s2⟩
      by_cases q : i = j
      · subst q
        rw [h] at he
        cases he
        refine ⟨v, h1, ?_⟩
        show Ow K _ H ((c.ks.set i 0).getD i 0) d v _
        rw [getD_eq]
        exact p2
      · obtain ⟨w, h3, h4⟩ := R2.val j e (by rw [List.getElem?_set_ne q]; exact he)
        refine ⟨w, h3, ?_⟩
        show Ow K _ H ((c.ks.set i 0).getD j 0) e w _
        rw [getD_ne q]
        exact h4
theorem RS.unfrz (R : RS (c.frz i) K ρ Z σ H fo) : RS c K (ρ.set i none) Z σ H fo := by
  have R2 := R.unset i
  refine { R2 with val := fun j e he => ?_, e1 := R2.e1, dm := R2.dm, e2 := R2.e2, e3 := R2.e3, zi := R2.zi, pin := R2.pin, sub := R2.sub }
  obtain ⟨v, h1, h2⟩ := R2.val j e he
  have q : i ≠ j := fun z => by
    subst z
    by_cases hl : i < ρ.length
    · rw [List.getElem?_set_self hl] at he; cases he
    · rw [List.getElem?_eq_none (by simpa using hl)] at he; cases he
  have h3 : Ow K Z H ((c.ks.set i 0).getD j 0) e v (fo j) := h2
  rw [getD_ne q] at h3
  exact ⟨v, h1, h3⟩
end
theorem dss_frz (i : Nat) {X : Cx} {c : DC} {rk : Option Nat} {sts : List Stmt} {f : Ev → Res Fl} (h : DSs X (c.frz i) rk sts f) : DSs X c rk sts (sFrz i f) := ⟨by
  refine PSs.imp h.ps fun E σ H ⟨ρ, Z, fo, R, fl, hf, k⟩ => ?_
  obtain ⟨fl1, e1, hf⟩ := Res.bind_ok hf
  cases hf
  obtain ⟨Z', fo', R', s'⟩ := R.frz (i := i)
  refine ⟨ρ, Z', fo', R', fl1, e1, ?_⟩
  cases fl1 with
  | nx ρ1 => exact fun σ1 H1 Z1 fo1 R1 s1 => k σ1 H1 Z1 fo1 R1.unfrz (s'.trans s1)
  | bk ρ1 => exact fun σ1 H1 Z1 fo1 R1 s1 => k σ1 H1 Z1 fo1 R1.unfrz (s'.trans s1)
  | ct ρ1 => exact fun σ1 H1 Z1 fo1 R1 s1 => k σ1 H1 Z1 fo1 R1.unfrz (s'.trans s1)
  | rt d ρ1 => exact fun v σ1 H1 Z1 fo1 R1 s1 r1 => k v σ1 H1 Z1 fo1 R1.unfrz (s'.trans s1) (by
      cases rk with
      | none => exact r1
      | some n => exact ⟨r1.ex⟩)⟩
/-! a slot of owned lists that takes what is no list -/
def D.isL : D → Bool
  | .lst _ => true
  | _ => false
theorem Ow.nolist {K : PySem.W.Frag} {Z : AP} {H : Hp} {d : D} {v : V} {P : AP} (hd : d.isL = false) (h : Sh K Z H d v) : ∀ n, Ow K Z H n d v P
  | 0 => h
  | n + 1 => by
    cases d with
    | lst _ => cases hd
    | _ => exact h
theorem RS.setN {c : DC} {K : PySem.W.Frag} {ρ : Ev} {Z : AP} {σ : L2.St} {H : Hp} {fo : Nat → AP} {i : Nat} {d : D} {v : V} (r : RS c K ρ Z σ H fo) (hd : d.isL = false) (hp0 : c.pl.contains i = false) (h : Sh K Z H d v) : RS c K (ρ.set i (some d)) Z (σ.set i (some v)) H fo := by
  have hp := npl hp0
  refine { r with len := by rw [List.length_set, List.length_set]; exact r.len, val := fun j e he => ?_, pin := fun j hj => ?_ }
  · by_cases q : i = j
    · subst q
      by_cases hl : i < ρ.length
      · rw [List.getElem?_set_self hl] at he
        have e1 : d = e := Option.some.inj (Option.some.inj he)
        subst e1
        exact ⟨v, List.getElem?_set_self (r.len ▸ hl), Ow.nolist hd h _⟩
      · rw [List.getElem?_eq_none (by simpa using hl)] at he; cases he
    · rw [List.getElem?_set_ne q] at he
      obtain ⟨w, h1, h2⟩ := r.val j e he
      exact ⟨w, by rw [List.getElem?_set_ne q]; exact h1, h2⟩
  · rw [List.getElem?_set_ne (fun (e : i = j) => hp (by rw [e]; exact hj))]
    exact r.pin j hj
def sSetN (i : Nat) (f : Ev → Res (D × Ev)) (ρ : Ev) : Res Fl := (f ρ).bind fun p => if p.1.isL = false then .ok (.nx (p.2.set i (some p.1))) else .err
theorem ds_setN (i : Nat) {X : Cx} {c : DC} {rk : Option Nat} {e : Expr} {fe : Ev → Res (D × Ev)} {pos : Pos} {x : PySem.Str} {pos' : Pos} (nd : X.N.Nodup) (he : DE X c false false e fe) (hp : c.pl.contains i = false := by rfl) (hi : X.N[i]? = some x := by rfl) (hx : Loc X.env.scope x := by first | exact Or.inl rfl | exact Or.inr rfl)
    (hs : swapsWith e (some (.Name x pos')) pos.line X.env = pure false := by rfl) (hf : X.fn x = true ∨ X.env.scope.names.lookup x = some .local := by first | exact .inl rfl | exact .inr rfl) : DS X c rk (.Assign [.Name x pos'] e pos) (sSetN i fe) := ⟨by
  refine PS.imp (ps_set nd hi hx he.pe hs hf) fun E σ H ⟨ρ, Z, fo, R, fl, hf, k⟩ => ?_
  obtain ⟨⟨d1, ρ1⟩, h1, hf⟩ := Res.bind_ok hf
  obtain ⟨hd, e2⟩ := if_ok hf
  subst e2
  exact ⟨ρ, Z, fo, R, d1, ρ1, h1, fun v H1 Z1 fo1 R1 s1 m1 p1 => k _ H1 Z1 fo1 (R1.setN hd hp p1) s1⟩⟩
end DL
/-! lists within owned lists -/
namespace DL
open PySem PySem.Spec PyProof.Rows L2
theorem if_ok' {α : Type} {c : Prop} [Decidable c] {x : Res α} {b : α} (h : (if c then x else .err) = .ok b) : c ∧ x = .ok b := by
  by_cases hc : c
  · rw [if_pos hc] at h
    exact ⟨hc, h⟩
  · rw [if_neg hc] at h
    cases h
section
variable {c : DC} {K : PySem.W.Frag} {ρ : Ev} {Z : AP} {σ : L2.St} {H : Hp} {fo : Nat → AP} {i n : Nat} {ds : List D}
/-- a list of level n + 1, with its address; any of its items may be another that is no list -/
theorem RS.mutO (R : RS c K ρ Z σ H fo) (hk : c.ks.getD i 0 = n + 1) (h : ρ[i]? = some (some (.lst ds))) :
    ∃ a vs, σ[i]? = some (some (.ref a)) ∧ H a = some (.lst vs) ∧ ds.length = vs.length ∧ ∀ j d' v', d'.isL = false → Sh K Z H d' v' →
      RS c K (ρ.set i (some (.lst (ds.set j d')))) Z σ (upd H a (.lst (vs.set j v'))) fo ∧ Stp fo Z H fo Z (upd H a (.lst (vs.set j v'))) := by
  obtain ⟨v, h1, h2⟩ := R.val i _ h
  rw [hk] at h2
  obtain ⟨a, vs, rfl, pa, za, ha, l, Q, q1, q2, q3⟩ := h2
  refine ⟨a, vs, h1, ha, l, fun j0 d' v' hd' hs => ?_⟩
  have st : Stp0 Z H Z (upd H a (.lst (vs.set j0 v'))) := ⟨fun b o hb hz => by
    rw [upd_ne (fun (e : b = a) => hz (by rw [e]; exact za))]
    exact hb, fun b hb => .inl hb⟩
  refine ⟨?_, ⟨fun b o hb hf => by
    rw [upd_ne (fun (e : b = a) => hf i (by rw [e]; exact pa))]
    exact hb, fun b hb => .inl hb, fun b hb _ _ => hb, fun j b hb => .inl ⟨j, hb⟩⟩⟩
  refine { R with len := by rw [List.length_set]; exact R.len, val := fun j e he => ?_, own := fun b hb => ?_, e1 := fun b o h3 h4 => ?_, dm := fun b hb => ?_ }
  · by_cases q : i = j
    · subst q
      have hl : i < ρ.length := (List.getElem?_eq_some_iff.mp h).1
      rw [List.getElem?_set_self hl] at he
      have e1 : D.lst (ds.set j0 d') = e := Option.some.inj (Option.some.inj he)
      subst e1
      refine ⟨_, h1, ?_⟩
      rw [hk]
      refine ⟨a, _, rfl, pa, za, upd_same, by rw [List.length_set, List.length_set, l], Q, q1, q2, fun j d v e1 e2 => ?_⟩
      by_cases qj : j0 = j
      · subst qj
        have l1 : j0 < ds.length := by
          have := (List.getElem?_eq_some_iff.mp e1).1
          rwa [List.length_set] at this
        rw [List.getElem?_set_self l1] at e1
        rw [List.getElem?_set_self (l ▸ l1)] at e2
        cases e1
        cases e2
        exact Ow.nolist hd' (hs.stp st) _
      · rw [List.getElem?_set_ne qj] at e1 e2
        exact Ow.keep (fun d v s => s.stp st) _ d v (Q j) (fun b hb hz hn => ⟨upd_ne (q1 j b hb).2, hz⟩) (q3 j d v e1 e2)
    · rw [List.getElem?_set_ne q] at he
      obtain ⟨w, h5, h6⟩ := R.val j e he
      refine ⟨w, h5, Ow.keep (fun d v s => s.stp st) _ e w (fo j) (fun b hb hz hn => ⟨upd_ne fun e => q (R.dis i j b (e ▸ pa) hb), hz⟩) h6⟩
  · by_cases e : b = a
    · rw [e]
      exact ⟨_, upd_same, rfl⟩
    · rw [upd_ne e]
      exact R.own b hb
  · by_cases e : b = a
    · rcases (R.sub i a pa).2 with z | z
      · exact absurd (e ▸ z) h4
      · rw [e, z] at h3; cases h3
    · rw [upd_ne e]
      exact R.e1 b o h3 h4
  · by_cases e : b = a
    · rw [e, upd_same] at hb; cases hb
    · rw [upd_ne e] at hb
      exact R.dm b hb
/-- an inner list of shared items, changed -/
theorem RS.mut2 {j0 : Nat} {es : List D} (R : RS c K ρ Z σ H fo) (hk : c.ks.getD i 0 = 2) (h : ρ[i]? = some (some (.lst ds))) (hj : ds[j0]? = some (.lst es)) :
    ∃ a vs b ws, σ[i]? = some (some (.ref a)) ∧ H a = some (.lst vs) ∧ vs[j0]? = some (.ref b) ∧ H b = some (.lst ws) ∧ Shs K Z H es ws ∧ ∀ es' ws', Shs K Z H es' ws' →
      RS c K (ρ.set i (some (.lst (ds.set j0 (.lst es'))))) Z σ (upd H b (.lst ws')) fo ∧ Stp fo Z H fo Z (upd H b (.lst ws')) := by
  obtain ⟨v, h1, h2⟩ := R.val i _ h
  rw [hk] at h2
  obtain ⟨a, vs, rfl, pa, za, ha, l, Q, q1, q2, q3⟩ := h2
  have l0 : j0 < ds.length := (List.getElem?_eq_some_iff.mp hj).1
  have hv : vs[j0]? = some (vs[j0]'(by omega)) := List.getElem?_eq_getElem (by omega)
  obtain ⟨b, ws, eb, pb, zb, hb, lb, Q2, w1, w2, w3⟩ := q3 j0 _ _ hj hv
  have pib : fo i b := (q1 j0 b pb).1
  have hab : b ≠ a := (q1 j0 b pb).2
  refine ⟨a, vs, b, ws, h1, ha, by rw [hv, eb], hb, Shs.of lb fun i d v e1 e2 => w3 i d v e1 e2, fun es' ws' hs => ?_⟩
  have st : Stp0 Z H Z (upd H b (.lst ws')) := ⟨fun x o hx hz => by
    rw [upd_ne (fun (e : x = b) => hz (by rw [e]; exact zb))]
    exact hx, fun x hx => .inl hx⟩
  refine ⟨?_, ⟨fun x o hx hf => by
    rw [upd_ne (fun (e : x = b) => hf i (by rw [e]; exact pib))]
    exact hx, fun x hx => .inl hx, fun x hx _ _ => hx, fun j x hx => .inl ⟨j, hx⟩⟩⟩
  refine { R with len := by rw [List.length_set]; exact R.len, val := fun j e he => ?_, own := fun x hx => ?_, e1 := fun x o h3 h4 => ?_, dm := fun x hx => ?_ }
  · by_cases q : i = j
    · subst q
      have hl : i < ρ.length := (List.getElem?_eq_some_iff.mp h).1
      rw [List.getElem?_set_self hl] at he
      have e1 : D.lst (ds.set j0 (.lst es')) = e := Option.some.inj (Option.some.inj he)
      subst e1
      refine ⟨_, h1, ?_⟩
      rw [hk]
      refine ⟨a, vs, rfl, pa, za, by rw [upd_ne (Ne.symm hab)]; exact ha, by rw [List.length_set, l], Q, q1, q2, fun j d v e1 e2 => ?_⟩
      by_cases qj : j0 = j
      · subst qj
        rw [List.getElem?_set_self l0] at e1
        rw [hv, eb] at e2
        cases e1
        cases e2
        refine ⟨b, ws', rfl, pb, zb, upd_same, hs.len, fun _ _ => False, fun _ _ z => z.elim, fun _ _ _ z _ => z.elim, fun j d v e1 e2 => ?_⟩
        obtain ⟨w, h5, h6⟩ := (hs.stp st).get e1
        rw [h5] at e2
        cases e2
        exact h6
      · rw [List.getElem?_set_ne qj] at e1
        exact Ow.keep (fun d v s => s.stp st) _ d v (Q j) (fun x hx hz hn => ⟨upd_ne fun e => qj (q2 j0 j b pb (e ▸ hx)), hz⟩) (q3 j d v e1 e2)
    · rw [List.getElem?_set_ne q] at he
      obtain ⟨w, h5, h6⟩ := R.val j e he
      refine ⟨w, h5, Ow.keep (fun d v s => s.stp st) _ e w (fo j) (fun x hx hz hn => ⟨upd_ne fun e => q (R.dis i j b pib (e ▸ hx)), hz⟩) h6⟩
  · by_cases e : x = b
    · rw [e]
      exact ⟨_, upd_same, rfl⟩
    · rw [upd_ne e]
      exact R.own x hx
  · by_cases e : x = b
    · rcases (R.sub i b pib).2 with z | z
      · exact absurd (e ▸ z) h4
      · rw [e, z] at h3; cases h3
    · rw [upd_ne e]
      exact R.e1 x o h3 h4
  · by_cases e : x = b
    · rw [e, upd_same] at hx; cases hx
    · rw [upd_ne e] at hx
      exact R.dm x hx
end
section
variable {X : Cx} {c : DC} {rk : Option Nat} {e : Expr} {fe : Ev → Res (D × Ev)} {pos : Pos}
/-- x[k1], the list in it -/
def tIn (i k : Nat) : TE := fun σ H Q => ∃ a vs w, σ[i]? = some (some (.ref a)) ∧ H a = some (.lst vs) ∧ vs[k]? = some w ∧ Q w H
theorem pe_in (i k : Nat) {x : PySem.Str} {px p1 p2 : Pos} {kk} (hN : X.N[i]? = some x := by rfl) (hv : Vis X.env.scope x := by first | exact Or.inl rfl | exact Or.inr (Or.inl rfl) | exact Or.inr (Or.inr rfl)) (hd : (x == ("__debug__" : Str)) = false := by decide)
    (hcd : (x == ("__classdict__" : Str)) = false := by decide) : PE X (.Subscript (.Name x px) (.Constant (.int (k : Int)) kk p1) p2) (tIn i k) := by
  refine PE.imp (pe_ix ix_list (pe_var hN hv hd hcd) pe_int (by intro _ _; rfl)) fun σ H Q ⟨a, vs, w, h1, h2, h3, q⟩ => ?_
  exact ⟨.ref a, h1, a, vs, k, w, rfl, rfl, SqL.of h2, atI_nat h3, q⟩
/-- x[k] = e, x of any level, e no list -/
def sPutO (i k : Nat) (f : Ev → Res (D × Ev)) (ρ : Ev) : Res Fl := (f ρ).bind fun p => if p.1.isL = false then match p.2[i]? with
  | some (some (.lst ds)) => if k < ds.length then .ok (.nx (p.2.set i (some (.lst (ds.set k p.1))))) else .err
  | _ => .err else .err
theorem ds_putO (i k : Nat) {n : Nat} {x : PySem.Str} {kk} {px tpos p1 : Pos} (he : DE X c false false e fe) (hk : c.ks.getD i 0 = n + 1 := by rfl) (hN : X.N[i]? = some x := by rfl) (hv : Vis X.env.scope x := by first | exact Or.inl rfl | exact Or.inr (Or.inl rfl) | exact Or.inr (Or.inr rfl)) (hd : (x == ("__debug__" : Str)) = false := by decide)
    (hcd : (x == ("__classdict__" : Str)) = false := by decide)
    (ha : ∀ v, assign (.Subscript (.Name x px) (.Constant (.int (k : Int)) kk p1) tpos) X.env v = (do
      let ov ← holding [v] (eval (.Name x px) X.env)
      let iv ← holding [v, ov] (eval (.Constant (.int (k : Int)) kk p1) X.env)
      standAt tpos
      holding [v, ov, iv] (setItem ov iv v)
      release [v, ov, iv] []) := by intro _; rfl)
    (hs : swapsWithSole [.Subscript (.Name x px) (.Constant (.int (k : Int)) kk p1) tpos] e pos.line X.env = pure false := by rfl) (hw : swappedStores [.Subscript (.Name x px) (.Constant (.int (k : Int)) kk p1) tpos] e X.env = pure none := by rfl)
    (h1 : (assignEach [.Subscript (.Name x px) (.Constant (.int (k : Int)) kk p1) tpos] X.env).map (·.2) = [assign (.Subscript (.Name x px) (.Constant (.int (k : Int)) kk p1) tpos) X.env] := by rfl) :
    DS X c rk (.Assign [.Subscript (.Name x px) (.Constant (.int (k : Int)) kk p1) tpos] e pos) (sPutO i k fe) := ⟨by
  refine PS.imp (ps_asg he.pe (pg_sub (pe_var hN hv hd hcd) pe_int set_list ha) hs hw h1) fun E σ H ⟨ρ, Z, fo, R, fl, hf, kx⟩ => ?_
  obtain ⟨⟨d1, ρ1⟩, e1, hf⟩ := Res.bind_ok hf
  obtain ⟨hd1, hf⟩ := if_ok' hf
  dsimp only at hf
  split at hf
  · rename_i ds h3
    obtain ⟨hlt, e4⟩ := if_ok hf
    subst e4
    refine ⟨ρ, Z, fo, R, d1, ρ1, e1, fun w H1 Z1 fo1 R1 s1 m1 p1 => ?_⟩
    obtain ⟨a, vs, r1, r2, r3, r4⟩ := R1.mutO hk h3
    obtain ⟨R3, s3⟩ := r4 k d1 w hd1 p1
    refine ⟨_, r1, a, vs, k, k, rfl, rfl, r2, ?_, kx σ _ Z1 fo1 R3 (s1.trans s3)⟩
    unfold ixN
    rw [if_pos (by omega), if_pos (by omega), Int.toNat_natCast]
  · cases hf⟩
/-- x[k1][k2] = e -/
def sPut2 (i k l : Nat) (f : Ev → Res (D × Ev)) (ρ : Ev) : Res Fl := (f ρ).bind fun p => match p.2[i]? with
  | some (some (.lst ds)) => match ds[k]? with
    | some (.lst es) => if l < es.length then .ok (.nx (p.2.set i (some (.lst (ds.set k (.lst (es.set l p.1))))))) else .err
    | _ => .err
  | _ => .err
theorem ds_put2 (i k l : Nat) {x : PySem.Str} {kk kl} {px p0 p1 p2 tpos : Pos} (he : DE X c false false e fe) (hk : c.ks.getD i 0 = 2 := by rfl) (hN : X.N[i]? = some x := by rfl) (hv : Vis X.env.scope x := by first | exact Or.inl rfl | exact Or.inr (Or.inl rfl) | exact Or.inr (Or.inr rfl)) (hd : (x == ("__debug__" : Str)) = false := by decide)
    (hcd : (x == ("__classdict__" : Str)) = false := by decide)
    (ha : ∀ v, assign (.Subscript (.Subscript (.Name x px) (.Constant (.int (k : Int)) kk p0) p2) (.Constant (.int (l : Int)) kl p1) tpos) X.env v = (do
      let ov ← holding [v] (eval (.Subscript (.Name x px) (.Constant (.int (k : Int)) kk p0) p2) X.env)
      let iv ← holding [v, ov] (eval (.Constant (.int (l : Int)) kl p1) X.env)
      standAt tpos
      holding [v, ov, iv] (setItem ov iv v)
      release [v, ov, iv] []) := by intro _; rfl)
    (hs : swapsWithSole [.Subscript (.Subscript (.Name x px) (.Constant (.int (k : Int)) kk p0) p2) (.Constant (.int (l : Int)) kl p1) tpos] e pos.line X.env = pure false := by rfl) (hw : swappedStores [.Subscript (.Subscript (.Name x px) (.Constant (.int (k : Int)) kk p0) p2) (.Constant (.int (l : Int)) kl p1) tpos] e X.env = pure none := by rfl)
    (h1 : (assignEach [.Subscript (.Subscript (.Name x px) (.Constant (.int (k : Int)) kk p0) p2) (.Constant (.int (l : Int)) kl p1) tpos] X.env).map (·.2) = [assign (.Subscript (.Subscript (.Name x px) (.Constant (.int (k : Int)) kk p0) p2) (.Constant (.int (l : Int)) kl p1) tpos) X.env] := by rfl) :
    DS X c rk (.Assign [.Subscript (.Subscript (.Name x px) (.Constant (.int (k : Int)) kk p0) p2) (.Constant (.int (l : Int)) kl p1) tpos] e pos) (sPut2 i k l fe) := ⟨by
  refine PS.imp (ps_asg he.pe (pg_sub (pe_in i k hN hv hd hcd) pe_int set_list ha) hs hw h1) fun E σ H ⟨ρ, Z, fo, R, fl, hf, kx⟩ => ?_
  obtain ⟨⟨d1, ρ1⟩, e1, hf⟩ := Res.bind_ok hf
  dsimp only at hf
  split at hf
  · rename_i ds h3
    split at hf
    · rename_i es h4
      obtain ⟨hlt, e4⟩ := if_ok hf
      subst e4
      refine ⟨ρ, Z, fo, R, d1, ρ1, e1, fun w H1 Z1 fo1 R1 s1 m1 p1 => ?_⟩
      obtain ⟨a, vs, b, ws, r1, r2, r3, r4, r5, r6⟩ := R1.mut2 hk h3 h4
      obtain ⟨R3, s3⟩ := r6 (es.set l d1) (ws.set l w) (r5.set l p1)
      refine ⟨a, vs, _, r1, r2, r3, b, ws, l, l, rfl, rfl, r4, ?_, kx σ _ Z1 fo1 R3 (s1.trans s3)⟩
      have := r5.len
      unfold ixN
      rw [if_pos (by omega), if_pos (by omega), Int.toNat_natCast]
    · cases hf
  · cases hf⟩
/-- x[k1].pop(k2) -/
def dPop2 (i k l : Nat) (ρ : Ev) : Res (D × Ev) := match ρ[i]? with
  | some (some (.lst ds)) => match ds[k]? with
    | some (.lst es) => match es[l]? with
      | some d => .ok (d, ρ.set i (some (.lst (ds.set k (.lst (es.eraseIdx l))))))
      | none => .err
    | _ => .err
  | _ => .err
theorem de_pop2 (i k l : Nat) {x : PySem.Str} {kk kl} {px p1 p2 p3 apos cpos : Pos} (hk : c.ks.getD i 0 = 2 := by rfl) (hN : X.N[i]? = some x := by rfl) (hv : Vis X.env.scope x := by first | exact Or.inl rfl | exact Or.inr (Or.inl rfl) | exact Or.inr (Or.inr rfl)) (hd : (x == ("__debug__" : Str)) = false := by decide)
    (hcd : (x == ("__classdict__" : Str)) = false := by decide) (hsm : l < 1000 := by decide)
    (hbase : attributeBase (.Subscript (.Name x px) (.Constant (.int (k : Int)) kk p1) p2) "pop" X.env (eval (.Subscript (.Name x px) (.Constant (.int (k : Int)) kk p1) p2) X.env) = eval (.Subscript (.Name x px) (.Constant (.int (k : Int)) kk p1) p2) X.env := by rfl)
    (hfew : ((backTo cpos (starEach [.Constant (.int (l : Int)) kl p3] X.env)).all (fun x => !x.1) && (backToKw cpos (keywordEach [] X.env)).all (fun x => x.1.isSome) && decide ([(.Constant (.int (l : Int)) kl p3 : Expr)].length + ([] : List Keyword).length + (if ([] : List Keyword).isEmpty then 0 else 1) < 30)) = true := by rfl)
    (hline : (apos.endLine == cpos.line) = true := by rfl) (hs : starEach [.Constant (.int (l : Int)) kl p3] X.env = (false, eval (.Constant (.int (l : Int)) kl p3) X.env) :: starEach [] X.env := by rfl) (hplain : (backTo cpos (starEach [] X.env)).any (·.1) = false := by rfl) :
    DE X c false false (.Call (.Attribute (.Subscript (.Name x px) (.Constant (.int (k : Int)) kk p1) p2) "pop" apos) [.Constant (.int (l : Int)) kl p3] [] cpos) (dPop2 i k l) := ⟨by
  refine PE.imp (pe_bm PySem.F.plainAttrs_list PySem.F.slot_list_pop PySem.F.type_list_pop mt_popAt (pe_in i k hN hv hd hcd) (pa_cons pe_int pa_nil hs) hbase hfew hline hs hplain) fun σ H Q ⟨ρ, Z, fo, R, d, ρ', hf, kx⟩ => ?_
  unfold dPop2 at hf
  split at hf
  · rename_i ds h0
    split at hf
    · rename_i es h4
      split at hf
      · rename_i d1 h1
        cases hf
        obtain ⟨a, vs, b, ws, r1, r2, r3, r4, r5, r6⟩ := R.mut2 hk h0 h4
        obtain ⟨w, h2, h3⟩ := r5.get h1
        obtain ⟨R2, s2⟩ := r6 (es.eraseIdx l) (ws.eraseIdx l) (r5.erase l)
        have hl : l < ws.length := (List.getElem?_eq_some_iff.mp h2).1
        refine ⟨a, vs, _, r1, r2, r3, .inl ⟨rfl, ws, SqL.of r4⟩, b, ws, l, l, w, rfl, rfl, r4, by omega, by omega, ?_, h2, kx w _ Z fo R2 s2 (fun z => nomatch z) (Sh.stp (s2.s0 R) h3)⟩
        rw [seqIndex_of (by omega) (by omega), Int.toNat_natCast]
      · cases hf
    · cases hf
  · cases hf⟩
end
end DL
/-! enumerate of a list or a tuple -/
namespace DL
open PySem PySem.Spec PyProof.Rows L2
open AutoSeq1 (wpAny_loadPart')
theorem meets_enumT (l : Addr) (items : Array Value) (n : Nat) (dct : Option Addr) (sl : Array (Option Value)) :
    Meets (Builtin.«enumerate.__new__» ⟨[.type "enumerate", .ref l], []⟩) (fun _ R s => s.heap.get? l = some { cls := .type "tuple", dict := dct, data := .seq items n, slots := sl } ∧
      R (.ok (.ret (.ref (s.heap.push { cls := .type "tuple_iterator", data := .fields #[.ref l, .int 0 0] }).objs.size)))
        { s with heap := (s.heap.push { cls := .type "tuple_iterator", data := .fields #[.ref l, .int 0 0] }).push { cls := .type "enumerate", data := .fields #[.none, .bool false, .ref s.heap.objs.size, rawInt 0, .none, .none] } }) :=
  .of_wp fun prog w A R s h => by
    obtain ⟨hp, g, d, tk, os⟩ := s; obtain ⟨hl, h⟩ := h
    have hsub := sub_enumerate
    have hL : Heap.IsTuple (Shared.heap ⟨hp, g, d, tk, os⟩) l items := ⟨_, hl, rfl, n, rfl⟩
    wp_walk using wpAny_loadPart' hl
    refine wpAny_stack_any fun st => wpAny_pure ?_
    split
    · rename_i c _ _ _ _ _
      cases (c == Value.type "enumerate")
      · wp_walk using wpAny_loadPart' hl, wpAny_pyIter_tuple hL
        exact ⟨_, rfl, h⟩
      · wp_walk using wpAny_loadPart' hl, wpAny_pyIter_tuple hL
        exact ⟨_, rfl, h⟩
    · wp_walk using wpAny_loadPart' hl, wpAny_pyIter_tuple hL
      exact ⟨_, rfl, h⟩
theorem call_enumT {prog : Program} {w : World} {A : Around} {E : Value → Shared → Prop} {s : Shared} {l : Addr} {items : Array Value} {Q : Value → Shared → Prop} (hL : s.heap.IsTuple l items)
    (h : ∀ h', IsEnum h' (s.heap.objs.size + 1) s.heap.objs.size 0 .none → h'.IsTupleIter s.heap.objs.size l 0 → h'.objs.size = s.heap.objs.size + 2 →
      (∀ b o, s.heap.get? b = some o → h'.get? b = some o) → Q (.ref (s.heap.objs.size + 1)) { s with heap := h' }) :
    wpAny (model prog w) A (call (.type "enumerate") [.ref l]) Q E s := by
  obtain ⟨⟨c, dct, dt, sl⟩, hl, hc, n, hd⟩ := hL
  replace hc : c = .type "tuple" := hc
  replace hd : dt = .seq items n := hd
  subst hc hd
  refine callType_new F.called_enumerate (by decide) (F.typeCall_enumerate_1 _) (F.newCall_enumerate_1 _) (fun obj => F.args_object_init_2 obj _) F.entry_enumerate_new
    (meets_enumT l items n dct sl) ⟨hl, ?_⟩
  have hz : (s.heap.push { cls := .type "tuple_iterator", data := .fields #[.ref l, .int 0 0] }).objs.size = s.heap.objs.size + 1 := Heap.size_push ..
  show _ ∧ _
  rw [hz]
  have he : IsEnum ((s.heap.push { cls := .type "tuple_iterator", data := .fields #[.ref l, .int 0 0] }).push
      { cls := .type "enumerate", data := .fields #[.none, .bool false, .ref s.heap.objs.size, rawInt 0, .none, .none] }) (s.heap.objs.size + 1) s.heap.objs.size 0 .none := by
    have := Heap.get?_push_size (s.heap.push { cls := .type "tuple_iterator", data := .fields #[.ref l, .int 0 0] })
      (o := { cls := .type "enumerate", data := .fields #[.none, .bool false, .ref s.heap.objs.size, rawInt 0, .none, .none] }) rfl
    rw [hz] at this; exact this
  refine ⟨⟨_, he, rfl⟩, h _ he ⟨_, Heap.get?_push_of_some _ (Heap.get?_push_size _ rfl), rfl, rfl⟩ (by rw [Heap.size_push, hz]) fun b o x => Heap.get?_push_of_some _ (Heap.get?_push_of_some _ x)⟩
theorem draws_tuple {prog : Program} {w : World} {A : Around} (hh : A.handled = none) (it l : Addr) (hne : l ≠ it) (items : Array Value) :
    Draws prog w A it [it, l] items.size (fun i v => items[i]? = some v) (fun i h => h.IsTupleIter it l i ∧ h.IsTuple l items) where
  live := fun _ _ st => let ⟨o, ho, _⟩ := st.1; ⟨o, ho⟩
  frame := fun _ _ _ st hk => ⟨let ⟨o, e, r⟩ := st.1; ⟨o, hk it (by simp) o e, r⟩, let ⟨o, e, r⟩ := st.2; ⟨o, hk l (by simp) o e, r⟩⟩
  item := fun i s Q E hi st hQ => by
    refine RZ.nextOf_tuple_item st.1 st.2 (x := items[i]) (by simp [hi]) fun h' hit' hs' => ?_
    exact hQ _ h' s.toks (by simp [hi]) ⟨hit', st.2.extBut hs'.extBut hne⟩ hs'
  done := fun s Q E st hE => RZ.nextOf_tuple_end hh st.1 st.2 (by simp) hE
/-- the tuple at a, each item in a new pair with its place -/
def IteT (K : PySem.W.Frag) (a : Addr) : It :=
  ⟨fun i H => ∃ (xs : List V) (x : V), SqT K H a xs ∧ xs[i]? = some x, fun i H v H' => ∃ T x, v = .ref T ∧ H T = none ∧ H' = upd H T (.tup [.int (i : Nat), x]) ∧ ∀ xs, SqT K H a xs → xs[i]? = some x, fun i H => ∃ xs : List V, SqT K H a xs ∧ xs.length ≤ i⟩
theorem turn_enumT {P : Program} {w : World} {K : PySem.W.Frag} {elts : List Expr} {kk : Nat} {tpos : Pos} (a e it : Addr) :
    Turn P w K (.Tuple elts kk tpos) (IteT K a) [e, it] e (fun i h => (∃ old, IsEnum h e it ((i : Nat) : Int) old) ∧ h.IsTupleIter it a i ∧ e ≠ it) where
  mem := by simp
  obj := fun i h st b hb => by
    obtain ⟨⟨old, he⟩, ⟨o, ho, hc, hd⟩, _⟩ := st
    have e' : b = e ∨ b = it := by simpa using hb
    rcases e' with z | z
    · rw [z]; exact ⟨_, he, fun v q => nomatch q⟩
    · rw [z]; exact ⟨o, ho, fun v q => by rw [hd] at q; cases q⟩
  keep := fun i h h' st k => let ⟨⟨old, he⟩, ⟨o, ho, r⟩, hne⟩ := st; ⟨⟨old, k e (by simp) _ he⟩, ⟨o, k it (by simp) o ho, r⟩, hne⟩
  item := by
    intro X hP hw hK hc i pins s σ H E I hf st hg
    subst hP hw hK
    obtain ⟨⟨old, he⟩, hit, hne⟩ := st
    obtain ⟨xs, x, hq, hx⟩ := hg
    obtain ⟨its, rv, p, hz⟩ := I.tuple hq
    obtain ⟨u, hu, ru⟩ := rv.get hx
    have hel : e < s.heap.objs.size := Heap.lt_size he
    have hil : it < s.heap.objs.size := by obtain ⟨_, q, _⟩ := hit; exact Heap.lt_size q
    have hTu : s.heap.IsTuple a its.toArray := p
    have hai : a ≠ it := fun z => by
      obtain ⟨o1, q1, q2, _⟩ := hTu
      obtain ⟨o2, q3, q4, _⟩ := hit
      rw [z, q3] at q1
      cases q1
      rw [q4] at q2
      exact absurd (Value.type.inj q2) (by decide)
    have hae : e ∉ [it, a] := fun z => by
      have e' : e = it ∨ e = a := by simpa using z
      rcases e' with z | z
      · exact hne z
      · obtain ⟨o1, q1, q2, _⟩ := hTu
        rw [← z] at q1
        have q5 : s.heap.get? e = some _ := he
        rw [q5] at q1
        cases q1
        exact absurd (Value.type.inj q2) (by decide)
    have hlt : i < its.toArray.size := by
      rw [List.size_toArray]
      exact (List.getElem?_eq_some_iff.mp hu).1
    refine wpAny_pyNext_enum_itemD (draws_tuple (A := X.A.in1) (show X.A.in1.handled = none from I.ok.hd hc) it a hai its.toArray) he ⟨hit, hTu⟩ hlt hne hae fun x' h' tk px ho hst hT hsz hk => ?_
    have ex : x' = u := by
      have px' : its[i]? = some x' := by simpa using px
      rw [hu] at px'
      exact (Option.some.inj px').symm
    subst ex
    refine ⟨_, rfl, wpAny_letOwnedTupleGo_enum (s := { s with heap := h', toks := tk + 1 }) ho fun h'' he' sb => ?_⟩
    have hT2 : h''.get? s.heap.objs.size = some { cls := .type "tuple", data := .seq #[.int i tk, x'] } := (sb.2 _ (Nat.ne_of_gt hel)).trans hT
    have new : ObjOk X.prog X.w (upd H s.heap.objs.size (.tup [.int (i : Nat), x])) h'' s.heap.objs.size (.tup [.int (i : Nat), x]) :=
      ⟨by show 2 ≤ sizeLine; decide, [.int i tk, x'], .cons ⟨_, rfl⟩ (.cons ru .nil), ⟨_, hT2, rfl, _, rfl⟩⟩
    have I1 : Inv X pins σ (upd H s.heap.objs.size (.tup [.int (i : Nat), x])) { s with heap := h'', toks := tk + 1 } :=
      I.turnedNew (ch := [e, it]) (fun b ob hb q => (sb.2 b (fun z => hb (by simp [z]))).trans (hk b ob (fun z => hb (by simp [z])) (fun z => hb (by simp [z])) q)) hf (Nat.le_refl _) new
    refine ⟨.ref s.heap.objs.size, _, I1, rfl, ⟨_, x, rfl, I.hok.fresh (Nat.le_refl _), rfl, fun ys hy => by rw [I.tuple_inj hy hq]; exact hx⟩, ⟨⟨x', ?_⟩, ?_, hne⟩, fun b hb => ?_⟩
    · have e1 : ((i + 1 : Nat) : Int) = (i : Int) + 1 := by omega
      rw [e1]; exact he'
    · obtain ⟨o, q, r⟩ := hst.1
      exact ⟨o, (sb.2 it (Ne.symm hne)).trans q, r⟩
    · have hb' : b < s.heap.objs.size := by
        have e' : b = e ∨ b = it := by simpa using hb
        rcases e' with z | z
        · rw [z]; exact hel
        · rw [z]; exact hil
      rw [upd_ne (Nat.ne_of_lt hb')]
      exact (hf b hb).1
  done := by
    intro X hP hw hK hc i pins s σ H E I hf st hg
    subst hP hw hK
    obtain ⟨⟨old, he⟩, hit, hne⟩ := st
    obtain ⟨xs, hq, hx⟩ := hg
    obtain ⟨its, rv, p, hz⟩ := I.tuple hq
    obtain ⟨f0, f1, f2, f3, f4, f5⟩ := hf it (by simp)
    have hl := rv.length
    have hTu : s.heap.IsTuple a its.toArray := p
    have hT : s.TypeIs (.ref e) "enumerate" := ⟨_, he, rfl⟩
    unfold pyNext
    refine wpAny_bind (wpAny_attempt (wpAny_callSpecial?_slot (name := Str.ofString "__next__") hT F.slot_enumerate_next
      (wpAny_call_entry F.slot_enumerate_next hT F.entry_enumerate_next ?_ (F.args_enumerate_next_1 _))))
    show wpAny _ _ (field (.ref e) 2 >>= _) _ _ _
    refine wpAny_bind (wpAny_field he rfl (x := .ref it) rfl ?_)
    refine wpAny_bind (RZ.nextOf_tuple_end (I.ok.hd hc) hit hTu (by simp; omega) fun h' x he' hx' => ?_)
    obtain ⟨o, ho, hc'⟩ := hx'
    refine wpAny_bind (wpAny_isInstance (T := "StopIteration") (b := true) ⟨o, ho, hc'⟩ isSubtype_stop ?_)
    exact wpAny_pure ⟨rfl, I.turned (t' := s.toks) (fun b o hb q => he' b o hb q) f0 f1 f3 f4 f5⟩
  self := fun A i s Q E st h => let ⟨⟨_, he⟩, _⟩ := st; wpAny_pyIter_enum he h
end DL
/-! enumerate: the rule; all and any of tuples; names of the top; keywords -/
namespace DL
open PySem PySem.Spec PyProof.Rows L2
section
variable {X : Cx} {c : DC} {q b : Bool} {tg e a : Expr} {fe fa fb : Ev → Res (D × Ev)} {pos p : Pos} {K : PySem.W.Frag}
def dEnum (f : Ev → Res (List D × Ev)) (ρ : Ev) : Res (List D × Ev) := (f ρ).bind fun p => match p.1 with
  | [d] => match seqOf d with
    | some xs => .ok (enumD xs, p.2)
    | none => .err
  | _ => .err
theorem enum_at {ds : List D} {i : Nat} {d : D} (h : ds[i]? = some d) : (enumD ds)[i]? = some (.tup [.int (i : Nat), d]) := by
  unfold enumD
  rw [List.getElem?_map, List.getElem?_zipIdx, h, Nat.zero_add]
  rfl
theorem enum_len {ds : List D} : (enumD ds).length = ds.length := by
  unfold enumD
  rw [List.length_map, List.length_zipIdx]
theorem walk_enumT {a : Addr} {xs : List V} : L2.Walk (IteT K a) xs.length (fun H => SqT K H a xs) (YPair (fun i => some (.int (i : Nat))) (fun i => xs[i]?)) := by
  refine ⟨fun i _ hi q => ⟨xs, xs[i], q, by simp [hi]⟩, fun _ q => ⟨xs, q, Nat.le_refl _⟩, fun i H v H' _ q y => ?_⟩
  obtain ⟨T, x, h1, h2, h3, h4⟩ := y
  exact ⟨T, .int (i : Nat), x, h1, h2, h3, rfl, h4 xs q⟩
theorem ItR.enumT {Z : AP} {H : Hp} {a : Addr} {vs : List V} {ds : List D} (r : RdT K Z H a vs) (s : Shs K Z H ds vs) : ItR K Z H (IteT K a) (enumD ds) := by
  refine ⟨_, _, by rw [enum_len, s.len]; exact walk_enumT (xs := vs), fun Z1 H1 st => (r.stp st).sq, fun i Z1 H1 x H2 hi st hz y => ?_⟩
  obtain ⟨T, x1, x2, rfl, nT, rfl, g1, g2⟩ := y
  cases g1
  obtain ⟨d, h1, h2⟩ := (Shs.stp st s).getV g2
  exact ⟨same_upd nT, _, enum_at h1, Sh.pair nT hz rfl h2⟩
theorem ItR.enumL {Z : AP} {H : Hp} {a : Addr} {vs : List V} {ds : List D} (r : RdL K Z H a vs) (s : Shs K Z H ds vs) : ItR K Z H (Ite K a) (enumD ds) := by
  refine ⟨_, _, by rw [enum_len, s.len]; exact walk_enum (xs := vs), fun Z1 H1 st => (r.stp st).sq, fun i Z1 H1 x H2 hi st hz y => ?_⟩
  obtain ⟨T, x1, x2, rfl, nT, rfl, g1, g2⟩ := y
  cases g1
  obtain ⟨d, h1, h2⟩ := (Shs.stp st s).getV g2
  exact ⟨same_upd nT, _, enum_at h1, Sh.pair nT hz rfl h2⟩
theorem di_enum {elts : List Expr} {kk : Nat} {tpos : Pos} {f : Ev → Res (List D × Ev)} (hm : X.mg "enumerate" = none) (ha : DAs X c false false [e] f) (hg : Gl X "enumerate" := by rfl) (hs : starEach [e] X.env = [(false, eval e X.env)] := by rfl) :
    DI X c (.Tuple elts kk tpos) (.Call (.Name "enumerate" p) [e] [] pos) (dEnum f) := by
  refine ⟨⟨fun pins s σ H R I h => ?_⟩⟩
  obtain ⟨ρ, Z, fo, RR, ds, ρ', hf, k⟩ := h
  obtain ⟨⟨d1, ρ1⟩, e1, hf⟩ := Res.bind_ok hf
  have hw : tDs c X.K false false 1 f σ H (fun vs H1 => ∃ a, vs = [.ref a] ∧ ((∃ xs, SqL X.K H1 a xs) ∧ R (Ite X.K a) H1 ∨ (∃ xs, SqT X.K H1 a xs) ∧ R (IteT X.K a) H1)) := by
    refine ⟨ρ, Z, fo, RR, d1, ρ1, e1, fun vs H1 Z1 fo1 R1 s1 m1 l1 p1 => ?_⟩
    match d1, hf, p1 with
    | [], hf, _ => cases hf
    | _ :: _ :: _, hf, _ => cases hf
    | [d], hf, p1 =>
      obtain ⟨v, r, rfl, q1, q2⟩ := p1
      have er : r = [] := q2
      subst er
      cases d with
      | tup es =>
        cases hf
        obtain ⟨a, us, rfl, r, s⟩ := q1
        exact ⟨a, rfl, .inr ⟨⟨us, r.sq⟩, k _ H1 Z1 fo1 R1 s1 (ItR.enumT r s)⟩⟩
      | lst es =>
        cases hf
        obtain ⟨a, us, rfl, r, s⟩ := q1
        exact ⟨a, rfl, .inl ⟨⟨us, r.sq⟩, k _ H1 Z1 fo1 R1 s1 (ItR.enumL r s)⟩⟩
      | _ => cases hf
  refine Call_ (ld_blt I hg hm boot_enumerate (PyProof.Rows.callWith_type1 (thn (ha.pa.run pos pins s σ H _ I hw) fun us s1 ⟨vs, H1, I1, r1, q1⟩ => ?_) hs rfl))
  obtain ⟨a, ex, q1⟩ := q1
  subst ex
  cases r1 with
  | cons r rr =>
    cases rr
    cases r
    have fin : ∀ b, (b = s1.heap.objs.size + 1 ∨ b = s1.heap.objs.size) → FpOk X pins H1 b := fun b e' => by
      have hle : s1.heap.objs.size ≤ b := by
        rcases e' with z | z
        · rw [z]; exact Nat.le_add_right _ _
        · rw [z]; exact Nat.le_refl _
      exact I1.fpOk hle (I1.hok.fresh hle)
    rcases q1 with ⟨⟨xs, hq⟩, qq⟩ | ⟨⟨xs, hq⟩, qq⟩
    · obtain ⟨its, rv, p', hz⟩ := I1.list hq
      refine call_enumerate_list p'.isList fun h' he hit hsz hk => wpAny_pyIter_enum he ?_
      have I2 : Inv X pins σ H1 { s1 with heap := h' } := I1.kept (t' := s1.toks) hk
      exact ⟨s1.heap.objs.size + 1, [s1.heap.objs.size + 1, s1.heap.objs.size], _, _, H1, rfl, I2, turn_enum a (s1.heap.objs.size + 1) s1.heap.objs.size, ⟨⟨.none, he⟩, hit, Nat.succ_ne_self _⟩, fun b hb => fin b (by simpa using hb), qq⟩
    · obtain ⟨its, rv, p', hz⟩ := I1.tuple hq
      refine call_enumT (show s1.heap.IsTuple a its.toArray from p') fun h' he hit hsz hk => wpAny_pyIter_enum he ?_
      have I2 : Inv X pins σ H1 { s1 with heap := h' } := I1.kept (t' := s1.toks) hk
      exact ⟨s1.heap.objs.size + 1, [s1.heap.objs.size + 1, s1.heap.objs.size], _, _, H1, rfl, I2, turn_enumT a (s1.heap.objs.size + 1) s1.heap.objs.size, ⟨⟨.none, he⟩, hit, Nat.succ_ne_self _⟩, fun b hb => fin b (by simpa using hb), qq⟩
end
end DL
/-! all and any of tuples; constants of the top; defs held by slots; calls by keywords alone; no fuel -/
namespace DL
open PySem PySem.Spec PyProof.Rows L2
theorem iter_anyT {prog : Program} {w : World} {A : Around} {E : Value → Shared → Prop} {s : Shared} {l : Addr} {items : Array Value} {Q : Value → Shared → Prop} (hl : s.heap.IsTuple l items)
    (h : ∀ s₂ : Shared, s₂ = { s with heap := s.heap.push { cls := .type "tuple_iterator", data := .fields #[.ref l, .int 0 0] } } →
      (s₂.heap.IsTupleIter s.heap.objs.size l 0 ∧ s₂.heap.IsTuple l items) → l ≠ s.heap.objs.size → Q (.ref s.heap.objs.size) s₂) : wpAny (model prog w) A (pyIter (.ref l)) Q E s := by
  have hlt : l < s.heap.objs.size := by obtain ⟨_, e, _⟩ := hl; exact Heap.lt_size e
  exact wpAny_pyIter_tuple hl (h _ rfl ⟨⟨_, Heap.get?_push_size _ rfl, rfl, rfl⟩, hl.push _⟩ (Nat.ne_of_lt hlt))
section
variable {X : Cx}
def rAnyT (K : PySem.W.Frag) : List V → Hp → VK → Prop := fun vs H Q => ∃ (a : Addr) (bs : List Bool), vs = [V.ref a] ∧ SqT K H a (bs.map V.bl) ∧ Q (.bl (bs.any id)) H
def rAllT (K : PySem.W.Frag) : List V → Hp → VK → Prop := fun vs H Q => ∃ (a : Addr) (bs : List Bool), vs = [V.ref a] ∧ SqT K H a (bs.map V.bl) ∧ Q (.bl (bs.all id)) H
theorem cr_anyT (hc : X.calm = true) : CallR X (.builtin "any") (rAnyT X.K) := by
  intro pins s σ H vs us Q I r h
  obtain ⟨a, bs, rfl, hs, q⟩ := h
  obtain ⟨its, rv, hl, _⟩ := I.tuple hs
  rw [Vals.ref1 r]
  have hb := rv.bls
  refine call_any_walk (iter_anyT (show s.heap.IsTuple a its.toArray from hl) fun s₂ e2 st hne => ?_)
  subst e2
  refine ⟨_, _, _, _, _, _, _, rfl, Walks.tuple (A := X.A.in1) (I.ok.hd hc) _ a hne its.toArray, st, truth_bools hb, fun h' tk hk => ?_⟩
  refine ⟨.bl _, H, I.kept fun b o eo => hk b o (fun hmem => ?_) (Heap.get?_push_of_some _ eo), ?_, q⟩
  · rcases List.mem_cons.mp hmem with e1 | hmem
    · exact absurd (e1 ▸ Heap.lt_size eo) (Nat.lt_irrefl _)
    · cases hmem
  · show Value.bool _ = Value.bool _
    rw [← L2.any_range, hb, List.size_toArray, List.length_map]
theorem cr_allT (hc : X.calm = true) : CallR X (.builtin "all") (rAllT X.K) := by
  intro pins s σ H vs us Q I r h
  obtain ⟨a, bs, rfl, hs, q⟩ := h
  obtain ⟨its, rv, hl, _⟩ := I.tuple hs
  rw [Vals.ref1 r]
  have hb := rv.bls
  refine call_all_walk (iter_anyT (show s.heap.IsTuple a its.toArray from hl) fun s₂ e2 st hne => ?_)
  subst e2
  refine ⟨_, _, _, _, _, _, _, rfl, Walks.tuple (A := X.A.in1) (I.ok.hd hc) _ a hne its.toArray, st, truth_bools hb, fun h' tk hk => ?_⟩
  refine ⟨.bl _, H, I.kept fun b o eo => hk b o (fun hmem => ?_) (Heap.get?_push_of_some _ eo), ?_, q⟩
  · rcases List.mem_cons.mp hmem with e1 | hmem
    · exact absurd (e1 ▸ Heap.lt_size eo) (Nat.lt_irrefl _)
    · cases hmem
  · show Value.bool _ = Value.bool _
    rw [← L2.all_range, hb, List.size_toArray, List.length_map]
def gAnyA : List D → Res D
  | [.lst ds] => gAny [.lst ds]
  | [.tup ds] => match bools? ds with
    | some bs => .ok (.bl (bs.any id))
    | none => .err
  | _ => .err
def gAllA : List D → Res D
  | [.lst ds] => gAll [.lst ds]
  | [.tup ds] => match bools? ds with
    | some bs => .ok (.bl (bs.all id))
    | none => .err
  | _ => .err
theorem cr_anyA (hc : X.calm = true) : CallR X (.builtin "any") (fun vs H Q => rAny X.K vs H Q ∨ rAnyT X.K vs H Q) := (cr_any hc).or (cr_anyT hc)
theorem cr_allA (hc : X.calm = true) : CallR X (.builtin "all") (fun vs H Q => rAll X.K vs H Q ∨ rAllT X.K vs H Q) := (cr_all hc).or (cr_allT hc)
theorem c_anyA {K : PySem.W.Frag} : CallD K (fun vs H Q => rAny K vs H Q ∨ rAnyT K vs H Q) gAnyA := by
  intro Z H ds z xs Q hz hx hg k
  unfold gAnyA at hg
  split at hg
  · exact .inl (c_any Z H _ z xs Q hz hx hg k)
  · obtain ⟨x, rfl, a, vs, rfl, r, s⟩ := shs1 hx
    split at hg
    · rename_i bs hb
      cases hg
      have e := bools?_ok s hb
      subst e
      exact .inr ⟨a, bs, rfl, r.sq, k _ H (Same.refl H) rfl⟩
    · cases hg
  · cases hg
theorem c_allA {K : PySem.W.Frag} : CallD K (fun vs H Q => rAll K vs H Q ∨ rAllT K vs H Q) gAllA := by
  intro Z H ds z xs Q hz hx hg k
  unfold gAllA at hg
  split at hg
  · exact .inl (c_all Z H _ z xs Q hz hx hg k)
  · obtain ⟨x, rfl, a, vs, rfl, r, s⟩ := shs1 hx
    split at hg
    · rename_i bs hb
      cases hg
      have e := bools?_ok s hb
      subst e
      exact .inr ⟨a, bs, rfl, r.sq, k _ H (Same.refl H) rfl⟩
    · cases hg
  · cases hg
end
section
variable {X : Cx} {c : DC} {q b : Bool}
/-! what the top holds -/
theorem de_top {x : PySem.Str} {pos : Pos} {d : D} {v : V} (hm : ∃ u, X.mg x = some u ∧ RelV v u) (hs : ∀ K Z H, Sh K Z H d v := by intro _ _ _; rfl) (hg : Gl X x := by rfl) (hd : (x == ("__debug__" : Str)) = false := by decide) : DE X c q b (.Name x pos) (dConst d) := by
  obtain ⟨u, h1, h2⟩ := hm
  exact de_const (pe_glob hg h1 h2 hd) hs
/-- the def's address, 0 if there is none -/
def adOf (mg : PySem.Str → Option Value) (x : PySem.Str) : Addr := match mg x with
  | some (.ref a) => a
  | _ => 0
/-- a def at an address -/
structure DAt (P : Program) (w : World) (K : PySem.W.Frag) (mg : PySem.Str → Option Value) (base : Heap) (k : Nat) (f : Addr) (ks : List Nat) (F : Fn) : Prop where
  ex : ∃ (fd : FuncData) (ps : List PySem.Str), PySem.W.keepIn K (.ref f) = true ∧ Binds K fd ps [] ∧ FnOk P w K mg base CX0 k f fd ps (spD K ks none F)
theorem DFn.at {P : Program} {w : World} {K : PySem.W.Frag} {mg : PySem.Str → Option Value} {base : Heap} {k : Nat} {x : PySem.Str} {ks : List Nat} {F : Fn} (h : DFn P w K mg base k x ks none F) : DAt P w K mg base k (adOf mg x) ks F := by
  obtain ⟨f, fd, ps, h1, h2, h3, h4⟩ := h.ex
  have e : adOf mg x = f := by
    unfold adOf
    rw [h1]
  rw [e]
  exact ⟨fd, ps, h2, h3, h4⟩
theorem DFn.ad {P : Program} {w : World} {K : PySem.W.Frag} {mg : PySem.Str → Option Value} {base : Heap} {k : Nat} {x : PySem.Str} {ks : List Nat} {rk : Option Nat} {F : Fn} (h : DFn P w K mg base k x ks rk F) : ∃ u, mg x = some u ∧ RelV (.ref (adOf mg x)) u := by
  obtain ⟨f, fd, ps, h1, h2, h3, h4⟩ := h.ex
  have e : adOf mg x = f := by
    unfold adOf
    rw [h1]
  rw [e]
  exact ⟨_, h1, rfl⟩
theorem DAt.mono {P : Program} {w : World} {K : PySem.W.Frag} {mg : PySem.Str → Option Value} {base : Heap} {j k : Nat} {f : Addr} {ks : List Nat} {F : Fn} (h : DAt P w K mg base j f ks F) (hj : j ≤ k) : DAt P w K mg base k f ks F := by
  obtain ⟨fd, ps, h2, h3, h4⟩ := h.ex
  exact ⟨fd, ps, h2, h3, h4.mono hj⟩
/-- the def that slot i holds, known to be the one at f, called -/
def dCallL (i : Nat) (f : Addr) (as : List AK) (F : Fn) (g : Ev → Res (List (Option D) × Ev)) (ρ : Ev) : Res (D × Ev) := match ρ[i]? with
  | some (some (.fn a)) => if a = f then dCall as F g ρ else .err
  | _ => .err
theorem de_callL (i : Nat) {k j : Nat} {x : PySem.Str} {f : Addr} {p pos : Pos} {e : Expr} {es : List Expr} {ks : List Nat} {F : Fn} {as : List AK} {g : Ev → Res (List (Option D) × Ev)} (G : DAt X.prog X.w X.K X.mg X.base j f ks F) (hr : Room k X.A) (hj : j ≤ k) (ha : DA X c (e :: es) as g) (hks : ksOf c.ks as = ks := by rfl) (nd : (ios as).Nodup := by decide) (h0 : ((ios as).all fun i => c.ks.getD i 0 != 0) = true := by rfl)
    (hk0 : c.ks.getD i 0 = 0 := by rfl) (hN : X.N[i]? = some x := by rfl) (hv : Vis X.env.scope x := by first | exact Or.inl rfl | exact Or.inr (Or.inl rfl) | exact Or.inr (Or.inr rfl)) (hdb : (x == ("__debug__" : Str)) = false := by decide) (hcd : (x == ("__classdict__" : Str)) = false := by decide)
    (he : starEach (e :: es) X.env = (false, eval e X.env) :: starEach es X.env := by rfl) (hpl : (backTo pos (starEach es X.env)).any (·.1) = false := by rfl) :
    DE X c false false (.Call (.Name x p) (e :: es) [] pos) (dCallL i f as F g) := ⟨by
  obtain ⟨fd, ps, h2, h3, h4⟩ := G.ex
  refine PE.imp (pe_callL h4 (hr.mono hj) hN hv h2 h3 .nil pass0 ha.pa hdb hcd he hpl) fun σ H Q ⟨ρ, Z, fo, R, d, ρ', hf, q⟩ => ?_
  unfold dCallL at hf
  split at hf
  · rename_i a h5
    obtain ⟨ea, hf2⟩ := if_ok' hf
    subst ea
    obtain ⟨v, q1, q2⟩ := R.val i _ h5
    rw [hk0] at q2
    have q2' : v = .ref a := q2
    subst q2'
    exact ⟨q1, call_read hks nd (allN h0) ⟨ρ, Z, fo, R, d, ρ', hf2, fun v H' Z' fo' R' s' r' => q v H' Z' fo' R' s' (fun z => nomatch z) r'⟩⟩
  · cases hf⟩
/-! by keywords alone -/
def allKw (us ws : List α) : List α := match us with
  | [] => ws
  | _ => []
theorem kb_all {K : PySem.W.Frag} {fd : FuncData} {ps : List PySem.Str} (hn : ps ≠ []) (h : ∀ ws : List Value, ws.length = ps.length → bindArgs fd ⟨[], ps.zip ws⟩ = pure (ps.zip ws)) : KBinds K fd ps ps allKw allKw where
  to := fun s us ws _ hl => by
    cases us with
    | nil => exact .of_eq (h ws hl)
    | cons u us => exact absurd (List.length_eq_zero_iff.mp hl.symm) hn
  rel := fun {vs us zs ws} r rz => by
    cases r with
    | nil => exact rz
    | cons _ _ => exact .nil
theorem pe_callK0 {CX : CXT} {k : Nat} {f : Addr} {fd : FuncData} {ps ks : List PySem.Str} {sp : Sp} {E : XK} {x : PySem.Str} {p pos : Pos} {kws : List Keyword} {tk : TA} {g : List Value → List Value → List Value} {gV : List V → List V → List V} (F : FnOk X.prog X.w X.K X.mg X.base CX k f fd ps sp) (hr : Room k X.A) (hg : Gl X x) (hm : X.mg x = some (.ref f)) (hk : PySem.W.keepIn X.K (.ref f) = true) (hb : KBinds X.K fd ps ks g gV) (hx : Passes CX X E)
    (hkw : PK X kws tk) (hall : (backToKw pos (keywordEach kws X.env)).all (·.1.isSome) = true) (hks : (backToKw pos (keywordEach kws X.env)).filterMap (·.1) = ks)
    (hdb : (x == ("__debug__" : Str)) = false) (hpl : ((backTo pos (starEach [] X.env)).any (·.1) || (backToKw pos (keywordEach kws X.env)).any (·.1.isNone)) = false) :
    PE X (.Call (.Name x p) [] kws pos) (tCallK sp gV E tNil tk) := by
  refine ⟨fun pins s σ H Q I h => ?_⟩
  refine wpAny_Call_Name_kw (ld_glob I hg hm ?_ hdb)
  refine PySem.W.callWith_KW0 (h₀ := X.base) I.ok.mod.kin hk hall (thn (hkw.run pos pins s σ H _ I h) fun ws s2 ⟨zs, H2, I2, rz, q2⟩ => ⟨I2.kIn, ?_⟩) hpl
  rw [hks]
  exact run_fnk F hr hb hx I2 .nil rz q2
/-- keywords' values, read as arguments -/
structure DK (X : Cx) (c : DC) (kws : List Keyword) (as : List AK) (f : Ev → Res (List (Option D) × Ev)) : Prop where
  pk : PK X kws (tArgs c X.K as f)
theorem PK.imp {kws : List Keyword} {t u : TA} (h : PK X kws t) (k : ∀ σ H Q, u σ H Q → t σ H Q) : PK X kws u := ⟨fun pos pins s σ H Q I q => h.run pos pins s σ H Q I (k _ _ _ q)⟩
theorem dk_nil : DK X c [] [] aNil := ⟨by
  refine PK.imp pk_nil fun σ H Q ⟨ρ, Z, fo, R, ds, ρ', hf, k⟩ => ?_
  cases hf
  exact k [] H Z fo R Stp.refl True.intro⟩
theorem dk_s {nm : Option PySem.Str} {kpos : Pos} {e : Expr} {kws : List Keyword} {as : List AK} {f : Ev → Res (D × Ev)} {g : Ev → Res (List (Option D) × Ev)} (ha : DE X c false false e f) (hr : DK X c kws as g) : DK X c (⟨nm, e, kpos⟩ :: kws) (.s :: as) (aS f g) := ⟨by
  refine PK.imp (pk_cons ha.pe hr.pk) fun σ H Q ⟨ρ, Z, fo, R, ds, ρ', hf, k⟩ => ?_
  obtain ⟨⟨d1, ρ1⟩, h1, hf⟩ := Res.bind_ok hf
  obtain ⟨⟨d2, ρ2⟩, h2, hf⟩ := Res.bind_ok hf
  cases hf
  refine ⟨ρ, Z, fo, R, d1, ρ1, h1, fun x H1 Z1 fo1 R1 s1 m1 p1 => ⟨ρ1, Z1, fo1, R1, d2, ρ2, h2, fun xs H2 Z2 fo2 R2 s2 p2 => ?_⟩⟩
  exact k (x :: xs) H2 Z2 fo2 R2 (s1.trans s2) ⟨Sh.stp (s2.s0 R1) p1, p2⟩⟩
structure DKw (P : Program) (w : World) (K : PySem.W.Frag) (mg : PySem.Str → Option Value) (base : Heap) (k : Nat) (x : PySem.Str) (ps : List PySem.Str) (ks : List Nat) (F : Fn) : Prop where
  ex : ∃ (f : Addr) (fd : FuncData), mg x = some (.ref f) ∧ PySem.W.keepIn K (.ref f) = true ∧ KBinds K fd ps ps allKw allKw ∧ FnOk P w K mg base CX0 k f fd ps (spD K ks none F)
theorem dkw {P : Program} {w : World} {K : PySem.W.Frag} {mg : PySem.Str → Option Value} {base : Heap} {x : PySem.Str} {st : Stmt} {ps : List PySem.Str} {k : Nat} {ks : List Nat} {F : Fn} (h : Src K mg x st ps) (hF : ∀ f fd, Fun K x x st f fd → FnOk P w K mg base CX0 k f fd ps (spD K ks none F))
    (hb : ∀ (kV doc pm : Value) (an : Option Addr) (cdv ct : Value) (ws : List Value), ws.length = ps.length → bindArgs (PySem.W.fnOf x x (defArgs st) (defBody st) (defScope st) .none kV doc pm an cdv ct) ⟨[], ps.zip ws⟩ = pure (ps.zip ws)) (hn : ps ≠ [] := by decide) : DKw P w K mg base k x ps ks F := by
  obtain ⟨f, fd, h1, h2, h3⟩ := h
  have h4 := hF f fd h2
  obtain ⟨oc, od, kV, doc, pm, an, cdv, ct, osl, e, _, _⟩ := h2.ex
  refine ⟨f, fd, h1, h2.kp, kb_all hn fun ws hl => ?_, h4⟩
  rw [e]
  exact hb kV doc pm an cdv ct ws hl
theorem de_callK0 {k j : Nat} {x : PySem.Str} {ps : List PySem.Str} {p pos : Pos} {kws : List Keyword} {ks : List Nat} {F : Fn} {as : List AK} {g : Ev → Res (List (Option D) × Ev)} (G : DKw X.prog X.w X.K X.mg X.base j x ps ks F) (hr : Room k X.A) (hj : j ≤ k) (ha : DK X c kws as g) (hksk : (backToKw pos (keywordEach kws X.env)).filterMap (·.1) = ps := by rfl) (hks : ksOf c.ks as = ks := by rfl) (nd : (ios as).Nodup := by decide) (h0 : ((ios as).all fun i => c.ks.getD i 0 != 0) = true := by rfl)
    (hg : Gl X x := by rfl) (hdb : (x == ("__debug__" : Str)) = false := by decide) (hall : (backToKw pos (keywordEach kws X.env)).all (·.1.isSome) = true := by rfl) (hpl : ((backTo pos (starEach [] X.env)).any (·.1) || (backToKw pos (keywordEach kws X.env)).any (·.1.isNone)) = false := by rfl) :
    DE X c false false (.Call (.Name x p) [] kws pos) (dCall as F g) := ⟨by
  obtain ⟨f, fd, h1, h2, h3, h4⟩ := G.ex
  refine PE.imp (pe_callK0 h4 (hr.mono hj) hg h1 h2 h3 pass0 ha.pk hall hksk hdb hpl) fun σ H Q ⟨ρ, Z, fo, R, d, ρ', hf, q⟩ => ?_
  have z := call_read (rk := none) hks nd (allN h0) ⟨ρ, Z, fo, R, d, ρ', hf, fun v H' Z' fo' R' s' r' => q v H' Z' fo' R' s' (fun z => nomatch z) r'⟩
  have e0 : (fun (vs : List V) (H1 : Hp) => spD X.K ks none F (vs ++ []) H1 Q E0) = fun vs H1 => spD X.K ks none F vs H1 Q E0 := by
    funext vs H1
    rw [List.append_nil]
  have z2 : tArgs c X.K as g σ H (fun (vs : List V) (H1 : Hp) => spD X.K ks none F (vs ++ []) H1 Q E0) := z
  rw [e0] at z2
  exact z2⟩
theorem d_err {P : Program} {w : World} {K : PySem.W.Frag} {mg : PySem.Str → Option Value} {base : Heap} {x : PySem.Str} {st : Stmt} {ps : List PySem.Str} {k : Nat} {ks : List Nat} {rk : Option Nat} (h : Src K mg x st ps) (hl : ks.length = ps.length := by rfl) : DFn P w K mg base k x ks rk (fun _ => .err) := by
  obtain ⟨f, fd, h1, h2, h3⟩ := h
  refine ⟨f, fd, ps, h1, h2.kp, .all h3, ⟨fun vs H Q E ⟨ds, Z, fo, l, _⟩ => by rw [l, hl], fun A outer s H args us vs Q E _ _ _ _ hs => ?_⟩⟩
  obtain ⟨ds, Z, fo, _, _, _, _, _, _, d, ds', hf, _⟩ := hs
  cases hf
end
end DL
/-! a new list of lists of one's own -/
namespace DL
open PySem PySem.Spec PyProof.Rows L2
structure FrRs (c : DC) (K : PySem.W.Frag) (fo0 : Nat → AP) (H0 : Hp) (fo : Nat → AP) (Z : AP) (H : Hp) (n : Nat) (ds : List D) (vs : List V) : Prop where
  ex : ∃ Q : Nat → AP, ds.length = vs.length ∧ (∀ i d v, ds[i]? = some d → vs[i]? = some v → Ow K Z H n d v (Q i)) ∧ (∀ i b, Q i b → Z b ∧ (c.M b ∨ c.Hi b = none)) ∧ (∀ i j b, Q i b → Q j b → i = j) ∧ (∀ i j b, Q i b → ¬ fo j b) ∧ ∀ i b, Q i b → (∃ j, fo0 j b) ∨ H0 b = none
def tIs (c : DC) (K : PySem.W.Frag) (n l : Nat) (f : Ev → Res (List D × Ev)) : TA := fun σ H Q => ∃ ρ Z fo, RS c K ρ Z σ H fo ∧ ∃ ds ρ', f ρ = .ok (ds, ρ') ∧
  ∀ vs H' Z' fo', RS c K ρ' Z' σ H' fo' → Stp fo Z H fo' Z' H' → vs.length = l → FrRs c K fo H fo' Z' H' n ds vs → Q vs H'
structure DIs (X : Cx) (c : DC) (n : Nat) (es : List Expr) (f : Ev → Res (List D × Ev)) : Prop where
  pa : PA X es (tIs c X.K n es.length f)
section
variable {X : Cx} {c : DC} {n : Nat} {a : Expr} {es : List Expr} {pos : Pos}
theorem dis_nil : DIs X c n [] dNil := ⟨by
  refine PA.imp pa_nil fun σ H Q ⟨ρ, Z, fo, R, ds, ρ', hf, k⟩ => ?_
  cases hf
  exact k [] H Z fo R Stp.refl rfl ⟨fun _ _ => False, rfl, fun i d v h => by simp at h, fun _ _ z => z.elim, fun _ _ _ z => z.elim, fun _ _ _ z => z.elim, fun _ _ z => z.elim⟩⟩
/-- an item of its own -/
theorem dis_f {f : Ev → Res (D × Ev)} {g : Ev → Res (List D × Ev)} (ha : DF X c n a f) (hr : DIs X c (n + 1) es g)
    (hs : starEach (a :: es) X.env = (false, eval a X.env) :: starEach es X.env := by rfl) : DIs X c (n + 1) (a :: es) (dCons f g) := ⟨by
  refine PA.imp (pa_cons ha.pe hr.pa hs) fun σ H Q ⟨ρ, Z, fo, R, ds, ρ', hf, k⟩ => ?_
  obtain ⟨⟨d1, ρ1⟩, h1, hf⟩ := Res.bind_ok hf
  obtain ⟨⟨d2, ρ2⟩, h2, hf⟩ := Res.bind_ok hf
  cases hf
  refine ⟨ρ, Z, fo, R, d1, ρ1, h1, fun x H1 Z1 fo1 R1 s1 p1 => ⟨ρ1, Z1, fo1, R1, d2, ρ2, h2, fun xs H2 Z2 fo2 R2 s2 l2 p2 => ?_⟩⟩
  obtain ⟨P, a1, a2, a3, a4⟩ := p1.ex
  obtain ⟨Q2, b0, b1, b2, b3, b4, b5⟩ := p2.ex
  have hn1 : ∀ b, P b → H1 b ≠ none := fun b hb => R1.ownN b (a2 b hb).1
  have hp2 : ∀ i b, Q2 i b → ¬ P b := fun i b hb hp => by
    rcases b5 i b hb with ⟨j, hj⟩ | z
    · exact a3 j b hp hj
    · exact hn1 b hp z
  refine k (x :: xs) H2 Z2 fo2 R2 (s1.trans s2) (by rw [List.length_cons, List.length_cons, l2]) ⟨fun i => match i with
    | 0 => P
    | i + 1 => Q2 i, by rw [List.length_cons, List.length_cons, b0], fun i d v e1 e2 => ?_, fun i b hb => ?_, fun i j b hi hj => ?_, fun i j b hi => ?_, fun i b hb => ?_⟩
  · cases i with
    | zero =>
      cases e1
      cases e2
      refine Ow.keep (fun d v s => s.stp (s2.s0 R1)) _ d1 x P (fun b hb hz hn => ⟨?_, s2.k3 b hz hn fun i z => a3 i b hb z⟩) a1
      cases e : H1 b with
      | none => exact absurd e hn
      | some o => exact s2.k1 b o e fun i z => a3 i b hb z
    | succ i => exact b1 i d v (by simpa using e1) (by simpa using e2)
  · cases i with
    | zero => exact ⟨s2.k3 b (a2 b hb).1 (hn1 b hb) fun i z => a3 i b hb z, (a2 b hb).2⟩
    | succ i => exact b2 i b hb
  · cases i with
    | zero =>
      cases j with
      | zero => rfl
      | succ j => exact absurd hi (hp2 j b hj)
    | succ i =>
      cases j with
      | zero => exact absurd hj (hp2 i b hi)
      | succ j => rw [b3 i j b hi hj]
  · cases i with
    | zero =>
      intro z
      rcases s2.k4 j b z with ⟨k, hk⟩ | z
      · exact a3 k b hi hk
      · exact hn1 b hi z
    | succ i => exact b4 i j b hi
  · cases i with
    | zero => exact a4 b hb
    | succ i =>
      rcases b5 i b hb with ⟨j, hj⟩ | z
      · exact s1.k4 j b hj
      · exact (s1.none z).symm⟩
/-- an item that is no list -/
def dConsN (f : Ev → Res (D × Ev)) (g : Ev → Res (List D × Ev)) (ρ : Ev) : Res (List D × Ev) := (f ρ).bind fun p => if p.1.isL = false then (g p.2).bind fun r => .ok (p.1 :: r.1, r.2) else .err
theorem dis_n {f : Ev → Res (D × Ev)} {g : Ev → Res (List D × Ev)} (ha : DE X c false false a f) (hr : DIs X c n es g)
    (hs : starEach (a :: es) X.env = (false, eval a X.env) :: starEach es X.env := by rfl) : DIs X c n (a :: es) (dConsN f g) := ⟨by
  refine PA.imp (pa_cons ha.pe hr.pa hs) fun σ H Q ⟨ρ, Z, fo, R, ds, ρ', hf, k⟩ => ?_
  obtain ⟨⟨d1, ρ1⟩, h1, hf⟩ := Res.bind_ok hf
  obtain ⟨hd, hf⟩ := if_ok' hf
  obtain ⟨⟨d2, ρ2⟩, h2, hf⟩ := Res.bind_ok hf
  cases hf
  refine ⟨ρ, Z, fo, R, d1, ρ1, h1, fun x H1 Z1 fo1 R1 s1 m1 p1 => ⟨ρ1, Z1, fo1, R1, d2, ρ2, h2, fun xs H2 Z2 fo2 R2 s2 l2 p2 => ?_⟩⟩
  obtain ⟨Q2, b0, b1, b2, b3, b4, b5⟩ := p2.ex
  refine k (x :: xs) H2 Z2 fo2 R2 (s1.trans s2) (by rw [List.length_cons, List.length_cons, l2]) ⟨fun i => match i with
    | 0 => fun _ => False
    | i + 1 => Q2 i, by rw [List.length_cons, List.length_cons, b0], fun i d v e1 e2 => ?_, fun i b hb => ?_, fun i j b hi hj => ?_, fun i j b hi => ?_, fun i b hb => ?_⟩
  · cases i with
    | zero =>
      cases e1
      cases e2
      exact Ow.nolist hd (Sh.stp (s2.s0 R1) p1) _
    | succ i => exact b1 i d v (by simpa using e1) (by simpa using e2)
  · cases i with
    | zero => exact hb.elim
    | succ i => exact b2 i b hb
  · cases i with
    | zero => exact hi.elim
    | succ i =>
      cases j with
      | zero => exact hj.elim
      | succ j => rw [b3 i j b hi hj]
  · cases i with
    | zero => exact hi.elim
    | succ i => exact b4 i j b hi
  · cases i with
    | zero => exact hb.elim
    | succ i =>
      rcases b5 i b hb with ⟨j, hj⟩ | z
      · exact s1.k4 j b hj
      · exact (s1.none z).symm⟩
theorem df_lstO {g : Ev → Res (List D × Ev)} (ha : DIs X c n es g) (hl : es.length ≤ 16777216 := by decide) : DF X c n (.List es pos) (dLst g) := ⟨by
  refine PE.imp (pe_lst ha.pa) fun σ H Q ⟨ρ, Z, fo, R, ds, ρ', hf, k⟩ => ?_
  obtain ⟨⟨d1, ρ1⟩, h1, hf⟩ := Res.bind_ok hf
  cases hf
  refine ⟨ρ, Z, fo, R, _, _, h1, fun xs H1 Z1 fo1 R1 s1 l1 p1 => ⟨sizeLine_ge (by omega), fun p hp => ?_⟩⟩
  obtain ⟨Q2, b0, b1, b2, b3, b4, b5⟩ := p1.ex
  obtain ⟨R2, st⟩ := R1.take (vs := xs) hp
  have hn1 : ∀ i b, Q2 i b → H1 b ≠ none := fun i b hb => R1.ownN b (b2 i b hb).1
  have hne : ∀ i b, Q2 i b → b ≠ p := fun i b hb e => hn1 i b hb (by rw [e]; exact hp)
  refine k _ _ _ fo1 R2 (s1.trans st) ⟨fun b => b = p ∨ ∃ i, Q2 i b, ⟨p, xs, rfl, .inl rfl, .inr rfl, upd_same, b0, Q2, fun i b hb => ⟨.inr ⟨i, hb⟩, hne i b hb⟩, b3, fun i d v e1 e2 => ?_⟩, fun b hb => ?_, fun i b hb z => ?_, fun b hb => ?_⟩
  · exact Ow.keep (fun d v s => s.stp (st.s0 R1)) _ d v (Q2 i) (fun b hb hz hn => ⟨upd_ne (hne i b hb), .inl hz⟩) (b1 i d v e1 e2)
  · rcases hb with hb | ⟨i, hb⟩
    · exact ⟨.inr hb, .inr (by rw [hb]; exact R1.dm p hp)⟩
    · exact ⟨.inl (b2 i b hb).1, (b2 i b hb).2⟩
  · rcases hb with hb | ⟨j, hb⟩
    · rw [hb] at z
      exact R1.nz hp (R1.sub i p z).1
    · exact b4 j i b hb z
  · rcases hb with hb | ⟨i, hb⟩
    · rw [hb]
      exact (s1.none hp).symm
    · exact b5 i b hb⟩
end
end DL
/-! the pure functions, gone through step by step -/
namespace DL
open PySem PySem.Spec PyProof.Rows L2
/-- it ends well, and P holds of what it gives -/
def Ok {α : Type} (x : Res α) (P : α → Prop) : Prop := ∃ a, x = .ok a ∧ P a
section
variable {α β : Type}
theorem Ok.bind {x : Res α} {f : α → Res β} {Q : β → Prop} (h : Ok x fun a => Ok (f a) Q) : Ok (x.bind f) Q := by
  obtain ⟨a, e, b, e2, q⟩ := h
  exact ⟨b, by rw [e]; exact e2, q⟩
theorem Ok.mk {x : Res α} {a : α} {P : α → Prop} (e : x = .ok a) (p : P a) : Ok x P := ⟨a, e, p⟩
theorem Ok.ret {a : α} {P : α → Prop} (p : P a) : Ok (Res.ok a) P := ⟨a, rfl, p⟩
theorem Ok.imp {x : Res α} {P Q : α → Prop} (h : Ok x P) (k : ∀ a, P a → Q a) : Ok x Q := by
  obtain ⟨a, e, p⟩ := h
  exact ⟨a, e, k a p⟩
theorem Ok.eq {x y : Res α} {P : α → Prop} (e : x = y) (h : Ok y P) : Ok x P := e ▸ h
theorem Ok.ite {c : Prop} [Decidable c] {x y : Res α} {P : α → Prop} (h1 : c → Ok x P) (h2 : ¬ c → Ok y P) : Ok (if c then x else y) P := by
  by_cases h : c
  · rw [if_pos h]
    exact h1 h
  · rw [if_neg h]
    exact h2 h
theorem Ok.iteT {c : Prop} [Decidable c] {x y : Res α} {P : α → Prop} (h : c) (h1 : Ok x P) : Ok (if c then x else y) P := by
  rw [if_pos h]
  exact h1
theorem Ok.iteF {c : Prop} [Decidable c] {x y : Res α} {P : α → Prop} (h : ¬ c) (h1 : Ok y P) : Ok (if c then x else y) P := by
  rw [if_neg h]
  exact h1
end
section
variable {ρ : Ev} {f g : Ev → Res Fl} {fe fa fb : Ev → Res (D × Ev)} {fs : Ev → Res (List D × Ev)} {ft fu : Ev → Res (Bool × Ev)} {Q : Fl → Prop} {QE : D × Ev → Prop} {QS : List D × Ev → Prop} {QT : Bool × Ev → Prop} {i : Nat}
theorem w_mkF {N : Nat} {ks : List Nat} {rk : Option Nat} {b : Ev → Res Fl} {ds : List D} {P : D × List D → Prop} (h : Ok (b (ds.map some ++ List.replicate (N - ds.length) none)) fun fl => Ok (match fl with
  | .rt d ρ => (outP ρ ks 0).bind fun o => .ok (d, o)
  | .nx ρ => match rk with
    | none => (outP ρ ks 0).bind fun o => .ok (.non, o)
    | some _ => .err
  | _ => .err) P) : Ok (mkF N ks rk b ds) P := Ok.bind h
theorem w_seq (h : Ok (f ρ) fun fl => match fl with
  | .nx ρ' => Ok (g ρ') Q
  | fl => Q fl) : Ok (sSeq f g ρ) Q := by
  refine Ok.bind (h.imp fun fl q => ?_)
  cases fl with
  | nx ρ' => exact q
  | _ => exact Ok.ret q
theorem w_if (h : Ok (ft ρ) fun p => if p.1 = true then Ok (f p.2) Q else Ok (g p.2) Q) : Ok (sIf ft f g ρ) Q := by
  refine Ok.bind (h.imp fun p q => ?_)
  by_cases c : p.1 = true
  · rw [if_pos c] at q ⊢
    exact q
  · rw [if_neg c] at q ⊢
    exact q
theorem w_set (h : Ok (fe ρ) fun p => Q (.nx (p.2.set i (some p.1)))) : Ok (sSet i fe ρ) Q := Ok.bind (h.imp fun p q => Ok.ret q)
theorem w_ret (h : Ok (fe ρ) fun p => Q (.rt p.1 p.2)) : Ok (sRet fe ρ) Q := Ok.bind (h.imp fun p q => Ok.ret q)
theorem w_drop (h : Ok (fe ρ) fun p => Q (.nx p.2)) : Ok (sDrop fe ρ) Q := Ok.bind (h.imp fun p q => Ok.ret q)
theorem w_nil (h : Q (.nx ρ)) : Ok (sNil ρ) Q := Ok.ret h
theorem w_break (h : Q (.bk ρ)) : Ok (sBreak ρ) Q := Ok.ret h
theorem w_cont (h : Q (.ct ρ)) : Ok (sCont ρ) Q := Ok.ret h
theorem w_par2 {j : Nat} (h : Ok (fs ρ) fun p => ∃ x y, p.1 = [x, y] ∧ Q (.nx ((p.2.set i (some x)).set j (some y)))) : Ok (sPar [i, j] fs ρ) Q := by
  refine Ok.bind (h.imp fun p ⟨x, y, e, q⟩ => ?_)
  obtain ⟨ds, ρ1⟩ := p
  dsimp only at e
  subst e
  exact Ok.ret q
theorem w_par3 {j l : Nat} (h : Ok (fs ρ) fun p => ∃ x y z, p.1 = [x, y, z] ∧ Q (.nx (((p.2.set i (some x)).set j (some y)).set l (some z)))) : Ok (sPar [i, j, l] fs ρ) Q := by
  refine Ok.bind (h.imp fun p ⟨x, y, z, e, q⟩ => ?_)
  obtain ⟨ds, ρ1⟩ := p
  dsimp only at e
  subst e
  exact Ok.ret q
theorem w_asg {gt : D → Ev → Res Ev} (h : Ok (fe ρ) fun p => Ok (gt p.1 p.2) fun ρ' => Q (.nx ρ')) : Ok (sAsg fe gt ρ) Q := Ok.bind (h.imp fun p q => Ok.bind (q.imp fun r s => Ok.ret s))
theorem w_aug {op : D → D → Res D} {x : D} (h0 : ρ[i]? = some (some x)) (h : Ok (fe ρ) fun p => Ok (op x p.1) fun z => Q (.nx (p.2.set i (some z)))) : Ok (sAug i op fe ρ) Q := by
  unfold sAug
  rw [h0]
  exact Ok.bind (h.imp fun p q => Ok.bind (q.imp fun r s => Ok.ret s))
theorem w_app {ds0 : List D} (h0 : ρ[i]? = some (some (.lst ds0))) (h : Ok (fe ρ) fun p => ∃ ds, p.2[i]? = some (some (.lst ds)) ∧ ds.length < 16777216 ∧ Q (.nx (p.2.set i (some (.lst (ds ++ [p.1])))))) : Ok (sApp i fe ρ) Q := by
  unfold sApp
  rw [h0]
  refine Ok.bind (h.imp fun p ⟨ds, e, l, q⟩ => ?_)
  rw [e]
  exact Ok.iteT l (Ok.ret q)
theorem w_ext {ds0 : List D} (h0 : ρ[i]? = some (some (.lst ds0))) (h : Ok (fe ρ) fun p => ∃ ds es, p.2[i]? = some (some (.lst ds)) ∧ p.1 = .lst es ∧ ds.length + es.length ≤ 16777216 ∧ Q (.nx (p.2.set i (some (.lst (ds ++ es)))))) : Ok (sExt i fe ρ) Q := by
  unfold sExt
  rw [h0]
  refine Ok.bind (h.imp fun p ⟨ds, es, e, e2, l, q⟩ => ?_)
  rw [e, e2]
  exact Ok.iteT l (Ok.ret q)
theorem w_put {fi : Ev → Res (D × Ev)} (h : Ok (fe ρ) fun p => ∃ ds0, p.2[i]? = some (some (.lst ds0)) ∧ Ok (fi p.2) fun r => ∃ ds n j, r.2[i]? = some (some (.lst ds)) ∧ r.1 = .int n ∧ ixN ds.length n = some j ∧ Q (.nx (r.2.set i (some (.lst (ds.set j p.1)))))) : Ok (sPut i fe fi ρ) Q := by
  refine Ok.bind (h.imp fun p ⟨ds0, e0, q⟩ => ?_)
  rw [e0]
  refine Ok.bind (q.imp fun r ⟨ds, n, j, e1, e2, e3, q⟩ => ?_)
  rw [e1, e2]
  dsimp only
  rw [e3]
  exact Ok.ret q
theorem w_var {d : D} (h0 : ρ[i]? = some (some d)) (h : QE (d, ρ)) : Ok (dVar i ρ) QE := by
  refine ⟨(d, ρ), ?_, h⟩
  unfold dVar
  rw [h0]
theorem w_take {d : D} (h0 : ρ[i]? = some (some d)) (h : QE (d, ρ.set i none)) : Ok (dTake i ρ) QE := by
  refine ⟨(d, ρ.set i none), ?_, h⟩
  unfold dTake
  rw [h0]
theorem w_const {d : D} (h : QE (d, ρ)) : Ok (dConst d ρ) QE := Ok.ret h
theorem w_op {op : D → D → Res D} (h : Ok (fa ρ) fun p => Ok (fb p.2) fun r => Ok (op p.1 r.1) fun z => QE (z, r.2)) : Ok (dOp op fa fb ρ) QE := Ok.bind (h.imp fun _ q => Ok.bind (q.imp fun _ q => Ok.bind (q.imp fun _ q => Ok.ret q)))
theorem w_un {op : D → Res D} (h : Ok (fa ρ) fun p => Ok (op p.1) fun z => QE (z, p.2)) : Ok (dUn op fa ρ) QE := Ok.bind (h.imp fun _ q => Ok.bind (q.imp fun _ q => Ok.ret q))
theorem w_calm (h : Ok (fe ρ) fun p => p.1.calm = true ∧ QE p) : Ok (dCalm fe ρ) QE := Ok.bind (h.imp fun _ q => Ok.iteT q.1 (Ok.ret q.2))
theorem w_nils (h : QS ([], ρ)) : Ok (dNil ρ) QS := Ok.ret h
theorem w_cons (h : Ok (fe ρ) fun p => Ok (fs p.2) fun r => QS (p.1 :: r.1, r.2)) : Ok (dCons fe fs ρ) QS := Ok.bind (h.imp fun _ q => Ok.bind (q.imp fun _ q => Ok.ret q))
theorem w_tup (h : Ok (fs ρ) fun p => QE (.tup p.1, p.2)) : Ok (dTup fs ρ) QE := Ok.bind (h.imp fun _ q => Ok.ret q)
theorem w_lst (h : Ok (fs ρ) fun p => QE (.lst p.1, p.2)) : Ok (dLst fs ρ) QE := Ok.bind (h.imp fun _ q => Ok.ret q)
theorem w_tru (h : Ok (fe ρ) fun p => Ok (gTru p.1) fun k => QT (k, p.2)) : Ok (dTru fe ρ) QT := Ok.bind (h.imp fun _ q => Ok.bind (q.imp fun _ q => Ok.ret q))
theorem w_bool (h : Ok (fe ρ) fun p => ∃ k, p.1 = .bl k ∧ QT (k, p.2)) : Ok (dBool fe ρ) QT := by
  refine Ok.bind (h.imp fun p ⟨k, e, q⟩ => ?_)
  rw [e]
  exact Ok.ret q
theorem w_not (h : Ok (ft ρ) fun p => QT (!p.1, p.2)) : Ok (dNot ft ρ) QT := Ok.bind (h.imp fun _ q => Ok.ret q)
theorem w_and (h : Ok (ft ρ) fun p => if p.1 = true then Ok (fu p.2) QT else QT (false, p.2)) : Ok (dAnd ft fu ρ) QT := by
  refine Ok.bind (h.imp fun p q => ?_)
  by_cases c : p.1 = true
  · rw [if_pos c] at q ⊢
    exact q
  · rw [if_neg c] at q ⊢
    exact Ok.ret q
theorem w_or (h : Ok (ft ρ) fun p => if p.1 = true then QT (true, p.2) else Ok (fu p.2) QT) : Ok (dOr ft fu ρ) QT := by
  refine Ok.bind (h.imp fun p q => ?_)
  by_cases c : p.1 = true
  · rw [if_pos c] at q ⊢
    exact Ok.ret q
  · rw [if_neg c] at q ⊢
    exact q
theorem w_ife {α : Type} {u v : Ev → Res α} {QA : α → Prop} (h : Ok (ft ρ) fun p => if p.1 = true then Ok (u p.2) QA else Ok (v p.2) QA) : Ok (dIf ft u v ρ) QA := by
  refine Ok.bind (h.imp fun p q => ?_)
  by_cases c : p.1 = true
  · rw [if_pos c] at q ⊢
    exact q
  · rw [if_neg c] at q ⊢
    exact q
theorem w_andV (h : Ok (fa ρ) fun p => Ok (gTru p.1) fun k => if k = true then Ok (fb p.2) QE else QE p) : Ok (dAndV fa fb ρ) QE := by
  refine Ok.bind (h.imp fun p q => Ok.bind (q.imp fun k q => ?_))
  by_cases c : k = true
  · rw [if_pos c] at q ⊢
    exact q
  · rw [if_neg c] at q ⊢
    exact Ok.ret q
theorem w_orV (h : Ok (fa ρ) fun p => Ok (gTru p.1) fun k => if k = true then QE p else Ok (fb p.2) QE) : Ok (dOrV fa fb ρ) QE := by
  refine Ok.bind (h.imp fun p q => Ok.bind (q.imp fun k q => ?_))
  by_cases c : k = true
  · rw [if_pos c] at q ⊢
    exact Ok.ret q
  · rw [if_neg c] at q ⊢
    exact q
theorem w_callB {gf : List D → Res D} (h : Ok (fs ρ) fun p => Ok (gf p.1) fun z => QE (z, p.2)) : Ok (dCallB gf fs ρ) QE := Ok.bind (h.imp fun _ q => Ok.bind (q.imp fun _ q => Ok.ret q))
theorem w_call {as : List AK} {F : Fn} {ga : Ev → Res (List (Option D) × Ev)} (h : Ok (ga ρ) fun p => Ok (fillA p.2 as p.1) fun ds => Ok (F ds) fun r => QE (r.1, putA as r.2 p.2)) : Ok (dCall as F ga ρ) QE :=
  Ok.bind (h.imp fun _ q => Ok.bind (q.imp fun _ q => Ok.bind (q.imp fun _ q => Ok.ret q)))
theorem w_anil {QA : List (Option D) × Ev → Prop} (h : QA ([], ρ)) : Ok (aNil ρ) QA := Ok.ret h
theorem w_as {ga : Ev → Res (List (Option D) × Ev)} {QA : List (Option D) × Ev → Prop} (h : Ok (fe ρ) fun p => Ok (ga p.2) fun r => QA (some p.1 :: r.1, r.2)) : Ok (aS fe ga ρ) QA := Ok.bind (h.imp fun _ q => Ok.bind (q.imp fun _ q => Ok.ret q))
theorem w_aio {ga : Ev → Res (List (Option D) × Ev)} {QA : List (Option D) × Ev → Prop} {d : D} (h0 : ρ[i]? = some (some d)) (h : Ok (ga ρ) fun r => QA (none :: r.1, r.2)) : Ok (aIO i ga ρ) QA := by
  unfold aIO
  rw [h0]
  exact Ok.bind (h.imp fun _ q => Ok.ret q)
theorem w_pop {ds : List D} {d : D} (h0 : ρ[i]? = some (some (.lst ds))) (h1 : ds[ds.length - 1]? = some d) (h : QE (d, ρ.set i (some (.lst ds.dropLast)))) : Ok (dPop i ρ) QE := by
  refine ⟨_, ?_, h⟩
  unfold dPop
  rw [h0]
  dsimp only
  rw [h1]
theorem w_tname {d : D} {QV : Ev → Prop} (h : QV (ρ.set i (some d))) : Ok (gtName i d ρ) QV := Ok.ret h
theorem w_sl {gs : D → Option Int → Option Int → Res D} {l u : Ev → Res (Option Int × Ev)} (h : Ok (fe ρ) fun p => Ok (l p.2) fun a => Ok (u a.2) fun b => Ok (gs p.1 a.1 b.1) fun z => QE (z, b.2)) : Ok (dSl gs fe l u ρ) QE :=
  Ok.bind (h.imp fun _ q => Ok.bind (q.imp fun _ q => Ok.bind (q.imp fun _ q => Ok.bind (q.imp fun _ q => Ok.ret q))))
theorem w_nopart {QO : Option Int × Ev → Prop} (h : QO (none, ρ)) : Ok (dNoPart ρ) QO := Ok.ret h
theorem w_part {QO : Option Int × Ev → Prop} (h : Ok (fe ρ) fun p => ∃ n, p.1 = .int n ∧ QO (some n, p.2)) : Ok (dPart fe ρ) QO := by
  refine Ok.bind (h.imp fun p ⟨n, e, q⟩ => ?_)
  rw [e]
  exact Ok.ret q
/-! loops -/
theorem w_for {fi : Ev → Res (List D × Ev)} {gt : D → Ev → Res Ev} (h : Ok (fi ρ) fun p => Ok (sLoop gt f p.1 p.2) Q) : Ok (sFor fi gt f ρ) Q := Ok.bind h
/-- an invariant I over the items still to come and the state -/
theorem w_loop {gt : D → Ev → Res Ev} (I : List D → Ev → Prop) (hs : ∀ d ds ρ, I (d :: ds) ρ → Ok (gt d ρ) fun ρ1 => Ok (f ρ1) fun fl => match fl with
    | .nx ρ2 => I ds ρ2
    | .ct ρ2 => I ds ρ2
    | .bk ρ2 => Q (.nx ρ2)
    | .rt d ρ2 => Q (.rt d ρ2)) (he : ∀ ρ, I [] ρ → Q (.nx ρ)) : ∀ (ds : List D) (ρ : Ev), I ds ρ → Ok (sLoop gt f ds ρ) Q
  | [], ρ, h => Ok.ret (he ρ h)
  | d :: ds, ρ, h => by
    refine Ok.bind ((hs d ds ρ h).imp fun ρ1 q => Ok.bind (q.imp fun fl q => ?_))
    cases fl with
    | nx ρ2 => exact w_loop I hs he ds ρ2 q
    | ct ρ2 => exact w_loop I hs he ds ρ2 q
    | bk ρ2 => exact Ok.ret q
    | rt d ρ2 => exact Ok.ret q
theorem w_while (I : Nat → Ev → Prop) (hs : ∀ n ρ, I n ρ → Ok (ft ρ) fun p => if p.1 = true then Ok (f p.2) fun fl => match fl with
    | .nx ρ2 => ∃ m, m < n ∧ I m ρ2
    | .ct ρ2 => ∃ m, m < n ∧ I m ρ2
    | .bk ρ2 => Q (.nx ρ2)
    | .rt d ρ2 => Q (.rt d ρ2) else Q (.nx p.2)) : ∀ (n : Nat) (ρ : Ev), I n ρ → Ok (sWhile ft f ρ) Q := by
  intro n
  induction n using Nat.strongRecOn with
  | _ n ih =>
    intro ρ h
    obtain ⟨⟨k, ρ1⟩, e1, q⟩ := hs n ρ h
    cases k with
    | false =>
      rw [if_neg Bool.false_ne_true] at q
      exact ⟨_, sWhile_step e1 (fun _ => rfl) (fun z => nomatch z), q⟩
    | true =>
      rw [if_pos rfl] at q
      obtain ⟨fl, e2, q⟩ := q
      cases fl with
      | nx ρ2 =>
        obtain ⟨m, hm, hi⟩ := q
        obtain ⟨r, e3, q3⟩ := ih m hm ρ2 hi
        exact ⟨r, sWhile_step e1 (fun z => nomatch z) (fun _ => ⟨_, e2, e3⟩), q3⟩
      | ct ρ2 =>
        obtain ⟨m, hm, hi⟩ := q
        obtain ⟨r, e3, q3⟩ := ih m hm ρ2 hi
        exact ⟨r, sWhile_step e1 (fun z => nomatch z) (fun _ => ⟨_, e2, e3⟩), q3⟩
      | bk ρ2 => exact ⟨_, sWhile_step e1 (fun z => nomatch z) (fun _ => ⟨_, e2, rfl⟩), q⟩
      | rt d ρ2 => exact ⟨_, sWhile_step e1 (fun z => nomatch z) (fun _ => ⟨_, e2, rfl⟩), q⟩
theorem w_rng1 (h : Ok (fe ρ) fun p => ∃ n : Int, p.1 = .int n ∧ n < 2 ^ 62 ∧ -(2 ^ 62) ≤ n ∧ QS (rgD 0 n, p.2)) : Ok (dRng1 fe ρ) QS := by
  refine Ok.bind (h.imp fun p ⟨n, e, h1, h2, q⟩ => ?_)
  rw [e]
  exact Ok.iteT ⟨by decide, by decide, h2, h1⟩ (Ok.ret q)
theorem w_seqI (h : Ok (fe ρ) fun p => ∃ ds, seqOf p.1 = some ds ∧ QS (ds, p.2)) : Ok (dSeqI fe ρ) QS := by
  refine Ok.bind (h.imp fun p ⟨ds, e, q⟩ => ?_)
  rw [e]
  exact Ok.ret q
theorem w_zip (h : Ok (fs ρ) fun p => ∃ xs ys, p.1 = [.tup xs, .tup ys] ∧ QS (pairD xs ys, p.2)) : Ok (dZip fs ρ) QS := by
  refine Ok.bind (h.imp fun p ⟨xs, ys, e, q⟩ => ?_)
  rw [e]
  exact Ok.ret q
theorem w_comp {fi : Ev → Res (List D × Ev)} {vs : List Nat} {gt : D → Ev → Res Ev} (h : Ok (fi ρ) fun p => p.1.length ≤ 16777216 ∧ Ok (cLoop vs gt ft fe p.1 (wipeE p.2 vs)) fun r => QE (.lst r.1, restE r.2 p.2 vs)) : Ok (dComp fi vs gt ft fe ρ) QE :=
  Ok.bind (h.imp fun _ q => Ok.iteT q.1 (Ok.bind (q.2.imp fun _ q => Ok.ret q)))
/-- a comprehension with a state: I of the items to come, what is made so far, the state -/
theorem w_cloop {vs : List Nat} {gt : D → Ev → Res Ev} {QL : List D × Ev → Prop} (I : List D → List D → Ev → Prop) (hs : ∀ d ds acc ρ, I (d :: ds) acc ρ → Ok (gt d ρ) fun ρ1 => Ok (ft ρ1) fun p => if p.1 = true then Ok (fe p.2) fun r => I ds (acc ++ [r.1]) (wipeE r.2 vs) else I ds acc (wipeE p.2 vs))
    (he : ∀ acc ρ, I [] acc ρ → QL (acc, ρ)) {ds : List D} {ρ : Ev} (h : I ds [] ρ) : Ok (cLoop vs gt ft fe ds ρ) QL := by
  have go : ∀ (ds : List D) (acc : List D) (ρ : Ev), I ds acc ρ → Ok (cLoop vs gt ft fe ds ρ) fun r => I [] (acc ++ r.1) r.2 := by
    intro ds
    induction ds with
    | nil => intro acc ρ h; exact Ok.ret (by rw [List.append_nil]; exact h)
    | cons d ds ih =>
      intro acc ρ h
      refine Ok.bind ((hs d ds acc ρ h).imp fun ρ1 q => Ok.bind (q.imp fun p q => ?_))
      by_cases c : p.1 = true
      · rw [if_pos c] at q ⊢
        refine Ok.bind (q.imp fun r q => Ok.bind ((ih _ _ q).imp fun s q => Ok.ret ?_))
        rw [List.append_assoc] at q
        exact q
      · rw [if_neg c] at q ⊢
        exact ih acc _ q
  exact (go ds [] ρ h).imp fun r q => he _ _ q
/-- .. each item by itself, the state as it is -/
theorem w_cmap {vs : List Nat} {gt : D → Ev → Res Ev} {QL : List D × Ev → Prop} (hm : D → D) {ds : List D} {ρ : Ev} (hs : ∀ d ∈ ds, Ok (gt d ρ) fun ρ1 => Ok (ft ρ1) fun p => p.1 = true ∧ Ok (fe p.2) fun r => r.1 = hm d ∧ wipeE r.2 vs = ρ) (he : QL (ds.map hm, ρ)) : Ok (cLoop vs gt ft fe ds ρ) QL := by
  refine Ok.imp (P := fun r => r = (ds.map hm, ρ)) ?_ fun r e => e ▸ he
  clear he
  induction ds with
  | nil => exact Ok.ret rfl
  | cons d ds ih =>
    refine Ok.bind ((hs d List.mem_cons_self).imp fun ρ1 q => Ok.bind (q.imp fun p q => ?_))
    rw [if_pos q.1]
    refine Ok.bind (q.2.imp fun r q => ?_)
    rw [q.2]
    refine Ok.bind ((ih fun e he => hs e (List.mem_cons_of_mem _ he)).imp fun s e => Ok.ret ?_)
    rw [e, q.1]
    rfl
end
theorem gMul_r {i j : Int} {Q : D → Prop} (h1 : -(2 ^ 64) < j) (h2 : j < 2 ^ 64) (q : Q (.int (i * j))) : Ok (gMul (.int i) (.int j)) Q := Ok.iteT (.inl (.inr ⟨h1, h2⟩)) (Ok.ret q)
theorem gMul_l {i j : Int} {Q : D → Prop} (h1 : -(2 ^ 64) < i) (h2 : i < 2 ^ 64) (q : Q (.int (i * j))) : Ok (gMul (.int i) (.int j)) Q := Ok.iteT (.inl (.inl ⟨h1, h2⟩)) (Ok.ret q)
theorem gMod_p {i j : Int} {Q : D → Prop} (h : 0 < j) (q : Q (.int (i % j))) : Ok (gMod (.int i) (.int j)) Q := Ok.iteT h (Ok.ret q)
theorem gFdiv_p {i j : Int} {Q : D → Prop} (h : CDivW i j) (q : Q (.int (i / j))) : Ok (gFdiv (.int i) (.int j)) Q := Ok.iteT h (Ok.ret q)
theorem gPow_p {i j : Int} {Q : D → Prop} (h : CPow i j) (q : Q (.int (i ^ j.toNat))) : Ok (gPow (.int i) (.int j)) Q := Ok.iteT h (Ok.ret q)
theorem gShl_p {i j : Int} {Q : D → Prop} (h : CPow i j) (q : Q (.int (i * 2 ^ j.toNat))) : Ok (gShl (.int i) (.int j)) Q := Ok.iteT h (Ok.ret q)
theorem gIx_l {ds : List D} {i : Int} {d : D} {Q : D → Prop} (h : atI ds i = some d) (q : Q d) : Ok (gIx (.lst ds) (.int i)) Q := ⟨d, by unfold gIx; dsimp only; rw [h], q⟩
theorem gIx_t {ds : List D} {i : Int} {d : D} {Q : D → Prop} (h : atI ds i = some d) (q : Q d) : Ok (gIx (.tup ds) (.int i)) Q := ⟨d, by unfold gIx; dsimp only; rw [h], q⟩
theorem atI_in {α : Type} {xs : List α} {i : Int} (h0 : 0 ≤ i) (h1 : i < xs.length) : ∃ d, xs[i.toNat]? = some d ∧ atI xs i = some d := by
  have hj : i.toNat < xs.length := by omega
  refine ⟨xs[i.toNat], List.getElem?_eq_getElem hj, ?_⟩
  have e := atI_nat (j := i.toNat) (List.getElem?_eq_getElem hj)
  rw [show ((i.toNat : Nat) : Int) = i by omega] at e
  exact e
section
variable {i j : Int} {Q : D → Prop} {QB : Bool → Prop} {x y : PySem.Str} {b k : Bool} {ds : List D}
theorem g_add (q : Q (.int (i + j))) : Ok (gAdd (.int i) (.int j)) Q := Ok.ret q
theorem g_sub (q : Q (.int (i - j))) : Ok (gSub (.int i) (.int j)) Q := Ok.ret q
theorem g_neg (q : Q (.int (-i))) : Ok (gNeg (.int i)) Q := Ok.ret q
theorem g_lt (q : Q (.bl (decide (i < j)))) : Ok (gLt (.int i) (.int j)) Q := Ok.ret q
theorem g_le (q : Q (.bl (decide (i ≤ j)))) : Ok (gLe (.int i) (.int j)) Q := Ok.ret q
theorem g_gt (q : Q (.bl (decide (j < i)))) : Ok (gGt (.int i) (.int j)) Q := Ok.ret q
theorem g_ge (q : Q (.bl (decide (j ≤ i)))) : Ok (gGe (.int i) (.int j)) Q := Ok.ret q
theorem g_eqi (q : Q (.bl (decide (i = j)))) : Ok (gEq (.int i) (.int j)) Q := Ok.ret q
theorem g_nei (q : Q (.bl (!decide (i = j)))) : Ok (gNe (.int i) (.int j)) Q := Ok.ret q
theorem g_int (q : Q (.int i)) : Ok (gIntOf [.int i]) Q := Ok.ret q
theorem g_abs (q : Q (.int (if i < 0 then -i else i))) : Ok (gAbs [.int i]) Q := Ok.ret q
theorem g_lenL (q : Q (.int ds.length)) : Ok (gLen [.lst ds]) Q := Ok.ret q
theorem g_lenT (q : Q (.int ds.length)) : Ok (gLen [.tup ds]) Q := Ok.ret q
theorem g_trub (q : QB b) : Ok (gTru (.bl b)) QB := Ok.ret q
theorem g_tupL (q : Q (.tup ds)) : Ok (gTupOf [.lst ds]) Q := Ok.ret q
theorem g_tupT (q : Q (.tup ds)) : Ok (gTupOf [.tup ds]) Q := Ok.ret q
end
theorem itNT {P Q : Prop} (h : Q) : if (!true) = true then P else Q := h
theorem itNF {P Q : Prop} (h : P) : if (!false) = true then P else Q := h
theorem ne_refl {d : D} (h : eqS d d = some true) {Q : D → Prop} (q : Q (.bl false)) : Ok (gNe d d) Q := ⟨.bl false, by unfold gNe eqD; rw [h]; rfl, q⟩
theorem gNe_ii {i : Int} {Q : D → Prop} (q : Q (.bl false)) : Ok (gNe (.int i) (.int i)) Q := ne_refl (by show some (decide (i = i)) = _; rw [decide_eq_true rfl]) q
theorem gNe_bb {i : Bool} {Q : D → Prop} (q : Q (.bl false)) : Ok (gNe (.bl i) (.bl i)) Q := ne_refl (by show some (decide (i = i)) = _; rw [decide_eq_true rfl]) q
theorem gNe_ss {i : PySem.Str} {Q : D → Prop} (q : Q (.bl false)) : Ok (gNe (.str i) (.str i)) Q := ne_refl (by show some (decide (i = i)) = _; rw [decide_eq_true rfl]) q
theorem gIx_t0 {d : D} {ds : List D} {Q : D → Prop} (q : Q d) : Ok (gIx (.tup (d :: ds)) (.int 0)) Q := gIx_t (atI_nat (j := 0) rfl) q
theorem gIx_l0 {d : D} {ds : List D} {Q : D → Prop} (q : Q d) : Ok (gIx (.lst (d :: ds)) (.int 0)) Q := gIx_l (atI_nat (j := 0) rfl) q
end DL
/-! pure rules of the later parts -/
namespace DL
open PySem PySem.Spec PyProof.Rows L2
section
variable {ρ : Ev} {f g : Ev → Res Fl} {fe fa fb : Ev → Res (D × Ev)} {fs : Ev → Res (List D × Ev)} {ft fu : Ev → Res (Bool × Ev)} {Q : Fl → Prop} {QE : D × Ev → Prop} {QS : List D × Ev → Prop} {i k l : Nat}
theorem w_callL {a : Addr} {as : List AK} {F : Fn} {ga : Ev → Res (List (Option D) × Ev)} (h0 : ρ[i]? = some (some (.fn a))) (h : Ok (dCall as F ga ρ) QE) : Ok (dCallL i a as F ga ρ) QE := by
  unfold dCallL
  rw [h0]
  exact Ok.iteT rfl h
theorem w_frz (h : Ok (f ρ) fun fl => Q (fl.un i)) : Ok (sFrz i f ρ) Q := Ok.bind (h.imp fun _ q => Ok.ret q)
theorem w_setN (h : Ok (fe ρ) fun p => p.1.isL = false ∧ Q (.nx (p.2.set i (some p.1)))) : Ok (sSetN i fe ρ) Q := Ok.bind (h.imp fun p q => Ok.iteT q.1 (Ok.ret q.2))
theorem w_putO (h : Ok (fe ρ) fun p => p.1.isL = false ∧ ∃ ds, p.2[i]? = some (some (.lst ds)) ∧ k < ds.length ∧ Q (.nx (p.2.set i (some (.lst (ds.set k p.1)))))) : Ok (sPutO i k fe ρ) Q := by
  refine Ok.bind (h.imp fun p ⟨h1, ds, h2, h3, q⟩ => Ok.iteT h1 ?_)
  rw [h2]
  exact Ok.iteT h3 (Ok.ret q)
theorem w_put2 (h : Ok (fe ρ) fun p => ∃ ds es, p.2[i]? = some (some (.lst ds)) ∧ ds[k]? = some (.lst es) ∧ l < es.length ∧ Q (.nx (p.2.set i (some (.lst (ds.set k (.lst (es.set l p.1)))))))) : Ok (sPut2 i k l fe ρ) Q := by
  refine Ok.bind (h.imp fun p ⟨ds, es, h1, h2, h3, q⟩ => ?_)
  rw [h1]
  dsimp only
  rw [h2]
  exact Ok.iteT h3 (Ok.ret q)
theorem w_pop2 {ds es : List D} {d : D} (h1 : ρ[i]? = some (some (.lst ds))) (h2 : ds[k]? = some (.lst es)) (h3 : es[l]? = some d) (h : QE (d, ρ.set i (some (.lst (ds.set k (.lst (es.eraseIdx l))))))) : Ok (dPop2 i k l ρ) QE := by
  refine ⟨_, ?_, h⟩
  unfold dPop2
  rw [h1]
  dsimp only
  rw [h2]
  dsimp only
  rw [h3]
theorem w_enum (h : Ok (fs ρ) fun p => ∃ d xs, p.1 = [d] ∧ seqOf d = some xs ∧ QS (enumD xs, p.2)) : Ok (dEnum fs ρ) QS := by
  refine Ok.bind (h.imp fun p ⟨d, xs, e, e2, q⟩ => ?_)
  rw [e]
  dsimp only
  rw [e2]
  exact Ok.ret q
theorem w_consN (h : Ok (fe ρ) fun p => p.1.isL = false ∧ Ok (fs p.2) fun r => QS (p.1 :: r.1, r.2)) : Ok (dConsN fe fs ρ) QS := Ok.bind (h.imp fun _ q => Ok.iteT q.1 (Ok.bind (q.2.imp fun _ q => Ok.ret q)))
theorem g_not {b : Bool} {Q : D → Prop} (q : Q (.bl (!b))) : Ok (gNot (.bl b)) Q := Ok.ret q
end
end DL
namespace K15
open PySem PySem.Spec PyProof.Rows L2 DL
def topS (i : Nat) : Stmt := PySem.Challenge.pw_neveroverdrawn_k15_tabletools.main.body.getD i (.Pass ⟨0, 0, 0, 0⟩)
/-- what the top has written -/
structure Top (K : PySem.W.Frag) (mg : Str → Option Value) : Prop where
  f_low_sum : Src K mg "low_sum" (topS 1) ["one", "other"]
  f_low_rank : Src K mg "low_rank" (topS 2) ["low"]
  f_low_less : Src K mg "low_less" (topS 3) ["one", "other"]
  f_least_low : Src K mg "least_low" (topS 4) ["lows"]
  f_low_times : Src K mg "low_times" (topS 5) ["low", "many"]
  f_need_less : Src K mg "need_less" (topS 6) ["one", "other"]
  f_greatest_need : Src K mg "greatest_need" (topS 7) ["needs"]
  f_need_behind : Src K mg "need_behind" (topS 8) ["need", "low"]
  f_joined_pair : Src K mg "joined_pair" (topS 10) ["one", "other"]
  f_lesser_pair : Src K mg "lesser_pair" (topS 11) ["one", "other"]
  f_paired_rows : Src K mg "paired_rows" (topS 12) ["one", "other", "join"]
  f_joined_tables : Src K mg "joined_tables" (topS 13) ["one", "other"]
  f_lesser_table : Src K mg "lesser_table" (topS 14) ["one", "other"]
  f_pair_less : Src K mg "pair_less" (topS 15) ["one", "other"]
  f_table_less : Src K mg "table_less" (topS 16) ["one", "other"]
  f_change_need : Src K mg "change_need" (topS 18) ["change", "purse"]
  f_either_figures : Src K mg "either_figures" (topS 19) ["table", "bodies", "purse"]
  f_loop_figures : Src K mg "loop_figures" (topS 20) ["table", "body", "purse"]
  f_least_ahead : Src K mg "least_ahead" (topS 21) ["low", "many"]
  f_counted_figures : Src K mg "counted_figures" (topS 22) ["table", "statement", "purse"]
  f_need_behind_or_more : Src K mg "need_behind_or_more" (topS 23) ["need", "ahead"]
  f_statement_figures : Src K mg "statement_figures" (topS 24) ["table", "statement", "purse"]
  f_body_figures : Src K mg "body_figures" (topS 25) ["table", "body", "purse"]
  f_is_integer : Src K mg "is_integer" (topS 27) ["thing"]
  f_is_number : Src K mg "is_number" (topS 28) ["thing"]
  f_is_tuple : Src K mg "is_tuple" (topS 29) ["thing", "many"]
  f_is_need : Src K mg "is_need" (topS 32) ["thing"]
  f_is_low : Src K mg "is_low" (topS 33) ["thing"]
  f_is_pair : Src K mg "is_pair" (topS 34) ["thing"]
  f_table_fault : Src K mg "table_fault" (topS 35) ["program", "thing"]
  f_is_kept : Src K mg "is_kept" (topS 36) ["program", "table", "procedure", "purse"]
  f_open_pairs : Src K mg "open_pairs" (topS 37) ["program", "table"]
  f_is_closed : Src K mg "is_closed" (topS 38) ["program", "thing"]
  f__law_jar : Src K mg "_law_jar" (topS 40) ["script"]
  f__law_take : Src K mg "_law_take" (topS 41) ["jar", "many"]
  f__law_same : Src K mg "_law_same" (topS 42) ["told", "due"]
  f__law_need : Src K mg "_law_need" (topS 43) ["jar", "most"]
  f__law_low : Src K mg "_law_low" (topS 44) ["jar", "most"]
  f__law_table : Src K mg "_law_table" (topS 45) ["jar", "names", "purses", "most"]
  f__law_rank : Src K mg "_law_rank" (topS 46) ["one"]
  f__law_above : Src K mg "_law_above" (topS 47) ["one", "other"]
  f__law_joined : Src K mg "_law_joined" (topS 48) ["one", "other", "more"]
  f__law_less : Src K mg "_law_less" (topS 49) ["one", "other"]
  f__law_near : Src K mg "_law_near" (topS 50) ["jar", "table", "most"]
  f__law_asked : Src K mg "_law_asked" (topS 51) ["one", "other"]
  f__law_closed : Src K mg "_law_closed" (topS 52) ["jar"]
  f_law : Src K mg "law" (topS 53) ["script"]
  g_SIZE_MOST : ∃ u, mg "SIZE_MOST" = some u ∧ RelV (.int 1000000000000000000000000000000000000000000000000000000000000) u
  b_abs : mg "abs" = none
  b_all : mg "all" = none
  b_bool : mg "bool" = none
  b_enumerate : mg "enumerate" = none
  b_int : mg "int" = none
  b_isinstance : mg "isinstance" = none
  b_len : mg "len" = none
  b_list : mg "list" = none
  b_max : mg "max" = none
  b_min : mg "min" = none
  b_range : mg "range" = none
  b_str : mg "str" = none
  b_sum : mg "sum" = none
  b_tuple : mg "tuple" = none
  b_zip : mg "zip" = none
section
variable {P : Program} {w : World} {K : PySem.W.Frag} {mg : Str → Option Value} {base : Heap}
noncomputable def F_low_sum : Fn := mkF 2 [0, 0] none
  ((sSeq (sIf (dBool (dOp (gIn false) (dConst (.str "never")) (dTup (dCons (dVar 0) (dCons (dVar 1) dNil)))))
  (sRet (dConst (.str "never")))
  sNil)
  (sRet (dIf (dBool (dOp (gIn false) (dConst (.str "deep")) (dTup (dCons (dVar 0) (dCons (dVar 1) dNil))))) (dConst (.str "deep")) (dOp gAdd (dVar 0) (dVar 1))))))
theorem sc_low_sum : FnScope ["one", "other"] ["one", "other"] (defScope (topS 1)) := ⟨rfl, rfl, rfl, by decide +kernel, rfl, by decide +kernel, by decide +kernel⟩
theorem ok_low_sum (T : Top K mg) {f : Addr} {fd : FuncData} (h2 : Fun K "low_sum" "low_sum" (topS 1) f fd) : FnOk P w K mg base CX0 1 f fd ["one", "other"] (spD K [0, 0] none F_low_sum) :=
  fun_ok (lv := [0, 0]) h2 sc_low_sum rfl rfl fun cdv A outer s H H0 vs E M Z hr =>
    (dss_cons (ds_if (t_in de_str (de_tup (das_cons (de_var 0) (das_cons (de_var 1) das_nil (hq := hF)) (hq := hF))) hF rfl)
    (dss_one (ds_ret de_str))
    dss_nil)
    (dss_one (ds_ret (de_if (t_in de_str (de_tup (das_cons (de_var 0) (das_cons (de_var 1) das_nil (hq := hF)) (hq := hF))) hF rfl) de_str (e_add (de_var 0) (de_var 1) hF)))))
theorem d_low_sum (T : Top K mg) : DFn P w K mg base 1 "low_sum" [0, 0] none F_low_sum := by
  obtain ⟨f, fd, h1, h2, h3⟩ := T.f_low_sum
  exact ⟨f, fd, ["one", "other"], h1, h2.kp, .all h3, ok_low_sum T h2⟩
noncomputable def F_low_rank : Fn := mkF 1 [0] none
  ((sSeq (sIf (dBool (dOp gEq (dVar 0) (dConst (.str "deep"))))
  (sRet (dTup (dCons (dConst (.int 0)) (dCons (dConst (.int 0)) dNil))))
  sNil)
  (sRet (dIf (dBool (dOp gEq (dVar 0) (dConst (.str "never")))) (dTup (dCons (dConst (.int 2)) (dCons (dConst (.int 0)) dNil))) (dTup (dCons (dConst (.int 1)) (dCons (dVar 0) dNil)))))))
theorem sc_low_rank : FnScope ["low"] ["low"] (defScope (topS 2)) := ⟨rfl, rfl, rfl, by decide +kernel, rfl, by decide +kernel, by decide +kernel⟩
theorem ok_low_rank (T : Top K mg) {f : Addr} {fd : FuncData} (h2 : Fun K "low_rank" "low_rank" (topS 2) f fd) : FnOk P w K mg base CX0 1 f fd ["low"] (spD K [0] none F_low_rank) :=
  fun_ok (lv := [0]) h2 sc_low_rank rfl rfl fun cdv A outer s H H0 vs E M Z hr =>
    (dss_cons (ds_if (t_eq (de_var 0) de_str hF hr)
    (dss_one (ds_ret (de_tup (das_cons de_int (das_cons de_int das_nil (hq := hF)) (hq := hF)))))
    dss_nil)
    (dss_one (ds_ret (de_if (t_eq (de_var 0) de_str hF hr) (de_tup (das_cons de_int (das_cons de_int das_nil (hq := hF)) (hq := hF))) (de_tup (das_cons de_int (das_cons (de_var 0) das_nil (hq := hF)) (hq := hF)))))))
theorem d_low_rank (T : Top K mg) : DFn P w K mg base 1 "low_rank" [0] none F_low_rank := by
  obtain ⟨f, fd, h1, h2, h3⟩ := T.f_low_rank
  exact ⟨f, fd, ["low"], h1, h2.kp, .all h3, ok_low_rank T h2⟩
noncomputable def F_low_less : Fn := mkF 2 [0, 0] none
  ((sRet (dOp gLt (dCall [.s] F_low_rank (aS (dVar 0) aNil)) (dCall [.s] F_low_rank (aS (dVar 1) aNil)))))
theorem sc_low_less : FnScope ["one", "other"] ["one", "other"] (defScope (topS 3)) := ⟨rfl, rfl, rfl, by decide +kernel, rfl, by decide +kernel, by decide +kernel⟩
theorem ok_low_less (T : Top K mg) {f : Addr} {fd : FuncData} (h2 : Fun K "low_less" "low_less" (topS 3) f fd) : FnOk P w K mg base CX0 2 f fd ["one", "other"] (spD K [0, 0] none F_low_less) :=
  fun_ok (lv := [0, 0]) h2 sc_low_less rfl rfl fun cdv A outer s H H0 vs E M Z hr =>
    (dss_one (ds_ret (e_lt (de_call (d_low_rank T) hr (by decide) (da_s (de_var 0) da_nil)) (de_call (d_low_rank T) hr (by decide) (da_s (de_var 1) da_nil)) hF hr)))
theorem d_low_less (T : Top K mg) : DFn P w K mg base 2 "low_less" [0, 0] none F_low_less := by
  obtain ⟨f, fd, h1, h2, h3⟩ := T.f_low_less
  exact ⟨f, fd, ["one", "other"], h1, h2.kp, .all h3, ok_low_less T h2⟩
noncomputable def F_least_low : Fn := mkF 3 [0] none
  ((sSeq (sSet 1 (dOp gIx (dVar 0) (dConst (.int 0))))
  (sSeq (sFor (dSeqI (dVar 0)) (gtName 2)
  (sIf (dTru (dCall [.s, .s] F_low_less (aS (dVar 2) (aS (dVar 1) aNil))))
  (sSet 1 (dVar 2))
  sNil))
  (sRet (dVar 1)))))
theorem sc_least_low : FnScope ["lows", "best", "low"] ["lows"] (defScope (topS 4)) := ⟨rfl, rfl, rfl, by decide +kernel, rfl, by decide +kernel, by decide +kernel⟩
theorem ok_least_low (T : Top K mg) {f : Addr} {fd : FuncData} (h2 : Fun K "least_low" "least_low" (topS 4) f fd) : FnOk P w K mg base CX0 3 f fd ["lows"] (spD K [0] none F_least_low) :=
  fun_ok (lv := [0, 0, 0]) h2 sc_least_low rfl rfl fun cdv A outer s H H0 vs E M Z hr =>
    (dss_cons (ds_set 1 sc_least_low.nd (e_ix (de_var 0) de_int hF))
    (dss_cons (ds_for PassesOwn.never rfl (di_seq (de_var 0)) (dg_name 2 sc_least_low.nd)
    (dss_one (ds_if (dt_tru (b := false) (de_call (d_low_less T) hr (by decide) (da_s (de_var 2) (da_s (de_var 1) da_nil))))
    (dss_one (ds_set 1 sc_least_low.nd (de_var 2)))
    dss_nil)))
    (dss_one (ds_ret (de_var 1)))))
theorem d_least_low (T : Top K mg) : DFn P w K mg base 3 "least_low" [0] none F_least_low := by
  obtain ⟨f, fd, h1, h2, h3⟩ := T.f_least_low
  exact ⟨f, fd, ["lows"], h1, h2.kp, .all h3, ok_least_low T h2⟩
noncomputable def F_low_times : Fn := mkF 2 [0, 0] none
  ((sSeq (sIf (dBool (dOp gEq (dVar 1) (dConst (.int 0))))
  (sRet (dConst (.int 0)))
  sNil)
  (sRet (dIf (dBool (dOp (gIn false) (dVar 0) (dTup (dCons (dConst (.str "never")) (dCons (dConst (.str "deep")) dNil))))) (dVar 0) (dOp gMul (dVar 0) (dVar 1))))))
theorem sc_low_times : FnScope ["low", "many"] ["low", "many"] (defScope (topS 5)) := ⟨rfl, rfl, rfl, by decide +kernel, rfl, by decide +kernel, by decide +kernel⟩
theorem ok_low_times (T : Top K mg) {f : Addr} {fd : FuncData} (h2 : Fun K "low_times" "low_times" (topS 5) f fd) : FnOk P w K mg base CX0 1 f fd ["low", "many"] (spD K [0, 0] none F_low_times) :=
  fun_ok (lv := [0, 0]) h2 sc_low_times rfl rfl fun cdv A outer s H H0 vs E M Z hr =>
    (dss_cons (ds_if (t_eq (de_var 1) de_int hF hr)
    (dss_one (ds_ret de_int))
    dss_nil)
    (dss_one (ds_ret (de_if (t_in (de_var 0) (de_tup (das_cons de_str (das_cons de_str das_nil (hq := hF)) (hq := hF))) hF rfl) (de_var 0) (e_mul (de_var 0) (de_var 1) hF)))))
theorem d_low_times (T : Top K mg) : DFn P w K mg base 1 "low_times" [0, 0] none F_low_times := by
  obtain ⟨f, fd, h1, h2, h3⟩ := T.f_low_times
  exact ⟨f, fd, ["low", "many"], h1, h2.kp, .all h3, ok_low_times T h2⟩
noncomputable def F_need_less : Fn := mkF 2 [0, 0] none
  ((sSeq (sIf (dBool (dOp gEq (dVar 0) (dConst (.str "deep"))))
  (sRet (dConst (.bl false)))
  sNil)
  (sRet (dOrV (dOp gEq (dVar 1) (dConst (.str "deep"))) (dOp gLt (dVar 0) (dVar 1))))))
theorem sc_need_less : FnScope ["one", "other"] ["one", "other"] (defScope (topS 6)) := ⟨rfl, rfl, rfl, by decide +kernel, rfl, by decide +kernel, by decide +kernel⟩
theorem ok_need_less (T : Top K mg) {f : Addr} {fd : FuncData} (h2 : Fun K "need_less" "need_less" (topS 6) f fd) : FnOk P w K mg base CX0 1 f fd ["one", "other"] (spD K [0, 0] none F_need_less) :=
  fun_ok (lv := [0, 0]) h2 sc_need_less rfl rfl fun cdv A outer s H H0 vs E M Z hr =>
    (dss_cons (ds_if (t_eq (de_var 0) de_str hF hr)
    (dss_one (ds_ret de_bl))
    dss_nil)
    (dss_one (ds_ret (de_or (e_eq (de_var 1) de_str hF hr) (de_one (e_lt (de_var 0) (de_var 1) hF hr))))))
theorem d_need_less (T : Top K mg) : DFn P w K mg base 1 "need_less" [0, 0] none F_need_less := by
  obtain ⟨f, fd, h1, h2, h3⟩ := T.f_need_less
  exact ⟨f, fd, ["one", "other"], h1, h2.kp, .all h3, ok_need_less T h2⟩
noncomputable def F_greatest_need : Fn := mkF 3 [0] none
  ((sSeq (sSet 1 (dOp gIx (dVar 0) (dConst (.int 0))))
  (sSeq (sFor (dSeqI (dVar 0)) (gtName 2)
  (sIf (dTru (dCall [.s, .s] F_need_less (aS (dVar 1) (aS (dVar 2) aNil))))
  (sSet 1 (dVar 2))
  sNil))
  (sRet (dVar 1)))))
theorem sc_greatest_need : FnScope ["needs", "best", "need"] ["needs"] (defScope (topS 7)) := ⟨rfl, rfl, rfl, by decide +kernel, rfl, by decide +kernel, by decide +kernel⟩
theorem ok_greatest_need (T : Top K mg) {f : Addr} {fd : FuncData} (h2 : Fun K "greatest_need" "greatest_need" (topS 7) f fd) : FnOk P w K mg base CX0 2 f fd ["needs"] (spD K [0] none F_greatest_need) :=
  fun_ok (lv := [0, 0, 0]) h2 sc_greatest_need rfl rfl fun cdv A outer s H H0 vs E M Z hr =>
    (dss_cons (ds_set 1 sc_greatest_need.nd (e_ix (de_var 0) de_int hF))
    (dss_cons (ds_for PassesOwn.never rfl (di_seq (de_var 0)) (dg_name 2 sc_greatest_need.nd)
    (dss_one (ds_if (dt_tru (b := false) (de_call (d_need_less T) hr (by decide) (da_s (de_var 1) (da_s (de_var 2) da_nil))))
    (dss_one (ds_set 1 sc_greatest_need.nd (de_var 2)))
    dss_nil)))
    (dss_one (ds_ret (de_var 1)))))
theorem d_greatest_need (T : Top K mg) : DFn P w K mg base 2 "greatest_need" [0] none F_greatest_need := by
  obtain ⟨f, fd, h1, h2, h3⟩ := T.f_greatest_need
  exact ⟨f, fd, ["needs"], h1, h2.kp, .all h3, ok_greatest_need T h2⟩
noncomputable def F_need_behind : Fn := mkF 2 [0, 0] none
  ((sSeq (sIf (dBool (dOp gEq (dVar 1) (dConst (.str "never"))))
  (sRet (dConst (.int 0)))
  sNil)
  (sSeq (sIf (dOr (dBool (dOp gEq (dVar 0) (dConst (.str "deep")))) (dBool (dOp gEq (dVar 1) (dConst (.str "deep")))))
  (sRet (dConst (.str "deep")))
  sNil)
  (sRet (dCallB gMax2 (dCons (dConst (.int 0)) (dCons (dOp gSub (dVar 0) (dVar 1)) dNil)))))))
theorem sc_need_behind : FnScope ["need", "low"] ["need", "low"] (defScope (topS 8)) := ⟨rfl, rfl, rfl, by decide +kernel, rfl, by decide +kernel, by decide +kernel⟩
theorem ok_need_behind (T : Top K mg) {f : Addr} {fd : FuncData} (h2 : Fun K "need_behind" "need_behind" (topS 8) f fd) : FnOk P w K mg base CX0 1 f fd ["need", "low"] (spD K [0, 0] none F_need_behind) :=
  fun_ok (lv := [0, 0]) h2 sc_need_behind rfl rfl fun cdv A outer s H H0 vs E M Z hr =>
    (dss_cons (ds_if (t_eq (de_var 1) de_str hF hr)
    (dss_one (ds_ret de_int))
    dss_nil)
    (dss_cons (ds_if (dw_dt (dw_or (t_eq (de_var 0) de_str hF hr) (dw_or1 (t_eq (de_var 1) de_str hF hr))))
    (dss_one (ds_ret de_str))
    dss_nil)
    (dss_one (ds_ret (de_callB (call_max2 rfl) c_max2 T.b_max (by decide +kernel) (das_cons de_int (das_cons (e_sub (de_var 0) (de_var 1) hF) das_nil (hq := hF)) (hq := hF)))))))
theorem d_need_behind (T : Top K mg) : DFn P w K mg base 1 "need_behind" [0, 0] none F_need_behind := by
  obtain ⟨f, fd, h1, h2, h3⟩ := T.f_need_behind
  exact ⟨f, fd, ["need", "low"], h1, h2.kp, .all h3, ok_need_behind T h2⟩
noncomputable def F_joined_pair : Fn := mkF 2 [0, 0] none
  ((sRet (dTup (dCons (dCall [.s] F_greatest_need (aS (dTup (dCons (dOp gIx (dVar 0) (dConst (.int 0))) (dCons (dOp gIx (dVar 1) (dConst (.int 0))) dNil))) aNil)) (dCons (dCall [.s] F_least_low (aS (dTup (dCons (dOp gIx (dVar 0) (dConst (.int 1))) (dCons (dOp gIx (dVar 1) (dConst (.int 1))) dNil))) aNil)) dNil)))))
theorem sc_joined_pair : FnScope ["one", "other"] ["one", "other"] (defScope (topS 10)) := ⟨rfl, rfl, rfl, by decide +kernel, rfl, by decide +kernel, by decide +kernel⟩
theorem ok_joined_pair (T : Top K mg) {f : Addr} {fd : FuncData} (h2 : Fun K "joined_pair" "joined_pair" (topS 10) f fd) : FnOk P w K mg base CX0 4 f fd ["one", "other"] (spD K [0, 0] none F_joined_pair) :=
  fun_ok (lv := [0, 0]) h2 sc_joined_pair rfl rfl fun cdv A outer s H H0 vs E M Z hr =>
    (dss_one (ds_ret (de_tup (das_cons (de_call (d_greatest_need T) hr (by decide) (da_s (de_tup (das_cons (e_ix (de_var 0) de_int hF) (das_cons (e_ix (de_var 1) de_int hF) das_nil (hq := hF)) (hq := hF))) da_nil)) (das_cons (de_call (d_least_low T) hr (by decide) (da_s (de_tup (das_cons (e_ix (de_var 0) de_int hF) (das_cons (e_ix (de_var 1) de_int hF) das_nil (hq := hF)) (hq := hF))) da_nil)) das_nil (hq := hF)) (hq := hF)))))
theorem d_joined_pair (T : Top K mg) : DFn P w K mg base 4 "joined_pair" [0, 0] none F_joined_pair := by
  obtain ⟨f, fd, h1, h2, h3⟩ := T.f_joined_pair
  exact ⟨f, fd, ["one", "other"], h1, h2.kp, .all h3, ok_joined_pair T h2⟩
noncomputable def F_lesser_pair : Fn := mkF 3 [0, 0] none
  ((sSeq (sSet 2 (dIf (dTru (dCall [.s, .s] F_need_less (aS (dOp gIx (dVar 0) (dConst (.int 0))) (aS (dOp gIx (dVar 1) (dConst (.int 0))) aNil)))) (dOp gIx (dVar 0) (dConst (.int 0))) (dOp gIx (dVar 1) (dConst (.int 0)))))
  (sRet (dTup (dCons (dVar 2) (dCons (dIf (dTru (dCall [.s, .s] F_low_less (aS (dOp gIx (dVar 0) (dConst (.int 1))) (aS (dOp gIx (dVar 1) (dConst (.int 1))) aNil)))) (dOp gIx (dVar 1) (dConst (.int 1))) (dOp gIx (dVar 0) (dConst (.int 1)))) dNil))))))
theorem sc_lesser_pair : FnScope ["one", "other", "need"] ["one", "other"] (defScope (topS 11)) := ⟨rfl, rfl, rfl, by decide +kernel, rfl, by decide +kernel, by decide +kernel⟩
theorem ok_lesser_pair (T : Top K mg) {f : Addr} {fd : FuncData} (h2 : Fun K "lesser_pair" "lesser_pair" (topS 11) f fd) : FnOk P w K mg base CX0 3 f fd ["one", "other"] (spD K [0, 0] none F_lesser_pair) :=
  fun_ok (lv := [0, 0, 0]) h2 sc_lesser_pair rfl rfl fun cdv A outer s H H0 vs E M Z hr =>
    (dss_cons (ds_set 2 sc_lesser_pair.nd (de_if (dt_tru (b := false) (de_call (d_need_less T) hr (by decide) (da_s (e_ix (de_var 0) de_int hF) (da_s (e_ix (de_var 1) de_int hF) da_nil)))) (e_ix (de_var 0) de_int hF) (e_ix (de_var 1) de_int hF)))
    (dss_one (ds_ret (de_tup (das_cons (de_var 2) (das_cons (de_if (dt_tru (b := false) (de_call (d_low_less T) hr (by decide) (da_s (e_ix (de_var 0) de_int hF) (da_s (e_ix (de_var 1) de_int hF) da_nil)))) (e_ix (de_var 1) de_int hF) (e_ix (de_var 0) de_int hF)) das_nil (hq := hF)) (hq := hF))))))
theorem d_lesser_pair (T : Top K mg) : DFn P w K mg base 3 "lesser_pair" [0, 0] none F_lesser_pair := by
  obtain ⟨f, fd, h1, h2, h3⟩ := T.f_lesser_pair
  exact ⟨f, fd, ["one", "other"], h1, h2.kp, .all h3, ok_lesser_pair T h2⟩
noncomputable def F_paired_rows (a : Addr) (J : Fn) : Fn := mkF 8 [0, 0, 0] none
  ((sSeq (sSet 3 (dLst dNil))
  (sSeq (sFor (dZip (dCons (dVar 0) (dCons (dVar 1) dNil))) (gtTup 2 (gtCons (gtName 4) (gtCons (gtName 5) gtNil)))
  (sApp 3 (dCallB gTupOf (dCons (dComp (dZip (dCons (dVar 4) (dCons (dVar 5) dNil))) [6, 7] (gtTup 2 (gtCons (gtName 6) (gtCons (gtName 7) gtNil))) dYes (dCallL 2 a [.s, .s] J (aS (dVar 6) (aS (dVar 7) aNil)))) dNil))))
  (sRet (dCalm (dCallB gTupOf (dCons (dVar 3) dNil)))))))
theorem sc_paired_rows : FnScope ["one", "other", "join", "rows", "mine", "yours", "pair", "told"] ["one", "other", "join"] (defScope (topS 12)) := ⟨rfl, rfl, rfl, by decide +kernel, rfl, by decide +kernel, by decide +kernel⟩
theorem ok_paired_rows (T : Top K mg) {a : Addr} {J : Fn} (GJ : DAt P w K mg base 4 a [0, 0] J) {f : Addr} {fd : FuncData} (h2 : Fun K "paired_rows" "paired_rows" (topS 12) f fd) : FnOk P w K mg base CX0 5 f fd ["one", "other", "join"] (spD K [0, 0, 0] none (F_paired_rows a J)) :=
  fun_ok (lv := [0, 0, 0, 1, 0, 0, 0, 0]) h2 sc_paired_rows rfl rfl fun cdv A outer s H H0 vs E M Z hr =>
    (dss_cons (ds_new 3 sc_paired_rows.nd (df_lst das_nil))
    (dss_cons (ds_for PassesOwn.never rfl (di_zip T.b_zip (das_cons (de_var 0) (das_cons (de_var 1) das_nil (hq := hF)) (hq := hF))) (dg_tup rfl (dgs_cons (dg_name 4 sc_paired_rows.nd) (dgs_cons (dg_name 5 sc_paired_rows.nd) dgs_nil)))
    (dss_one (ds_app 3 (de_callTy call_tuple_of c_tuple T.b_tuple (by decide +kernel) (das_cons (de_f (df_lc (own := [("pair", 6), ("told", 7)]) rfl sc_paired_rows.nd (di_zip T.b_zip (das_cons (de_var 4) (das_cons (de_var 5) das_nil (hq := hF)) (hq := hF))) (blkOk_by (own := [("pair", 6), ("told", 7)]) (N := ["one", "other", "join", "rows", "mine", "yours", "pair", "told"]) (sc := defScope (topS 12)) (by decide +kernel)) (fun _ _ _ _ _ => (dg_tup rfl (dgs_cons (dg_name 6 sc_paired_rows.nd) (dgs_cons (dg_name 7 sc_paired_rows.nd) dgs_nil)))) (fun _ _ _ _ _ => dts_nil) (fun _ _ _ _ _ => (de_callL 2 GJ hr (by decide) (da_s (de_var 6) (da_s (de_var 7) da_nil)))))) das_nil (hq := hF))))))
    (dss_one (ds_ret (de_q (de_calm (de_callTy call_tuple_of c_tuple T.b_tuple (by decide +kernel) (das_cons (de_bor 3) das_nil (hq := hT)))))))))
theorem d_paired_rows (T : Top K mg) {a : Addr} {J : Fn} (GJ : DAt P w K mg base 4 a [0, 0] J) : DFn P w K mg base 5 "paired_rows" [0, 0, 0] none (F_paired_rows a J) := by
  obtain ⟨f, fd, h1, h2, h3⟩ := T.f_paired_rows
  exact ⟨f, fd, ["one", "other", "join"], h1, h2.kp, .all h3, ok_paired_rows T GJ h2⟩
noncomputable def F_joined_tables (mg : PySem.Str → Option Value) : Fn := mkF 2 [0, 0] none
  ((sRet (dCall [.s, .s, .s] (F_paired_rows (adOf mg "joined_pair") F_joined_pair) (aS (dVar 0) (aS (dVar 1) (aS (dConst (.fn (adOf mg "joined_pair"))) aNil))))))
theorem sc_joined_tables : FnScope ["one", "other"] ["one", "other"] (defScope (topS 13)) := ⟨rfl, rfl, rfl, by decide +kernel, rfl, by decide +kernel, by decide +kernel⟩
theorem ok_joined_tables (T : Top K mg) {f : Addr} {fd : FuncData} (h2 : Fun K "joined_tables" "joined_tables" (topS 13) f fd) : FnOk P w K mg base CX0 6 f fd ["one", "other"] (spD K [0, 0] none (F_joined_tables mg)) :=
  fun_ok (lv := [0, 0]) h2 sc_joined_tables rfl rfl fun cdv A outer s H H0 vs E M Z hr =>
    (dss_one (ds_ret (de_call (d_paired_rows T ((d_joined_pair T).at.mono (by decide))) hr (by decide) (da_s (de_var 0) (da_s (de_var 1) (da_s (de_top (d_joined_pair (P := P) (w := w) (base := base) T).ad) da_nil))))))
theorem d_joined_tables (T : Top K mg) : DFn P w K mg base 6 "joined_tables" [0, 0] none (F_joined_tables mg) := by
  obtain ⟨f, fd, h1, h2, h3⟩ := T.f_joined_tables
  exact ⟨f, fd, ["one", "other"], h1, h2.kp, .all h3, ok_joined_tables T h2⟩
theorem k_joined_tables (T : Top K mg) : DKw P w K mg base 6 "joined_tables" ["one", "other"] [0, 0] (F_joined_tables mg) :=
  dkw T.f_joined_tables (fun f fd h2 => ok_joined_tables T h2) (fun _ _ _ _ _ _ ws hl => match ws, hl with | [_, _], _ => rfl)
noncomputable def F_lesser_table (mg : PySem.Str → Option Value) : Fn := mkF 2 [0, 0] none
  ((sRet (dCall [.s, .s, .s] (F_paired_rows (adOf mg "lesser_pair") F_lesser_pair) (aS (dVar 0) (aS (dVar 1) (aS (dConst (.fn (adOf mg "lesser_pair"))) aNil))))))
theorem sc_lesser_table : FnScope ["one", "other"] ["one", "other"] (defScope (topS 14)) := ⟨rfl, rfl, rfl, by decide +kernel, rfl, by decide +kernel, by decide +kernel⟩
theorem ok_lesser_table (T : Top K mg) {f : Addr} {fd : FuncData} (h2 : Fun K "lesser_table" "lesser_table" (topS 14) f fd) : FnOk P w K mg base CX0 6 f fd ["one", "other"] (spD K [0, 0] none (F_lesser_table mg)) :=
  fun_ok (lv := [0, 0]) h2 sc_lesser_table rfl rfl fun cdv A outer s H H0 vs E M Z hr =>
    (dss_one (ds_ret (de_call (d_paired_rows T ((d_lesser_pair T).at.mono (by decide))) hr (by decide) (da_s (de_var 0) (da_s (de_var 1) (da_s (de_top (d_lesser_pair (P := P) (w := w) (base := base) T).ad) da_nil))))))
theorem d_lesser_table (T : Top K mg) : DFn P w K mg base 6 "lesser_table" [0, 0] none (F_lesser_table mg) := by
  obtain ⟨f, fd, h1, h2, h3⟩ := T.f_lesser_table
  exact ⟨f, fd, ["one", "other"], h1, h2.kp, .all h3, ok_lesser_table T h2⟩
theorem k_lesser_table (T : Top K mg) : DKw P w K mg base 6 "lesser_table" ["one", "other"] [0, 0] (F_lesser_table mg) :=
  dkw T.f_lesser_table (fun f fd h2 => ok_lesser_table T h2) (fun _ _ _ _ _ _ ws hl => match ws, hl with | [_, _], _ => rfl)
noncomputable def F_pair_less : Fn := mkF 2 [0, 0] none
  ((sRet (dAndV (dUn gNot (dCall [.s, .s] F_need_less (aS (dOp gIx (dVar 1) (dConst (.int 0))) (aS (dOp gIx (dVar 0) (dConst (.int 0))) aNil)))) (dUn gNot (dCall [.s, .s] F_low_less (aS (dOp gIx (dVar 0) (dConst (.int 1))) (aS (dOp gIx (dVar 1) (dConst (.int 1))) aNil)))))))
theorem sc_pair_less : FnScope ["one", "other"] ["one", "other"] (defScope (topS 15)) := ⟨rfl, rfl, rfl, by decide +kernel, rfl, by decide +kernel, by decide +kernel⟩
theorem ok_pair_less (T : Top K mg) {f : Addr} {fd : FuncData} (h2 : Fun K "pair_less" "pair_less" (topS 15) f fd) : FnOk P w K mg base CX0 3 f fd ["one", "other"] (spD K [0, 0] none F_pair_less) :=
  fun_ok (lv := [0, 0]) h2 sc_pair_less rfl rfl fun cdv A outer s H H0 vs E M Z hr =>
    (dss_one (ds_ret (de_and (de_not (de_call (d_need_less T) hr (by decide) (da_s (e_ix (de_var 1) de_int hF) (da_s (e_ix (de_var 0) de_int hF) da_nil)))) (de_one (de_not (de_call (d_low_less T) hr (by decide) (da_s (e_ix (de_var 0) de_int hF) (da_s (e_ix (de_var 1) de_int hF) da_nil))))))))
theorem d_pair_less (T : Top K mg) : DFn P w K mg base 3 "pair_less" [0, 0] none F_pair_less := by
  obtain ⟨f, fd, h1, h2, h3⟩ := T.f_pair_less
  exact ⟨f, fd, ["one", "other"], h1, h2.kp, .all h3, ok_pair_less T h2⟩
noncomputable def F_table_less (mg : PySem.Str → Option Value) : Fn := mkF 3 [0, 0] none
  ((sRet (dCallB gAllA (dCons (dComp (dSeqI (dCall [.s, .s, .s] (F_paired_rows (adOf mg "pair_less") F_pair_less) (aS (dVar 0) (aS (dVar 1) (aS (dConst (.fn (adOf mg "pair_less"))) aNil))))) [2] (gtName 2) dYes (dCallB gAllA (dCons (dVar 2) dNil))) dNil))))
theorem sc_table_less : FnScope ["one", "other", "row"] ["one", "other"] (defScope (topS 16)) := ⟨rfl, rfl, rfl, by decide +kernel, rfl, by decide +kernel, by decide +kernel⟩
theorem ok_table_less (T : Top K mg) {f : Addr} {fd : FuncData} (h2 : Fun K "table_less" "table_less" (topS 16) f fd) : FnOk P w K mg base CX0 6 f fd ["one", "other"] (spD K [0, 0] none (F_table_less mg)) :=
  fun_ok (lv := [0, 0, 0]) h2 sc_table_less rfl rfl fun cdv A outer s H H0 vs E M Z hr =>
    (dss_one (ds_ret (de_callB (cr_allA rfl) c_allA T.b_all (by decide +kernel) (das_cons (de_f (df_lc (own := [("row", 2)]) rfl sc_table_less.nd (di_seq (de_call (d_paired_rows T ((d_pair_less T).at.mono (by decide))) hr (by decide) (da_s (de_var 0) (da_s (de_var 1) (da_s (de_top (d_pair_less (P := P) (w := w) (base := base) T).ad) da_nil))))) (blkOk_by (own := [("row", 2)]) (N := ["one", "other", "row"]) (sc := defScope (topS 16)) (by decide +kernel)) (fun _ _ _ _ _ => (dg_name 2 sc_table_less.nd)) (fun _ _ _ _ _ => dts_nil) (fun _ _ _ _ _ => (de_callB (cr_allA rfl) c_allA T.b_all (by decide +kernel) (das_cons (de_var 2) das_nil (hq := hF)))))) das_nil (hq := hF)))))
theorem d_table_less (T : Top K mg) : DFn P w K mg base 6 "table_less" [0, 0] none (F_table_less mg) := by
  obtain ⟨f, fd, h1, h2, h3⟩ := T.f_table_less
  exact ⟨f, fd, ["one", "other"], h1, h2.kp, .all h3, ok_table_less T h2⟩
theorem k_table_less (T : Top K mg) : DKw P w K mg base 6 "table_less" ["one", "other"] [0, 0] (F_table_less mg) :=
  dkw T.f_table_less (fun f fd h2 => ok_table_less T h2) (fun _ _ _ _ _ _ ws hl => match ws, hl with | [_, _], _ => rfl)
noncomputable def F_change_need : Fn := mkF 2 [0, 0] none
  ((sRet (dCallB gMax2 (dCons (dConst (.int 0)) (dCons (dUn gNeg (dOp gIx (dVar 0) (dVar 1))) dNil)))))
theorem sc_change_need : FnScope ["change", "purse"] ["change", "purse"] (defScope (topS 18)) := ⟨rfl, rfl, rfl, by decide +kernel, rfl, by decide +kernel, by decide +kernel⟩
theorem ok_change_need (T : Top K mg) {f : Addr} {fd : FuncData} (h2 : Fun K "change_need" "change_need" (topS 18) f fd) : FnOk P w K mg base CX0 1 f fd ["change", "purse"] (spD K [0, 0] none F_change_need) :=
  fun_ok (lv := [0, 0]) h2 sc_change_need rfl rfl fun cdv A outer s H H0 vs E M Z hr =>
    (dss_one (ds_ret (de_callB (call_max2 rfl) c_max2 T.b_max (by decide +kernel) (das_cons de_int (das_cons (e_neg (e_ix (de_var 0) (de_var 1) hF)) das_nil (hq := hF)) (hq := hF)))))
theorem d_change_need (T : Top K mg) : DFn P w K mg base 1 "change_need" [0, 0] none F_change_need := by
  obtain ⟨f, fd, h1, h2, h3⟩ := T.f_change_need
  exact ⟨f, fd, ["change", "purse"], h1, h2.kp, .all h3, ok_change_need T h2⟩


noncomputable def F_least_ahead : Fn := mkF 2 [0, 0] none
  ((sSeq (sIf (dOr (dBool (dOp gEq (dVar 0) (dConst (.str "never")))) (dBool (dOp gEq (dVar 1) (dConst (.int 0)))))
  (sRet (dConst (.int 0)))
  sNil)
  (sRet (dCall [.s] F_least_low (aS (dTup (dCons (dConst (.int 0)) (dCons (dCall [.s, .s] F_low_times (aS (dVar 0) (aS (dVar 1) aNil))) dNil))) aNil)))))
theorem sc_least_ahead : FnScope ["low", "many"] ["low", "many"] (defScope (topS 21)) := ⟨rfl, rfl, rfl, by decide +kernel, rfl, by decide +kernel, by decide +kernel⟩
theorem ok_least_ahead (T : Top K mg) {f : Addr} {fd : FuncData} (h2 : Fun K "least_ahead" "least_ahead" (topS 21) f fd) : FnOk P w K mg base CX0 4 f fd ["low", "many"] (spD K [0, 0] none F_least_ahead) :=
  fun_ok (lv := [0, 0]) h2 sc_least_ahead rfl rfl fun cdv A outer s H H0 vs E M Z hr =>
    (dss_cons (ds_if (dw_dt (dw_or (t_eq (de_var 0) de_str hF hr) (dw_or1 (t_eq (de_var 1) de_int hF hr))))
    (dss_one (ds_ret de_int))
    dss_nil)
    (dss_one (ds_ret (de_call (d_least_low T) hr (by decide) (da_s (de_tup (das_cons de_int (das_cons (de_call (d_low_times T) hr (by decide) (da_s (de_var 0) (da_s (de_var 1) da_nil))) das_nil (hq := hF)) (hq := hF))) da_nil)))))
theorem d_least_ahead (T : Top K mg) : DFn P w K mg base 4 "least_ahead" [0, 0] none F_least_ahead := by
  obtain ⟨f, fd, h1, h2, h3⟩ := T.f_least_ahead
  exact ⟨f, fd, ["low", "many"], h1, h2.kp, .all h3, ok_least_ahead T h2⟩

noncomputable def F_need_behind_or_more : Fn := mkF 2 [0, 0] none
  ((sRet (dIf (dOr (dBool (dOp gEq (dVar 0) (dConst (.str "deep")))) (dBool (dOp gEq (dVar 1) (dConst (.str "deep"))))) (dConst (.str "deep")) (dOp gSub (dVar 0) (dVar 1)))))
theorem sc_need_behind_or_more : FnScope ["need", "ahead"] ["need", "ahead"] (defScope (topS 23)) := ⟨rfl, rfl, rfl, by decide +kernel, rfl, by decide +kernel, by decide +kernel⟩
theorem ok_need_behind_or_more (T : Top K mg) {f : Addr} {fd : FuncData} (h2 : Fun K "need_behind_or_more" "need_behind_or_more" (topS 23) f fd) : FnOk P w K mg base CX0 1 f fd ["need", "ahead"] (spD K [0, 0] none F_need_behind_or_more) :=
  fun_ok (lv := [0, 0]) h2 sc_need_behind_or_more rfl rfl fun cdv A outer s H H0 vs E M Z hr =>
    (dss_one (ds_ret (de_if (dw_dt (dw_or (t_eq (de_var 0) de_str hF hr) (dw_or1 (t_eq (de_var 1) de_str hF hr)))) de_str (e_sub (de_var 0) (de_var 1) hF))))
theorem d_need_behind_or_more (T : Top K mg) : DFn P w K mg base 1 "need_behind_or_more" [0, 0] none F_need_behind_or_more := by
  obtain ⟨f, fd, h1, h2, h3⟩ := T.f_need_behind_or_more
  exact ⟨f, fd, ["need", "ahead"], h1, h2.kp, .all h3, ok_need_behind_or_more T h2⟩

noncomputable def FR_either_figures : Nat → Nat → Fn
  | 0, _ => fun _ => .err
  | n + 1, 0 => mkF 9 [0, 0, 0] none
      ((sSeq (sSet 3 (dComp (dSeqI (dVar 1)) [7] (gtName 7) dYes (dCall [.s, .s, .s] (FR_either_figures n 4) (aS (dVar 0) (aS (dVar 7) (aS (dVar 2) aNil))))))
      (sSeq (sSet 4 (dComp (dSeqI (dVar 3)) [8] (gtName 8) dYes (dOp gIx (dVar 8) (dConst (.int 0)))))
      (sSeq (sSet 5 (dComp (dSeqI (dVar 3)) [8] (gtName 8) dYes (dOp gIx (dVar 8) (dConst (.int 1)))))
      (sSeq (sSet 6 (dComp (dSeqI (dVar 3)) [8] (gtName 8) dYes (dOp gIx (dVar 8) (dConst (.int 2)))))
      (sRet (dTup (dCons (dCall [.s] F_greatest_need (aS (dVar 4) aNil)) (dCons (dCall [.s] F_least_low (aS (dVar 5) aNil)) (dCons (dCall [.s] F_least_low (aS (dVar 6) aNil)) dNil))))))))))
  | n + 1, 1 => mkF 6 [0, 0, 0] none
      ((sSeq (sAsg (dCall [.s, .s, .s] (FR_either_figures n 4) (aS (dVar 0) (aS (dVar 1) (aS (dVar 2) aNil)))) (gtTup 3 (gtCons (gtName 3) (gtCons (gtName 4) (gtCons (gtName 5) gtNil)))))
      (sSeq (sIf (dOr (dBool (dOp gEq (dVar 4) (dConst (.str "deep")))) (dTru (dCall [.s, .s] F_low_less (aS (dVar 4) (aS (dConst (.int 0)) aNil)))))
      (sRet (dTup (dCons (dConst (.str "deep")) (dCons (dConst (.str "deep")) (dCons (dCall [.s, .s] F_low_sum (aS (dConst (.str "deep")) (aS (dVar 5) aNil))) dNil)))))
      sNil)
      (sRet (dTup (dCons (dVar 3) (dCons (dConst (.int 0)) (dCons (dVar 5) dNil))))))))
  | n + 1, 2 => mkF 11 [0, 0, 0] none
      ((sSeq (sAsg (dVar 1) (gtTup 3 (gtCons (gtName 3) (gtCons (gtName 4) (gtCons (gtName 5) gtNil)))))
      (sSeq (sIf (dBool (dOp gEq (dVar 4) (dConst (.int 0))))
      (sRet (dTup (dCons (dConst (.int 0)) (dCons (dConst (.int 0)) (dCons (dConst (.str "never")) dNil)))))
      sNil)
      (sSeq (sAsg (dCall [.s, .s, .s] (FR_either_figures n 4) (aS (dVar 0) (aS (dVar 5) (aS (dVar 2) aNil)))) (gtTup 3 (gtCons (gtName 6) (gtCons (gtName 7) (gtCons (gtName 8) gtNil)))))
      (sSeq (sSet 9 (dCall [.s, .s] F_least_ahead (aS (dVar 7) (aS (dOp gSub (dVar 4) (dConst (.int 1))) aNil))))
      (sSeq (sSet 10 (dCall [.s, .s] F_low_times (aS (dVar 7) (aS (dVar 4) aNil))))
      (sSeq (sIf (dBool (dOp gEq (dVar 3) (dConst (.str "upto"))))
      (sSet 10 (dCall [.s] F_least_low (aS (dTup (dCons (dConst (.int 0)) (dCons (dVar 10) dNil))) aNil)))
      sNil)
      (sRet (dTup (dCons (dCall [.s, .s] F_need_behind_or_more (aS (dVar 6) (aS (dVar 9) aNil))) (dCons (dVar 10) (dCons (dCall [.s, .s] F_low_sum (aS (dVar 9) (aS (dVar 8) aNil))) dNil))))))))))))
  | n + 1, 3 => mkF 6 [0, 0, 0] none
      ((sSeq (sSet 3 (dOp gIx (dVar 1) (dConst (.int 0))))
      (sSeq (sIf (dBool (dOp gEq (dVar 3) (dConst (.str "change"))))
      (sRet (dTup (dCons (dCall [.s, .s] F_change_need (aS (dOp gIx (dVar 1) (dConst (.int 1))) (aS (dVar 2) aNil))) (dCons (dOp gIx (dOp gIx (dVar 1) (dConst (.int 1))) (dVar 2)) (dCons (dConst (.str "never")) dNil)))))
      sNil)
      (sSeq (sIf (dBool (dOp gEq (dVar 3) (dConst (.str "call"))))
      (sSeq (sAsg (dOp gIx (dOp gIx (dVar 0) (dOp gIx (dVar 1) (dConst (.int 1)))) (dVar 2)) (gtTup 2 (gtCons (gtName 4) (gtCons (gtName 5) gtNil))))
      (sRet (dTup (dCons (dVar 4) (dCons (dVar 5) (dCons (dConst (.str "never")) dNil))))))
      sNil)
      (sSeq (sIf (dBool (dOp gEq (dVar 3) (dConst (.str "either"))))
      (sRet (dCall [.s, .s, .s] (FR_either_figures n 0) (aS (dVar 0) (aS (dOp gIx (dVar 1) (dConst (.int 1))) (aS (dVar 2) aNil)))))
      sNil)
      (sSeq (sIf (dBool (dOp gEq (dVar 3) (dConst (.str "loop"))))
      (sRet (dCall [.s, .s, .s] (FR_either_figures n 1) (aS (dVar 0) (aS (dOp gIx (dVar 1) (dConst (.int 1))) (aS (dVar 2) aNil)))))
      sNil)
      (sSeq (sIf (dBool (dOp (gIn false) (dVar 3) (dTup (dCons (dConst (.str "repeat")) (dCons (dConst (.str "upto")) dNil)))))
      (sRet (dCall [.s, .s, .s] (FR_either_figures n 2) (aS (dVar 0) (aS (dVar 1) (aS (dVar 2) aNil)))))
      sNil)
      (sRet (dTup (dCons (dConst (.int 0)) (dCons (dConst (.str "never")) (dCons (dIf (dBool (dOp gEq (dVar 3) (dConst (.str "back")))) (dConst (.int 0)) (dConst (.str "never"))) dNil))))))))))))
  | n + 1, 4 => mkF 11 [0, 0, 0] none
      ((sSeq (sSet 3 (dConst (.int 0)))
      (sSeq (sSet 4 (dConst (.int 0)))
      (sSeq (sSet 5 (dConst (.str "never")))
      (sSeq (sFor (dSeqI (dVar 1)) (gtName 6)
      (sSeq (sAsg (dCall [.s, .s, .s] (FR_either_figures n 3) (aS (dVar 0) (aS (dVar 6) (aS (dVar 2) aNil)))) (gtTup 3 (gtCons (gtName 7) (gtCons (gtName 8) (gtCons (gtName 9) gtNil)))))
      (sSeq (sSet 10 (dVar 4))
      (sSeq (sSet 5 (dCall [.s] F_least_low (aS (dTup (dCons (dVar 5) (dCons (dCall [.s, .s] F_low_sum (aS (dVar 10) (aS (dVar 9) aNil))) dNil))) aNil)))
      (sSeq (sSet 4 (dCall [.s, .s] F_low_sum (aS (dVar 10) (aS (dVar 8) aNil))))
      (sSet 3 (dCall [.s] F_greatest_need (aS (dTup (dCons (dVar 3) (dCons (dCall [.s, .s] F_need_behind (aS (dVar 7) (aS (dVar 10) aNil))) (dCons (dCall [.s, .s] F_need_behind (aS (dConst (.int 0)) (aS (dVar 4) aNil))) dNil)))) aNil))))))))
      (sRet (dTup (dCons (dVar 3) (dCons (dVar 4) (dCons (dVar 5) dNil))))))))))
  | _ + 1, _ => fun _ => .err
noncomputable abbrev F_either_figures (n : Nat) : Fn := FR_either_figures n 0
noncomputable abbrev F_loop_figures (n : Nat) : Fn := FR_either_figures n 1
noncomputable abbrev F_counted_figures (n : Nat) : Fn := FR_either_figures n 2
noncomputable abbrev F_statement_figures (n : Nat) : Fn := FR_either_figures n 3
noncomputable abbrev F_body_figures (n : Nat) : Fn := FR_either_figures n 4
theorem F_either_figures_succ (n : Nat) : F_either_figures (n + 1) = mkF 9 [0, 0, 0] none
      ((sSeq (sSet 3 (dComp (dSeqI (dVar 1)) [7] (gtName 7) dYes (dCall [.s, .s, .s] (F_body_figures n) (aS (dVar 0) (aS (dVar 7) (aS (dVar 2) aNil))))))
      (sSeq (sSet 4 (dComp (dSeqI (dVar 3)) [8] (gtName 8) dYes (dOp gIx (dVar 8) (dConst (.int 0)))))
      (sSeq (sSet 5 (dComp (dSeqI (dVar 3)) [8] (gtName 8) dYes (dOp gIx (dVar 8) (dConst (.int 1)))))
      (sSeq (sSet 6 (dComp (dSeqI (dVar 3)) [8] (gtName 8) dYes (dOp gIx (dVar 8) (dConst (.int 2)))))
      (sRet (dTup (dCons (dCall [.s] F_greatest_need (aS (dVar 4) aNil)) (dCons (dCall [.s] F_least_low (aS (dVar 5) aNil)) (dCons (dCall [.s] F_least_low (aS (dVar 6) aNil)) dNil)))))))))) := rfl
theorem F_loop_figures_succ (n : Nat) : F_loop_figures (n + 1) = mkF 6 [0, 0, 0] none
      ((sSeq (sAsg (dCall [.s, .s, .s] (F_body_figures n) (aS (dVar 0) (aS (dVar 1) (aS (dVar 2) aNil)))) (gtTup 3 (gtCons (gtName 3) (gtCons (gtName 4) (gtCons (gtName 5) gtNil)))))
      (sSeq (sIf (dOr (dBool (dOp gEq (dVar 4) (dConst (.str "deep")))) (dTru (dCall [.s, .s] F_low_less (aS (dVar 4) (aS (dConst (.int 0)) aNil)))))
      (sRet (dTup (dCons (dConst (.str "deep")) (dCons (dConst (.str "deep")) (dCons (dCall [.s, .s] F_low_sum (aS (dConst (.str "deep")) (aS (dVar 5) aNil))) dNil)))))
      sNil)
      (sRet (dTup (dCons (dVar 3) (dCons (dConst (.int 0)) (dCons (dVar 5) dNil)))))))) := rfl
theorem F_counted_figures_succ (n : Nat) : F_counted_figures (n + 1) = mkF 11 [0, 0, 0] none
      ((sSeq (sAsg (dVar 1) (gtTup 3 (gtCons (gtName 3) (gtCons (gtName 4) (gtCons (gtName 5) gtNil)))))
      (sSeq (sIf (dBool (dOp gEq (dVar 4) (dConst (.int 0))))
      (sRet (dTup (dCons (dConst (.int 0)) (dCons (dConst (.int 0)) (dCons (dConst (.str "never")) dNil)))))
      sNil)
      (sSeq (sAsg (dCall [.s, .s, .s] (F_body_figures n) (aS (dVar 0) (aS (dVar 5) (aS (dVar 2) aNil)))) (gtTup 3 (gtCons (gtName 6) (gtCons (gtName 7) (gtCons (gtName 8) gtNil)))))
      (sSeq (sSet 9 (dCall [.s, .s] F_least_ahead (aS (dVar 7) (aS (dOp gSub (dVar 4) (dConst (.int 1))) aNil))))
      (sSeq (sSet 10 (dCall [.s, .s] F_low_times (aS (dVar 7) (aS (dVar 4) aNil))))
      (sSeq (sIf (dBool (dOp gEq (dVar 3) (dConst (.str "upto"))))
      (sSet 10 (dCall [.s] F_least_low (aS (dTup (dCons (dConst (.int 0)) (dCons (dVar 10) dNil))) aNil)))
      sNil)
      (sRet (dTup (dCons (dCall [.s, .s] F_need_behind_or_more (aS (dVar 6) (aS (dVar 9) aNil))) (dCons (dVar 10) (dCons (dCall [.s, .s] F_low_sum (aS (dVar 9) (aS (dVar 8) aNil))) dNil)))))))))))) := rfl
theorem F_statement_figures_succ (n : Nat) : F_statement_figures (n + 1) = mkF 6 [0, 0, 0] none
      ((sSeq (sSet 3 (dOp gIx (dVar 1) (dConst (.int 0))))
      (sSeq (sIf (dBool (dOp gEq (dVar 3) (dConst (.str "change"))))
      (sRet (dTup (dCons (dCall [.s, .s] F_change_need (aS (dOp gIx (dVar 1) (dConst (.int 1))) (aS (dVar 2) aNil))) (dCons (dOp gIx (dOp gIx (dVar 1) (dConst (.int 1))) (dVar 2)) (dCons (dConst (.str "never")) dNil)))))
      sNil)
      (sSeq (sIf (dBool (dOp gEq (dVar 3) (dConst (.str "call"))))
      (sSeq (sAsg (dOp gIx (dOp gIx (dVar 0) (dOp gIx (dVar 1) (dConst (.int 1)))) (dVar 2)) (gtTup 2 (gtCons (gtName 4) (gtCons (gtName 5) gtNil))))
      (sRet (dTup (dCons (dVar 4) (dCons (dVar 5) (dCons (dConst (.str "never")) dNil))))))
      sNil)
      (sSeq (sIf (dBool (dOp gEq (dVar 3) (dConst (.str "either"))))
      (sRet (dCall [.s, .s, .s] (F_either_figures n) (aS (dVar 0) (aS (dOp gIx (dVar 1) (dConst (.int 1))) (aS (dVar 2) aNil)))))
      sNil)
      (sSeq (sIf (dBool (dOp gEq (dVar 3) (dConst (.str "loop"))))
      (sRet (dCall [.s, .s, .s] (F_loop_figures n) (aS (dVar 0) (aS (dOp gIx (dVar 1) (dConst (.int 1))) (aS (dVar 2) aNil)))))
      sNil)
      (sSeq (sIf (dBool (dOp (gIn false) (dVar 3) (dTup (dCons (dConst (.str "repeat")) (dCons (dConst (.str "upto")) dNil)))))
      (sRet (dCall [.s, .s, .s] (F_counted_figures n) (aS (dVar 0) (aS (dVar 1) (aS (dVar 2) aNil)))))
      sNil)
      (sRet (dTup (dCons (dConst (.int 0)) (dCons (dConst (.str "never")) (dCons (dIf (dBool (dOp gEq (dVar 3) (dConst (.str "back")))) (dConst (.int 0)) (dConst (.str "never"))) dNil)))))))))))) := rfl
theorem F_body_figures_succ (n : Nat) : F_body_figures (n + 1) = mkF 11 [0, 0, 0] none
      ((sSeq (sSet 3 (dConst (.int 0)))
      (sSeq (sSet 4 (dConst (.int 0)))
      (sSeq (sSet 5 (dConst (.str "never")))
      (sSeq (sFor (dSeqI (dVar 1)) (gtName 6)
      (sSeq (sAsg (dCall [.s, .s, .s] (F_statement_figures n) (aS (dVar 0) (aS (dVar 6) (aS (dVar 2) aNil)))) (gtTup 3 (gtCons (gtName 7) (gtCons (gtName 8) (gtCons (gtName 9) gtNil)))))
      (sSeq (sSet 10 (dVar 4))
      (sSeq (sSet 5 (dCall [.s] F_least_low (aS (dTup (dCons (dVar 5) (dCons (dCall [.s, .s] F_low_sum (aS (dVar 10) (aS (dVar 9) aNil))) dNil))) aNil)))
      (sSeq (sSet 4 (dCall [.s, .s] F_low_sum (aS (dVar 10) (aS (dVar 8) aNil))))
      (sSet 3 (dCall [.s] F_greatest_need (aS (dTup (dCons (dVar 3) (dCons (dCall [.s, .s] F_need_behind (aS (dVar 7) (aS (dVar 10) aNil))) (dCons (dCall [.s, .s] F_need_behind (aS (dConst (.int 0)) (aS (dVar 4) aNil))) dNil)))) aNil))))))))
      (sRet (dTup (dCons (dVar 3) (dCons (dVar 4) (dCons (dVar 5) dNil)))))))))) := rfl
theorem sc_either_figures : FnScope ["table", "bodies", "purse", "told", "needs", "throughs", "backs", "body", "figures"] ["table", "bodies", "purse"] (defScope (topS 19)) := ⟨rfl, rfl, rfl, by decide +kernel, rfl, by decide +kernel, by decide +kernel⟩
theorem ok_either_figures (T : Top K mg) (n : Nat) (h_either_figures : DFn P w K mg base (4 + n) "either_figures" [0, 0, 0] none (F_either_figures n)) (h_loop_figures : DFn P w K mg base (4 + n) "loop_figures" [0, 0, 0] none (F_loop_figures n)) (h_counted_figures : DFn P w K mg base (4 + n) "counted_figures" [0, 0, 0] none (F_counted_figures n)) (h_statement_figures : DFn P w K mg base (4 + n) "statement_figures" [0, 0, 0] none (F_statement_figures n)) (h_body_figures : DFn P w K mg base (4 + n) "body_figures" [0, 0, 0] none (F_body_figures n)) {f : Addr} {fd : FuncData} (h2 : Fun K "either_figures" "either_figures" (topS 19) f fd) : FnOk P w K mg base CX0 (4 + n + 1) f fd ["table", "bodies", "purse"] (spD K [0, 0, 0] none (F_either_figures (n + 1))) :=
  fun_ok (lv := [0, 0, 0, 0, 0, 0, 0, 0, 0]) h2 sc_either_figures rfl rfl fun cdv A outer s H H0 vs E M Z hr =>
    (dss_cons (ds_lc0 3 (own := [("body", 7)]) rfl sc_either_figures.nd (sw_true rfl rfl rfl (by decide +kernel)) (di_seq (de_var 1)) (blkOk_by (own := [("body", 7)]) (N := ["table", "bodies", "purse", "told", "needs", "throughs", "backs", "body", "figures"]) (sc := defScope (topS 19)) (by decide +kernel)) (fun _ _ _ _ _ => (dg_name 7 sc_either_figures.nd)) (fun _ _ _ _ _ => dts_nil) (fun _ _ _ _ _ => (de_call h_body_figures hr (by omega) (da_s (de_var 0) (da_s (de_var 7) (da_s (de_var 2) da_nil))))))
    (dss_cons (ds_lc0 4 (own := [("figures", 8)]) rfl sc_either_figures.nd (sw_true rfl rfl rfl (by decide +kernel)) (di_seq (de_var 3)) (blkOk_by (own := [("figures", 8)]) (N := ["table", "bodies", "purse", "told", "needs", "throughs", "backs", "body", "figures"]) (sc := defScope (topS 19)) (by decide +kernel)) (fun _ _ _ _ _ => (dg_name 8 sc_either_figures.nd)) (fun _ _ _ _ _ => dts_nil) (fun _ _ _ _ _ => (e_ix (de_var 8) de_int hF)))
    (dss_cons (ds_lc0 5 (own := [("figures", 8)]) rfl sc_either_figures.nd (sw_true rfl rfl rfl (by decide +kernel)) (di_seq (de_var 3)) (blkOk_by (own := [("figures", 8)]) (N := ["table", "bodies", "purse", "told", "needs", "throughs", "backs", "body", "figures"]) (sc := defScope (topS 19)) (by decide +kernel)) (fun _ _ _ _ _ => (dg_name 8 sc_either_figures.nd)) (fun _ _ _ _ _ => dts_nil) (fun _ _ _ _ _ => (e_ix (de_var 8) de_int hF)))
    (dss_cons (ds_lc0 6 (own := [("figures", 8)]) rfl sc_either_figures.nd (sw_true rfl rfl rfl (by decide +kernel)) (di_seq (de_var 3)) (blkOk_by (own := [("figures", 8)]) (N := ["table", "bodies", "purse", "told", "needs", "throughs", "backs", "body", "figures"]) (sc := defScope (topS 19)) (by decide +kernel)) (fun _ _ _ _ _ => (dg_name 8 sc_either_figures.nd)) (fun _ _ _ _ _ => dts_nil) (fun _ _ _ _ _ => (e_ix (de_var 8) de_int hF)))
    (dss_one (ds_ret (de_tup (das_cons (de_call (d_greatest_need T) hr (by omega) (da_s (de_var 4) da_nil)) (das_cons (de_call (d_least_low T) hr (by omega) (da_s (de_var 5) da_nil)) (das_cons (de_call (d_least_low T) hr (by omega) (da_s (de_var 6) da_nil)) das_nil (hq := hF)) (hq := hF)) (hq := hF)))))))))
theorem sc_loop_figures : FnScope ["table", "body", "purse", "need", "through", "back"] ["table", "body", "purse"] (defScope (topS 20)) := ⟨rfl, rfl, rfl, by decide +kernel, rfl, by decide +kernel, by decide +kernel⟩
theorem ok_loop_figures (T : Top K mg) (n : Nat) (h_either_figures : DFn P w K mg base (4 + n) "either_figures" [0, 0, 0] none (F_either_figures n)) (h_loop_figures : DFn P w K mg base (4 + n) "loop_figures" [0, 0, 0] none (F_loop_figures n)) (h_counted_figures : DFn P w K mg base (4 + n) "counted_figures" [0, 0, 0] none (F_counted_figures n)) (h_statement_figures : DFn P w K mg base (4 + n) "statement_figures" [0, 0, 0] none (F_statement_figures n)) (h_body_figures : DFn P w K mg base (4 + n) "body_figures" [0, 0, 0] none (F_body_figures n)) {f : Addr} {fd : FuncData} (h2 : Fun K "loop_figures" "loop_figures" (topS 20) f fd) : FnOk P w K mg base CX0 (4 + n + 1) f fd ["table", "body", "purse"] (spD K [0, 0, 0] none (F_loop_figures (n + 1))) :=
  fun_ok (lv := [0, 0, 0, 0, 0, 0]) h2 sc_loop_figures rfl rfl fun cdv A outer s H H0 vs E M Z hr =>
    (dss_cons (ds_asg (de_call h_body_figures hr (by omega) (da_s (de_var 0) (da_s (de_var 1) (da_s (de_var 2) da_nil)))) (dg_tup rfl (dgs_cons (dg_name 3 sc_loop_figures.nd) (dgs_cons (dg_name 4 sc_loop_figures.nd) (dgs_cons (dg_name 5 sc_loop_figures.nd) dgs_nil)))))
    (dss_cons (ds_if (dw_dt (dw_or (t_eq (de_var 4) de_str hF hr) (dw_or1 (dt_tru (b := false) (de_call (d_low_less T) hr (by omega) (da_s (de_var 4) (da_s de_int da_nil)))))))
    (dss_one (ds_ret (de_tup (das_cons de_str (das_cons de_str (das_cons (de_call (d_low_sum T) hr (by omega) (da_s de_str (da_s (de_var 5) da_nil))) das_nil (hq := hF)) (hq := hF)) (hq := hF)))))
    dss_nil)
    (dss_one (ds_ret (de_tup (das_cons (de_var 3) (das_cons de_int (das_cons (de_var 5) das_nil (hq := hF)) (hq := hF)) (hq := hF)))))))
theorem sc_counted_figures : FnScope ["table", "statement", "purse", "word", "many", "body", "need", "through", "back", "ahead", "whole"] ["table", "statement", "purse"] (defScope (topS 22)) := ⟨rfl, rfl, rfl, by decide +kernel, rfl, by decide +kernel, by decide +kernel⟩
theorem ok_counted_figures (T : Top K mg) (n : Nat) (h_either_figures : DFn P w K mg base (4 + n) "either_figures" [0, 0, 0] none (F_either_figures n)) (h_loop_figures : DFn P w K mg base (4 + n) "loop_figures" [0, 0, 0] none (F_loop_figures n)) (h_counted_figures : DFn P w K mg base (4 + n) "counted_figures" [0, 0, 0] none (F_counted_figures n)) (h_statement_figures : DFn P w K mg base (4 + n) "statement_figures" [0, 0, 0] none (F_statement_figures n)) (h_body_figures : DFn P w K mg base (4 + n) "body_figures" [0, 0, 0] none (F_body_figures n)) {f : Addr} {fd : FuncData} (h2 : Fun K "counted_figures" "counted_figures" (topS 22) f fd) : FnOk P w K mg base CX0 (4 + n + 1) f fd ["table", "statement", "purse"] (spD K [0, 0, 0] none (F_counted_figures (n + 1))) :=
  fun_ok (lv := [0, 0, 0, 0, 0, 0, 0, 0, 0, 0, 0]) h2 sc_counted_figures rfl rfl fun cdv A outer s H H0 vs E M Z hr =>
    (dss_cons (ds_asg (de_var 1) (dg_tup rfl (dgs_cons (dg_name 3 sc_counted_figures.nd) (dgs_cons (dg_name 4 sc_counted_figures.nd) (dgs_cons (dg_name 5 sc_counted_figures.nd) dgs_nil)))))
    (dss_cons (ds_if (t_eq (de_var 4) de_int hF hr)
    (dss_one (ds_ret (de_tup (das_cons de_int (das_cons de_int (das_cons de_str das_nil (hq := hF)) (hq := hF)) (hq := hF)))))
    dss_nil)
    (dss_cons (ds_asg (de_call h_body_figures hr (by omega) (da_s (de_var 0) (da_s (de_var 5) (da_s (de_var 2) da_nil)))) (dg_tup rfl (dgs_cons (dg_name 6 sc_counted_figures.nd) (dgs_cons (dg_name 7 sc_counted_figures.nd) (dgs_cons (dg_name 8 sc_counted_figures.nd) dgs_nil)))))
    (dss_cons (ds_set 9 sc_counted_figures.nd (de_call (d_least_ahead T) hr (by omega) (da_s (de_var 7) (da_s (e_sub (de_var 4) de_int hF) da_nil))))
    (dss_cons (ds_set 10 sc_counted_figures.nd (de_call (d_low_times T) hr (by omega) (da_s (de_var 7) (da_s (de_var 4) da_nil))))
    (dss_cons (ds_if (t_eq (de_var 3) de_str hF hr)
    (dss_one (ds_set 10 sc_counted_figures.nd (de_call (d_least_low T) hr (by omega) (da_s (de_tup (das_cons de_int (das_cons (de_var 10) das_nil (hq := hF)) (hq := hF))) da_nil))))
    dss_nil)
    (dss_one (ds_ret (de_tup (das_cons (de_call (d_need_behind_or_more T) hr (by omega) (da_s (de_var 6) (da_s (de_var 9) da_nil))) (das_cons (de_var 10) (das_cons (de_call (d_low_sum T) hr (by omega) (da_s (de_var 9) (da_s (de_var 8) da_nil))) das_nil (hq := hF)) (hq := hF)) (hq := hF)))))))))))
theorem sc_statement_figures : FnScope ["table", "statement", "purse", "word", "need", "low"] ["table", "statement", "purse"] (defScope (topS 24)) := ⟨rfl, rfl, rfl, by decide +kernel, rfl, by decide +kernel, by decide +kernel⟩
theorem ok_statement_figures (T : Top K mg) (n : Nat) (h_either_figures : DFn P w K mg base (4 + n) "either_figures" [0, 0, 0] none (F_either_figures n)) (h_loop_figures : DFn P w K mg base (4 + n) "loop_figures" [0, 0, 0] none (F_loop_figures n)) (h_counted_figures : DFn P w K mg base (4 + n) "counted_figures" [0, 0, 0] none (F_counted_figures n)) (h_statement_figures : DFn P w K mg base (4 + n) "statement_figures" [0, 0, 0] none (F_statement_figures n)) (h_body_figures : DFn P w K mg base (4 + n) "body_figures" [0, 0, 0] none (F_body_figures n)) {f : Addr} {fd : FuncData} (h2 : Fun K "statement_figures" "statement_figures" (topS 24) f fd) : FnOk P w K mg base CX0 (4 + n + 1) f fd ["table", "statement", "purse"] (spD K [0, 0, 0] none (F_statement_figures (n + 1))) :=
  fun_ok (lv := [0, 0, 0, 0, 0, 0]) h2 sc_statement_figures rfl rfl fun cdv A outer s H H0 vs E M Z hr =>
    (dss_cons (ds_set 3 sc_statement_figures.nd (e_ix (de_var 1) de_int hF))
    (dss_cons (ds_if (t_eq (de_var 3) de_str hF hr)
    (dss_one (ds_ret (de_tup (das_cons (de_call (d_change_need T) hr (by omega) (da_s (e_ix (de_var 1) de_int hF) (da_s (de_var 2) da_nil))) (das_cons (e_ix (e_ix (de_var 1) de_int hF) (de_var 2) hF) (das_cons de_str das_nil (hq := hF)) (hq := hF)) (hq := hF)))))
    dss_nil)
    (dss_cons (ds_if (t_eq (de_var 3) de_str hF hr)
    (dss_cons (ds_asg (e_ix (e_ix (de_var 0) (e_ix (de_var 1) de_int hF) hF) (de_var 2) hF) (dg_tup rfl (dgs_cons (dg_name 4 sc_statement_figures.nd) (dgs_cons (dg_name 5 sc_statement_figures.nd) dgs_nil))))
    (dss_one (ds_ret (de_tup (das_cons (de_var 4) (das_cons (de_var 5) (das_cons de_str das_nil (hq := hF)) (hq := hF)) (hq := hF))))))
    dss_nil)
    (dss_cons (ds_if (t_eq (de_var 3) de_str hF hr)
    (dss_one (ds_ret (de_call h_either_figures hr (by omega) (da_s (de_var 0) (da_s (e_ix (de_var 1) de_int hF) (da_s (de_var 2) da_nil))))))
    dss_nil)
    (dss_cons (ds_if (t_eq (de_var 3) de_str hF hr)
    (dss_one (ds_ret (de_call h_loop_figures hr (by omega) (da_s (de_var 0) (da_s (e_ix (de_var 1) de_int hF) (da_s (de_var 2) da_nil))))))
    dss_nil)
    (dss_cons (ds_if (t_in (de_var 3) (de_tup (das_cons de_str (das_cons de_str das_nil (hq := hF)) (hq := hF))) hF rfl)
    (dss_one (ds_ret (de_call h_counted_figures hr (by omega) (da_s (de_var 0) (da_s (de_var 1) (da_s (de_var 2) da_nil))))))
    dss_nil)
    (dss_one (ds_ret (de_tup (das_cons de_int (das_cons de_str (das_cons (de_if (t_eq (de_var 3) de_str hF hr) de_int de_str) das_nil (hq := hF)) (hq := hF)) (hq := hF)))))))))))
theorem sc_body_figures : FnScope ["table", "body", "purse", "need", "through", "back", "statement", "mine", "on", "out", "ahead"] ["table", "body", "purse"] (defScope (topS 25)) := ⟨rfl, rfl, rfl, by decide +kernel, rfl, by decide +kernel, by decide +kernel⟩
theorem ok_body_figures (T : Top K mg) (n : Nat) (h_either_figures : DFn P w K mg base (4 + n) "either_figures" [0, 0, 0] none (F_either_figures n)) (h_loop_figures : DFn P w K mg base (4 + n) "loop_figures" [0, 0, 0] none (F_loop_figures n)) (h_counted_figures : DFn P w K mg base (4 + n) "counted_figures" [0, 0, 0] none (F_counted_figures n)) (h_statement_figures : DFn P w K mg base (4 + n) "statement_figures" [0, 0, 0] none (F_statement_figures n)) (h_body_figures : DFn P w K mg base (4 + n) "body_figures" [0, 0, 0] none (F_body_figures n)) {f : Addr} {fd : FuncData} (h2 : Fun K "body_figures" "body_figures" (topS 25) f fd) : FnOk P w K mg base CX0 (4 + n + 1) f fd ["table", "body", "purse"] (spD K [0, 0, 0] none (F_body_figures (n + 1))) :=
  fun_ok (lv := [0, 0, 0, 0, 0, 0, 0, 0, 0, 0, 0]) h2 sc_body_figures rfl rfl fun cdv A outer s H H0 vs E M Z hr =>
    (dss_cons (ds_set 3 sc_body_figures.nd de_int)
    (dss_cons (ds_set 4 sc_body_figures.nd de_int)
    (dss_cons (ds_set 5 sc_body_figures.nd de_str)
    (dss_cons (ds_for PassesOwn.never rfl (di_seq (de_var 1)) (dg_name 6 sc_body_figures.nd)
    (dss_cons (ds_asg (de_call h_statement_figures hr (by omega) (da_s (de_var 0) (da_s (de_var 6) (da_s (de_var 2) da_nil)))) (dg_tup rfl (dgs_cons (dg_name 7 sc_body_figures.nd) (dgs_cons (dg_name 8 sc_body_figures.nd) (dgs_cons (dg_name 9 sc_body_figures.nd) dgs_nil)))))
    (dss_cons (ds_set 10 sc_body_figures.nd (de_var 4))
    (dss_cons (ds_set 5 sc_body_figures.nd (de_call (d_least_low T) hr (by omega) (da_s (de_tup (das_cons (de_var 5) (das_cons (de_call (d_low_sum T) hr (by omega) (da_s (de_var 10) (da_s (de_var 9) da_nil))) das_nil (hq := hF)) (hq := hF))) da_nil)))
    (dss_cons (ds_set 4 sc_body_figures.nd (de_call (d_low_sum T) hr (by omega) (da_s (de_var 10) (da_s (de_var 8) da_nil))))
    (dss_one (ds_set 3 sc_body_figures.nd (de_call (d_greatest_need T) hr (by omega) (da_s (de_tup (das_cons (de_var 3) (das_cons (de_call (d_need_behind T) hr (by omega) (da_s (de_var 7) (da_s (de_var 10) da_nil))) (das_cons (de_call (d_need_behind T) hr (by omega) (da_s de_int (da_s (de_var 4) da_nil))) das_nil (hq := hF)) (hq := hF)) (hq := hF))) da_nil)))))))))
    (dss_one (ds_ret (de_tup (das_cons (de_var 3) (das_cons (de_var 4) (das_cons (de_var 5) das_nil (hq := hF)) (hq := hF)) (hq := hF)))))))))
theorem d_rec_either_figures (T : Top K mg) : ∀ n : Nat, DFn P w K mg base (4 + n) "either_figures" [0, 0, 0] none (F_either_figures n) ∧ DFn P w K mg base (4 + n) "loop_figures" [0, 0, 0] none (F_loop_figures n) ∧ DFn P w K mg base (4 + n) "counted_figures" [0, 0, 0] none (F_counted_figures n) ∧ DFn P w K mg base (4 + n) "statement_figures" [0, 0, 0] none (F_statement_figures n) ∧ DFn P w K mg base (4 + n) "body_figures" [0, 0, 0] none (F_body_figures n)
  | 0 => ⟨d_err T.f_either_figures, d_err T.f_loop_figures, d_err T.f_counted_figures, d_err T.f_statement_figures, d_err T.f_body_figures⟩
  | n + 1 => by
    obtain ⟨h_either_figures, h_loop_figures, h_counted_figures, h_statement_figures, h_body_figures⟩ := d_rec_either_figures T n
    refine ⟨?_, ?_, ?_, ?_, ?_⟩
    · obtain ⟨f, fd, h1, h2, h3⟩ := T.f_either_figures
      exact ⟨f, fd, ["table", "bodies", "purse"], h1, h2.kp, .all h3, ok_either_figures T n h_either_figures h_loop_figures h_counted_figures h_statement_figures h_body_figures h2⟩
    · obtain ⟨f, fd, h1, h2, h3⟩ := T.f_loop_figures
      exact ⟨f, fd, ["table", "body", "purse"], h1, h2.kp, .all h3, ok_loop_figures T n h_either_figures h_loop_figures h_counted_figures h_statement_figures h_body_figures h2⟩
    · obtain ⟨f, fd, h1, h2, h3⟩ := T.f_counted_figures
      exact ⟨f, fd, ["table", "statement", "purse"], h1, h2.kp, .all h3, ok_counted_figures T n h_either_figures h_loop_figures h_counted_figures h_statement_figures h_body_figures h2⟩
    · obtain ⟨f, fd, h1, h2, h3⟩ := T.f_statement_figures
      exact ⟨f, fd, ["table", "statement", "purse"], h1, h2.kp, .all h3, ok_statement_figures T n h_either_figures h_loop_figures h_counted_figures h_statement_figures h_body_figures h2⟩
    · obtain ⟨f, fd, h1, h2, h3⟩ := T.f_body_figures
      exact ⟨f, fd, ["table", "body", "purse"], h1, h2.kp, .all h3, ok_body_figures T n h_either_figures h_loop_figures h_counted_figures h_statement_figures h_body_figures h2⟩
theorem d_either_figures (T : Top K mg) (n : Nat) : DFn P w K mg base (4 + n) "either_figures" [0, 0, 0] none (F_either_figures n) := (d_rec_either_figures T n).1
theorem d_loop_figures (T : Top K mg) (n : Nat) : DFn P w K mg base (4 + n) "loop_figures" [0, 0, 0] none (F_loop_figures n) := (d_rec_either_figures T n).2.1
theorem d_counted_figures (T : Top K mg) (n : Nat) : DFn P w K mg base (4 + n) "counted_figures" [0, 0, 0] none (F_counted_figures n) := (d_rec_either_figures T n).2.2.1
theorem d_statement_figures (T : Top K mg) (n : Nat) : DFn P w K mg base (4 + n) "statement_figures" [0, 0, 0] none (F_statement_figures n) := (d_rec_either_figures T n).2.2.2.1
theorem d_body_figures (T : Top K mg) (n : Nat) : DFn P w K mg base (4 + n) "body_figures" [0, 0, 0] none (F_body_figures n) := (d_rec_either_figures T n).2.2.2.2
noncomputable def F_is_integer : Fn := mkF 1 [0] none
  ((sRet (dAndV (dCallB gIsi (dCons (dVar 0) (dCons (dConst (.ty "int")) dNil))) (dUn gNot (dCallB gIsi (dCons (dVar 0) (dCons (dConst (.ty "bool")) dNil)))))))
theorem sc_is_integer : FnScope ["thing"] ["thing"] (defScope (topS 27)) := ⟨rfl, rfl, rfl, by decide +kernel, rfl, by decide +kernel, by decide +kernel⟩
theorem ok_is_integer (T : Top K mg) {f : Addr} {fd : FuncData} (h2 : Fun K "is_integer" "is_integer" (topS 27) f fd) : FnOk P w K mg base CX0 1 f fd ["thing"] (spD K [0] none F_is_integer) :=
  fun_ok (lv := [0]) h2 sc_is_integer rfl rfl fun cdv A outer s H H0 vs E M Z hr =>
    (dss_one (ds_ret (de_and (de_callB c_isi_o c_isi T.b_isinstance (by decide +kernel) (das_cons (de_var 0) (das_cons (de_tyn T.b_int (by decide +kernel)) das_nil (hq := hF)) (hq := hF))) (de_one (de_not (de_callB c_isi_o c_isi T.b_isinstance (by decide +kernel) (das_cons (de_var 0) (das_cons (de_tyn T.b_bool (by decide +kernel)) das_nil (hq := hF)) (hq := hF))))))))
theorem d_is_integer (T : Top K mg) : DFn P w K mg base 1 "is_integer" [0] none F_is_integer := by
  obtain ⟨f, fd, h1, h2, h3⟩ := T.f_is_integer
  exact ⟨f, fd, ["thing"], h1, h2.kp, .all h3, ok_is_integer T h2⟩
noncomputable def F_is_number : Fn := mkF 1 [0] none
  ((sRet (dAndV (dCall [.s] F_is_integer (aS (dVar 0) aNil)) (dOp gGe (dVar 0) (dConst (.int 0))))))
theorem sc_is_number : FnScope ["thing"] ["thing"] (defScope (topS 28)) := ⟨rfl, rfl, rfl, by decide +kernel, rfl, by decide +kernel, by decide +kernel⟩
theorem ok_is_number (T : Top K mg) {f : Addr} {fd : FuncData} (h2 : Fun K "is_number" "is_number" (topS 28) f fd) : FnOk P w K mg base CX0 2 f fd ["thing"] (spD K [0] none F_is_number) :=
  fun_ok (lv := [0]) h2 sc_is_number rfl rfl fun cdv A outer s H H0 vs E M Z hr =>
    (dss_one (ds_ret (de_and (de_call (d_is_integer T) hr (by decide) (da_s (de_var 0) da_nil)) (de_one (e_ge (de_var 0) de_int hF)))))
theorem d_is_number (T : Top K mg) : DFn P w K mg base 2 "is_number" [0] none F_is_number := by
  obtain ⟨f, fd, h1, h2, h3⟩ := T.f_is_number
  exact ⟨f, fd, ["thing"], h1, h2.kp, .all h3, ok_is_number T h2⟩
noncomputable def F_is_tuple : Fn := mkF 2 [0, 0] none
  ((sRet (dAndV (dCallB gIsi (dCons (dVar 0) (dCons (dConst (.ty "tuple")) dNil))) (dOp gEq (dCallB gLen (dCons (dVar 0) dNil)) (dVar 1)))))
theorem sc_is_tuple : FnScope ["thing", "many"] ["thing", "many"] (defScope (topS 29)) := ⟨rfl, rfl, rfl, by decide +kernel, rfl, by decide +kernel, by decide +kernel⟩
theorem ok_is_tuple (T : Top K mg) {f : Addr} {fd : FuncData} (h2 : Fun K "is_tuple" "is_tuple" (topS 29) f fd) : FnOk P w K mg base CX0 1 f fd ["thing", "many"] (spD K [0, 0] none F_is_tuple) :=
  fun_ok (lv := [0, 0]) h2 sc_is_tuple rfl rfl fun cdv A outer s H H0 vs E M Z hr =>
    (dss_one (ds_ret (de_and (de_callB c_isi_o c_isi T.b_isinstance (by decide +kernel) (das_cons (de_var 0) (das_cons (de_tyn T.b_tuple (by decide +kernel)) das_nil (hq := hF)) (hq := hF))) (de_one (e_eq (de_callB call_len c_len T.b_len (by decide +kernel) (das_cons (de_var 0) das_nil (hq := hF))) (de_var 1) hF hr)))))
theorem d_is_tuple (T : Top K mg) : DFn P w K mg base 1 "is_tuple" [0, 0] none F_is_tuple := by
  obtain ⟨f, fd, h1, h2, h3⟩ := T.f_is_tuple
  exact ⟨f, fd, ["thing", "many"], h1, h2.kp, .all h3, ok_is_tuple T h2⟩
noncomputable def F_is_need : Fn := mkF 1 [0] none
  ((sRet (dOrV (dAndV (dCallB gIsi (dCons (dVar 0) (dCons (dConst (.ty "str")) dNil))) (dOp gEq (dVar 0) (dConst (.str "deep")))) (dAndV (dCall [.s] F_is_number (aS (dVar 0) aNil)) (dOp gLt (dVar 0) (dConst (.int 1000000000000000000000000000000000000000000000000000000000000)))))))
theorem sc_is_need : FnScope ["thing"] ["thing"] (defScope (topS 32)) := ⟨rfl, rfl, rfl, by decide +kernel, rfl, by decide +kernel, by decide +kernel⟩
theorem ok_is_need (T : Top K mg) {f : Addr} {fd : FuncData} (h2 : Fun K "is_need" "is_need" (topS 32) f fd) : FnOk P w K mg base CX0 3 f fd ["thing"] (spD K [0] none F_is_need) :=
  fun_ok (lv := [0]) h2 sc_is_need rfl rfl fun cdv A outer s H H0 vs E M Z hr =>
    (dss_one (ds_ret (de_or (de_and (de_callB c_isi_o c_isi T.b_isinstance (by decide +kernel) (das_cons (de_var 0) (das_cons (de_tyn T.b_str (by decide +kernel)) das_nil (hq := hF)) (hq := hF))) (de_one (e_eq (de_var 0) de_str hF hr))) (de_one (de_and (de_call (d_is_number T) hr (by decide) (da_s (de_var 0) da_nil)) (de_one (e_lt (de_var 0) (de_top T.g_SIZE_MOST) hF hr)))))))
theorem d_is_need (T : Top K mg) : DFn P w K mg base 3 "is_need" [0] none F_is_need := by
  obtain ⟨f, fd, h1, h2, h3⟩ := T.f_is_need
  exact ⟨f, fd, ["thing"], h1, h2.kp, .all h3, ok_is_need T h2⟩
noncomputable def F_is_low : Fn := mkF 1 [0] none
  ((sSeq (sIf (dTru (dCallB gIsi (dCons (dVar 0) (dCons (dConst (.ty "str")) dNil))))
  (sRet (dOp (gIn false) (dVar 0) (dTup (dCons (dConst (.str "deep")) (dCons (dConst (.str "never")) dNil)))))
  sNil)
  (sRet (dAndV (dCall [.s] F_is_integer (aS (dVar 0) aNil)) (dOp gLt (dCallB gAbs (dCons (dVar 0) dNil)) (dConst (.int 1000000000000000000000000000000000000000000000000000000000000)))))))
theorem sc_is_low : FnScope ["thing"] ["thing"] (defScope (topS 33)) := ⟨rfl, rfl, rfl, by decide +kernel, rfl, by decide +kernel, by decide +kernel⟩
theorem ok_is_low (T : Top K mg) {f : Addr} {fd : FuncData} (h2 : Fun K "is_low" "is_low" (topS 33) f fd) : FnOk P w K mg base CX0 2 f fd ["thing"] (spD K [0] none F_is_low) :=
  fun_ok (lv := [0]) h2 sc_is_low rfl rfl fun cdv A outer s H H0 vs E M Z hr =>
    (dss_cons (ds_if (dt_tru (b := false) (de_callB c_isi_o c_isi T.b_isinstance (by decide +kernel) (das_cons (de_var 0) (das_cons (de_tyn T.b_str (by decide +kernel)) das_nil (hq := hF)) (hq := hF))))
    (dss_one (ds_ret (e_in (de_var 0) (de_tup (das_cons de_str (das_cons de_str das_nil (hq := hF)) (hq := hF))) hF rfl)))
    dss_nil)
    (dss_one (ds_ret (de_and (de_call (d_is_integer T) hr (by decide) (da_s (de_var 0) da_nil)) (de_one (e_lt (de_callB call_abs c_abs T.b_abs (by decide +kernel) (das_cons (de_var 0) das_nil (hq := hF))) (de_top T.g_SIZE_MOST) hF hr))))))
theorem d_is_low (T : Top K mg) : DFn P w K mg base 2 "is_low" [0] none F_is_low := by
  obtain ⟨f, fd, h1, h2, h3⟩ := T.f_is_low
  exact ⟨f, fd, ["thing"], h1, h2.kp, .all h3, ok_is_low T h2⟩
noncomputable def F_is_pair : Fn := mkF 1 [0] none
  ((sRet (dAndV (dCall [.s, .s] F_is_tuple (aS (dVar 0) (aS (dConst (.int 2)) aNil))) (dAndV (dCall [.s] F_is_need (aS (dOp gIx (dVar 0) (dConst (.int 0))) aNil)) (dCall [.s] F_is_low (aS (dOp gIx (dVar 0) (dConst (.int 1))) aNil))))))
theorem sc_is_pair : FnScope ["thing"] ["thing"] (defScope (topS 34)) := ⟨rfl, rfl, rfl, by decide +kernel, rfl, by decide +kernel, by decide +kernel⟩
theorem ok_is_pair (T : Top K mg) {f : Addr} {fd : FuncData} (h2 : Fun K "is_pair" "is_pair" (topS 34) f fd) : FnOk P w K mg base CX0 4 f fd ["thing"] (spD K [0] none F_is_pair) :=
  fun_ok (lv := [0]) h2 sc_is_pair rfl rfl fun cdv A outer s H H0 vs E M Z hr =>
    (dss_one (ds_ret (de_and (de_call (d_is_tuple T) hr (by decide) (da_s (de_var 0) (da_s de_int da_nil))) (de_and (de_call (d_is_need T) hr (by decide) (da_s (e_ix (de_var 0) de_int hF) da_nil)) (de_one (de_call (d_is_low T) hr (by decide) (da_s (e_ix (de_var 0) de_int hF) da_nil)))))))
theorem d_is_pair (T : Top K mg) : DFn P w K mg base 4 "is_pair" [0] none F_is_pair := by
  obtain ⟨f, fd, h1, h2, h3⟩ := T.f_is_pair
  exact ⟨f, fd, ["thing"], h1, h2.kp, .all h3, ok_is_pair T h2⟩
noncomputable def F_table_fault : Fn := mkF 5 [0, 0] none
  ((sSeq (sIf (dNot (dTru (dCall [.s, .s] F_is_tuple (aS (dVar 1) (aS (dCallB gLen (dCons (dOp gIx (dVar 0) (dConst (.int 1))) dNil)) aNil)))))
  (sRet (dTup (dCons (dUn gNeg (dConst (.int 1))) (dCons (dConst (.str "shape")) dNil))))
  sNil)
  (sSeq (sFor (dEnum (dCons (dVar 1) dNil)) (gtTup 2 (gtCons (gtName 2) (gtCons (gtName 3) gtNil)))
  (sSeq (sIf (dNot (dTru (dCall [.s, .s] F_is_tuple (aS (dVar 3) (aS (dCallB gLen (dCons (dOp gIx (dVar 0) (dConst (.int 0))) dNil)) aNil)))))
  (sRet (dTup (dCons (dVar 2) (dCons (dConst (.str "row")) dNil))))
  sNil)
  (sIf (dNot (dTru (dCallB gAllA (dCons (dComp (dSeqI (dVar 3)) [4] (gtName 4) dYes (dCall [.s] F_is_pair (aS (dVar 4) aNil))) dNil))))
  (sRet (dTup (dCons (dVar 2) (dCons (dConst (.str "pair")) dNil))))
  sNil)))
  (sRet (dConst .non)))))
theorem sc_table_fault : FnScope ["program", "thing", "at", "row", "pair"] ["program", "thing"] (defScope (topS 35)) := ⟨rfl, rfl, rfl, by decide +kernel, rfl, by decide +kernel, by decide +kernel⟩
theorem ok_table_fault (T : Top K mg) {f : Addr} {fd : FuncData} (h2 : Fun K "table_fault" "table_fault" (topS 35) f fd) : FnOk P w K mg base CX0 5 f fd ["program", "thing"] (spD K [0, 0] none F_table_fault) :=
  fun_ok (lv := [0, 0, 0, 0, 0]) h2 sc_table_fault rfl rfl fun cdv A outer s H H0 vs E M Z hr =>
    (dss_cons (ds_if (dt_not (dt_tru (b := false) (de_call (d_is_tuple T) hr (by decide) (da_s (de_var 1) (da_s (de_callB call_len c_len T.b_len (by decide +kernel) (das_cons (e_ix (de_var 0) de_int hF) das_nil (hq := hF))) da_nil)))))
    (dss_one (ds_ret (de_tup (das_cons (e_neg de_int) (das_cons de_str das_nil (hq := hF)) (hq := hF)))))
    dss_nil)
    (dss_cons (ds_for PassesOwn.never rfl (di_enum T.b_enumerate (das_cons (de_var 1) das_nil (hq := hF))) (dg_tup rfl (dgs_cons (dg_name 2 sc_table_fault.nd) (dgs_cons (dg_name 3 sc_table_fault.nd) dgs_nil)))
    (dss_cons (ds_if (dt_not (dt_tru (b := false) (de_call (d_is_tuple T) hr (by decide) (da_s (de_var 3) (da_s (de_callB call_len c_len T.b_len (by decide +kernel) (das_cons (e_ix (de_var 0) de_int hF) das_nil (hq := hF))) da_nil)))))
    (dss_one (ds_ret (de_tup (das_cons (de_var 2) (das_cons de_str das_nil (hq := hF)) (hq := hF)))))
    dss_nil)
    (dss_one (ds_if (dt_not (dt_tru (b := false) (de_callB (cr_allA rfl) c_allA T.b_all (by decide +kernel) (das_cons (de_f (df_lc (own := [("pair", 4)]) rfl sc_table_fault.nd (di_seq (de_var 3)) (blkOk_by (own := [("pair", 4)]) (N := ["program", "thing", "at", "row", "pair"]) (sc := defScope (topS 35)) (by decide +kernel)) (fun _ _ _ _ _ => (dg_name 4 sc_table_fault.nd)) (fun _ _ _ _ _ => dts_nil) (fun _ _ _ _ _ => (de_call (d_is_pair T) hr (by decide) (da_s (de_var 4) da_nil))))) das_nil (hq := hF)))))
    (dss_one (ds_ret (de_tup (das_cons (de_var 2) (das_cons de_str das_nil (hq := hF)) (hq := hF)))))
    dss_nil))))
    (dss_one (ds_ret de_non))))
theorem d_table_fault (T : Top K mg) : DFn P w K mg base 5 "table_fault" [0, 0] none F_table_fault := by
  obtain ⟨f, fd, h1, h2, h3⟩ := T.f_table_fault
  exact ⟨f, fd, ["program", "thing"], h1, h2.kp, .all h3, ok_table_fault T h2⟩
noncomputable def F_is_kept : Fn := mkF 8 [0, 0, 0, 0] none
  ((sSeq (sAsg (dCall [.s, .s, .s] (F_body_figures 6) (aS (dVar 1) (aS (dOp gIx (dOp gIx (dVar 0) (dConst (.int 2))) (dVar 2)) (aS (dVar 3) aNil)))) (gtTup 3 (gtCons (gtName 4) (gtCons (gtName 5) (gtCons (gtName 6) gtNil)))))
  (sSeq (sSet 7 (dOp gIx (dOp gIx (dVar 1) (dVar 2)) (dVar 3)))
  (sRet (dAndV (dUn gNot (dCall [.s, .s] F_need_less (aS (dOp gIx (dVar 7) (dConst (.int 0))) (aS (dVar 4) aNil)))) (dUn gNot (dCall [.s, .s] F_low_less (aS (dCall [.s] F_least_low (aS (dTup (dCons (dVar 5) (dCons (dVar 6) dNil))) aNil)) (aS (dOp gIx (dVar 7) (dConst (.int 1))) aNil)))))))))
theorem sc_is_kept : FnScope ["program", "table", "procedure", "purse", "need", "through", "back", "told"] ["program", "table", "procedure", "purse"] (defScope (topS 36)) := ⟨rfl, rfl, rfl, by decide +kernel, rfl, by decide +kernel, by decide +kernel⟩
theorem ok_is_kept (T : Top K mg) {f : Addr} {fd : FuncData} (h2 : Fun K "is_kept" "is_kept" (topS 36) f fd) : FnOk P w K mg base CX0 11 f fd ["program", "table", "procedure", "purse"] (spD K [0, 0, 0, 0] none F_is_kept) :=
  fun_ok (lv := [0, 0, 0, 0, 0, 0, 0, 0]) h2 sc_is_kept rfl rfl fun cdv A outer s H H0 vs E M Z hr =>
    (dss_cons (ds_asg (de_call (d_body_figures T 6) hr (by decide) (da_s (de_var 1) (da_s (e_ix (e_ix (de_var 0) de_int hF) (de_var 2) hF) (da_s (de_var 3) da_nil)))) (dg_tup rfl (dgs_cons (dg_name 4 sc_is_kept.nd) (dgs_cons (dg_name 5 sc_is_kept.nd) (dgs_cons (dg_name 6 sc_is_kept.nd) dgs_nil)))))
    (dss_cons (ds_set 7 sc_is_kept.nd (e_ix (e_ix (de_var 1) (de_var 2) hF) (de_var 3) hF))
    (dss_one (ds_ret (de_and (de_not (de_call (d_need_less T) hr (by decide) (da_s (e_ix (de_var 7) de_int hF) (da_s (de_var 4) da_nil)))) (de_one (de_not (de_call (d_low_less T) hr (by decide) (da_s (de_call (d_least_low T) hr (by decide) (da_s (de_tup (das_cons (de_var 5) (das_cons (de_var 6) das_nil (hq := hF)) (hq := hF))) da_nil)) (da_s (e_ix (de_var 7) de_int hF) da_nil))))))))))
theorem d_is_kept (T : Top K mg) : DFn P w K mg base 11 "is_kept" [0, 0, 0, 0] none F_is_kept := by
  obtain ⟨f, fd, h1, h2, h3⟩ := T.f_is_kept
  exact ⟨f, fd, ["program", "table", "procedure", "purse"], h1, h2.kp, .all h3, ok_is_kept T h2⟩
noncomputable def F_open_pairs : Fn := mkF 5 [0, 0] none
  ((sSeq (sSet 2 (dLst dNil))
  (sSeq (sFor (dRng1 (dCallB gLen (dCons (dOp gIx (dVar 0) (dConst (.int 1))) dNil))) (gtName 3)
  (sFor (dRng1 (dCallB gLen (dCons (dOp gIx (dVar 0) (dConst (.int 0))) dNil))) (gtName 4)
  (sIf (dNot (dTru (dCall [.s, .s, .s, .s] F_is_kept (aS (dVar 0) (aS (dVar 1) (aS (dVar 3) (aS (dVar 4) aNil)))))))
  (sApp 2 (dTup (dCons (dVar 3) (dCons (dVar 4) dNil))))
  sNil)))
  (sRet (dCalm (dCallB gTupOf (dCons (dVar 2) dNil)))))))
theorem sc_open_pairs : FnScope ["program", "table", "found", "procedure", "purse"] ["program", "table"] (defScope (topS 37)) := ⟨rfl, rfl, rfl, by decide +kernel, rfl, by decide +kernel, by decide +kernel⟩
theorem ok_open_pairs (T : Top K mg) {f : Addr} {fd : FuncData} (h2 : Fun K "open_pairs" "open_pairs" (topS 37) f fd) : FnOk P w K mg base CX0 12 f fd ["program", "table"] (spD K [0, 0] none F_open_pairs) :=
  fun_ok (lv := [0, 0, 1, 0, 0]) h2 sc_open_pairs rfl rfl fun cdv A outer s H H0 vs E M Z hr =>
    (dss_cons (ds_new 2 sc_open_pairs.nd (df_lst das_nil))
    (dss_cons (ds_for PassesOwn.never rfl (di_rng1 T.b_range (de_callB call_len c_len T.b_len (by decide +kernel) (das_cons (e_ix (de_var 0) de_int hF) das_nil (hq := hF)))) (dg_name 3 sc_open_pairs.nd)
    (dss_one (ds_for PassesOwn.never rfl (di_rng1 T.b_range (de_callB call_len c_len T.b_len (by decide +kernel) (das_cons (e_ix (de_var 0) de_int hF) das_nil (hq := hF)))) (dg_name 4 sc_open_pairs.nd)
    (dss_one (ds_if (dt_not (dt_tru (b := false) (de_call (d_is_kept T) hr (by decide) (da_s (de_var 0) (da_s (de_var 1) (da_s (de_var 3) (da_s (de_var 4) da_nil)))))))
    (dss_one (ds_app 2 (de_tup (das_cons (de_var 3) (das_cons (de_var 4) das_nil (hq := hF)) (hq := hF)))))
    dss_nil)))))
    (dss_one (ds_ret (de_q (de_calm (de_callTy call_tuple_of c_tuple T.b_tuple (by decide +kernel) (das_cons (de_bor 2) das_nil (hq := hT)))))))))
theorem d_open_pairs (T : Top K mg) : DFn P w K mg base 12 "open_pairs" [0, 0] none F_open_pairs := by
  obtain ⟨f, fd, h1, h2, h3⟩ := T.f_open_pairs
  exact ⟨f, fd, ["program", "table"], h1, h2.kp, .all h3, ok_open_pairs T h2⟩
noncomputable def F_is_closed : Fn := mkF 2 [0, 0] none
  ((sRet (dAndV (dOp gIsN (dCall [.s, .s] F_table_fault (aS (dVar 0) (aS (dVar 1) aNil))) (dConst .non)) (dOp gEq (dCall [.s, .s] F_open_pairs (aS (dVar 0) (aS (dVar 1) aNil))) (dTup dNil)))))
theorem sc_is_closed : FnScope ["program", "thing"] ["program", "thing"] (defScope (topS 38)) := ⟨rfl, rfl, rfl, by decide +kernel, rfl, by decide +kernel, by decide +kernel⟩
theorem ok_is_closed (T : Top K mg) {f : Addr} {fd : FuncData} (h2 : Fun K "is_closed" "is_closed" (topS 38) f fd) : FnOk P w K mg base CX0 13 f fd ["program", "thing"] (spD K [0, 0] none F_is_closed) :=
  fun_ok (lv := [0, 0]) h2 sc_is_closed rfl rfl fun cdv A outer s H H0 vs E M Z hr =>
    (dss_one (ds_ret (de_and (e_is (de_call (d_table_fault T) hr (by decide) (da_s (de_var 0) (da_s (de_var 1) da_nil))) de_non hF) (de_one (e_eq (de_call (d_open_pairs T) hr (by decide) (da_s (de_var 0) (da_s (de_var 1) da_nil))) (de_tup das_nil) hF hr)))))
theorem d_is_closed (T : Top K mg) : DFn P w K mg base 13 "is_closed" [0, 0] none F_is_closed := by
  obtain ⟨f, fd, h1, h2, h3⟩ := T.f_is_closed
  exact ⟨f, fd, ["program", "thing"], h1, h2.kp, .all h3, ok_is_closed T h2⟩
noncomputable def F__law_jar : Fn := mkF 5 [0] (some 1)
  ((sSeq (sSet 1 (dConst (.int 5323)))
  (sSeq (sSet 2 (dLst dNil))
  (sSeq (sFor (dSeqI (dSl gCutL (dVar 0) dNoPart (dPart (dConst (.int 61))))) (gtName 3)
  (sSeq (sSet 4 (dOp gMod (dCallB gAbs (dCons (dCallB gIntOf (dCons (dVar 3) dNil)) dNil)) (dOp gShl (dConst (.int 1)) (dConst (.int 2000)))))
  (sSeq (sSet 1 (dOp gMod (dCallB gIntOf (dCons (dOp gAdd (dOp gAdd (dOp gMul (dVar 1) (dConst (.int 48271))) (dOp gMod (dCallB gIntOf (dCons (dVar 4) dNil)) (dConst (.int 2147483629)))) (dConst (.int 83))) dNil)) (dConst (.int 2147483629))))
  (sIf (dBool (dOp gGe (dVar 4) (dOp gPow (dConst (.int 10)) (dConst (.int 18)))))
  (sApp 2 (dVar 4))
  sNil))))
  (sRet (dLst (dCons (dTake 2) (dConsN (dVar 1) dNil))))))))
theorem sc__law_jar : FnScope ["script", "mixed", "deep", "cell", "size"] ["script"] (defScope (topS 40)) := ⟨rfl, rfl, rfl, by decide +kernel, rfl, by decide +kernel, by decide +kernel⟩
theorem ok__law_jar (T : Top K mg) {f : Addr} {fd : FuncData} (h2 : Fun K "_law_jar" "_law_jar" (topS 40) f fd) : FnOk P w K mg base CX0 1 f fd ["script"] (spD K [0] (some 1) F__law_jar) :=
  fun_ok (lv := [0, 0, 1, 0, 0]) h2 sc__law_jar rfl rfl fun cdv A outer s H H0 vs E M Z hr =>
    (dss_cons (ds_set 1 sc__law_jar.nd de_int)
    (dss_cons (ds_new 2 sc__law_jar.nd (df_lst das_nil))
    (dss_cons (ds_for PassesOwn.never rfl (di_seq (de_f (df_sl (de_var 0) do_none (do_some (b := false) de_int)))) (dg_name 3 sc__law_jar.nd)
    (dss_cons (ds_set 4 sc__law_jar.nd (e_mod (de_callB call_abs c_abs T.b_abs (by decide +kernel) (das_cons (de_callTy call_int1 c_int T.b_int (by decide +kernel) (das_cons (de_var 3) das_nil (hq := hF))) das_nil (hq := hF))) (e_shl de_int de_int hF) hF))
    (dss_cons (ds_set 1 sc__law_jar.nd (e_mod (de_callTy call_int1 c_int T.b_int (by decide +kernel) (das_cons (e_add (e_add (e_mul (de_var 1) de_int hF) (e_mod (de_callTy call_int1 c_int T.b_int (by decide +kernel) (das_cons (de_var 4) das_nil (hq := hF))) de_int hF) hF) de_int hF) das_nil (hq := hF))) de_int hF))
    (dss_one (ds_if (t_ge (de_var 4) (e_pow de_int de_int hF) hF)
    (dss_one (ds_app 2 (de_var 4)))
    dss_nil)))))
    (dss_one (ds_retF (df_lstO (dis_f (df_own 2) (dis_n (de_var 1) dis_nil))))))))
theorem d__law_jar (T : Top K mg) : DFn P w K mg base 1 "_law_jar" [0] (some 1) F__law_jar := by
  obtain ⟨f, fd, h1, h2, h3⟩ := T.f__law_jar
  exact ⟨f, fd, ["script"], h1, h2.kp, .all h3, ok__law_jar T h2⟩
noncomputable def F__law_take : Fn := mkF 3 [2, 0] none
  ((sSeq (sIf (dBool (dOp gGt (dCalm (dCallB gLen (dCons (dOp gIx (dVar 0) (dConst (.int 0))) dNil))) (dConst (.int 0))))
  (sSeq (sSet 2 (dOp gMod (dCalm (dCallB gIntOf (dCons (dOp gIx (dOp gIx (dVar 0) (dConst (.int 0))) (dConst (.int 0))) dNil))) (dVar 1)))
  (sSeq (sPut2 0 0 0 (dOp gFdiv (dCalm (dOp gIx (dOp gIx (dVar 0) (dConst (.int 0))) (dConst (.int 0)))) (dVar 1)))
  (sSeq (sIf (dBool (dOp gEq (dOp gIx (dOp gIx (dVar 0) (dConst (.int 0))) (dConst (.int 0))) (dConst (.int 0))))
  (sDrop (dPop2 0 0 0))
  sNil)
  (sRet (dVar 2)))))
  sNil)
  (sSeq (sPutO 0 1 (dOp gMod (dCallB gIntOf (dCons (dOp gAdd (dOp gMul (dCalm (dOp gIx (dVar 0) (dConst (.int 1)))) (dConst (.int 45991))) (dConst (.int 2411))) dNil)) (dConst (.int 2147483563))))
  (sRet (dOp gMod (dCallB gIntOf (dCons (dOp gFdiv (dCalm (dOp gIx (dVar 0) (dConst (.int 1)))) (dConst (.int 11))) dNil)) (dVar 1))))))
theorem sc__law_take : FnScope ["jar", "many", "digit"] ["jar", "many"] (defScope (topS 41)) := ⟨rfl, rfl, rfl, by decide +kernel, rfl, by decide +kernel, by decide +kernel⟩
theorem ok__law_take (T : Top K mg) {f : Addr} {fd : FuncData} (h2 : Fun K "_law_take" "_law_take" (topS 41) f fd) : FnOk P w K mg base CX0 1 f fd ["jar", "many"] (spD K [2, 0] none F__law_take) :=
  fun_ok (lv := [2, 0, 0]) h2 sc__law_take rfl rfl fun cdv A outer s H H0 vs E M Z hr =>
    (dss_cons (ds_if (t_gt (de_q (de_calm (de_callB call_len c_len T.b_len (by decide +kernel) (das_cons (e_ix (de_bor 0) (de_b de_int) hT) das_nil (hq := hT))))) de_int hF hr)
    (dss_cons (ds_set 2 sc__law_take.nd (e_mod (de_q (de_calm (de_callTy call_int1 c_int T.b_int (by decide +kernel) (das_cons (e_ix (e_ix (de_bor 0) (de_b de_int) hT) (de_b de_int) hT) das_nil (hq := hT))))) (de_var 1) hF))
    (dss_cons (ds_put2 0 0 0 (e_fdiv (de_q (de_calm (e_ix (e_ix (de_bor 0) (de_b de_int) hT) (de_b de_int) hT))) (de_var 1) hF))
    (dss_cons (ds_if (dt_q (t_eq (e_ix (e_ix (de_bor 0) (de_b de_int) hT) (de_b de_int) hT) (de_b de_int) hT hr))
    (dss_one (ds_drop (de_pop2 0 0 0)))
    dss_nil)
    (dss_one (ds_ret (de_var 2))))))
    dss_nil)
    (dss_cons (ds_putO 0 1 (e_mod (de_callTy call_int1 c_int T.b_int (by decide +kernel) (das_cons (e_add (e_mul (de_q (de_calm (e_ix (de_bor 0) (de_b de_int) hT))) de_int hF) de_int hF) das_nil (hq := hF))) de_int hF))
    (dss_one (ds_ret (e_mod (de_callTy call_int1 c_int T.b_int (by decide +kernel) (das_cons (e_fdiv (de_q (de_calm (e_ix (de_bor 0) (de_b de_int) hT))) de_int hF) das_nil (hq := hF))) (de_var 1) hF)))))
theorem d__law_take (T : Top K mg) : DFn P w K mg base 1 "_law_take" [2, 0] none F__law_take := by
  obtain ⟨f, fd, h1, h2, h3⟩ := T.f__law_take
  exact ⟨f, fd, ["jar", "many"], h1, h2.kp, .all h3, ok__law_take T h2⟩
noncomputable def F__law_same : Fn := mkF 6 [0, 0] none
  ((sSeq (sSet 2 (dLst (dCons (dTup (dCons (dVar 0) (dCons (dVar 1) dNil))) dNil)))
  (sSeq (sWhile (dBool (dOp gGt (dCalm (dCallB gLen (dCons (dVar 2) dNil))) (dConst (.int 0))))
  (sSeq (sAsg (dPop 2) (gtTup 2 (gtCons (gtName 3) (gtCons (gtName 4) gtNil))))
  (sIf (dTru (dCallB gIsi (dCons (dVar 4) (dCons (dTup (dCons (dConst (.ty "tuple")) (dCons (dConst (.ty "list")) dNil))) dNil))))
  (sSeq (sIf (dOr (dAnd (dTru (dCallB gIsi (dCons (dVar 4) (dCons (dConst (.ty "tuple")) dNil)))) (dNot (dTru (dCallB gIsi (dCons (dVar 3) (dCons (dConst (.ty "tuple")) dNil)))))) (dAnd (dTru (dCallB gIsi (dCons (dVar 4) (dCons (dConst (.ty "list")) dNil)))) (dNot (dTru (dCallB gIsi (dCons (dVar 3) (dCons (dConst (.ty "list")) dNil)))))))
  (sRet (dConst (.bl false)))
  sNil)
  (sSeq (sIf (dNot (dBool (dOp gEq (dCallB gLen (dCons (dVar 3) dNil)) (dCallB gLen (dCons (dVar 4) dNil)))))
  (sRet (dConst (.bl false)))
  sNil)
  (sFor (dRng1 (dCallB gLen (dCons (dVar 4) dNil))) (gtName 5)
  (sApp 2 (dTup (dCons (dOp gIx (dVar 3) (dVar 5)) (dCons (dOp gIx (dVar 4) (dVar 5)) dNil)))))))
  (sIf (dBool (dOp gIsN (dVar 4) (dConst .non)))
  (sIf (dBool (dOp gNotN (dVar 3) (dConst .non)))
  (sRet (dConst (.bl false)))
  sNil)
  (sIf (dTru (dCallB gIsi (dCons (dVar 4) (dCons (dConst (.ty "bool")) dNil))))
  (sIf (dOr (dNot (dTru (dCallB gIsi (dCons (dVar 3) (dCons (dConst (.ty "bool")) dNil))))) (dNot (dBool (dOp gEq (dVar 3) (dVar 4)))))
  (sRet (dConst (.bl false)))
  sNil)
  (sIf (dTru (dCallB gIsi (dCons (dVar 4) (dCons (dConst (.ty "str")) dNil))))
  (sIf (dOr (dNot (dTru (dCallB gIsi (dCons (dVar 3) (dCons (dConst (.ty "str")) dNil))))) (dNot (dBool (dOp gEq (dVar 3) (dVar 4)))))
  (sRet (dConst (.bl false)))
  sNil)
  (sIf (dOr (dNot (dTru (dCallB gIsi (dCons (dVar 3) (dCons (dConst (.ty "int")) dNil))))) (dOr (dTru (dCallB gIsi (dCons (dVar 3) (dCons (dConst (.ty "bool")) dNil)))) (dNot (dBool (dOp gEq (dVar 3) (dVar 4))))))
  (sRet (dConst (.bl false)))
  sNil)))))))
  (sRet (dConst (.bl true))))))
theorem sc__law_same : FnScope ["told", "due", "waiting", "one", "other", "at"] ["told", "due"] (defScope (topS 42)) := ⟨rfl, rfl, rfl, by decide +kernel, rfl, by decide +kernel, by decide +kernel⟩
theorem ok__law_same (T : Top K mg) {f : Addr} {fd : FuncData} (h2 : Fun K "_law_same" "_law_same" (topS 42) f fd) : FnOk P w K mg base CX0 1 f fd ["told", "due"] (spD K [0, 0] none F__law_same) :=
  fun_ok (lv := [0, 0, 1, 0, 0, 0]) h2 sc__law_same rfl rfl fun cdv A outer s H H0 vs E M Z hr =>
    (dss_cons (ds_new 2 sc__law_same.nd (df_lst (das_cons (de_tup (das_cons (de_var 0) (das_cons (de_var 1) das_nil (hq := hF)) (hq := hF))) das_nil (hq := hF))))
    (dss_cons (ds_while PassesOwn.never (t_gt (de_q (de_calm (de_callB call_len c_len T.b_len (by decide +kernel) (das_cons (de_bor 2) das_nil (hq := hT))))) de_int hF hr)
    (dss_cons (ds_asg (de_pop 2) (dg_tup rfl (dgs_cons (dg_name 3 sc__law_same.nd) (dgs_cons (dg_name 4 sc__law_same.nd) dgs_nil))))
    (dss_one (ds_if (dt_tru (b := false) (de_callB c_isi_o c_isi T.b_isinstance (by decide +kernel) (das_cons (de_var 4) (das_cons (de_tup (das_cons (de_tyn T.b_tuple (by decide +kernel)) (das_cons (de_tyn T.b_list (by decide +kernel)) das_nil (hq := hF)) (hq := hF))) das_nil (hq := hF)) (hq := hF))))
    (dss_cons (ds_if (dw_dt (dw_or (dw_dt (dw_and (dt_tru (b := false) (de_callB c_isi_o c_isi T.b_isinstance (by decide +kernel) (das_cons (de_var 4) (das_cons (de_tyn T.b_tuple (by decide +kernel)) das_nil (hq := hF)) (hq := hF)))) (dw_and1 (dt_not (dt_tru (b := false) (de_callB c_isi_o c_isi T.b_isinstance (by decide +kernel) (das_cons (de_var 3) (das_cons (de_tyn T.b_tuple (by decide +kernel)) das_nil (hq := hF)) (hq := hF)))))))) (dw_or1 (dw_dt (dw_and (dt_tru (b := false) (de_callB c_isi_o c_isi T.b_isinstance (by decide +kernel) (das_cons (de_var 4) (das_cons (de_tyn T.b_list (by decide +kernel)) das_nil (hq := hF)) (hq := hF)))) (dw_and1 (dt_not (dt_tru (b := false) (de_callB c_isi_o c_isi T.b_isinstance (by decide +kernel) (das_cons (de_var 3) (das_cons (de_tyn T.b_list (by decide +kernel)) das_nil (hq := hF)) (hq := hF)))))))))))
    (dss_one (ds_ret de_bl))
    dss_nil)
    (dss_cons (ds_if (dt_not (t_eq (de_callB call_len c_len T.b_len (by decide +kernel) (das_cons (de_var 3) das_nil (hq := hF))) (de_callB call_len c_len T.b_len (by decide +kernel) (das_cons (de_var 4) das_nil (hq := hF))) hF hr))
    (dss_one (ds_ret de_bl))
    dss_nil)
    (dss_one (ds_for PassesOwn.never rfl (di_rng1 T.b_range (de_callB call_len c_len T.b_len (by decide +kernel) (das_cons (de_var 4) das_nil (hq := hF)))) (dg_name 5 sc__law_same.nd)
    (dss_one (ds_app 2 (de_tup (das_cons (e_ix (de_var 3) (de_var 5) hF) (das_cons (e_ix (de_var 4) (de_var 5) hF) das_nil (hq := hF)) (hq := hF)))))))))
    (dss_one (ds_if (t_is (de_var 4) de_non hF)
    (dss_one (ds_if (t_isnot (de_var 3) de_non hF)
    (dss_one (ds_ret de_bl))
    dss_nil))
    (dss_one (ds_if (dt_tru (b := false) (de_callB c_isi_o c_isi T.b_isinstance (by decide +kernel) (das_cons (de_var 4) (das_cons (de_tyn T.b_bool (by decide +kernel)) das_nil (hq := hF)) (hq := hF))))
    (dss_one (ds_if (dw_dt (dw_or (dt_not (dt_tru (b := false) (de_callB c_isi_o c_isi T.b_isinstance (by decide +kernel) (das_cons (de_var 3) (das_cons (de_tyn T.b_bool (by decide +kernel)) das_nil (hq := hF)) (hq := hF))))) (dw_or1 (dt_not (t_eq (de_var 3) (de_var 4) hF hr)))))
    (dss_one (ds_ret de_bl))
    dss_nil))
    (dss_one (ds_if (dt_tru (b := false) (de_callB c_isi_o c_isi T.b_isinstance (by decide +kernel) (das_cons (de_var 4) (das_cons (de_tyn T.b_str (by decide +kernel)) das_nil (hq := hF)) (hq := hF))))
    (dss_one (ds_if (dw_dt (dw_or (dt_not (dt_tru (b := false) (de_callB c_isi_o c_isi T.b_isinstance (by decide +kernel) (das_cons (de_var 3) (das_cons (de_tyn T.b_str (by decide +kernel)) das_nil (hq := hF)) (hq := hF))))) (dw_or1 (dt_not (t_eq (de_var 3) (de_var 4) hF hr)))))
    (dss_one (ds_ret de_bl))
    dss_nil))
    (dss_one (ds_if (dw_dt (dw_or (dt_not (dt_tru (b := false) (de_callB c_isi_o c_isi T.b_isinstance (by decide +kernel) (das_cons (de_var 3) (das_cons (de_tyn T.b_int (by decide +kernel)) das_nil (hq := hF)) (hq := hF))))) (dw_or (dt_tru (b := false) (de_callB c_isi_o c_isi T.b_isinstance (by decide +kernel) (das_cons (de_var 3) (das_cons (de_tyn T.b_bool (by decide +kernel)) das_nil (hq := hF)) (hq := hF)))) (dw_or1 (dt_not (t_eq (de_var 3) (de_var 4) hF hr))))))
    (dss_one (ds_ret de_bl))
    dss_nil))))))))))))
    (dss_one (ds_ret de_bl))))
theorem d__law_same (T : Top K mg) : DFn P w K mg base 1 "_law_same" [0, 0] none F__law_same := by
  obtain ⟨f, fd, h1, h2, h3⟩ := T.f__law_same
  exact ⟨f, fd, ["told", "due"], h1, h2.kp, .all h3, ok__law_same T h2⟩
noncomputable def F__law_need : Fn := mkF 2 [2, 0] none
  ((sRet (dOp gIx (dLst (dCons (dConst (.int 0)) (dCons (dCall [.io 0, .s] F__law_take (aIO 0 (aS (dOp gAdd (dVar 1) (dConst (.int 1))) aNil))) (dCons (dVar 1) (dCons (dConst (.str "deep")) (dCons (dCall [.io 0, .s] F__law_take (aIO 0 (aS (dConst (.int 4)) aNil))) dNil)))))) (dCall [.io 0, .s] F__law_take (aIO 0 (aS (dConst (.int 5)) aNil))))))
theorem sc__law_need : FnScope ["jar", "most"] ["jar", "most"] (defScope (topS 43)) := ⟨rfl, rfl, rfl, by decide +kernel, rfl, by decide +kernel, by decide +kernel⟩
theorem ok__law_need (T : Top K mg) {f : Addr} {fd : FuncData} (h2 : Fun K "_law_need" "_law_need" (topS 43) f fd) : FnOk P w K mg base CX0 2 f fd ["jar", "most"] (spD K [2, 0] none F__law_need) :=
  fun_ok (lv := [2, 0]) h2 sc__law_need rfl rfl fun cdv A outer s H H0 vs E M Z hr =>
    (dss_one (ds_ret (e_ix (de_f (df_lst (das_cons de_int (das_cons (de_call (d__law_take T) hr (by decide) (da_io 0 (da_s (e_add (de_var 1) de_int hF) da_nil))) (das_cons (de_var 1) (das_cons de_str (das_cons (de_call (d__law_take T) hr (by decide) (da_io 0 (da_s de_int da_nil))) das_nil (hq := hF)) (hq := hF)) (hq := hF)) (hq := hF)) (hq := hF)))) (de_call (d__law_take T) hr (by decide) (da_io 0 (da_s de_int da_nil))) hF)))
theorem d__law_need (T : Top K mg) : DFn P w K mg base 2 "_law_need" [2, 0] none F__law_need := by
  obtain ⟨f, fd, h1, h2, h3⟩ := T.f__law_need
  exact ⟨f, fd, ["jar", "most"], h1, h2.kp, .all h3, ok__law_need T h2⟩
noncomputable def F__law_low : Fn := mkF 2 [2, 0] none
  ((sRet (dOp gIx (dLst (dCons (dConst (.int 0)) (dCons (dOp gSub (dCall [.io 0, .s] F__law_take (aIO 0 (aS (dOp gAdd (dOp gMul (dConst (.int 2)) (dVar 1)) (dConst (.int 1))) aNil))) (dVar 1)) (dCons (dConst (.str "never")) (dCons (dConst (.str "deep")) (dCons (dOp gSub (dCall [.io 0, .s] F__law_take (aIO 0 (aS (dConst (.int 5)) aNil))) (dConst (.int 2))) (dCons (dOp gSub (dConst (.int 0)) (dVar 1)) dNil))))))) (dCall [.io 0, .s] F__law_take (aIO 0 (aS (dConst (.int 6)) aNil))))))
theorem sc__law_low : FnScope ["jar", "most"] ["jar", "most"] (defScope (topS 44)) := ⟨rfl, rfl, rfl, by decide +kernel, rfl, by decide +kernel, by decide +kernel⟩
theorem ok__law_low (T : Top K mg) {f : Addr} {fd : FuncData} (h2 : Fun K "_law_low" "_law_low" (topS 44) f fd) : FnOk P w K mg base CX0 2 f fd ["jar", "most"] (spD K [2, 0] none F__law_low) :=
  fun_ok (lv := [2, 0]) h2 sc__law_low rfl rfl fun cdv A outer s H H0 vs E M Z hr =>
    (dss_one (ds_ret (e_ix (de_f (df_lst (das_cons de_int (das_cons (e_sub (de_call (d__law_take T) hr (by decide) (da_io 0 (da_s (e_add (e_mul de_int (de_var 1) hF) de_int hF) da_nil))) (de_var 1) hF) (das_cons de_str (das_cons de_str (das_cons (e_sub (de_call (d__law_take T) hr (by decide) (da_io 0 (da_s de_int da_nil))) de_int hF) (das_cons (e_sub de_int (de_var 1) hF) das_nil (hq := hF)) (hq := hF)) (hq := hF)) (hq := hF)) (hq := hF)) (hq := hF)))) (de_call (d__law_take T) hr (by decide) (da_io 0 (da_s de_int da_nil))) hF)))
theorem d__law_low (T : Top K mg) : DFn P w K mg base 2 "_law_low" [2, 0] none F__law_low := by
  obtain ⟨f, fd, h1, h2, h3⟩ := T.f__law_low
  exact ⟨f, fd, ["jar", "most"], h1, h2.kp, .all h3, ok__law_low T h2⟩
noncomputable def F__law_table : Fn := mkF 6 [2, 0, 0, 0] none
  ((sRet (dCallB gTupOf (dCons (dComp (dRng1 (dVar 1)) [4] (gtName 4) dYes (dCallB gTupOf (dCons (dComp (dRng1 (dVar 2)) [5] (gtName 5) dYes (dTup (dCons (dCall [.io 0, .s] F__law_need (aIO 0 (aS (dVar 3) aNil))) (dCons (dCall [.io 0, .s] F__law_low (aIO 0 (aS (dVar 3) aNil))) dNil)))) dNil))) dNil))))
theorem sc__law_table : FnScope ["jar", "names", "purses", "most", "name", "purse"] ["jar", "names", "purses", "most"] (defScope (topS 45)) := ⟨rfl, rfl, rfl, by decide +kernel, rfl, by decide +kernel, by decide +kernel⟩
theorem ok__law_table (T : Top K mg) {f : Addr} {fd : FuncData} (h2 : Fun K "_law_table" "_law_table" (topS 45) f fd) : FnOk P w K mg base CX0 3 f fd ["jar", "names", "purses", "most"] (spD K [2, 0, 0, 0] none F__law_table) :=
  fun_ok (lv := [2, 0, 0, 0, 0, 0]) h2 sc__law_table rfl rfl fun cdv A outer s H H0 vs E M Z hr =>
    (dss_one (ds_ret (de_callTy call_tuple_of c_tuple T.b_tuple (by decide +kernel) (das_cons (de_f (df_lc (own := [("name", 4)]) rfl sc__law_table.nd (di_rng1 T.b_range (de_var 1)) (blkOk_by (own := [("name", 4)]) (N := ["jar", "names", "purses", "most", "name", "purse"]) (sc := defScope (topS 45)) (by decide +kernel)) (fun _ _ _ _ _ => (dg_name 4 sc__law_table.nd)) (fun _ _ _ _ _ => dts_nil) (fun _ _ _ _ _ => (de_callTy call_tuple_of c_tuple T.b_tuple (by decide +kernel) (das_cons (de_f (df_lc (own := [("purse", 5)]) rfl sc__law_table.nd (di_rng1 T.b_range (de_var 2)) (blkOk_by (own := [("purse", 5)]) (by rfl)) (fun _ _ _ _ _ => (dg_name 5 sc__law_table.nd)) (fun _ _ _ _ _ => dts_nil) (fun _ _ _ _ _ => (de_tup (das_cons (de_call (d__law_need T) hr (by decide) (da_io 0 (da_s (de_var 3) da_nil))) (das_cons (de_call (d__law_low T) hr (by decide) (da_io 0 (da_s (de_var 3) da_nil))) das_nil (hq := hF)) (hq := hF)))))) das_nil (hq := hF)))))) das_nil (hq := hF)))))
theorem d__law_table (T : Top K mg) : DFn P w K mg base 3 "_law_table" [2, 0, 0, 0] none F__law_table := by
  obtain ⟨f, fd, h1, h2, h3⟩ := T.f__law_table
  exact ⟨f, fd, ["jar", "names", "purses", "most"], h1, h2.kp, .all h3, ok__law_table T h2⟩
noncomputable def F__law_rank : Fn := mkF 1 [0] none
  ((sRet (dIf (dBool (dOp gEq (dVar 0) (dConst (.str "deep")))) (dTup (dCons (dConst (.int 0)) (dCons (dConst (.int 0)) dNil))) (dIf (dBool (dOp gEq (dVar 0) (dConst (.str "never")))) (dTup (dCons (dConst (.int 2)) (dCons (dConst (.int 0)) dNil))) (dTup (dCons (dConst (.int 1)) (dCons (dVar 0) dNil)))))))
theorem sc__law_rank : FnScope ["one"] ["one"] (defScope (topS 46)) := ⟨rfl, rfl, rfl, by decide +kernel, rfl, by decide +kernel, by decide +kernel⟩
theorem ok__law_rank (T : Top K mg) {f : Addr} {fd : FuncData} (h2 : Fun K "_law_rank" "_law_rank" (topS 46) f fd) : FnOk P w K mg base CX0 1 f fd ["one"] (spD K [0] none F__law_rank) :=
  fun_ok (lv := [0]) h2 sc__law_rank rfl rfl fun cdv A outer s H H0 vs E M Z hr =>
    (dss_one (ds_ret (de_if (t_eq (de_var 0) de_str hF hr) (de_tup (das_cons de_int (das_cons de_int das_nil (hq := hF)) (hq := hF))) (de_if (t_eq (de_var 0) de_str hF hr) (de_tup (das_cons de_int (das_cons de_int das_nil (hq := hF)) (hq := hF))) (de_tup (das_cons de_int (das_cons (de_var 0) das_nil (hq := hF)) (hq := hF)))))))
theorem d__law_rank (T : Top K mg) : DFn P w K mg base 1 "_law_rank" [0] none F__law_rank := by
  obtain ⟨f, fd, h1, h2, h3⟩ := T.f__law_rank
  exact ⟨f, fd, ["one"], h1, h2.kp, .all h3, ok__law_rank T h2⟩
noncomputable def F__law_above : Fn := mkF 2 [0, 0] none
  ((sSeq (sIf (dOr (dBool (dOp gEq (dVar 0) (dConst (.str "deep")))) (dBool (dOp gEq (dVar 1) (dConst (.str "deep")))))
  (sRet (dAndV (dOp gEq (dVar 0) (dConst (.str "deep"))) (dUn gNot (dOp gEq (dVar 1) (dConst (.str "deep"))))))
  sNil)
  (sRet (dOp gGt (dVar 0) (dVar 1)))))
theorem sc__law_above : FnScope ["one", "other"] ["one", "other"] (defScope (topS 47)) := ⟨rfl, rfl, rfl, by decide +kernel, rfl, by decide +kernel, by decide +kernel⟩
theorem ok__law_above (T : Top K mg) {f : Addr} {fd : FuncData} (h2 : Fun K "_law_above" "_law_above" (topS 47) f fd) : FnOk P w K mg base CX0 1 f fd ["one", "other"] (spD K [0, 0] none F__law_above) :=
  fun_ok (lv := [0, 0]) h2 sc__law_above rfl rfl fun cdv A outer s H H0 vs E M Z hr =>
    (dss_cons (ds_if (dw_dt (dw_or (t_eq (de_var 0) de_str hF hr) (dw_or1 (t_eq (de_var 1) de_str hF hr))))
    (dss_one (ds_ret (de_and (e_eq (de_var 0) de_str hF hr) (de_one (de_not (e_eq (de_var 1) de_str hF hr))))))
    dss_nil)
    (dss_one (ds_ret (e_gt (de_var 0) (de_var 1) hF hr))))
theorem d__law_above (T : Top K mg) : DFn P w K mg base 1 "_law_above" [0, 0] none F__law_above := by
  obtain ⟨f, fd, h1, h2, h3⟩ := T.f__law_above
  exact ⟨f, fd, ["one", "other"], h1, h2.kp, .all h3, ok__law_above T h2⟩
noncomputable def F__law_joined : Fn := mkF 15 [0, 0, 0] none
  ((sSeq (sSet 3 (dLst dNil))
  (sSeq (sFor (dZip (dCons (dVar 0) (dCons (dVar 1) dNil))) (gtTup 2 (gtCons (gtName 4) (gtCons (gtName 5) gtNil)))
  (sSeq (sSet 6 (dLst dNil))
  (sSeq (sFor (dZip (dCons (dVar 4) (dCons (dVar 5) dNil))) (gtTup 2 (gtCons (gtTup 2 (gtCons (gtName 7) (gtCons (gtName 8) gtNil))) (gtCons (gtTup 2 (gtCons (gtName 9) (gtCons (gtName 10) gtNil))) gtNil)))
  (sSeq (sSet 11 (dIf (dTru (dCall [.s, .s] F__law_above (aS (dVar 7) (aS (dVar 9) aNil)))) (dVar 7) (dVar 9)))
  (sSeq (sSet 12 (dIf (dTru (dCall [.s, .s] F__law_above (aS (dVar 7) (aS (dVar 9) aNil)))) (dVar 9) (dVar 7)))
  (sSeq (sSet 13 (dIf (dBool (dOp gLt (dCall [.s] F__law_rank (aS (dVar 8) aNil)) (dCall [.s] F__law_rank (aS (dVar 10) aNil)))) (dVar 8) (dVar 10)))
  (sSeq (sSet 14 (dIf (dBool (dOp gLt (dCall [.s] F__law_rank (aS (dVar 8) aNil)) (dCall [.s] F__law_rank (aS (dVar 10) aNil)))) (dVar 10) (dVar 8)))
  (sApp 6 (dIf (dTru (dVar 2)) (dTup (dCons (dVar 11) (dCons (dVar 13) dNil))) (dTup (dCons (dVar 12) (dCons (dVar 14) dNil))))))))))
  (sApp 3 (dCalm (dCallB gTupOf (dCons (dVar 6) dNil)))))))
  (sRet (dCalm (dCallB gTupOf (dCons (dVar 3) dNil)))))))
theorem sc__law_joined : FnScope ["one", "other", "more", "rows", "first", "second", "row", "need", "low", "want", "back", "great", "small", "under", "over"] ["one", "other", "more"] (defScope (topS 48)) := ⟨rfl, rfl, rfl, by decide +kernel, rfl, by decide +kernel, by decide +kernel⟩
theorem ok__law_joined (T : Top K mg) {f : Addr} {fd : FuncData} (h2 : Fun K "_law_joined" "_law_joined" (topS 48) f fd) : FnOk P w K mg base CX0 2 f fd ["one", "other", "more"] (spD K [0, 0, 0] none F__law_joined) :=
  fun_ok (lv := [0, 0, 0, 1, 0, 0, 1, 0, 0, 0, 0, 0, 0, 0, 0]) h2 sc__law_joined rfl rfl fun cdv A outer s H H0 vs E M Z hr =>
    (dss_cons (ds_new 3 sc__law_joined.nd (df_lst das_nil))
    (dss_cons (ds_for PassesOwn.never rfl (di_zip T.b_zip (das_cons (de_var 0) (das_cons (de_var 1) das_nil (hq := hF)) (hq := hF))) (dg_tup rfl (dgs_cons (dg_name 4 sc__law_joined.nd) (dgs_cons (dg_name 5 sc__law_joined.nd) dgs_nil)))
    (dss_cons (ds_new 6 sc__law_joined.nd (df_lst das_nil))
    (dss_cons (ds_for PassesOwn.never rfl (di_zip T.b_zip (das_cons (de_var 4) (das_cons (de_var 5) das_nil (hq := hF)) (hq := hF))) (dg_tup rfl (dgs_cons (dg_tup rfl (dgs_cons (dg_name 7 sc__law_joined.nd) (dgs_cons (dg_name 8 sc__law_joined.nd) dgs_nil))) (dgs_cons (dg_tup rfl (dgs_cons (dg_name 9 sc__law_joined.nd) (dgs_cons (dg_name 10 sc__law_joined.nd) dgs_nil))) dgs_nil)))
    (dss_cons (ds_set 11 sc__law_joined.nd (de_if (dt_tru (b := false) (de_call (d__law_above T) hr (by decide) (da_s (de_var 7) (da_s (de_var 9) da_nil)))) (de_var 7) (de_var 9)))
    (dss_cons (ds_set 12 sc__law_joined.nd (de_if (dt_tru (b := false) (de_call (d__law_above T) hr (by decide) (da_s (de_var 7) (da_s (de_var 9) da_nil)))) (de_var 9) (de_var 7)))
    (dss_cons (ds_set 13 sc__law_joined.nd (de_if (t_lt (de_call (d__law_rank T) hr (by decide) (da_s (de_var 8) da_nil)) (de_call (d__law_rank T) hr (by decide) (da_s (de_var 10) da_nil)) hF hr) (de_var 8) (de_var 10)))
    (dss_cons (ds_set 14 sc__law_joined.nd (de_if (t_lt (de_call (d__law_rank T) hr (by decide) (da_s (de_var 8) da_nil)) (de_call (d__law_rank T) hr (by decide) (da_s (de_var 10) da_nil)) hF hr) (de_var 10) (de_var 8)))
    (dss_one (ds_app 6 (de_if (dt_tru (b := false) (de_var 2)) (de_tup (das_cons (de_var 11) (das_cons (de_var 13) das_nil (hq := hF)) (hq := hF))) (de_tup (das_cons (de_var 12) (das_cons (de_var 14) das_nil (hq := hF)) (hq := hF)))))))))))
    (dss_one (ds_app 3 (de_q (de_calm (de_callTy call_tuple_of c_tuple T.b_tuple (by decide +kernel) (das_cons (de_bor 6) das_nil (hq := hT))))))))))
    (dss_one (ds_ret (de_q (de_calm (de_callTy call_tuple_of c_tuple T.b_tuple (by decide +kernel) (das_cons (de_bor 3) das_nil (hq := hT)))))))))
theorem d__law_joined (T : Top K mg) : DFn P w K mg base 2 "_law_joined" [0, 0, 0] none F__law_joined := by
  obtain ⟨f, fd, h1, h2, h3⟩ := T.f__law_joined
  exact ⟨f, fd, ["one", "other", "more"], h1, h2.kp, .all h3, ok__law_joined T h2⟩
noncomputable def F__law_less : Fn := mkF 8 [0, 0] none
  ((sSeq (sFor (dZip (dCons (dVar 0) (dCons (dVar 1) dNil))) (gtTup 2 (gtCons (gtName 2) (gtCons (gtName 3) gtNil)))
  (sFor (dZip (dCons (dVar 2) (dCons (dVar 3) dNil))) (gtTup 2 (gtCons (gtTup 2 (gtCons (gtName 4) (gtCons (gtName 5) gtNil))) (gtCons (gtTup 2 (gtCons (gtName 6) (gtCons (gtName 7) gtNil))) gtNil)))
  (sIf (dOr (dTru (dCall [.s, .s] F__law_above (aS (dVar 4) (aS (dVar 6) aNil)))) (dBool (dOp gLt (dCall [.s] F__law_rank (aS (dVar 5) aNil)) (dCall [.s] F__law_rank (aS (dVar 7) aNil)))))
  (sRet (dConst (.bl false)))
  sNil)))
  (sRet (dConst (.bl true)))))
theorem sc__law_less : FnScope ["one", "other", "first", "second", "need", "low", "want", "back"] ["one", "other"] (defScope (topS 49)) := ⟨rfl, rfl, rfl, by decide +kernel, rfl, by decide +kernel, by decide +kernel⟩
theorem ok__law_less (T : Top K mg) {f : Addr} {fd : FuncData} (h2 : Fun K "_law_less" "_law_less" (topS 49) f fd) : FnOk P w K mg base CX0 2 f fd ["one", "other"] (spD K [0, 0] none F__law_less) :=
  fun_ok (lv := [0, 0, 0, 0, 0, 0, 0, 0]) h2 sc__law_less rfl rfl fun cdv A outer s H H0 vs E M Z hr =>
    (dss_cons (ds_for PassesOwn.never rfl (di_zip T.b_zip (das_cons (de_var 0) (das_cons (de_var 1) das_nil (hq := hF)) (hq := hF))) (dg_tup rfl (dgs_cons (dg_name 2 sc__law_less.nd) (dgs_cons (dg_name 3 sc__law_less.nd) dgs_nil)))
    (dss_one (ds_for PassesOwn.never rfl (di_zip T.b_zip (das_cons (de_var 2) (das_cons (de_var 3) das_nil (hq := hF)) (hq := hF))) (dg_tup rfl (dgs_cons (dg_tup rfl (dgs_cons (dg_name 4 sc__law_less.nd) (dgs_cons (dg_name 5 sc__law_less.nd) dgs_nil))) (dgs_cons (dg_tup rfl (dgs_cons (dg_name 6 sc__law_less.nd) (dgs_cons (dg_name 7 sc__law_less.nd) dgs_nil))) dgs_nil)))
    (dss_one (ds_if (dw_dt (dw_or (dt_tru (b := false) (de_call (d__law_above T) hr (by decide) (da_s (de_var 4) (da_s (de_var 6) da_nil)))) (dw_or1 (t_lt (de_call (d__law_rank T) hr (by decide) (da_s (de_var 5) da_nil)) (de_call (d__law_rank T) hr (by decide) (da_s (de_var 7) da_nil)) hF hr))))
    (dss_one (ds_ret de_bl))
    dss_nil)))))
    (dss_one (ds_ret de_bl)))
theorem d__law_less (T : Top K mg) : DFn P w K mg base 2 "_law_less" [0, 0] none F__law_less := by
  obtain ⟨f, fd, h1, h2, h3⟩ := T.f__law_less
  exact ⟨f, fd, ["one", "other"], h1, h2.kp, .all h3, ok__law_less T h2⟩
noncomputable def F__law_near : Fn := mkF 7 [2, 0, 0] none
  ((sSeq (sSet 3 (dCall [.io 0, .s] F__law_take (aIO 0 (aS (dCallB gLen (dCons (dVar 1) dNil)) aNil))))
  (sSeq (sSet 4 (dOp gIx (dVar 1) (dVar 3)))
  (sSeq (sSet 5 (dCall [.io 0, .s] F__law_take (aIO 0 (aS (dCallB gLen (dCons (dVar 4) dNil)) aNil))))
  (sSeq (sSet 6 (dIf (dBool (dOp gEq (dCall [.io 0, .s] F__law_take (aIO 0 (aS (dConst (.int 2)) aNil))) (dConst (.int 0)))) (dTup (dCons (dCall [.io 0, .s] F__law_need (aIO 0 (aS (dVar 2) aNil))) (dCons (dOp gIx (dOp gIx (dVar 4) (dVar 5)) (dConst (.int 1))) dNil))) (dTup (dCons (dOp gIx (dOp gIx (dVar 4) (dVar 5)) (dConst (.int 0))) (dCons (dCall [.io 0, .s] F__law_low (aIO 0 (aS (dVar 2) aNil))) dNil)))))
  (sRet (dOp gAdd (dOp gAdd (dSl gSl (dVar 1) dNoPart (dPart (dVar 3))) (dTup (dCons (dOp gAdd (dOp gAdd (dSl gSl (dVar 4) dNoPart (dPart (dVar 5))) (dTup (dCons (dVar 6) dNil))) (dSl gSl (dVar 4) (dPart (dOp gAdd (dVar 5) (dConst (.int 1)))) dNoPart)) dNil))) (dSl gSl (dVar 1) (dPart (dOp gAdd (dVar 3) (dConst (.int 1)))) dNoPart))))))))
theorem sc__law_near : FnScope ["jar", "table", "most", "at", "row", "purse", "pair"] ["jar", "table", "most"] (defScope (topS 50)) := ⟨rfl, rfl, rfl, by decide +kernel, rfl, by decide +kernel, by decide +kernel⟩
theorem ok__law_near (T : Top K mg) {f : Addr} {fd : FuncData} (h2 : Fun K "_law_near" "_law_near" (topS 50) f fd) : FnOk P w K mg base CX0 3 f fd ["jar", "table", "most"] (spD K [2, 0, 0] none F__law_near) :=
  fun_ok (lv := [2, 0, 0, 0, 0, 0, 0]) h2 sc__law_near rfl rfl fun cdv A outer s H H0 vs E M Z hr =>
    (dss_cons (ds_set 3 sc__law_near.nd (de_call (d__law_take T) hr (by decide) (da_io 0 (da_s (de_callB call_len c_len T.b_len (by decide +kernel) (das_cons (de_var 1) das_nil (hq := hF))) da_nil))))
    (dss_cons (ds_set 4 sc__law_near.nd (e_ix (de_var 1) (de_var 3) hF))
    (dss_cons (ds_set 5 sc__law_near.nd (de_call (d__law_take T) hr (by decide) (da_io 0 (da_s (de_callB call_len c_len T.b_len (by decide +kernel) (das_cons (de_var 4) das_nil (hq := hF))) da_nil))))
    (dss_cons (ds_set 6 sc__law_near.nd (de_if (t_eq (de_call (d__law_take T) hr (by decide) (da_io 0 (da_s de_int da_nil))) de_int hF hr) (de_tup (das_cons (de_call (d__law_need T) hr (by decide) (da_io 0 (da_s (de_var 2) da_nil))) (das_cons (e_ix (e_ix (de_var 4) (de_var 5) hF) de_int hF) das_nil (hq := hF)) (hq := hF))) (de_tup (das_cons (e_ix (e_ix (de_var 4) (de_var 5) hF) de_int hF) (das_cons (de_call (d__law_low T) hr (by decide) (da_io 0 (da_s (de_var 2) da_nil))) das_nil (hq := hF)) (hq := hF)))))
    (dss_one (ds_ret (e_add (e_add (de_sl s_sl d_sl (de_var 1) do_none (do_some (b := false) (de_var 3)) (hq := hF)) (de_tup (das_cons (e_add (e_add (de_sl s_sl d_sl (de_var 4) do_none (do_some (b := false) (de_var 5)) (hq := hF)) (de_tup (das_cons (de_var 6) das_nil (hq := hF))) hF) (de_sl s_sl d_sl (de_var 4) (do_some (b := false) (e_add (de_var 5) de_int hF)) do_none (hq := hF)) hF) das_nil (hq := hF))) hF) (de_sl s_sl d_sl (de_var 1) (do_some (b := false) (e_add (de_var 3) de_int hF)) do_none (hq := hF)) hF)))))))
theorem d__law_near (T : Top K mg) : DFn P w K mg base 3 "_law_near" [2, 0, 0] none F__law_near := by
  obtain ⟨f, fd, h1, h2, h3⟩ := T.f__law_near
  exact ⟨f, fd, ["jar", "table", "most"], h1, h2.kp, .all h3, ok__law_near T h2⟩
noncomputable def F__law_asked (mg : PySem.Str → Option Value) : Fn := mkF 7 [0, 0] none
  ((sSeq (sSet 2 (dCall [.s, .s, .s] F__law_joined (aS (dVar 0) (aS (dVar 1) (aS (dConst (.bl true)) aNil)))))
  (sSeq (sSet 3 (dCall [.s, .s, .s] F__law_joined (aS (dVar 0) (aS (dVar 1) (aS (dConst (.bl false)) aNil)))))
  (sSeq (sIf (dNot (dTru (dCall [.s, .s] F__law_same (aS (dTup (dCons (dCall [.s, .s] (F_joined_tables mg) (aS (dVar 0) (aS (dVar 1) aNil))) (dCons (dCall [.s, .s] (F_lesser_table mg) (aS (dVar 0) (aS (dVar 1) aNil))) (dCons (dCall [.s, .s] (F_joined_tables mg) (aS (dVar 1) (aS (dVar 0) aNil))) (dCons (dCall [.s, .s] (F_lesser_table mg) (aS (dVar 1) (aS (dVar 0) aNil))) dNil))))) (aS (dTup (dCons (dVar 2) (dCons (dVar 3) (dCons (dVar 2) (dCons (dVar 3) dNil))))) aNil)))))
  (sRet (dConst (.bl false)))
  sNil)
  (sSeq (sSet 4 (dTup (dCons (dTup (dCons (dVar 0) (dCons (dVar 1) dNil))) (dCons (dTup (dCons (dVar 1) (dCons (dVar 0) dNil))) (dCons (dTup (dCons (dVar 3) (dCons (dVar 0) dNil))) (dCons (dTup (dCons (dVar 0) (dCons (dVar 2) dNil))) (dCons (dTup (dCons (dVar 2) (dCons (dVar 1) dNil))) (dCons (dTup (dCons (dVar 0) (dCons (dVar 0) dNil))) dNil))))))))
  (sSeq (sFor (dSeqI (dVar 4)) (gtTup 2 (gtCons (gtName 5) (gtCons (gtName 6) gtNil)))
  (sIf (dNot (dTru (dCall [.s, .s] F__law_same (aS (dCall [.s, .s] (F_table_less mg) (aS (dVar 5) (aS (dVar 6) aNil))) (aS (dCall [.s, .s] F__law_less (aS (dVar 5) (aS (dVar 6) aNil))) aNil)))))
  (sRet (dConst (.bl false)))
  sNil))
  (sRet (dConst (.bl true)))))))))
theorem sc__law_asked : FnScope ["one", "other", "more", "less", "pairs", "first", "second"] ["one", "other"] (defScope (topS 51)) := ⟨rfl, rfl, rfl, by decide +kernel, rfl, by decide +kernel, by decide +kernel⟩
theorem ok__law_asked (T : Top K mg) {f : Addr} {fd : FuncData} (h2 : Fun K "_law_asked" "_law_asked" (topS 51) f fd) : FnOk P w K mg base CX0 7 f fd ["one", "other"] (spD K [0, 0] none (F__law_asked mg)) :=
  fun_ok (lv := [0, 0, 0, 0, 0, 0, 0]) h2 sc__law_asked rfl rfl fun cdv A outer s H H0 vs E M Z hr =>
    (dss_cons (ds_set 2 sc__law_asked.nd (de_call (d__law_joined T) hr (by decide) (da_s (de_var 0) (da_s (de_var 1) (da_s de_bl da_nil)))))
    (dss_cons (ds_set 3 sc__law_asked.nd (de_call (d__law_joined T) hr (by decide) (da_s (de_var 0) (da_s (de_var 1) (da_s de_bl da_nil)))))
    (dss_cons (ds_if (dt_not (dt_tru (b := false) (de_call (d__law_same T) hr (by decide) (da_s (de_tup (das_cons (de_call (d_joined_tables T) hr (by decide) (da_s (de_var 0) (da_s (de_var 1) da_nil))) (das_cons (de_call (d_lesser_table T) hr (by decide) (da_s (de_var 0) (da_s (de_var 1) da_nil))) (das_cons (de_call (d_joined_tables T) hr (by decide) (da_s (de_var 1) (da_s (de_var 0) da_nil))) (das_cons (de_call (d_lesser_table T) hr (by decide) (da_s (de_var 1) (da_s (de_var 0) da_nil))) das_nil (hq := hF)) (hq := hF)) (hq := hF)) (hq := hF))) (da_s (de_tup (das_cons (de_var 2) (das_cons (de_var 3) (das_cons (de_var 2) (das_cons (de_var 3) das_nil (hq := hF)) (hq := hF)) (hq := hF)) (hq := hF))) da_nil)))))
    (dss_one (ds_ret de_bl))
    dss_nil)
    (dss_cons (ds_set 4 sc__law_asked.nd (de_tup (das_cons (de_tup (das_cons (de_var 0) (das_cons (de_var 1) das_nil (hq := hF)) (hq := hF))) (das_cons (de_tup (das_cons (de_var 1) (das_cons (de_var 0) das_nil (hq := hF)) (hq := hF))) (das_cons (de_tup (das_cons (de_var 3) (das_cons (de_var 0) das_nil (hq := hF)) (hq := hF))) (das_cons (de_tup (das_cons (de_var 0) (das_cons (de_var 2) das_nil (hq := hF)) (hq := hF))) (das_cons (de_tup (das_cons (de_var 2) (das_cons (de_var 1) das_nil (hq := hF)) (hq := hF))) (das_cons (de_tup (das_cons (de_var 0) (das_cons (de_var 0) das_nil (hq := hF)) (hq := hF))) das_nil (hq := hF)) (hq := hF)) (hq := hF)) (hq := hF)) (hq := hF)) (hq := hF))))
    (dss_cons (ds_for PassesOwn.never rfl (di_seq (de_var 4)) (dg_tup rfl (dgs_cons (dg_name 5 sc__law_asked.nd) (dgs_cons (dg_name 6 sc__law_asked.nd) dgs_nil)))
    (dss_one (ds_if (dt_not (dt_tru (b := false) (de_call (d__law_same T) hr (by decide) (da_s (de_call (d_table_less T) hr (by decide) (da_s (de_var 5) (da_s (de_var 6) da_nil))) (da_s (de_call (d__law_less T) hr (by decide) (da_s (de_var 5) (da_s (de_var 6) da_nil))) da_nil)))))
    (dss_one (ds_ret de_bl))
    dss_nil)))
    (dss_one (ds_ret de_bl)))))))
theorem d__law_asked (T : Top K mg) : DFn P w K mg base 7 "_law_asked" [0, 0] none (F__law_asked mg) := by
  obtain ⟨f, fd, h1, h2, h3⟩ := T.f__law_asked
  exact ⟨f, fd, ["one", "other"], h1, h2.kp, .all h3, ok__law_asked T h2⟩
noncomputable def F__law_closed (mg : PySem.Str → Option Value) : Fn := mkF 17 [2] none
  ((sSeq (sSet 1 (dOp gAdd (dConst (.int 1)) (dCall [.io 0, .s] F__law_take (aIO 0 (aS (dConst (.int 3)) aNil)))))
  (sSeq (sSet 2 (dLst dNil))
  (sSeq (sFor (dRng1 (dConst (.int 2))) (gtName 3)
  (sApp 2 (dCallB gTupOf (dCons (dComp (dRng1 (dCall [.io 0, .s] F__law_take (aIO 0 (aS (dConst (.int 4)) aNil)))) [6] (gtName 6) dYes (dTup (dCons (dConst (.str "change")) (dCons (dCallB gTupOf (dCons (dComp (dRng1 (dVar 1)) [10] (gtName 10) dYes (dOp gSub (dCall [.io 0, .s] F__law_take (aIO 0 (aS (dConst (.int 9)) aNil))) (dConst (.int 5)))) dNil)) dNil)))) dNil))))
  (sFrz 2 (sSeq (sSet 4 (dTup (dCons (dSl gSl (dTup (dCons (dConst (.str "gas")) (dCons (dConst (.str "coin")) (dCons (dConst (.str "x")) dNil)))) dNoPart (dPart (dVar 1))) (dCons (dTup (dCons (dConst (.str "main")) (dCons (dConst (.str "a")) dNil))) (dCons (dCallB gTupOf (dCons (dVar 2) dNil)) dNil)))))
  (sSeq (sSet 5 (dLst dNil))
  (sSeq (sFor (dRng1 (dConst (.int 2))) (gtName 6)
  (sSeq (sSet 7 (dLst dNil))
  (sSeq (sFor (dSeqI (dVar 2)) (gtName 8)
  (sSeq (sSet 9 (dLst dNil))
  (sSeq (sFor (dRng1 (dVar 1)) (gtName 10)
  (sSeq (sSet 11 (dComp (dRng1 (dOp gAdd (dCallB gLen (dCons (dVar 8) dNil)) (dConst (.int 1)))) [15] (gtName 15) dYes (dCallB gSum (dCons (dComp (dSeqI (dSl gSl (dVar 8) dNoPart (dPart (dVar 15)))) [16] (gtName 16) dYes (dOp gIx (dOp gIx (dVar 16) (dConst (.int 1))) (dVar 10))) dNil))))
  (sSeq (sSet 12 (dOp gAdd (dOp gSub (dConst (.int 0)) (dCallB gMinL (dCons (dVar 11) dNil))) (dCall [.io 0, .s] F__law_take (aIO 0 (aS (dConst (.int 3)) aNil)))))
  (sApp 9 (dTup (dCons (dOp gIx (dLst (dCons (dConst (.str "deep")) (dCons (dVar 12) dNil))) (dCallB gIntOf (dCons (dOp gGt (dCall [.io 0, .s] F__law_take (aIO 0 (aS (dConst (.int 5)) aNil))) (dConst (.int 0))) dNil))) (dCons (dOp gIx (dLst (dCons (dConst (.str "deep")) (dCons (dOp gSub (dOp gIx (dVar 11) (dUn gNeg (dConst (.int 1)))) (dCall [.io 0, .s] F__law_take (aIO 0 (aS (dConst (.int 3)) aNil)))) dNil))) (dCallB gIntOf (dCons (dOp gGt (dCall [.io 0, .s] F__law_take (aIO 0 (aS (dConst (.int 5)) aNil))) (dConst (.int 0))) dNil))) dNil)))))))
  (sApp 7 (dCalm (dCallB gTupOf (dCons (dVar 9) dNil)))))))
  (sApp 5 (dCalm (dCallB gTupOf (dCons (dVar 7) dNil)))))))
  (sFrz 5 (sSeq (sSet 13 (dCall [.s, .s, .s] F__law_joined (aS (dOp gIx (dVar 5) (dConst (.int 0))) (aS (dOp gIx (dVar 5) (dConst (.int 1))) (aS (dConst (.bl false)) aNil)))))
  (sSeq (sIf (dNot (dTru (dCall [.s, .s] F__law_same (aS (dTup (dCons (dCall [.s, .s] F_is_closed (aS (dVar 4) (aS (dOp gIx (dVar 5) (dConst (.int 0))) aNil))) (dCons (dCall [.s, .s] F_is_closed (aS (dVar 4) (aS (dCall [.s, .s] (F_lesser_table mg) (aS (dOp gIx (dVar 5) (dConst (.int 0))) (aS (dOp gIx (dVar 5) (dConst (.int 1))) aNil))) aNil))) (dCons (dCall [.s, .s] (F_lesser_table mg) (aS (dOp gIx (dVar 5) (dConst (.int 1))) (aS (dOp gIx (dVar 5) (dConst (.int 0))) aNil))) dNil)))) (aS (dTup (dCons (dConst (.bl true)) (dCons (dConst (.bl true)) (dCons (dVar 13) dNil)))) aNil)))))
  (sRet (dConst (.bl false)))
  sNil)
  (sSeq (sSetN 9 (dOp gIx (dVar 13) (dConst (.int 1))))
  (sSeq (sSet 14 (dOp gAdd (dTup (dCons (dTup (dCons (dCalm (dOp gIx (dOp gIx (dVar 9) (dConst (.int 0))) (dConst (.int 0)))) (dCons (dOp gAdd (dCallB gSum (dCons (dComp (dSeqI (dOp gIx (dVar 2) (dConst (.int 1)))) [16] (gtName 16) dYes (dOp gIx (dOp gIx (dVar 16) (dConst (.int 1))) (dConst (.int 0)))) dNil)) (dConst (.int 1))) dNil))) dNil)) (dCalm (dSl gSl (dVar 9) (dPart (dConst (.int 1))) dNoPart))))
  (sRet (dAndV (dCall [.s, .s] F__law_same (aS (dCall [.s, .s] F_is_closed (aS (dVar 4) (aS (dTup (dCons (dOp gIx (dVar 13) (dConst (.int 0))) (dCons (dVar 14) dNil))) aNil))) (aS (dConst (.bl false)) aNil))) (dCall [.s, .s] F__law_same (aS (dCall [.s, .s] F_is_closed (aS (dVar 4) (aS (dCall [.s, .s] (F_joined_tables mg) (aS (dOp gIx (dVar 5) (dConst (.int 0))) (aS (dOp gIx (dVar 5) (dConst (.int 1))) aNil))) aNil))) (aS (dConst (.bl true)) aNil))))))))))))))))))
theorem sc__law_closed : FnScope ["jar", "purses", "bodies", "name", "program", "tables", "turn", "rows", "body", "row", "purse", "sums", "need", "less", "high", "at", "one"] ["jar"] (defScope (topS 52)) := ⟨rfl, rfl, rfl, by decide +kernel, rfl, by decide +kernel, by decide +kernel⟩
theorem ok__law_closed (T : Top K mg) {f : Addr} {fd : FuncData} (h2 : Fun K "_law_closed" "_law_closed" (topS 52) f fd) : FnOk P w K mg base CX0 14 f fd ["jar"] (spD K [2] none (F__law_closed mg)) :=
  fun_ok (lv := [2, 0, 1, 0, 0, 1, 0, 1, 0, 1, 0, 0, 0, 0, 0, 0, 0]) h2 sc__law_closed rfl rfl fun cdv A outer s H H0 vs E M Z hr =>
    (dss_cons (ds_set 1 sc__law_closed.nd (e_add de_int (de_call (d__law_take T) hr (by decide) (da_io 0 (da_s de_int da_nil))) hF))
    (dss_cons (ds_new 2 sc__law_closed.nd (df_lst das_nil))
    (dss_cons (ds_for PassesOwn.never rfl (di_rng1 T.b_range de_int) (dg_name 3 sc__law_closed.nd)
    (dss_one (ds_app 2 (de_callTy call_tuple_of c_tuple T.b_tuple (by decide +kernel) (das_cons (de_f (df_lc (own := [("turn", 6)]) rfl sc__law_closed.nd (di_rng1 T.b_range (de_call (d__law_take T) hr (by decide) (da_io 0 (da_s de_int da_nil)))) (blkOk_by (own := [("turn", 6)]) (N := ["jar", "purses", "bodies", "name", "program", "tables", "turn", "rows", "body", "row", "purse", "sums", "need", "less", "high", "at", "one"]) (sc := defScope (topS 52)) (by decide +kernel)) (fun _ _ _ _ _ => (dg_name 6 sc__law_closed.nd)) (fun _ _ _ _ _ => dts_nil) (fun _ _ _ _ _ => (de_tup (das_cons de_str (das_cons (de_callTy call_tuple_of c_tuple T.b_tuple (by decide +kernel) (das_cons (de_f (df_lc (own := [("purse", 10)]) rfl sc__law_closed.nd (di_rng1 T.b_range (de_var 1)) (blkOk_by (own := [("purse", 10)]) (by rfl)) (fun _ _ _ _ _ => (dg_name 10 sc__law_closed.nd)) (fun _ _ _ _ _ => dts_nil) (fun _ _ _ _ _ => (e_sub (de_call (d__law_take T) hr (by decide) (da_io 0 (da_s de_int da_nil))) de_int hF)))) das_nil (hq := hF))) das_nil (hq := hF)) (hq := hF)))))) das_nil (hq := hF))))))
    (dss_frz 2 (dss_cons (ds_set 4 sc__law_closed.nd (de_tup (das_cons (de_sl s_sl d_sl (de_tup (das_cons de_str (das_cons de_str (das_cons de_str das_nil (hq := hF)) (hq := hF)) (hq := hF))) do_none (do_some (b := false) (de_var 1)) (hq := hF)) (das_cons (de_tup (das_cons de_str (das_cons de_str das_nil (hq := hF)) (hq := hF))) (das_cons (de_callTy call_tuple_of c_tuple T.b_tuple (by decide +kernel) (das_cons (de_var 2) das_nil (hq := hF))) das_nil (hq := hF)) (hq := hF)) (hq := hF))))
    (dss_cons (ds_new 5 sc__law_closed.nd (df_lst das_nil))
    (dss_cons (ds_for PassesOwn.never rfl (di_rng1 T.b_range de_int) (dg_name 6 sc__law_closed.nd)
    (dss_cons (ds_new 7 sc__law_closed.nd (df_lst das_nil))
    (dss_cons (ds_for PassesOwn.never rfl (di_seq (de_var 2)) (dg_name 8 sc__law_closed.nd)
    (dss_cons (ds_new 9 sc__law_closed.nd (df_lst das_nil))
    (dss_cons (ds_for PassesOwn.never rfl (di_rng1 T.b_range (de_var 1)) (dg_name 10 sc__law_closed.nd)
    (dss_cons (ds_lc0 11 (own := [("at", 15)]) rfl sc__law_closed.nd (sw_true rfl rfl rfl (by decide +kernel)) (di_rng1 T.b_range (e_add (de_callB call_len c_len T.b_len (by decide +kernel) (das_cons (de_var 8) das_nil (hq := hF))) de_int hF)) (blkOk_by (own := [("at", 15)]) (N := ["jar", "purses", "bodies", "name", "program", "tables", "turn", "rows", "body", "row", "purse", "sums", "need", "less", "high", "at", "one"]) (sc := defScope (topS 52)) (by decide +kernel)) (fun _ _ _ _ _ => (dg_name 15 sc__law_closed.nd)) (fun _ _ _ _ _ => dts_nil) (fun _ _ _ _ _ => (de_callB (cr_sum rfl) c_sum T.b_sum (by decide +kernel) (das_cons (de_f (df_lc (own := [("one", 16)]) rfl sc__law_closed.nd (di_seq (de_sl s_sl d_sl (de_var 8) do_none (do_some (b := false) (de_var 15)) (hq := hF))) (blkOk_by (own := [("one", 16)]) (by rfl)) (fun _ _ _ _ _ => (dg_name 16 sc__law_closed.nd)) (fun _ _ _ _ _ => dts_nil) (fun _ _ _ _ _ => (e_ix (e_ix (de_var 16) de_int hF) (de_var 10) hF)))) das_nil (hq := hF)))))
    (dss_cons (ds_set 12 sc__law_closed.nd (e_add (e_sub de_int (de_callB (cr_min rfl) c_minL T.b_min (by decide +kernel) (das_cons (de_var 11) das_nil (hq := hF))) hF) (de_call (d__law_take T) hr (by decide) (da_io 0 (da_s de_int da_nil))) hF))
    (dss_one (ds_app 9 (de_tup (das_cons (e_ix (de_f (df_lst (das_cons de_str (das_cons (de_var 12) das_nil (hq := hF)) (hq := hF)))) (de_callTy call_int1 c_int T.b_int (by decide +kernel) (das_cons (e_gt (de_call (d__law_take T) hr (by decide) (da_io 0 (da_s de_int da_nil))) de_int hF hr) das_nil (hq := hF))) hF) (das_cons (e_ix (de_f (df_lst (das_cons de_str (das_cons (e_sub (e_ix (de_var 11) (e_neg de_int) hF) (de_call (d__law_take T) hr (by decide) (da_io 0 (da_s de_int da_nil))) hF) das_nil (hq := hF)) (hq := hF)))) (de_callTy call_int1 c_int T.b_int (by decide +kernel) (das_cons (e_gt (de_call (d__law_take T) hr (by decide) (da_io 0 (da_s de_int da_nil))) de_int hF hr) das_nil (hq := hF))) hF) das_nil (hq := hF)) (hq := hF))))))))
    (dss_one (ds_app 7 (de_q (de_calm (de_callTy call_tuple_of c_tuple T.b_tuple (by decide +kernel) (das_cons (de_bor 9) das_nil (hq := hT))))))))))
    (dss_one (ds_app 5 (de_q (de_calm (de_callTy call_tuple_of c_tuple T.b_tuple (by decide +kernel) (das_cons (de_bor 7) das_nil (hq := hT))))))))))
    (dss_frz 5 (dss_cons (ds_set 13 sc__law_closed.nd (de_call (d__law_joined T) hr (by decide) (da_s (e_ix (de_var 5) de_int hF) (da_s (e_ix (de_var 5) de_int hF) (da_s de_bl da_nil)))))
    (dss_cons (ds_if (dt_not (dt_tru (b := false) (de_call (d__law_same T) hr (by decide) (da_s (de_tup (das_cons (de_call (d_is_closed T) hr (by decide) (da_s (de_var 4) (da_s (e_ix (de_var 5) de_int hF) da_nil))) (das_cons (de_call (d_is_closed T) hr (by decide) (da_s (de_var 4) (da_s (de_call (d_lesser_table T) hr (by decide) (da_s (e_ix (de_var 5) de_int hF) (da_s (e_ix (de_var 5) de_int hF) da_nil))) da_nil))) (das_cons (de_call (d_lesser_table T) hr (by decide) (da_s (e_ix (de_var 5) de_int hF) (da_s (e_ix (de_var 5) de_int hF) da_nil))) das_nil (hq := hF)) (hq := hF)) (hq := hF))) (da_s (de_tup (das_cons de_bl (das_cons de_bl (das_cons (de_var 13) das_nil (hq := hF)) (hq := hF)) (hq := hF))) da_nil)))))
    (dss_one (ds_ret de_bl))
    dss_nil)
    (dss_cons (ds_setN 9 sc__law_closed.nd (e_ix (de_var 13) de_int hF))
    (dss_cons (ds_set 14 sc__law_closed.nd (e_add (de_tup (das_cons (de_tup (das_cons (de_q (de_calm (e_ix (e_ix (de_bor 9) (de_b de_int) hT) (de_b de_int) hT))) (das_cons (e_add (de_callB (cr_sum rfl) c_sum T.b_sum (by decide +kernel) (das_cons (de_f (df_lc (own := [("one", 16)]) rfl sc__law_closed.nd (di_seq (e_ix (de_var 2) de_int hF)) (blkOk_by (own := [("one", 16)]) (N := ["jar", "purses", "bodies", "name", "program", "tables", "turn", "rows", "body", "row", "purse", "sums", "need", "less", "high", "at", "one"]) (sc := defScope (topS 52)) (by decide +kernel)) (fun _ _ _ _ _ => (dg_name 16 sc__law_closed.nd)) (fun _ _ _ _ _ => dts_nil) (fun _ _ _ _ _ => (e_ix (e_ix (de_var 16) de_int hF) de_int hF)))) das_nil (hq := hF))) de_int hF) das_nil (hq := hF)) (hq := hF))) das_nil (hq := hF))) (de_q (de_calm (de_sl s_sl d_sl (de_bor 9) (do_some (b := false) de_int) do_none (hq := hT)))) hF))
    (dss_one (ds_ret (de_and (de_call (d__law_same T) hr (by decide) (da_s (de_call (d_is_closed T) hr (by decide) (da_s (de_var 4) (da_s (de_tup (das_cons (e_ix (de_var 13) de_int hF) (das_cons (de_var 14) das_nil (hq := hF)) (hq := hF))) da_nil))) (da_s de_bl da_nil))) (de_one (de_call (d__law_same T) hr (by decide) (da_s (de_call (d_is_closed T) hr (by decide) (da_s (de_var 4) (da_s (de_call (d_joined_tables T) hr (by decide) (da_s (e_ix (de_var 5) de_int hF) (da_s (e_ix (de_var 5) de_int hF) da_nil))) da_nil))) (da_s de_bl da_nil)))))))))))))))))))
theorem d__law_closed (T : Top K mg) : DFn P w K mg base 14 "_law_closed" [2] none (F__law_closed mg) := by
  obtain ⟨f, fd, h1, h2, h3⟩ := T.f__law_closed
  exact ⟨f, fd, ["jar"], h1, h2.kp, .all h3, ok__law_closed T h2⟩
noncomputable def F_law (mg : PySem.Str → Option Value) : Fn := mkF 11 [0] none
  ((sSeq (sSet 1 (dCall [.s] F__law_jar (aS (dVar 0) aNil)))
  (sSeq (sSet 2 (dTup (dCons (dTup (dCons (dTup (dCons (dConst (.int 2)) (dCons (dUn gNeg (dConst (.int 1))) dNil))) (dCons (dTup (dCons (dConst (.int 0)) (dCons (dConst (.str "never")) dNil))) dNil))) dNil)))
  (sSeq (sSet 3 (dTup (dCons (dTup (dCons (dTup (dCons (dConst (.int 1)) (dCons (dConst (.str "deep")) dNil))) (dCons (dTup (dCons (dConst (.str "deep")) (dCons (dConst (.int 3)) dNil))) dNil))) dNil)))
  (sSeq (sSet 4 (dTup (dCons (dCall [.s, .s] (F_joined_tables mg) (aS (dVar 2) (aS (dVar 3) aNil))) (dCons (dCall [.s, .s] (F_lesser_table mg) (aS (dVar 2) (aS (dVar 3) aNil))) (dCons (dCall [.s, .s] (F_table_less mg) (aS (dVar 2) (aS (dVar 3) aNil))) (dCons (dCall [.s, .s] (F_table_less mg) (aS (dTup (dCons (dTup (dCons (dTup (dCons (dConst (.int 1)) (dCons (dConst (.int 0)) dNil))) dNil)) dNil)) (aS (dTup (dCons (dTup (dCons (dTup (dCons (dConst (.int 2)) (dCons (dUn gNeg (dConst (.int 1))) dNil))) dNil)) dNil)) aNil))) dNil))))))
  (sSeq (sIf (dNot (dTru (dCall [.s, .s] F__law_same (aS (dVar 4) (aS (dTup (dCons (dTup (dCons (dTup (dCons (dTup (dCons (dConst (.int 2)) (dCons (dConst (.str "deep")) dNil))) (dCons (dTup (dCons (dConst (.str "deep")) (dCons (dConst (.int 3)) dNil))) dNil))) dNil)) (dCons (dTup (dCons (dTup (dCons (dTup (dCons (dConst (.int 1)) (dCons (dUn gNeg (dConst (.int 1))) dNil))) (dCons (dTup (dCons (dConst (.int 0)) (dCons (dConst (.str "never")) dNil))) dNil))) dNil)) (dCons (dConst (.bl false)) (dCons (dConst (.bl true)) dNil))))) aNil)))))
  (sRet (dConst (.bl false)))
  sNil)
  (sSeq (sFor (dRng1 (dConst (.int 3))) (gtName 5)
  (sSeq (sPar [6, 7, 8] (dCons (dOp gAdd (dConst (.int 1)) (dCall [.io 1, .s] F__law_take (aIO 1 (aS (dConst (.int 5)) aNil)))) (dCons (dOp gAdd (dConst (.int 1)) (dCall [.io 1, .s] F__law_take (aIO 1 (aS (dConst (.int 4)) aNil)))) (dCons (dOp gIx (dLst (dCons (dConst (.int 3)) (dCons (dConst (.int 20)) (dCons (dOp gPow (dConst (.int 10)) (dConst (.int 6))) dNil)))) (dCall [.io 1, .s] F__law_take (aIO 1 (aS (dConst (.int 3)) aNil)))) dNil))))
  (sSeq (sSet 9 (dCall [.io 1, .s, .s, .s] F__law_table (aIO 1 (aS (dVar 6) (aS (dVar 7) (aS (dVar 8) aNil))))))
  (sSeq (sSet 10 (dOp gIx (dLst (dCons (dCall [.io 1, .s, .s, .s] F__law_table (aIO 1 (aS (dVar 6) (aS (dVar 7) (aS (dVar 8) aNil))))) (dCons (dCall [.io 1, .s, .s] F__law_near (aIO 1 (aS (dVar 9) (aS (dVar 8) aNil)))) (dCons (dVar 9) dNil)))) (dCall [.io 1, .s] F__law_take (aIO 1 (aS (dConst (.int 3)) aNil)))))
  (sIf (dNot (dTru (dCall [.s, .s] (F__law_asked mg) (aS (dVar 9) (aS (dVar 10) aNil)))))
  (sRet (dConst (.bl false)))
  sNil)))))
  (sSeq (sIf (dNot (dTru (dCall [.io 1] (F__law_closed mg) (aIO 1 aNil))))
  (sRet (dConst (.bl false)))
  sNil)
  (sSeq (sIf (dBool (dOp gLt (dCall [.io 1, .s] F__law_take (aIO 1 (aS (dConst (.int 13)) aNil))) (dConst (.int 12))))
  (sRet (dConst (.bl true)))
  sNil)
  (sSeq (sSet 9 (dCall [.io 1, .s, .s, .s] F__law_table (aIO 1 (aS (dConst (.int 12)) (aS (dConst (.int 4)) (aS (dOp gSub (dOp gPow (dConst (.int 10)) (dConst (.int 60))) (dConst (.int 1))) aNil))))))
  (sRet (dAndV (dCall [.s, .s] (F__law_asked mg) (aS (dVar 9) (aS (dCall [.io 1, .s, .s] F__law_near (aIO 1 (aS (dVar 9) (aS (dOp gSub (dOp gPow (dConst (.int 10)) (dConst (.int 60))) (dConst (.int 1))) aNil)))) aNil))) (dCall [.s, .s] (F__law_asked mg) (aS (dVar 9) (aS (dCall [.io 1, .s, .s, .s] F__law_table (aIO 1 (aS (dConst (.int 12)) (aS (dConst (.int 4)) (aS (dOp gPow (dConst (.int 10)) (dConst (.int 59))) aNil))))) aNil)))))))))))))))
theorem sc_law : FnScope ["script", "jar", "one", "other", "told", "turn", "names", "purses", "most", "first", "second"] ["script"] (defScope (topS 53)) := ⟨rfl, rfl, rfl, by decide +kernel, rfl, by decide +kernel, by decide +kernel⟩
theorem ok_law (T : Top K mg) {f : Addr} {fd : FuncData} (h2 : Fun K "law" "law" (topS 53) f fd) : FnOk P w K mg base CX0 15 f fd ["script"] (spD K [0] none (F_law mg)) :=
  fun_ok (lv := [0, 2, 0, 0, 0, 0, 0, 0, 0, 0, 0]) h2 sc_law rfl rfl fun cdv A outer s H H0 vs E M Z hr =>
    (dss_cons (ds_new 1 sc_law.nd (df_call (d__law_jar T) hr (by decide) (da_s (de_var 0) da_nil)))
    (dss_cons (ds_set 2 sc_law.nd (de_tup (das_cons (de_tup (das_cons (de_tup (das_cons de_int (das_cons (e_neg de_int) das_nil (hq := hF)) (hq := hF))) (das_cons (de_tup (das_cons de_int (das_cons de_str das_nil (hq := hF)) (hq := hF))) das_nil (hq := hF)) (hq := hF))) das_nil (hq := hF))))
    (dss_cons (ds_set 3 sc_law.nd (de_tup (das_cons (de_tup (das_cons (de_tup (das_cons de_int (das_cons de_str das_nil (hq := hF)) (hq := hF))) (das_cons (de_tup (das_cons de_str (das_cons de_int das_nil (hq := hF)) (hq := hF))) das_nil (hq := hF)) (hq := hF))) das_nil (hq := hF))))
    (dss_cons (ds_set 4 sc_law.nd (de_tup (das_cons (de_callK0 (k_joined_tables T) hr (by decide) (dk_s (de_var 2) (dk_s (de_var 3) dk_nil))) (das_cons (de_callK0 (k_lesser_table T) hr (by decide) (dk_s (de_var 2) (dk_s (de_var 3) dk_nil))) (das_cons (de_call (d_table_less T) hr (by decide) (da_s (de_var 2) (da_s (de_var 3) da_nil))) (das_cons (de_callK0 (k_table_less T) hr (by decide) (dk_s (de_tup (das_cons (de_tup (das_cons (de_tup (das_cons de_int (das_cons de_int das_nil (hq := hF)) (hq := hF))) das_nil (hq := hF))) das_nil (hq := hF))) (dk_s (de_tup (das_cons (de_tup (das_cons (de_tup (das_cons de_int (das_cons (e_neg de_int) das_nil (hq := hF)) (hq := hF))) das_nil (hq := hF))) das_nil (hq := hF))) dk_nil))) das_nil (hq := hF)) (hq := hF)) (hq := hF)) (hq := hF))))
    (dss_cons (ds_if (dt_not (dt_tru (b := false) (de_call (d__law_same T) hr (by decide) (da_s (de_var 4) (da_s (de_tup (das_cons (de_tup (das_cons (de_tup (das_cons (de_tup (das_cons de_int (das_cons de_str das_nil (hq := hF)) (hq := hF))) (das_cons (de_tup (das_cons de_str (das_cons de_int das_nil (hq := hF)) (hq := hF))) das_nil (hq := hF)) (hq := hF))) das_nil (hq := hF))) (das_cons (de_tup (das_cons (de_tup (das_cons (de_tup (das_cons de_int (das_cons (e_neg de_int) das_nil (hq := hF)) (hq := hF))) (das_cons (de_tup (das_cons de_int (das_cons de_str das_nil (hq := hF)) (hq := hF))) das_nil (hq := hF)) (hq := hF))) das_nil (hq := hF))) (das_cons de_bl (das_cons de_bl das_nil (hq := hF)) (hq := hF)) (hq := hF)) (hq := hF))) da_nil)))))
    (dss_one (ds_ret de_bl))
    dss_nil)
    (dss_cons (ds_for PassesOwn.never rfl (di_rng1 T.b_range de_int) (dg_name 5 sc_law.nd)
    (dss_cons (ds_par3 6 7 8 rfl sc_law.nd (das_cons (e_add de_int (de_call (d__law_take T) hr (by decide) (da_io 1 (da_s de_int da_nil))) hF) (das_cons (e_add de_int (de_call (d__law_take T) hr (by decide) (da_io 1 (da_s de_int da_nil))) hF) (das_cons (e_ix (de_f (df_lst (das_cons de_int (das_cons de_int (das_cons (e_pow de_int de_int hF) das_nil (hq := hF)) (hq := hF)) (hq := hF)))) (de_call (d__law_take T) hr (by decide) (da_io 1 (da_s de_int da_nil))) hF) das_nil (hq := hF)) (hq := hF)) (hq := hF)))
    (dss_cons (ds_set 9 sc_law.nd (de_call (d__law_table T) hr (by decide) (da_io 1 (da_s (de_var 6) (da_s (de_var 7) (da_s (de_var 8) da_nil))))))
    (dss_cons (ds_set 10 sc_law.nd (e_ix (de_f (df_lst (das_cons (de_call (d__law_table T) hr (by decide) (da_io 1 (da_s (de_var 6) (da_s (de_var 7) (da_s (de_var 8) da_nil))))) (das_cons (de_call (d__law_near T) hr (by decide) (da_io 1 (da_s (de_var 9) (da_s (de_var 8) da_nil)))) (das_cons (de_var 9) das_nil (hq := hF)) (hq := hF)) (hq := hF)))) (de_call (d__law_take T) hr (by decide) (da_io 1 (da_s de_int da_nil))) hF))
    (dss_one (ds_if (dt_not (dt_tru (b := false) (de_call (d__law_asked T) hr (by decide) (da_s (de_var 9) (da_s (de_var 10) da_nil)))))
    (dss_one (ds_ret de_bl))
    dss_nil))))))
    (dss_cons (ds_if (dt_not (dt_tru (b := false) (de_call (d__law_closed T) hr (by decide) (da_io 1 da_nil))))
    (dss_one (ds_ret de_bl))
    dss_nil)
    (dss_cons (ds_if (t_lt (de_call (d__law_take T) hr (by decide) (da_io 1 (da_s de_int da_nil))) de_int hF hr)
    (dss_one (ds_ret de_bl))
    dss_nil)
    (dss_cons (ds_set 9 sc_law.nd (de_call (d__law_table T) hr (by decide) (da_io 1 (da_s de_int (da_s de_int (da_s (e_sub (e_pow de_int de_int hF) de_int hF) da_nil))))))
    (dss_one (ds_ret (de_and (de_call (d__law_asked T) hr (by decide) (da_s (de_var 9) (da_s (de_call (d__law_near T) hr (by decide) (da_io 1 (da_s (de_var 9) (da_s (e_sub (e_pow de_int de_int hF) de_int hF) da_nil)))) da_nil))) (de_one (de_call (d__law_asked T) hr (by decide) (da_s (de_var 9) (da_s (de_call (d__law_table T) hr (by decide) (da_io 1 (da_s de_int (da_s de_int (da_s (e_pow de_int de_int hF) da_nil))))) da_nil))))))))))))))))
theorem d_law (T : Top K mg) : DFn P w K mg base 15 "law" [0] none (F_law mg) := by
  obtain ⟨f, fd, h1, h2, h3⟩ := T.f_law
  exact ⟨f, fd, ["script"], h1, h2.kp, .all h3, ok_law T h2⟩
end
end K15
open PySem PySem.Spec PyProof.Rows L2 DL
local macro_rules | `(tactic| walk_at "ds") => `(tactic| try dsimp only [List.set_cons_zero, List.set_cons_succ, List.map_cons, List.map_nil, List.length_cons, List.length_nil, Nat.reduceAdd, Nat.reduceSub, List.replicate_succ, List.replicate_zero, List.cons_append, List.nil_append, wipeE, restE, List.getElem?_cons_zero, List.getElem?_cons_succ, Option.getD_some, Option.getD_none, Int.toNat_one, Int.reduceToNat, Bool.not_true, Bool.not_false])
local macro_rules | `(tactic| walk_at "st") => `(tactic| first
  | with_reducible first
    | refine w_mkF ?_ | refine w_seq ?_ | refine w_if ?_ | refine w_set ?_ | refine w_ret ?_ | refine w_drop ?_ | refine w_nil ?_ | refine w_break ?_ | refine w_cont ?_
    | refine w_const ?_ | refine w_op ?_ | refine w_un ?_ | refine w_nils ?_ | refine w_cons ?_ | refine w_tup ?_ | refine w_lst ?_ | refine w_tru ?_ | refine w_not ?_ | refine w_and ?_ | refine w_or ?_ | refine w_ife ?_ | refine w_andV ?_ | refine w_orV ?_
    | refine w_callB ?_ | refine w_call ?_ | refine w_anil ?_ | refine w_as ?_ | refine w_asg ?_ | refine w_tname ?_ | refine w_sl ?_ | refine w_nopart ?_ | refine w_for ?_ | refine w_comp ?_
    | refine g_add ?_ | refine g_sub ?_ | refine g_neg ?_ | refine g_lt ?_ | refine g_le ?_ | refine g_gt ?_ | refine g_ge ?_ | refine g_eqi ?_ | refine gNe_ii ?_ | refine g_nei ?_ | refine g_int ?_ | refine g_abs ?_ | refine g_lenL ?_ | refine g_lenT ?_ | refine g_trub ?_ | refine g_tupL ?_ | refine g_tupT ?_
    | refine itNT ?_ | refine itNF ?_ | refine iteT ?_ | refine iteF ?_ | refine Ok.ret ?_
  | ((with_reducible refine' w_var ?h1 ?_); (case h1 => exact rfl))
  | ((with_reducible refine' w_take ?h1 ?_); (case h1 => exact rfl))
  | ((with_reducible refine' w_aio ?h1 ?_); (case h1 => exact rfl))
  | ((with_reducible refine gMul_r ?h1 ?h2 ?_); (case h1 => first | decide | omega); (case h2 => first | decide | omega))
  | ((with_reducible refine gMod_p ?h1 ?_); (case h1 => first | decide | assumption | omega))
  | ((with_reducible refine gFdiv_p ?h1 ?_); (case h1 => exact ⟨by decide, by decide⟩))
  | ((with_reducible refine gPow_p ?h1 ?_); (case h1 => decide))
  | ((with_reducible refine gShl_p ?h1 ?_); (case h1 => decide))
  | (with_reducible refine gIx_t0 ?_)
  | (with_reducible refine gIx_l0 ?_)
  | (with_reducible refine gNe_ii ?_)
  | (with_reducible refine gNe_bb ?_)
  | (with_reducible refine gNe_ss ?_)
  | ((with_reducible show Ok (gIsi _) _); first | refine Ok.mk (a := D.bl true) rfl ?_ | refine Ok.mk (a := D.bl false) rfl ?_)
  | ((with_reducible show Ok (gIsN _ _) _); first | refine Ok.mk (a := D.bl true) rfl ?_ | refine Ok.mk (a := D.bl false) rfl ?_)
  | ((with_reducible show Ok (gNotN _ _) _); first | refine Ok.mk (a := D.bl true) rfl ?_ | refine Ok.mk (a := D.bl false) rfl ?_)
  | ((with_reducible show Ok (gtTup _ _ (D.tup [_, _]) _) _); refine Ok.mk rfl ?_)
  | ((with_reducible show Ok (gIx (D.lst (_ :: _)) (D.int _)) _); refine Ok.mk rfl ?_)
  | ((with_reducible show Ok (gIx (D.tup (_ :: _)) (D.int _)) _); refine Ok.mk rfl ?_)
  | ((with_reducible show Ok (fillA _ _ _) _); refine Ok.mk rfl ?_)
  | ((with_reducible show Ok ((outP _ _ _).bind _) _); refine Ok.mk rfl ?_)
  | ((with_reducible show Ok (dYes _) _); refine Ok.mk rfl ?_)
  | ((with_reducible show true = true ∧ Ok _ _); refine ⟨rfl, ?_⟩)
  | ((with_reducible refine w_bool ?_))
  | ((with_reducible show ∃ k : Bool, D.bl _ = D.bl k ∧ _); refine ⟨_, rfl, ?_⟩)
  | ((with_reducible refine w_calm ?_))
  | ((with_reducible refine w_put ?_))
  | ((with_reducible show ∃ ds0 : List D, _ = some (some (D.lst ds0)) ∧ Ok _ _); refine ⟨_, rfl, ?_⟩)
  | ((with_reducible show ∃ (ds : List D) (n : Int) (j : Nat), _ = some (some (D.lst ds)) ∧ _ ∧ _ ∧ _); refine ⟨_, _, _, rfl, rfl, rfl, ?_⟩)
  | ((with_reducible show D.calm (D.int _) = true ∧ _); refine ⟨rfl, ?_⟩))
local macro_rules | `(tactic| walk_at "go") => `(tactic| (walk_at "ds"; repeat (walk_at "st"; walk_at "ds")))
local macro_rules | `(tactic| walk_at "st") => `(tactic| first
  | ((with_reducible refine' w_callL ?h1 ?_); (case h1 => exact rfl))
  | (with_reducible refine w_frz ?_)
  | (with_reducible refine g_not ?_)
  | (with_reducible refine w_setN ?_)
  | (with_reducible refine w_putO ?_)
  | (with_reducible refine w_put2 ?_)
  | (with_reducible refine w_consN ?_)
  | ((with_reducible show D.isL (D.int _) = false ∧ _); refine ⟨rfl, ?_⟩))
namespace K15
/-- deep, never, or a number -/
inductive Fg where
  | deep
  | never
  | num (i : Int)
def Fg.d : Fg → D
  | .deep => .str "deep"
  | .never => .str "never"
  | .num i => .int i
/-- deep or a number of nought and more -/
def Fg.nd : Fg → Prop
  | .num i => 0 ≤ i
  | .deep => True
  | .never => False
/-! the figures -/
def sumF : Fg → Fg → Fg
  | .never, _ => .never
  | _, .never => .never
  | .deep, _ => .deep
  | _, .deep => .deep
  | .num i, .num j => .num (i + j)
def ltF : Fg → Fg → Bool
  | .deep, .deep => false
  | .deep, _ => true
  | _, .deep => false
  | .num i, .num j => decide (i < j)
  | .num _, .never => true
  | .never, _ => false
def keyF : Fg → D
  | .deep => .tup [.int 0, .int 0]
  | .never => .tup [.int 2, .int 0]
  | .num i => .tup [.int 1, .int i]
section
variable {f g : Fg} {Q : D × List D → Prop}
theorem low_sum_r (q : Q ((sumF f g).d, [.non, .non])) : Ok (F_low_sum [f.d, g.d]) Q := ⟨_, by cases f <;> cases g <;> rfl, q⟩
theorem low_rank_r (q : Q (keyF f, [.non])) : Ok (F_low_rank [f.d]) Q := ⟨_, by cases f <;> rfl, q⟩
theorem law_rank_r (q : Q (keyF f, [.non])) : Ok (F__law_rank [f.d]) Q := ⟨_, by cases f <;> rfl, q⟩
theorem key_lt {Q : D → Prop} (q : Q (.bl (ltF f g))) : Ok (gLt (keyF f) (keyF g)) Q := by
  refine ⟨_, ?_, q⟩
  cases f <;> cases g <;> try rfl
  rename_i i j
  show Res.ok (D.bl (HT.lexLt [1, i] [1, j])) = .ok (.bl (decide (i < j)))
  congr 2
  unfold HT.lexLt HT.lexLt HT.lexLt
  by_cases h : i < j
  · simp [h]; try omega
  · simp [h]; try omega
local macro_rules | `(tactic| walk_at "st") => `(tactic| with_reducible first | refine low_sum_r ?_ | refine low_rank_r ?_ | refine law_rank_r ?_ | refine key_lt ?_)
theorem low_less_r (q : Q (.bl (ltF f g), [.non, .non])) : Ok (F_low_less [f.d, g.d]) Q := by
  unfold F_low_less
  walk_at "go"
  exact q
end
def needF : Fg → Fg → Bool
  | .num _, .deep => true
  | .num i, .num j => decide (i < j)
  | _, _ => false
def behindF : Fg → Fg → Fg
  | _, .never => .num 0
  | .deep, _ => .deep
  | _, .deep => .deep
  | .num i, .num j => .num (if i - j > 0 then i - j else 0)
  | _, _ => .deep
section
variable {f g : Fg} {Q : D × List D → Prop}
theorem need_less_r (hf : f.nd) (hg : g.nd) (q : Q (.bl (needF f g), [.non, .non])) : Ok (F_need_less [f.d, g.d]) Q := by
  refine ⟨_, ?_, q⟩
  cases f with
  | never => cases hf
  | deep => rfl
  | num i => cases g with
    | never => cases hg
    | deep => rfl
    | num j => rfl
theorem need_behind_r (hf : f.nd) (q : Q ((behindF f g).d, [.non, .non])) : Ok (F_need_behind [f.d, g.d]) Q := by
  refine ⟨_, ?_, q⟩
  cases f with
  | never => cases hf
  | deep => cases g <;> rfl
  | num i => cases g with
    | num j => rfl
    | _ => rfl
end
def foldF (lt : Fg → Fg → Bool) : List Fg → Fg → Fg
  | [], b => b
  | l :: ls, b => foldF lt ls (if lt l b = true then l else b)
local macro_rules | `(tactic| walk_at "st") => `(tactic| with_reducible first | refine low_sum_r ?_ | refine low_rank_r ?_ | refine law_rank_r ?_ | refine key_lt ?_ | refine low_less_r ?_)
theorem least_low_r {a : Fg} {ls : List Fg} {Q : D × List D → Prop} (q : Q ((foldF ltF (a :: ls) a).d, [.non])) : Ok (F_least_low [.tup ((a :: ls).map Fg.d)]) Q := by
  show Ok (F_least_low [.tup (a.d :: List.map Fg.d ls)]) Q
  unfold F_least_low
  walk_at "go"
  refine w_seqI ?_
  walk_at "go"
  refine ⟨_, rfl, ?_⟩
  refine w_loop (fun ds ρ => ∃ rest b x, ds = List.map Fg.d rest ∧ ρ = [some (.tup (a.d :: List.map Fg.d ls)), some (Fg.d b), x] ∧ foldF ltF rest b = foldF ltF (a :: ls) a) ?_ ?_ _ _ ⟨a :: ls, a, none, rfl, rfl, rfl⟩
  · rintro d ds ρ ⟨rest, b, x, e, rfl, h⟩
    cases rest with
    | nil => cases e
    | cons l rest =>
      cases e
      walk_at "go"
      refine ite2 (fun hc => ?_) (fun hc => ?_)
      · walk_at "go"
        refine ⟨rest, l, _, rfl, rfl, ?_⟩
        rw [← h, foldF, if_pos hc]
      · walk_at "go"
        refine ⟨rest, b, _, rfl, rfl, ?_⟩
        rw [← h, foldF, if_neg hc]
  · rintro ρ ⟨rest, b, x, e, rfl, h⟩
    cases rest with
    | cons _ _ => cases e
    | nil =>
      walk_at "go"
      rw [← h] at q
      exact q
theorem greatest_need_r {a : Fg} {ls : List Fg} {Q : D × List D → Prop} (hn : ∀ x ∈ a :: ls, x.nd) (q : Q ((foldF (fun l b => needF b l) (a :: ls) a).d, [.non])) : Ok (F_greatest_need [.tup ((a :: ls).map Fg.d)]) Q := by
  show Ok (F_greatest_need [.tup (a.d :: List.map Fg.d ls)]) Q
  unfold F_greatest_need
  walk_at "go"
  refine w_seqI ?_
  walk_at "go"
  refine ⟨_, rfl, ?_⟩
  refine w_loop (fun ds ρ => ∃ rest b x, ds = List.map Fg.d rest ∧ b.nd ∧ (∀ x ∈ rest, x.nd) ∧ ρ = [some (.tup (a.d :: List.map Fg.d ls)), some (Fg.d b), x] ∧ foldF (fun l b => needF b l) rest b = foldF (fun l b => needF b l) (a :: ls) a) ?_ ?_ _ _ ⟨a :: ls, a, none, rfl, hn a List.mem_cons_self, hn, rfl, rfl⟩
  · rintro d ds ρ ⟨rest, b, x, e, nb, nr, rfl, h⟩
    cases rest with
    | nil => cases e
    | cons l rest =>
      cases e
      have nl := nr l List.mem_cons_self
      walk_at "go"
      refine need_less_r nb nl ?_
      walk_at "go"
      refine ite2 (fun hc => ?_) (fun hc => ?_)
      · walk_at "go"
        refine ⟨rest, l, _, rfl, nl, fun x hx => nr x (List.mem_cons_of_mem _ hx), rfl, ?_⟩
        rw [← h, foldF, if_pos hc]
      · walk_at "go"
        refine ⟨rest, b, _, rfl, nb, fun x hx => nr x (List.mem_cons_of_mem _ hx), rfl, ?_⟩
        rw [← h, foldF, if_neg hc]
  · rintro ρ ⟨rest, b, x, e, _, _, rfl, h⟩
    cases rest with
    | cons _ _ => cases e
    | nil =>
      walk_at "go"
      rw [← h] at q
      exact q
/-- of two -/
def lo2 (f g : Fg) : Fg := if ltF g f = true then g else f
def ne2 (f g : Fg) : Fg := if needF f g = true then g else f
theorem lt_irr (f : Fg) : ltF f f = false := by cases f <;> simp [ltF]
theorem ne_irr (f : Fg) : needF f f = false := by cases f <;> simp [needF]
theorem least2 {f g : Fg} {Q : D × List D → Prop} (q : Q ((lo2 f g).d, [.non])) : Ok (F_least_low [.tup [f.d, g.d]]) Q := by
  refine least_low_r (a := f) (ls := [g]) ?_
  show Q ((if ltF g (if ltF f f = true then f else f) = true then g else (if ltF f f = true then f else f)).d, _)
  rw [lt_irr f, if_neg Bool.false_ne_true]
  exact q
theorem great2 {f g : Fg} (hf : f.nd) (hg : g.nd) {Q : D × List D → Prop} (q : Q ((ne2 f g).d, [.non])) : Ok (F_greatest_need [.tup [f.d, g.d]]) Q := by
  refine greatest_need_r (a := f) (ls := [g]) (fun x hx => ?_) ?_
  · rcases List.mem_cons.mp hx with rfl | hx
    · exact hf
    · rw [List.mem_singleton.mp hx]
      exact hg
  show Q ((if needF (if needF f f = true then f else f) g = true then g else (if needF f f = true then f else f)).d, _)
  rw [ne_irr f, if_neg Bool.false_ne_true]
  exact q
theorem law_above_r {f g : Fg} (hf : f.nd) (hg : g.nd) {Q : D × List D → Prop} (q : Q (.bl (needF g f), [.non, .non])) : Ok (F__law_above [f.d, g.d]) Q := by
  refine ⟨_, ?_, q⟩
  cases f with
  | never => cases hf
  | deep => cases g with
    | never => cases hg
    | _ => rfl
  | num i => cases g with
    | never => cases hg
    | _ => rfl
end K15
namespace K15
local macro_rules | `(tactic| walk_at "st") => `(tactic| with_reducible first | refine low_sum_r ?_ | refine low_rank_r ?_ | refine law_rank_r ?_ | refine key_lt ?_ | refine low_less_r ?_ | refine least2 ?_)
local macro_rules | `(tactic| walk_at "st") => `(tactic| first
  | ((with_reducible refine need_less_r ?h1 ?h2 ?_); (case h1 => assumption); (case h2 => assumption))
  | ((with_reducible refine great2 ?h1 ?h2 ?_); (case h1 => assumption); (case h2 => assumption))
  | ((with_reducible refine law_above_r ?h1 ?h2 ?_); (case h1 => assumption); (case h2 => assumption)))
/-- a pair: what is needed, the low -/
abbrev Pr := Fg × Fg
abbrev prD (p : Pr) : D := .tup [p.1.d, p.2.d]
abbrev rowD (r : List Pr) : D := .tup (r.map prD)
abbrev tabD (t : List (List Pr)) : D := .tup (t.map rowD)
def joinP (p q : Pr) : Pr := (ne2 p.1 q.1, lo2 p.2 q.2)
def lessP (p q : Pr) : Pr := (if needF p.1 q.1 = true then p.1 else q.1, if ltF p.2 q.2 = true then q.2 else p.2)
def ltP (p q : Pr) : Bool := !needF q.1 p.1 && !ltF p.2 q.2
theorem itif {α : Type} {c : Bool} {x y : α} {P : α → Prop} (h : P (if c = true then x else y)) : if c = true then P x else P y := by
  cases c with
  | true => exact h
  | false => exact h
section
variable {p q : Pr} {Q : D × List D → Prop}
theorem joined_pair_r (hp : p.1.nd) (hq : q.1.nd) (k : Q (prD (joinP p q), [.non, .non])) : Ok (F_joined_pair [prD p, prD q]) Q := by
  unfold F_joined_pair
  walk_at "go"
  exact k
theorem lesser_pair_r (hp : p.1.nd) (hq : q.1.nd) (k : Q (prD (lessP p q), [.non, .non])) : Ok (F_lesser_pair [prD p, prD q]) Q := by
  unfold F_lesser_pair
  walk_at "go"
  refine ite2 (fun h1 => ?_) (fun h1 => ?_)
  · walk_at "go"
    refine ite2 (fun h2 => ?_) (fun h2 => ?_)
    · walk_at "go"
      unfold lessP at k
      rw [if_pos h1, if_pos h2] at k
      exact k
    · walk_at "go"
      unfold lessP at k
      rw [if_pos h1, if_neg h2] at k
      exact k
  · walk_at "go"
    refine ite2 (fun h2 => ?_) (fun h2 => ?_)
    · walk_at "go"
      unfold lessP at k
      rw [if_neg h1, if_pos h2] at k
      exact k
    · walk_at "go"
      unfold lessP at k
      rw [if_neg h1, if_neg h2] at k
      exact k
theorem pair_less_r (hp : p.1.nd) (hq : q.1.nd) (k : Q (.bl (ltP p q), [.non, .non])) : Ok (F_pair_less [prD p, prD q]) Q := by
  unfold F_pair_less
  walk_at "go"
  refine ite2 (fun h1 => ?_) (fun h1 => ?_)
  · walk_at "go"
    unfold ltP at k
    rw [h1] at k
    exact k
  · walk_at "go"
    unfold ltP at k
    rw [Bool.eq_false_iff.mpr h1] at k
    rw [Bool.eq_false_iff.mpr h1]
    exact k
end
/-! rows of two tables, pair by pair -/
def unF : D → Fg
  | .int i => .num i
  | .str x => if x = "never" then .never else .deep
  | _ => .deep
theorem unF_d {f : Fg} : unF f.d = f := by cases f <;> rfl
def unP : D → Pr
  | .tup [a, b] => (unF a, unF b)
  | _ => (.deep, .deep)
theorem unP_d {p : Pr} : unP (prD p) = p := by
  show (unF p.1.d, unF p.2.d) = p
  rw [unF_d, unF_d]
def bothP (g : Pr → Pr → D) : D → D
  | .tup [a, b] => g (unP a) (unP b)
  | d => d
theorem both_map (g : Pr → Pr → D) : ∀ r s : List Pr, (DL.pairD (r.map prD) (s.map prD)).map (bothP g) = List.zipWith g r s
  | [], _ => rfl
  | _ :: _, [] => rfl
  | p :: r, q :: s => by
    show g (unP (prD p)) (unP (prD q)) :: (DL.pairD (r.map prD) (s.map prD)).map (bothP g) = _
    rw [both_map g r s, unP_d, unP_d]
    rfl
theorem pair_len (xs ys : List D) : (DL.pairD xs ys).length ≤ xs.length := by
  unfold DL.pairD
  rw [List.length_map, List.length_zip]
  omega
theorem pair_in {r s : List Pr} {d : D} (h : d ∈ DL.pairD (r.map prD) (s.map prD)) : ∃ p q, p ∈ r ∧ q ∈ s ∧ d = .tup [prD p, prD q] := by
  unfold DL.pairD at h
  obtain ⟨z, h1, rfl⟩ := List.mem_map.mp h
  obtain ⟨a, ha, e1⟩ := List.mem_map.mp (List.of_mem_zip h1).1
  obtain ⟨b, hb, e2⟩ := List.mem_map.mp (List.of_mem_zip h1).2
  exact ⟨a, b, ha, hb, by rw [e1, e2]⟩
/-- needs that are needs -/
def ndR (r : List Pr) : Prop := ∀ p ∈ r, p.1.nd
def ndT (t : List (List Pr)) : Prop := ∀ r ∈ t, ndR r ∧ r.length ≤ 1000
theorem calms_zip {α : Type} {f : α → α → D} (h : ∀ a b, (f a b).calm = true) : ∀ t u : List α, D.calms (List.zipWith f t u) = true
  | [], _ => rfl
  | _ :: _, [] => rfl
  | a :: t, b :: u => by
    show ((f a b).calm && D.calms (List.zipWith f t u)) = true
    rw [h, calms_zip h t u]
    rfl
theorem paired {a : Addr} {J : Fn} {g : Pr → Pr → D} (hJ : ∀ p q, p.1.nd → q.1.nd → J [prD p, prD q] = .ok (g p q, [.non, .non])) (hg : ∀ p q, (g p q).calm = true) {t u : List (List Pr)} (ht : ndT t) (hu : ndT u) (lt : t.length ≤ 1000) {Q : D × List D → Prop}
    (k : Q (.tup (List.zipWith (fun r s => .tup (List.zipWith g r s)) t u), [.non, .non, .non])) : Ok (F_paired_rows a J [tabD t, tabD u, .fn a]) Q := by
  unfold F_paired_rows
  walk_at "go"
  refine w_zip ?_
  walk_at "go"
  refine ⟨_, _, rfl, ?_⟩
  refine w_loop (fun es ρ => ∃ (t' u' : List (List Pr)) (done : List D) (x y : Option D), es = DL.pairD (t'.map rowD) (u'.map rowD) ∧ ndT t' ∧ ndT u' ∧ done.length + t'.length ≤ 1000 ∧ done ++ List.zipWith (fun r s => .tup (List.zipWith g r s)) t' u' = List.zipWith (fun r s => .tup (List.zipWith g r s)) t u ∧
    ρ = [some (tabD t), some (tabD u), some (.fn a), some (.lst done), x, y, none, none]) ?_ ?_ _ _ ⟨t, u, [], none, none, rfl, ht, hu, by simpa using lt, rfl, rfl⟩
  · rintro d es ρ ⟨t', u', done, x, y, e, ht', hu', hl, hz, rfl⟩
    cases t' with
    | nil => cases e
    | cons r t' =>
      cases u' with
      | nil => cases e
      | cons s u' =>
        cases e
        have hr := ht' r List.mem_cons_self
        have hs := hu' s List.mem_cons_self
        rw [List.length_cons] at hl
        walk_at "go"
        refine w_app rfl ?_
        walk_at "go"
        refine w_zip ?_
        walk_at "go"
        refine ⟨_, _, rfl, Nat.le_trans (pair_len _ _) (by rw [List.length_map]; omega), ?_⟩
        refine w_cmap (bothP g) (fun d hd => ?_) ?_
        · obtain ⟨p, q, hp, hq, rfl⟩ := pair_in hd
          walk_at "go"
          refine Ok.mk (hJ p q (hr.1 p hp) (hs.1 q hq)) ?_
          walk_at "go"
          refine ⟨?_, rfl⟩
          show _ = g (unP (prD p)) (unP (prD q))
          rw [unP_d, unP_d]
        · rw [both_map]
          walk_at "go"
          refine ⟨_, rfl, by omega, ?_⟩
          refine ⟨t', u', _, _, _, rfl, fun r hr => ht' r (List.mem_cons_of_mem _ hr), fun r hr => hu' r (List.mem_cons_of_mem _ hr), by rw [List.length_append, List.length_singleton]; omega, ?_, rfl⟩
          rw [← hz, List.append_assoc]
          rfl
  · rintro ρ ⟨t', u', done, x, y, e, ht', hu', hl, hz, rfl⟩
    have e0 : List.zipWith (fun r s => D.tup (List.zipWith g r s)) t' u' = [] := by
      cases t' with
      | nil => rfl
      | cons r t' =>
        cases u' with
        | nil => rfl
        | cons s u' => cases e
    rw [e0, List.append_nil] at hz
    subst hz
    walk_at "go"
    refine ⟨?_, ?_⟩
    · exact calms_zip (f := fun r s => D.tup (List.zipWith g r s)) (fun r s => calms_zip hg r s) t u
    walk_at "go"
    exact k
theorem calm_f {f : Fg} : f.d.calm = true := by cases f <;> rfl
theorem calm_p {p : Pr} : (prD p).calm = true := by
  show (p.1.d.calm && (p.2.d.calm && true)) = true
  rw [calm_f, calm_f]
  rfl
theorem map_zip {α β γ : Type} (f : γ → D) (g : α → β → γ) : ∀ (t : List α) (u : List β), List.zipWith (fun a b => f (g a b)) t u = (List.zipWith g t u).map f
  | [], _ => rfl
  | _ :: _, [] => rfl
  | a :: t, b :: u => by
    show f (g a b) :: List.zipWith (fun a b => f (g a b)) t u = _
    rw [map_zip f g t u]
    rfl
def tab2 (g : Pr → Pr → Pr) (t u : List (List Pr)) : List (List Pr) := List.zipWith (fun r s => List.zipWith g r s) t u
theorem tab2_D (g : Pr → Pr → Pr) (t u : List (List Pr)) : D.tup (List.zipWith (fun r s => .tup (List.zipWith (fun p q => prD (g p q)) r s)) t u) = tabD (tab2 g t u) := by
  have e : (fun (r s : List Pr) => D.tup (List.zipWith (fun p q => prD (g p q)) r s)) = fun r s => rowD (List.zipWith g r s) := by
    funext r s
    rw [map_zip prD g r s]
  rw [e, map_zip rowD (fun r s => List.zipWith g r s) t u]
  rfl
section
variable {mg : PySem.Str → Option PySem.Value} {t u : List (List Pr)} {Q : D × List D → Prop}
theorem joined_tables_r (ht : ndT t) (hu : ndT u) (lt : t.length ≤ 1000) (k : Q (tabD (tab2 joinP t u), [.non, .non])) : Ok (F_joined_tables mg [tabD t, tabD u]) Q := by
  unfold F_joined_tables
  walk_at "go"
  refine paired (g := fun p q => prD (joinP p q)) (fun p q hp hq => ?_) (fun p q => calm_p) ht hu lt ?_
  · obtain ⟨r, e, rfl⟩ := joined_pair_r (Q := fun r => r = (prD (joinP p q), [.non, .non])) hp hq rfl
    exact e
  rw [tab2_D]
  walk_at "go"
  exact k
theorem lesser_table_r (ht : ndT t) (hu : ndT u) (lt : t.length ≤ 1000) (k : Q (tabD (tab2 lessP t u), [.non, .non])) : Ok (F_lesser_table mg [tabD t, tabD u]) Q := by
  unfold F_lesser_table
  walk_at "go"
  refine paired (g := fun p q => prD (lessP p q)) (fun p q hp hq => ?_) (fun p q => calm_p) ht hu lt ?_
  · obtain ⟨r, e, rfl⟩ := lesser_pair_r (Q := fun r => r = (prD (lessP p q), [.non, .non])) hp hq rfl
    exact e
  rw [tab2_D]
  walk_at "go"
  exact k
theorem bools_zip {f : Pr → Pr → Bool} : ∀ r s : List Pr, bools? (List.zipWith (fun p q => D.bl (f p q)) r s) = some (List.zipWith f r s)
  | [], _ => rfl
  | _ :: _, [] => rfl
  | p :: r, q :: s => by
    show (bools? (List.zipWith (fun p q => D.bl (f p q)) r s)).map (f p q :: ·) = _
    rw [bools_zip r s]
    rfl
theorem bools_map {α : Type} {f : α → Bool} : ∀ r : List α, bools? (r.map fun p => D.bl (f p)) = some (r.map f)
  | [] => rfl
  | p :: r => by
    show (bools? (r.map fun p => D.bl (f p))).map (f p :: ·) = _
    rw [bools_map r]
    rfl
def allRow : D → D
  | .tup ds => .bl (((bools? ds).getD []).all id)
  | d => d
def tabLt (t u : List (List Pr)) : Bool := (List.zipWith (fun r s => (List.zipWith ltP r s).all id) t u).all id
theorem table_less_r (ht : ndT t) (hu : ndT u) (lt : t.length ≤ 1000) (k : Q (.bl (tabLt t u), [.non, .non])) : Ok (F_table_less mg [tabD t, tabD u]) Q := by
  unfold F_table_less
  walk_at "go"
  refine w_seqI ?_
  walk_at "go"
  refine paired (g := fun p q => .bl (ltP p q)) (fun p q hp hq => ?_) (fun p q => rfl) ht hu lt ?_
  · obtain ⟨r, e, rfl⟩ := pair_less_r (Q := fun r => r = (.bl (ltP p q), [.non, .non])) hp hq rfl
    exact e
  walk_at "go"
  refine ⟨_, rfl, by rw [List.length_zipWith]; omega, ?_⟩
  refine w_cmap allRow (fun d hd => ?_) ?_
  · have : ∃ r s, d = .tup (List.zipWith (fun p q => D.bl (ltP p q)) r s) := by
      clear k
      induction t generalizing u with
      | nil => cases hd
      | cons r t ih =>
        cases u with
        | nil => cases hd
        | cons s u =>
          rcases List.mem_cons.mp hd with e | e
          · exact ⟨r, s, e⟩
          · exact ih (fun r h => ht r (List.mem_cons_of_mem _ h)) (fun r h => hu r (List.mem_cons_of_mem _ h)) (by rw [List.length_cons] at lt; omega) e
    obtain ⟨r, s, rfl⟩ := this
    walk_at "go"
    refine Ok.mk (a := .bl ((List.zipWith ltP r s).all id)) ?_ ?_
    · show (match bools? (List.zipWith (fun p q => D.bl (ltP p q)) r s) with
        | some bs => Res.ok (D.bl (bs.all id))
        | none => .err) = _
      rw [bools_zip]
    walk_at "go"
    refine ⟨?_, rfl⟩
    show _ = D.bl (((bools? (List.zipWith (fun p q => D.bl (ltP p q)) r s)).getD []).all id)
    rw [bools_zip]
    rfl
  · have e : (List.zipWith (fun r s => D.tup (List.zipWith (fun p q => D.bl (ltP p q)) r s)) t u).map allRow = (List.zipWith (fun r s => (List.zipWith ltP r s).all id) t u).map fun b => D.bl b := by
      clear k ht hu lt
      induction t generalizing u with
      | nil => rfl
      | cons r t ih =>
        cases u with
        | nil => rfl
        | cons s u =>
          show D.bl (((bools? (List.zipWith (fun p q => D.bl (ltP p q)) r s)).getD []).all id) :: _ = _
          rw [bools_zip]
          show _ :: (List.zipWith (fun r s => D.tup (List.zipWith (fun p q => D.bl (ltP p q)) r s)) t u).map allRow = _
          rw [ih]
          rfl
    rw [e]
    walk_at "go"
    refine Ok.mk (a := .bl (tabLt t u)) ?_ ?_
    · show (match bools? ((List.zipWith (fun r s => (List.zipWith ltP r s).all id) t u).map fun b => D.bl b) with
        | some bs => Res.ok (D.bl (bs.all id))
        | none => .err) = _
      rw [show bools? ((List.zipWith (fun r s => (List.zipWith ltP r s).all id) t u).map fun b => D.bl b) = _ from bools_map (f := id) _, List.map_id]
      rfl
    walk_at "go"
    exact k
end
end K15
namespace K15
mutual
def Pl : D → Bool
  | .tup ds => Pls ds
  | .lst ds => Pls ds
  | .fn _ => false
  | .ty _ => false
  | .non => true
  | .bl _ => true
  | .int _ => true
  | .str _ => true
def Pls : List D → Bool
  | [] => true
  | d :: ds => Pl d && Pls ds
end
mutual
def szD : D → Nat
  | .tup ds => 1 + szS ds
  | .lst ds => 1 + szS ds
  | .fn _ => 1
  | .ty _ => 1
  | .non => 1
  | .bl _ => 1
  | .int _ => 1
  | .str _ => 1
def szS : List D → Nat
  | [] => 0
  | d :: ds => szD d + szS ds
end
theorem Pls_app : ∀ {as bs : List D}, Pls (as ++ bs) = (Pls as && Pls bs)
  | [], bs => by rw [List.nil_append, Pls, Bool.true_and]
  | a :: as, bs => by rw [List.cons_append, Pls, Pls, Pls_app, Bool.and_assoc]
theorem szS_app : ∀ {as bs : List D}, szS (as ++ bs) = szS as + szS bs
  | [], bs => by rw [List.nil_append, szS, Nat.zero_add]
  | a :: as, bs => by rw [List.cons_append, szS, szS, szS_app, Nat.add_assoc]
theorem szD_pos : ∀ d : D, 1 ≤ szD d
  | .tup ds => by unfold szD; omega
  | .lst ds => by unfold szD; omega
  | .fn _ => by unfold szD; omega
  | .ty _ => by unfold szD; omega
  | .non => by unfold szD; omega
  | .bl _ => by unfold szD; omega
  | .int _ => by unfold szD; omega
  | .str _ => by unfold szD; omega
theorem szS_len : ∀ ds : List D, ds.length ≤ szS ds
  | [] => Nat.le_refl _
  | d :: ds => by
    have h1 := szS_len ds
    have h2 := szD_pos d
    rw [szS, List.length_cons]
    omega
def pr (d : D) : D := .tup [d, d]
def nthD (ds : List D) : D → D
  | .int k => (atI ds k).getD .non
  | _ => .non
theorem rg_all (ds : List D) (f : D → D) : (rgD 0 ds.length).map (fun d => f (nthD ds d)) = ds.map f := by
  unfold rgD
  rw [List.map_map]
  refine List.ext_getElem? fun i => ?_
  rw [List.getElem?_map, List.getElem?_map]
  by_cases h : i < ds.length
  · have h2 : i < ((ds.length : Int) - 0).toNat := by omega
    rw [List.getElem?_range h2, List.getElem?_eq_getElem h]
    have e := atI_nat (List.getElem?_eq_getElem h)
    show some (f ((atI ds (0 + (i : Int))).getD .non)) = _
    rw [Int.zero_add, e]
    rfl
  · have h2 : ((ds.length : Int) - 0).toNat ≤ i := by omega
    rw [List.getElem?_eq_none (by rw [List.length_range]; exact h2), List.getElem?_eq_none (by omega)]
    rfl
theorem rg_in {n : Int} {d : D} (h : d ∈ rgD 0 n) : ∃ i : Nat, d = .int i ∧ (i : Int) < n := by
  unfold rgD at h
  obtain ⟨i, h1, rfl⟩ := List.mem_map.mp h
  have := List.mem_range.mp h1
  exact ⟨i, by rw [Int.zero_add], by omega⟩
theorem nth_ok {ds : List D} {i : Nat} (h : (i : Int) < ds.length) : atI ds i = some (nthD ds (.int i)) := by
  obtain ⟨d, h1, h2⟩ := atI_in (xs := ds) (i := i) (by omega) h
  show _ = some ((atI ds i).getD .non)
  rw [h2]
  rfl
theorem rgD_len {n : Int} : (rgD 0 n).length = n.toNat := by
  unfold rgD
  rw [List.length_map, List.length_range, Int.sub_zero]
theorem gEq_len {i : Int} {Q : D → Prop} (q : Q (.bl true)) : Ok (gEq (.int i) (.int i)) Q := ⟨.bl true, by
  show Res.ok (D.bl (decide (i = i))) = _
  rw [decide_eq_true rfl], q⟩
theorem gEq_bb {i : Bool} {Q : D → Prop} (q : Q (.bl true)) : Ok (gEq (.bl i) (.bl i)) Q := ⟨.bl true, by
  show Res.ok (D.bl (decide (i = i))) = _
  rw [decide_eq_true rfl], q⟩
theorem gEq_ss {i : PySem.Str} {Q : D → Prop} (q : Q (.bl true)) : Ok (gEq (.str i) (.str i)) Q := ⟨.bl true, by
  show Res.ok (D.bl (decide (i = i))) = _
  rw [decide_eq_true rfl], q⟩
local macro_rules | `(tactic| walk_at "st") => `(tactic| with_reducible first | refine gEq_len ?_ | refine gEq_bb ?_ | refine gEq_ss ?_)
theorem same (d : D) (hp : Pl d = true) (hz : szD d ≤ 16777216) {Q : D × List D → Prop} (q : Q (.bl true, [.non, .non])) : Ok (F__law_same [d, d]) Q := by
  unfold F__law_same
  walk_at "go"
  refine w_while (fun n ρ => ∃ st a b c, ρ = [some d, some d, some (.lst (st.map pr)), a, b, c] ∧ Pls st = true ∧ szS st = n ∧ n ≤ 16777216) ?_ (szS [d]) _ ⟨[d], none, none, none, rfl, by unfold Pls Pls; rw [hp]; rfl, rfl, by unfold szS szS; exact hz⟩
  rintro n ρ ⟨st, a, b, c, rfl, p1, p2, p3⟩
  rcases List.eq_nil_or_concat st with rfl | ⟨st', x, hst⟩
  · walk_at "go"
    refine ite2 (fun hc => absurd hc (by simp)) (fun hc => ?_)
    walk_at "go"
    exact q
  · rw [List.concat_eq_append] at hst
    subst hst
    walk_at "go"
    refine ite2 (fun hc => ?_) (fun hc => absurd (decide_eq_true (by simp)) hc)
    have e1 : (List.map pr (st' ++ [x]))[(List.map pr (st' ++ [x])).length - 1]? = some (pr x) := by simp
    have e2 : (List.map pr (st' ++ [x])).dropLast = st'.map pr := by simp
    rw [Pls_app, Bool.and_eq_true] at p1
    rw [szS_app] at p2
    have px : Pl x = true := by
      have := p1.2
      unfold Pls Pls at this
      rw [Bool.and_true] at this
      exact this
    have zx : szS [x] = szD x := by unfold szS szS; rfl
    have zp := szD_pos x
    walk_at "go"
    refine w_pop rfl (by exact e1) ?_
    rw [e2]
    unfold pr
    walk_at "go"
    cases x with
    | non =>
      walk_at "go"
      exact ⟨szS st', by omega, st', _, _, _, rfl, p1.1, rfl, by omega⟩
    | bl k =>
      walk_at "go"
      exact ⟨szS st', by omega, st', _, _, _, rfl, p1.1, rfl, by omega⟩
    | int k =>
      walk_at "go"
      exact ⟨szS st', by omega, st', _, _, _, rfl, p1.1, rfl, by omega⟩
    | str k =>
      walk_at "go"
      exact ⟨szS st', by omega, st', _, _, _, rfl, p1.1, rfl, by omega⟩
    | fn _ => cases px
    | ty _ => cases px
    | tup ds =>
      walk_at "go"
      have zt : szS [D.tup ds] = 1 + szS ds := by simp only [szS, szD]; omega
      have zl := szS_len ds
      have zl2 := szS_len st'
      have pl : Pls ds = true := px
      refine w_rng1 ?_
      walk_at "go"
      refine ⟨_, rfl, by omega, by omega, ?_⟩
      refine w_loop (fun es ρ => ∃ (done : List D) (c : Option D), es.map (nthD ds) ++ [] = ds.drop done.length ∧ (∀ e ∈ es, ∃ i : Nat, e = .int i ∧ (i : Int) < ds.length) ∧ done = ds.take done.length ∧ ρ = [some d, some d, some (.lst (List.map pr (st' ++ done))), some (.tup ds), some (.tup ds), c]) ?_ ?_ _ _ ⟨[], c, ?_, fun e he => rg_in he, rfl, by rw [List.append_nil]; rfl⟩
      · rintro e es ρ ⟨done, c, h1, h2, h3, rfl⟩
        obtain ⟨i, rfl, hi⟩ := h2 e List.mem_cons_self
        have hd : done.length < ds.length := by
          have := congrArg List.length h1
          rw [List.length_append, List.length_map, List.length_drop, List.length_cons] at this
          omega
        have e5 : nthD ds (.int i) = ds[done.length] := by
          rw [List.drop_eq_getElem_cons hd] at h1
          exact (List.cons.inj h1).1
        have e6 : List.map (nthD ds) es ++ [] = ds.drop (done.length + 1) := by
          rw [List.drop_eq_getElem_cons hd] at h1
          exact (List.cons.inj h1).2
        walk_at "go"
        refine w_app rfl ?_
        walk_at "go"
        refine gIx_t (nth_ok hi) ?_
        walk_at "go"
        refine gIx_t (nth_ok hi) ?_
        walk_at "go"
        refine ⟨_, rfl, by rw [List.length_map, List.length_append]; omega, ?_⟩
        rw [show List.map pr (st' ++ done) ++ [_] = List.map pr (st' ++ (done ++ [nthD ds (.int i)])) from by
          simp only [List.map_append, List.append_assoc]
          rfl]
        refine ⟨done ++ [nthD ds (.int i)], _, by rw [List.length_append, List.length_singleton]; exact e6, fun e he => h2 e (List.mem_cons_of_mem _ he), ?_, rfl⟩
        rw [List.length_append, List.length_singleton, List.take_succ, ← h3, e5, List.getElem?_eq_getElem hd]
        rfl
      · rintro ρ ⟨done, c, h1, h2, h3, rfl⟩
        have e7 : done = ds := by
          have h4 : ds.length ≤ done.length := List.drop_eq_nil_iff.mp h1.symm
          rw [h3]
          exact List.take_of_length_le h4
        subst e7
        exact ⟨szS (st' ++ done), by rw [szS_app]; omega, st' ++ done, _, _, _, rfl, by rw [Pls_app, p1.1, pl]; rfl, rfl, by rw [szS_app]; omega⟩
      · rw [List.append_nil]
        have := rg_all ds id
        rw [List.map_id] at this
        exact this
    | lst ds =>
      walk_at "go"
      have zt : szS [D.lst ds] = 1 + szS ds := by simp only [szS, szD]; omega
      have zl := szS_len ds
      have zl2 := szS_len st'
      have pl : Pls ds = true := px
      refine w_rng1 ?_
      walk_at "go"
      refine ⟨_, rfl, by omega, by omega, ?_⟩
      refine w_loop (fun es ρ => ∃ (done : List D) (c : Option D), es.map (nthD ds) ++ [] = ds.drop done.length ∧ (∀ e ∈ es, ∃ i : Nat, e = .int i ∧ (i : Int) < ds.length) ∧ done = ds.take done.length ∧ ρ = [some d, some d, some (.lst (List.map pr (st' ++ done))), some (.lst ds), some (.lst ds), c]) ?_ ?_ _ _ ⟨[], c, ?_, fun e he => rg_in he, rfl, by rw [List.append_nil]; rfl⟩
      · rintro e es ρ ⟨done, c, h1, h2, h3, rfl⟩
        obtain ⟨i, rfl, hi⟩ := h2 e List.mem_cons_self
        have hd : done.length < ds.length := by
          have := congrArg List.length h1
          rw [List.length_append, List.length_map, List.length_drop, List.length_cons] at this
          omega
        have e5 : nthD ds (.int i) = ds[done.length] := by
          rw [List.drop_eq_getElem_cons hd] at h1
          exact (List.cons.inj h1).1
        have e6 : List.map (nthD ds) es ++ [] = ds.drop (done.length + 1) := by
          rw [List.drop_eq_getElem_cons hd] at h1
          exact (List.cons.inj h1).2
        walk_at "go"
        refine w_app rfl ?_
        walk_at "go"
        refine gIx_l (nth_ok hi) ?_
        walk_at "go"
        refine gIx_l (nth_ok hi) ?_
        walk_at "go"
        refine ⟨_, rfl, by rw [List.length_map, List.length_append]; omega, ?_⟩
        rw [show List.map pr (st' ++ done) ++ [_] = List.map pr (st' ++ (done ++ [nthD ds (.int i)])) from by
          simp only [List.map_append, List.append_assoc]
          rfl]
        refine ⟨done ++ [nthD ds (.int i)], _, by rw [List.length_append, List.length_singleton]; exact e6, fun e he => h2 e (List.mem_cons_of_mem _ he), ?_, rfl⟩
        rw [List.length_append, List.length_singleton, List.take_succ, ← h3, e5, List.getElem?_eq_getElem hd]
        rfl
      · rintro ρ ⟨done, c, h1, h2, h3, rfl⟩
        have e7 : done = ds := by
          have h4 : ds.length ≤ done.length := List.drop_eq_nil_iff.mp h1.symm
          rw [h3]
          exact List.take_of_length_le h4
        subst e7
        exact ⟨szS (st' ++ done), by rw [szS_app]; omega, st' ++ done, _, _, _, rfl, by rw [Pls_app, p1.1, pl]; rfl, rfl, by rw [szS_app]; omega⟩
      · rw [List.append_nil]
        have := rg_all ds id
        rw [List.map_id] at this
        exact this
theorem same2 {d e : D} {Q : D × List D → Prop} (h : d = e) (hp : Pl d = true) (hz : szD d ≤ 16777216) (q : Q (.bl true, [.non, .non])) : Ok (F__law_same [d, e]) Q := by
  subst h
  exact same d hp hz q
end K15
namespace K15
local macro_rules | `(tactic| walk_at "st") => `(tactic| with_reducible first | refine low_sum_r ?_ | refine low_rank_r ?_ | refine law_rank_r ?_ | refine key_lt ?_ | refine low_less_r ?_ | refine least2 ?_)
local macro_rules | `(tactic| walk_at "st") => `(tactic| first
  | ((with_reducible refine need_less_r ?h1 ?h2 ?_); (case h1 => assumption); (case h2 => assumption))
  | ((with_reducible refine great2 ?h1 ?h2 ?_); (case h1 => assumption); (case h2 => assumption))
  | ((with_reducible refine law_above_r ?h1 ?h2 ?_); (case h1 => assumption); (case h2 => assumption)))
def joinL (p q : Pr) : Pr := (if needF q.1 p.1 = true then p.1 else q.1, if ltF p.2 q.2 = true then p.2 else q.2)
def lessL (p q : Pr) : Pr := (if needF q.1 p.1 = true then q.1 else p.1, if ltF p.2 q.2 = true then q.2 else p.2)
def lawP (b : Bool) (p q : Pr) : Pr := if b = true then joinL p q else lessL p q
theorem w_calmT {ρ : Ev} {fe : Ev → Res (D × Ev)} {QE : D × Ev → Prop} (h : Ok (fe ρ) fun p => p.1.calm = true ∧ QE p) : Ok (dCalm fe ρ) QE := w_calm h
theorem calms_map {α : Type} {f : α → D} (h : ∀ a, (f a).calm = true) : ∀ t : List α, D.calms (t.map f) = true
  | [] => rfl
  | a :: t => by
    show ((f a).calm && D.calms (t.map f)) = true
    rw [h, calms_map h t]
    rfl
theorem map_snocP (ps : List Pr) (p : Pr) : ps.map prD ++ [.tup [p.1.d, p.2.d]] = (ps ++ [p]).map prD := by
  rw [List.map_append]
  rfl
theorem map_snocR (ps : List (List Pr)) (p : List Pr) : ps.map rowD ++ [.tup (p.map prD)] = (ps ++ [p]).map rowD := by
  rw [List.map_append]
  rfl
theorem law_joined_r {b : Bool} {t u : List (List Pr)} (ht : ndT t) (hu : ndT u) (lt : t.length ≤ 1000) {Q : D × List D → Prop} (k : Q (tabD (tab2 (lawP b) t u), [.non, .non, .non])) : Ok (F__law_joined [tabD t, tabD u, .bl b]) Q := by
  unfold F__law_joined
  walk_at "go"
  refine w_zip ?_
  walk_at "go"
  refine ⟨_, _, rfl, ?_⟩
  refine w_loop (fun es ρ => ∃ (t' u' done : List (List Pr)) (x1 x2 x3 x4 x5 x6 x7 x8 x9 x10 x11 : Option D), es = DL.pairD (t'.map rowD) (u'.map rowD) ∧ ndT t' ∧ ndT u' ∧ done.length + t'.length ≤ 1000 ∧ done ++ tab2 (lawP b) t' u' = tab2 (lawP b) t u ∧
    ρ = [some (tabD t), some (tabD u), some (.bl b), some (.lst (done.map rowD)), x1, x2, x3, x4, x5, x6, x7, x8, x9, x10, x11]) ?_ ?_ _ _ ⟨t, u, [], none, none, none, none, none, none, none, none, none, none, none, rfl, ht, hu, by simpa using lt, rfl, rfl⟩
  · rintro d es ρ ⟨t', u', done, x1, x2, x3, x4, x5, x6, x7, x8, x9, x10, x11, e, ht', hu', hl, hz, rfl⟩
    cases t' with
    | nil => cases e
    | cons r t' =>
      cases u' with
      | nil => cases e
      | cons s u' =>
        cases e
        have hr := ht' r List.mem_cons_self
        have hs := hu' s List.mem_cons_self
        rw [List.length_cons] at hl
        walk_at "go"
        refine w_zip ?_
        walk_at "go"
        refine ⟨_, _, rfl, ?_⟩
        refine w_loop (fun es ρ => ∃ (r' s' dn : List Pr) (y1 y2 y3 y4 y5 y6 y7 y8 : Option D), es = DL.pairD (r'.map prD) (s'.map prD) ∧ ndR r' ∧ ndR s' ∧ dn.length + r'.length ≤ 1000 ∧ dn ++ List.zipWith (lawP b) r' s' = List.zipWith (lawP b) r s ∧
          ρ = [some (tabD t), some (tabD u), some (.bl b), some (.lst (done.map rowD)), some (rowD r), some (rowD s), some (.lst (dn.map prD)), y1, y2, y3, y4, y5, y6, y7, y8]) ?_ ?_ _ _ ⟨r, s, [], _, _, _, _, _, _, _, _, rfl, hr.1, hs.1, by simpa using hr.2, rfl, rfl⟩
        · rintro d es ρ ⟨r', s', dn, y1, y2, y3, y4, y5, y6, y7, y8, e, hr', hs', hl', hz', rfl⟩
          cases r' with
          | nil => cases e
          | cons p r' =>
            cases s' with
            | nil => cases e
            | cons q s' =>
              cases e
              have hp := hr' p List.mem_cons_self
              have hq := hs' q List.mem_cons_self
              rw [List.length_cons] at hl'
              obtain ⟨z, hz0⟩ : ∃ z, z = lawP b p q := ⟨_, rfl⟩
              have fin : dn ++ [z] ++ List.zipWith (lawP b) r' s' = List.zipWith (lawP b) r s := by
                rw [← hz', List.append_assoc, hz0]
                rfl
              walk_at "go"
              cases h1 : needF q.1 p.1 <;> cases h2 : ltF p.2 q.2 <;> cases b <;> iterate 6 ((first | rw [h1] | rw [h2] | skip); walk_at "go")
              all_goals
                refine w_app rfl ?_
                walk_at "go"
                refine ⟨_, rfl, by rw [List.length_map]; omega, ?_⟩
                rw [show List.map prD dn ++ [_] = List.map prD (dn ++ [z]) from by
                  rw [← map_snocP, hz0]
                  unfold lawP joinL lessL
                  rw [h1, h2]
                  rfl]
                refine ⟨r', s', dn ++ [z], _, _, _, _, _, _, _, _, rfl, fun x hx => hr' x (List.mem_cons_of_mem _ hx), fun x hx => hs' x (List.mem_cons_of_mem _ hx), by rw [List.length_append, List.length_singleton]; omega, fin, rfl⟩
        · rintro ρ ⟨r', s', dn, y1, y2, y3, y4, y5, y6, y7, y8, e, hr', hs', hl', hz', rfl⟩
          have e0 : List.zipWith (lawP b) r' s' = [] := by
            cases r' with
            | nil => rfl
            | cons _ _ =>
              cases s' with
              | nil => rfl
              | cons _ _ => cases e
          rw [e0, List.append_nil] at hz'
          subst hz'
          walk_at "go"
          refine w_app rfl ?_
          walk_at "go"
          refine ⟨calms_map (fun _ => calm_p) _, _, rfl, by rw [List.length_map]; omega, ?_⟩
          rw [map_snocR]
          refine ⟨t', u', _, _, _, _, _, _, _, _, _, _, _, _, rfl, fun r hr => ht' r (List.mem_cons_of_mem _ hr), fun r hr => hu' r (List.mem_cons_of_mem _ hr), by rw [List.length_append, List.length_singleton]; omega, ?_, rfl⟩
          rw [← hz, List.append_assoc]
          rfl
  · rintro ρ ⟨t', u', done, x1, x2, x3, x4, x5, x6, x7, x8, x9, x10, x11, e, ht', hu', hl, hz, rfl⟩
    have e0 : tab2 (lawP b) t' u' = [] := by
      cases t' with
      | nil => rfl
      | cons _ _ =>
        cases u' with
        | nil => rfl
        | cons _ _ => cases e
    rw [e0, List.append_nil] at hz
    subst hz
    walk_at "go"
    refine ⟨calms_map (f := rowD) (fun r => calms_map (fun _ => calm_p) r) _, ?_⟩
    walk_at "go"
    exact k
theorem joinL_eq {p q : Pr} (hp : p.1.nd) (hq : q.1.nd) : joinL p q = joinP p q := by
  obtain ⟨a, b⟩ := p
  obtain ⟨c, d⟩ := q
  unfold joinL joinP ne2 lo2
  dsimp only at hp hq ⊢
  congr 1
  · cases a <;> cases c <;> simp [needF, Fg.nd] at hp hq ⊢
    rename_i i j
    by_cases h : i < j
    · rw [if_pos h, if_neg (by omega)]
    · rw [if_neg h]
      by_cases h2 : j < i
      · rw [if_pos h2]
      · rw [if_neg h2]
        congr 1
        omega
  · cases b <;> cases d <;> simp [ltF]
    rename_i i j
    by_cases h : i < j
    · rw [if_pos h, if_neg (by omega)]
    · rw [if_neg h]
      by_cases h2 : j < i
      · rw [if_pos h2]
      · rw [if_neg h2]
        congr 1
        omega
theorem lessL_eq {p q : Pr} (hp : p.1.nd) (hq : q.1.nd) : lessL p q = lessP p q := by
  obtain ⟨a, b⟩ := p
  obtain ⟨c, d⟩ := q
  unfold lessL lessP
  dsimp only at hp hq ⊢
  congr 1
  cases a <;> cases c <;> simp [needF, Fg.nd] at hp hq ⊢
  rename_i i j
  by_cases h : i < j
  · rw [if_pos h, if_neg (by omega)]
  · rw [if_neg h]
    by_cases h2 : j < i
    · rw [if_pos h2]
    · rw [if_neg h2]
      congr 1
      omega
theorem join_comm {p q : Pr} (hp : p.1.nd) (hq : q.1.nd) : joinP p q = joinP q p := by
  rw [← joinL_eq hp hq]
  rfl
theorem less_comm {p q : Pr} (hp : p.1.nd) (hq : q.1.nd) : lessP p q = lessP q p := by
  rw [← lessL_eq hp hq]
  obtain ⟨a, b⟩ := p
  obtain ⟨c, d⟩ := q
  unfold lessL lessP
  dsimp only at hp hq ⊢
  congr 1
  cases b <;> cases d <;> simp [ltF]
  rename_i i j
  by_cases h : i < j
  · rw [if_pos h, if_neg (by omega)]
  · rw [if_neg h]
    by_cases h2 : j < i
    · rw [if_pos h2]
    · rw [if_neg h2]
      congr 1
      omega
theorem tab2_eq {f g : Pr → Pr → Pr} (h : ∀ p q, p.1.nd → q.1.nd → f p q = g p q) : ∀ {t u : List (List Pr)}, ndT t → ndT u → tab2 f t u = tab2 g t u := by
  have hr : ∀ {r s : List Pr}, ndR r → ndR s → List.zipWith f r s = List.zipWith g r s := fun {r s} => by
    induction r generalizing s with
    | nil => intros; rfl
    | cons p r ih =>
      cases s with
      | nil => intros; rfl
      | cons q s =>
        intro h1 h2
        show f p q :: _ = g p q :: _
        rw [h p q (h1 p List.mem_cons_self) (h2 q List.mem_cons_self), ih (fun x hx => h1 x (List.mem_cons_of_mem _ hx)) (fun x hx => h2 x (List.mem_cons_of_mem _ hx))]
  intro t u
  induction t generalizing u with
  | nil => intros; rfl
  | cons r t ih =>
    cases u with
    | nil => intros; rfl
    | cons s u =>
      intro h1 h2
      show List.zipWith f r s :: tab2 f t u = List.zipWith g r s :: tab2 g t u
      rw [hr (h1 r List.mem_cons_self).1 (h2 s List.mem_cons_self).1, ih (fun x hx => h1 x (List.mem_cons_of_mem _ hx)) (fun x hx => h2 x (List.mem_cons_of_mem _ hx))]
theorem tab2_swap {f : Pr → Pr → Pr} (h : ∀ p q, p.1.nd → q.1.nd → f p q = f q p) : ∀ {t u : List (List Pr)}, ndT t → ndT u → tab2 f t u = tab2 f u t := by
  have hr : ∀ {r s : List Pr}, ndR r → ndR s → List.zipWith f r s = List.zipWith f s r := fun {r s} => by
    induction r generalizing s with
    | nil => intros; cases s <;> rfl
    | cons p r ih =>
      cases s with
      | nil => intros; rfl
      | cons q s =>
        intro h1 h2
        show f p q :: _ = f q p :: _
        rw [h p q (h1 p List.mem_cons_self) (h2 q List.mem_cons_self), ih (fun x hx => h1 x (List.mem_cons_of_mem _ hx)) (fun x hx => h2 x (List.mem_cons_of_mem _ hx))]
  intro t u
  induction t generalizing u with
  | nil => intros; cases u <;> rfl
  | cons r t ih =>
    cases u with
    | nil => intros; rfl
    | cons s u =>
      intro h1 h2
      show List.zipWith f r s :: tab2 f t u = List.zipWith f s r :: tab2 f u t
      rw [hr (h1 r List.mem_cons_self).1 (h2 s List.mem_cons_self).1, ih (fun x hx => h1 x (List.mem_cons_of_mem _ hx)) (fun x hx => h2 x (List.mem_cons_of_mem _ hx))]
end K15
namespace K15
local macro_rules | `(tactic| walk_at "st") => `(tactic| with_reducible first | refine low_sum_r ?_ | refine low_rank_r ?_ | refine law_rank_r ?_ | refine key_lt ?_ | refine low_less_r ?_ | refine least2 ?_)
local macro_rules | `(tactic| walk_at "st") => `(tactic| first
  | ((with_reducible refine need_less_r ?h1 ?h2 ?_); (case h1 => assumption); (case h2 => assumption))
  | ((with_reducible refine great2 ?h1 ?h2 ?_); (case h1 => assumption); (case h2 => assumption))
  | ((with_reducible refine law_above_r ?h1 ?h2 ?_); (case h1 => assumption); (case h2 => assumption)))
theorem tabLt_cons {r s : List Pr} {t u : List (List Pr)} : tabLt (r :: t) (s :: u) = ((List.zipWith ltP r s).all id && tabLt t u) := rfl
theorem law_less_r {t u : List (List Pr)} (ht : ndT t) (hu : ndT u) {Q : D × List D → Prop} (k : Q (.bl (tabLt t u), [.non, .non])) : Ok (F__law_less [tabD t, tabD u]) Q := by
  unfold F__law_less
  walk_at "go"
  refine w_zip ?_
  walk_at "go"
  refine ⟨_, _, rfl, ?_⟩
  refine w_loop (fun es ρ => ∃ (t' u' : List (List Pr)) (x1 x2 x3 x4 x5 x6 : Option D), es = DL.pairD (t'.map rowD) (u'.map rowD) ∧ ndT t' ∧ ndT u' ∧ tabLt t' u' = tabLt t u ∧
    ρ = [some (tabD t), some (tabD u), x1, x2, x3, x4, x5, x6]) ?_ ?_ _ _ ⟨t, u, none, none, none, none, none, none, rfl, ht, hu, rfl, rfl⟩
  · rintro d es ρ ⟨t', u', x1, x2, x3, x4, x5, x6, e, ht', hu', hz, rfl⟩
    cases t' with
    | nil => cases e
    | cons r t' =>
      cases u' with
      | nil => cases e
      | cons s u' =>
        cases e
        have hr := ht' r List.mem_cons_self
        have hs := hu' s List.mem_cons_self
        rw [tabLt_cons] at hz
        walk_at "go"
        refine w_zip ?_
        walk_at "go"
        refine ⟨_, _, rfl, ?_⟩
        refine w_loop (fun es ρ => ∃ (r' s' : List Pr) (y1 y2 y3 y4 : Option D), es = DL.pairD (r'.map prD) (s'.map prD) ∧ ndR r' ∧ ndR s' ∧ (List.zipWith ltP r' s').all id = (List.zipWith ltP r s).all id ∧
          ρ = [some (tabD t), some (tabD u), some (rowD r), some (rowD s), y1, y2, y3, y4]) ?_ ?_ _ _ ⟨r, s, _, _, _, _, rfl, hr.1, hs.1, rfl, rfl⟩
        · rintro d es ρ ⟨r', s', y1, y2, y3, y4, e, hr', hs', hz', rfl⟩
          cases r' with
          | nil => cases e
          | cons p r' =>
            cases s' with
            | nil => cases e
            | cons q s' =>
              cases e
              have hp := hr' p List.mem_cons_self
              have hq := hs' q List.mem_cons_self
              have hz2 : (ltP p q && (List.zipWith ltP r' s').all id) = (List.zipWith ltP r s).all id := hz'
              have out : ltP p q = false → Q (.bl false, [.non, .non]) := fun h => by
                rw [h, Bool.false_and] at hz2
                rw [← hz2, Bool.false_and] at hz
                rw [hz]
                exact k
              walk_at "go"
              refine ite2 (fun h1 => ?_) (fun h1 => ?_)
              · walk_at "go"
                exact out (by unfold ltP; rw [h1]; rfl)
              · walk_at "go"
                refine ite2 (fun h2 => ?_) (fun h2 => ?_)
                · walk_at "go"
                  exact out (by unfold ltP; rw [h2, Bool.not_true, Bool.and_false])
                · walk_at "go"
                  have h1' := Bool.eq_false_iff.mpr h1
                  have h2' := Bool.eq_false_iff.mpr h2
                  refine ⟨r', s', _, _, _, _, rfl, fun x hx => hr' x (List.mem_cons_of_mem _ hx), fun x hx => hs' x (List.mem_cons_of_mem _ hx), ?_, rfl⟩
                  rw [← hz2]
                  unfold ltP
                  rw [h1', h2']
                  rfl
        · rintro ρ ⟨r', s', y1, y2, y3, y4, e, hr', hs', hz', rfl⟩
          have e0 : List.zipWith ltP r' s' = [] := by
            cases r' with
            | nil => rfl
            | cons _ _ =>
              cases s' with
              | nil => rfl
              | cons _ _ => cases e
          rw [e0] at hz'
          rw [← hz', show List.all [] (id : Bool → Bool) = true from rfl, Bool.true_and] at hz
          exact ⟨t', u', _, _, _, _, _, _, rfl, fun r hr => ht' r (List.mem_cons_of_mem _ hr), fun r hr => hu' r (List.mem_cons_of_mem _ hr), hz, rfl⟩
  · rintro ρ ⟨t', u', x1, x2, x3, x4, x5, x6, e, ht', hu', hz, rfl⟩
    have e0 : tabLt t' u' = true := by
      cases t' with
      | nil => rfl
      | cons _ _ =>
        cases u' with
        | nil => rfl
        | cons _ _ => cases e
    rw [e0] at hz
    rw [← hz] at k
    walk_at "go"
    exact k
theorem nd_join {p q : Pr} (hp : p.1.nd) (hq : q.1.nd) : (joinL p q).1.nd := by
  unfold joinL
  dsimp only
  split
  · exact hp
  · exact hq
theorem nd_less {p q : Pr} (hp : p.1.nd) (hq : q.1.nd) : (lessL p q).1.nd := by
  unfold lessL
  dsimp only
  split
  · exact hq
  · exact hp
theorem ndT_tab2 {f : Pr → Pr → Pr} (h : ∀ p q, p.1.nd → q.1.nd → (f p q).1.nd) : ∀ {t u : List (List Pr)}, ndT t → ndT u → ndT (tab2 f t u) := by
  have hr : ∀ {r s : List Pr}, ndR r → ndR s → ndR (List.zipWith f r s) := fun {r s} => by
    induction r generalizing s with
    | nil => intro _ _ x hx; cases hx
    | cons p r ih =>
      cases s with
      | nil => intro _ _ x hx; cases hx
      | cons q s =>
        intro h1 h2 x hx
        rcases List.mem_cons.mp hx with e | e
        · rw [e]
          exact h p q (h1 p List.mem_cons_self) (h2 q List.mem_cons_self)
        · exact ih (fun x hx => h1 x (List.mem_cons_of_mem _ hx)) (fun x hx => h2 x (List.mem_cons_of_mem _ hx)) x e
  intro t u
  induction t generalizing u with
  | nil => intro _ _ x hx; cases hx
  | cons r t ih =>
    cases u with
    | nil => intro _ _ x hx; cases hx
    | cons s u =>
      intro h1 h2 x hx
      rcases List.mem_cons.mp hx with e | e
      · rw [e]
        refine ⟨hr (h1 r List.mem_cons_self).1 (h2 s List.mem_cons_self).1, ?_⟩
        have := (h1 r List.mem_cons_self).2
        rw [List.length_zipWith]
        omega
      · exact ih (fun x hx => h1 x (List.mem_cons_of_mem _ hx)) (fun x hx => h2 x (List.mem_cons_of_mem _ hx)) x e
theorem tab2_len {f : Pr → Pr → Pr} {t u : List (List Pr)} : (tab2 f t u).length ≤ t.length := by
  unfold tab2
  rw [List.length_zipWith]
  omega
theorem pl_f {f : Fg} : Pl f.d = true := by cases f <;> rfl
theorem sz_f {f : Fg} : szD f.d = 1 := by cases f <;> rfl
theorem pl_row (r : List Pr) : Pls (r.map prD) = true := by
  induction r with
  | nil => rfl
  | cons p r ih =>
    show (Pl (prD p) && Pls (r.map prD)) = true
    rw [ih]
    show ((Pl p.1.d && (Pl p.2.d && true)) && true) = true
    rw [pl_f, pl_f]
    rfl
theorem pl_tab (t : List (List Pr)) : Pl (tabD t) = true := by
  show Pls (t.map rowD) = true
  induction t with
  | nil => rfl
  | cons r t ih =>
    show (Pls (r.map prD) && Pls (t.map rowD)) = true
    rw [ih, pl_row]
    rfl
theorem sz_row (r : List Pr) : szS (r.map prD) = 3 * r.length := by
  induction r with
  | nil => rfl
  | cons p r ih =>
    show (1 + (szD p.1.d + (szD p.2.d + 0))) + szS (r.map prD) = _
    rw [ih, sz_f, sz_f, List.length_cons]
    omega
theorem sz_tab {t : List (List Pr)} (h : ndT t) : szD (tabD t) ≤ 1 + 3001 * t.length := by
  show 1 + szS (t.map rowD) ≤ _
  induction t with
  | nil => exact Nat.le_refl _
  | cons r t ih =>
    have h1 := ih fun r hr => h r (List.mem_cons_of_mem _ hr)
    have h2 := (h r List.mem_cons_self).2
    have e : szS ((r :: t).map rowD) = (1 + szS (r.map prD)) + szS (t.map rowD) := rfl
    rw [e, sz_row, List.length_cons]
    omega
end K15
namespace K15
local macro_rules | `(tactic| walk_at "st") => `(tactic| with_reducible first | refine low_sum_r ?_ | refine low_rank_r ?_ | refine law_rank_r ?_ | refine key_lt ?_ | refine low_less_r ?_ | refine least2 ?_)
local macro_rules | `(tactic| walk_at "st") => `(tactic| first
  | ((with_reducible refine need_less_r ?h1 ?h2 ?_); (case h1 => assumption); (case h2 => assumption))
  | ((with_reducible refine great2 ?h1 ?h2 ?_); (case h1 => assumption); (case h2 => assumption))
  | ((with_reducible refine law_above_r ?h1 ?h2 ?_); (case h1 => assumption); (case h2 => assumption)))
theorem lawT : lawP true = joinL := rfl
theorem lawF : lawP false = lessL := rfl
theorem asked {mg : PySem.Str → Option PySem.Value} {t u : List (List Pr)} (ht : ndT t) (hu : ndT u) (lt : t.length ≤ 1000) (lu : u.length ≤ 1000) {Q : D × List D → Prop} (k : Q (.bl true, [.non, .non])) : Ok (F__law_asked mg [tabD t, tabD u]) Q := by
  unfold F__law_asked
  walk_at "go"
  refine law_joined_r ht hu lt ?_
  walk_at "go"
  refine law_joined_r ht hu lt ?_
  walk_at "go"
  refine joined_tables_r ht hu lt ?_
  walk_at "go"
  refine lesser_table_r ht hu lt ?_
  walk_at "go"
  refine joined_tables_r hu ht lu ?_
  walk_at "go"
  refine lesser_table_r hu ht lu ?_
  walk_at "go"
  rw [lawT, lawF]
  have hj : ndT (tab2 joinL t u) := ndT_tab2 (fun _ _ => nd_join) ht hu
  have hl : ndT (tab2 lessL t u) := ndT_tab2 (fun _ _ => nd_less) ht hu
  have e1 : tab2 joinP t u = tab2 joinL t u := (tab2_eq (fun _ _ => joinL_eq) ht hu).symm
  have e2 : tab2 lessP t u = tab2 lessL t u := (tab2_eq (fun _ _ => lessL_eq) ht hu).symm
  have e3 : tab2 joinP u t = tab2 joinL t u := (tab2_swap (fun _ _ => join_comm) hu ht).trans e1
  have e4 : tab2 lessP u t = tab2 lessL t u := (tab2_swap (fun _ _ => less_comm) hu ht).trans e2
  have lj : (tab2 joinL t u).length ≤ 1000 := Nat.le_trans tab2_len lt
  have ll : (tab2 lessL t u).length ≤ 1000 := Nat.le_trans tab2_len lt
  rw [e1, e2, e3, e4]
  refine same2 rfl ?_ ?_ ?_
  · show (Pl (tabD _) && (Pl (tabD _) && (Pl (tabD _) && (Pl (tabD _) && true)))) = true
    rw [pl_tab, pl_tab]
    rfl
  · show 1 + (szD (tabD _) + (szD (tabD _) + (szD (tabD _) + (szD (tabD _) + 0)))) ≤ _
    have z1 := sz_tab hj
    have z2 := sz_tab hl
    omega
  walk_at "go"
  refine w_seqI ?_
  walk_at "go"
  refine ⟨_, rfl, ?_⟩
  refine w_loop (fun ds ρ => (∀ d ∈ ds, ∃ a b : List (List Pr), d = .tup [tabD a, tabD b] ∧ ndT a ∧ ndT b ∧ a.length ≤ 1000) ∧ ∃ (z : D) (x y : Option D), ρ = [some (tabD t), some (tabD u), some (tabD (tab2 joinL t u)), some (tabD (tab2 lessL t u)), some z, x, y]) ?_ ?_ _ _ ⟨fun d hd => ?_, _, _, _, rfl⟩
  · rintro d ds ρ ⟨hd, z, x, y, rfl⟩
    obtain ⟨a, b, rfl, ha, hb, la⟩ := hd d List.mem_cons_self
    walk_at "go"
    refine table_less_r ha hb la ?_
    walk_at "go"
    refine law_less_r ha hb ?_
    walk_at "go"
    refine same2 rfl rfl (by show 1 ≤ 16777216; decide) ?_
    walk_at "go"
    exact ⟨fun d hd' => hd d (List.mem_cons_of_mem _ hd'), _, _, _, rfl⟩
  · rintro ρ ⟨_, z, x, y, rfl⟩
    walk_at "go"
    exact k
  · rcases List.mem_cons.mp hd with rfl | hd
    · exact ⟨t, u, rfl, ht, hu, lt⟩
    rcases List.mem_cons.mp hd with rfl | hd
    · exact ⟨u, t, rfl, hu, ht, lu⟩
    rcases List.mem_cons.mp hd with rfl | hd
    · exact ⟨_, t, rfl, hl, ht, ll⟩
    rcases List.mem_cons.mp hd with rfl | hd
    · exact ⟨t, _, rfl, ht, hj, lt⟩
    rcases List.mem_cons.mp hd with rfl | hd
    · exact ⟨_, u, rfl, hj, hu, lj⟩
    rcases List.mem_cons.mp hd with rfl | hd
    · exact ⟨t, t, rfl, ht, ht, lt⟩
    cases hd
/-! the jar -/
def jr (ns : List Int) (m : Int) : D := .lst [.lst (ns.map .int), .int m]
def Jr (j : D) : Prop := ∃ ns m, j = jr ns m
theorem take_ok {j : D} {many : Int} (h : Jr j) (h0 : 0 < many) (h1 : many.natAbs < 2 ^ 1000) {Q : D × List D → Prop} (q : ∀ v j', Jr j' → 0 ≤ v → v < many → Q (.int v, [j', .non])) : Ok (F__law_take [j, .int many]) Q := by
  obtain ⟨ns, m, rfl⟩ := h
  unfold F__law_take jr
  walk_at "go"
  refine ite2 (fun hc => ?_) (fun hc => ?_)
  · cases ns with
    | nil => simp at hc
    | cons n ns =>
      simp only [List.map_cons]
      walk_at "go"
      refine gFdiv_p (wide_div h0 h1 (by omega) (by omega)) ?_
      refine ⟨_, _, rfl, rfl, Nat.zero_lt_succ _, ?_⟩
      walk_at "go"
      refine ite2 (fun hc2 => ?_) (fun hc2 => ?_)
      · walk_at "go"
        refine w_pop2 rfl rfl rfl ?_
        walk_at "go"
        exact q _ _ ⟨ns, m, rfl⟩ (Int.emod_nonneg _ (by omega)) (Int.emod_lt_of_pos _ h0)
      · walk_at "go"
        exact q _ _ ⟨n / many :: ns, m, rfl⟩ (Int.emod_nonneg _ (by omega)) (Int.emod_lt_of_pos _ h0)
  · walk_at "go"
    refine ⟨_, rfl, by show 1 < 2; omega, ?_⟩
    walk_at "go"
    exact q _ _ ⟨ns, _, rfl⟩ (Int.emod_nonneg _ (by omega)) (Int.emod_lt_of_pos _ h0)
theorem jar {ns : List Int} {Q : D × List D → Prop} (hl : ns.length ≤ 63) (q : ∀ j, Jr j → Q (j, [.non])) : Ok (F__law_jar [.lst (ns.map .int)]) Q := by
  unfold F__law_jar
  walk_at "go"
  refine w_seqI ?_
  walk_at "go"
  refine w_part ?_
  walk_at "go"
  refine ⟨_, rfl, ?_⟩
  walk_at "go"
  refine Ok.mk (a := .lst (cutL (ns.map .int) none (some 61))) rfl ?_
  refine ⟨_, rfl, ?_⟩
  have hcl : (cutL (ns.map D.int) none (some 61)).length ≤ 63 := by
    unfold cutL
    rw [List.length_take, List.length_drop, List.length_map]
    omega
  have hci : ∀ d ∈ cutL (ns.map D.int) none (some 61), ∃ i : Int, d = .int i := fun d hd => by
    unfold cutL at hd
    obtain ⟨i, _, rfl⟩ := List.mem_map.mp (List.mem_of_mem_drop (List.mem_of_mem_take hd))
    exact ⟨i, rfl⟩
  walk_at "go"
  refine w_loop (fun ds ρ => ∃ (nums : List Int) (mixed : Int) (a b : Option D), ρ = [some (.lst (ns.map .int)), some (.int mixed), some (.lst (nums.map .int)), a, b] ∧ nums.length + ds.length ≤ 63 ∧ (∀ d ∈ ds, ∃ i : Int, d = .int i)) ?_ ?_ _ _ ⟨[], _, _, _, rfl, by simpa using hcl, hci⟩
  · rintro d ds ρ ⟨nums, mixed, a, b, rfl, hn, hd⟩
    obtain ⟨i, rfl⟩ := hd d List.mem_cons_self
    have hd' := fun d h => hd d (List.mem_cons_of_mem _ h)
    rw [List.length_cons] at hn
    walk_at "go"
    refine ite2 (fun hc => ?_) (fun hc => ?_)
    · walk_at "go"
      refine w_app rfl ?_
      walk_at "go"
      refine ⟨_, rfl, by rw [List.length_map]; omega, ?_⟩
      rw [show ∀ z : Int, List.map D.int nums ++ [.int z] = List.map D.int (nums ++ [z]) from fun z => by rw [List.map_append]; rfl]
      exact ⟨_, _, _, _, rfl, by rw [List.length_append, List.length_singleton]; omega, hd'⟩
    · walk_at "go"
      exact ⟨nums, _, _, _, rfl, by omega, hd'⟩
  · rintro ρ ⟨nums, mixed, a, b, rfl, hn, hd⟩
    walk_at "go"
    exact q _ ⟨nums, mixed, rfl⟩
end K15
namespace K15
local macro_rules | `(tactic| walk_at "st") => `(tactic| with_reducible first | refine low_sum_r ?_ | refine low_rank_r ?_ | refine law_rank_r ?_ | refine key_lt ?_ | refine low_less_r ?_ | refine least2 ?_)
local macro_rules | `(tactic| walk_at "st") => `(tactic| first
  | ((with_reducible refine need_less_r ?h1 ?h2 ?_); (case h1 => assumption); (case h2 => assumption))
  | ((with_reducible refine great2 ?h1 ?h2 ?_); (case h1 => assumption); (case h2 => assumption))
  | ((with_reducible refine law_above_r ?h1 ?h2 ?_); (case h1 => assumption); (case h2 => assumption)))
theorem take2 {j : D} {many : Int} (h : Jr j) (h0 : 0 < many) (h1 : many ≤ 10 ^ 62) {Q : D × List D → Prop} (q : ∀ v j', Jr j' → 0 ≤ v → v < many → Q (.int v, [j', .non])) : Ok (F__law_take [j, .int many]) Q := by
  refine take_ok h h0 ?_ q
  have h2 : many.natAbs ≤ 10 ^ 62 := by omega
  exact Nat.lt_of_le_of_lt h2 (by decide)
theorem gSl_t {ds : List D} {lo hi : Option Int} {Q : D → Prop} (q : Q (.tup (cutL ds lo hi))) : Ok (gSl (.tup ds) lo hi) Q := Ok.ret q
theorem gAdd_tt {xs ys : List D} {Q : D → Prop} (h : xs.length + ys.length ≤ 16777216) (q : Q (.tup (xs ++ ys))) : Ok (DL.gAdd (.tup xs) (.tup ys)) Q := Ok.iteT h (Ok.ret q)
theorem cut_map {α β : Type} (f : α → β) (xs : List α) (lo hi : Option Int) : cutL (xs.map f) lo hi = (cutL xs lo hi).map f := by
  unfold cutL
  rw [List.length_map, List.map_take, List.map_drop]
theorem cut_in {α : Type} {xs : List α} {lo hi : Option Int} {x : α} (h : x ∈ cutL xs lo hi) : x ∈ xs := List.mem_of_mem_drop (List.mem_of_mem_take h)
theorem cut_len {α : Type} {xs : List α} {lo hi : Option Int} : (cutL xs lo hi).length ≤ xs.length := by
  unfold cutL
  rw [List.length_take, List.length_drop]
  omega
local macro_rules | `(tactic| walk_at "st") => `(tactic| first
  | ((with_reducible refine take2 ?h1 ?h2 ?h3 (fun _ _ _ _ _ => ?_)); (case h1 => assumption); (case h2 => omega); (case h3 => omega))
  | ((with_reducible refine gMul_l ?h1 ?h2 ?_); (case h1 => decide); (case h2 => decide))
  | (with_reducible refine gSl_t ?_)
  | (with_reducible refine w_part ?_)
  | ((with_reducible show ∃ n : Int, D.int _ = D.int n ∧ Ok _ _); refine ⟨_, rfl, ?_⟩))
theorem law_need {j : D} {most : Int} (h : Jr j) (h0 : 0 ≤ most) (h1 : most ≤ 10 ^ 61) {Q : D × List D → Prop} (q : ∀ (f : Fg) j', Jr j' → f.nd → Q (f.d, [j', .non])) : Ok (F__law_need [j, .int most]) Q := by
  unfold F__law_need
  walk_at "go"
  rename_i a1 j1 hj1 a10 a11 a2 j2 hj2 a20 a21 v j3 hj3 v0 v1
  have : v = 0 ∨ v = 1 ∨ v = 2 ∨ v = 3 ∨ v = 4 := by omega
  rcases this with rfl | rfl | rfl | rfl | rfl
  · walk_at "go"
    exact q (.num 0) _ hj3 (Int.le_refl 0)
  · walk_at "go"
    exact q (.num a1) _ hj3 a10
  · walk_at "go"
    exact q (.num most) _ hj3 h0
  · walk_at "go"
    exact q .deep _ hj3 trivial
  · walk_at "go"
    exact q (.num a2) _ hj3 a20
theorem law_low {j : D} {most : Int} (h : Jr j) (h0 : 0 ≤ most) (h1 : most ≤ 10 ^ 61) {Q : D × List D → Prop} (q : ∀ (f : Fg) j', Jr j' → Q (f.d, [j', .non])) : Ok (F__law_low [j, .int most]) Q := by
  unfold F__law_low
  walk_at "go"
  rename_i a1 j1 hj1 a10 a11 a2 j2 hj2 a20 a21 v j3 hj3 v0 v1
  have : v = 0 ∨ v = 1 ∨ v = 2 ∨ v = 3 ∨ v = 4 ∨ v = 5 := by omega
  rcases this with rfl | rfl | rfl | rfl | rfl | rfl
  · walk_at "go"
    exact q (.num 0) _ hj3
  · walk_at "go"
    exact q (.num _) _ hj3
  · walk_at "go"
    exact q .never _ hj3
  · walk_at "go"
    exact q .deep _ hj3
  · walk_at "go"
    exact q (.num _) _ hj3
  · walk_at "go"
    exact q (.num _) _ hj3
/-- tables as they are drawn -/
def tbT (t : List (List Pr)) (n m : Int) : Prop := (t.length : Int) = n ∧ ∀ r ∈ t, ndR r ∧ (r.length : Int) = m
theorem law_table {j : D} {n m most : Int} (h : Jr j) (h0 : 0 ≤ most) (h1 : most ≤ 10 ^ 61) (n0 : 0 < n) (n1 : n ≤ 100) (m0 : 0 < m) (m1 : m ≤ 100) {Q : D × List D → Prop} (q : ∀ t j', Jr j' → tbT t n m → Q (tabD t, [j', .non, .non, .non])) : Ok (F__law_table [j, .int n, .int m, .int most]) Q := by
  unfold F__law_table
  walk_at "go"
  refine w_rng1 ?_
  walk_at "go"
  refine ⟨_, rfl, by omega, by omega, by rw [rgD_len]; omega, ?_⟩
  refine w_cloop (fun ds acc ρ => ∃ (j : D) (t : List (List Pr)), acc = List.map rowD t ∧ (∀ r ∈ t, ndR r ∧ (r.length : Int) = m) ∧ (t.length : Int) + ds.length = n ∧ Jr j ∧ ρ = [some j, some (.int n), some (.int m), some (.int most), none, none]) ?_ ?_ ⟨j, [], rfl, (fun x hx => nomatch hx), by rw [rgD_len]; show (0 : Int) + _ = _; omega, h, rfl⟩
  · rintro d ds acc ρ ⟨j, t, rfl, ht, hl, hj, rfl⟩
    walk_at "go"
    refine w_rng1 ?_
    walk_at "go"
    refine ⟨_, rfl, by omega, by omega, by rw [rgD_len]; omega, ?_⟩
    refine w_cloop (fun ds acc ρ => ∃ (j : D) (r : List Pr), acc = List.map prD r ∧ ndR r ∧ (r.length : Int) + ds.length = m ∧ Jr j ∧ ρ = [some j, some (.int n), some (.int m), some (.int most), some d, none]) ?_ ?_ ⟨j, [], rfl, (fun x hx => nomatch hx), by rw [rgD_len]; show (0 : Int) + _ = _; omega, hj, rfl⟩
    · rintro e es acc ρ ⟨j, r, rfl, hr, hl', hj, rfl⟩
      walk_at "go"
      refine law_need hj h0 h1 fun f j2 hj2 hf => ?_
      walk_at "go"
      refine law_low hj2 h0 h1 fun g j3 hj3 => ?_
      walk_at "go"
      refine ⟨j3, r ++ [(f, g)], map_snocP r (f, g), fun x hx => ?_, by rw [List.length_append, List.length_singleton]; rw [List.length_cons] at hl'; omega, hj3, rfl⟩
      rcases List.mem_append.mp hx with e | e
      · exact hr x e
      · rw [List.mem_singleton.mp e]
        exact hf
    · rintro acc ρ ⟨j2, r, rfl, hr, hl', hj2, rfl⟩
      walk_at "go"
      refine ⟨j2, t ++ [r], map_snocR t r, fun x hx => ?_, by rw [List.length_append, List.length_singleton]; rw [List.length_cons] at hl; omega, hj2, rfl⟩
      rcases List.mem_append.mp hx with e | e
      · exact ht x e
      · rw [List.mem_singleton.mp e]
        exact ⟨hr, by simpa using hl'⟩
  · rintro acc ρ ⟨j2, t, rfl, ht, hl, hj2, rfl⟩
    walk_at "go"
    exact q t _ hj2 ⟨by simpa using hl, ht⟩
theorem tb_nd {t : List (List Pr)} {n m : Int} (h : tbT t n m) (m1 : m ≤ 1000) : ndT t := fun r hr => ⟨(h.2 r hr).1, by have := (h.2 r hr).2; omega⟩
theorem at_map {α : Type} {f : α → D} {xs : List α} {i : Int} (h0 : 0 ≤ i) (h1 : i < xs.length) : ∃ x ∈ xs, atI (xs.map f) i = some (f x) := by
  have hj : i.toNat < xs.length := by omega
  refine ⟨xs[i.toNat], List.getElem_mem hj, ?_⟩
  have e := atI_nat (xs := xs.map f) (j := i.toNat) (v := f xs[i.toNat]) (by rw [List.getElem?_map, List.getElem?_eq_getElem hj]; rfl)
  rw [show ((i.toNat : Nat) : Int) = i by omega] at e
  exact e
theorem law_near {j : D} {t : List (List Pr)} {n m most : Int} (h : Jr j) (h0 : 0 ≤ most) (h1 : most ≤ 10 ^ 61) (n0 : 0 < n) (n1 : n ≤ 100) (m0 : 0 < m) (m1 : m ≤ 100) (ht : tbT t n m) {Q : D × List D → Prop} (q : ∀ t' j', Jr j' → ndT t' → t'.length ≤ 1000 → Q (tabD t', [j', .non, .non])) : Ok (F__law_near [j, tabD t, .int most]) Q := by
  have hlt := ht.1
  unfold F__law_near
  walk_at "go"
  refine take2 h (by rw [List.length_map]; omega) (by rw [List.length_map]; omega) fun at_ j1 hj1 at0 at1 => ?_
  rw [List.length_map] at at1
  walk_at "go"
  obtain ⟨r, hr, er⟩ := at_map (f := rowD) at0 at1
  obtain ⟨hrn, hrl⟩ := ht.2 r hr
  refine gIx_t er ?_
  walk_at "go"
  refine take2 hj1 (by rw [List.length_map]; omega) (by rw [List.length_map]; omega) fun pu j2 hj2 pu0 pu1 => ?_
  rw [List.length_map] at pu1
  obtain ⟨p, hp, ep⟩ := at_map (f := prD) pu0 pu1
  have hpn := hrn p hp
  walk_at "go"
  have fin : ∀ (z : Pr) (j' : D), Jr j' → z.1.nd → Q (.tup (cutL (t.map rowD) none (some at_) ++ [.tup (cutL (r.map prD) none (some pu) ++ [prD z] ++ cutL (r.map prD) (some (pu + 1)) none)] ++ cutL (t.map rowD) (some (at_ + 1)) none), [j', .non, .non]) := fun z j' hj' hz => by
    have e := q (cutL t none (some at_) ++ [cutL r none (some pu) ++ [z] ++ cutL r (some (pu + 1)) none] ++ cutL t (some (at_ + 1)) none) j' hj' (fun x hx => ?_) ?_
    · rw [cut_map, cut_map, cut_map, cut_map]
      show Q (.tup _, _)
      unfold tabD at e
      rw [List.map_append, List.map_append] at e
      unfold rowD at e ⊢
      rw [List.map_cons, List.map_append, List.map_append] at e
      exact e
    · have c1 := cut_len (xs := r) (lo := none) (hi := some pu)
      have c2 := cut_len (xs := r) (lo := some (pu + 1)) (hi := none)
      rcases List.mem_append.mp hx with hx | hx
      · rcases List.mem_append.mp hx with hx | hx
        · have y := ht.2 x (cut_in hx)
          exact ⟨y.1, by have := y.2; omega⟩
        · rw [List.mem_singleton.mp hx]
          refine ⟨fun y hy => ?_, by rw [List.length_append, List.length_append, List.length_singleton]; omega⟩
          rcases List.mem_append.mp hy with hy | hy
          · rcases List.mem_append.mp hy with hy | hy
            · exact hrn y (cut_in hy)
            · rw [List.mem_singleton.mp hy]
              exact hz
          · exact hrn y (cut_in hy)
      · have y := ht.2 x (cut_in hx)
        exact ⟨y.1, by have := y.2; omega⟩
    · have c1 := cut_len (xs := t) (lo := none) (hi := some at_)
      have c2 := cut_len (xs := t) (lo := some (at_ + 1)) (hi := none)
      rw [List.length_append, List.length_append, List.length_singleton]
      omega
  have b1 : ∀ lo hi, (cutL (t.map rowD) lo hi).length ≤ 1000 := fun lo hi => Nat.le_trans cut_len (by rw [List.length_map]; omega)
  have b2 : ∀ lo hi, (cutL (r.map prD) lo hi).length ≤ 1000 := fun lo hi => Nat.le_trans cut_len (by rw [List.length_map]; omega)
  rename_i w j3 hj3 w0 w1
  refine ite2 (fun hc => ?_) (fun hc => ?_)
  · walk_at "go"
    refine law_need hj3 h0 h1 fun f j4 hj4 hf => ?_
    walk_at "go"
    refine gIx_t ep ?_
    walk_at "go"
    refine gAdd_tt (by have z1 := b2 none (some pu); (try simp only [List.length_append, List.length_cons, List.length_nil]); omega) ?_
    walk_at "go"
    refine gAdd_tt (by have z1 := b2 none (some pu); have z2 := b2 (some (pu + 1)) none; (try simp only [List.length_append, List.length_cons, List.length_nil]); omega) ?_
    walk_at "go"
    refine gAdd_tt (by have z1 := b1 none (some at_); (try simp only [List.length_append, List.length_cons, List.length_nil]); omega) ?_
    walk_at "go"
    refine gAdd_tt (by have z1 := b1 none (some at_); have z2 := b1 (some (at_ + 1)) none; (try simp only [List.length_append, List.length_cons, List.length_nil]); omega) ?_
    walk_at "go"
    exact fin (f, p.2) _ hj4 hf
  · walk_at "go"
    refine gIx_t ep ?_
    walk_at "go"
    refine law_low hj3 h0 h1 fun f j4 hj4 => ?_
    walk_at "go"
    refine gAdd_tt (by have z1 := b2 none (some pu); (try simp only [List.length_append, List.length_cons, List.length_nil]); omega) ?_
    walk_at "go"
    refine gAdd_tt (by have z1 := b2 none (some pu); have z2 := b2 (some (pu + 1)) none; (try simp only [List.length_append, List.length_cons, List.length_nil]); omega) ?_
    walk_at "go"
    refine gAdd_tt (by have z1 := b1 none (some at_); (try simp only [List.length_append, List.length_cons, List.length_nil]); omega) ?_
    walk_at "go"
    refine gAdd_tt (by have z1 := b1 none (some at_); have z2 := b1 (some (at_ + 1)) none; (try simp only [List.length_append, List.length_cons, List.length_nil]); omega) ?_
    walk_at "go"
    exact fin (p.1, f) _ hj4 hpn
end K15
namespace K15
local macro_rules | `(tactic| walk_at "st") => `(tactic| with_reducible first | refine low_sum_r ?_ | refine low_rank_r ?_ | refine law_rank_r ?_ | refine key_lt ?_ | refine low_less_r ?_ | refine least2 ?_)
local macro_rules | `(tactic| walk_at "st") => `(tactic| first
  | ((with_reducible refine need_less_r ?h1 ?h2 ?_); (case h1 => assumption); (case h2 => assumption))
  | ((with_reducible refine great2 ?h1 ?h2 ?_); (case h1 => assumption); (case h2 => assumption))
  | ((with_reducible refine law_above_r ?h1 ?h2 ?_); (case h1 => assumption); (case h2 => assumption)))
local macro_rules | `(tactic| walk_at "st") => `(tactic| first
  | ((with_reducible refine take2 ?h1 ?h2 ?h3 (fun _ _ _ _ _ => ?_)); (case h1 => assumption); (case h2 => omega); (case h3 => omega))
  | ((with_reducible refine gMul_l ?h1 ?h2 ?_); (case h1 => decide); (case h2 => decide))
  | (with_reducible refine gSl_t ?_)
  | (with_reducible refine w_part ?_)
  | ((with_reducible show ∃ n : Int, D.int _ = D.int n ∧ Ok _ _); refine ⟨_, rfl, ?_⟩))
theorem gEq_t {d e : D} {Q : D → Prop} (h : gEq d e = .ok (.bl true)) (q : Q (.bl true)) : Ok (gEq d e) Q := ⟨_, h, q⟩
theorem gEq_f {d e : D} {Q : D → Prop} (h : gEq d e = .ok (.bl false)) (q : Q (.bl false)) : Ok (gEq d e) Q := ⟨_, h, q⟩
theorem g_negI {i : Int} {Q : D → Prop} (q : Q (.int (-i))) : Ok (gNeg (.int i)) Q := Ok.ret q
theorem change_need_r {c : List Int} {p : Int} (h0 : 0 ≤ p) (h1 : p < c.length) {Q : D × List D → Prop} (k : Q (.int (if -(c.getD p.toNat 0) > 0 then -(c.getD p.toNat 0) else 0), [.non, .non])) : Ok (F_change_need [.tup (c.map .int), .int p]) Q := by
  unfold F_change_need
  walk_at "go"
  have hj : p.toNat < c.length := by omega
  have e : atI (c.map D.int) p = some (.int (c.getD p.toNat 0)) := by
    have := atI_nat (xs := c.map D.int) (j := p.toNat) (v := .int (c.getD p.toNat 0)) (by rw [List.getElem?_map, List.getD_eq_getElem?_getD, List.getElem?_eq_getElem hj]; rfl)
    rw [show ((p.toNat : Nat) : Int) = p by omega] at this
    exact this
  refine gIx_t e ?_
  walk_at "go"
  refine Ok.mk rfl ?_
  walk_at "go"
  exact k
def stD (c : List Int) : D := .tup [.str "change", .tup (c.map .int)]
abbrev boD (b : List (List Int)) : D := .tup (b.map stD)
def col (b : List (List Int)) (p : Int) : List Int := b.map fun c => c.getD p.toNat 0
theorem stat_r {n : Nat} {T : D} {c : List Int} {p : Int} (h0 : 0 ≤ p) (h1 : p < c.length) {Q : D × List D → Prop} (k : Q (.tup [.int (if -(c.getD p.toNat 0) > 0 then -(c.getD p.toNat 0) else 0), .int (c.getD p.toNat 0), .str "never"], [.non, .non, .non])) : Ok (F_statement_figures (n + 1) [T, stD c, .int p]) Q := by
  refine Ok.eq (congrFun (F_statement_figures_succ n) _) ?_
  unfold stD
  have hj : p.toNat < c.length := by omega
  have e : atI (c.map D.int) p = some (.int (c.getD p.toNat 0)) := by
    have := atI_nat (xs := c.map D.int) (j := p.toNat) (v := .int (c.getD p.toNat 0)) (by rw [List.getElem?_map, List.getD_eq_getElem?_getD, List.getElem?_eq_getElem hj]; rfl)
    rw [show ((p.toNat : Nat) : Int) = p by omega] at this
    exact this
  walk_at "go"
  refine gEq_t rfl ?_
  walk_at "go"
  refine change_need_r h0 h1 ?_
  walk_at "go"
  refine gIx_t e ?_
  walk_at "go"
  exact k
/-- need and sum, statement by statement -/
def fig : List Int → Int → Int → Int × Int
  | [], n, s => (n, s)
  | x :: xs, n, s => fig xs (if n < -(s + x) then -(s + x) else n) (s + x)
def mx (a b : Int) : Int := if a < b then b else a
theorem pickN (a b : Int) : (if needF (.num a) (.num b) = true then Fg.num b else Fg.num a) = .num (mx a b) := by
  show (if decide (a < b) = true then Fg.num b else Fg.num a) = _
  unfold mx
  by_cases h : a < b
  · rw [decide_eq_true h, if_pos rfl, if_pos h]
  · rw [decide_eq_false h, if_neg Bool.false_ne_true, if_neg h]
theorem g_max3 {n s x : Int} (hn : 0 ≤ n) (hs : -s ≤ n) : foldF (fun l b => needF b l) [.num n, behindF (.num (if -x > 0 then -x else 0)) (.num s), behindF (.num 0) (.num (s + x))] (.num n) = .num (if n < -(s + x) then -(s + x) else n) := by
  show foldF (fun l b => needF b l) [.num n, .num (if (if -x > 0 then -x else 0) - s > 0 then (if -x > 0 then -x else 0) - s else 0), .num (if 0 - (s + x) > 0 then 0 - (s + x) else 0)] (.num n) = _
  unfold foldF
  rw [pickN]
  unfold foldF
  rw [pickN]
  unfold foldF
  rw [pickN]
  unfold foldF
  congr 1
  unfold mx
  repeat' split
  all_goals omega
theorem body_r {n : Nat} {T : D} {b : List (List Int)} {p : Int} (h0 : 0 ≤ p) (h1 : ∀ c ∈ b, p < c.length) {Q : D × List D → Prop} (k : Q (.tup [.int (fig (col b p) 0 0).1, .int (fig (col b p) 0 0).2, .str "never"], [.non, .non, .non])) : Ok (F_body_figures (n + 2) [T, boD b, .int p]) Q := by
  refine Ok.eq (congrFun (F_body_figures_succ (n + 1)) _) ?_
  walk_at "go"
  refine w_seqI ?_
  walk_at "go"
  refine ⟨_, rfl, ?_⟩
  refine w_loop (fun ds ρ => ∃ (b' : List (List Int)) (nd s : Int) (x1 x2 x3 x4 x5 : Option D), ds = b'.map stD ∧ 0 ≤ nd ∧ -s ≤ nd ∧ (∀ c ∈ b', p < c.length) ∧ fig (col b' p) nd s = fig (col b p) 0 0 ∧ ρ = [some T, some (boD b), some (.int p), some (Fg.num nd).d, some (Fg.num s).d, some Fg.never.d, x1, x2, x3, x4, x5]) ?_ ?_ _ _ ⟨b, 0, 0, none, none, none, none, none, rfl, by omega, by omega, h1, rfl, rfl⟩
  · rintro d ds ρ ⟨b', nd, s, x1, x2, x3, x4, x5, e, hn, hs, hc, hf, rfl⟩
    cases b' with
    | nil => cases e
    | cons c b' =>
      cases e
      have hc0 := hc c List.mem_cons_self
      walk_at "go"
      refine stat_r h0 hc0 ?_
      walk_at "go"
      refine Ok.mk rfl ?_
      walk_at "go"
      refine low_sum_r (f := .num s) (g := .never) ?_
      walk_at "go"
      refine low_sum_r (f := .num s) (g := .num _) ?_
      walk_at "go"
      refine need_behind_r (f := .num _) (g := .num s) (show 0 ≤ _ by split <;> omega) ?_
      walk_at "go"
      refine need_behind_r (f := .num 0) (g := .num (s + c.getD p.toNat 0)) (Int.le_refl 0) ?_
      walk_at "go"
      refine greatest_need_r (a := .num nd) (ls := [_, _]) (fun x hx => ?_) ?_
      · rcases List.mem_cons.mp hx with rfl | hx
        · exact hn
        rcases List.mem_cons.mp hx with rfl | hx
        · show 0 ≤ _
          split <;> omega
        rcases List.mem_cons.mp hx with rfl | hx
        · show 0 ≤ _
          split <;> omega
        cases hx
      rw [g_max3 hn hs]
      walk_at "go"
      refine ⟨b', _, s + c.getD p.toNat 0, _, _, _, _, _, rfl, ?_, ?_, fun c hc' => hc c (List.mem_cons_of_mem _ hc'), hf, rfl⟩
      · show 0 ≤ (if nd < -(s + c.getD p.toNat 0) then -(s + c.getD p.toNat 0) else nd)
        split <;> omega
      · show -(s + c.getD p.toNat 0) ≤ (if nd < -(s + c.getD p.toNat 0) then -(s + c.getD p.toNat 0) else nd)
        split <;> omega
  · rintro ρ ⟨b', nd, s, x1, x2, x3, x4, x5, e, hn, hs, hc, hf, rfl⟩
    cases b' with
    | cons _ _ => cases e
    | nil =>
      walk_at "go"
      rw [← hf] at k
      exact k
end K15
namespace K15
local macro_rules | `(tactic| walk_at "st") => `(tactic| with_reducible first | refine low_sum_r ?_ | refine low_rank_r ?_ | refine law_rank_r ?_ | refine key_lt ?_ | refine low_less_r ?_ | refine least2 ?_)
local macro_rules | `(tactic| walk_at "st") => `(tactic| first
  | ((with_reducible refine need_less_r ?h1 ?h2 ?_); (case h1 => assumption); (case h2 => assumption))
  | ((with_reducible refine great2 ?h1 ?h2 ?_); (case h1 => assumption); (case h2 => assumption))
  | ((with_reducible refine law_above_r ?h1 ?h2 ?_); (case h1 => assumption); (case h2 => assumption)))
local macro_rules | `(tactic| walk_at "st") => `(tactic| first
  | ((with_reducible refine take2 ?h1 ?h2 ?h3 (fun _ _ _ _ _ => ?_)); (case h1 => assumption); (case h2 => omega); (case h3 => omega))
  | ((with_reducible refine gMul_l ?h1 ?h2 ?_); (case h1 => decide); (case h2 => decide))
  | (with_reducible refine gSl_t ?_)
  | (with_reducible refine w_part ?_)
  | ((with_reducible show ∃ n : Int, D.int _ = D.int n ∧ Ok _ _); refine ⟨_, rfl, ?_⟩))
local macro_rules | `(tactic| walk_at "st") => `(tactic| first
  | ((with_reducible refine gEq_t ?h1 ?_); (case h1 => rfl))
  | ((with_reducible refine gEq_f ?h1 ?_); (case h1 => rfl)))
/-- of a size that a table may have -/
def Fg.bd : Fg → Prop
  | .num i => -(10 ^ 60) < i ∧ i < 10 ^ 60
  | _ => True
theorem is_integer_i {i : Int} {Q : D × List D → Prop} (k : Q (.bl true, [.non])) : Ok (F_is_integer [.int i]) Q := by
  unfold F_is_integer
  walk_at "go"
  exact k
theorem is_tuple_r {ds : List D} {n : Int} {Q : D × List D → Prop} (k : Q (.bl (decide ((ds.length : Int) = n)), [.non, .non])) : Ok (F_is_tuple [.tup ds, .int n]) Q := by
  unfold F_is_tuple
  walk_at "go"
  exact k
theorem is_number_i {i : Int} {Q : D × List D → Prop} (k : Q (.bl (decide (0 ≤ i)), [.non])) : Ok (F_is_number [.int i]) Q := by
  unfold F_is_number
  walk_at "go"
  refine is_integer_i ?_
  walk_at "go"
  exact k
theorem is_need_r {f : Fg} (hf : f.nd) (hb : f.bd) {Q : D × List D → Prop} (k : Q (.bl true, [.non])) : Ok (F_is_need [f.d]) Q := by
  cases f with
  | never => cases hf
  | deep =>
    unfold F_is_need Fg.d
    walk_at "go"
    exact k
  | num i =>
    unfold F_is_need Fg.d
    walk_at "go"
    refine is_number_i ?_
    walk_at "go"
    rw [decide_eq_true (show 0 ≤ i from hf)]
    walk_at "go"
    rw [decide_eq_true (show i < 1000000000000000000000000000000000000000000000000000000000000 from hb.2)]
    exact k
theorem is_low_r {f : Fg} (hb : f.bd) {Q : D × List D → Prop} (k : Q (.bl true, [.non])) : Ok (F_is_low [f.d]) Q := by
  cases f with
  | never =>
    unfold F_is_low Fg.d
    walk_at "go"
    refine Ok.mk (a := .bl true) rfl ?_
    walk_at "go"
    exact k
  | deep =>
    unfold F_is_low Fg.d
    walk_at "go"
    refine Ok.mk (a := .bl true) rfl ?_
    walk_at "go"
    exact k
  | num i =>
    unfold F_is_low Fg.d
    walk_at "go"
    refine is_integer_i ?_
    walk_at "go"
    have h1 := hb.1
    have h2 := hb.2
    rw [decide_eq_true (show (if i < 0 then -i else i) < 1000000000000000000000000000000000000000000000000000000000000 by split <;> omega)]
    exact k
theorem is_pair_r {p : Pr} (h1 : p.1.nd) (h2 : p.1.bd) (h3 : p.2.bd) {Q : D × List D → Prop} (k : Q (.bl true, [.non])) : Ok (F_is_pair [prD p]) Q := by
  unfold F_is_pair
  walk_at "go"
  refine is_tuple_r ?_
  rw [decide_eq_true (show (([p.1.d, p.2.d].length : Nat) : Int) = 2 from rfl)]
  walk_at "go"
  refine is_need_r h1 h2 ?_
  walk_at "go"
  refine is_low_r h3 ?_
  walk_at "go"
  exact k
/-- tables of the right form for a program -/
def fmT (t : List (List Pr)) (n m : Int) : Prop := tbT t n m ∧ ∀ r ∈ t, ∀ p ∈ r, p.1.bd ∧ p.2.bd
def pgD (ps nm : List D) (bs : List (List (List Int))) : D := .tup [.tup ps, .tup nm, .tup (bs.map boD)]
theorem table_fault_r {ps nm : List D} {bs : List (List (List Int))} {t : List (List Pr)} {n m : Int} (h : fmT t n m) (hp : (ps.length : Int) = m) (hn : (nm.length : Int) = n) (hm : m ≤ 1000) {Q : D × List D → Prop} (k : Q (.non, [.non, .non])) : Ok (F_table_fault [pgD ps nm bs, tabD t]) Q := by
  unfold F_table_fault pgD
  walk_at "go"
  refine is_tuple_r ?_
  rw [List.length_map, decide_eq_true (show (t.length : Int) = (nm.length : Int) by rw [hn]; exact h.1.1)]
  walk_at "go"
  refine w_enum ?_
  walk_at "go"
  refine ⟨_, _, rfl, rfl, ?_⟩
  refine w_loop (fun ds ρ => (∀ d ∈ ds, ∃ (i : Nat) (r : List Pr), d = .tup [.int i, rowD r] ∧ r ∈ t) ∧ ∃ (x y : Option D), ρ = [some (.tup [.tup ps, .tup nm, .tup (bs.map boD)]), some (tabD t), x, y, none]) ?_ ?_ _ _ ⟨fun d hd => ?_, none, none, rfl⟩
  · rintro d ds ρ ⟨hd, x, y, rfl⟩
    obtain ⟨i, r, rfl, hr⟩ := hd d List.mem_cons_self
    have hrl := (h.1.2 r hr).2
    walk_at "go"
    refine is_tuple_r ?_
    rw [List.length_map, decide_eq_true (show (r.length : Int) = (ps.length : Int) by rw [hp, hrl])]
    walk_at "go"
    refine w_seqI ?_
    walk_at "go"
    refine ⟨_, rfl, by rw [List.length_map]; omega, ?_⟩
    refine w_cmap (fun _ => .bl true) (fun d hd' => ?_) ?_
    · obtain ⟨p, hp', rfl⟩ := List.mem_map.mp hd'
      walk_at "go"
      refine is_pair_r ((h.1.2 r hr).1 p hp') (h.2 r hr p hp').1 (h.2 r hr p hp').2 ?_
      walk_at "go"
      exact ⟨rfl, rfl⟩
    · walk_at "go"
      refine Ok.mk (a := .bl true) ?_ ?_
      · show (match bools? ((r.map prD).map fun _ => D.bl true) with
          | some bs => Res.ok (D.bl (bs.all id))
          | none => .err) = _
        rw [bools_map (f := fun _ => true)]
        show Res.ok (D.bl (((r.map prD).map fun _ => true).all id)) = _
        rw [show ((r.map prD).map fun _ => true).all id = true by simp]
      walk_at "go"
      exact ⟨fun d hd' => hd d (List.mem_cons_of_mem _ hd'), _, _, rfl⟩
  · rintro ρ ⟨_, x, y, rfl⟩
    walk_at "go"
    exact k
  · unfold enumD at hd
    obtain ⟨z, hz, rfl⟩ := List.mem_map.mp hd
    obtain ⟨i, hi⟩ := List.mem_iff_getElem?.mp hz
    rw [List.getElem?_zipIdx] at hi
    cases e : (t.map rowD)[i]? with
    | none => rw [e] at hi; cases hi
    | some d =>
      rw [e] at hi
      cases hi
      obtain ⟨r, hr, rfl⟩ := List.mem_map.mp (List.mem_of_getElem? e)
      exact ⟨_, r, rfl, hr⟩
end K15
namespace K15
local macro_rules | `(tactic| walk_at "st") => `(tactic| with_reducible first | refine low_sum_r ?_ | refine low_rank_r ?_ | refine law_rank_r ?_ | refine key_lt ?_ | refine low_less_r ?_ | refine least2 ?_)
local macro_rules | `(tactic| walk_at "st") => `(tactic| first
  | ((with_reducible refine need_less_r ?h1 ?h2 ?_); (case h1 => assumption); (case h2 => assumption))
  | ((with_reducible refine great2 ?h1 ?h2 ?_); (case h1 => assumption); (case h2 => assumption))
  | ((with_reducible refine law_above_r ?h1 ?h2 ?_); (case h1 => assumption); (case h2 => assumption)))
local macro_rules | `(tactic| walk_at "st") => `(tactic| first
  | ((with_reducible refine take2 ?h1 ?h2 ?h3 (fun _ _ _ _ _ => ?_)); (case h1 => assumption); (case h2 => omega); (case h3 => omega))
  | ((with_reducible refine gMul_l ?h1 ?h2 ?_); (case h1 => decide); (case h2 => decide))
  | (with_reducible refine gSl_t ?_)
  | (with_reducible refine w_part ?_)
  | ((with_reducible show ∃ n : Int, D.int _ = D.int n ∧ Ok _ _); refine ⟨_, rfl, ?_⟩))
theorem fig_pos : ∀ (xs : List Int) (n s : Int), 0 ≤ n → 0 ≤ (fig xs n s).1
  | [], _, _, h => h
  | x :: xs, n, s, h => by
    unfold fig
    refine fig_pos xs _ _ ?_
    split <;> omega
/-- the pair is enough for the column -/
def okP (xs : List Int) (p : Pr) : Bool := !needF p.1 (.num (fig xs 0 0).1) && !ltF (.num (fig xs 0 0).2) p.2
theorem at2 {t : List (List Pr)} {n m i j : Int} (h : tbT t n m) (i0 : 0 ≤ i) (i1 : i < n) (j0 : 0 ≤ j) (j1 : j < m) : ∃ r p, t[i.toNat]? = some r ∧ r[j.toNat]? = some p ∧ r ∈ t ∧ p ∈ r ∧ atI (t.map rowD) i = some (rowD r) ∧ atI (r.map prD) j = some (prD p) := by
  have hl := h.1
  have hi : i.toNat < t.length := by omega
  have hr : t[i.toNat] ∈ t := List.getElem_mem hi
  have hrl := (h.2 _ hr).2
  have hj : j.toNat < (t[i.toNat]).length := by omega
  refine ⟨t[i.toNat], (t[i.toNat])[j.toNat], List.getElem?_eq_getElem hi, List.getElem?_eq_getElem hj, hr, List.getElem_mem hj, ?_, ?_⟩
  · have e := atI_nat (xs := t.map rowD) (j := i.toNat) (v := rowD t[i.toNat]) (by rw [List.getElem?_map, List.getElem?_eq_getElem hi]; rfl)
    rw [show ((i.toNat : Nat) : Int) = i by omega] at e
    exact e
  · have e := atI_nat (xs := (t[i.toNat]).map prD) (j := j.toNat) (v := prD (t[i.toNat])[j.toNat]) (by rw [List.getElem?_map, List.getElem?_eq_getElem hj]; rfl)
    rw [show ((j.toNat : Nat) : Int) = j by omega] at e
    exact e
/-- what is kept at a place -/
def keptB (bs : List (List (List Int))) (t : List (List Pr)) (i j : Int) : Bool := okP (col ((bs[i.toNat]?).getD []) j) ((((t[i.toNat]?).getD [])[j.toNat]?).getD (.deep, .deep))
theorem is_kept_r {ps nm : List D} {bs : List (List (List Int))} {t : List (List Pr)} {n m i j : Int} (h : tbT t n m) (hb : (bs.length : Int) = n) (hc : ∀ b ∈ bs, ∀ c ∈ b, (c.length : Int) = m) (i0 : 0 ≤ i) (i1 : i < n) (j0 : 0 ≤ j) (j1 : j < m) {Q : D × List D → Prop}
    (k : Q (.bl (keptB bs t i j), [.non, .non, .non, .non])) : Ok (F_is_kept [pgD ps nm bs, tabD t, .int i, .int j]) Q := by
  obtain ⟨r, p, e1, e2, hr, hp, e3, e4⟩ := at2 h i0 i1 j0 j1
  have hpn := (h.2 r hr).1 p hp
  have hi : i.toNat < bs.length := by omega
  have e5 : atI (bs.map boD) i = some (boD bs[i.toNat]) := by
    have e := atI_nat (xs := bs.map boD) (j := i.toNat) (v := boD bs[i.toNat]) (by rw [List.getElem?_map, List.getElem?_eq_getElem hi]; rfl)
    rw [show ((i.toNat : Nat) : Int) = i by omega] at e
    exact e
  have hcb := hc _ (List.getElem_mem hi)
  unfold F_is_kept pgD
  walk_at "go"
  refine gIx_t e5 ?_
  walk_at "go"
  refine body_r (n := 4) j0 (fun c hc' => by rw [hcb c hc']; exact j1) ?_
  walk_at "go"
  refine Ok.mk rfl ?_
  walk_at "go"
  refine gIx_t e3 ?_
  walk_at "go"
  refine gIx_t e4 ?_
  walk_at "go"
  refine need_less_r (f := p.1) (g := .num _) hpn (fig_pos (col bs[i.toNat] j) 0 0 (Int.le_refl 0)) ?_
  walk_at "go"
  have kk : keptB bs t i j = okP (col bs[i.toNat] j) p := by
    unfold keptB
    rw [e1, List.getElem?_eq_getElem hi]
    show okP _ ((r[j.toNat]?).getD _) = _
    rw [e2]
    rfl
  rw [kk] at k
  refine ite2 (fun h1 => ?_) (fun h1 => ?_)
  · walk_at "go"
    refine least2 (f := .num _) (g := .never) ?_
    walk_at "go"
    have z : (!ltF (lo2 (.num (fig (col bs[i.toNat] j) 0 0).2) .never) p.2) = okP (col bs[i.toNat] j) p := by
      unfold okP
      rw [h1]
      rfl
    rw [z]
    exact k
  · walk_at "go"
    have z : (!needF p.1 (.num (fig (col bs[i.toNat] j) 0 0).1)) = okP (col bs[i.toNat] j) p := by
      unfold okP
      rw [Bool.eq_false_iff.mpr h1]
      rfl
    rw [z]
    exact k
def okIJ (bs : List (List (List Int))) (t : List (List Pr)) : D → D → Bool
  | .int i, .int j => keptB bs t i j
  | _, _ => false
def okRow (bs : List (List (List Int))) (t : List (List Pr)) (m : Int) (i : D) : Bool := (rgD 0 m).all (okIJ bs t i)
def okAll (bs : List (List (List Int))) (t : List (List Pr)) (n m : Int) : Bool := (rgD 0 n).all (okRow bs t m)
/-- places -/
def plD (p : Int × Int) : D := .tup [.int p.1, .int p.2]
theorem open_pairs_r {ps nm : List D} {bs : List (List (List Int))} {t : List (List Pr)} {n m : Int} (h : tbT t n m) (hb : (bs.length : Int) = n) (hc : ∀ b ∈ bs, ∀ c ∈ b, (c.length : Int) = m) (hp : (ps.length : Int) = m) (hn : (nm.length : Int) = n) (m1 : m ≤ 100) (n1 : n ≤ 100) {Q : D × List D → Prop}
    (k : ∀ fd : List (Int × Int), fd.isEmpty = okAll bs t n m → Q (.tup (fd.map plD), [.non, .non])) : Ok (F_open_pairs [pgD ps nm bs, tabD t]) Q := by
  unfold F_open_pairs pgD
  walk_at "go"
  refine w_rng1 ?_
  walk_at "go"
  refine ⟨_, rfl, by omega, by omega, ?_⟩
  rw [hn]
  refine w_loop (fun ds ρ => (∀ d ∈ ds, ∃ i : Nat, d = .int i ∧ (i : Int) < n) ∧ ∃ (fd : List (Int × Int)) (x y : Option D), (fd.isEmpty && ds.all (okRow bs t m)) = okAll bs t n m ∧ fd.length + 100 * ds.length ≤ 10000 ∧ ρ = [some (pgD ps nm bs), some (tabD t), some (.lst (fd.map plD)), x, y]) ?_ ?_ _ _ ⟨fun d hd => rg_in hd, [], none, none, rfl, by rw [rgD_len]; show 0 + _ ≤ _; omega, rfl⟩
  · rintro d ds ρ ⟨hd, fd, x, y, hf, hl, rfl⟩
    obtain ⟨i, rfl, hi⟩ := hd d List.mem_cons_self
    rw [List.length_cons] at hl
    unfold pgD
    walk_at "go"
    refine w_rng1 ?_
    walk_at "go"
    refine ⟨_, rfl, by omega, by omega, ?_⟩
    rw [hp]
    rw [List.all_cons] at hf
    refine w_loop (fun es ρ => (∀ d ∈ es, ∃ j : Nat, d = .int j ∧ (j : Int) < m) ∧ ∃ (fd : List (Int × Int)) (y : Option D), (fd.isEmpty && (es.all (okIJ bs t (.int i)) && ds.all (okRow bs t m))) = okAll bs t n m ∧ fd.length + es.length + 100 * ds.length ≤ 10000 ∧ ρ = [some (pgD ps nm bs), some (tabD t), some (.lst (fd.map plD)), some (.int i), y]) ?_ ?_ _ _ ⟨fun d hd => rg_in hd, fd, _, hf, by rw [rgD_len]; omega, rfl⟩
    · rintro d es ρ ⟨he, fd, y, hf, hl, rfl⟩
      obtain ⟨j, rfl, hj⟩ := he d List.mem_cons_self
      rw [List.length_cons] at hl
      rw [List.all_cons] at hf
      walk_at "go"
      refine is_kept_r h hb hc (by omega) hi (by omega) hj ?_
      walk_at "go"
      cases hk : keptB bs t i j
      · walk_at "go"
        refine w_app rfl ?_
        walk_at "go"
        refine ⟨_, rfl, by rw [List.length_map]; omega, ?_⟩
        rw [show fd.map plD ++ [_] = (fd ++ [((i : Int), (j : Int))]).map plD from by rw [List.map_append]; rfl]
        refine ⟨fun d hd => he d (List.mem_cons_of_mem _ hd), fd ++ [((i : Int), (j : Int))], _, ?_, by rw [List.length_append, List.length_singleton]; omega, rfl⟩
        have z : okIJ bs t (.int i) (.int j) = false := hk
        rw [z, Bool.false_and, Bool.false_and, Bool.and_false] at hf
        rw [← hf]
        cases fd <;> rfl
      · walk_at "go"
        refine ⟨fun d hd => he d (List.mem_cons_of_mem _ hd), fd, _, ?_, by omega, rfl⟩
        have z : okIJ bs t (.int i) (.int j) = true := hk
        rw [z, Bool.true_and] at hf
        exact hf
    · rintro ρ ⟨_, fd, y, hf, hl, rfl⟩
      exact ⟨fun d hd' => hd d (List.mem_cons_of_mem _ hd'), fd, _, _, hf, by rw [List.length_nil] at hl; omega, rfl⟩
  · rintro ρ ⟨_, fd, x, y, hf, hl, rfl⟩
    walk_at "go"
    refine ⟨calms_map (f := plD) (fun _ => rfl) fd, ?_⟩
    walk_at "go"
    refine k fd ?_
    rw [← hf]
    show _ = (fd.isEmpty && true)
    rw [Bool.and_true]
theorem pl_py : ∀ fd : List (Int × Int), ∃ es, D.pys (fd.map plD) = some es ∧ PyData.canLayAll0 es = true ∧ PyData.depthAll es ≤ 1 ∧ es.isEmpty = fd.isEmpty
  | [] => ⟨[], rfl, rfl, Nat.zero_le _, rfl⟩
  | p :: fd => by
    obtain ⟨es, h1, h2, h3, h4⟩ := pl_py fd
    refine ⟨.tuple [.int p.1, .int p.2] :: es, ?_, ?_, ?_, rfl⟩
    · show (match D.py (plD p), D.pys (fd.map plD) with | some d, some ds => some (d :: ds) | _, _ => none) = _
      rw [h1]
      rfl
    · show (PyData.canLay0 (.tuple [.int p.1, .int p.2]) && PyData.canLayAll0 es) = true
      rw [h2]
      rfl
    · show max 1 (PyData.depthAll es) ≤ 1
      omega
theorem eq_nil {fd : List (Int × Int)} {Q : D → Prop} (k : Q (.bl fd.isEmpty)) : Ok (gEq (.tup (fd.map plD)) (.tup [])) Q := by
  obtain ⟨es, h1, h2, h3, h4⟩ := pl_py fd
  refine ⟨_, ?_, k⟩
  have e1 : D.py (.tup (fd.map plD)) = some (.tuple es) := by
    show (match D.pys (fd.map plD) with | some es => some (PyData.tuple es) | none => none) = _
    rw [h1]
  have sh : SeqAt.shaped (.tuple es) = true := by
    show (PyData.canLayAll0 es && decide (PyData.depthAll es + 1 ≤ 64)) = true
    rw [h2, decide_eq_true (by omega)]
    rfl
  show (match eqP (.tup (fd.map plD)) (.tup []) with | some k => Res.ok (D.bl k) | none => .err) = _
  have e2 : eqP (.tup (fd.map plD)) (.tup []) = some fd.isEmpty := by
    unfold eqP
    rw [e1]
    show (if SeqAt.shaped (.tuple es) = true ∧ SeqAt.shaped (.tuple []) = true then some (PyData.eqv (.tuple es) (.tuple [])) else none) = _
    rw [if_pos ⟨sh, rfl⟩, ← h4]
    cases es <;> rfl
  rw [e2]
theorem is_closed_r {ps nm : List D} {bs : List (List (List Int))} {t : List (List Pr)} {n m : Int} (h : fmT t n m) (hb : (bs.length : Int) = n) (hc : ∀ b ∈ bs, ∀ c ∈ b, (c.length : Int) = m) (hp : (ps.length : Int) = m) (hn : (nm.length : Int) = n) (m1 : m ≤ 100) (n1 : n ≤ 100) {Q : D × List D → Prop}
    (k : Q (.bl (okAll bs t n m), [.non, .non])) : Ok (F_is_closed [pgD ps nm bs, tabD t]) Q := by
  unfold F_is_closed
  walk_at "go"
  refine table_fault_r h hp hn (by omega) ?_
  walk_at "go"
  refine open_pairs_r h.1 hb hc hp hn m1 n1 fun fd hf => ?_
  walk_at "go"
  refine eq_nil ?_
  walk_at "go"
  rw [hf]
  exact k
/-! what the lesser and the joined table of two closed ones keep -/
def okT (bs : List (List (List Int))) (t : List (List Pr)) (n m : Int) : Prop := fmT t n m ∧ okAll bs t n m = true
end K15
namespace K15
local macro_rules | `(tactic| walk_at "st") => `(tactic| with_reducible first | refine low_sum_r ?_ | refine low_rank_r ?_ | refine law_rank_r ?_ | refine key_lt ?_ | refine low_less_r ?_ | refine least2 ?_)
local macro_rules | `(tactic| walk_at "st") => `(tactic| first
  | ((with_reducible refine need_less_r ?h1 ?h2 ?_); (case h1 => assumption); (case h2 => assumption))
  | ((with_reducible refine great2 ?h1 ?h2 ?_); (case h1 => assumption); (case h2 => assumption))
  | ((with_reducible refine law_above_r ?h1 ?h2 ?_); (case h1 => assumption); (case h2 => assumption)))
local macro_rules | `(tactic| walk_at "st") => `(tactic| first
  | ((with_reducible refine take2 ?h1 ?h2 ?h3 (fun _ _ _ _ _ => ?_)); (case h1 => assumption); (case h2 => omega); (case h3 => omega))
  | ((with_reducible refine gMul_l ?h1 ?h2 ?_); (case h1 => decide); (case h2 => decide))
  | (with_reducible refine gSl_t ?_)
  | (with_reducible refine w_part ?_)
  | ((with_reducible show ∃ n : Int, D.int _ = D.int n ∧ Ok _ _); refine ⟨_, rfl, ?_⟩))
theorem fig_le : ∀ (xs : List Int) (n s M : Int), n ≤ -M → (∀ i, i ≤ xs.length → M ≤ s + (xs.take i).sum) → (fig xs n s).1 ≤ -M
  | [], n, s, M, h, _ => h
  | x :: xs, n, s, M, h, q => by
    unfold fig
    have h1 := q 1 (by rw [List.length_cons]; omega)
    have e1 : ((x :: xs).take 1).sum = x := by simp
    rw [e1] at h1
    refine fig_le xs _ _ M (by split <;> omega) fun i hi => ?_
    have h2 := q (i + 1) (by rw [List.length_cons]; omega)
    rw [List.take_succ_cons, List.sum_cons] at h2
    omega
theorem fig_2 : ∀ (xs : List Int) (n s : Int), (fig xs n s).2 = s + xs.sum
  | [], n, s => by
    show s = s + 0
    omega
  | x :: xs, n, s => by
    unfold fig
    rw [fig_2 xs, List.sum_cons]
    omega
theorem ints_map : ∀ xs : List Int, ints? (xs.map D.int) = some xs
  | [] => rfl
  | x :: xs => by
    show (ints? (xs.map D.int)).map (x :: ·) = _
    rw [ints_map xs]
    rfl
theorem gSum_r {xs : List Int} {Q : D → Prop} (k : Q (.int xs.sum)) : Ok (gSum [.lst (xs.map .int)]) Q := by
  refine ⟨_, ?_, k⟩
  show (match ints? (xs.map D.int) with | some ns => Res.ok (D.int ns.sum) | none => .err) = _
  rw [ints_map]
/-- the sums so far -/
def pre (xs : List Int) : List Int := (List.range (xs.length + 1)).map fun i => (xs.take i).sum
theorem pre_in {xs : List Int} {x : Int} (h : x ∈ pre xs) : ∃ i, i ≤ xs.length ∧ x = (xs.take i).sum := by
  obtain ⟨i, hi, rfl⟩ := List.mem_map.mp h
  have := List.mem_range.mp hi
  exact ⟨i, by omega, rfl⟩
theorem in_pre {xs : List Int} {i : Nat} (h : i ≤ xs.length) : (xs.take i).sum ∈ pre xs := List.mem_map.mpr ⟨i, List.mem_range.mpr (by omega), rfl⟩
theorem sum_bd : ∀ (xs : List Int), (∀ x ∈ xs, -5 ≤ x ∧ x ≤ 3) → -(5 * (xs.length : Int)) ≤ xs.sum ∧ xs.sum ≤ 3 * xs.length
  | [], _ => by simp
  | x :: xs, h => by
    have h1 := sum_bd xs fun y hy => h y (List.mem_cons_of_mem _ hy)
    have h2 := h x List.mem_cons_self
    rw [List.sum_cons, List.length_cons]
    omega
theorem pre_bd {xs : List Int} (h : ∀ x ∈ xs, -5 ≤ x ∧ x ≤ 3) (hl : xs.length ≤ 3) {x : Int} (hx : x ∈ pre xs) : -15 ≤ x ∧ x ≤ 9 := by
  obtain ⟨i, hi, rfl⟩ := pre_in hx
  have h1 := sum_bd (xs.take i) fun y hy => h y (List.mem_of_mem_take hy)
  have h2 : (xs.take i).length ≤ 3 := by rw [List.length_take]; omega
  omega
/-- a drawn pair is enough -/
theorem drawn_ok {xs : List Int} {f g : Fg} {M v w : Int} (hM : M ∈ pre xs) (hm : ∀ x ∈ pre xs, M ≤ x) (v0 : 0 ≤ v) (w0 : 0 ≤ w) (hf : f = .deep ∨ f = .num (0 - M + v)) (hg : g = .deep ∨ g = .num (xs.sum - w)) : okP xs (f, g) = true := by
  have h1 : (fig xs 0 0).1 ≤ -M := by
    refine fig_le xs 0 0 M ?_ fun i hi => ?_
    · have := hm _ (in_pre (i := 0) (Nat.zero_le _))
      rw [List.take_zero, List.sum_nil] at this
      omega
    · have := hm _ (in_pre hi)
      omega
  have h2 := fig_2 xs 0 0
  unfold okP
  dsimp only
  have e1 : needF f (.num (fig xs 0 0).1) = false := by
    rcases hf with rfl | rfl
    · rfl
    · exact decide_eq_false (by omega)
  have e2 : ltF (.num (fig xs 0 0).2) g = false := by
    rcases hg with rfl | rfl
    · rfl
    · exact decide_eq_false (by omega)
  rw [e1, e2]
  rfl
end K15
namespace K15
local macro_rules | `(tactic| walk_at "st") => `(tactic| with_reducible first | refine low_sum_r ?_ | refine low_rank_r ?_ | refine law_rank_r ?_ | refine key_lt ?_ | refine low_less_r ?_ | refine least2 ?_)
local macro_rules | `(tactic| walk_at "st") => `(tactic| first
  | ((with_reducible refine need_less_r ?h1 ?h2 ?_); (case h1 => assumption); (case h2 => assumption))
  | ((with_reducible refine great2 ?h1 ?h2 ?_); (case h1 => assumption); (case h2 => assumption))
  | ((with_reducible refine law_above_r ?h1 ?h2 ?_); (case h1 => assumption); (case h2 => assumption)))
local macro_rules | `(tactic| walk_at "st") => `(tactic| first
  | ((with_reducible refine take2 ?h1 ?h2 ?h3 (fun _ _ _ _ _ => ?_)); (case h1 => assumption); (case h2 => omega); (case h3 => omega))
  | ((with_reducible refine gMul_l ?h1 ?h2 ?_); (case h1 => decide); (case h2 => decide))
  | (with_reducible refine gSl_t ?_)
  | (with_reducible refine w_part ?_)
  | ((with_reducible show ∃ n : Int, D.int _ = D.int n ∧ Ok _ _); refine ⟨_, rfl, ?_⟩))
theorem in_rg {n : Int} {i : Nat} (h : (i : Int) < n) : D.int (i : Int) ∈ rgD 0 n := by
  unfold rgD
  exact List.mem_map.mpr ⟨i, List.mem_range.mpr (by omega), by rw [Int.zero_add]⟩
theorem okAll_iff {bs : List (List (List Int))} {t : List (List Pr)} {n m : Int} : okAll bs t n m = true ↔ ∀ i j : Nat, (i : Int) < n → (j : Int) < m → keptB bs t i j = true := by
  unfold okAll
  rw [List.all_eq_true]
  constructor
  · intro h i j hi hj
    have h1 := h _ (in_rg hi)
    unfold okRow at h1
    rw [List.all_eq_true] at h1
    exact h1 _ (in_rg hj)
  · intro h d hd
    obtain ⟨i, rfl, hi⟩ := rg_in hd
    unfold okRow
    rw [List.all_eq_true]
    intro e he
    obtain ⟨j, rfl, hj⟩ := rg_in he
    exact h i j hi hj
/-- made of the two, place by place -/
def mixP (f : Pr → Pr → Pr) : Prop := ∀ p q, ((f p q).1 = p.1 ∨ (f p q).1 = q.1) ∧ ((f p q).2 = p.2 ∨ (f p q).2 = q.2)
theorem mix_less : mixP lessP := fun p q => by
  unfold lessP
  constructor <;> dsimp only <;> split <;> simp
theorem mix_lessL : mixP lessL := fun p q => by
  unfold lessL
  constructor <;> dsimp only <;> split <;> simp
theorem mix_join : mixP joinP := fun p q => by
  unfold joinP ne2 lo2
  constructor <;> dsimp only <;> split <;> simp
theorem okP_mix {f : Pr → Pr → Pr} (hf : mixP f) {xs : List Int} {p q : Pr} (hp : okP xs p = true) (hq : okP xs q = true) : okP xs (f p q) = true := by
  obtain ⟨h1, h2⟩ := hf p q
  unfold okP at hp hq ⊢
  rw [Bool.and_eq_true] at hp hq ⊢
  refine ⟨?_, ?_⟩
  · rcases h1 with e | e
    · rw [e]; exact hp.1
    · rw [e]; exact hq.1
  · rcases h2 with e | e
    · rw [e]; exact hp.2
    · rw [e]; exact hq.2
theorem tab2_get {f : Pr → Pr → Pr} {t u : List (List Pr)} {i j : Nat} {r s : List Pr} {p q : Pr} (h1 : t[i]? = some r) (h2 : u[i]? = some s) (h3 : r[j]? = some p) (h4 : s[j]? = some q) : (tab2 f t u)[i]? = some (List.zipWith f r s) ∧ (List.zipWith f r s)[j]? = some (f p q) := by
  unfold tab2
  rw [List.getElem?_zipWith, h1, h2, List.getElem?_zipWith, h3, h4]
  exact ⟨rfl, rfl⟩
theorem zip_mem {α : Type} {f : α → α → α} {r s : List α} {x : α} (h : x ∈ List.zipWith f r s) : ∃ p q, p ∈ r ∧ q ∈ s ∧ x = f p q := by
  induction r generalizing s with
  | nil => cases h
  | cons a r ih =>
    cases s with
    | nil => cases h
    | cons b s =>
      rcases List.mem_cons.mp h with e | e
      · exact ⟨a, b, List.mem_cons_self, List.mem_cons_self, e⟩
      · obtain ⟨p, q, hp, hq, e⟩ := ih e
        exact ⟨p, q, List.mem_cons_of_mem _ hp, List.mem_cons_of_mem _ hq, e⟩
theorem fm_mix {f : Pr → Pr → Pr} (hf : mixP f) {t u : List (List Pr)} {n m : Int} (ht : fmT t n m) (hu : fmT u n m) : fmT (tab2 f t u) n m := by
  have hmem : ∀ r ∈ tab2 f t u, ∃ a b, a ∈ t ∧ b ∈ u ∧ r = List.zipWith f a b := fun r hr => by
    have hr' : r ∈ List.zipWith (fun r s => List.zipWith f r s) t u := hr
    exact zip_mem (f := fun r s => List.zipWith f r s) hr'
  refine ⟨⟨?_, fun r hr => ?_⟩, fun r hr p hp => ?_⟩
  · have h1 := ht.1.1
    have h2 := hu.1.1
    unfold tab2
    rw [List.length_zipWith]
    omega
  · obtain ⟨a, b, ha, hb, rfl⟩ := hmem r hr
    have h1 := ht.1.2 a ha
    have h2 := hu.1.2 b hb
    refine ⟨fun p hp => ?_, by rw [List.length_zipWith]; omega⟩
    obtain ⟨x, y, hx, hy, rfl⟩ := zip_mem hp
    rcases (hf x y).1 with e | e
    · rw [e]; exact h1.1 x hx
    · rw [e]; exact h2.1 y hy
  · obtain ⟨a, b, ha, hb, rfl⟩ := hmem r hr
    obtain ⟨x, y, hx, hy, rfl⟩ := zip_mem hp
    have h1 := ht.2 a ha x hx
    have h2 := hu.2 b hb y hy
    constructor
    · rcases (hf x y).1 with e | e
      · rw [e]; exact h1.1
      · rw [e]; exact h2.1
    · rcases (hf x y).2 with e | e
      · rw [e]; exact h1.2
      · rw [e]; exact h2.2
theorem get2 {t : List (List Pr)} {n m : Int} (h : tbT t n m) {i j : Nat} (hi : (i : Int) < n) (hj : (j : Int) < m) : ∃ r p, t[i]? = some r ∧ r[j]? = some p := by
  obtain ⟨r, p, e1, e2, _⟩ := at2 h (i := i) (j := j) (by omega) hi (by omega) hj
  exact ⟨r, p, e1, e2⟩
theorem kept_get {bs : List (List (List Int))} {t : List (List Pr)} {i j : Nat} {r : List Pr} {p : Pr} (h1 : t[i]? = some r) (h2 : r[j]? = some p) : keptB bs t i j = okP (col ((bs[i]?).getD []) j) p := by
  unfold keptB
  rw [Int.toNat_natCast, Int.toNat_natCast, h1]
  show okP _ ((r[j]?).getD _) = _
  rw [h2]
  rfl
theorem ok_mix {f : Pr → Pr → Pr} (hf : mixP f) {bs : List (List (List Int))} {t u : List (List Pr)} {n m : Int} (ht : okT bs t n m) (hu : okT bs u n m) : okT bs (tab2 f t u) n m := by
  refine ⟨fm_mix hf ht.1 hu.1, okAll_iff.mpr fun i j hi hj => ?_⟩
  obtain ⟨r, p, e1, e2⟩ := get2 ht.1.1 hi hj
  obtain ⟨s, q, e3, e4⟩ := get2 hu.1.1 hi hj
  obtain ⟨z1, z2⟩ := tab2_get (f := f) e1 e3 e2 e4
  rw [kept_get z1 z2]
  have h1 := okAll_iff.mp ht.2 i j hi hj
  have h2 := okAll_iff.mp hu.2 i j hi hj
  rw [kept_get e1 e2] at h1
  rw [kept_get e3 e4] at h2
  exact okP_mix hf h1 h2
/-- a low above the sum is not kept -/
theorem high_not {xs : List Int} {f : Fg} {k : Int} (h : xs.sum < k) : okP xs (f, .num k) = false := by
  unfold okP
  dsimp only
  have e : ltF (.num (fig xs 0 0).2) (.num k) = true := by
    rw [fig_2]
    exact decide_eq_true (by omega)
  rw [e, Bool.not_true, Bool.and_false]
end K15
namespace K15
local macro_rules | `(tactic| walk_at "st") => `(tactic| with_reducible first | refine low_sum_r ?_ | refine low_rank_r ?_ | refine law_rank_r ?_ | refine key_lt ?_ | refine low_less_r ?_ | refine least2 ?_)
local macro_rules | `(tactic| walk_at "st") => `(tactic| first
  | ((with_reducible refine need_less_r ?h1 ?h2 ?_); (case h1 => assumption); (case h2 => assumption))
  | ((with_reducible refine great2 ?h1 ?h2 ?_); (case h1 => assumption); (case h2 => assumption))
  | ((with_reducible refine law_above_r ?h1 ?h2 ?_); (case h1 => assumption); (case h2 => assumption)))
local macro_rules | `(tactic| walk_at "st") => `(tactic| first
  | ((with_reducible refine take2 ?h1 ?h2 ?h3 (fun _ _ _ _ _ => ?_)); (case h1 => assumption); (case h2 => omega); (case h3 => omega))
  | ((with_reducible refine gMul_l ?h1 ?h2 ?_); (case h1 => decide); (case h2 => decide))
  | (with_reducible refine gSl_t ?_)
  | (with_reducible refine w_part ?_)
  | ((with_reducible show ∃ n : Int, D.int _ = D.int n ∧ Ok _ _); refine ⟨_, rfl, ?_⟩))
def gdC (m : Int) (c : List Int) : Prop := (c.length : Int) = m ∧ ∀ x ∈ c, -5 ≤ x ∧ x ≤ 3
def gdB (m : Int) (b : List (List Int)) : Prop := b.length ≤ 3 ∧ ∀ c ∈ b, gdC m c
theorem col_bd {m p : Int} {b : List (List Int)} (h : gdB m b) (p0 : 0 ≤ p) (p1 : p < m) : ∀ x ∈ col b p, -5 ≤ x ∧ x ≤ 3 := fun x hx => by
  obtain ⟨c, hc, rfl⟩ := List.mem_map.mp hx
  have h1 := h.2 c hc
  have hl := h1.1
  have hj : p.toNat < c.length := by omega
  rw [List.getD_eq_getElem?_getD, List.getElem?_eq_getElem hj]
  exact h1.2 _ (List.getElem_mem hj)
theorem snocI (xs : List Int) (x : Int) : xs.map D.int ++ [.int x] = (xs ++ [x]).map .int := by
  rw [List.map_append]
  rfl
theorem snocS (xs : List (List Int)) (x : List Int) : xs.map stD ++ [.tup [.str "change", .tup (x.map .int)]] = (xs ++ [x]).map stD := by
  rw [List.map_append]
  rfl
theorem snocB (xs : List (List (List Int))) (x : List (List Int)) : xs.map boD ++ [.tup (x.map stD)] = (xs ++ [x]).map boD := by
  rw [List.map_append]
  rfl
theorem mem_snoc {α : Type} {P : α → Prop} {xs : List α} {x : α} (h : ∀ y ∈ xs, P y) (hx : P x) : ∀ y ∈ xs ++ [x], P y := fun y hy => by
  rcases List.mem_append.mp hy with e | e
  · exact h y e
  · rw [List.mem_singleton.mp e]
    exact hx
/-- a row that is enough for a body -/
def prOk (xs : List Int) (p : Pr) : Prop := okP xs p = true ∧ p.1.nd ∧ p.1.bd ∧ p.2.bd
def rowOk (m : Int) (b : List (List Int)) (r : List Pr) : Prop := (r.length : Int) = m ∧ ∀ (i : Nat) p, r[i]? = some p → prOk (col b i) p
theorem okT_of {bs : List (List (List Int))} {t : List (List Pr)} {m : Int} (hb : bs.length = 2) (hl : t.length = bs.length) (h : ∀ (k : Nat) b r, bs[k]? = some b → t[k]? = some r → rowOk m b r) : okT bs t 2 m := by
  have hrow : ∀ r ∈ t, ∃ k b, bs[k]? = some b ∧ t[k]? = some r := fun r hr => by
    obtain ⟨k, hk⟩ := List.mem_iff_getElem?.mp hr
    have hk2 := (List.getElem?_eq_some_iff.mp hk).1
    exact ⟨k, bs[k]'(by omega), List.getElem?_eq_getElem (by omega), hk⟩
  have hpr : ∀ r ∈ t, ∀ p ∈ r, ∃ xs, prOk xs p := fun r hr p hp => by
    obtain ⟨k, b, e1, e2⟩ := hrow r hr
    obtain ⟨i, hi⟩ := List.mem_iff_getElem?.mp hp
    exact ⟨_, (h k b r e1 e2).2 i p hi⟩
  have ht : tbT t 2 m := ⟨by omega, fun r hr => by
    obtain ⟨k, b, e1, e2⟩ := hrow r hr
    exact ⟨fun p hp => (hpr r hr p hp).choose_spec.2.1, (h k b r e1 e2).1⟩⟩
  refine ⟨⟨ht, fun r hr p hp => ?_⟩, okAll_iff.mpr fun i j hi hj => ?_⟩
  · obtain ⟨xs, _, _, h1, h2⟩ := hpr r hr p hp
    exact ⟨h1, h2⟩
  · obtain ⟨r, p, e1, e2⟩ := get2 ht hi hj
    have hi2 := (List.getElem?_eq_some_iff.mp e1).1
    have e3 : bs[i]? = some (bs[i]'(by omega)) := List.getElem?_eq_getElem (by omega)
    rw [kept_get e1 e2, e3]
    exact ((h i _ r e3 e1).2 j p e2).1
theorem rg_drop {m : Int} {k : Nat} {d : D} {es : List D} (h : d :: es = (rgD 0 m).drop k) : d = .int (k : Int) ∧ (k : Int) < m ∧ es = (rgD 0 m).drop (k + 1) := by
  have hl := congrArg List.length h
  rw [List.length_cons, List.length_drop, rgD_len] at hl
  have hk : k < (rgD 0 m).length := by rw [rgD_len]; omega
  rw [List.drop_eq_getElem_cons hk] at h
  obtain ⟨h1, h2⟩ := List.cons.inj h
  refine ⟨?_, by rw [rgD_len] at hk; omega, h2⟩
  have h3 : (rgD 0 m)[k]? = some d := by rw [List.getElem?_eq_getElem hk, h1]
  unfold rgD at h3
  rw [List.getElem?_map, List.getElem?_range (by rw [rgD_len] at hk; omega)] at h3
  have h4 : D.int (0 + (k : Int)) = d := Option.some.inj h3
  rw [← h4, Int.zero_add]
/-! the sums of a column -/
def colD (p : Int) : D → D
  | .tup [_, .tup xs] => (atI xs p).getD .non
  | d => d
theorem at_col {c : List Int} {p : Int} (h0 : 0 ≤ p) (h1 : p < c.length) : atI (c.map D.int) p = some (.int (c.getD p.toNat 0)) := by
  have hj : p.toNat < c.length := by omega
  have := atI_nat (xs := c.map D.int) (j := p.toNat) (v := .int (c.getD p.toNat 0)) (by rw [List.getElem?_map, List.getD_eq_getElem?_getD, List.getElem?_eq_getElem hj]; rfl)
  rw [show ((p.toNat : Nat) : Int) = p by omega] at this
  exact this
theorem colD_st {c : List Int} {p : Int} (h0 : 0 ≤ p) (h1 : p < c.length) : colD p (stD c) = .int (c.getD p.toNat 0) := by
  show (atI (c.map D.int) p).getD .non = _
  rw [at_col h0 h1]
  rfl
theorem cut_take {α : Type} {xs : List α} {i : Nat} : cutL xs none (some (i : Int)) = xs.take i := by
  unfold cutL
  rw [HT.sIx_none, HT.sIx_nat, List.drop_zero, Nat.sub_zero]
  rcases Nat.le_total i xs.length with h | h
  · rw [Nat.min_eq_left h]
  · rw [Nat.min_eq_right h, List.take_of_length_le (Nat.le_refl _), List.take_of_length_le h]
theorem cols_map {b : List (List Int)} {p : Int} (h0 : 0 ≤ p) (h1 : ∀ c ∈ b, p < c.length) : (b.map stD).map (colD p) = (col b p).map .int := by
  unfold col
  rw [List.map_map, List.map_map]
  exact List.map_congr_left fun c hc => colD_st h0 (h1 c hc)
theorem cut_cols {b : List (List Int)} {p : Int} {i : Nat} (h0 : 0 ≤ p) (h1 : ∀ c ∈ b, p < c.length) : (cutL (b.map stD) none (some (i : Int))).map (colD p) = ((col b p).take i).map .int := by
  rw [cut_take, List.map_take, cols_map h0 h1, List.map_take]
def sumD (xs : List Int) : D → D
  | .int a => .int (xs.take a.toNat).sum
  | d => d
theorem sums_map {xs : List Int} : (rgD 0 ((xs.length : Int) + 1)).map (sumD xs) = (pre xs).map .int := by
  unfold rgD pre
  rw [List.map_map, List.map_map, show ((xs.length : Int) + 1 - 0).toNat = xs.length + 1 by omega]
  refine List.map_congr_left fun i _ => ?_
  show D.int (xs.take ((0 : Int) + (i : Nat)).toNat).sum = _
  rw [Int.zero_add, Int.toNat_natCast]
  rfl
theorem pre_len {xs : List Int} : (pre xs).length = xs.length + 1 := by
  unfold pre
  rw [List.length_map, List.length_range]
theorem gMinL_r {xs : List Int} {Q : D → Prop} (h : 0 < xs.length) (k : Q (.int (minI xs))) : Ok (gMinL [.lst (xs.map .int)]) Q := by
  refine ⟨_, ?_, k⟩
  show (match ints? (xs.map D.int) with | some ns => if 0 < ns.length then Res.ok (D.int (minI ns)) else .err | none => .err) = _
  rw [ints_map]
  exact if_pos h
theorem gIntB {b : Bool} {Q : D → Prop} (k : Q (.int (if b = true then 1 else 0))) : Ok (gIntOf [.bl b]) Q := by
  cases b
  · exact Ok.mk rfl k
  · exact Ok.mk rfl k
theorem gIx2 {d e : D} {b : Bool} {Q : D → Prop} (k : ∀ z, z = d ∨ z = e → Q z) : Ok (gIx (.lst [d, e]) (.int (if b = true then 1 else 0))) Q := by
  cases b
  · exact Ok.mk rfl (k _ (.inl rfl))
  · exact Ok.mk rfl (k _ (.inr rfl))
theorem at_last {xs : List Int} : atI ((pre xs).map D.int) (-1) = some (.int xs.sum) := by
  have hl : ((pre xs).map D.int).length = xs.length + 1 := by rw [List.length_map, pre_len]
  unfold atI
  rw [hl]
  have e : ixN (xs.length + 1) (-1) = some xs.length := by
    unfold ixN
    rw [if_neg (by omega), if_pos (by omega)]
    congr 1
    omega
  rw [e]
  show ((pre xs).map D.int)[xs.length]? = _
  unfold pre
  rw [List.getElem?_map, List.getElem?_map, List.getElem?_range (by omega)]
  show some (D.int (xs.take xs.length).sum) = _
  rw [List.take_of_length_le (Nat.le_refl _)]
theorem fg_of {z : D} {k : Int} (h : z = .str "deep" ∨ z = .int k) : ∃ f : Fg, z = f.d ∧ (f = .deep ∨ f = .num k) := by
  rcases h with rfl | rfl
  · exact ⟨.deep, rfl, .inl rfl⟩
  · exact ⟨.num k, rfl, .inr rfl⟩
theorem closed {mg : PySem.Str → Option PySem.Value} {j : D} (h : Jr j) {Q : D × List D → Prop} (q : ∀ j', Jr j' → Q (.bl true, [j'])) : Ok (F__law_closed mg [j]) Q := by
  unfold F__law_closed
  walk_at "go"
  rename_i v j1 hj1 v0 v1
  generalize hm : 1 + v = m
  refine w_rng1 ?_
  walk_at "go"
  refine ⟨_, rfl, by omega, by omega, ?_⟩
  refine w_loop (fun ds ρ => ∃ (j : D) (bs : List (List (List Int))) (x : Option D), Jr j ∧ (∀ b ∈ bs, gdB m b) ∧ bs.length + ds.length = 2 ∧ ρ = [some j, some (.int m), some (.lst (bs.map boD)), x, none, none, none, none, none, none, none, none, none, none, none, none, none]) ?_ ?_ _ _ ⟨j1, [], none, hj1, (fun x hx => nomatch hx), by rw [rgD_len]; rfl, rfl⟩
  · rintro d ds ρ ⟨j, bs, x, hj, hb, hl, rfl⟩
    rw [List.length_cons] at hl
    walk_at "go"
    refine w_app rfl ?_
    walk_at "go"
    refine w_rng1 ?_
    walk_at "go"
    rename_i w j2 hj2 w0 w1
    refine ⟨_, rfl, by omega, by omega, by rw [rgD_len]; omega, ?_⟩
    refine w_cloop (fun es acc ρ => ∃ (j : D) (b : List (List Int)), acc = b.map stD ∧ (∀ c ∈ b, gdC m c) ∧ (b.length : Int) + es.length = w ∧ Jr j ∧ ρ = [some j, some (.int m), some (.lst (bs.map boD)), some d, none, none, none, none, none, none, none, none, none, none, none, none, none]) ?_ ?_ ⟨j2, [], rfl, (fun x hx => nomatch hx), by rw [rgD_len]; show (0 : Int) + _ = _; omega, hj2, rfl⟩
    · rintro e es acc ρ ⟨j, b, rfl, hc, hl', hj, rfl⟩
      walk_at "go"
      refine w_rng1 ?_
      walk_at "go"
      refine ⟨_, rfl, by omega, by omega, by rw [rgD_len]; omega, ?_⟩
      refine w_cloop (fun es acc ρ => ∃ (j : D) (c : List Int), acc = c.map D.int ∧ (∀ x ∈ c, -5 ≤ x ∧ x ≤ 3) ∧ (c.length : Int) + es.length = m ∧ Jr j ∧ ρ = [some j, some (.int m), some (.lst (bs.map boD)), some d, none, none, some e, none, none, none, none, none, none, none, none, none, none]) ?_ ?_ ⟨j, [], rfl, (fun x hx => nomatch hx), by rw [rgD_len]; show (0 : Int) + _ = _; omega, hj, rfl⟩
      · rintro e2 es acc ρ ⟨j, c, rfl, hx, hl'', hj, rfl⟩
        walk_at "go"
        rename_i y j3 hj3 y0 y1
        exact ⟨j3, c ++ [y - 5], snocI c _, mem_snoc hx ⟨by omega, by omega⟩, by rw [List.length_append, List.length_singleton]; rw [List.length_cons] at hl''; omega, hj3, rfl⟩
      · rintro acc ρ ⟨j3, c, rfl, hx, hl'', hj3, rfl⟩
        walk_at "go"
        exact ⟨j3, b ++ [c], snocS b c, mem_snoc hc ⟨by simpa using hl'', hx⟩, by rw [List.length_append, List.length_singleton]; rw [List.length_cons] at hl'; omega, hj3, rfl⟩
    · rintro acc ρ ⟨j3, b, rfl, hc, hl', hj3, rfl⟩
      walk_at "go"
      refine ⟨_, rfl, by rw [List.length_map]; omega, ?_⟩
      rw [snocB]
      have hl2 : (b.length : Int) = w := by simpa using hl'
      exact ⟨j3, bs ++ [b], _, hj3, mem_snoc hb ⟨by omega, hc⟩, by rw [List.length_append, List.length_singleton]; omega, rfl⟩
  rintro ρ ⟨j2, bs, x, hj2, hb, hl, rfl⟩
  have hl : bs.length = 2 := by simpa using hl
  walk_at "go"
  obtain ⟨ps, hps, lps⟩ : ∃ ps, cutL [D.str (PySem.Str.ofString "gas"), D.str (PySem.Str.ofString "coin"), D.str (PySem.Str.ofString "x")] none (some m) = ps ∧ (ps.length : Int) = m := by
    have : m = 1 ∨ m = 2 ∨ m = 3 := by omega
    rcases this with e | e | e
    · rw [e]; exact ⟨_, rfl, rfl⟩
    · rw [e]; exact ⟨_, rfl, rfl⟩
    · rw [e]; exact ⟨_, rfl, rfl⟩
  rw [hps]
  refine w_rng1 ?_
  walk_at "go"
  refine ⟨_, rfl, by omega, by omega, ?_⟩
  obtain ⟨nm, hnm, lnm⟩ : ∃ nm, [D.str (PySem.Str.ofString "main"), D.str (PySem.Str.ofString "a")] = nm ∧ (nm.length : Int) = 2 := ⟨_, rfl, rfl⟩
  rw [hnm]
  refine w_loop (fun ds ρ => ∃ (j : D) (ts : List (List (List Pr))) (x6 x7 x8 x9 x10 x11 x12 : Option D), Jr j ∧ (∀ t ∈ ts, okT bs t 2 m) ∧ ts.length + ds.length = 2 ∧ ρ = [some j, some (.int m), some (.lst (bs.map boD)), x, some (pgD ps nm bs), some (.lst (ts.map tabD)), x6, x7, x8, x9, x10, x11, x12, none, none, none, none]) ?_ ?_ _ _ ⟨j2, [], none, none, none, none, none, none, none, hj2, (fun x hx => nomatch hx), by rw [rgD_len]; rfl, rfl⟩
  · rintro d ds ρ ⟨j, ts, x6, x7, x8, x9, x10, x11, x12, hj, ht, hlt, rfl⟩
    rw [List.length_cons] at hlt
    walk_at "go"
    refine w_seqI ?_
    walk_at "go"
    refine ⟨_, rfl, ?_⟩
    refine w_loop (fun es ρ => ∃ (j : D) (b1 b2 : List (List (List Int))) (rows : List (List Pr)) (x8 x9 x10 x11 x12 : Option D), es = b2.map boD ∧ bs = b1 ++ b2 ∧ rows.length = b1.length ∧ Jr j ∧ (∀ (k : Nat) b r, b1[k]? = some b → rows[k]? = some r → rowOk m b r) ∧ ρ = [some j, some (.int m), some (.lst (bs.map boD)), x, some (pgD ps nm bs), some (.lst (ts.map tabD)), some d, some (.lst (rows.map rowD)), x8, x9, x10, x11, x12, none, none, none, none]) ?_ ?_ _ _ ⟨j, [], bs, [], _, _, _, _, _, rfl, rfl, rfl, hj, (fun k b r h => by simp at h), rfl⟩
    · rintro e es ρ ⟨j, b1, b2, rows, x8, x9, x10, x11, x12, ee, hbs, hrl, hj, hro, rfl⟩
      cases b2 with
      | nil => cases ee
      | cons b b2 =>
        cases ee
        have hgb : gdB m b := hb b (by rw [hbs]; exact List.mem_append_right _ List.mem_cons_self)
        walk_at "go"
        refine w_rng1 ?_
        walk_at "go"
        refine ⟨_, rfl, by omega, by omega, ?_⟩
        refine w_loop (fun es ρ => ∃ (j : D) (r : List Pr) (x10 x11 x12 : Option D), es = (rgD 0 m).drop r.length ∧ (r.length : Int) ≤ m ∧ Jr j ∧ (∀ (i : Nat) p, r[i]? = some p → prOk (col b i) p) ∧ ρ = [some j, some (.int m), some (.lst (bs.map boD)), x, some (pgD ps nm bs), some (.lst (ts.map tabD)), some d, some (.lst (rows.map rowD)), some (boD b), some (.lst (r.map prD)), x10, x11, x12, none, none, none, none]) ?_ ?_ _ _ ⟨j, [], _, _, _, rfl, by show (0 : Int) ≤ m; omega, hj, (fun k p h => by simp at h), rfl⟩
        · rintro e es ρ ⟨j, r, x10, x11, x12, ee, hrm, hj, hpr, rfl⟩
          obtain ⟨rfl, hkm, hes⟩ := rg_drop ee
          have hcl : ∀ c ∈ b, ((r.length : Nat) : Int) < c.length := fun c hc => by rw [(hgb.2 c hc).1]; exact hkm
          have k0 : (0 : Int) ≤ (r.length : Nat) := by omega
          have hxb := col_bd hgb k0 hkm
          have hxl : (col b (r.length : Nat)).length = b.length := by unfold col; rw [List.length_map]
          walk_at "go"
          refine w_rng1 ?_
          walk_at "go"
          refine ⟨_, rfl, by rw [List.length_map]; have := hgb.1; omega, by omega, by rw [rgD_len, List.length_map]; have := hgb.1; omega, ?_⟩
          rw [List.length_map, show (b.length : Int) = ((col b (r.length : Nat)).length : Int) by rw [hxl]]
          refine w_cmap (sumD (col b (r.length : Nat))) (fun d' hd' => ?_) ?_
          · obtain ⟨i, rfl, hi⟩ := rg_in hd'
            walk_at "go"
            refine w_seqI ?_
            walk_at "go"
            refine ⟨_, rfl, Nat.le_trans cut_len (by rw [List.length_map]; have := hgb.1; omega), ?_⟩
            refine w_cmap (colD (r.length : Nat)) (fun c' hc' => ?_) ?_
            · obtain ⟨c, hc, rfl⟩ := List.mem_map.mp (cut_in hc')
              have e1 := at_col k0 (hcl c hc)
              rw [colD_st k0 (hcl c hc)]
              unfold stD
              walk_at "go"
              refine gIx_t e1 ?_
              walk_at "go"
              exact ⟨rfl, rfl⟩
            · rw [cut_cols k0 hcl]
              walk_at "go"
              refine gSum_r ?_
              walk_at "go"
              exact ⟨rfl, rfl⟩
          rw [sums_map]
          walk_at "go"
          refine gMinL_r (by rw [pre_len]; omega) ?_
          walk_at "go"
          rename_i v3 j4 hj4 v30 v31
          obtain ⟨mn1, mn2⟩ := minI_ok (ns := pre (col b (r.length : Nat))) (by rw [pre_len]; omega)
          have mb := pre_bd hxb (by rw [hxl]; exact hgb.1) mn1
          refine w_app rfl ?_
          walk_at "go"
          refine gIntB ?_
          walk_at "go"
          refine gIx2 fun z1 hz1 => ?_
          walk_at "go"
          refine gIx_l at_last ?_
          walk_at "go"
          refine gIntB ?_
          walk_at "go"
          refine gIx2 fun z2 hz2 => ?_
          walk_at "go"
          rename_i v4 j5 hj5 v40 v41 v5 j6 hj6 v50 v51 v6 j7 hj7 v60 v61
          obtain ⟨f, rfl, hf⟩ := fg_of hz1
          obtain ⟨g, rfl, hg⟩ := fg_of hz2
          refine ⟨_, rfl, by rw [List.length_map]; omega, ?_⟩
          rw [show r.map prD ++ [_] = (r ++ [(f, g)]).map prD from map_snocP r (f, g)]
          refine ⟨j7, r ++ [(f, g)], _, _, _, by rw [List.length_append, List.length_singleton]; exact hes, by rw [List.length_append, List.length_singleton]; omega, hj7, fun i p h1 => ?_, rfl⟩
          by_cases hi : i < r.length
          · rw [List.getElem?_append_left hi] at h1
            exact hpr i p h1
          · have hi2 : i = r.length := by
              have := (List.getElem?_eq_some_iff.mp h1).1
              rw [List.length_append, List.length_singleton] at this
              omega
            subst hi2
            rw [List.getElem?_append_right (Nat.le_refl _), Nat.sub_self] at h1
            cases h1
            have m0 := mn2 _ (in_pre (i := 0) (Nat.zero_le _))
            rw [List.take_zero, List.sum_nil] at m0
            have sb := pre_bd hxb (by rw [hxl]; exact hgb.1) (in_pre (i := (col b (r.length : Nat)).length) (Nat.le_refl _))
            rw [List.take_of_length_le (Nat.le_refl _)] at sb
            refine ⟨drawn_ok mn1 mn2 v30 v50 hf hg, ?_, ?_, ?_⟩
            · rcases hf with rfl | rfl
              · trivial
              · show 0 ≤ _
                omega
            · rcases hf with rfl | rfl
              · trivial
              · exact ⟨by omega, by omega⟩
            · rcases hg with rfl | rfl
              · trivial
              · exact ⟨by omega, by omega⟩
        · rintro ρ ⟨j, r, x10, x11, x12, ee, hrm, hj, hpr, rfl⟩
          walk_at "go"
          refine w_app rfl ?_
          walk_at "go"
          have hb1 : b1.length ≤ 2 := by
            have := congrArg List.length hbs
            rw [List.length_append] at this
            omega
          refine ⟨calms_map (fun _ => calm_p) _, _, rfl, by rw [List.length_map]; omega, ?_⟩
          rw [map_snocR]
          have hle : (r.length : Int) = m := by
            have := congrArg List.length ee
            rw [List.length_drop, rgD_len, List.length_nil] at this
            omega
          refine ⟨j, b1 ++ [b], b2, rows ++ [r], _, _, _, _, _, rfl, by rw [hbs, List.append_assoc]; rfl, by rw [List.length_append, List.length_append, hrl]; rfl, hj, fun k b' r' h1 h2 => ?_, rfl⟩
          by_cases hk : k < b1.length
          · rw [List.getElem?_append_left hk] at h1
            rw [List.getElem?_append_left (by omega)] at h2
            exact hro k b' r' h1 h2
          · have hk2 : k = b1.length := by
              have := (List.getElem?_eq_some_iff.mp h1).1
              rw [List.length_append, List.length_singleton] at this
              omega
            subst hk2
            rw [List.getElem?_append_right (Nat.le_refl _), Nat.sub_self] at h1
            rw [List.getElem?_append_right (by omega), hrl, Nat.sub_self] at h2
            cases h1
            cases h2
            exact ⟨hle, hpr⟩
    · rintro ρ ⟨j, b1, b2, rows, x8, x9, x10, x11, x12, ee, hbs, hrl, hj, hro, rfl⟩
      cases b2 with
      | cons _ _ => cases ee
      | nil =>
        rw [List.append_nil] at hbs
        subst hbs
        walk_at "go"
        refine w_app rfl ?_
        walk_at "go"
        refine ⟨calms_map (f := rowD) (fun r => calms_map (fun _ => calm_p) r) _, _, rfl, by rw [List.length_map]; omega, ?_⟩
        rw [show ts.map tabD ++ [_] = (ts ++ [rows]).map tabD from by rw [List.map_append]; rfl]
        exact ⟨j, ts ++ [rows], _, _, _, _, _, _, _, hj, mem_snoc ht (okT_of hl hrl hro), by rw [List.length_append, List.length_singleton]; omega, rfl⟩
  rintro ρ ⟨j3, ts, x6, x7, x8, x9, x10, x11, x12, hj3, ht, hlt, rfl⟩
  have hlt : ts.length = 2 := by simpa using hlt
  obtain ⟨t0, t1, rfl⟩ : ∃ t0 t1, ts = [t0, t1] := by
    match ts, hlt with
    | [a, b], _ => exact ⟨a, b, rfl⟩
  obtain ⟨b0, b1, rfl⟩ : ∃ b0 b1, bs = [b0, b1] := by
    match bs, hl with
    | [a, b], _ => exact ⟨a, b, rfl⟩
  have h0 := ht t0 List.mem_cons_self
  have h1 := ht t1 (List.mem_cons_of_mem _ List.mem_cons_self)
  have n0 := tb_nd h0.1.1 (by omega)
  have n1 := tb_nd h1.1.1 (by omega)
  have l0 : t0.length ≤ 1000 := by have := h0.1.1.1; omega
  have l1 : t1.length ≤ 1000 := by have := h1.1.1.1; omega
  have hcc : ∀ b ∈ [b0, b1], ∀ c ∈ b, (c.length : Int) = m := fun b hb' c hc => ((hb b hb').2 c hc).1
  simp only [List.map_cons, List.map_nil]
  walk_at "go"
  refine law_joined_r n0 n1 l0 ?_
  walk_at "go"
  refine is_closed_r (bs := [b0, b1]) h0.1 rfl hcc lps lnm (by omega) (by omega) ?_
  walk_at "go"
  refine lesser_table_r n0 n1 l0 ?_
  walk_at "go"
  have hl2 := ok_mix mix_less h0 h1
  refine is_closed_r (bs := [b0, b1]) hl2.1 rfl hcc lps lnm (by omega) (by omega) ?_
  walk_at "go"
  refine lesser_table_r n1 n0 l1 ?_
  walk_at "go"
  rw [lawF, h0.2, hl2.2]
  have e4 : tab2 lessP t1 t0 = tab2 lessL t0 t1 := (tab2_swap (fun _ _ => less_comm) n1 n0).trans (tab2_eq (fun _ _ => lessL_eq) n0 n1).symm
  rw [e4]
  have hL : fmT (tab2 lessL t0 t1) 2 m := fm_mix mix_lessL h0.1 h1.1
  refine same2 rfl ?_ ?_ ?_
  · show (true && (true && (Pl (tabD _) && true))) = true
    rw [pl_tab]
    rfl
  · show 1 + (1 + (1 + (szD (tabD _) + 0))) ≤ _
    have z1 := sz_tab (tb_nd hL.1 (by omega))
    have z2 := hL.1.1
    omega
  walk_at "go"
  generalize tab2 lessL t0 t1 = L at hL ⊢
  have hL2 : L.length = 2 := by have := hL.1.1; omega
  obtain ⟨r0, r1, rfl⟩ : ∃ a b, L = [a, b] := by
    match L, hL2 with
    | [a, b], _ => exact ⟨a, b, rfl⟩
  have hr1 := hL.1.2 r1 (List.mem_cons_of_mem _ List.mem_cons_self)
  obtain ⟨p0, r1, rfl⟩ : ∃ a b, r1 = a :: b := by
    cases r1 with
    | nil =>
      have := hr1.2
      rw [List.length_nil] at this
      omega
    | cons a b => exact ⟨a, b, rfl⟩
  have hgb1 : gdB m b1 := hb b1 (List.mem_cons_of_mem _ List.mem_cons_self)
  have hc1 : ∀ c ∈ b1, (0 : Int) < c.length := fun c hc => by rw [(hgb1.2 c hc).1]; omega
  refine Ok.mk (a := rowD (p0 :: r1)) rfl ?_
  refine ⟨rfl, ?_⟩
  walk_at "go"
  refine gIx_t0 (d := prD p0) (ds := r1.map prD) ?_
  walk_at "go"
  refine ⟨calm_f, ?_⟩
  walk_at "go"
  refine w_seqI ?_
  walk_at "go"
  refine ⟨_, rfl, by rw [List.length_map]; have := hgb1.1; omega, ?_⟩
  refine w_cmap (colD 0) (fun c' hc' => ?_) ?_
  · obtain ⟨c, hc, rfl⟩ := List.mem_map.mp hc'
    have e1 := at_col (Int.le_refl 0) (hc1 c hc)
    rw [colD_st (Int.le_refl 0) (hc1 c hc)]
    unfold stD
    walk_at "go"
    refine gIx_t e1 ?_
    walk_at "go"
    exact ⟨rfl, rfl⟩
  rw [cols_map (Int.le_refl 0) hc1]
  walk_at "go"
  refine gSum_r ?_
  walk_at "go"
  have ecut : cutL (prD p0 :: r1.map prD) (some 1) none = r1.map prD := by
    unfold cutL
    rw [HT.sIx_none, show (some (1 : Int)) = some ((1 : Nat) : Int) from rfl, HT.sIx_nat, List.length_cons, Nat.min_eq_left (by omega)]
    show (r1.map prD).take _ = _
    exact List.take_of_length_le (by omega)
  rw [show cutL (List.map prD (p0 :: r1)) (some 1) none = r1.map prD from ecut]
  refine ⟨calms_map (fun _ => calm_p) r1, ?_⟩
  have hrl1 := hr1.2
  rw [List.length_cons] at hrl1
  refine gAdd_tt (by rw [List.length_map, List.length_singleton]; omega) ?_
  walk_at "go"
  refine Ok.mk (a := rowD r0) rfl ?_
  walk_at "go"
  have hxb := col_bd hgb1 (Int.le_refl 0) (show (0 : Int) < m by omega)
  have hxl : (col b1 0).length = b1.length := by unfold col; rw [List.length_map]
  have sb := pre_bd hxb (by rw [hxl]; exact hgb1.1) (in_pre (i := (col b1 0).length) (Nat.le_refl _))
  rw [List.take_of_length_le (Nat.le_refl _)] at sb
  have hH : fmT [r0, (p0.1, .num ((col b1 0).sum + 1)) :: r1] 2 m := by
    refine ⟨⟨rfl, fun r hr => ?_⟩, fun r hr p hp => ?_⟩
    · rcases List.mem_cons.mp hr with rfl | hr
      · exact hL.1.2 _ List.mem_cons_self
      · rw [List.mem_singleton.mp hr]
        refine ⟨fun p hp => ?_, by rw [List.length_cons]; exact hrl1⟩
        rcases List.mem_cons.mp hp with rfl | hp
        · exact hr1.1 p0 List.mem_cons_self
        · exact hr1.1 p (List.mem_cons_of_mem _ hp)
    · rcases List.mem_cons.mp hr with rfl | hr
      · exact hL.2 _ List.mem_cons_self p hp
      · rw [List.mem_singleton.mp hr] at hp
        have hq := hL.2 _ (List.mem_cons_of_mem _ List.mem_cons_self)
        rcases List.mem_cons.mp hp with rfl | hp
        · exact ⟨(hq p0 List.mem_cons_self).1, ⟨by omega, by omega⟩⟩
        · exact hq p (List.mem_cons_of_mem _ hp)
  have hn : okAll [b0, b1] [r0, (p0.1, .num ((col b1 0).sum + 1)) :: r1] 2 m = false := by
    rw [Bool.eq_false_iff]
    intro hall
    have z := okAll_iff.mp hall 1 0 (by omega) (by omega)
    have z2 : okP (col b1 0) (p0.1, .num ((col b1 0).sum + 1)) = true := z
    rw [high_not (by omega)] at z2
    cases z2
  refine is_closed_r (bs := [b0, b1]) (t := [r0, (p0.1, .num ((col b1 0).sum + 1)) :: r1]) hH rfl hcc lps lnm (by omega) (by omega) ?_
  rw [hn]
  walk_at "go"
  refine same2 rfl rfl (by show 1 ≤ 16777216; decide) ?_
  walk_at "go"
  refine joined_tables_r n0 n1 l0 ?_
  walk_at "go"
  have hj2' := ok_mix mix_join h0 h1
  refine is_closed_r (bs := [b0, b1]) hj2'.1 rfl hcc lps lnm (by omega) (by omega) ?_
  rw [hj2'.2]
  walk_at "go"
  refine same2 rfl rfl (by show 1 ≤ 16777216; decide) ?_
  walk_at "go"
  exact Ok.mk rfl (q _ hj3)
end K15
namespace K15
local macro_rules | `(tactic| walk_at "st") => `(tactic| with_reducible first | refine low_sum_r ?_ | refine low_rank_r ?_ | refine law_rank_r ?_ | refine key_lt ?_ | refine low_less_r ?_ | refine least2 ?_)
local macro_rules | `(tactic| walk_at "st") => `(tactic| first
  | ((with_reducible refine need_less_r ?h1 ?h2 ?_); (case h1 => assumption); (case h2 => assumption))
  | ((with_reducible refine great2 ?h1 ?h2 ?_); (case h1 => assumption); (case h2 => assumption))
  | ((with_reducible refine law_above_r ?h1 ?h2 ?_); (case h1 => assumption); (case h2 => assumption)))
local macro_rules | `(tactic| walk_at "st") => `(tactic| first
  | ((with_reducible refine take2 ?h1 ?h2 ?h3 (fun _ _ _ _ _ => ?_)); (case h1 => assumption); (case h2 => omega); (case h3 => omega))
  | ((with_reducible refine gMul_l ?h1 ?h2 ?_); (case h1 => decide); (case h2 => decide))
  | (with_reducible refine gSl_t ?_)
  | (with_reducible refine w_part ?_)
  | ((with_reducible show ∃ n : Int, D.int _ = D.int n ∧ Ok _ _); refine ⟨_, rfl, ?_⟩))
local macro_rules | `(tactic| walk_at "st") => `(tactic| (with_reducible refine w_par3 ?_))
theorem law_ok1 {mg : PySem.Str → Option PySem.Value} {ns : List Int} (hl : ns.length ≤ 63) : Ok (F_law mg [.lst (ns.map .int)]) fun r => ∃ o, r = (.bl true, o) := by
  unfold F_law
  walk_at "go"
  refine jar hl fun j hj => ?_
  walk_at "go"
  have a0 : ndT [[(Fg.num 2, Fg.num (-1)), (Fg.num 0, Fg.never)]] := fun r hr => by
    rw [List.mem_singleton.mp hr]
    refine ⟨fun p hp => ?_, by decide⟩
    rcases List.mem_cons.mp hp with rfl | hp
    · exact (by decide : (0 : Int) ≤ 2)
    · rw [List.mem_singleton.mp hp]
      exact (by decide : (0 : Int) ≤ 0)
  have a1 : ndT [[(Fg.num 1, Fg.deep), (Fg.deep, Fg.num 3)]] := fun r hr => by
    rw [List.mem_singleton.mp hr]
    refine ⟨fun p hp => ?_, by decide⟩
    rcases List.mem_cons.mp hp with rfl | hp
    · exact (by decide : (0 : Int) ≤ 1)
    · rw [List.mem_singleton.mp hp]
      trivial
  have a2 : ndT [[(Fg.num 1, Fg.num 0)]] := fun r hr => by
    rw [List.mem_singleton.mp hr]
    refine ⟨fun p hp => ?_, by decide⟩
    rw [List.mem_singleton.mp hp]
    exact (by decide : (0 : Int) ≤ 1)
  have a3 : ndT [[(Fg.num 2, Fg.num (-1))]] := fun r hr => by
    rw [List.mem_singleton.mp hr]
    refine ⟨fun p hp => ?_, by decide⟩
    rw [List.mem_singleton.mp hp]
    exact (by decide : (0 : Int) ≤ 2)
  refine joined_tables_r (t := [[(Fg.num 2, Fg.num (-1)), (Fg.num 0, Fg.never)]]) (u := [[(Fg.num 1, Fg.deep), (Fg.deep, Fg.num 3)]]) a0 a1 (by decide) ?_
  walk_at "go"
  refine lesser_table_r (t := [[(Fg.num 2, Fg.num (-1)), (Fg.num 0, Fg.never)]]) (u := [[(Fg.num 1, Fg.deep), (Fg.deep, Fg.num 3)]]) a0 a1 (by decide) ?_
  walk_at "go"
  refine table_less_r (t := [[(Fg.num 2, Fg.num (-1)), (Fg.num 0, Fg.never)]]) (u := [[(Fg.num 1, Fg.deep), (Fg.deep, Fg.num 3)]]) a0 a1 (by decide) ?_
  walk_at "go"
  refine table_less_r (t := [[(Fg.num 1, Fg.num 0)]]) (u := [[(Fg.num 2, Fg.num (-1))]]) a2 a3 (by decide) ?_
  walk_at "go"
  refine same2 rfl rfl (by decide) ?_
  walk_at "go"
  refine w_rng1 ?_
  walk_at "go"
  refine ⟨_, rfl, by omega, by omega, ?_⟩
  refine w_loop (fun ds ρ => ∃ (j a b c d : D) (x5 x6 x7 x8 x9 x10 : Option D), Jr j ∧ ρ = [some a, some j, some b, some c, some d, x5, x6, x7, x8, x9, x10]) ?_ ?_ _ _ ⟨_, _, _, _, _, _, _, _, _, _, _, hj, rfl⟩
  · rintro d ds ρ ⟨j, a, b, c, d', x5, x6, x7, x8, x9, x10, hj, rfl⟩
    walk_at "go"
    rename_i v1 j1 hj1 v10 v11 v2 j2 hj2 v20 v21 v3 j3 hj3 v30 v31
    refine Ok.imp (P := fun r => ∃ k : Int, r = .int k ∧ 0 ≤ k ∧ k ≤ 10 ^ 61) ?_ ?_
    · have : v3 = 0 ∨ v3 = 1 ∨ v3 = 2 := by omega
      rcases this with rfl | rfl | rfl
      · exact Ok.mk rfl ⟨_, rfl, by decide, by decide⟩
      · exact Ok.mk rfl ⟨_, rfl, by decide, by decide⟩
      · exact Ok.mk rfl ⟨_, rfl, by decide, by decide⟩
    rintro _ ⟨k, rfl, k0, k1⟩
    walk_at "go"
    refine ⟨_, _, _, rfl, ?_⟩
    walk_at "go"
    refine law_table hj3 k0 k1 (by omega) (by omega) (by omega) (by omega) fun t j4 hj4 ht => ?_
    walk_at "go"
    refine law_table hj4 k0 k1 (by omega) (by omega) (by omega) (by omega) fun u j5 hj5 hu => ?_
    walk_at "go"
    refine law_near hj5 k0 k1 (by omega) (by omega) (by omega) (by omega) ht fun w j6 hj6 hw lw => ?_
    walk_at "go"
    rename_i v4 j7 hj7 v40 v41
    have nt := tb_nd ht (by omega)
    have nu := tb_nd hu (by omega)
    have lt : t.length ≤ 1000 := by have := ht.1; omega
    have lu : u.length ≤ 1000 := by have := hu.1; omega
    have : v4 = 0 ∨ v4 = 1 ∨ v4 = 2 := by omega
    rcases this with rfl | rfl | rfl
    · walk_at "go"
      refine asked nt nu lt lu ?_
      walk_at "go"
      exact ⟨j7, _, _, _, _, _, _, _, _, _, _, hj7, rfl⟩
    · walk_at "go"
      refine asked nt hw lt lw ?_
      walk_at "go"
      exact ⟨j7, _, _, _, _, _, _, _, _, _, _, hj7, rfl⟩
    · walk_at "go"
      refine asked nt nt lt lt ?_
      walk_at "go"
      exact ⟨j7, _, _, _, _, _, _, _, _, _, _, hj7, rfl⟩
  · rintro ρ ⟨j, a, b, c, d', x5, x6, x7, x8, x9, x10, hj, rfl⟩
    walk_at "go"
    refine closed hj fun j2 hj2 => ?_
    walk_at "go"
    rename_i v1 j3 hj3 v10 v11
    refine ite2 (fun hc => ?_) (fun hc => ?_)
    · walk_at "go"
      exact ⟨_, rfl⟩
    · walk_at "go"
      refine law_table hj3 (by decide) (by decide) (by omega) (by omega) (by omega) (by omega) fun t j4 hj4 ht => ?_
      walk_at "go"
      refine law_near hj4 (by decide) (by decide) (by omega) (by omega) (by omega) (by omega) ht fun w j5 hj5 hw lw => ?_
      walk_at "go"
      have nt := tb_nd ht (by omega)
      have lt : t.length ≤ 1000 := by have := ht.1; omega
      refine asked nt hw lt lw ?_
      walk_at "go"
      refine law_table hj5 (by decide) (by decide) (by omega) (by omega) (by omega) (by omega) fun u j6 hj6 hu => ?_
      walk_at "go"
      have nu := tb_nd hu (by omega)
      have lu : u.length ≤ 1000 := by have := hu.1; omega
      refine asked nt nu lt lu ?_
      walk_at "go"
      exact ⟨_, rfl⟩
theorem law_true (mg : PySem.Str → Option PySem.Value) : ∀ ns : List Int, ns.length ≤ 63 → ∃ o, F_law mg [.lst (ns.map D.int)] = .ok (.bl true, o) := fun ns hl => by
  obtain ⟨r, e, o, rfl⟩ := law_ok1 hl
  exact ⟨o, e⟩
end K15
namespace K15
open PySem PySem.Spec PyProof.Rows L2 DL
theorem fin {l : PySem.W.OpenLaw} {w : World} {K : PySem.W.Frag} {h : Heap} {mg : Str → Option Value} {fa : Addr} (X : K.In h) (G : h.Ns mainGlobals mg) (hmg : mg "law" = some (.ref fa)) (T : Top K mg) :
    ∃ fd : FuncData, (∀ (s : Shared) (u : Value), BindsTo s fd ⟨[u], []⟩ [("script", u)]) ∧ ∀ base : Heap, K.In base → base.Ns mainGlobals mg → FnOk l.prog w K mg base CX0 15 fa fd ["script"] (spLaw K) := by
  obtain ⟨f, fd, h1, h2, h3⟩ := T.f_law
  have e := hmg.symm.trans h1
  cases e
  exact ⟨fd, fun s u => .of_eq (h3 [u] rfl), fun base _ _ => law_ok (ok_law T h2) (law_true mg)⟩
end K15
open PySem PySem.W PyProof.Rows
set_option maxRecDepth 100000 in
set_option maxHeartbeats 0 in
theorem PySem.Challenge.cw_neveroverdrawn_k15_tabletools_holds : PySem.Challenge.rw_neveroverdrawn_k15_tabletools.Holds := by
  w_on; o_law; k_head; (case hw => w_witness2)
  k_fill
  refine L2.walk_ofK (l := PySem.Challenge.rw_neveroverdrawn_k15_tabletools) (n := 63) (k := 15) (x := "script") (CX := L2.CX0) (sp := DL.spLaw) rfl (by decide) rfl ⟨rfl, by decide, by decide⟩ (fun w h Y => PySem.W.kIn_of Y) ?F (fun _ _ a ns hl _ hS => ⟨a, ns, rfl, hS, hl, fun _ => rfl⟩) (fun _ _ _ _ h => h)
  case F =>
    intro w mg fa h KX G hmg
    refine' K15.fin KX G hmg ?T
    case T =>
      refine' { f_low_sum := ?f_low_sum, f_low_rank := ?f_low_rank, f_low_less := ?f_low_less, f_least_low := ?f_least_low, f_low_times := ?f_low_times, f_need_less := ?f_need_less, f_greatest_need := ?f_greatest_need, f_need_behind := ?f_need_behind, f_joined_pair := ?f_joined_pair, f_lesser_pair := ?f_lesser_pair, f_paired_rows := ?f_paired_rows, f_joined_tables := ?f_joined_tables, f_lesser_table := ?f_lesser_table, f_pair_less := ?f_pair_less, f_table_less := ?f_table_less, f_change_need := ?f_change_need, f_either_figures := ?f_either_figures, f_loop_figures := ?f_loop_figures, f_least_ahead := ?f_least_ahead, f_counted_figures := ?f_counted_figures, f_need_behind_or_more := ?f_need_behind_or_more, f_statement_figures := ?f_statement_figures, f_body_figures := ?f_body_figures, f_is_integer := ?f_is_integer, f_is_number := ?f_is_number, f_is_tuple := ?f_is_tuple, f_is_need := ?f_is_need, f_is_low := ?f_is_low, f_is_pair := ?f_is_pair, f_table_fault := ?f_table_fault, f_is_kept := ?f_is_kept, f_open_pairs := ?f_open_pairs, f_is_closed := ?f_is_closed, f__law_jar := ?f__law_jar, f__law_take := ?f__law_take, f__law_same := ?f__law_same, f__law_need := ?f__law_need, f__law_low := ?f__law_low, f__law_table := ?f__law_table, f__law_rank := ?f__law_rank, f__law_above := ?f__law_above, f__law_joined := ?f__law_joined, f__law_less := ?f__law_less, f__law_near := ?f__law_near, f__law_asked := ?f__law_asked, f__law_closed := ?f__law_closed, f_law := ?f_law, g_SIZE_MOST := ?g_SIZE_MOST, b_abs := ?b_abs, b_all := ?b_all, b_bool := ?b_bool, b_enumerate := ?b_enumerate, b_int := ?b_int, b_isinstance := ?b_isinstance, b_len := ?b_len, b_list := ?b_list, b_max := ?b_max, b_min := ?b_min, b_range := ?b_range, b_str := ?b_str, b_sum := ?b_sum, b_tuple := ?b_tuple, b_zip := ?b_zip }
      case f_low_sum =>
        refine' DL.mkSrc (fun _ _ _ _ _ _ us hl => match us, hl with | [_, _], _ => rfl) KX G ?a ?l ?c ?k
        (case a => k_is); (case l => k_is); (case c => k_is); (case k => k_is)
      case f_low_rank =>
        refine' DL.mkSrc (fun _ _ _ _ _ _ us hl => match us, hl with | [_], _ => rfl) KX G ?a ?l ?c ?k
        (case a => k_is); (case l => k_is); (case c => k_is); (case k => k_is)
      case f_low_less =>
        refine' DL.mkSrc (fun _ _ _ _ _ _ us hl => match us, hl with | [_, _], _ => rfl) KX G ?a ?l ?c ?k
        (case a => k_is); (case l => k_is); (case c => k_is); (case k => k_is)
      case f_least_low =>
        refine' DL.mkSrc (fun _ _ _ _ _ _ us hl => match us, hl with | [_], _ => rfl) KX G ?a ?l ?c ?k
        (case a => k_is); (case l => k_is); (case c => k_is); (case k => k_is)
      case f_low_times =>
        refine' DL.mkSrc (fun _ _ _ _ _ _ us hl => match us, hl with | [_, _], _ => rfl) KX G ?a ?l ?c ?k
        (case a => k_is); (case l => k_is); (case c => k_is); (case k => k_is)
      case f_need_less =>
        refine' DL.mkSrc (fun _ _ _ _ _ _ us hl => match us, hl with | [_, _], _ => rfl) KX G ?a ?l ?c ?k
        (case a => k_is); (case l => k_is); (case c => k_is); (case k => k_is)
      case f_greatest_need =>
        refine' DL.mkSrc (fun _ _ _ _ _ _ us hl => match us, hl with | [_], _ => rfl) KX G ?a ?l ?c ?k
        (case a => k_is); (case l => k_is); (case c => k_is); (case k => k_is)
      case f_need_behind =>
        refine' DL.mkSrc (fun _ _ _ _ _ _ us hl => match us, hl with | [_, _], _ => rfl) KX G ?a ?l ?c ?k
        (case a => k_is); (case l => k_is); (case c => k_is); (case k => k_is)
      case f_joined_pair =>
        refine' DL.mkSrc (fun _ _ _ _ _ _ us hl => match us, hl with | [_, _], _ => rfl) KX G ?a ?l ?c ?k
        (case a => k_is); (case l => k_is); (case c => k_is); (case k => k_is)
      case f_lesser_pair =>
        refine' DL.mkSrc (fun _ _ _ _ _ _ us hl => match us, hl with | [_, _], _ => rfl) KX G ?a ?l ?c ?k
        (case a => k_is); (case l => k_is); (case c => k_is); (case k => k_is)
      case f_paired_rows =>
        refine' DL.mkSrc (fun _ _ _ _ _ _ us hl => match us, hl with | [_, _, _], _ => rfl) KX G ?a ?l ?c ?k
        (case a => k_is); (case l => k_is); (case c => k_is); (case k => k_is)
      case f_joined_tables =>
        refine' DL.mkSrc (fun _ _ _ _ _ _ us hl => match us, hl with | [_, _], _ => rfl) KX G ?a ?l ?c ?k
        (case a => k_is); (case l => k_is); (case c => k_is); (case k => k_is)
      case f_lesser_table =>
        refine' DL.mkSrc (fun _ _ _ _ _ _ us hl => match us, hl with | [_, _], _ => rfl) KX G ?a ?l ?c ?k
        (case a => k_is); (case l => k_is); (case c => k_is); (case k => k_is)
      case f_pair_less =>
        refine' DL.mkSrc (fun _ _ _ _ _ _ us hl => match us, hl with | [_, _], _ => rfl) KX G ?a ?l ?c ?k
        (case a => k_is); (case l => k_is); (case c => k_is); (case k => k_is)
      case f_table_less =>
        refine' DL.mkSrc (fun _ _ _ _ _ _ us hl => match us, hl with | [_, _], _ => rfl) KX G ?a ?l ?c ?k
        (case a => k_is); (case l => k_is); (case c => k_is); (case k => k_is)
      case f_change_need =>
        refine' DL.mkSrc (fun _ _ _ _ _ _ us hl => match us, hl with | [_, _], _ => rfl) KX G ?a ?l ?c ?k
        (case a => k_is); (case l => k_is); (case c => k_is); (case k => k_is)
      case f_either_figures =>
        refine' DL.mkSrc (fun _ _ _ _ _ _ us hl => match us, hl with | [_, _, _], _ => rfl) KX G ?a ?l ?c ?k
        (case a => k_is); (case l => k_is); (case c => k_is); (case k => k_is)
      case f_loop_figures =>
        refine' DL.mkSrc (fun _ _ _ _ _ _ us hl => match us, hl with | [_, _, _], _ => rfl) KX G ?a ?l ?c ?k
        (case a => k_is); (case l => k_is); (case c => k_is); (case k => k_is)
      case f_least_ahead =>
        refine' DL.mkSrc (fun _ _ _ _ _ _ us hl => match us, hl with | [_, _], _ => rfl) KX G ?a ?l ?c ?k
        (case a => k_is); (case l => k_is); (case c => k_is); (case k => k_is)
      case f_counted_figures =>
        refine' DL.mkSrc (fun _ _ _ _ _ _ us hl => match us, hl with | [_, _, _], _ => rfl) KX G ?a ?l ?c ?k
        (case a => k_is); (case l => k_is); (case c => k_is); (case k => k_is)
      case f_need_behind_or_more =>
        refine' DL.mkSrc (fun _ _ _ _ _ _ us hl => match us, hl with | [_, _], _ => rfl) KX G ?a ?l ?c ?k
        (case a => k_is); (case l => k_is); (case c => k_is); (case k => k_is)
      case f_statement_figures =>
        refine' DL.mkSrc (fun _ _ _ _ _ _ us hl => match us, hl with | [_, _, _], _ => rfl) KX G ?a ?l ?c ?k
        (case a => k_is); (case l => k_is); (case c => k_is); (case k => k_is)
      case f_body_figures =>
        refine' DL.mkSrc (fun _ _ _ _ _ _ us hl => match us, hl with | [_, _, _], _ => rfl) KX G ?a ?l ?c ?k
        (case a => k_is); (case l => k_is); (case c => k_is); (case k => k_is)
      case f_is_integer =>
        refine' DL.mkSrc (fun _ _ _ _ _ _ us hl => match us, hl with | [_], _ => rfl) KX G ?a ?l ?c ?k
        (case a => k_is); (case l => k_is); (case c => k_is); (case k => k_is)
      case f_is_number =>
        refine' DL.mkSrc (fun _ _ _ _ _ _ us hl => match us, hl with | [_], _ => rfl) KX G ?a ?l ?c ?k
        (case a => k_is); (case l => k_is); (case c => k_is); (case k => k_is)
      case f_is_tuple =>
        refine' DL.mkSrc (fun _ _ _ _ _ _ us hl => match us, hl with | [_, _], _ => rfl) KX G ?a ?l ?c ?k
        (case a => k_is); (case l => k_is); (case c => k_is); (case k => k_is)
      case f_is_need =>
        refine' DL.mkSrc (fun _ _ _ _ _ _ us hl => match us, hl with | [_], _ => rfl) KX G ?a ?l ?c ?k
        (case a => k_is); (case l => k_is); (case c => k_is); (case k => k_is)
      case f_is_low =>
        refine' DL.mkSrc (fun _ _ _ _ _ _ us hl => match us, hl with | [_], _ => rfl) KX G ?a ?l ?c ?k
        (case a => k_is); (case l => k_is); (case c => k_is); (case k => k_is)
      case f_is_pair =>
        refine' DL.mkSrc (fun _ _ _ _ _ _ us hl => match us, hl with | [_], _ => rfl) KX G ?a ?l ?c ?k
        (case a => k_is); (case l => k_is); (case c => k_is); (case k => k_is)
      case f_table_fault =>
        refine' DL.mkSrc (fun _ _ _ _ _ _ us hl => match us, hl with | [_, _], _ => rfl) KX G ?a ?l ?c ?k
        (case a => k_is); (case l => k_is); (case c => k_is); (case k => k_is)
      case f_is_kept =>
        refine' DL.mkSrc (fun _ _ _ _ _ _ us hl => match us, hl with | [_, _, _, _], _ => rfl) KX G ?a ?l ?c ?k
        (case a => k_is); (case l => k_is); (case c => k_is); (case k => k_is)
      case f_open_pairs =>
        refine' DL.mkSrc (fun _ _ _ _ _ _ us hl => match us, hl with | [_, _], _ => rfl) KX G ?a ?l ?c ?k
        (case a => k_is); (case l => k_is); (case c => k_is); (case k => k_is)
      case f_is_closed =>
        refine' DL.mkSrc (fun _ _ _ _ _ _ us hl => match us, hl with | [_, _], _ => rfl) KX G ?a ?l ?c ?k
        (case a => k_is); (case l => k_is); (case c => k_is); (case k => k_is)
      case f__law_jar =>
        refine' DL.mkSrc (fun _ _ _ _ _ _ us hl => match us, hl with | [_], _ => rfl) KX G ?a ?l ?c ?k
        (case a => k_is); (case l => k_is); (case c => k_is); (case k => k_is)
      case f__law_take =>
        refine' DL.mkSrc (fun _ _ _ _ _ _ us hl => match us, hl with | [_, _], _ => rfl) KX G ?a ?l ?c ?k
        (case a => k_is); (case l => k_is); (case c => k_is); (case k => k_is)
      case f__law_same =>
        refine' DL.mkSrc (fun _ _ _ _ _ _ us hl => match us, hl with | [_, _], _ => rfl) KX G ?a ?l ?c ?k
        (case a => k_is); (case l => k_is); (case c => k_is); (case k => k_is)
      case f__law_need =>
        refine' DL.mkSrc (fun _ _ _ _ _ _ us hl => match us, hl with | [_, _], _ => rfl) KX G ?a ?l ?c ?k
        (case a => k_is); (case l => k_is); (case c => k_is); (case k => k_is)
      case f__law_low =>
        refine' DL.mkSrc (fun _ _ _ _ _ _ us hl => match us, hl with | [_, _], _ => rfl) KX G ?a ?l ?c ?k
        (case a => k_is); (case l => k_is); (case c => k_is); (case k => k_is)
      case f__law_table =>
        refine' DL.mkSrc (fun _ _ _ _ _ _ us hl => match us, hl with | [_, _, _, _], _ => rfl) KX G ?a ?l ?c ?k
        (case a => k_is); (case l => k_is); (case c => k_is); (case k => k_is)
      case f__law_rank =>
        refine' DL.mkSrc (fun _ _ _ _ _ _ us hl => match us, hl with | [_], _ => rfl) KX G ?a ?l ?c ?k
        (case a => k_is); (case l => k_is); (case c => k_is); (case k => k_is)
      case f__law_above =>
        refine' DL.mkSrc (fun _ _ _ _ _ _ us hl => match us, hl with | [_, _], _ => rfl) KX G ?a ?l ?c ?k
        (case a => k_is); (case l => k_is); (case c => k_is); (case k => k_is)
      case f__law_joined =>
        refine' DL.mkSrc (fun _ _ _ _ _ _ us hl => match us, hl with | [_, _, _], _ => rfl) KX G ?a ?l ?c ?k
        (case a => k_is); (case l => k_is); (case c => k_is); (case k => k_is)
      case f__law_less =>
        refine' DL.mkSrc (fun _ _ _ _ _ _ us hl => match us, hl with | [_, _], _ => rfl) KX G ?a ?l ?c ?k
        (case a => k_is); (case l => k_is); (case c => k_is); (case k => k_is)
      case f__law_near =>
        refine' DL.mkSrc (fun _ _ _ _ _ _ us hl => match us, hl with | [_, _, _], _ => rfl) KX G ?a ?l ?c ?k
        (case a => k_is); (case l => k_is); (case c => k_is); (case k => k_is)
      case f__law_asked =>
        refine' DL.mkSrc (fun _ _ _ _ _ _ us hl => match us, hl with | [_, _], _ => rfl) KX G ?a ?l ?c ?k
        (case a => k_is); (case l => k_is); (case c => k_is); (case k => k_is)
      case f__law_closed =>
        refine' DL.mkSrc (fun _ _ _ _ _ _ us hl => match us, hl with | [_], _ => rfl) KX G ?a ?l ?c ?k
        (case a => k_is); (case l => k_is); (case c => k_is); (case k => k_is)
      case f_law =>
        refine' DL.mkSrc (fun _ _ _ _ _ _ us hl => match us, hl with | [_], _ => rfl) KX G ?a ?l ?c ?k
        (case a => k_is); (case l => k_is); (case c => k_is); (case k => k_is)
      case g_SIZE_MOST => exact ⟨_, PySem.W.mg_of KX G (by k_is), ⟨_, rfl⟩⟩
      case b_abs => exact PySem.W.mg_none_of KX G (by k_is)
      case b_all => exact PySem.W.mg_none_of KX G (by k_is)
      case b_bool => exact PySem.W.mg_none_of KX G (by k_is)
      case b_enumerate => exact PySem.W.mg_none_of KX G (by k_is)
      case b_int => exact PySem.W.mg_none_of KX G (by k_is)
      case b_isinstance => exact PySem.W.mg_none_of KX G (by k_is)
      case b_len => exact PySem.W.mg_none_of KX G (by k_is)
      case b_list => exact PySem.W.mg_none_of KX G (by k_is)
      case b_max => exact PySem.W.mg_none_of KX G (by k_is)
      case b_min => exact PySem.W.mg_none_of KX G (by k_is)
      case b_range => exact PySem.W.mg_none_of KX G (by k_is)
      case b_str => exact PySem.W.mg_none_of KX G (by k_is)
      case b_sum => exact PySem.W.mg_none_of KX G (by k_is)
      case b_tuple => exact PySem.W.mg_none_of KX G (by k_is)
      case b_zip => exact PySem.W.mg_none_of KX G (by k_is)
