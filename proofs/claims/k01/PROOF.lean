import PyProof.Rows.All
import Wide.All
import OpenK.AllK
import Wide.FinOn
import HandS.ForMost
import HandS.ForExc
import HandS.Flow
import HandS.Style
import HandS.Zip
import HandS.IsInst
import HandS.Wide
import HandS.Walk
import HandS.Conv
import HandS.TupLe
import HandS.TupAny
import PySem.Challenge.RW_neveroverdrawn_k01_changes_figures
set_option Elab.async false
set_option linter.all false
set_option maxRecDepth 100000
set_option maxHeartbeats 4000000
/-! The D-layer: values as plain data over the hand layer's abstract heap; what is owned by slots may change, what is shared never does. -/
namespace DL
open PySem PySem.Spec PyProof.Rows L2

/-! ### data, results -/
inductive D where
  | non
  | bl (b : Bool)
  | int (i : Int)
  | str (x : PySem.Str)
  | tup (ds : List D)
  | lst (ds : List D)
  | fn (a : Addr)
  | ty (n : String)

inductive Res (α : Type) where
  | ok (a : α)
  | err
def Res.bind {α β : Type} (x : Res α) (f : α → Res β) : Res β := match x with
  | .ok a => f a
  | .err => .err
theorem Res.ok_bind {α β : Type} (a : α) (f : α → Res β) : (Res.ok a).bind f = f a := rfl
theorem Res.err_bind {α β : Type} (f : α → Res β) : (Res.err : Res α).bind f = .err := rfl
theorem Res.bind_ok {α β : Type} {x : Res α} {f : α → Res β} {b : β} (h : x.bind f = .ok b) : ∃ a, x = .ok a ∧ f a = .ok b := by
  cases x with
  | ok a => exact ⟨a, rfl, h⟩
  | err => cases h
theorem Res.bind_assoc {α β γ : Type} (x : Res α) (f : α → Res β) (g : β → Res γ) : (x.bind f).bind g = x.bind fun a => (f a).bind g := by cases x <;> rfl

abbrev Ev := List (Option D)

/-! ### what represents a datum: Z tells the addresses that may change -/
abbrev AP := Addr → Prop
def RdT (K : PySem.W.Frag) (Z : AP) (H : Hp) (a : Addr) (vs : List V) : Prop := (H a = some (.tup vs) ∧ ¬ Z a) ∨ SqT K (fun _ => none) a vs
def RdL (K : PySem.W.Frag) (Z : AP) (H : Hp) (a : Addr) (vs : List V) : Prop := (Rd H a (.lst vs) ∧ ¬ Z a) ∨ SqL K (fun _ => none) a vs
mutual
def Sh (K : PySem.W.Frag) (Z : AP) (H : Hp) : D → V → Prop
  | .non, v => v = .non
  | .bl b, v => v = .bl b
  | .int i, v => v = .int i
  | .str x, v => v = .str x
  | .tup ds, v => ∃ a vs, v = .ref a ∧ RdT K Z H a vs ∧ Shs K Z H ds vs
  | .lst ds, v => ∃ a vs, v = .ref a ∧ RdL K Z H a vs ∧ Shs K Z H ds vs
  | .fn a, v => v = .ref a
  | .ty n, v => v = .ty n
def Shs (K : PySem.W.Frag) (Z : AP) (H : Hp) : List D → List V → Prop
  | [], vs => vs = []
  | d :: ds, vs => ∃ v r, vs = v :: r ∧ Sh K Z H d v ∧ Shs K Z H ds r
end
abbrev Z0 : AP := fun _ => False
section
variable {K : PySem.W.Frag} {Z Z' Z'' : AP} {H H' H'' : Hp} {a : Addr} {vs : List V}
theorem RdT.sq (h : RdT K Z H a vs) : SqT K H a vs := by
  rcases h with ⟨h, _⟩ | h
  · exact .inl (.inl h)
  · rcases h with (h | ⟨o, h⟩) | h
    · cases h
    · cases h
    · exact .inr h
theorem RdL.sq (h : RdL K Z H a vs) : SqL K H a vs := by
  rcases h with ⟨h, _⟩ | h
  · exact .inl h
  · rcases h with (h | ⟨o, h⟩) | h
    · cases h
    · cases h
    · exact .inr h
theorem RdT.new (h : H a = some (.tup vs)) (hz : ¬ Z a) : RdT K Z H a vs := .inl ⟨h, hz⟩
theorem RdL.new (h : H a = some (.lst vs)) (hz : ¬ Z a) : RdL K Z H a vs := .inl ⟨.inl h, hz⟩
mutual
theorem Sh.mono (hT : ∀ a vs, RdT K Z H a vs → RdT K Z' H' a vs) (hL : ∀ a vs, RdL K Z H a vs → RdL K Z' H' a vs) : ∀ (d : D) (v : V), Sh K Z H d v → Sh K Z' H' d v
  | .non, _, h => h
  | .bl _, _, h => h
  | .int _, _, h => h
  | .str _, _, h => h
  | .tup ds, _, ⟨a, vs, e, r, s⟩ => ⟨a, vs, e, hT a vs r, Shs.mono hT hL ds vs s⟩
  | .lst ds, _, ⟨a, vs, e, r, s⟩ => ⟨a, vs, e, hL a vs r, Shs.mono hT hL ds vs s⟩
  | .fn _, _, h => h
  | .ty _, _, h => h
theorem Shs.mono (hT : ∀ a vs, RdT K Z H a vs → RdT K Z' H' a vs) (hL : ∀ a vs, RdL K Z H a vs → RdL K Z' H' a vs) : ∀ (ds : List D) (vs : List V), Shs K Z H ds vs → Shs K Z' H' ds vs
  | [], _, h => h
  | d :: ds, _, ⟨v, r, e, s1, s2⟩ => ⟨v, r, e, Sh.mono hT hL d v s1, Shs.mono hT hL ds r s2⟩
end
/-- one step: what is not owned stays, what becomes owned is new -/
def Stp0 (Z : AP) (H : Hp) (Z' : AP) (H' : Hp) : Prop := (∀ b o, H b = some o → ¬ Z b → H' b = some o) ∧ ∀ b, Z' b → Z b ∨ H b = none
theorem Stp0.refl : Stp0 Z H Z H := ⟨fun _ _ h _ => h, fun _ h => .inl h⟩
theorem Stp0.trans (a : Stp0 Z H Z' H') (b : Stp0 Z' H' Z'' H'') : Stp0 Z H Z'' H'' := by
  refine ⟨fun c o h hz => b.1 c o (a.1 c o h hz) fun z => ?_, fun c hc => ?_⟩
  · rcases a.2 c z with q | q
    · exact hz q
    · rw [q] at h; cases h
  · rcases b.2 c hc with q | q
    · exact a.2 c q
    · by_cases hz : Z c
      · exact .inl hz
      · refine .inr ?_
        cases e : H c with
        | none => rfl
        | some o =>
          have e2 := a.1 c o e hz
          rw [q] at e2; cases e2
theorem Stp0.same (s : Same H H') : Stp0 Z H Z H' := ⟨fun b o h _ => s b o h, fun _ h => .inl h⟩
theorem RdT.stp (s : Stp0 Z H Z' H') (h : RdT K Z H a vs) : RdT K Z' H' a vs := by
  rcases h with ⟨h, hz⟩ | h
  · refine .inl ⟨s.1 _ _ h hz, fun z => ?_⟩
    rcases s.2 a z with q | q
    · exact hz q
    · rw [q] at h; cases h
  · exact .inr h
theorem RdL.stp (s : Stp0 Z H Z' H') (h : RdL K Z H a vs) : RdL K Z' H' a vs := by
  rcases h with ⟨h, hz⟩ | h
  · refine .inl ⟨?_, fun z => ?_⟩
    · rcases h with h | ⟨o, h⟩
      · exact .inl (s.1 _ _ h hz)
      · exact .inr ⟨o, s.1 _ _ h hz⟩
    · rcases s.2 a z with q | q
      · exact hz q
      · rcases h with h | ⟨o, h⟩ <;> rw [q] at h <;> cases h
  · exact .inr h
theorem Sh.stp (s : Stp0 Z H Z' H') {d : D} {v : V} (h : Sh K Z H d v) : Sh K Z' H' d v := Sh.mono (fun _ _ => RdT.stp s) (fun _ _ => RdL.stp s) d v h
theorem Shs.stp (s : Stp0 Z H Z' H') {ds : List D} (h : Shs K Z H ds vs) : Shs K Z' H' ds vs := Shs.mono (fun _ _ => RdT.stp s) (fun _ _ => RdL.stp s) ds vs h
theorem RdT.same (s : Same H H') (h : RdT K Z H a vs) : RdT K Z H' a vs := h.stp (Stp0.same s)
theorem Sh.same (s : Same H H') {d : D} {v : V} (h : Sh K Z H d v) : Sh K Z H' d v := h.stp (Stp0.same s)
theorem Shs.same (s : Same H H') {ds : List D} (h : Shs K Z H ds vs) : Shs K Z H' ds vs := h.stp (Stp0.same s)
/-- fewer owned ones -/
theorem Sh.less (hz : ∀ b, Z' b → Z b) {d : D} {v : V} (h : Sh K Z H d v) : Sh K Z' H d v :=
  Sh.stp (Z := Z) ⟨fun _ _ h _ => h, fun b z => .inl (hz b z)⟩ h
theorem Shs.less (hz : ∀ b, Z' b → Z b) {ds : List D} (h : Shs K Z H ds vs) : Shs K Z' H ds vs :=
  Shs.stp (Z := Z) ⟨fun _ _ h _ => h, fun b z => .inl (hz b z)⟩ h
theorem Sh.cur {d : D} {v : V} (h : Sh K Z H d v) : Sh K Z0 H d v := h.less fun _ z => z.elim
theorem Shs.len : ∀ {ds : List D} {vs : List V}, Shs K Z H ds vs → ds.length = vs.length
  | [], vs, h => by
    have e : vs = [] := h
    subst e
    rfl
  | d :: ds, _, ⟨v, r, e, _, s⟩ => by rw [e, List.length_cons, List.length_cons, Shs.len s]
theorem Shs.get : ∀ {ds : List D} {vs : List V} {i : Nat} {d : D}, Shs K Z H ds vs → ds[i]? = some d → ∃ v, vs[i]? = some v ∧ Sh K Z H d v
  | [], _, _, _, _, h => by simp at h
  | d :: ds, _, 0, d', ⟨v, r, e, s, _⟩, h => by
    have h' : d = d' := by simpa using h
    subst h'
    exact ⟨v, by rw [e]; rfl, s⟩
  | d :: ds, _, i + 1, _, ⟨v, r, e, _, s⟩, h => by
    obtain ⟨w, h1, h2⟩ := Shs.get (i := i) s (by simpa using h)
    exact ⟨w, by rw [e]; simpa using h1, h2⟩
theorem Shs.getV : ∀ {ds : List D} {vs : List V} {i : Nat} {v : V}, Shs K Z H ds vs → vs[i]? = some v → ∃ d, ds[i]? = some d ∧ Sh K Z H d v
  | [], vs, _, _, h, q => by
    have e : vs = [] := h
    subst e
    simp at q
  | d :: ds, _, 0, v', ⟨v, r, e, s, _⟩, h => by
    rw [e] at h
    have h' : v = v' := by simpa using h
    subst h'
    exact ⟨d, rfl, s⟩
  | d :: ds, _, i + 1, _, ⟨v, r, e, _, s⟩, h => by
    rw [e] at h
    obtain ⟨w, h1, h2⟩ := Shs.getV (i := i) s (by simpa using h)
    exact ⟨w, by simpa using h1, h2⟩
theorem Shs.app : ∀ {ds es : List D} {vs ws : List V}, Shs K Z H ds vs → Shs K Z H es ws → Shs K Z H (ds ++ es) (vs ++ ws)
  | [], _, vs, _, h, q => by
    have e : vs = [] := h
    subst e
    exact q
  | d :: ds, _, _, ws, ⟨v, r, e, s, t⟩, q => ⟨v, r ++ ws, by rw [e]; rfl, s, Shs.app t q⟩
theorem Shs.one {d : D} {v : V} (h : Sh K Z H d v) : Shs K Z H [d] [v] := ⟨v, [], rfl, h, rfl⟩
theorem Shs.set : ∀ {ds : List D} {vs : List V} (i : Nat) {d : D} {v : V}, Shs K Z H ds vs → Sh K Z H d v → Shs K Z H (ds.set i d) (vs.set i v)
  | [], vs, _, _, _, h, _ => by
    have e : vs = [] := h
    subst e
    exact rfl
  | x :: ds, _, 0, d, v, ⟨y, r, e, _, t⟩, q => ⟨v, r, by rw [e]; rfl, q, t⟩
  | x :: ds, _, i + 1, d, v, ⟨y, r, e, s, t⟩, q => ⟨y, r.set i v, by rw [e]; rfl, s, Shs.set i t q⟩
theorem Shs.take : ∀ {ds : List D} {vs : List V} (n : Nat), Shs K Z H ds vs → Shs K Z H (ds.take n) (vs.take n)
  | _, _, 0, _ => by rw [List.take_zero, List.take_zero]; exact rfl
  | [], vs, n + 1, h => by
    have e : vs = [] := h
    subst e
    exact rfl
  | d :: ds, _, n + 1, ⟨v, r, e, s, t⟩ => ⟨v, r.take n, by rw [e]; rfl, s, Shs.take n t⟩
theorem Shs.drop : ∀ {ds : List D} {vs : List V} (n : Nat), Shs K Z H ds vs → Shs K Z H (ds.drop n) (vs.drop n)
  | _, _, 0, h => h
  | [], vs, n + 1, h => by
    have e : vs = [] := h
    subst e
    exact rfl
  | d :: ds, _, n + 1, ⟨v, r, e, s, t⟩ => by rw [e]; exact Shs.drop n t
theorem Shs.erase : ∀ {ds : List D} {vs : List V} (n : Nat), Shs K Z H ds vs → Shs K Z H (ds.eraseIdx n) (vs.eraseIdx n)
  | [], vs, _, h => by
    have e : vs = [] := h
    subst e
    exact rfl
  | d :: ds, _, 0, ⟨v, r, e, s, t⟩ => by rw [e]; exact t
  | d :: ds, _, n + 1, ⟨v, r, e, s, t⟩ => ⟨v, r.eraseIdx n, by rw [e]; rfl, s, Shs.erase n t⟩
theorem Shs.rev : ∀ {ds : List D} {vs : List V}, Shs K Z H ds vs → Shs K Z H ds.reverse vs.reverse
  | [], vs, h => by
    have e : vs = [] := h
    subst e
    exact rfl
  | d :: ds, _, ⟨v, r, e, s, t⟩ => by
    rw [e, List.reverse_cons, List.reverse_cons]
    exact (Shs.rev t).app (Shs.one s)
theorem Shs.dropLast {ds : List D} {vs : List V} (h : Shs K Z H ds vs) : Shs K Z H ds.dropLast vs.dropLast := by
  rw [List.dropLast_eq_take, List.dropLast_eq_take, ← h.len]
  exact h.take _
theorem Shs.rep {ds : List D} {vs : List V} (h : Shs K Z H ds vs) : ∀ n : Nat, Shs K Z H (List.replicate n ds).flatten (List.replicate n vs).flatten
  | 0 => rfl
  | n + 1 => by
    rw [List.replicate_succ, List.replicate_succ, List.flatten_cons, List.flatten_cons]
    exact h.app (Shs.rep h n)
end

/-! ### owned lists: level 0 is shared data; level n + 1 a list of level n, its own addresses within P -/
def Ow (K : PySem.W.Frag) (Z : AP) (H : Hp) : Nat → D → V → AP → Prop
  | 0, d, v, _ => Sh K Z H d v
  | n + 1, d, v, P => match d with
    | .lst ds => ∃ a vs, v = .ref a ∧ P a ∧ Z a ∧ H a = some (.lst vs) ∧ ds.length = vs.length ∧ ∃ Q : Nat → AP, (∀ i b, Q i b → P b ∧ b ≠ a) ∧ (∀ i j b, Q i b → Q j b → i = j) ∧
        ∀ i d v, ds[i]? = some d → vs[i]? = some v → Ow K Z H n d v (Q i)
    | d => Sh K Z H d v
theorem Shs.of {K : PySem.W.Frag} {Z : AP} {H : Hp} : ∀ {ds : List D} {vs : List V}, ds.length = vs.length → (∀ (i : Nat) (d : D) (v : V), ds[i]? = some d → vs[i]? = some v → Sh K Z H d v) → Shs K Z H ds vs
  | [], [], _, _ => rfl
  | d :: ds, v :: vs, h, q => ⟨v, vs, rfl, q 0 d v rfl rfl, Shs.of (by simpa using h) fun i d v h1 h2 => q (i + 1) d v (by simpa using h1) (by simpa using h2)⟩
  | [], _ :: _, h, _ => by simp at h
  | _ :: _, [], h, _ => by simp at h
section
variable {K : PySem.W.Frag} {Z Z' : AP} {H H' : Hp} {P P' : AP}
theorem Ow.keep (hs : ∀ d v, Sh K Z H d v → Sh K Z' H' d v) : ∀ (n : Nat) (d : D) (v : V) (P : AP), (∀ b, P b → Z b → H b ≠ none → H' b = H b ∧ Z' b) → Ow K Z H n d v P → Ow K Z' H' n d v P
  | 0, d, v, P, _, h => hs d v h
  | n + 1, d, v, P, hp, h => by
    cases d with
    | lst ds =>
      obtain ⟨a, vs, e, pa, za, ha, l, Q, q1, q2, q3⟩ := h
      obtain ⟨e1, e2⟩ := hp a pa za (by rw [ha]; exact fun z => nomatch z)
      exact ⟨a, vs, e, pa, e2, by rw [e1]; exact ha, l, Q, q1, q2, fun i d v h1 h2 => Ow.keep hs n d v (Q i) (fun b hb => hp b (q1 i b hb).1) (q3 i d v h1 h2)⟩
    | _ => exact hs _ _ h
theorem Ow.more (hP : ∀ b, P b → P' b) : ∀ {n : Nat} {d : D} {v : V}, Ow K Z H n d v P → Ow K Z H n d v P'
  | 0, _, _, h => h
  | n + 1, d, v, h => by
    cases d with
    | lst ds =>
      obtain ⟨a, vs, e, pa, za, ha, l, Q, q1, q2, q3⟩ := h
      exact ⟨a, vs, e, hP a pa, za, ha, l, Q, fun i b hb => ⟨hP b (q1 i b hb).1, (q1 i b hb).2⟩, q2, q3⟩
    | _ => exact h
/-- as shared data, once its addresses are given up -/
theorem Ow.frz (hZ : ∀ b, Z' b → Z b ∧ ¬ P b) : ∀ {n : Nat} {d : D} {v : V} {P1 : AP}, (∀ b, P1 b → P b) → Ow K Z H n d v P1 → Sh K Z' H d v
  | 0, d, v, _, _, h => h.less fun b z => (hZ b z).1
  | n + 1, d, v, P1, h1, h => by
    cases d with
    | lst ds =>
      obtain ⟨a, vs, e, pa, za, ha, l, Q, q1, q2, q3⟩ := h
      exact ⟨a, vs, e, RdL.new ha fun z => (hZ a z).2 (h1 a pa), Shs.of l fun i d v e1 e2 => Ow.frz hZ (fun b hb => h1 b (q1 i b hb).1) (q3 i d v e1 e2)⟩
    | _ => exact Sh.less (fun b z => (hZ b z).1) h
theorem Ow.cur {n : Nat} {d : D} {v : V} (h : Ow K Z H n d v P) : Sh K Z0 H d v := Ow.frz (P := P) (fun _ z => z.elim) (fun _ z => z) h
theorem Ow.same (s : Same H H') {n : Nat} {d : D} {v : V} (h : Ow K Z H n d v P) : Ow K Z H' n d v P := by
  refine Ow.keep (fun d v q => q.same s) n d v P (fun b _ hz hn => ⟨?_, hz⟩) h
  cases e : H b with
  | none => exact absurd e hn
  | some o => exact s b o e
end

/-! ### the state -/
structure DC where
  ks : List Nat
  pl : List Nat
  pv : Nat → Option (Option V)
  M : AP
  Zi : AP
  Hi : Hp
/-- what may be owned -/
def mutO : HO → Bool
  | .lst _ => true
  | .dK _ => true
  | .dT _ => true
  | .set _ _ => true
  | .ins _ _ _ => true
  | _ => false
structure RS (c : DC) (K : PySem.W.Frag) (ρ : Ev) (Z : AP) (σ : L2.St) (H : Hp) (fo : Nat → AP) : Prop where
  len : ρ.length = σ.length
  val : ∀ i d, ρ[i]? = some (some d) → ∃ v, σ[i]? = some (some v) ∧ Ow K Z H (c.ks.getD i 0) d v (fo i)
  dis : ∀ i j b, fo i b → fo j b → i = j
  own : ∀ b, Z b → ∃ o, H b = some o ∧ mutO o = true
  sub : ∀ i b, fo i b → Z b ∧ (c.M b ∨ c.Hi b = none)
  e1 : ∀ b o, c.Hi b = some o → ¬ c.M b → H b = some o
  dm : ∀ b, H b = none → c.Hi b = none
  e2 : ∀ b, Z b → c.Zi b ∨ c.Hi b = none
  e3 : ∀ b, c.Zi b → ¬ c.M b → Z b
  zi : ∀ b, c.Zi b → c.Hi b ≠ none
  pin : ∀ i ∈ c.pl, σ[i]? = c.pv i
/-- one step of the program: only what slots own changes -/
structure Stp (fo : Nat → AP) (Z : AP) (H : Hp) (fo' : Nat → AP) (Z' : AP) (H' : Hp) : Prop where
  k1 : ∀ b o, H b = some o → (∀ i, ¬ fo i b) → H' b = some o
  k2 : ∀ b, Z' b → Z b ∨ H b = none ∨ ∃ i, fo i b
  k3 : ∀ b, Z b → H b ≠ none → (∀ i, ¬ fo i b) → Z' b
  k4 : ∀ i b, fo' i b → (∃ j, fo j b) ∨ H b = none
section
variable {fo fo' fo'' : Nat → AP} {Z Z' Z'' : AP} {H H' H'' : Hp}
theorem Stp.refl : Stp fo Z H fo Z H := ⟨fun _ _ h _ => h, fun _ h => .inl h, fun _ h _ _ => h, fun i _ h => .inl ⟨i, h⟩⟩
theorem Stp.same (s : Same H H') : Stp fo Z H fo Z H' := ⟨fun b o h _ => s b o h, fun _ h => .inl h, fun _ h _ _ => h, fun i _ h => .inl ⟨i, h⟩⟩
theorem Stp.none (s : Stp fo Z H fo' Z' H') {b : Addr} (h : H' b = Option.none) : H b = Option.none ∨ ∃ i, fo i b := by
  by_cases hf : ∃ i, fo i b
  · exact .inr hf
  · refine .inl ?_
    cases e : H b with
    | none => rfl
    | some o =>
      have := s.k1 b o e fun i hi => hf ⟨i, hi⟩
      rw [h] at this; cases this
theorem Stp.nf (s : Stp fo Z H fo' Z' H') {b : Addr} {o : HO} (e : H b = some o) (h : ∀ i, ¬ fo i b) : ∀ i, ¬ fo' i b := fun i hi => by
  rcases s.k4 i b hi with ⟨j, hj⟩ | z
  · exact h j hj
  · rw [z] at e; cases e
theorem Stp.trans (a : Stp fo Z H fo' Z' H') (c : Stp fo' Z' H' fo'' Z'' H'') : Stp fo Z H fo'' Z'' H'' := by
  refine ⟨fun b o h hf => c.k1 b o (a.k1 b o h hf) (a.nf h hf), fun b hb => ?_, fun b hb hn hf => ?_, fun i b hb => ?_⟩
  · rcases c.k2 b hb with z | z | ⟨i, z⟩
    · exact a.k2 b z
    · exact .inr (a.none z)
    · rcases a.k4 i b z with z | z
      · exact .inr (.inr z)
      · exact .inr (.inl z)
  · cases e : H b with
    | none => exact absurd e hn
    | some o =>
      have e1 := a.k1 b o e hf
      exact c.k3 b (a.k3 b hb hn hf) (by rw [e1]; exact fun z => nomatch z) (a.nf e hf)
  · rcases c.k4 i b hb with ⟨j, hj⟩ | z
    · exact a.k4 j b hj
    · exact (a.none z).symm
theorem Stp.s0 {c : DC} {K : PySem.W.Frag} {ρ : Ev} {σ : L2.St} (s : Stp fo Z H fo' Z' H') (R : RS c K ρ Z σ H fo) : Stp0 Z H Z' H' := by
  refine ⟨fun b o h hz => s.k1 b o h fun i hi => hz (R.sub i b hi).1, fun b hb => ?_⟩
  rcases s.k2 b hb with z | z | ⟨i, z⟩
  · exact .inl z
  · exact .inr z
  · exact .inl (R.sub i b z).1
end
section
variable {c : DC} {K : PySem.W.Frag} {ρ : Ev} {Z Z' : AP} {σ : L2.St} {H H' : Hp} {fo : Nat → AP}
theorem RS.same (s : Same H H') (r : RS c K ρ Z σ H fo) : RS c K ρ Z σ H' fo :=
  { r with
    val := fun i d h => let ⟨v, h1, h2⟩ := r.val i d h; ⟨v, h1, h2.same s⟩
    own := fun b hb => let ⟨o, h1, h2⟩ := r.own b hb; ⟨o, s b o h1, h2⟩
    e1 := fun b o h1 h2 => s b o (r.e1 b o h1 h2)
    dm := fun b h => r.dm b (s.free h) }
theorem same_upd {H : Hp} {p : Addr} {o : HO} (h : H p = none) : Same H (upd H p o) := fun b x e => by
  rw [upd_ne (ne_of_none e h)]
  exact e
theorem RS.ownN (r : RS c K ρ Z σ H fo) : ∀ b, Z b → H b ≠ none := fun b hb z => by
  obtain ⟨o, h1, _⟩ := r.own b hb
  rw [z] at h1; cases h1
theorem RS.nz {p : Addr} (r : RS c K ρ Z σ H fo) (h : H p = none) : ¬ Z p := fun z => r.ownN p z h
theorem RS.notup (r : RS c K ρ Z σ H fo) : ∀ b u, Z b → H b ≠ some (.tup u) := fun b u hb h => by
  obtain ⟨o, h1, h2⟩ := r.own b hb
  rw [h1] at h; cases h; cases h2
/-- a slot of level 0 set to shared data -/
theorem npl {l : List Nat} {i : Nat} (h : l.contains i = false) : i ∉ l := fun z => by
  rw [List.contains_iff_mem.mpr z] at h
  cases h
theorem RS.set {i : Nat} {d : D} {v : V} (r : RS c K ρ Z σ H fo) (hk : c.ks.getD i 0 = 0) (hp0 : c.pl.contains i = false) (h : Sh K Z H d v) : RS c K (ρ.set i (some d)) Z (σ.set i (some v)) H fo := by
  have hp := npl hp0
  refine { r with len := by rw [List.length_set, List.length_set]; exact r.len, val := fun j e he => ?_, pin := fun j hj => ?_ }
  · by_cases q : i = j
    · subst q
      by_cases hl : i < ρ.length
      · rw [List.getElem?_set_self hl] at he
        have e1 : d = e := Option.some.inj (Option.some.inj he)
        subst e1
        exact ⟨v, List.getElem?_set_self (r.len ▸ hl), by rw [hk]; exact h⟩
      · rw [List.getElem?_eq_none (by simpa using hl)] at he; cases he
    · rw [List.getElem?_set_ne q] at he
      obtain ⟨w, h1, h2⟩ := r.val j e he
      exact ⟨w, by rw [List.getElem?_set_ne q]; exact h1, h2⟩
  · rw [List.getElem?_set_ne (fun (e : i = j) => hp (by rw [e]; exact hj))]
    exact r.pin j hj
/-- a slot forgotten -/
theorem RS.unset (r : RS c K ρ Z σ H fo) (i : Nat) : RS c K (ρ.set i none) Z σ H fo := by
  refine { r with len := by rw [List.length_set]; exact r.len, val := fun j e he => ?_ }
  by_cases q : i = j
  · subst q
    by_cases hl : i < ρ.length
    · rw [List.getElem?_set_self hl] at he; cases he
    · rw [List.getElem?_eq_none (by simpa using hl)] at he; cases he
  · rw [List.getElem?_set_ne q] at he
    exact r.val j e he
end

/-! ### judgements: expressions -/
def Rp (K : PySem.W.Frag) (b : Bool) (Z : AP) (H : Hp) (d : D) (v : V) : Prop := Sh K (if b = true then Z0 else Z) H d v
def Rps (K : PySem.W.Frag) (b : Bool) (Z : AP) (H : Hp) (ds : List D) (vs : List V) : Prop := Shs K (if b = true then Z0 else Z) H ds vs
/-- f reads the expression: q: it changes nothing; b: what it gives is only borrowed -/
def tD (c : DC) (K : PySem.W.Frag) (q b : Bool) (f : Ev → Res (D × Ev)) : TE := fun σ H Q => ∃ ρ Z fo, RS c K ρ Z σ H fo ∧ ∃ d ρ', f ρ = .ok (d, ρ') ∧
  ∀ v H' Z' fo', RS c K ρ' Z' σ H' fo' → Stp fo Z H fo' Z' H' → (q = true → Same H H') → Rp K b Z' H' d v → Q v H'
def tDs (c : DC) (K : PySem.W.Frag) (q b : Bool) (n : Nat) (f : Ev → Res (List D × Ev)) : TA := fun σ H Q => ∃ ρ Z fo, RS c K ρ Z σ H fo ∧ ∃ ds ρ', f ρ = .ok (ds, ρ') ∧
  ∀ vs H' Z' fo', RS c K ρ' Z' σ H' fo' → Stp fo Z H fo' Z' H' → (q = true → Same H H') → vs.length = n → Rps K b Z' H' ds vs → Q vs H'
def tT (c : DC) (K : PySem.W.Frag) (q : Bool) (f : Ev → Res (Bool × Ev)) : TT := fun σ H Q => ∃ ρ Z fo, RS c K ρ Z σ H fo ∧ ∃ k ρ', f ρ = .ok (k, ρ') ∧
  ∀ H' Z' fo', RS c K ρ' Z' σ H' fo' → Stp fo Z H fo' Z' H' → (q = true → Same H H') → Q k H'
structure DE (X : Cx) (c : DC) (q b : Bool) (e : Expr) (f : Ev → Res (D × Ev)) : Prop where
  pe : PE X e (tD c X.K q b f)
structure DAs (X : Cx) (c : DC) (q b : Bool) (es : List Expr) (f : Ev → Res (List D × Ev)) : Prop where
  pa : PA X es (tDs c X.K q b es.length f)
structure DT (X : Cx) (c : DC) (q : Bool) (e : Expr) (f : Ev → Res (Bool × Ev)) : Prop where
  pt : PT X e (tT c X.K q f)
theorem PE.imp {X : Cx} {e : Expr} {t u : TE} (h : PE X e t) (k : ∀ σ H Q, u σ H Q → t σ H Q) : PE X e u := ⟨fun pins s σ H Q I q => h.run pins s σ H Q I (k _ _ _ q)⟩
theorem PT.imp {X : Cx} {e : Expr} {t u : TT} (h : PT X e t) (k : ∀ σ H Q, u σ H Q → t σ H Q) : PT X e u := ⟨fun pins s σ H Q I q => h.run pins s σ H Q I (k _ _ _ q)⟩
theorem PA.imp {X : Cx} {es : List Expr} {t u : TA} (h : PA X es t) (k : ∀ σ H Q, u σ H Q → t σ H Q) : PA X es u := ⟨fun pos pins s σ H Q I q => h.run pos pins s σ H Q I (k _ _ _ q)⟩
theorem PS.imp {X : Cx} {e : Stmt} {t u : TS} (h : PS X e t) (k : ∀ D σ H, u D σ H → t D σ H) : PS X e u := ⟨fun pins s σ H D I q => h.run pins s σ H D I (k _ _ _ q)⟩
theorem PSs.imp {X : Cx} {e : List Stmt} {t u : TS} (h : PSs X e t) (k : ∀ D σ H, u D σ H → t D σ H) : PSs X e u := ⟨fun pins s σ H D I q => h.run pins s σ H D I (k _ _ _ q)⟩
/-- what a borrowed or shared value keeps behind a later expression -/
theorem Rp.keep {c : DC} {K : PySem.W.Frag} {ρ : Ev} {σ : L2.St} {fo fo' : Nat → AP} {b q : Bool} {Z Z' : AP} {H H' : Hp} {d : D} {v : V} (R : RS c K ρ Z σ H fo) (hq : b = true → q = true) (s : Stp fo Z H fo' Z' H') (sm : q = true → Same H H') (h : Rp K b Z H d v) : Rp K b Z' H' d v := by
  cases b with
  | false => exact Sh.stp (s.s0 R) h
  | true => exact Sh.same (sm (hq rfl)) h
theorem Rps.keep {c : DC} {K : PySem.W.Frag} {ρ : Ev} {σ : L2.St} {fo fo' : Nat → AP} {b q : Bool} {Z Z' : AP} {H H' : Hp} {d : List D} {v : List V} (R : RS c K ρ Z σ H fo) (hq : b = true → q = true) (s : Stp fo Z H fo' Z' H') (sm : q = true → Same H H') (h : Rps K b Z H d v) : Rps K b Z' H' d v := by
  cases b with
  | false => exact Shs.stp (s.s0 R) h
  | true => exact Shs.same (sm (hq rfl)) h
theorem zb_own {b : Bool} {Z : AP} {H : Hp} (h : ∀ a, Z a → H a ≠ none) : ∀ a, (if b = true then Z0 else Z) a → H a ≠ none := by
  cases b with
  | false => exact h
  | true => exact fun a z => z.elim

section
variable {X : Cx} {c : DC} {q b : Bool}
/-! names, constants -/
def dVar (i : Nat) (ρ : Ev) : Res (D × Ev) := match ρ[i]? with
  | some (some d) => .ok (d, ρ)
  | _ => .err
theorem dVar_ok {i : Nat} {ρ ρ' : Ev} {d : D} (h : dVar i ρ = .ok (d, ρ')) : ρ[i]? = some (some d) ∧ ρ' = ρ := by
  unfold dVar at h
  split at h
  · rename_i e he
    have h2 := Res.ok.inj h
    cases h2
    exact ⟨he, rfl⟩
  · cases h
theorem de_var (i : Nat) {x : Str} {pos : Pos} (hk : c.ks.getD i 0 = 0 := by rfl) (hN : X.N[i]? = some x := by rfl) (hv : Vis X.env.scope x := by first | exact Or.inl rfl | exact Or.inr (Or.inl rfl) | exact Or.inr (Or.inr rfl)) (hd : (x == ("__debug__" : Str)) = false := by decide)
    (hcd : (x == ("__classdict__" : Str)) = false := by decide) : DE X c q false (.Name x pos) (dVar i) := ⟨by
  refine PE.imp (pe_var hN hv hd hcd) fun σ H Q ⟨ρ, Z, fo, R, d, ρ', hf, k⟩ => ?_
  obtain ⟨e, rfl⟩ := dVar_ok hf
  obtain ⟨v, h1, h2⟩ := R.val i d e
  rw [hk] at h2
  exact ⟨v, h1, k v H Z fo R Stp.refl (fun _ => Same.refl H) h2⟩⟩
/-- a name of any level, borrowed -/
theorem de_bor (i : Nat) {x : Str} {pos : Pos} (hN : X.N[i]? = some x := by rfl) (hv : Vis X.env.scope x := by first | exact Or.inl rfl | exact Or.inr (Or.inl rfl) | exact Or.inr (Or.inr rfl)) (hd : (x == ("__debug__" : Str)) = false := by decide)
    (hcd : (x == ("__classdict__" : Str)) = false := by decide) : DE X c q true (.Name x pos) (dVar i) := ⟨by
  refine PE.imp (pe_var hN hv hd hcd) fun σ H Q ⟨ρ, Z, fo, R, d, ρ', hf, k⟩ => ?_
  obtain ⟨e, rfl⟩ := dVar_ok hf
  obtain ⟨v, h1, h2⟩ := R.val i d e
  exact ⟨v, h1, k v H Z fo R Stp.refl (fun _ => Same.refl H) h2.cur⟩⟩
/-- a name of an owned list, given up: it is shared from here on, the slot is empty -/
def dTake (i : Nat) (ρ : Ev) : Res (D × Ev) := match ρ[i]? with
  | some (some d) => .ok (d, ρ.set i none)
  | _ => .err
theorem dTake_ok {i : Nat} {ρ ρ' : Ev} {d : D} (h : dTake i ρ = .ok (d, ρ')) : ρ[i]? = some (some d) ∧ ρ' = ρ.set i none := by
  unfold dTake at h
  split at h
  · rename_i e he
    have h2 := Res.ok.inj h
    cases h2
    exact ⟨he, rfl⟩
  · cases h
theorem RS.give {K : PySem.W.Frag} {ρ : Ev} {Z : AP} {σ : L2.St} {H : Hp} {fo : Nat → AP} {i : Nat} {d : D} (R : RS c K ρ Z σ H fo) (e : ρ[i]? = some (some d)) :
    ∃ v, σ[i]? = some (some v) ∧ RS c K (ρ.set i none) (fun b => Z b ∧ ¬ fo i b) σ H (fun j b => fo j b ∧ j ≠ i) ∧ Stp fo Z H (fun j b => fo j b ∧ j ≠ i) (fun b => Z b ∧ ¬ fo i b) H ∧ Sh K (fun b => Z b ∧ ¬ fo i b) H d v := by
  obtain ⟨v, h1, h2⟩ := R.val i d e
  have st : Stp0 Z H (fun b => Z b ∧ ¬ fo i b) H := ⟨fun _ _ h _ => h, fun b hb => .inl hb.1⟩
  refine ⟨v, h1, ?_, ⟨fun _ _ h _ => h, fun b hb => .inl hb.1, fun b hb _ hf => ⟨hb, hf i⟩, fun j b hb => .inl ⟨j, hb.1⟩⟩, Ow.frz (P := fo i) (fun b z => z) (fun b z => z) h2⟩
  refine { R with len := by rw [List.length_set]; exact R.len, val := fun j e he => ?_, dis := fun i j b h1 h2 => R.dis i j b h1.1 h2.1, own := fun b hb => R.own b hb.1, sub := fun j b hj => ⟨⟨(R.sub j b hj.1).1, fun z => hj.2 (R.dis j i b hj.1 z)⟩, (R.sub j b hj.1).2⟩, e2 := fun b hb => R.e2 b hb.1, e3 := fun b h1 h2 => ⟨R.e3 b h1 h2, fun z => ?_⟩ }
  · by_cases q : i = j
    · subst q
      by_cases hl : i < ρ.length
      · rw [List.getElem?_set_self hl] at he; cases he
      · rw [List.getElem?_eq_none (by simpa using hl)] at he; cases he
    · rw [List.getElem?_set_ne q] at he
      obtain ⟨w, h3, h4⟩ := R.val j e he
      refine ⟨w, h3, Ow.more (P := fo j) (fun b hb => ⟨hb, fun z => q z.symm⟩) (Ow.keep (fun d v s => s.stp st) _ e w (fo j) (fun b hb hz hn => ⟨rfl, hz, fun z => q (R.dis i j b z hb)⟩) h4)⟩
  · rcases (R.sub i b z).2 with z2 | z2
    · exact h2 z2
    · exact R.zi b h1 z2
theorem de_take (i : Nat) {x : Str} {pos : Pos} (hN : X.N[i]? = some x := by rfl) (hv : Vis X.env.scope x := by first | exact Or.inl rfl | exact Or.inr (Or.inl rfl) | exact Or.inr (Or.inr rfl)) (hd : (x == ("__debug__" : Str)) = false := by decide)
    (hcd : (x == ("__classdict__" : Str)) = false := by decide) : DE X c q false (.Name x pos) (dTake i) := ⟨by
  refine PE.imp (pe_var hN hv hd hcd) fun σ H Q ⟨ρ, Z, fo, R, d, ρ', hf, k⟩ => ?_
  obtain ⟨e, rfl⟩ := dTake_ok hf
  obtain ⟨v, h1, R2, st, s⟩ := R.give e
  exact ⟨v, h1, k v H _ _ R2 st (fun _ => Same.refl H) s⟩⟩
/-- shared may be read as borrowed -/
theorem de_b {e : Expr} {f : Ev → Res (D × Ev)} (h : DE X c q false e f) : DE X c q true e f := ⟨by
  refine PE.imp h.pe fun σ H Q ⟨ρ, Z, fo, R, d, ρ', hf, k⟩ => ⟨ρ, Z, fo, R, d, ρ', hf, fun v H' Z' fo' R' st sm s => k v H' Z' fo' R' st sm (Sh.cur s)⟩⟩
/-- a quiet one is one -/
theorem de_q {e : Expr} {f : Ev → Res (D × Ev)} (h : DE X c true b e f) : DE X c false b e f := ⟨by
  refine PE.imp h.pe fun σ H Q ⟨ρ, Z, fo, R, d, ρ', hf, k⟩ => ⟨ρ, Z, fo, R, d, ρ', hf, fun v H' Z' fo' R' st sm s => k v H' Z' fo' R' st (fun z => nomatch z) s⟩⟩
/-! no list within: borrowed is shared -/
mutual
def D.calm : D → Bool
  | .tup ds => D.calms ds
  | .lst _ => false
  | _ => true
def D.calms : List D → Bool
  | [] => true
  | d :: ds => d.calm && D.calms ds
end
end
end DL
/-! operators, comparisons, tests, displays, subscripts, built-in calls -/
namespace DL
open PySem PySem.Spec PyProof.Rows L2

/-! ### operators by values -/
/-- the pure operator g tells what the rule r asks -/
def OpD (K : PySem.W.Frag) (r : R2) (g : D → D → Res D) : Prop := ∀ (Z : AP) (H : Hp) (d e z : D) (x y : V) (Q : VK), (∀ a, Z a → H a ≠ none) → Sh K Z H d x → Sh K Z H e y → g d e = .ok z →
  (∀ v H', Same H H' → Sh K Z H' z v → Q v H') → r x y H Q
def UnD (K : PySem.W.Frag) (r : V → Hp → VK → Prop) (g : D → Res D) : Prop := ∀ (Z : AP) (H : Hp) (d z : D) (x : V) (Q : VK), (∀ a, Z a → H a ≠ none) → Sh K Z H d x → g d = .ok z →
  (∀ v H', Same H H' → Sh K Z H' z v → Q v H') → r x H Q
def CallD (K : PySem.W.Frag) (r : List V → Hp → VK → Prop) (g : List D → Res D) : Prop := ∀ (Z : AP) (H : Hp) (ds : List D) (z : D) (xs : List V) (Q : VK), (∀ a, Z a → H a ≠ none) → Shs K Z H ds xs → g ds = .ok z →
  (∀ v H', Same H H' → Sh K Z H' z v → Q v H') → r xs H Q
def dOp (g : D → D → Res D) (fa fb : Ev → Res (D × Ev)) (ρ : Ev) : Res (D × Ev) := (fa ρ).bind fun p => (fb p.2).bind fun r => (g p.1 r.1).bind fun z => .ok (z, r.2)
def dUn (g : D → Res D) (fa : Ev → Res (D × Ev)) (ρ : Ev) : Res (D × Ev) := (fa ρ).bind fun p => (g p.1).bind fun z => .ok (z, p.2)
def dConst (d : D) (ρ : Ev) : Res (D × Ev) := .ok (d, ρ)
section
variable {X : Cx} {c : DC} {q b : Bool} {a e : Expr} {fa fb : Ev → Res (D × Ev)} {pos : Pos}
theorem tOpD {K : PySem.W.Frag} {r : R2} {g : D → D → Res D} (h : OpD K r g) (hq : b = true → q = true) {σ : L2.St} {H : Hp} {Q : VK} (t : tD c K q b (dOp g fa fb) σ H Q) : tOp r (tD c K q b fa) (tD c K q b fb) σ H Q := by
  obtain ⟨ρ, Z, fo, R, d, ρ', hf, k⟩ := t
  obtain ⟨⟨d1, ρ1⟩, h1, hf⟩ := Res.bind_ok hf
  obtain ⟨⟨d2, ρ2⟩, h2, hf⟩ := Res.bind_ok hf
  obtain ⟨z, h3, hf⟩ := Res.bind_ok hf
  cases hf
  refine ⟨ρ, Z, fo, R, d1, ρ1, h1, fun x H1 Z1 fo1 R1 s1 m1 p1 => ⟨ρ1, Z1, fo1, R1, d2, ρ2, h2, fun y H2 Z2 fo2 R2 s2 m2 p2 => ?_⟩⟩
  refine h _ H2 d1 d2 _ x y Q (zb_own R2.ownN) (Rp.keep R1 hq s2 m2 p1) p2 h3 fun v H3 sm p3 => ?_
  exact k v H3 Z2 fo2 (R2.same sm) ((s1.trans s2).trans (Stp.same sm)) (fun hq => ((m1 hq).trans (m2 hq)).trans sm) p3
theorem de_op {op : Operator} {r : R2} {g : D → D → Res D} (ho : OpR X (binaryOp op) r) (h : OpD X.K r g) (ha : DE X c q b a fa) (hb : DE X c q b e fb) (hq : b = true → q = true := by decide) : DE X c q b (.BinOp a op e pos) (dOp g fa fb) :=
  ⟨PE.imp (pe_op ho ha.pe hb.pe) fun _ _ _ t => tOpD h hq t⟩
theorem de_cmp {op : CmpOp} {r : R2} {g : D → D → Res D} (ho : OpR X (compareOp op) r) (h : OpD X.K r g) (ha : DE X c q b a fa) (hb : DE X c q b e fb) (hm : behindInMarks op e = false) (hq : b = true → q = true := by decide) : DE X c q b (.Compare a [op] [e] pos) (dOp g fa fb) :=
  ⟨PE.imp (pe_cmpR ho ha.pe hb.pe hm) fun _ _ _ t => tOpD h hq t⟩
theorem de_ix {r : R2} {g : D → D → Res D} (ho : IxR X r) (h : OpD X.K r g) (ha : DE X c q b a fa) (hb : DE X c q b e fb) (hs : PlainIx e := by intro _ _; rfl) (hq : b = true → q = true := by decide) : DE X c q b (.Subscript a e pos) (dOp g fa fb) :=
  ⟨PE.imp (pe_ix ho ha.pe hb.pe hs) fun _ _ _ t => tOpD h hq t⟩
theorem de_un {op : UnaryOp} {r : V → Hp → VK → Prop} {g : D → Res D} (ho : UnR X (unaryOp op) r) (h : UnD X.K r g) (ha : DE X c q b a fa) : DE X c q b (.UnaryOp op a pos) (dUn g fa) := ⟨by
  refine PE.imp (pe_un ho ha.pe) fun σ H Q ⟨ρ, Z, fo, R, d, ρ', hf, k⟩ => ?_
  obtain ⟨⟨d1, ρ1⟩, h1, hf⟩ := Res.bind_ok hf
  obtain ⟨z, h3, hf⟩ := Res.bind_ok hf
  cases hf
  refine ⟨ρ, Z, fo, R, d1, ρ1, h1, fun x H1 Z1 fo1 R1 s1 m1 p1 => ?_⟩
  exact h _ H1 d1 _ x Q (zb_own R1.ownN) p1 h3 fun v H3 sm p3 => k v H3 Z1 fo1 (R1.same sm) (s1.trans (Stp.same sm)) (fun hq => (m1 hq).trans sm) p3⟩
/-- constants -/
theorem de_const {e : Expr} {d : D} {v : V} (h : PE X e (tC v)) (hs : ∀ K Z H, Sh K Z H d v) : DE X c q b e (dConst d) := ⟨by
  refine PE.imp h fun σ H Q ⟨ρ, Z, fo, R, d, ρ', hf, k⟩ => ?_
  cases hf
  exact k v H Z fo R Stp.refl (fun _ => Same.refl H) (hs _ _ _)⟩
theorem de_int {i : Int} {j pos} : DE X c q b (.Constant (.int i) j pos) (dConst (.int i)) := de_const pe_int fun _ _ _ => rfl
theorem de_str {x : PySem.Str} {j pos} : DE X c q b (.Constant (.str x) j pos) (dConst (.str x)) := de_const pe_str fun _ _ _ => rfl
theorem de_bl {x : Bool} {j pos} : DE X c q b (.Constant (.bool x) j pos) (dConst (.bl x)) := de_const pe_bl fun _ _ _ => rfl
theorem de_non {j pos} : DE X c q b (.Constant .none j pos) (dConst .non) := de_const pe_non fun _ _ _ => rfl
/-- borrowed and without a list: shared -/
def dCalm (f : Ev → Res (D × Ev)) (ρ : Ev) : Res (D × Ev) := (f ρ).bind fun p => if p.1.calm = true then .ok p else .err
mutual
theorem Sh.calm {K : PySem.W.Frag} {Z : AP} {H : Hp} (hz : ∀ b u, Z b → H b ≠ some (.tup u)) : ∀ (d : D) (v : V), d.calm = true → Sh K Z0 H d v → Sh K Z H d v
  | .non, _, _, h => h
  | .bl _, _, _, h => h
  | .int _, _, _, h => h
  | .str _, _, _, h => h
  | .fn _, _, _, h => h
  | .ty _, _, _, h => h
  | .lst _, _, hc, _ => by cases hc
  | .tup ds, _, hc, ⟨a, vs, e, r, s⟩ => by
    refine ⟨a, vs, e, ?_, Shs.calm hz ds vs hc s⟩
    rcases r with ⟨r, _⟩ | r
    · exact .inl ⟨r, fun z => hz a vs z r⟩
    · exact .inr r
theorem Shs.calm {K : PySem.W.Frag} {Z : AP} {H : Hp} (hz : ∀ b u, Z b → H b ≠ some (.tup u)) : ∀ (ds : List D) (vs : List V), D.calms ds = true → Shs K Z0 H ds vs → Shs K Z H ds vs
  | [], _, _, h => h
  | d :: ds, _, hc, ⟨v, r, e, s1, s2⟩ => by
    have hc' : (d.calm && D.calms ds) = true := hc
    rw [Bool.and_eq_true] at hc'
    exact ⟨v, r, e, Sh.calm hz d v hc'.1 s1, Shs.calm hz ds r hc'.2 s2⟩
end
theorem de_calm {f : Ev → Res (D × Ev)} (h : DE X c q true e f) : DE X c q false e (dCalm f) := ⟨by
  refine PE.imp h.pe fun σ H Q ⟨ρ, Z, fo, R, d, ρ', hf, k⟩ => ?_
  obtain ⟨⟨d1, ρ1⟩, h1, hf⟩ := Res.bind_ok hf
  by_cases hc : d1.calm = true
  · rw [if_pos hc] at hf
    cases hf
    exact ⟨ρ, Z, fo, R, _, _, h1, fun v H1 Z1 fo1 R1 s1 m1 p1 => k v H1 Z1 fo1 R1 s1 m1 (Sh.calm R1.notup _ v hc p1)⟩
  · rw [if_neg hc] at hf
    cases hf⟩

/-! ### lists of expressions, displays -/
def dNil (ρ : Ev) : Res (List D × Ev) := .ok ([], ρ)
def dCons (f : Ev → Res (D × Ev)) (g : Ev → Res (List D × Ev)) (ρ : Ev) : Res (List D × Ev) := (f ρ).bind fun p => (g p.2).bind fun r => .ok (p.1 :: r.1, r.2)
theorem das_nil : DAs X c q b [] dNil := ⟨by
  refine PA.imp pa_nil fun σ H Q ⟨ρ, Z, fo, R, ds, ρ', hf, k⟩ => ?_
  cases hf
  exact k [] H Z fo R Stp.refl (fun _ => Same.refl H) rfl rfl⟩
theorem das_cons {es : List Expr} {f : Ev → Res (D × Ev)} {g : Ev → Res (List D × Ev)} (ha : DE X c q b a f) (hr : DAs X c q b es g) (hq : b = true → q = true := by decide)
    (hs : starEach (a :: es) X.env = (false, eval a X.env) :: starEach es X.env := by rfl) : DAs X c q b (a :: es) (dCons f g) := ⟨by
  refine PA.imp (pa_cons ha.pe hr.pa hs) fun σ H Q ⟨ρ, Z, fo, R, ds, ρ', hf, k⟩ => ?_
  obtain ⟨⟨d1, ρ1⟩, h1, hf⟩ := Res.bind_ok hf
  obtain ⟨⟨d2, ρ2⟩, h2, hf⟩ := Res.bind_ok hf
  cases hf
  refine ⟨ρ, Z, fo, R, d1, ρ1, h1, fun x H1 Z1 fo1 R1 s1 m1 p1 => ⟨ρ1, Z1, fo1, R1, d2, ρ2, h2, fun xs H2 Z2 fo2 R2 s2 m2 l2 p2 => ?_⟩⟩
  exact k (x :: xs) H2 Z2 fo2 R2 (s1.trans s2) (fun hq => (m1 hq).trans (m2 hq)) (by rw [List.length_cons, List.length_cons, l2]) ⟨x, xs, rfl, Rp.keep R1 hq s2 m2 p1, p2⟩⟩
def dTup (g : Ev → Res (List D × Ev)) (ρ : Ev) : Res (D × Ev) := (g ρ).bind fun p => .ok (.tup p.1, p.2)
theorem sizeLine_ge {n : Nat} (h : n ≤ 16777216) : n ≤ sizeLine := by rw [sizeLine_eq]; exact h
theorem zb_nz {b : Bool} {Z : AP} {p : Addr} (h : ¬ Z p) : ¬ (if b = true then Z0 else Z) p := by
  cases b with
  | false => exact h
  | true => exact fun z => z
theorem de_tup {es : List Expr} {k} {g : Ev → Res (List D × Ev)} (ha : DAs X c q b es g) (hl : es.length ≤ 16777216 := by decide) : DE X c q b (.Tuple es k pos) (dTup g) := ⟨by
  refine PE.imp (pe_tup ha.pa) fun σ H Q ⟨ρ, Z, fo, R, ds, ρ', hf, k⟩ => ?_
  obtain ⟨⟨d1, ρ1⟩, h1, hf⟩ := Res.bind_ok hf
  cases hf
  refine ⟨ρ, Z, fo, R, _, _, h1, fun xs H1 Z1 fo1 R1 s1 m1 l1 p1 => ⟨sizeLine_ge (by omega), fun p hp => ?_⟩⟩
  have sm : Same H1 (upd H1 p (.tup xs)) := same_upd hp
  exact k _ _ Z1 fo1 (R1.same sm) (s1.trans (Stp.same sm)) (fun hq => (m1 hq).trans sm) ⟨p, xs, rfl, RdT.new upd_same (zb_nz (R1.nz hp)), Shs.same sm p1⟩⟩
/-! a fresh list of the program's own: its addresses are new, or were a slot's -/
structure FrR (c : DC) (K : PySem.W.Frag) (fo0 : Nat → AP) (H0 : Hp) (fo : Nat → AP) (Z : AP) (H : Hp) (n : Nat) (d : D) (v : V) : Prop where
  ex : ∃ P : AP, Ow K Z H (n + 1) d v P ∧ (∀ b, P b → Z b ∧ (c.M b ∨ c.Hi b = none)) ∧ (∀ i b, P b → ¬ fo i b) ∧ ∀ b, P b → (∃ j, fo0 j b) ∨ H0 b = none
def tF (c : DC) (K : PySem.W.Frag) (n : Nat) (f : Ev → Res (D × Ev)) : TE := fun σ H Q => ∃ ρ Z fo, RS c K ρ Z σ H fo ∧ ∃ d ρ', f ρ = .ok (d, ρ') ∧
  ∀ v H' Z' fo', RS c K ρ' Z' σ H' fo' → Stp fo Z H fo' Z' H' → FrR c K fo H fo' Z' H' n d v → Q v H'
structure DF (X : Cx) (c : DC) (n : Nat) (e : Expr) (f : Ev → Res (D × Ev)) : Prop where
  pe : PE X e (tF c X.K n f)
theorem FrR.back {K : PySem.W.Frag} {fo0 fo1 fo : Nat → AP} {Z0 Z1 Z : AP} {H0 H1 H : Hp} {n : Nat} {d : D} {v : V} (s : Stp fo0 Z0 H0 fo1 Z1 H1) (h : FrR c K fo1 H1 fo Z H n d v) : FrR c K fo0 H0 fo Z H n d v := by
  obtain ⟨P, h1, h2, h3, h4⟩ := h.ex
  refine ⟨P, h1, h2, h3, fun b hb => ?_⟩
  rcases h4 b hb with ⟨j, hj⟩ | z
  · exact s.k4 j b hj
  · exact (s.none z).symm
/-- an address that was free is owned from here on -/
theorem RS.take {K : PySem.W.Frag} {ρ : Ev} {Z : AP} {σ : L2.St} {H : Hp} {fo : Nat → AP} {p : Addr} {vs : List V} (R : RS c K ρ Z σ H fo) (hp : H p = none) :
    RS c K ρ (fun b => Z b ∨ b = p) σ (upd H p (.lst vs)) fo ∧ Stp fo Z H fo (fun b => Z b ∨ b = p) (upd H p (.lst vs)) := by
  have sm : Same H (upd H p (.lst vs)) := same_upd hp
  have st : Stp0 Z H (fun b => Z b ∨ b = p) (upd H p (.lst vs)) := ⟨fun b o h _ => sm b o h, fun b hb => hb.elim .inl fun e => .inr (e ▸ hp)⟩
  have R1 := R.same sm
  refine ⟨{ R1 with val := fun i d h => ?_, own := fun b hb => ?_, sub := fun i b hb => ⟨.inl (R.sub i b hb).1, (R.sub i b hb).2⟩, e2 := fun b hb => ?_, e3 := fun b h1 h2 => .inl (R.e3 b h1 h2) },
    ⟨fun b o h _ => sm b o h, fun b hb => hb.elim .inl fun e => .inr (.inl (e ▸ hp)), fun b hb _ _ => .inl hb, fun i b hb => .inl ⟨i, hb⟩⟩⟩
  · obtain ⟨v, h1, h2⟩ := R.val i d h
    refine ⟨v, h1, Ow.keep (fun d v s => s.stp st) _ d v (fo i) (fun b hb hz hn => ⟨?_, .inl hz⟩) h2⟩
    rw [upd_ne]
    intro e
    rw [e] at hn
    exact hn hp
  · rcases hb with hb | hb
    · exact R1.own b hb
    · exact ⟨.lst vs, by rw [hb]; exact upd_same, rfl⟩
  · rcases hb with hb | hb
    · exact R.e2 b hb
    · rw [hb]
      exact .inr (R.dm p hp)
/-- a new list of shared items -/
theorem FrR.new {K : PySem.W.Frag} {ρ : Ev} {Z : AP} {σ : L2.St} {H : Hp} {fo : Nat → AP} {p : Addr} {ds : List D} {vs : List V} (R : RS c K ρ Z σ H fo) (hp : H p = none) (h : Shs K Z H ds vs) :
    FrR c K fo H fo (fun b => Z b ∨ b = p) (upd H p (.lst vs)) 0 (.lst ds) (.ref p) := by
  obtain ⟨R1, st⟩ := R.take (vs := vs) hp
  refine ⟨fun b => b = p, ⟨p, vs, rfl, rfl, .inr rfl, upd_same, h.len, fun _ _ => False, fun _ _ z => z.elim, fun _ _ _ z _ => z.elim, fun i d v h1 h2 => ?_⟩, fun b hb => ⟨.inr hb, .inr (by rw [hb]; exact R.dm p hp)⟩, fun i b hb z => ?_, fun b hb => .inr (by rw [hb]; exact hp)⟩
  · obtain ⟨w, h3, h4⟩ := (h.stp (st.s0 R)).get h1
    rw [h3] at h2
    cases h2
    exact h4
  · rw [hb] at z
    exact R.nz hp (R.sub i p z).1
def dLst (g : Ev → Res (List D × Ev)) (ρ : Ev) : Res (D × Ev) := (g ρ).bind fun p => .ok (.lst p.1, p.2)
theorem df_lst {es : List Expr} {g : Ev → Res (List D × Ev)} (ha : DAs X c false false es g) (hl : es.length ≤ 16777216 := by decide) : DF X c 0 (.List es pos) (dLst g) := ⟨by
  refine PE.imp (pe_lst ha.pa) fun σ H Q ⟨ρ, Z, fo, R, ds, ρ', hf, k⟩ => ?_
  obtain ⟨⟨d1, ρ1⟩, h1, hf⟩ := Res.bind_ok hf
  cases hf
  refine ⟨ρ, Z, fo, R, _, _, h1, fun xs H1 Z1 fo1 R1 s1 m1 l1 p1 => ⟨sizeLine_ge (by omega), fun p hp => ?_⟩⟩
  obtain ⟨R2, st⟩ := R1.take (vs := xs) hp
  exact k _ _ _ fo1 R2 (s1.trans st) ((FrR.new R1 hp p1).back s1)⟩
/-- a fresh list, taken as shared data -/
theorem RS.freeze {K : PySem.W.Frag} {ρ : Ev} {Z Z0 : AP} {σ : L2.St} {H H0 : Hp} {fo fo0 : Nat → AP} {n : Nat} {d : D} {v : V} (R : RS c K ρ Z σ H fo) (s : Stp fo0 Z0 H0 fo Z H) (h : FrR c K fo0 H0 fo Z H n d v) :
    ∃ Z', RS c K ρ Z' σ H fo ∧ Stp fo0 Z0 H0 fo Z' H ∧ Sh K Z' H d v := by
  obtain ⟨P, h1, h2, h3, h4⟩ := h.ex
  have st : Stp0 Z H (fun b => Z b ∧ ¬ P b) H := ⟨fun _ _ h _ => h, fun b hb => .inl hb.1⟩
  refine ⟨fun b => Z b ∧ ¬ P b, ?_, ⟨s.k1, fun b hb => s.k2 b hb.1, fun b hb hn hf => ⟨s.k3 b hb hn hf, fun z => ?_⟩, s.k4⟩, Ow.frz (P := P) (fun b z => z) (fun b z => z) h1⟩
  refine { R with val := fun i e he => ?_, own := fun b hb => R.own b hb.1, sub := fun i b hb => ⟨⟨(R.sub i b hb).1, fun z => h3 i b z hb⟩, (R.sub i b hb).2⟩, e2 := fun b hb => R.e2 b hb.1, e3 := fun b z1 z2 => ⟨R.e3 b z1 z2, fun z => ?_⟩ }
  · obtain ⟨w, q1, q2⟩ := R.val i e he
    exact ⟨w, q1, Ow.keep (fun d v s => s.stp st) _ e w (fo i) (fun b hb hz hn => ⟨rfl, hz, fun z => h3 i b z hb⟩) q2⟩
  · rcases (h2 b z).2 with y | y
    · exact z2 y
    · exact R.zi b z1 y
  · rcases h4 b z with ⟨j, hj⟩ | y
    · exact hf j hj
    · exact hn y
theorem de_f {n : Nat} {f : Ev → Res (D × Ev)} (h : DF X c n e f) : DE X c false false e f := ⟨by
  refine PE.imp h.pe fun σ H Q ⟨ρ, Z, fo, R, d, ρ', hf, k⟩ => ⟨ρ, Z, fo, R, d, ρ', hf, fun v H1 Z1 fo1 R1 s1 p1 => ?_⟩
  obtain ⟨Z2, R2, s2, p2⟩ := R1.freeze s1 p1
  exact k v H1 Z2 fo1 R2 s2 (fun z => nomatch z) p2⟩

/-! ### tests -/
/-- truth -/
def gTru : D → Res Bool
  | .non => .ok false
  | .bl b => .ok b
  | .int i => .ok (i != 0)
  | .str x => if x.length ≤ 16777216 then .ok ((x.length : Int) != 0) else .err
  | .tup ds => .ok (!ds.isEmpty)
  | .lst ds => .ok (!ds.isEmpty)
  | .fn _ => .err
  | .ty _ => .err
theorem isEmpty_len {α β : Type} {xs : List α} {ys : List β} (h : xs.length = ys.length) : xs.isEmpty = ys.isEmpty := by
  cases xs <;> cases ys <;> simp at h ⊢
theorem gTru_ok {K : PySem.W.Frag} {Z : AP} {H : Hp} {d : D} {v : V} {k : Bool} (h : Sh K Z H d v) (g : gTru d = .ok k) : TruV K v H k := by
  cases d with
  | non => cases h; cases g; exact (rfl : false = false)
  | bl bb => cases h; cases g; exact (rfl : k = k)
  | int i => cases h; cases g; exact (rfl : (i != 0) = (i != 0))
  | str x =>
    cases h
    have g' : (if x.length ≤ 16777216 then Res.ok ((x.length : Int) != 0) else .err) = .ok k := g
    by_cases hl : x.length ≤ 16777216
    · rw [if_pos hl] at g'
      cases g'
      exact (⟨sizeLine_ge hl, rfl⟩ : x.length ≤ sizeLine ∧ _)
    · rw [if_neg hl] at g'; cases g'
  | tup ds =>
    obtain ⟨a, vs, rfl, r, s⟩ := h
    cases g
    exact .inr (.inl ⟨vs, r.sq, by rw [isEmpty_len s.len]⟩)
  | lst ds =>
    obtain ⟨a, vs, rfl, r, s⟩ := h
    cases g
    exact .inl ⟨vs, r.sq, by rw [isEmpty_len s.len]⟩
  | fn _ => cases g
  | ty _ => cases g
def dTru (f : Ev → Res (D × Ev)) (ρ : Ev) : Res (Bool × Ev) := (f ρ).bind fun p => (gTru p.1).bind fun k => .ok (k, p.2)
def dBool (f : Ev → Res (D × Ev)) (ρ : Ev) : Res (Bool × Ev) := (f ρ).bind fun p => match p.1 with
  | .bl k => .ok (k, p.2)
  | _ => .err
theorem dt_tru {f : Ev → Res (D × Ev)} (h : DE X c q b e f) (he : ∀ whole, isTrue e X.env whole = (do let v ← whole; standAt e.pos; holding [v] (truthy v)) := by intro _; rfl) : DT X c q e (dTru f) := ⟨by
  refine PT.imp (pt_truth h.pe he) fun σ H Q ⟨ρ, Z, fo, R, d, ρ', hf, k⟩ => ?_
  obtain ⟨⟨d1, ρ1⟩, h1, hf⟩ := Res.bind_ok hf
  obtain ⟨z, h3, hf⟩ := Res.bind_ok hf
  cases hf
  exact ⟨ρ, Z, fo, R, d1, ρ1, h1, fun v H1 Z1 fo1 R1 s1 m1 p1 => ⟨_, gTru_ok p1 h3, k H1 Z1 fo1 R1 s1 m1⟩⟩⟩
theorem tTestD {K : PySem.W.Frag} {t : TE} {σ : L2.St} {H : Hp} {f : Ev → Res (D × Ev)} {Q : Bool → Hp → Prop} (ht : ∀ Q, tD c K q b f σ H Q → t σ H Q) (h : tT c K q (dBool f) σ H Q) : tTest t σ H Q := by
  obtain ⟨ρ, Z, fo, R, d, ρ', hf, k⟩ := h
  obtain ⟨⟨d1, ρ1⟩, h1, hf⟩ := Res.bind_ok hf
  refine ht _ ⟨ρ, Z, fo, R, d1, ρ1, h1, fun v H1 Z1 fo1 R1 s1 m1 p1 => ?_⟩
  cases d1 with
  | bl z =>
    cases hf
    exact ⟨_, p1, k H1 Z1 fo1 R1 s1 m1⟩
  | _ => cases hf
theorem dt_cmp {op : CmpOp} {r : R2} {g : D → D → Res D} (ho : OpR X (compareOp op) r) (h : OpD X.K r g) (ha : DE X c q b a fa) (hb : DE X c q b e fb) (hm : behindInMarks op e = false) (hq : b = true → q = true := by decide) : DT X c q (.Compare a [op] [e] pos) (dBool (dOp g fa fb)) :=
  ⟨PT.imp (pt_cmpR ho ha.pe hb.pe hm) fun σ H Q t => tTestD (b := b) (fun Q' t' => tOpD h hq t') t⟩
def dNot (f : Ev → Res (Bool × Ev)) (ρ : Ev) : Res (Bool × Ev) := (f ρ).bind fun p => .ok (!p.1, p.2)
theorem dt_not {f : Ev → Res (Bool × Ev)} (h : DT X c q e f) : DT X c q (.UnaryOp .Not e pos) (dNot f) := ⟨by
  refine PT.imp (pt_not h.pt) fun σ H Q ⟨ρ, Z, fo, R, d, ρ', hf, k⟩ => ?_
  obtain ⟨⟨d1, ρ1⟩, h1, hf⟩ := Res.bind_ok hf
  cases hf
  exact ⟨ρ, Z, fo, R, d1, ρ1, h1, k⟩⟩
def dAnd (f g : Ev → Res (Bool × Ev)) (ρ : Ev) : Res (Bool × Ev) := (f ρ).bind fun p => if p.1 = true then g p.2 else .ok (false, p.2)
def dOr (f g : Ev → Res (Bool × Ev)) (ρ : Ev) : Res (Bool × Ev) := (f ρ).bind fun p => if p.1 = true then .ok (true, p.2) else g p.2
structure DW (X : Cx) (c : DC) (q : Bool) (e : Expr) (f : Ev → Res (Bool × Ev)) : Prop where
  pw : PW X e (tT c X.K q f)
theorem PW.imp {X : Cx} {e : Expr} {t u : TT} (h : PW X e t) (k : ∀ σ H Q, u σ H Q → t σ H Q) : PW X e u := ⟨fun wh pins s σ H Q I q => h.run wh pins s σ H Q I (k _ _ _ q)⟩
theorem dw_dt {f : Ev → Res (Bool × Ev)} (h : DW X c q e f) : DT X c q e f := ⟨h.pw.pt⟩
theorem dw_and1 {f : Ev → Res (Bool × Ev)} (h : DT X c q e f) : DW X c q (.BoolOp .And [e] pos) f := ⟨pw_and1 h.pt⟩
theorem dw_or1 {f : Ev → Res (Bool × Ev)} (h : DT X c q e f) : DW X c q (.BoolOp .Or [e] pos) f := ⟨pw_or1 h.pt⟩
theorem dw_and {rest : List Expr} {f g : Ev → Res (Bool × Ev)} (h : DT X c q a f) (h2 : DW X c q (.BoolOp .And (e :: rest) pos) g) : DW X c q (.BoolOp .And (a :: e :: rest) pos) (dAnd f g) := ⟨by
  refine PW.imp (pw_and h.pt h2.pw) fun σ H Q ⟨ρ, Z, fo, R, d, ρ', hf, k⟩ => ?_
  obtain ⟨⟨d1, ρ1⟩, h1, hf⟩ := Res.bind_ok hf
  refine ⟨ρ, Z, fo, R, d1, ρ1, h1, fun H1 Z1 fo1 R1 s1 m1 => ?_⟩
  cases d1 with
  | true =>
    rw [if_pos rfl] at hf ⊢
    exact ⟨ρ1, Z1, fo1, R1, d, ρ', hf, fun H2 Z2 fo2 R2 s2 m2 => k H2 Z2 fo2 R2 (s1.trans s2) (fun hq => (m1 hq).trans (m2 hq))⟩
  | false =>
    rw [if_neg Bool.false_ne_true] at hf ⊢
    cases hf
    exact k H1 Z1 fo1 R1 s1 m1⟩
theorem dw_or {rest : List Expr} {f g : Ev → Res (Bool × Ev)} (h : DT X c q a f) (h2 : DW X c q (.BoolOp .Or (e :: rest) pos) g) : DW X c q (.BoolOp .Or (a :: e :: rest) pos) (dOr f g) := ⟨by
  refine PW.imp (pw_or h.pt h2.pw) fun σ H Q ⟨ρ, Z, fo, R, d, ρ', hf, k⟩ => ?_
  obtain ⟨⟨d1, ρ1⟩, h1, hf⟩ := Res.bind_ok hf
  refine ⟨ρ, Z, fo, R, d1, ρ1, h1, fun H1 Z1 fo1 R1 s1 m1 => ?_⟩
  cases d1 with
  | false =>
    rw [if_neg Bool.false_ne_true] at hf ⊢
    exact ⟨ρ1, Z1, fo1, R1, d, ρ', hf, fun H2 Z2 fo2 R2 s2 m2 => k H2 Z2 fo2 R2 (s1.trans s2) (fun hq => (m1 hq).trans (m2 hq))⟩
  | true =>
    rw [if_pos rfl] at hf ⊢
    cases hf
    exact k H1 Z1 fo1 R1 s1 m1⟩
/-- a if t else b -/
def dIf {α : Type} (t : Ev → Res (Bool × Ev)) (f g : Ev → Res α) (ρ : Ev) : Res α := (t ρ).bind fun p => if p.1 = true then f p.2 else g p.2
theorem de_if {t : Expr} {ft : Ev → Res (Bool × Ev)} (h : DT X c q t ft) (ha : DE X c q b a fa) (hb : DE X c q b e fb) : DE X c q b (.IfExp t a e pos) (dIf ft fa fb) := ⟨by
  refine PE.imp (pe_ifExp h.pt ha.pe hb.pe) fun σ H Q ⟨ρ, Z, fo, R, d, ρ', hf, k⟩ => ?_
  obtain ⟨⟨d1, ρ1⟩, h1, hf⟩ := Res.bind_ok hf
  refine ⟨ρ, Z, fo, R, d1, ρ1, h1, fun H1 Z1 fo1 R1 s1 m1 => ?_⟩
  cases d1 with
  | true =>
    rw [if_pos rfl] at hf ⊢
    exact ⟨ρ1, Z1, fo1, R1, d, ρ', hf, fun v H2 Z2 fo2 R2 s2 m2 p2 => k v H2 Z2 fo2 R2 (s1.trans s2) (fun hq => (m1 hq).trans (m2 hq)) p2⟩
  | false =>
    rw [if_neg Bool.false_ne_true] at hf ⊢
    exact ⟨ρ1, Z1, fo1, R1, d, ρ', hf, fun v H2 Z2 fo2 R2 s2 m2 p2 => k v H2 Z2 fo2 R2 (s1.trans s2) (fun hq => (m1 hq).trans (m2 hq)) p2⟩⟩
/-- and, or, not as values -/
def dAndV (f g : Ev → Res (D × Ev)) (ρ : Ev) : Res (D × Ev) := (f ρ).bind fun p => (gTru p.1).bind fun k => if k = true then g p.2 else .ok p
def dOrV (f g : Ev → Res (D × Ev)) (ρ : Ev) : Res (D × Ev) := (f ρ).bind fun p => (gTru p.1).bind fun k => if k = true then .ok p else g p.2
def gNot (d : D) : Res D := (gTru d).bind fun k => .ok (.bl (!k))
theorem de_one {op} (h : DE X c q b a fa) : DE X c q b (.BoolOp op [a] pos) fa := ⟨pe_one h.pe⟩
theorem de_and {rest : List Expr} (ha : DE X c q b a fa) (hb : DE X c q b (.BoolOp .And (e :: rest) pos) fb) : DE X c q b (.BoolOp .And (a :: e :: rest) pos) (dAndV fa fb) := ⟨by
  refine PE.imp (pe_andT ha.pe hb.pe) fun σ H Q ⟨ρ, Z, fo, R, d, ρ', hf, k⟩ => ?_
  obtain ⟨⟨d1, ρ1⟩, h1, hf⟩ := Res.bind_ok hf
  obtain ⟨kk, h2, hf⟩ := Res.bind_ok hf
  refine ⟨ρ, Z, fo, R, d1, ρ1, h1, fun v H1 Z1 fo1 R1 s1 m1 p1 => ⟨kk, gTru_ok p1 h2, ?_⟩⟩
  cases kk with
  | true =>
    rw [if_pos rfl] at hf ⊢
    exact ⟨ρ1, Z1, fo1, R1, d, ρ', hf, fun v H2 Z2 fo2 R2 s2 m2 p2 => k v H2 Z2 fo2 R2 (s1.trans s2) (fun hq => (m1 hq).trans (m2 hq)) p2⟩
  | false =>
    rw [if_neg Bool.false_ne_true] at hf ⊢
    cases hf
    exact k v H1 Z1 fo1 R1 s1 m1 p1⟩
theorem de_or {rest : List Expr} (ha : DE X c q b a fa) (hb : DE X c q b (.BoolOp .Or (e :: rest) pos) fb) : DE X c q b (.BoolOp .Or (a :: e :: rest) pos) (dOrV fa fb) := ⟨by
  refine PE.imp (pe_orT ha.pe hb.pe) fun σ H Q ⟨ρ, Z, fo, R, d, ρ', hf, k⟩ => ?_
  obtain ⟨⟨d1, ρ1⟩, h1, hf⟩ := Res.bind_ok hf
  obtain ⟨kk, h2, hf⟩ := Res.bind_ok hf
  refine ⟨ρ, Z, fo, R, d1, ρ1, h1, fun v H1 Z1 fo1 R1 s1 m1 p1 => ⟨kk, gTru_ok p1 h2, ?_⟩⟩
  cases kk with
  | false =>
    rw [if_neg Bool.false_ne_true] at hf ⊢
    exact ⟨ρ1, Z1, fo1, R1, d, ρ', hf, fun v H2 Z2 fo2 R2 s2 m2 p2 => k v H2 Z2 fo2 R2 (s1.trans s2) (fun hq => (m1 hq).trans (m2 hq)) p2⟩
  | true =>
    rw [if_pos rfl] at hf ⊢
    cases hf
    exact k v H1 Z1 fo1 R1 s1 m1 p1⟩
theorem de_not (ha : DE X c q b a fa) : DE X c q b (.UnaryOp .Not a pos) (dUn gNot fa) := ⟨by
  refine PE.imp (pe_notT ha.pe) fun σ H Q ⟨ρ, Z, fo, R, d, ρ', hf, k⟩ => ?_
  obtain ⟨⟨d1, ρ1⟩, h1, hf⟩ := Res.bind_ok hf
  obtain ⟨z, h2, hf⟩ := Res.bind_ok hf
  obtain ⟨kk, h3, h2⟩ := Res.bind_ok h2
  cases h2
  cases hf
  exact ⟨ρ, Z, fo, R, d1, ρ1, h1, fun v H1 Z1 fo1 R1 s1 m1 p1 => ⟨kk, gTru_ok p1 h3, k _ H1 Z1 fo1 R1 s1 m1 rfl⟩⟩⟩

/-! ### calls of built-ins -/
def dCallB (g : List D → Res D) (f : Ev → Res (List D × Ev)) (ρ : Ev) : Res (D × Ev) := (f ρ).bind fun p => (g p.1).bind fun z => .ok (z, p.2)
theorem tCBD {K : PySem.W.Frag} {r : List V → Hp → VK → Prop} {g : List D → Res D} {n : Nat} {f : Ev → Res (List D × Ev)} (h : CallD K r g) {σ : L2.St} {H : Hp} {Q : VK} (t : tD c K q b (dCallB g f) σ H Q) : tCB r (tDs c K q b n f) σ H Q := by
  obtain ⟨ρ, Z, fo, R, d, ρ', hf, k⟩ := t
  obtain ⟨⟨d1, ρ1⟩, h1, hf⟩ := Res.bind_ok hf
  obtain ⟨z, h3, hf⟩ := Res.bind_ok hf
  cases hf
  refine ⟨ρ, Z, fo, R, d1, ρ1, h1, fun x H1 Z1 fo1 R1 s1 m1 _ p1 => ?_⟩
  exact h _ H1 d1 _ x Q (zb_own R1.ownN) p1 h3 fun v H3 sm p3 => k v H3 Z1 fo1 (R1.same sm) (s1.trans (Stp.same sm)) (fun hq => (m1 hq).trans sm) p3
theorem de_callB {x : PySem.Str} {id : String} {p : Pos} {es : List Expr} {r : List V → Hp → VK → Prop} {g : List D → Res D} {f : Ev → Res (List D × Ev)} (hc : CallR X (.builtin id) r) (h : CallD X.K r g) (hm : X.mg x = none) (hv : bootBuiltins x = some (.builtin id)) (ha : DAs X c q b (e :: es) f)
    (hg : Gl X x := by rfl) (hn : x ≠ "__name__" := by decide) (hdb : (x == ("__debug__" : Str)) = false := by decide) (he : starEach (e :: es) X.env = (false, eval e X.env) :: starEach es X.env := by rfl) (hpl : (backTo pos (starEach es X.env)).any (·.1) = false := by rfl) :
    DE X c q b (.Call (.Name x p) (e :: es) [] pos) (dCallB g f) := ⟨PE.imp (pe_callB hc hg hm hv ha.pa hn hdb he hpl) fun _ _ _ t => tCBD h t⟩
theorem de_callTy {x : PySem.Str} {T : String} {p : Pos} {es : List Expr} {r : List V → Hp → VK → Prop} {g : List D → Res D} {f : Ev → Res (List D × Ev)} (hc : CallR X (.type T) r) (h : CallD X.K r g) (hm : X.mg x = none) (hv : bootBuiltins x = some (.type T)) (ha : DAs X c q b (e :: es) f)
    (hg : Gl X x := by rfl) (hn : x ≠ "__name__" := by decide) (hdb : (x == ("__debug__" : Str)) = false := by decide) (he : starEach (e :: es) X.env = (false, eval e X.env) :: starEach es X.env := by rfl) (hpl : (backTo pos (starEach es X.env)).any (·.1) = false := by rfl) :
    DE X c q b (.Call (.Name x p) (e :: es) [] pos) (dCallB g f) := ⟨PE.imp (pe_callTy hc hg hm hv ha.pa hn hdb he hpl) fun _ _ _ t => tCBD h t⟩
end
end DL
/-! pure operators and their rules -/
namespace DL
open PySem PySem.Spec PyProof.Rows L2

instance {i j : Int} : Decidable (CMul i j) := by unfold CMul; infer_instance
instance {i j : Int} : Decidable (CMulW i j) := by unfold CMulW; infer_instance
instance {i j : Int} : Decidable (CDivW i j) := by unfold CDivW; infer_instance
instance {i j : Int} : Decidable (CPow i j) := by unfold CPow; infer_instance
abbrev CMulA (i j : Int) : Prop := CMul i j ∨ CMulW i j

/-- two ints under C -/
def gInt (C : Int → Int → Prop) [∀ i j, Decidable (C i j)] (f : Int → Int → D) : D → D → Res D
  | .int i, .int j => if C i j then .ok (f i j) else .err
  | _, _ => .err
def gAdd : D → D → Res D
  | .int i, .int j => .ok (.int (i + j))
  | .str x, .str y => if x.length + y.length ≤ 16777216 then .ok (.str (x ++ y)) else .err
  | .tup xs, .tup ys => if xs.length + ys.length ≤ 16777216 then .ok (.tup (xs ++ ys)) else .err
  | .int i, .bl k => .ok (.int (i + b2i k))
  | _, _ => .err
def gSub : D → D → Res D
  | .int i, .int j => .ok (.int (i - j))
  | _, _ => .err
abbrev gMul : D → D → Res D := gInt CMulA fun i j => .int (i * j)
abbrev gFdiv : D → D → Res D := gInt CDivW fun i j => .int (i / j)
abbrev gMod : D → D → Res D := gInt (fun _ j => 0 < j) fun i j => .int (i % j)
abbrev gPow : D → D → Res D := gInt CPow fun i j => .int (i ^ j.toNat)
abbrev gShl : D → D → Res D := gInt CPow fun i j => .int (i * 2 ^ j.toNat)
def gNeg : D → Res D
  | .int i => .ok (.int (-i))
  | _ => .err
def rAddA (K : PySem.W.Frag) : R2 := fun x y H Q => (rI0 fun i j => .int (i + j)) x y H Q ∨ (∃ i j, x = .str i ∧ y = .str j ∧ i.length + j.length ≤ sizeLine ∧ Q (.str (i ++ j)) H) ∨ rCatA K x y H Q ∨ (∃ i k, x = .int i ∧ y = .bl k ∧ Q (.int (i + b2i k)) H)
theorem if_ok {α : Type} {c : Prop} [Decidable c] {a b : α} (h : (if c then Res.ok a else .err) = .ok b) : c ∧ a = b := by
  by_cases hc : c
  · rw [if_pos hc] at h
    cases h
    exact ⟨hc, rfl⟩
  · rw [if_neg hc] at h
    cases h
/-- the ints of a row of data -/
def ints? : List D → Option (List Int)
  | [] => some []
  | .int i :: ds => (ints? ds).map (i :: ·)
  | _ :: _ => none
theorem ints?_ok {K : PySem.W.Frag} {Z : AP} {H : Hp} : ∀ {ds : List D} {vs : List V} {ns : List Int}, Shs K Z H ds vs → ints? ds = some ns → vs = ns.map V.int
  | [], vs, ns, h, e => by
    cases e
    exact h
  | .int i :: ds, _, ns, ⟨v, r, rfl, s1, s2⟩, e => by
    cases q : ints? ds with
    | none => rw [show ints? (.int i :: ds) = (ints? ds).map (i :: ·) from rfl, q] at e; cases e
    | some ms =>
      rw [show ints? (.int i :: ds) = (ints? ds).map (i :: ·) from rfl, q] at e
      cases e
      have s1' : v = .int i := s1
      rw [s1', ints?_ok s2 q]
      rfl
  | .non :: ds, _, _, _, e => by cases e
  | .bl _ :: ds, _, _, _, e => by cases e
  | .str _ :: ds, _, _, _, e => by cases e
  | .tup _ :: ds, _, _, _, e => by cases e
  | .lst _ :: ds, _, _, _, e => by cases e
  | .fn _ :: ds, _, _, _, e => by cases e
  | .ty _ :: ds, _, _, _, e => by cases e
/-- < and its kin -/
def gLt : D → D → Res D
  | .int i, .int j => .ok (.bl (decide (i < j)))
  | .str x, .str y => .ok (.bl (decide (x.cps.toList < y.cps.toList)))
  | .tup xs, .tup ys => match ints? xs, ints? ys with
    | some ns, some ms => .ok (.bl (HT.lexLt ns ms))
    | _, _ => .err
  | _, _ => .err
def gIntB (f : Int → Int → Bool) : D → D → Res D
  | .int i, .int j => .ok (.bl (f i j))
  | _, _ => .err
abbrev gLe := gIntB fun i j => decide (i ≤ j)
def lexGt (ns ms : List Int) : Bool := Ob.lexAt (fun j => decide (ns.getD j 0 = ms.getD j 0)) (fun j => decide (ms.getD j 0 < ns.getD j 0)) (decide (ns.length > ms.length)) 0 (min ns.length ms.length)
def gGt : D → D → Res D
  | .int i, .int j => .ok (.bl (decide (j < i)))
  | .tup xs, .tup ys => match ints? xs, ints? ys with
    | some ns, some ms => .ok (.bl (lexGt ns ms))
    | _, _ => .err
  | _, _ => .err
def rGtT (K : PySem.W.Frag) : R2 := fun x y H Q => ∃ (a b : Addr) (ns ms : List Int), x = .ref a ∧ y = .ref b ∧ SqT K H a (ns.map V.int) ∧ SqT K H b (ms.map V.int) ∧ Q (.bl (lexGt ns ms)) H
def rGtA (K : PySem.W.Frag) : R2 := fun x y H Q => (rI0 fun i j => .bl (decide (j < i))) x y H Q ∨ rGtT K x y H Q
theorem op_gtT {X : Cx} (hu : X.A.units < cLine) : OpR X (compareOp .Gt) (rGtT X.K) := by
  intro pins s σ H x y v u Q I rx ry h
  obtain ⟨a, b, ns, ms, rfl, rfl, ha, hb, q⟩ := h
  cases rx
  cases ry
  obtain ⟨its, r1, p1, _⟩ := I.tuple ha
  obtain ⟨its2, r2, p2, _⟩ := I.tuple hb
  have i1 : IntsAre its ns := Vals.ints r1
  have i2 : IntsAre its2 ms := Vals.ints r2
  have e1 : its.toArray.size = ns.length := by rw [List.size_toArray]; exact i1.length
  have e2 : its2.toArray.size = ms.length := by rw [List.size_toArray]; exact i2.length
  have at1 : ∀ j (h1 : j < its.toArray.size), ∃ t, its.toArray[j] = .int (ns.getD j 0) t := fun j h1 => PyProof.Rows.IntsAre.int_at i1 _ _ (by simp at h1; simp [h1])
  have at2 : ∀ j (h1 : j < its2.toArray.size), ∃ t, its2.toArray[j] = .int (ms.getD j 0) t := fun j h1 => PyProof.Rows.IntsAre.int_at i2 _ _ (by simp at h1; simp [h1])
  have R := Ob.RcOp.tuples_gt (A := X.A) (s := s) (e := fun j => decide (ns.getD j 0 = ms.getD j 0)) (r := fun j => decide (ms.getD j 0 < ns.getD j 0)) p1 p2 hu (fun j h1 h2 => by
    obtain ⟨t, et⟩ := at1 j h1
    obtain ⟨t', et'⟩ := at2 j h2
    rw [et, et']
    have z : (ns.getD j 0 == ms.getD j 0) = decide (ns.getD j 0 = ms.getD j 0) := by
      by_cases q : ns.getD j 0 = ms.getD j 0
      · rw [decide_eq_true q]; exact beq_iff_eq.mpr q
      · rw [decide_eq_false q]; exact beq_eq_false_iff_ne.mpr q
    rw [← z]
    exact SeqAt.EqAt.int_int _ _ _ _) (fun j h1 h2 _ => by
    obtain ⟨t, et⟩ := at1 j h1
    obtain ⟨t', et'⟩ := at2 j h2
    rw [et, et']
    exact Ob.RcOp.gt_int _ _ _ _)
  rw [e1, e2] at R
  have z : wpAny (model X.prog X.w) X.A (compareOp .Gt (.ref a) (.ref b)) (EP X pins σ Q) X.xe s := R X.prog X.w X.xe (EP X pins σ Q) ⟨.bl _, H, I, rfl, q⟩
  exact z
abbrev gGe := gIntB fun i j => decide (j ≤ i)
def rLtA (K : PySem.W.Frag) : R2 := fun x y H Q => (rI0 fun i j => .bl (decide (i < j))) x y H Q ∨ (∃ i j, x = .str i ∧ y = .str j ∧ Q (.bl (decide (i.cps.toList < j.cps.toList))) H) ∨ rLtT K x y H Q
/-! as the library's data -/
mutual
def D.py : D → Option PyData
  | .non => some .none
  | .bl b => some (.bool b)
  | .int i => some (.int i)
  | .str x => some (.str x)
  | .tup ds => match D.pys ds with
    | some es => some (.tuple es)
    | none => none
  | .lst ds => match D.pys ds with
    | some es => some (.list es)
    | none => none
  | .fn _ => none
  | .ty _ => none
def D.pys : List D → Option (List PyData)
  | [] => some []
  | d :: ds => match d.py, D.pys ds with
    | some e, some es => some (e :: es)
    | _, _ => none
end
mutual
theorem Sh.dp {K : PySem.W.Frag} {Z : AP} {H : Hp} : ∀ (d : D) (v : V) (e : PyData), Sh K Z H d v → d.py = some e → Dp K H v e
  | .non, v, e, h, q => by cases q; cases h; exact .non
  | .bl b, v, e, h, q => by cases q; cases h; exact .bl b
  | .int i, v, e, h, q => by cases q; cases h; exact .int i
  | .str x, v, e, h, q => by cases q; cases h; exact .str x
  | .fn _, v, e, h, q => by cases q
  | .ty _, v, e, h, q => by cases q
  | .tup ds, v, e, h, q => by
    obtain ⟨a, vs, rfl, r, s⟩ := h
    have q' : (match D.pys ds with | some es => some (PyData.tuple es) | none => none) = some e := q
    cases z : D.pys ds with
    | none => rw [z] at q'; cases q'
    | some es =>
      rw [z] at q'
      cases q'
      exact .tup r.sq (Shs.dps ds vs es s z)
  | .lst ds, v, e, h, q => by
    obtain ⟨a, vs, rfl, r, s⟩ := h
    have q' : (match D.pys ds with | some es => some (PyData.list es) | none => none) = some e := q
    cases z : D.pys ds with
    | none => rw [z] at q'; cases q'
    | some es =>
      rw [z] at q'
      cases q'
      exact .lst r.sq (Shs.dps ds vs es s z)
theorem Shs.dps {K : PySem.W.Frag} {Z : AP} {H : Hp} : ∀ (ds : List D) (vs : List V) (es : List PyData), Shs K Z H ds vs → D.pys ds = some es → DpAll K H vs es
  | [], vs, es, h, q => by
    have e : vs = [] := h
    subst e
    cases q
    exact .nil
  | d :: ds, vs, es, ⟨v, r, e, s1, s2⟩, q => by
    subst e
    have q' : (match d.py, D.pys ds with | some e, some es => some (e :: es) | _, _ => none) = some es := q
    cases z1 : d.py with
    | none => rw [z1] at q'; cases q'
    | some e1 =>
      cases z2 : D.pys ds with
      | none => rw [z1, z2] at q'; cases q'
      | some e2 =>
        rw [z1, z2] at q'
        cases q'
        exact .cons (Sh.dp d v e1 s1 z1) (Shs.dps ds r e2 s2 z2)
end
/-- == of scalars of like kinds -/
def eqS : D → D → Option Bool
  | .non, .non => some true | .non, .int _ => some false | .int _, .non => some false | .non, .bl _ => some false | .bl _, .non => some false | .non, .str _ => some false | .str _, .non => some false
  | .int i, .int j => some (decide (i = j)) | .bl a, .bl b => some (decide (a = b)) | .str x, .str y => some (decide (x = y))
  | .int _, .str _ => some false | .str _, .int _ => some false | .bl _, .str _ => some false | .str _, .bl _ => some false
  | _, _ => none
def eqP (d e : D) : Option Bool := match d.py, e.py with
  | some x, some y => if SeqAt.shaped x = true ∧ SeqAt.shaped y = true then some (PyData.eqv x y) else none
  | _, _ => none
def eqD (d e : D) : Option Bool := match eqS d e with
  | some k => some k
  | none => eqP d e
def gEq (d e : D) : Res D := match eqD d e with
  | some k => .ok (.bl k)
  | none => .err
def gNe (d e : D) : Res D := match eqD d e with
  | some k => .ok (.bl (!k))
  | none => .err
def rEqA (K : PySem.W.Frag) : R2 := fun x y H Q => rEq x y H Q ∨ rEqD K x y H Q
def rNeA (K : PySem.W.Frag) : R2 := fun x y H Q => rNe x y H Q ∨ rNeD K x y H Q
/-- in, not in: flat items -/
def D.flat : D → Bool
  | .non => true
  | .bl _ => true
  | .int _ => true
  | .str _ => true
  | _ => false
def eqF : D → D → Bool
  | .non, .non => true
  | .bl a, .bl b => a == b
  | .bl a, .int b => (if a then 1 else 0) == b
  | .int a, .bl b => a == (if b then 1 else 0)
  | .int a, .int b => a == b
  | .str a, .str b => a == b
  | _, _ => false
def seqOf : D → Option (List D)
  | .tup ds => some ds
  | .lst ds => some ds
  | _ => none
def gIn (neg : Bool) (x s : D) : Res D := match seqOf s with
  | some ds => if x.flat = true ∧ ds.all D.flat = true then .ok (.bl (if neg then !(ds.any fun y => eqF y x) else ds.any fun y => eqF y x)) else .err
  | none => match x, s with
    | .str i, .str j => .ok (.bl (if neg then !(!(Builtin.Str.occurrences j i 0 j.length 1).isEmpty) else !(Builtin.Str.occurrences j i 0 j.length 1).isEmpty))
    | _, _ => .err
def rInA (K : PySem.W.Frag) (neg : Bool) : R2 := fun x y H Q => rIn K neg x y H Q ∨ (∃ i j, x = .str i ∧ y = .str j ∧ Q (.bl (if neg then !(!(Builtin.Str.occurrences j i 0 j.length 1).isEmpty) else !(Builtin.Str.occurrences j i 0 j.length 1).isEmpty)) H)
/-- is None -/
def D.isN : D → Bool
  | .non => true
  | _ => false
def gIsN (d e : D) : Res D := if e.isN = true then .ok (.bl d.isN) else .err
def gNotN (d e : D) : Res D := if e.isN = true then .ok (.bl (!d.isN)) else .err
/-- x[i] -/
def gIx (d e : D) : Res D := match e with
  | .int i => match d with
    | .tup ds => match atI ds i with
      | some z => .ok z
      | none => .err
    | .lst ds => match atI ds i with
      | some z => .ok z
      | none => .err
    | .str z => if z.length ≤ 16777216 then match atI z.cps.toList i with
      | some c => .ok (.str ⟨#[c]⟩)
      | none => .err
      else .err
    | _ => .err
  | _ => .err
section
variable {X : Cx} {K : PySem.W.Frag}
theorem d_int {C : Int → Int → Prop} [∀ i j, Decidable (C i j)] {f : Int → Int → Int} : OpD K (rI C fun i j => .int (f i j)) (gInt C fun i j => .int (f i j)) := by
  intro Z H d e z x y Q hz hx hy hg k
  cases d with
  | int i =>
    cases e with
    | int j =>
      cases hx; cases hy
      obtain ⟨h1, rfl⟩ := if_ok hg
      exact ⟨i, j, rfl, rfl, h1, k _ H (Same.refl H) rfl⟩
    | _ => cases hg
  | _ => cases e <;> cases hg
theorem o_add : OpR X (binaryOp .Add) (rAddA X.K) := op_add.or (op_add_str.or (op_catA.or op_add_ib))
theorem nil_of_len {α β : Type} {xs : List α} {ys : List β} (h : xs.length = ys.length) (e : ys = []) : xs = [] := by
  subst e
  exact List.eq_nil_of_length_eq_zero h
theorem d_add : OpD K (rAddA K) gAdd := by
  intro Z H d e z x y Q hz hx hy hg k
  cases d with
  | int i =>
    cases e with
    | int j => cases hx; cases hy; cases hg; exact .inl ⟨i, j, rfl, rfl, k _ H (Same.refl H) rfl⟩
    | bl j => cases hx; cases hy; cases hg; exact .inr (.inr (.inr ⟨i, j, rfl, rfl, k _ H (Same.refl H) rfl⟩))
    | _ => cases hg
  | str i =>
    cases e with
    | str j =>
      cases hx; cases hy
      obtain ⟨h1, rfl⟩ := if_ok hg
      exact .inr (.inl ⟨i, j, rfl, rfl, sizeLine_ge h1, k _ H (Same.refl H) rfl⟩)
    | _ => cases hg
  | tup ds =>
    cases e with
    | tup es =>
      obtain ⟨a, vs, rfl, r1, s1⟩ := hx
      obtain ⟨b, ws, rfl, r2, s2⟩ := hy
      obtain ⟨h1, rfl⟩ := if_ok hg
      refine .inr (.inr (.inl ⟨a, b, vs, ws, rfl, rfl, r1.sq, r2.sq, sizeLine_ge (by rw [← s1.len, ← s2.len]; exact h1), fun e => ?_, fun _ e => ?_, fun _ _ p hp => ?_⟩))
      · have e1 := nil_of_len s1.len e
        subst e1
        exact k _ H (Same.refl H) ⟨b, ws, rfl, r2, s2⟩
      · have e1 := nil_of_len s2.len e
        subst e1
        rw [List.append_nil] at k
        exact k _ H (Same.refl H) ⟨a, vs, rfl, r1, s1⟩
      · have sm : Same H (upd H p (.tup (vs ++ ws))) := same_upd hp
        exact k _ _ sm ⟨p, vs ++ ws, rfl, RdT.new upd_same fun z => hz p z hp, Shs.same sm (s1.app s2)⟩
    | _ => cases hg
  | _ => cases e <;> cases hg
theorem d_sub : OpD K (rI0 fun i j => .int (i - j)) gSub := by
  intro Z H d e z x y Q hz hx hy hg k
  cases d with
  | int i =>
    cases e with
    | int j => cases hx; cases hy; cases hg; exact ⟨i, j, rfl, rfl, k _ H (Same.refl H) rfl⟩
    | _ => cases hg
  | _ => cases e <;> cases hg
theorem o_mul : OpR X (binaryOp .Mult) (rI CMulA fun i j => .int (i * j)) := opI fun _ _ _ _ _ _ _ hc q => mul_int q (hc.elim CMul.ok CMulW.ok)
theorem d_neg : UnD K (rU fun i => .int (-i)) gNeg := by
  intro Z H d z x Q hz hx hg k
  cases d with
  | int i => cases hx; cases hg; exact ⟨i, rfl, k _ H (Same.refl H) rfl⟩
  | _ => cases hg
theorem o_lt (hu : X.A.units < cLine) : OpR X (compareOp .Lt) (rLtA X.K) := op_lt.or (op_lt_str.or (op_ltT hu))
theorem d_lt : OpD K (rLtA K) gLt := by
  intro Z H d e z x y Q hz hx hy hg k
  cases d with
  | int i =>
    cases e with
    | int j => cases hx; cases hy; cases hg; exact .inl ⟨i, j, rfl, rfl, k _ H (Same.refl H) rfl⟩
    | _ => cases hg
  | str i =>
    cases e with
    | str j => cases hx; cases hy; cases hg; exact .inr (.inl ⟨i, j, rfl, rfl, k _ H (Same.refl H) rfl⟩)
    | _ => cases hg
  | tup ds =>
    cases e with
    | tup es =>
      obtain ⟨a, vs, rfl, r1, s1⟩ := hx
      obtain ⟨b, ws, rfl, r2, s2⟩ := hy
      have hg' : (match ints? ds, ints? es with | some ns, some ms => Res.ok (D.bl (HT.lexLt ns ms)) | _, _ => .err) = .ok z := hg
      cases z1 : ints? ds with
      | none => rw [z1] at hg'; cases hg'
      | some ns =>
        cases z2 : ints? es with
        | none => rw [z1, z2] at hg'; cases hg'
        | some ms =>
          rw [z1, z2] at hg'
          cases hg'
          have e1 := ints?_ok s1 z1
          have e2 := ints?_ok s2 z2
          subst e1 e2
          exact .inr (.inr ⟨a, b, ns, ms, rfl, rfl, r1.sq, r2.sq, k _ H (Same.refl H) rfl⟩)
    | _ => cases hg
  | _ => cases e <;> cases hg
theorem o_gt (hu : X.A.units < cLine) : OpR X (compareOp .Gt) (rGtA X.K) := op_gt.or (op_gtT hu)
theorem d_gt : OpD K (rGtA K) gGt := by
  intro Z H d e z x y Q hz hx hy hg k
  cases d with
  | int i =>
    cases e with
    | int j => cases hx; cases hy; cases hg; exact .inl ⟨i, j, rfl, rfl, k _ H (Same.refl H) rfl⟩
    | _ => cases hg
  | tup ds =>
    cases e with
    | tup es =>
      obtain ⟨a, vs, rfl, r1, s1⟩ := hx
      obtain ⟨b, ws, rfl, r2, s2⟩ := hy
      have hg' : (match ints? ds, ints? es with | some ns, some ms => Res.ok (D.bl (lexGt ns ms)) | _, _ => .err) = .ok z := hg
      cases z1 : ints? ds with
      | none => rw [z1] at hg'; cases hg'
      | some ns =>
        cases z2 : ints? es with
        | none => rw [z1, z2] at hg'; cases hg'
        | some ms =>
          rw [z1, z2] at hg'
          cases hg'
          have e1 := ints?_ok s1 z1
          have e2 := ints?_ok s2 z2
          subst e1 e2
          exact .inr ⟨a, b, ns, ms, rfl, rfl, r1.sq, r2.sq, k _ H (Same.refl H) rfl⟩
    | _ => cases hg
  | _ => cases e <;> cases hg
theorem d_intB {f : Int → Int → Bool} : OpD K (rI0 fun i j => .bl (f i j)) (gIntB f) := by
  intro Z H d e z x y Q hz hx hy hg k
  cases d with
  | int i =>
    cases e with
    | int j => cases hx; cases hy; cases hg; exact ⟨i, j, rfl, rfl, k _ H (Same.refl H) rfl⟩
    | _ => cases hg
  | _ => cases e <;> cases hg
theorem o_eq (hu : X.A.units + 64 < cLine) : OpR X (compareOp .Eq) (rEqA X.K) := op_eq.or (op_eqD hu)
theorem o_ne (hu : X.A.units + 64 < cLine) : OpR X (compareOp .NotEq) (rNeA X.K) := op_ne.or (op_neD hu)
theorem eqS_ok {Z : AP} {H : Hp} {d e : D} {x y : V} {k : Bool} (hx : Sh K Z H d x) (hy : Sh K Z H e y) (h : eqS d e = some k) : scal x y = true ∧ decide (x = y) = k := by
  cases d <;> cases e <;> first
    | (cases h; done)
    | (cases hx; cases hy; cases h; exact ⟨rfl, by simp⟩)
theorem eqP_ok {Z : AP} {H : Hp} {d e : D} {x y : V} {k : Bool} (hx : Sh K Z H d x) (hy : Sh K Z H e y) (h : eqP d e = some k) : ∃ a b, Dp K H x a ∧ Dp K H y b ∧ SeqAt.shaped a = true ∧ SeqAt.shaped b = true ∧ PyData.eqv a b = k := by
  unfold eqP at h
  cases z1 : d.py with
  | none => rw [z1] at h; cases h
  | some a =>
    cases z2 : e.py with
    | none => rw [z1, z2] at h; cases h
    | some b =>
      rw [z1, z2] at h
      have h' : (if SeqAt.shaped a = true ∧ SeqAt.shaped b = true then some (PyData.eqv a b) else none) = some k := h
      by_cases hc : SeqAt.shaped a = true ∧ SeqAt.shaped b = true
      · rw [if_pos hc] at h'
        cases h'
        exact ⟨a, b, Sh.dp d x a hx z1, Sh.dp e y b hy z2, hc.1, hc.2, rfl⟩
      · rw [if_neg hc] at h'; cases h'
theorem d_eq : OpD K (rEqA K) gEq := by
  intro Z H d e z x y Q hz hx hy hg k
  unfold gEq eqD at hg
  cases h1 : eqS d e with
  | some kk =>
    rw [h1] at hg
    cases hg
    obtain ⟨q1, q2⟩ := eqS_ok hx hy h1
    exact .inl ⟨q1, by rw [q2]; exact k _ H (Same.refl H) rfl⟩
  | none =>
    rw [h1] at hg
    cases h2 : eqP d e with
    | some kk =>
      rw [h2] at hg
      cases hg
      obtain ⟨a, b, q1, q2, q3, q4, q5⟩ := eqP_ok hx hy h2
      exact .inr ⟨a, b, q1, q2, q3, q4, by rw [q5]; exact k _ H (Same.refl H) rfl⟩
    | none => rw [h2] at hg; cases hg
theorem d_ne : OpD K (rNeA K) gNe := by
  intro Z H d e z x y Q hz hx hy hg k
  unfold gNe eqD at hg
  cases h1 : eqS d e with
  | some kk =>
    rw [h1] at hg
    cases hg
    obtain ⟨q1, q2⟩ := eqS_ok hx hy h1
    exact .inl ⟨q1, by rw [q2]; exact k _ H (Same.refl H) rfl⟩
  | none =>
    rw [h1] at hg
    cases h2 : eqP d e with
    | some kk =>
      rw [h2] at hg
      cases hg
      obtain ⟨a, b, q1, q2, q3, q4, q5⟩ := eqP_ok hx hy h2
      exact .inr ⟨a, b, q1, q2, q3, q4, by rw [q5]; exact k _ H (Same.refl H) rfl⟩
    | none => rw [h2] at hg; cases hg
theorem flat_ok {Z : AP} {H : Hp} {d : D} {x : V} (h : Sh K Z H d x) (f : d.flat = true) : flatV x = true := by
  cases d <;> first
    | (cases f; done)
    | (cases h; rfl)
theorem flats_ok {Z : AP} {H : Hp} : ∀ {ds : List D} {vs : List V}, Shs K Z H ds vs → ds.all D.flat = true → vs.all flatV = true
  | [], vs, h, _ => by
    have e : vs = [] := h
    subst e
    rfl
  | d :: ds, vs, ⟨v, r, e, s1, s2⟩, f => by
    subst e
    rw [List.all_cons, Bool.and_eq_true] at f ⊢
    exact ⟨flat_ok s1 f.1, flats_ok s2 f.2⟩
theorem eqF_ok {Z : AP} {H : Hp} {d e : D} {x y : V} (hx : Sh K Z H d x) (hy : Sh K Z H e y) (f : d.flat = true) (f2 : e.flat = true) : eqV x y = eqF d e := by
  cases d <;> cases e <;> first
    | (cases f; done)
    | (cases f2; done)
    | (cases hx; cases hy; rfl)
theorem any_ok {Z : AP} {H : Hp} {e : D} {y : V} (hy : Sh K Z H e y) (f2 : e.flat = true) : ∀ {ds : List D} {vs : List V}, Shs K Z H ds vs → ds.all D.flat = true → vs.any (fun x => eqV x y) = ds.any fun d => eqF d e
  | [], vs, h, _ => by
    have e : vs = [] := h
    subst e
    rfl
  | d :: ds, vs, ⟨v, r, e, s1, s2⟩, f => by
    subst e
    rw [List.all_cons, Bool.and_eq_true] at f
    rw [List.any_cons, List.any_cons, eqF_ok s1 hy f.1 f2, any_ok hy f2 s2 f.2]
theorem o_in : OpR X (compareOp .In) (rInA X.K false) := op_in_seq.or op_in_str
theorem o_notIn : OpR X (compareOp .NotIn) (rInA X.K true) := op_notIn_seq.or L2.op_notin_str
theorem seq_ok {Z : AP} {H : Hp} {d : D} {x : V} {ds : List D} (h : Sh K Z H d x) (e : seqOf d = some ds) : ∃ p vs, x = .ref p ∧ (SqL K H p vs ∨ SqT K H p vs) ∧ Shs K Z H ds vs := by
  cases d with
  | tup es =>
    cases e
    obtain ⟨a, vs, rfl, r, s⟩ := h
    exact ⟨a, vs, rfl, .inr r.sq, s⟩
  | lst es =>
    cases e
    obtain ⟨a, vs, rfl, r, s⟩ := h
    exact ⟨a, vs, rfl, .inl r.sq, s⟩
  | _ => cases e
theorem d_in {neg : Bool} : OpD K (rInA K neg) (gIn neg) := by
  intro Z H d e z x y Q hz hx hy hg k
  unfold gIn at hg
  cases h1 : seqOf e with
  | some ds =>
    rw [h1] at hg
    obtain ⟨⟨f1, f2⟩, rfl⟩ := if_ok hg
    obtain ⟨p, vs, rfl, hs, s⟩ := seq_ok hy h1
    refine .inl ⟨p, vs, rfl, hs, flat_ok hx f1, flats_ok s f2, ?_⟩
    have e1 : inV x vs = ds.any fun y => eqF y d := any_ok hx f1 s f2
    rw [e1]
    exact k _ H (Same.refl H) rfl
  | none =>
    rw [h1] at hg
    cases d with
    | str i =>
      cases e with
      | str j => cases hx; cases hy; cases hg; exact .inr ⟨i, j, rfl, rfl, k _ H (Same.refl H) rfl⟩
      | _ => cases hg
    | _ => cases e <;> cases hg
theorem isN_ok {Z : AP} {H : Hp} {d : D} {x : V} (h : Sh K Z H d x) : decide (x = .non) = d.isN := by
  cases d with
  | tup ds =>
    obtain ⟨a, vs, rfl, _⟩ := h
    rfl
  | lst ds =>
    obtain ⟨a, vs, rfl, _⟩ := h
    rfl
  | _ => cases h; rfl
theorem d_isN : OpD K (fun x y H Q => y = .non ∧ Q (.bl (decide (x = .non))) H) gIsN := by
  intro Z H d e z x y Q hz hx hy hg k
  obtain ⟨h1, rfl⟩ := if_ok hg
  have e1 := isN_ok hy
  rw [h1] at e1
  refine ⟨of_decide_eq_true e1, ?_⟩
  rw [isN_ok hx]
  exact k _ H (Same.refl H) rfl
theorem d_notN : OpD K (fun x y H Q => y = .non ∧ Q (.bl (!decide (x = .non))) H) gNotN := by
  intro Z H d e z x y Q hz hx hy hg k
  obtain ⟨h1, rfl⟩ := if_ok hg
  have e1 := isN_ok hy
  rw [h1] at e1
  refine ⟨of_decide_eq_true e1, ?_⟩
  rw [isN_ok hx]
  exact k _ H (Same.refl H) rfl
theorem atI_ok {Z : AP} {H : Hp} {ds : List D} {vs : List V} {i : Int} {d : D} (s : Shs K Z H ds vs) (h : atI ds i = some d) : ∃ v, atI vs i = some v ∧ Sh K Z H d v := by
  unfold atI at h ⊢
  rw [← s.len]
  cases e : ixN ds.length i with
  | none => rw [e] at h; cases h
  | some j =>
    rw [e] at h
    exact s.get h
theorem d_ix : OpD K (rIx K) gIx := by
  intro Z H d e z x y Q hz hx hy hg k
  cases e with
  | int i =>
    cases hy
    cases d with
    | tup ds =>
      obtain ⟨a, vs, rfl, r, s⟩ := hx
      have hg' : (match atI ds i with | some z => Res.ok z | none => .err) = .ok z := hg
      cases q : atI ds i with
      | none => rw [q] at hg'; cases hg'
      | some w =>
        rw [q] at hg'
        cases hg'
        obtain ⟨v, h1, h2⟩ := atI_ok s q
        exact .inr (.inl ⟨a, vs, i, v, rfl, rfl, r.sq, h1, k _ H (Same.refl H) h2⟩)
    | lst ds =>
      obtain ⟨a, vs, rfl, r, s⟩ := hx
      have hg' : (match atI ds i with | some z => Res.ok z | none => .err) = .ok z := hg
      cases q : atI ds i with
      | none => rw [q] at hg'; cases hg'
      | some w =>
        rw [q] at hg'
        cases hg'
        obtain ⟨v, h1, h2⟩ := atI_ok s q
        exact .inl ⟨a, vs, i, v, rfl, rfl, r.sq, h1, k _ H (Same.refl H) h2⟩
    | str w =>
      cases hx
      have hg' : (if w.length ≤ 16777216 then (match atI w.cps.toList i with | some c => Res.ok (D.str ⟨#[c]⟩) | none => .err) else .err) = .ok z := hg
      by_cases hl : w.length ≤ 16777216
      · rw [if_pos hl] at hg'
        cases q : atI w.cps.toList i with
        | none => rw [q] at hg'; cases hg'
        | some c =>
          rw [q] at hg'
          cases hg'
          exact .inr (.inr ⟨w, i, c, rfl, rfl, sizeLine_ge hl, q, k _ H (Same.refl H) rfl⟩)
      · rw [if_neg hl] at hg'; cases hg'
    | _ => cases hg
  | _ => cases d <;> cases hg
end
end DL
/-! built-in functions, slices -/
namespace DL
open PySem PySem.Spec PyProof.Rows L2

/-! ### slices -/
def cutL {α : Type} (xs : List α) (lo hi : Option Int) : List α := (xs.drop (HT.sIx xs.length 0 lo)).take (HT.sIx xs.length xs.length hi - HT.sIx xs.length 0 lo)
theorem Shs.cut {K : PySem.W.Frag} {Z : AP} {H : Hp} {ds : List D} {vs : List V} (h : Shs K Z H ds vs) (lo hi : Option Int) : Shs K Z H (cutL ds lo hi) (cutV vs lo hi) := by
  unfold cutL cutV
  rw [h.len]
  exact (h.drop _).take _
def tO (c : DC) (K : PySem.W.Frag) (q : Bool) (f : Ev → Res (Option Int × Ev)) : TO := fun σ H Q => ∃ ρ Z fo, RS c K ρ Z σ H fo ∧ ∃ o ρ', f ρ = .ok (o, ρ') ∧
  ∀ H' Z' fo', RS c K ρ' Z' σ H' fo' → Stp fo Z H fo' Z' H' → (q = true → Same H H') → Q o H'
structure DO (X : Cx) (c : DC) (q : Bool) (e : Option Expr) (f : Ev → Res (Option Int × Ev)) : Prop where
  po : PO X e (tO c X.K q f)
theorem PO.imp {X : Cx} {e : Option Expr} {t u : TO} (h : PO X e t) (k : ∀ σ H Q, u σ H Q → t σ H Q) : PO X e u := ⟨fun pins s σ H Q I q => h.run pins s σ H Q I (k _ _ _ q)⟩
def dNoPart (ρ : Ev) : Res (Option Int × Ev) := .ok (none, ρ)
def dPart (f : Ev → Res (D × Ev)) (ρ : Ev) : Res (Option Int × Ev) := (f ρ).bind fun p => match p.1 with
  | .int i => .ok (some i, p.2)
  | _ => .err
def SlD (K : PySem.W.Frag) (r : V → Option Int → Option Int → Hp → VK → Prop) (g : D → Option Int → Option Int → Res D) : Prop := ∀ (Z : AP) (H : Hp) (d z : D) (lo hi : Option Int) (x : V) (Q : VK), (∀ a, Z a → H a ≠ none) → Sh K Z H d x → g d lo hi = .ok z →
  (∀ v H', Same H H' → Sh K Z H' z v → Q v H') → r x lo hi H Q
def dSl (g : D → Option Int → Option Int → Res D) (f : Ev → Res (D × Ev)) (l h : Ev → Res (Option Int × Ev)) (ρ : Ev) : Res (D × Ev) := (f ρ).bind fun p => (l p.2).bind fun a => (h a.2).bind fun b => (g p.1 a.1 b.1).bind fun z => .ok (z, b.2)
def gSl (d : D) (lo hi : Option Int) : Res D := match d with
  | .tup ds => .ok (.tup (cutL ds lo hi))
  | .str z => if z.length ≤ 16777216 then .ok (.str (cutS z lo hi)) else .err
  | _ => .err
def rSlA2 (K : PySem.W.Frag) : V → Option Int → Option Int → Hp → VK → Prop := fun x lo hi H Q => rSlA K x lo hi H Q ∨ (∃ z, x = .str z ∧ z.length ≤ sizeLine ∧ Q (.str (cutS z lo hi)) H)
section
variable {X : Cx} {K : PySem.W.Frag} {c : DC} {q b : Bool} {a e : Expr} {fa fb : Ev → Res (D × Ev)} {pos p2 : Pos}
theorem do_none : DO X c q none dNoPart := ⟨by
  refine PO.imp po_none fun σ H Q ⟨ρ, Z, fo, R, o, ρ', hf, k⟩ => ?_
  cases hf
  exact k H Z fo R Stp.refl (fun _ => Same.refl H)⟩
theorem do_some (h : DE X c q b e fa) : DO X c q (some e) (dPart fa) := ⟨by
  refine PO.imp (po_some h.pe) fun σ H Q ⟨ρ, Z, fo, R, o, ρ', hf, k⟩ => ?_
  obtain ⟨⟨d1, ρ1⟩, h1, hf⟩ := Res.bind_ok hf
  refine ⟨ρ, Z, fo, R, d1, ρ1, h1, fun v H1 Z1 fo1 R1 s1 m1 p1 => ?_⟩
  cases d1 with
  | int i =>
    cases hf
    exact ⟨i, p1, k H1 Z1 fo1 R1 s1 m1⟩
  | _ => cases hf⟩
theorem de_sl {r : V → Option Int → Option Int → Hp → VK → Prop} {g : D → Option Int → Option Int → Res D} {lo hi : Option Expr} {l h : Ev → Res (Option Int × Ev)} (hr : SlR X r) (hg : SlD X.K r g) (he : DE X c q b e fa) (hl : DO X c q lo l) (hh : DO X c q hi h) (hq : b = true → q = true := by decide) :
    DE X c q b (.Subscript e (.Slice lo hi none p2) pos) (dSl g fa l h) := ⟨by
  refine PE.imp (pe_slice hr he.pe hl.po hh.po) fun σ H Q ⟨ρ, Z, fo, R, d, ρ', hf, k⟩ => ?_
  obtain ⟨⟨d1, ρ1⟩, h1, hf⟩ := Res.bind_ok hf
  obtain ⟨⟨o1, ρ2⟩, h2, hf⟩ := Res.bind_ok hf
  obtain ⟨⟨o2, ρ3⟩, h3, hf⟩ := Res.bind_ok hf
  obtain ⟨z, h4, hf⟩ := Res.bind_ok hf
  cases hf
  refine ⟨ρ, Z, fo, R, d1, ρ1, h1, fun x H1 Z1 fo1 R1 s1 m1 p1 => ⟨ρ1, Z1, fo1, R1, o1, ρ2, h2, fun H2 Z2 fo2 R2 s2 m2 => ⟨ρ2, Z2, fo2, R2, o2, ρ3, h3, fun H3 Z3 fo3 R3 s3 m3 => ?_⟩⟩⟩
  refine hg _ H3 d1 _ o1 o2 x Q (zb_own R3.ownN) (Rp.keep R1 hq (s2.trans s3) (fun hq => (m2 hq).trans (m3 hq)) p1) h4 fun v H4 sm p4 => ?_
  exact k v H4 Z3 fo3 (R3.same sm) (((s1.trans s2).trans s3).trans (Stp.same sm)) (fun hq => (((m1 hq).trans (m2 hq)).trans (m3 hq)).trans sm) p4⟩
theorem s_sl : SlR X (rSlA2 X.K) := sl_tupA.or sl_str
theorem d_sl : SlD K (rSlA2 K) gSl := by
  intro Z H d z lo hi x Q hz hx hg k
  cases d with
  | tup ds =>
    obtain ⟨p, vs, rfl, r, s⟩ := hx
    cases hg
    refine .inl ⟨p, vs, rfl, r.sq, fun ⟨h1, h2⟩ => ?_, fun _ t ht => ?_⟩
    · have e : cutL ds lo hi = ds := by
        unfold cutL
        rw [s.len, h1, h2, List.drop_zero, Nat.sub_zero, ← s.len, List.take_length]
      rw [e] at k
      exact k _ H (Same.refl H) ⟨p, vs, rfl, r, s⟩
    · have sm : Same H (upd H t (.tup (cutV vs lo hi))) := same_upd ht
      exact k _ _ sm ⟨t, _, rfl, RdT.new upd_same fun z => hz t z ht, Shs.same sm (s.cut lo hi)⟩
  | str w =>
    cases hx
    obtain ⟨h1, rfl⟩ := if_ok hg
    exact .inr ⟨w, rfl, sizeLine_ge h1, k _ H (Same.refl H) rfl⟩
  | _ => cases hg
/-- xs[lo:hi] of a list: a fresh list -/
def gCutL (d : D) (lo hi : Option Int) : Res D := match d with
  | .lst ds => .ok (.lst (cutL ds lo hi))
  | _ => .err
theorem df_sl {lo hi : Option Expr} {l h : Ev → Res (Option Int × Ev)} (he : DE X c false false e fa) (hl : DO X c false lo l) (hh : DO X c false hi h) :
    DF X c 0 (.Subscript e (.Slice lo hi none p2) pos) (dSl gCutL fa l h) := ⟨by
  refine PE.imp (pe_slice sl_list he.pe hl.po hh.po) fun σ H Q ⟨ρ, Z, fo, R, d, ρ', hf, k⟩ => ?_
  obtain ⟨⟨d1, ρ1⟩, h1, hf⟩ := Res.bind_ok hf
  obtain ⟨⟨o1, ρ2⟩, h2, hf⟩ := Res.bind_ok hf
  obtain ⟨⟨o2, ρ3⟩, h3, hf⟩ := Res.bind_ok hf
  obtain ⟨z, h4, hf⟩ := Res.bind_ok hf
  cases hf
  refine ⟨ρ, Z, fo, R, d1, ρ1, h1, fun x H1 Z1 fo1 R1 s1 m1 p1 => ⟨ρ1, Z1, fo1, R1, o1, ρ2, h2, fun H2 Z2 fo2 R2 s2 m2 => ⟨ρ2, Z2, fo2, R2, o2, ρ3, h3, fun H3 Z3 fo3 R3 s3 m3 => ?_⟩⟩⟩
  have p3 : Sh X.K Z3 H3 d1 x := Sh.stp ((s2.trans s3).s0 R1) p1
  cases d1 with
  | lst ds =>
    obtain ⟨p, vs, rfl, r, s⟩ := p3
    cases h4
    refine ⟨p, vs, rfl, r.sq, fun t ht => ?_⟩
    obtain ⟨R4, st⟩ := R3.take (vs := cutV vs o1 o2) ht
    exact k _ _ _ fo3 R4 (((s1.trans s2).trans s3).trans st) ((FrR.new R3 ht (s.cut o1 o2)).back ((s1.trans s2).trans s3))
  | _ => cases h4⟩
/-! ### built-in functions -/
def gLen : List D → Res D
  | [.tup ds] => .ok (.int ds.length)
  | [.lst ds] => .ok (.int ds.length)
  | [.str x] => if x.length ≤ 16777216 then .ok (.int x.length) else .err
  | _ => .err
theorem shs1 {Z : AP} {H : Hp} {d : D} {xs : List V} (h : Shs K Z H [d] xs) : ∃ x, xs = [x] ∧ Sh K Z H d x := by
  obtain ⟨v, r, rfl, s, t⟩ := h
  have e : r = [] := t
  subst e
  exact ⟨v, rfl, s⟩
theorem shs2 {Z : AP} {H : Hp} {d e : D} {xs : List V} (h : Shs K Z H [d, e] xs) : ∃ x y, xs = [x, y] ∧ Sh K Z H d x ∧ Sh K Z H e y := by
  obtain ⟨v, r, rfl, s, t⟩ := h
  obtain ⟨y, rfl, s2⟩ := shs1 t
  exact ⟨v, y, rfl, s, s2⟩
theorem c_len : CallD K (fun xs H Q => ∃ x n, xs = [x] ∧ LenV K x H n ∧ Q (.int n) H) gLen := by
  intro Z H ds z xs Q hz hx hg k
  unfold gLen at hg
  split at hg
  · obtain ⟨x, rfl, a, vs, rfl, r, s⟩ := shs1 hx
    cases hg
    exact ⟨_, vs.length, rfl, .inr ⟨vs, r.sq, rfl⟩, by rw [← s.len]; exact k _ H (Same.refl H) rfl⟩
  · obtain ⟨x, rfl, a, vs, rfl, r, s⟩ := shs1 hx
    cases hg
    exact ⟨_, vs.length, rfl, .inl ⟨vs, r.sq, rfl⟩, by rw [← s.len]; exact k _ H (Same.refl H) rfl⟩
  · obtain ⟨x, rfl, hx2⟩ := shs1 hx
    cases hx2
    obtain ⟨h1, rfl⟩ := if_ok hg
    exact ⟨_, _, rfl, (⟨sizeLine_ge h1, rfl⟩ : _ ∧ _), k _ H (Same.refl H) rfl⟩
  · cases hg
def gAbs : List D → Res D
  | [.int i] => .ok (.int (if i < 0 then -i else i))
  | _ => .err
theorem c_abs : CallD K (fun xs H Q => ∃ i, xs = [.int i] ∧ Q (.int (if i < 0 then -i else i)) H) gAbs := by
  intro Z H ds z xs Q hz hx hg k
  unfold gAbs at hg
  split at hg
  · obtain ⟨x, rfl, hx2⟩ := shs1 hx
    cases hx2
    cases hg
    exact ⟨_, rfl, k _ H (Same.refl H) rfl⟩
  · cases hg
def gMax2 : List D → Res D
  | [.int i, .int j] => .ok (.int (if j > i then j else i))
  | _ => .err
theorem c_max2 : CallD K (fun xs H Q => ∃ i j, xs = [.int i, .int j] ∧ Q (.int (if j > i then j else i)) H) gMax2 := by
  intro Z H ds z xs Q hz hx hg k
  unfold gMax2 at hg
  split at hg
  · obtain ⟨x, y, rfl, hx2, hy⟩ := shs2 hx
    cases hx2; cases hy; cases hg
    exact ⟨_, _, rfl, k _ H (Same.refl H) rfl⟩
  · cases hg
def gMin2 : List D → Res D
  | [.int i, .int j] => .ok (.int (if j < i then j else i))
  | _ => .err
theorem c_min2 : CallD K (fun xs H Q => ∃ i j, xs = [.int i, .int j] ∧ Q (.int (if j < i then j else i)) H) gMin2 := by
  intro Z H ds z xs Q hz hx hg k
  unfold gMin2 at hg
  split at hg
  · obtain ⟨x, y, rfl, hx2, hy⟩ := shs2 hx
    cases hx2; cases hy; cases hg
    exact ⟨_, _, rfl, k _ H (Same.refl H) rfl⟩
  · cases hg
def gIntOf : List D → Res D
  | [.int i] => .ok (.int i)
  | [.bl k] => .ok (.int (if k then 1 else 0))
  | _ => .err
theorem c_int : CallD K (fun xs H Q => (∃ i, xs = [.int i] ∧ Q (.int i) H) ∨ ∃ k, xs = [.bl k] ∧ Q (.int (if k then 1 else 0)) H) gIntOf := by
  intro Z H ds z xs Q hz hx hg k
  unfold gIntOf at hg
  split at hg
  · obtain ⟨x, rfl, hx2⟩ := shs1 hx
    cases hx2
    cases hg
    exact .inl ⟨_, rfl, k _ H (Same.refl H) rfl⟩
  · obtain ⟨x, rfl, hx2⟩ := shs1 hx
    cases hx2
    cases hg
    exact .inr ⟨_, rfl, k _ H (Same.refl H) rfl⟩
  · cases hg
def gTupOf : List D → Res D
  | [.lst ds] => .ok (.tup ds)
  | [.tup ds] => .ok (.tup ds)
  | _ => .err
theorem c_tuple : CallD K (fun xs H Q => ∃ p ys, xs = [.ref p] ∧ ((SqL K H p ys ∧ ∀ l, H l = none → Q (.ref l) (upd H l (.tup ys))) ∨ (SqT K H p ys ∧ Q (.ref p) H))) gTupOf := by
  intro Z H ds z xs Q hz hx hg k
  unfold gTupOf at hg
  split at hg
  · obtain ⟨x, rfl, a, vs, rfl, r, s⟩ := shs1 hx
    cases hg
    refine ⟨a, vs, rfl, .inl ⟨r.sq, fun l hl => ?_⟩⟩
    have sm : Same H (upd H l (.tup vs)) := same_upd hl
    exact k _ _ sm ⟨l, vs, rfl, RdT.new upd_same fun z => hz l z hl, s.same sm⟩
  · obtain ⟨x, rfl, a, vs, rfl, r, s⟩ := shs1 hx
    cases hg
    exact ⟨a, vs, rfl, .inr ⟨r.sq, k _ H (Same.refl H) ⟨a, vs, rfl, r, s⟩⟩⟩
  · cases hg
def bools? : List D → Option (List Bool)
  | [] => some []
  | .bl i :: ds => (bools? ds).map (i :: ·)
  | _ :: _ => none
theorem bools?_ok {Z : AP} {H : Hp} : ∀ {ds : List D} {vs : List V} {ns : List Bool}, Shs K Z H ds vs → bools? ds = some ns → vs = ns.map V.bl
  | [], vs, ns, h, e => by
    cases e
    exact h
  | .bl i :: ds, _, ns, ⟨v, r, rfl, s1, s2⟩, e => by
    cases q : bools? ds with
    | none => rw [show bools? (.bl i :: ds) = (bools? ds).map (i :: ·) from rfl, q] at e; cases e
    | some ms =>
      rw [show bools? (.bl i :: ds) = (bools? ds).map (i :: ·) from rfl, q] at e
      cases e
      have s1' : v = .bl i := s1
      rw [s1', bools?_ok s2 q]
      rfl
  | .non :: ds, _, _, _, e => by cases e
  | .int _ :: ds, _, _, _, e => by cases e
  | .str _ :: ds, _, _, _, e => by cases e
  | .tup _ :: ds, _, _, _, e => by cases e
  | .lst _ :: ds, _, _, _, e => by cases e
  | .fn _ :: ds, _, _, _, e => by cases e
  | .ty _ :: ds, _, _, _, e => by cases e
def gAny : List D → Res D
  | [.lst ds] => match bools? ds with
    | some bs => .ok (.bl (bs.any id))
    | none => .err
  | _ => .err
def gAll : List D → Res D
  | [.lst ds] => match bools? ds with
    | some bs => .ok (.bl (bs.all id))
    | none => .err
  | _ => .err
def gSum : List D → Res D
  | [.lst ds] => match ints? ds with
    | some ns => .ok (.int ns.sum)
    | none => .err
  | _ => .err
theorem c_any : CallD K (rAny K) gAny := by
  intro Z H ds z xs Q hz hx hg k
  unfold gAny at hg
  split at hg
  · obtain ⟨x, rfl, a, vs, rfl, r, s⟩ := shs1 hx
    split at hg
    · rename_i bs hb
      cases hg
      have e := bools?_ok s hb
      subst e
      exact ⟨a, bs, rfl, r.sq, k _ H (Same.refl H) rfl⟩
    · cases hg
  · cases hg
theorem c_all : CallD K (rAll K) gAll := by
  intro Z H ds z xs Q hz hx hg k
  unfold gAll at hg
  split at hg
  · obtain ⟨x, rfl, a, vs, rfl, r, s⟩ := shs1 hx
    split at hg
    · rename_i bs hb
      cases hg
      have e := bools?_ok s hb
      subst e
      exact ⟨a, bs, rfl, r.sq, k _ H (Same.refl H) rfl⟩
    · cases hg
  · cases hg
theorem c_sum : CallD K (rSum K) gSum := by
  intro Z H ds z xs Q hz hx hg k
  unfold gSum at hg
  split at hg
  · obtain ⟨x, rfl, a, vs, rfl, r, s⟩ := shs1 hx
    split at hg
    · rename_i bs hb
      cases hg
      have e := ints?_ok s hb
      subst e
      exact ⟨a, bs, rfl, r.sq, k _ H (Same.refl H) rfl⟩
    · cases hg
  · cases hg
/-- max, min of a list of ints -/
def maxI : List Int → Int
  | [] => 0
  | [n] => n
  | n :: ns => if maxI ns > n then maxI ns else n
def minI : List Int → Int
  | [] => 0
  | [n] => n
  | n :: ns => if minI ns < n then minI ns else n
theorem maxI_ok : ∀ {ns : List Int}, 0 < ns.length → maxI ns ∈ ns ∧ ∀ y ∈ ns, y ≤ maxI ns
  | [n], _ => ⟨by simp [maxI], by simp [maxI]⟩
  | n :: m :: ns, _ => by
    obtain ⟨h1, h2⟩ := maxI_ok (ns := m :: ns) (by simp)
    have e : maxI (n :: m :: ns) = if maxI (m :: ns) > n then maxI (m :: ns) else n := rfl
    rw [e]
    by_cases hc : maxI (m :: ns) > n
    · rw [if_pos hc]
      refine ⟨List.mem_cons_of_mem _ h1, fun y hy => ?_⟩
      rcases List.mem_cons.mp hy with rfl | hy
      · exact Int.le_of_lt hc
      · exact h2 y hy
    · rw [if_neg hc]
      refine ⟨List.mem_cons_self, fun y hy => ?_⟩
      rcases List.mem_cons.mp hy with rfl | hy
      · exact Int.le_refl _
      · exact Int.le_trans (h2 y hy) (Int.not_lt.mp hc)
theorem minI_ok : ∀ {ns : List Int}, 0 < ns.length → minI ns ∈ ns ∧ ∀ y ∈ ns, minI ns ≤ y
  | [n], _ => ⟨by simp [minI], by simp [minI]⟩
  | n :: m :: ns, _ => by
    obtain ⟨h1, h2⟩ := minI_ok (ns := m :: ns) (by simp)
    have e : minI (n :: m :: ns) = if minI (m :: ns) < n then minI (m :: ns) else n := rfl
    rw [e]
    by_cases hc : minI (m :: ns) < n
    · rw [if_pos hc]
      refine ⟨List.mem_cons_of_mem _ h1, fun y hy => ?_⟩
      rcases List.mem_cons.mp hy with rfl | hy
      · exact Int.le_of_lt hc
      · exact h2 y hy
    · rw [if_neg hc]
      refine ⟨List.mem_cons_self, fun y hy => ?_⟩
      rcases List.mem_cons.mp hy with rfl | hy
      · exact Int.le_refl _
      · exact Int.le_trans (Int.not_lt.mp hc) (h2 y hy)
def gMaxL : List D → Res D
  | [.lst ds] => match ints? ds with
    | some ns => if 0 < ns.length then .ok (.int (maxI ns)) else .err
    | none => .err
  | _ => .err
def gMinL : List D → Res D
  | [.lst ds] => match ints? ds with
    | some ns => if 0 < ns.length then .ok (.int (minI ns)) else .err
    | none => .err
  | _ => .err
theorem c_maxL : CallD K (rMax K) gMaxL := by
  intro Z H ds z xs Q hz hx hg k
  unfold gMaxL at hg
  split at hg
  · obtain ⟨x, rfl, a, vs, rfl, r, s⟩ := shs1 hx
    split at hg
    · rename_i bs hb
      obtain ⟨h1, rfl⟩ := if_ok hg
      have e := ints?_ok s hb
      subst e
      refine ⟨a, bs, rfl, r.sq, h1, fun m hm hle => ?_⟩
      obtain ⟨q1, q2⟩ := maxI_ok h1
      have e : m = maxI bs := Int.le_antisymm (q2 m hm) (hle _ q1)
      rw [e]
      exact k _ H (Same.refl H) rfl
    · cases hg
  · cases hg
theorem c_minL : CallD K (rMin K) gMinL := by
  intro Z H ds z xs Q hz hx hg k
  unfold gMinL at hg
  split at hg
  · obtain ⟨x, rfl, a, vs, rfl, r, s⟩ := shs1 hx
    split at hg
    · rename_i bs hb
      obtain ⟨h1, rfl⟩ := if_ok hg
      have e := ints?_ok s hb
      subst e
      refine ⟨a, bs, rfl, r.sq, h1, fun m hm hle => ?_⟩
      obtain ⟨q1, q2⟩ := minI_ok h1
      have e : m = minI bs := Int.le_antisymm (hle _ q1) (q2 m hm)
      rw [e]
      exact k _ H (Same.refl H) rfl
    · cases hg
  · cases hg
/-- isinstance -/
def D.tyn : D → Option String
  | .non => some "NoneType"
  | .bl _ => some "bool"
  | .int _ => some "int"
  | .str _ => some "str"
  | .tup _ => some "tuple"
  | .lst _ => some "list"
  | _ => none
theorem tyn_ok {Z : AP} {H : Hp} {d : D} {x : V} {t : String} (h : Sh K Z H d x) (e : d.tyn = some t) : TyX K H x (.type t) := by
  cases d with
  | non => cases h; cases e; exact .base .non
  | bl b => cases h; cases e; exact .base (.bl b)
  | int i => cases h; cases e; exact .base (.int i)
  | str s => cases h; cases e; exact .base (.str s)
  | tup ds =>
    obtain ⟨a, vs, rfl, r, s⟩ := h
    cases e
    rcases r.sq with (r | ⟨o, r⟩) | ⟨o, its, n, h1, h2, _⟩
    · exact .base (.tup r)
    · exact .fTuple r
    · exact .kTuple h1 h2
  | lst ds =>
    obtain ⟨a, vs, rfl, r, s⟩ := h
    cases e
    rcases r.sq with (r | ⟨o, r⟩) | ⟨o, its, n, h1, h2, _⟩
    · exact .base (.lst r)
    · exact .base (.frz r)
    · exact .kList h1 h2
  | _ => cases e
def tys? : List D → Option (List String)
  | [] => some []
  | .ty n :: ds => (tys? ds).map (n :: ·)
  | _ :: _ => none
def kitAll (a : String) : List String → Option Bool
  | [] => some false
  | n :: ns => match kitB a n with
    | some true => some true
    | some false => kitAll a ns
    | none => none
def gIsi : List D → Res D
  | [d, .ty n] => match d.tyn with
    | some t => match kitB t n with
      | some k => .ok (.bl k)
      | none => .err
    | none => .err
  | [d, .tup es] => match d.tyn, tys? es with
    | some t, some ns => match kitAll t ns with
      | some k => .ok (.bl k)
      | none => .err
    | _, _ => .err
  | _ => .err
def rIsiA (K : PySem.W.Frag) : List V → Hp → VK → Prop := fun xs H Q => rIsi K xs H Q ∨ rIsiT K xs H Q ∨ rIsiK K xs H Q
theorem c_isi_o : CallR X (.builtin "isinstance") (rIsiA X.K) := call_isi.or (call_isiT.or call_isiK)
theorem kitAll_ok {t : String} : ∀ {ns : List String} {k : Bool}, kitAll t ns = some k → PySem.W.kitAny K (.type t) (ns.map Value.type) = some k
  | [], k, h => by
    cases h
    exact kitAny_nil
  | n :: ns, k, h => by
    have h' : (match kitB t n with | some true => some true | some false => kitAll t ns | none => none) = some k := h
    cases e : kitB t n with
    | none => rw [e] at h'; cases h'
    | some r =>
      rw [e] at h'
      cases r with
      | true =>
        cases h'
        exact kitAny_cons (kit_ty e) (fun z => nomatch z) fun _ => rfl
      | false => exact kitAny_cons (kit_ty e) (fun _ => kitAll_ok h') fun z => nomatch z
theorem tys?_ok {Z : AP} {H : Hp} : ∀ {ds : List D} {vs : List V} {ns : List String}, Shs K Z H ds vs → tys? ds = some ns → vs = ns.map V.ty
  | [], vs, ns, h, e => by
    cases e
    exact h
  | .ty i :: ds, _, ns, ⟨v, r, rfl, s1, s2⟩, e => by
    cases q : tys? ds with
    | none => rw [show tys? (.ty i :: ds) = (tys? ds).map (i :: ·) from rfl, q] at e; cases e
    | some ms =>
      rw [show tys? (.ty i :: ds) = (tys? ds).map (i :: ·) from rfl, q] at e
      cases e
      have s1' : v = .ty i := s1
      rw [s1', tys?_ok s2 q]
      rfl
  | .non :: ds, _, _, _, e => by cases e
  | .int _ :: ds, _, _, _, e => by cases e
  | .str _ :: ds, _, _, _, e => by cases e
  | .tup _ :: ds, _, _, _, e => by cases e
  | .lst _ :: ds, _, _, _, e => by cases e
  | .fn _ :: ds, _, _, _, e => by cases e
  | .bl _ :: ds, _, _, _, e => by cases e
theorem paired_ty : ∀ ns : List String, Paired ClsV (ns.map V.ty) (ns.map Value.type)
  | [] => .nil
  | n :: ns => .cons (.ty n) (paired_ty ns)
theorem vals_ty : ∀ {ns : List String} {us : List Value}, Vals (ns.map V.ty) us → us = ns.map Value.type
  | [], us, h => by cases h; rfl
  | n :: ns, us, h => by
    cases h with
    | cons r t =>
      have r' : _ = Value.type n := r
      rw [r', vals_ty t]
      rfl
theorem c_isi : CallD K (rIsiA K) gIsi := by
  intro Z H ds z xs Q hz hx hg k
  unfold gIsi at hg
  split at hg
  · obtain ⟨x, y, rfl, hx2, hy⟩ := shs2 hx
    split at hg
    · rename_i t ht
      split at hg
      · rename_i kk hk
        cases hg
        cases hy
        exact .inl ⟨_, _, _, _, _, rfl, .ty _, tyn_ok hx2 ht, kit_ty hk, k _ H (Same.refl H) rfl⟩
      · cases hg
    · cases hg
  · obtain ⟨x, y, rfl, hx2, hy⟩ := shs2 hx
    split at hg
    · rename_i t ns ht hn
      split at hg
      · rename_i kk hk
        cases hg
        obtain ⟨p, vs, rfl, r, s⟩ := hy
        have e := tys?_ok s hn
        subst e
        have fin := k _ H (Same.refl H) (show Sh K Z H (.bl kk) (.bl kk) from rfl)
        rcases r with ⟨r, _⟩ | r
        · exact .inr (.inl ⟨x, p, _, _, _, kk, rfl, r, paired_ty ns, tyn_ok hx2 ht, kitAll_ok hk, fin⟩)
        · rcases r with (r | ⟨o, r⟩) | ⟨o, its, n, h1, h2, h3, _, h4⟩
          · cases r
          · cases r
          · have e4 := vals_ty h4
            refine .inr (.inr ⟨x, p, o.dict, ns.map Value.type, n, o.slots, _, kk, rfl, ?_, tyn_ok hx2 ht, kitAll_ok hk, fin⟩)
            rw [h1]
            obtain ⟨c1, c2, c3, c4⟩ := o
            simp only at h2 h3 ⊢
            rw [h2, h3, ← e4]
      · cases hg
    · cases hg
  · cases hg
theorem de_tyn {n : String} {x : PySem.Str} {pos : Pos} (hm : X.mg x = none) (hv : bootBuiltins x = some (.type n)) (hg : Gl X x := by rfl) (hn : x ≠ "__name__" := by decide) (hd : (x == ("__debug__" : Str)) = false := by decide) : DE X c q b (.Name x pos) (dConst (.ty n)) :=
  de_const (pe_bltn (v := .ty n) hg hm hv rfl hn hd) fun _ _ _ => rfl
end
end DL
/-! statements, owned lists changed, loops -/
namespace DL
open PySem PySem.Spec PyProof.Rows L2

inductive Fl where
  | nx (ρ : Ev)
  | rt (d : D) (ρ : Ev)
  | bk (ρ : Ev)
  | ct (ρ : Ev)
/-- what is handed back: shared, or fresh of level n + 1 -/
def RtR (c : DC) (K : PySem.W.Frag) (rk : Option Nat) (fo : Nat → AP) (Z : AP) (H : Hp) (d : D) (v : V) : Prop := match rk with
  | none => Sh K Z H d v
  | some n => FrR c K (fun _ _ => True) H fo Z H n d v
def SEnd (c : DC) (K : PySem.W.Frag) (rk : Option Nat) (fo : Nat → AP) (Z : AP) (H : Hp) (E : Ends) : Fl → Prop
  | .nx ρ' => ∀ σ' H' Z' fo', RS c K ρ' Z' σ' H' fo' → Stp fo Z H fo' Z' H' → E.nx σ' H'
  | .bk ρ' => ∀ σ' H' Z' fo', RS c K ρ' Z' σ' H' fo' → Stp fo Z H fo' Z' H' → E.bk σ' H'
  | .ct ρ' => ∀ σ' H' Z' fo', RS c K ρ' Z' σ' H' fo' → Stp fo Z H fo' Z' H' → E.ct σ' H'
  | .rt d ρ' => ∀ v σ' H' Z' fo', RS c K ρ' Z' σ' H' fo' → Stp fo Z H fo' Z' H' → RtR c K rk fo' Z' H' d v → E.rt v H'
theorem SEnd.stp {c : DC} {K : PySem.W.Frag} {rk : Option Nat} {fo fo1 : Nat → AP} {Z Z1 : AP} {H H1 : Hp} {E : Ends} {fl : Fl} (h : SEnd c K rk fo Z H E fl) (s : Stp fo Z H fo1 Z1 H1) : SEnd c K rk fo1 Z1 H1 E fl := by
  cases fl with
  | nx ρ => exact fun σ' H' Z' fo' R s' => h σ' H' Z' fo' R (s.trans s')
  | bk ρ => exact fun σ' H' Z' fo' R s' => h σ' H' Z' fo' R (s.trans s')
  | ct ρ => exact fun σ' H' Z' fo' R s' => h σ' H' Z' fo' R (s.trans s')
  | rt d ρ => exact fun v σ' H' Z' fo' R s' => h v σ' H' Z' fo' R (s.trans s')
def tS (c : DC) (K : PySem.W.Frag) (rk : Option Nat) (f : Ev → Res Fl) : TS := fun E σ H => ∃ ρ Z fo, RS c K ρ Z σ H fo ∧ ∃ fl, f ρ = .ok fl ∧ SEnd c K rk fo Z H E fl
structure DS (X : Cx) (c : DC) (rk : Option Nat) (st : Stmt) (f : Ev → Res Fl) : Prop where
  ps : PS X st (tS c X.K rk f)
structure DSs (X : Cx) (c : DC) (rk : Option Nat) (st : List Stmt) (f : Ev → Res Fl) : Prop where
  ps : PSs X st (tS c X.K rk f)
def sNil (ρ : Ev) : Res Fl := .ok (.nx ρ)
def sSeq (f g : Ev → Res Fl) (ρ : Ev) : Res Fl := (f ρ).bind fun fl => match fl with
  | .nx ρ' => g ρ'
  | fl => .ok fl
def sIf (t : Ev → Res (Bool × Ev)) (f g : Ev → Res Fl) : Ev → Res Fl := dIf t f g
def sSet (i : Nat) (f : Ev → Res (D × Ev)) (ρ : Ev) : Res Fl := (f ρ).bind fun p => .ok (.nx (p.2.set i (some p.1)))
def sRet (f : Ev → Res (D × Ev)) (ρ : Ev) : Res Fl := (f ρ).bind fun p => .ok (.rt p.1 p.2)
def sDrop (f : Ev → Res (D × Ev)) (ρ : Ev) : Res Fl := (f ρ).bind fun p => .ok (.nx p.2)
def sErr (_ : Ev) : Res Fl := .err
section
variable {X : Cx} {c : DC} {rk : Option Nat} {q b : Bool} {e : Expr} {st : Stmt} {sts : List Stmt} {f g : Ev → Res Fl} {fe : Ev → Res (D × Ev)} {pos : Pos}
theorem dss_nil : DSs X c rk [] sNil := ⟨by
  refine PSs.imp pss_nil fun E σ H ⟨ρ, Z, fo, R, fl, hf, k⟩ => ?_
  cases hf
  exact k σ H Z fo R Stp.refl⟩
theorem dss_cons (h1 : DS X c rk st f) (h2 : DSs X c rk sts g) : DSs X c rk (st :: sts) (sSeq f g) := ⟨by
  refine PSs.imp (pss_cons h1.ps h2.ps) fun E σ H ⟨ρ, Z, fo, R, fl, hf, k⟩ => ?_
  obtain ⟨fl1, e1, hf⟩ := Res.bind_ok hf
  refine ⟨ρ, Z, fo, R, fl1, e1, ?_⟩
  cases fl1 with
  | nx ρ1 => exact fun σ1 H1 Z1 fo1 R1 s1 => ⟨ρ1, Z1, fo1, R1, fl, hf, k.stp s1⟩
  | rt d ρ1 => cases hf; exact k
  | bk ρ1 => cases hf; exact k
  | ct ρ1 => cases hf; exact k⟩
theorem dss_one (h1 : DS X c rk st f) : DSs X c rk [st] f := ⟨pss_one h1.ps⟩
theorem ds_if {t : Expr} {a b : List Stmt} {ft : Ev → Res (Bool × Ev)} (ht : DT X c false t ft) (ha : DSs X c rk a f) (hb : DSs X c rk b g) : DS X c rk (.If t a b pos) (sIf ft f g) := ⟨by
  refine PS.imp (ps_if ht.pt ha.ps hb.ps) fun E σ H ⟨ρ, Z, fo, R, fl, hf, k⟩ => ?_
  obtain ⟨⟨d1, ρ1⟩, h1, hf⟩ := Res.bind_ok hf
  refine ⟨ρ, Z, fo, R, d1, ρ1, h1, fun H1 Z1 fo1 R1 s1 m1 => ?_⟩
  cases d1 with
  | true =>
    rw [if_pos rfl] at hf ⊢
    exact ⟨ρ1, Z1, fo1, R1, fl, hf, k.stp s1⟩
  | false =>
    rw [if_neg Bool.false_ne_true] at hf ⊢
    exact ⟨ρ1, Z1, fo1, R1, fl, hf, k.stp s1⟩⟩
theorem ds_set (i : Nat) {x : PySem.Str} {pos' : Pos} (nd : X.N.Nodup) (he : DE X c false false e fe) (hk : c.ks.getD i 0 = 0 := by rfl) (hp : c.pl.contains i = false := by rfl) (hi : X.N[i]? = some x := by rfl) (hx : Loc X.env.scope x := by first | exact Or.inl rfl | exact Or.inr rfl)
    (hs : swapsWith e (some (.Name x pos')) pos.line X.env = pure false := by rfl) (hf : X.fn x = true ∨ X.env.scope.names.lookup x = some .local := by first | exact .inl rfl | exact .inr rfl) : DS X c rk (.Assign [.Name x pos'] e pos) (sSet i fe) := ⟨by
  refine PS.imp (ps_set nd hi hx he.pe hs hf) fun E σ H ⟨ρ, Z, fo, R, fl, hf, k⟩ => ?_
  obtain ⟨⟨d1, ρ1⟩, h1, hf⟩ := Res.bind_ok hf
  cases hf
  exact ⟨ρ, Z, fo, R, d1, ρ1, h1, fun v H1 Z1 fo1 R1 s1 m1 p1 => k _ H1 Z1 fo1 (R1.set hk hp p1) s1⟩⟩
/-- a slot of level n + 1 takes a fresh list -/
theorem RS.adopt {K : PySem.W.Frag} {ρ : Ev} {Z Zz : AP} {σ : L2.St} {H H0 : Hp} {fo fo0 : Nat → AP} {i n : Nat} {d : D} {v : V} (R : RS c K ρ Z σ H fo) (hk : c.ks.getD i 0 = n + 1) (hp0 : c.pl.contains i = false) (s : Stp fo0 Zz H0 fo Z H) (h : FrR c K fo0 H0 fo Z H n d v) :
    ∃ fo', RS c K (ρ.set i (some d)) Z (σ.set i (some v)) H fo' ∧ Stp fo0 Zz H0 fo' Z H := by
  have hp := npl hp0
  obtain ⟨P, h1, h2, h3, h4⟩ := h.ex
  refine ⟨fun j b => if j = i then P b else fo j b, ?_, ⟨s.k1, s.k2, s.k3, fun j b hj => ?_⟩⟩
  rotate_left
  · by_cases qj : j = i
    · rw [if_pos qj] at hj
      exact h4 b hj
    · rw [if_neg qj] at hj
      exact s.k4 j b hj
  refine { R with len := by rw [List.length_set, List.length_set]; exact R.len, val := fun j e he => ?_, dis := fun j k b hj hk => ?_, sub := fun j b hj => ?_, pin := fun j hj => ?_ }
  · by_cases q : i = j
    · subst q
      by_cases hl : i < ρ.length
      · rw [List.getElem?_set_self hl] at he
        have e1 : d = e := Option.some.inj (Option.some.inj he)
        subst e1
        refine ⟨v, List.getElem?_set_self (R.len ▸ hl), ?_⟩
        rw [hk]
        exact Ow.more (P := P) (fun b hb => by rw [if_pos rfl]; exact hb) h1
      · rw [List.getElem?_eq_none (by simpa using hl)] at he; cases he
    · rw [List.getElem?_set_ne q] at he
      obtain ⟨w, h4, h5⟩ := R.val j e he
      refine ⟨w, by rw [List.getElem?_set_ne q]; exact h4, Ow.more (P := fo j) (fun b hb => ?_) h5⟩
      rw [if_neg (fun z => q z.symm)]
      exact hb
  · by_cases qj : j = i
    · by_cases qk : k = i
      · rw [qj, qk]
      · rw [if_pos qj] at hj
        rw [if_neg qk] at hk
        exact absurd hk (h3 k b hj)
    · by_cases qk : k = i
      · rw [if_neg qj] at hj
        rw [if_pos qk] at hk
        exact absurd hj (h3 j b hk)
      · rw [if_neg qj] at hj
        rw [if_neg qk] at hk
        exact R.dis j k b hj hk
  · by_cases qj : j = i
    · rw [if_pos qj] at hj
      exact h2 b hj
    · rw [if_neg qj] at hj
      exact R.sub j b hj
  · rw [List.getElem?_set_ne (fun (e : i = j) => hp (by rw [e]; exact hj))]
    exact R.pin j hj
theorem ds_new (i : Nat) {n : Nat} {x : PySem.Str} {pos' : Pos} (nd : X.N.Nodup) (he : DF X c n e fe) (hk : c.ks.getD i 0 = n + 1 := by rfl) (hp : c.pl.contains i = false := by rfl) (hi : X.N[i]? = some x := by rfl) (hx : Loc X.env.scope x := by first | exact Or.inl rfl | exact Or.inr rfl)
    (hs : swapsWith e (some (.Name x pos')) pos.line X.env = pure false := by rfl) (hf : X.fn x = true ∨ X.env.scope.names.lookup x = some .local := by first | exact .inl rfl | exact .inr rfl) : DS X c rk (.Assign [.Name x pos'] e pos) (sSet i fe) := ⟨by
  refine PS.imp (ps_set nd hi hx he.pe hs hf) fun E σ H ⟨ρ, Z, fo, R, fl, hf, k⟩ => ?_
  obtain ⟨⟨d1, ρ1⟩, h1, hf⟩ := Res.bind_ok hf
  cases hf
  refine ⟨ρ, Z, fo, R, d1, ρ1, h1, fun v H1 Z1 fo1 R1 s1 p1 => ?_⟩
  obtain ⟨fo2, R2, s2⟩ := R1.adopt hk hp s1 p1
  exact k _ H1 Z1 fo2 R2 s2⟩
theorem ds_ret (he : DE X c false false e fe) : DS X c none (.Return (some e) pos) (sRet fe) := ⟨by
  refine PS.imp (ps_ret he.pe) fun E σ H ⟨ρ, Z, fo, R, fl, hf, k⟩ => ?_
  obtain ⟨⟨d1, ρ1⟩, h1, hf⟩ := Res.bind_ok hf
  cases hf
  exact ⟨ρ, Z, fo, R, d1, ρ1, h1, fun v H1 Z1 fo1 R1 s1 m1 p1 => k v σ H1 Z1 fo1 R1 s1 p1⟩⟩
theorem ds_retF {n : Nat} (he : DF X c n e fe) : DS X c (some n) (.Return (some e) pos) (sRet fe) := ⟨by
  refine PS.imp (ps_ret he.pe) fun E σ H ⟨ρ, Z, fo, R, fl, hf, k⟩ => ?_
  obtain ⟨⟨d1, ρ1⟩, h1, hf⟩ := Res.bind_ok hf
  cases hf
  exact ⟨ρ, Z, fo, R, d1, ρ1, h1, fun v H1 Z1 fo1 R1 s1 p1 => k v σ H1 Z1 fo1 R1 s1 ⟨let ⟨P, h1, h2, h3, _⟩ := p1.ex; ⟨P, h1, h2, h3, fun b _ => .inl ⟨0, True.intro⟩⟩⟩⟩⟩
/-- a name of an owned list, handed out as fresh -/
theorem df_own (i : Nat) {n : Nat} {x : PySem.Str} (hk : c.ks.getD i 0 = n + 1 := by rfl) (hN : X.N[i]? = some x := by rfl) (hv : Vis X.env.scope x := by first | exact Or.inl rfl | exact Or.inr (Or.inl rfl) | exact Or.inr (Or.inr rfl)) (hd : (x == ("__debug__" : Str)) = false := by decide)
    (hcd : (x == ("__classdict__" : Str)) = false := by decide) : DF X c n (.Name x pos) (dTake i) := ⟨by
  refine PE.imp (pe_var hN hv hd hcd) fun σ H Q ⟨ρ, Z, fo, R, d, ρ', hf, k⟩ => ?_
  obtain ⟨e, rfl⟩ := dTake_ok hf
  obtain ⟨v, h1, h2⟩ := R.val i d e
  rw [hk] at h2
  refine ⟨v, h1, k v H Z (fun j b => fo j b ∧ j ≠ i) ?_ ⟨fun _ _ h _ => h, fun _ h => .inl h, fun _ h _ _ => h, fun j b hj => .inl ⟨j, hj.1⟩⟩ ⟨fo i, h2, R.sub i, fun j b hb hj => hj.2 (R.dis j i b hj.1 hb), fun b hb => .inl ⟨i, hb⟩⟩⟩
  refine { R with len := by rw [List.length_set]; exact R.len, val := fun j e he => ?_, dis := fun i j b h1 h2 => R.dis i j b h1.1 h2.1, sub := fun j b hj => R.sub j b hj.1 }
  by_cases q : i = j
  · subst q
    by_cases hl : i < ρ.length
    · rw [List.getElem?_set_self hl] at he; cases he
    · rw [List.getElem?_eq_none (by simpa using hl)] at he; cases he
  · rw [List.getElem?_set_ne q] at he
    obtain ⟨w, h3, h4⟩ := R.val j e he
    exact ⟨w, h3, Ow.more (P := fo j) (fun b hb => ⟨hb, fun z => q z.symm⟩) h4⟩⟩
def sRetN (ρ : Ev) : Res Fl := .ok (.rt .non ρ)
theorem ds_retN : DS X c none (.Return none pos) sRetN := ⟨by
  refine PS.imp ps_retN fun E σ H ⟨ρ, Z, fo, R, fl, hf, k⟩ => ?_
  cases hf
  exact k _ σ H Z fo R Stp.refl rfl⟩
theorem ds_drop (he : DE X c false false e fe) (hs : swapsWith e none pos.line X.env = pure false := by rfl) : DS X c rk (.Expr e pos) (sDrop fe) := ⟨by
  refine PS.imp (ps_expr he.pe hs) fun E σ H ⟨ρ, Z, fo, R, fl, hf, k⟩ => ?_
  obtain ⟨⟨d1, ρ1⟩, h1, hf⟩ := Res.bind_ok hf
  cases hf
  exact ⟨ρ, Z, fo, R, d1, ρ1, h1, fun v H1 Z1 fo1 R1 s1 m1 p1 => k σ H1 Z1 fo1 R1 s1⟩⟩
theorem ds_never : DS X c rk st sErr := ⟨PS.imp ps_never fun E σ H ⟨ρ, Z, fo, R, fl, hf, k⟩ => by cases hf⟩
theorem ds_pass : DS X c rk (.Pass pos) sNil := ⟨by
  refine PS.imp ps_pass fun E σ H ⟨ρ, Z, fo, R, fl, hf, k⟩ => ?_
  cases hf
  exact k σ H Z fo R Stp.refl⟩
def sBreak (ρ : Ev) : Res Fl := .ok (.bk ρ)
def sCont (ρ : Ev) : Res Fl := .ok (.ct ρ)
theorem ds_break : DS X c rk (.Break pos) sBreak := ⟨by
  refine PS.imp ps_break fun E σ H ⟨ρ, Z, fo, R, fl, hf, k⟩ => ?_
  cases hf
  exact k σ H Z fo R Stp.refl⟩
theorem ds_cont : DS X c rk (.Continue pos) sCont := ⟨by
  refine PS.imp ps_continue fun E σ H ⟨ρ, Z, fo, R, fl, hf, k⟩ => ?_
  cases hf
  exact k σ H Z fo R Stp.refl⟩
/-- x op= e -/
def sAug (i : Nat) (g : D → D → Res D) (f : Ev → Res (D × Ev)) (ρ : Ev) : Res Fl := match ρ[i]? with
  | some (some x) => (f ρ).bind fun p => (g x p.1).bind fun z => .ok (.nx (p.2.set i (some z)))
  | _ => .err
theorem ds_aug (i : Nat) {x : PySem.Str} {op : Operator} {r : R2} {g : D → D → Res D} {pos' : Pos} (nd : X.N.Nodup) (ho : OpR X (inplaceOp op) r) (hg : OpD X.K r g) (he : DE X c false false e fe) (hk : c.ks.getD i 0 = 0 := by rfl) (hp : c.pl.contains i = false := by rfl)
    (hi : X.N[i]? = some x := by rfl) (hx : Loc X.env.scope x := by first | exact Or.inl rfl | exact Or.inr rfl) (hf : X.fn x = true ∨ X.env.scope.names.lookup x = some .local := by first | exact .inl rfl | exact .inr rfl) : DS X c rk (.AugAssign (.Name x pos') op e pos) (sAug i g fe) := ⟨by
  refine PS.imp (ps_aug nd hi hx he.pe (ti := r) ho hf) fun E σ H ⟨ρ, Z, fo, R, fl, hf, k⟩ => ?_
  unfold sAug at hf
  split at hf
  · rename_i d0 h0
    obtain ⟨⟨d1, ρ1⟩, h1, hf⟩ := Res.bind_ok hf
    obtain ⟨z, h2, hf⟩ := Res.bind_ok hf
    cases hf
    obtain ⟨v, q1, q2⟩ := R.val i d0 h0
    rw [hk] at q2
    refine ⟨v, q1, ρ, Z, fo, R, d1, ρ1, h1, fun w H1 Z1 fo1 R1 s1 m1 p1 => ?_⟩
    refine hg Z1 H1 d0 d1 _ v w _ R1.ownN (Sh.stp (s1.s0 R) q2) p1 h2 fun u H2 sm p2 => ?_
    exact k _ H2 Z1 fo1 ((R1.same sm).set hk hp p2) (s1.trans (Stp.same sm))
  · cases hf⟩

/-! targets -/
/-- only the slots ts are stored -/
def Only (ts : List Nat) (σ σ' : L2.St) : Prop := σ'.length = σ.length ∧ ∀ j, j ∉ ts → σ'[j]? = σ[j]?
theorem Only.refl {ts : List Nat} {σ : L2.St} : Only ts σ σ := ⟨rfl, fun _ _ => rfl⟩
theorem Only.trans {ts us : List Nat} {σ σ' σ'' : L2.St} (a : Only ts σ σ') (b : Only us σ' σ'') : Only (ts ++ us) σ σ'' :=
  ⟨b.1.trans a.1, fun j hj => (b.2 j fun z => hj (List.mem_append_right _ z)).trans (a.2 j fun z => hj (List.mem_append_left _ z))⟩
def tG (c : DC) (K : PySem.W.Frag) (ts : List Nat) (g : D → Ev → Res Ev) : TG := fun v σ H Q => ∃ ρ Z fo d, RS c K ρ Z σ H fo ∧ Sh K Z H d v ∧ ∃ ρ', g d ρ = .ok ρ' ∧ ∀ σ' H' Z' fo', RS c K ρ' Z' σ' H' fo' → Stp fo Z H fo' Z' H' → Only ts σ σ' → Q σ' H'
def tGs (c : DC) (K : PySem.W.Frag) (ts : List Nat) (g : List D → Ev → Res Ev) : TGs := fun vs σ H Q => ∃ ρ Z fo ds, RS c K ρ Z σ H fo ∧ Shs K Z H ds vs ∧ ∃ ρ', g ds ρ = .ok ρ' ∧ ∀ σ' H' Z' fo', RS c K ρ' Z' σ' H' fo' → Stp fo Z H fo' Z' H' → Only ts σ σ' → Q σ' H'
structure DG (X : Cx) (c : DC) (tg : Expr) (ts : List Nat) (g : D → Ev → Res Ev) : Prop where
  pg : PG X tg (tG c X.K ts g)
structure DGs (X : Cx) (c : DC) (tg : List Expr) (ts : List Nat) (g : List D → Ev → Res Ev) : Prop where
  pg : PGs X tg (tGs c X.K ts g)
theorem PG.imp {X : Cx} {e : Expr} {t u : TG} (h : PG X e t) (k : ∀ v σ H Q, u v σ H Q → t v σ H Q) : PG X e u := ⟨fun pins s σ H v w Q I r q => h.run pins s σ H v w Q I r (k _ _ _ _ q)⟩
theorem PGs.imp {X : Cx} {e : List Expr} {t u : TGs} (h : PGs X e t) (k : ∀ v σ H Q, u v σ H Q → t v σ H Q) : PGs X e u := ⟨fun pins s σ H v w Q I r q => h.run pins s σ H v w Q I r (k _ _ _ _ q)⟩
def gtName (i : Nat) (d : D) (ρ : Ev) : Res Ev := .ok (ρ.set i (some d))
def gtNil (ds : List D) (ρ : Ev) : Res Ev := match ds with
  | [] => .ok ρ
  | _ => .err
def gtCons (g : D → Ev → Res Ev) (gs : List D → Ev → Res Ev) (ds : List D) (ρ : Ev) : Res Ev := match ds with
  | d :: r => (g d ρ).bind fun ρ1 => gs r ρ1
  | [] => .err
def gtTup (n : Nat) (gs : List D → Ev → Res Ev) (d : D) (ρ : Ev) : Res Ev := match d with
  | .tup ds => if ds.length = n then gs ds ρ else .err
  | _ => .err
theorem dg_name (i : Nat) {x : PySem.Str} (nd : X.N.Nodup) (hk : c.ks.getD i 0 = 0 := by rfl) (hp : c.pl.contains i = false := by rfl) (hi : X.N[i]? = some x := by rfl) (hx : Loc X.env.scope x := by first | exact Or.inl rfl | exact Or.inr rfl)
    (hf : X.fn x = true ∨ X.env.scope.names.lookup x = some .local := by first | exact .inl rfl | exact .inr rfl) : DG X c (.Name x pos) [i] (gtName i) := ⟨by
  refine PG.imp (pg_name nd hi hx hf) fun v σ H Q ⟨ρ, Z, fo, d, R, p, ρ', hf, k⟩ => ?_
  cases hf
  exact k _ H Z fo (R.set hk hp p) Stp.refl ⟨by rw [List.length_set], fun j hj => List.getElem?_set_ne fun e => hj (by rw [e]; exact List.mem_singleton_self _)⟩⟩
theorem dgs_nil : DGs X c [] [] gtNil := ⟨by
  refine PGs.imp pgs_nil fun vs σ H Q ⟨ρ, Z, fo, ds, R, p, ρ', hf, k⟩ => ?_
  cases ds with
  | nil =>
    cases hf
    exact ⟨p, k σ H Z fo R Stp.refl Only.refl⟩
  | cons _ _ => cases hf⟩
theorem dgs_cons {es : List Expr} {g : D → Ev → Res Ev} {gs : List D → Ev → Res Ev} {ts us : List Nat} (h1 : DG X c e ts g) (h2 : DGs X c es us gs) (hs : (assignEach (e :: es) X.env).map (·.2) = assign e X.env :: (assignEach es X.env).map (·.2) := by rfl) : DGs X c (e :: es) (ts ++ us) (gtCons g gs) := ⟨by
  refine PGs.imp (pgs_cons h1.pg h2.pg hs) fun vs σ H Q ⟨ρ, Z, fo, ds, R, p, ρ', hf, k⟩ => ?_
  cases ds with
  | nil => cases hf
  | cons d r =>
    obtain ⟨ρ1, e1, hf⟩ := Res.bind_ok hf
    obtain ⟨v, vr, rfl, p1, p2⟩ := p
    refine ⟨v, vr, rfl, ρ, Z, fo, d, R, p1, ρ1, e1, fun σ1 H1 Z1 fo1 R1 s1 o1 => ⟨ρ1, Z1, fo1, r, R1, Shs.stp (s1.s0 R) p2, ρ', hf, fun σ2 H2 Z2 fo2 R2 s2 o2 => k σ2 H2 Z2 fo2 R2 (s1.trans s2) (o1.trans o2)⟩⟩⟩
theorem dg_tup {es : List Expr} {k n : Nat} {gs : List D → Ev → Res Ev} {ts : List Nat} (hc : X.calm = true) (h : DGs X c es ts gs) (hn : (assignEach es X.env).length = n := by rfl) (hst : (assignEach es X.env).findIdx? (·.1) = none := by rfl) : DG X c (.Tuple es k pos) ts (gtTup n gs) := ⟨by
  refine PG.imp (pg_tup hc h.pg hn hst) fun v σ H Q ⟨ρ, Z, fo, d, R, p, ρ', hf, k⟩ => ?_
  cases d with
  | tup ds =>
    obtain ⟨a, vs, rfl, r, s⟩ := p
    have hf' : (if ds.length = n then gs ds ρ else .err) = .ok ρ' := hf
    by_cases hl : ds.length = n
    · rw [if_pos hl] at hf'
      exact ⟨a, vs, rfl, r.sq, s.len ▸ hl, ρ, Z, fo, ds, R, s, ρ', hf', k⟩
    · rw [if_neg hl] at hf'; cases hf'
  | _ => cases hf⟩
def sAsg (f : Ev → Res (D × Ev)) (g : D → Ev → Res Ev) (ρ : Ev) : Res Fl := (f ρ).bind fun p => (g p.1 p.2).bind fun ρ' => .ok (.nx ρ')
theorem ds_asg {tg : Expr} {ts : List Nat} {gt : D → Ev → Res Ev} (he : DE X c false false e fe) (hg : DG X c tg ts gt) (hs : swapsWithSole [tg] e pos.line X.env = pure false := by rfl) (hw : swappedStores [tg] e X.env = pure none := by rfl)
    (h1 : (assignEach [tg] X.env).map (·.2) = [assign tg X.env] := by rfl) : DS X c rk (.Assign [tg] e pos) (sAsg fe gt) := ⟨by
  refine PS.imp (ps_asg he.pe hg.pg hs hw h1) fun E σ H ⟨ρ, Z, fo, R, fl, hf, k⟩ => ?_
  obtain ⟨⟨d1, ρ1⟩, h1, hf⟩ := Res.bind_ok hf
  obtain ⟨ρ2, h2, hf⟩ := Res.bind_ok hf
  cases hf
  exact ⟨ρ, Z, fo, R, d1, ρ1, h1, fun v H1 Z1 fo1 R1 s1 m1 p1 => ⟨ρ1, Z1, fo1, d1, R1, p1, ρ2, h2, fun σ2 H2 Z2 fo2 R2 s2 _ => k σ2 H2 Z2 fo2 R2 (s1.trans s2)⟩⟩⟩
def sPar (is : List Nat) (f : Ev → Res (List D × Ev)) (ρ : Ev) : Res Fl := (f ρ).bind fun p => match is, p.1 with
  | [i, j], [x, y] => .ok (.nx ((p.2.set i (some x)).set j (some y)))
  | [i, j, l], [x, y, z] => .ok (.nx (((p.2.set i (some x)).set j (some y)).set l (some z)))
  | _, _ => .err
theorem ds_par (i j : Nat) {x y : PySem.Str} {a e : Expr} {px py pt : Pos} {kt k2 pt2} {fs : Ev → Res (List D × Ev)} (hc : X.calm = true) (nd : X.N.Nodup) (ha : DAs X c false false [a, e] fs) (hki : c.ks.getD i 0 = 0 := by rfl) (hpi : c.pl.contains i = false := by rfl) (hkj : c.ks.getD j 0 = 0 := by rfl) (hpj : c.pl.contains j = false := by rfl)
    (hi : X.N[i]? = some x := by rfl) (hj : X.N[j]? = some y := by rfl) (hij : i ≠ j := by decide) (hx : X.env.scope.names.lookup x = some .local := by rfl) (hy : X.env.scope.names.lookup y = some .local := by rfl)
    (hw : swappedStores [.Tuple [.Name x px, .Name y py] kt pt] (.Tuple [a, e] k2 pt2) X.env = pure (some [x, y]) := by rfl)
    (hs : swapsWithSole [.Tuple [.Name x px, .Name y py] kt pt] (.Tuple [a, e] k2 pt2) pos.line X.env = pure false := by rfl) :
    DS X c rk (.Assign [.Tuple [.Name x px, .Name y py] kt pt] (.Tuple [a, e] k2 pt2) pos) (sPar [i, j] fs) := ⟨by
  refine PS.imp (ps_par hc nd hi hj hij hx hy ha.pa hw hs) fun E σ H ⟨ρ, Z, fo, R, fl, hf, k⟩ => ?_
  obtain ⟨⟨d1, ρ1⟩, h1, hf⟩ := Res.bind_ok hf
  refine ⟨ρ, Z, fo, R, d1, ρ1, h1, fun vs H1 Z1 fo1 R1 s1 m1 l1 p1 => ?_⟩
  match d1, hf, p1 with
  | [d, d2], hf, p1 =>
    cases hf
    obtain ⟨v, w, rfl, q1, q2⟩ := shs2 p1
    exact ⟨v, w, rfl, k _ H1 Z1 fo1 ((R1.set hki hpi q1).set hkj hpj q2) s1⟩
  | [], hf, _ => cases hf
  | [_], hf, _ => cases hf
  | _ :: _ :: _ :: _, hf, _ => cases hf⟩
theorem shs3 {K : PySem.W.Frag} {Z : AP} {H : Hp} {d e g : D} {xs : List V} (h : Shs K Z H [d, e, g] xs) : ∃ x y z, xs = [x, y, z] ∧ Sh K Z H d x ∧ Sh K Z H e y ∧ Sh K Z H g z := by
  obtain ⟨v, r, rfl, s, t⟩ := h
  obtain ⟨y, z, rfl, s2, s3⟩ := shs2 t
  exact ⟨v, y, z, rfl, s, s2, s3⟩
theorem ds_par3 (i j l : Nat) {x y z : PySem.Str} {a e e3 : Expr} {px py pz pt : Pos} {kt k2 pt2} {fs : Ev → Res (List D × Ev)} (hc : X.calm = true) (nd : X.N.Nodup) (ha : DAs X c false false [a, e, e3] fs) (hki : c.ks.getD i 0 = 0 := by rfl) (hpi : c.pl.contains i = false := by rfl) (hkj : c.ks.getD j 0 = 0 := by rfl) (hpj : c.pl.contains j = false := by rfl)
    (hkl : c.ks.getD l 0 = 0 := by rfl) (hpl : c.pl.contains l = false := by rfl) (hi : X.N[i]? = some x := by rfl) (hj : X.N[j]? = some y := by rfl) (hl : X.N[l]? = some z := by rfl) (hij : i ≠ j := by decide) (hil : i ≠ l := by decide) (hjl : j ≠ l := by decide)
    (hx : X.env.scope.names.lookup x = some .local := by rfl) (hy : X.env.scope.names.lookup y = some .local := by rfl) (hz : X.env.scope.names.lookup z = some .local := by rfl)
    (hw : swappedStores [.Tuple [.Name x px, .Name y py, .Name z pz] kt pt] (.Tuple [a, e, e3] k2 pt2) X.env = pure (some [x, y, z]) := by rfl)
    (hs : swapsWithSole [.Tuple [.Name x px, .Name y py, .Name z pz] kt pt] (.Tuple [a, e, e3] k2 pt2) pos.line X.env = pure false := by rfl) :
    DS X c rk (.Assign [.Tuple [.Name x px, .Name y py, .Name z pz] kt pt] (.Tuple [a, e, e3] k2 pt2) pos) (sPar [i, j, l] fs) := ⟨by
  refine PS.imp (ps_par3 hc nd hi hj hl hij hil hjl hx hy hz ha.pa hw hs) fun E σ H ⟨ρ, Z, fo, R, fl, hf, k⟩ => ?_
  obtain ⟨⟨d1, ρ1⟩, h1, hf⟩ := Res.bind_ok hf
  refine ⟨ρ, Z, fo, R, d1, ρ1, h1, fun vs H1 Z1 fo1 R1 s1 m1 l1 p1 => ?_⟩
  match d1, hf, p1 with
  | [d, d2, d3], hf, p1 =>
    cases hf
    obtain ⟨v, w, u, rfl, q1, q2, q3⟩ := shs3 p1
    exact ⟨v, w, u, rfl, k _ H1 Z1 fo1 (((R1.set hki hpi q1).set hkj hpj q2).set hkl hpl q3) s1⟩
  | [], hf, _ => cases hf
  | [_], hf, _ => cases hf
  | [_, _], hf, _ => cases hf
  | _ :: _ :: _ :: _ :: _, hf, _ => cases hf⟩

/-! owned lists of shared items, changed -/
theorem RS.mut1 {K : PySem.W.Frag} {ρ : Ev} {Z : AP} {σ : L2.St} {H : Hp} {fo : Nat → AP} {i : Nat} {ds : List D} (R : RS c K ρ Z σ H fo) (hk : c.ks.getD i 0 = 1) (h : ρ[i]? = some (some (.lst ds))) :
    ∃ a vs, σ[i]? = some (some (.ref a)) ∧ H a = some (.lst vs) ∧ Shs K Z H ds vs ∧ ∀ ds' vs', Shs K Z H ds' vs' →
      RS c K (ρ.set i (some (.lst ds'))) Z σ (upd H a (.lst vs')) fo ∧ Stp fo Z H fo Z (upd H a (.lst vs')) := by
  obtain ⟨v, h1, h2⟩ := R.val i _ h
  rw [hk] at h2
  obtain ⟨a, vs, rfl, pa, za, ha, l, Q, q1, q2, q3⟩ := h2
  refine ⟨a, vs, h1, ha, Shs.of l fun i d v e1 e2 => q3 i d v e1 e2, fun ds' vs' hs => ?_⟩
  have st : Stp0 Z H Z (upd H a (.lst vs')) := ⟨fun b o hb hz => by
    rw [upd_ne (fun (e : b = a) => hz (by rw [e]; exact za))]
    exact hb, fun b hb => .inl hb⟩
  refine ⟨?_, ⟨fun b o hb hf => by
    rw [upd_ne (fun (e : b = a) => hf i (by rw [e]; exact pa))]
    exact hb, fun b hb => .inl hb, fun b hb _ _ => hb, fun j b hb => .inl ⟨j, hb⟩⟩⟩
  refine { R with len := by rw [List.length_set]; exact R.len, val := fun j e he => ?_, own := fun b hb => ?_, e1 := fun b o h3 h4 => ?_, dm := fun b hb => ?_ }
  · by_cases q : i = j
    · subst q
      have hl : i < ρ.length := (List.getElem?_eq_some_iff.mp h).1
      rw [List.getElem?_set_self hl] at he
      have e1 : D.lst ds' = e := Option.some.inj (Option.some.inj he)
      subst e1
      refine ⟨_, h1, ?_⟩
      rw [hk]
      refine ⟨a, vs', rfl, pa, za, upd_same, hs.len, fun _ _ => False, fun _ _ z => z.elim, fun _ _ _ z _ => z.elim, fun j d v e1 e2 => ?_⟩
      obtain ⟨w, h5, h6⟩ := (hs.stp st).get e1
      rw [h5] at e2
      cases e2
      exact h6
    · rw [List.getElem?_set_ne q] at he
      obtain ⟨w, h5, h6⟩ := R.val j e he
      refine ⟨w, h5, Ow.keep (fun d v s => s.stp st) _ e w (fo j) (fun b hb hz hn => ⟨upd_ne fun e => q (R.dis i j b (e ▸ pa) hb), hz⟩) h6⟩
  · by_cases e : b = a
    · rw [e]
      exact ⟨_, upd_same, rfl⟩
    · rw [upd_ne e]
      exact R.own b hb
  · by_cases e : b = a
    · rcases (R.sub i a pa).2 with z | z
      · exact absurd (e ▸ z) h4
      · rw [e, z] at h3; cases h3
    · rw [upd_ne e]
      exact R.e1 b o h3 h4
  · by_cases e : b = a
    · rw [e, upd_same] at hb; cases hb
    · rw [upd_ne e] at hb
      exact R.dm b hb
def sApp (i : Nat) (f : Ev → Res (D × Ev)) (ρ : Ev) : Res Fl := match ρ[i]? with
  | some (some (.lst _)) => (f ρ).bind fun p => match p.2[i]? with
    | some (some (.lst ds)) => if ds.length < 16777216 then .ok (.nx (p.2.set i (some (.lst (ds ++ [p.1]))))) else .err
    | _ => .err
  | _ => .err
theorem sizeLine_gt {n : Nat} (h : n < 16777216) : n < sizeLine := by rw [sizeLine_eq]; exact h
theorem ds_app (i : Nat) {x : PySem.Str} {px apos cpos : Pos} (he : DE X c false false e fe) (hk : c.ks.getD i 0 = 1 := by rfl) (hN : X.N[i]? = some x := by rfl) (hv : Vis X.env.scope x := by first | exact Or.inl rfl | exact Or.inr (Or.inl rfl) | exact Or.inr (Or.inr rfl)) (hd : (x == ("__debug__" : Str)) = false := by decide)
    (hcd : (x == ("__classdict__" : Str)) = false := by decide) (hbase : attributeBase (.Name x px) "append" X.env (eval (.Name x px) X.env) = eval (.Name x px) X.env := by rfl)
    (hfew : ((backTo cpos (starEach [e] X.env)).all (fun x => !x.1) && (backToKw cpos (keywordEach [] X.env)).all (fun x => x.1.isSome) && decide ([e].length + ([] : List Keyword).length + (if ([] : List Keyword).isEmpty then 0 else 1) < 30)) = true := by rfl)
    (hline : (apos.endLine == cpos.line) = true := by rfl) (hs : starEach [e] X.env = (false, eval e X.env) :: starEach [] X.env := by rfl) (hplain : (backTo cpos (starEach [] X.env)).any (·.1) = false := by rfl)
    (hsw : swapsWith (.Call (.Attribute (.Name x px) "append" apos) [e] [] cpos) none pos.line X.env = pure false := by rfl) :
    DS X c rk (.Expr (.Call (.Attribute (.Name x px) "append" apos) [e] [] cpos) pos) (sApp i fe) := ⟨by
  refine PS.imp (ps_expr (pe_bm PySem.F.plainAttrs_list PySem.F.slot_list_append PySem.F.type_list_append mt_append (pe_var hN hv hd hcd) (pa_cons he.pe pa_nil hs) hbase hfew hline hs hplain) hsw) fun E σ H ⟨ρ, Z, fo, R, fl, hf, k⟩ => ?_
  unfold sApp at hf
  split at hf
  · rename_i ds0 h0
    obtain ⟨⟨d1, ρ1⟩, h1, hf⟩ := Res.bind_ok hf
    obtain ⟨a0, vs0, q1, q2, q3, _⟩ := R.mut1 hk h0
    refine ⟨_, q1, .inl ⟨rfl, vs0, SqL.of q2⟩, ρ, Z, fo, R, d1, ρ1, h1, fun w H1 Z1 fo1 R1 s1 m1 p1 => ?_⟩
    dsimp only at hf
    split at hf
    · rename_i ds h3
      obtain ⟨a, vs, r1, r2, r3, r4⟩ := R1.mut1 hk h3
      obtain ⟨h4, e4⟩ := if_ok hf
      subst e4
      have ea : a = a0 := by
        rw [q1] at r1
        cases r1
        rfl
      subst ea
      obtain ⟨R2, s2⟩ := r4 (ds ++ [d1]) (vs ++ [w]) (r3.app (Shs.one p1))
      exact ⟨a, vs, w, rfl, rfl, r2, sizeLine_gt (by rw [← r3.len]; exact h4), k σ _ Z1 fo1 R2 (s1.trans s2)⟩
    · cases hf
  · cases hf⟩
/-- x.pop() -/
def dPop (i : Nat) (ρ : Ev) : Res (D × Ev) := match ρ[i]? with
  | some (some (.lst ds)) => match ds[ds.length - 1]? with
    | some d => .ok (d, ρ.set i (some (.lst ds.dropLast)))
    | none => .err
  | _ => .err
theorem de_pop (i : Nat) {x : PySem.Str} {px apos cpos : Pos} (hk : c.ks.getD i 0 = 1 := by rfl) (hN : X.N[i]? = some x := by rfl) (hv : Vis X.env.scope x := by first | exact Or.inl rfl | exact Or.inr (Or.inl rfl) | exact Or.inr (Or.inr rfl)) (hd : (x == ("__debug__" : Str)) = false := by decide)
    (hcd : (x == ("__classdict__" : Str)) = false := by decide) (hbase : attributeBase (.Name x px) "pop" X.env (eval (.Name x px) X.env) = eval (.Name x px) X.env := by rfl) (hline : (apos.endLine == cpos.line) = true := by rfl) :
    DE X c false false (.Call (.Attribute (.Name x px) "pop" apos) [] [] cpos) (dPop i) := ⟨by
  refine PE.imp (pe_bm0 PySem.F.plainAttrs_list PySem.F.slot_list_pop PySem.F.type_list_pop mt_pop (pe_var hN hv hd hcd) hbase hline) fun σ H Q ⟨ρ, Z, fo, R, d, ρ', hf, k⟩ => ?_
  unfold dPop at hf
  split at hf
  · rename_i ds h0
    obtain ⟨a, vs, q1, q2, q3, q4⟩ := R.mut1 hk h0
    split at hf
    · rename_i d1 h1
      cases hf
      obtain ⟨w, h2, h3⟩ := q3.get h1
      obtain ⟨R2, s2⟩ := q4 ds.dropLast vs.dropLast q3.dropLast
      exact ⟨_, q1, .inl ⟨rfl, vs, SqL.of q2⟩, a, vs, w, rfl, rfl, q2, by rw [← q3.len]; exact h2, k w _ Z fo R2 s2 (fun z => nomatch z) (Sh.stp (s2.s0 R) h3)⟩
    · cases hf
  · cases hf⟩
/-- x.extend(fresh list) -/
def sExt (i : Nat) (f : Ev → Res (D × Ev)) (ρ : Ev) : Res Fl := match ρ[i]? with
  | some (some (.lst _)) => (f ρ).bind fun p => match p.2[i]? with
    | some (some (.lst ds)) => match p.1 with
      | .lst es => if ds.length + es.length ≤ 16777216 then .ok (.nx (p.2.set i (some (.lst (ds ++ es))))) else .err
      | _ => .err
    | _ => .err
  | _ => .err
theorem ds_ext (i : Nat) {x : PySem.Str} {px apos cpos : Pos} (he : DF X c 0 e fe) (hk : c.ks.getD i 0 = 1 := by rfl) (hN : X.N[i]? = some x := by rfl) (hv : Vis X.env.scope x := by first | exact Or.inl rfl | exact Or.inr (Or.inl rfl) | exact Or.inr (Or.inr rfl)) (hd : (x == ("__debug__" : Str)) = false := by decide)
    (hcd : (x == ("__classdict__" : Str)) = false := by decide) (hbase : attributeBase (.Name x px) "extend" X.env (eval (.Name x px) X.env) = eval (.Name x px) X.env := by rfl)
    (hfew : ((backTo cpos (starEach [e] X.env)).all (fun x => !x.1) && (backToKw cpos (keywordEach [] X.env)).all (fun x => x.1.isSome) && decide ([e].length + ([] : List Keyword).length + (if ([] : List Keyword).isEmpty then 0 else 1) < 30)) = true := by rfl)
    (hline : (apos.endLine == cpos.line) = true := by rfl) (hs : starEach [e] X.env = (false, eval e X.env) :: starEach [] X.env := by rfl) (hplain : (backTo cpos (starEach [] X.env)).any (·.1) = false := by rfl)
    (hsw : swapsWith (.Call (.Attribute (.Name x px) "extend" apos) [e] [] cpos) none pos.line X.env = pure false := by rfl) :
    DS X c rk (.Expr (.Call (.Attribute (.Name x px) "extend" apos) [e] [] cpos) pos) (sExt i fe) := ⟨by
  refine PS.imp (ps_expr (pe_bm PySem.F.plainAttrs_list PySem.F.slot_list_extend PySem.F.type_list_extend mt_extend (pe_var hN hv hd hcd) (pa_cons he.pe pa_nil hs) hbase hfew hline hs hplain) hsw) fun E σ H ⟨ρ, Z, fo, R, fl, hf, k⟩ => ?_
  unfold sExt at hf
  split at hf
  · rename_i ds0 h0
    obtain ⟨⟨d1, ρ1⟩, h1, hf⟩ := Res.bind_ok hf
    obtain ⟨a0, vs0, q1, q2, q3, _⟩ := R.mut1 hk h0
    refine ⟨_, q1, .inl ⟨rfl, vs0, SqL.of q2⟩, ρ, Z, fo, R, d1, ρ1, h1, fun w H1 Z1 fo1 R1 s1 p1 => ?_⟩
    dsimp only at hf
    split at hf
    · rename_i ds h3
      obtain ⟨a, vs, r1, r2, r3, r4⟩ := R1.mut1 hk h3
      cases d1 with
      | lst es => ?_
      | _ => cases hf
      obtain ⟨h4, e4⟩ := if_ok hf
      subst e4
      have ea : a = a0 := by
        rw [q1] at r1
        cases r1
        rfl
      subst ea
      obtain ⟨P, ⟨b, ws, rfl, pb, zb, hb, l, Q', o1, o2, o3⟩, _, _, _⟩ := p1.ex
      have hes : Shs X.K Z1 H1 es ws := Shs.of l fun i d v e1 e2 => o3 i d v e1 e2
      obtain ⟨R2, s2⟩ := r4 (ds ++ es) (vs ++ ws) (r3.app hes)
      exact ⟨a, b, vs, ws, rfl, rfl, r2, hb, sizeLine_ge (by rw [← r3.len, ← hes.len]; exact h4), k σ _ Z1 fo1 R2 (s1.trans s2)⟩
    · cases hf
  · cases hf⟩
/-- x[k] = e -/
def sPut (i : Nat) (f g : Ev → Res (D × Ev)) (ρ : Ev) : Res Fl := (f ρ).bind fun p => match p.2[i]? with
  | some (some (.lst _)) => (g p.2).bind fun r => match r.2[i]? with
    | some (some (.lst ds)) => match r.1 with
      | .int n => match ixN ds.length n with
        | some j => .ok (.nx (r.2.set i (some (.lst (ds.set j p.1)))))
        | none => .err
      | _ => .err
    | _ => .err
  | _ => .err
theorem ds_put (i : Nat) {x : PySem.Str} {ix : Expr} {px tpos : Pos} {fi : Ev → Res (D × Ev)} (he : DE X c false false e fe) (hi : DE X c false false ix fi) (hk : c.ks.getD i 0 = 1 := by rfl) (hN : X.N[i]? = some x := by rfl) (hv : Vis X.env.scope x := by first | exact Or.inl rfl | exact Or.inr (Or.inl rfl) | exact Or.inr (Or.inr rfl)) (hd : (x == ("__debug__" : Str)) = false := by decide)
    (hcd : (x == ("__classdict__" : Str)) = false := by decide)
    (ha : ∀ v, assign (.Subscript (.Name x px) ix tpos) X.env v = (do
      let ov ← holding [v] (eval (.Name x px) X.env)
      let iv ← holding [v, ov] (eval ix X.env)
      standAt tpos
      holding [v, ov, iv] (setItem ov iv v)
      release [v, ov, iv] []) := by intro _; rfl)
    (hs : swapsWithSole [.Subscript (.Name x px) ix tpos] e pos.line X.env = pure false := by rfl) (hw : swappedStores [.Subscript (.Name x px) ix tpos] e X.env = pure none := by rfl)
    (h1 : (assignEach [.Subscript (.Name x px) ix tpos] X.env).map (·.2) = [assign (.Subscript (.Name x px) ix tpos) X.env] := by rfl) :
    DS X c rk (.Assign [.Subscript (.Name x px) ix tpos] e pos) (sPut i fe fi) := ⟨by
  refine PS.imp (ps_asg he.pe (pg_sub (pe_var hN hv hd hcd) hi.pe set_list ha) hs hw h1) fun E σ H ⟨ρ, Z, fo, R, fl, hf, k⟩ => ?_
  obtain ⟨⟨d1, ρ1⟩, e1, hf⟩ := Res.bind_ok hf
  dsimp only at hf
  split at hf
  · rename_i ds0 h0
    obtain ⟨⟨d2, ρ2⟩, e2, hf⟩ := Res.bind_ok hf
    dsimp only at hf
    split at hf
    · rename_i ds h3
      cases d2 with
      | int n =>
        dsimp only at hf
        split at hf
        · rename_i j hj
          cases hf
          refine ⟨ρ, Z, fo, R, d1, ρ1, e1, fun w H1 Z1 fo1 R1 s1 m1 p1 => ?_⟩
          obtain ⟨a0, vs0, q1, q2, q3, _⟩ := R1.mut1 hk h0
          refine ⟨_, q1, ρ1, Z1, fo1, R1, .int n, ρ2, e2, fun y H2 Z2 fo2 R2 s2 m2 p2 => ?_⟩
          cases p2
          obtain ⟨a, vs, r1, r2, r3, r4⟩ := R2.mut1 hk h3
          rw [q1] at r1
          cases r1
          obtain ⟨R3, s3⟩ := r4 (ds.set j d1) (vs.set j w) (r3.set j (Sh.stp (s2.s0 R1) p1))
          exact ⟨_, vs, n, j, rfl, rfl, r2, by rw [← r3.len]; exact hj, k σ _ Z2 fo2 R3 ((s1.trans s2).trans s3)⟩
        · cases hf
      | _ => cases hf
    · cases hf
  · cases hf⟩
end
end DL
/-! loops, comprehensions -/
namespace DL
open PySem PySem.Spec PyProof.Rows L2

/-! ### what is walked -/
/-- J walks the items ds, while what is shared stays -/
def ItR (K : PySem.W.Frag) (Z : AP) (H : Hp) (J : It) (ds : List D) : Prop := ∃ G Y, L2.Walk J ds.length G Y ∧ (∀ Z1 H1, Stp0 Z H Z1 H1 → G H1) ∧
  ∀ i Z1 H1 x H2, i < ds.length → Stp0 Z H Z1 H1 → (∀ b, Z1 b → H1 b ≠ none) → Y i H1 x H2 → Same H1 H2 ∧ ∃ d, ds[i]? = some d ∧ Sh K Z1 H2 d x
def tI (c : DC) (K : PySem.W.Frag) (f : Ev → Res (List D × Ev)) : TI := fun σ H R => ∃ ρ Z fo, RS c K ρ Z σ H fo ∧ ∃ ds ρ', f ρ = .ok (ds, ρ') ∧
  ∀ J H' Z' fo', RS c K ρ' Z' σ H' fo' → Stp fo Z H fo' Z' H' → ItR K Z' H' J ds → R J H'
structure DI (X : Cx) (c : DC) (tg iter : Expr) (f : Ev → Res (List D × Ev)) : Prop where
  pi : PI X tg iter (tI c X.K f)
theorem PI.imp {X : Cx} {tg e : Expr} {t u : TI} (h : PI X tg e t) (k : ∀ σ H R, u σ H R → t σ H R) : PI X tg e u := ⟨fun pins s σ H R I q => h.run pins s σ H R I (k _ _ _ q)⟩
def dSeqI (f : Ev → Res (D × Ev)) (ρ : Ev) : Res (List D × Ev) := (f ρ).bind fun p => match seqOf p.1 with
  | some ds => .ok (ds, p.2)
  | none => .err
def dTupI (f : Ev → Res (D × Ev)) (ρ : Ev) : Res (List D × Ev) := (f ρ).bind fun p => match p.1 with
  | .tup ds => .ok (ds, p.2)
  | _ => .err
def dLstI (f : Ev → Res (D × Ev)) (ρ : Ev) : Res (List D × Ev) := (f ρ).bind fun p => match p.1 with
  | .lst ds => .ok (ds, p.2)
  | _ => .err
def rgD (a b : Int) : List D := (List.range (b - a).toNat).map fun i => D.int (a + (i : Nat))
abbrev RgI (a b : Int) : Prop := -(2 ^ 62) ≤ a ∧ a < 2 ^ 62 ∧ -(2 ^ 62) ≤ b ∧ b < 2 ^ 62
def dRng1 (f : Ev → Res (D × Ev)) (ρ : Ev) : Res (List D × Ev) := (f ρ).bind fun p => match p.1 with
  | .int n => if RgI 0 n then .ok (rgD 0 n, p.2) else .err
  | _ => .err
def dRng2 (f : Ev → Res (List D × Ev)) (ρ : Ev) : Res (List D × Ev) := (f ρ).bind fun p => match p.1 with
  | [.int m, .int n] => if RgI m n then .ok (rgD m n, p.2) else .err
  | _ => .err
/-- range(a, b, -1) -/
def rgDn (a b : Int) : List D := (List.range (a - b).toNat).map fun i => D.int (a - (i : Nat))
def dRngD (f : Ev → Res (List D × Ev)) (ρ : Ev) : Res (List D × Ev) := (f ρ).bind fun p => match p.1 with
  | [.int m, .int n, .int k] => if RgI m n ∧ k = -1 then .ok (rgDn m n, p.2) else .err
  | _ => .err
def pairD (xs ys : List D) : List D := (xs.zip ys).map fun p => .tup [p.1, p.2]
def dZip (f : Ev → Res (List D × Ev)) (ρ : Ev) : Res (List D × Ev) := (f ρ).bind fun p => match p.1 with
  | [.tup xs, .tup ys] => .ok (pairD xs ys, p.2)
  | [.lst xs, .lst ys] => .ok (pairD xs ys, p.2)
  | _ => .err
def enumD (ds : List D) : List D := (ds.zipIdx).map fun p => .tup [.int (p.2 : Nat), p.1]
def dEnumL (f : Ev → Res (D × Ev)) (ρ : Ev) : Res (List D × Ev) := (f ρ).bind fun p => match p.1 with
  | .lst xs => .ok (enumD xs, p.2)
  | _ => .err
def dStrI (f : Ev → Res (D × Ev)) (ρ : Ev) : Res (List D × Ev) := (f ρ).bind fun p => match p.1 with
  | .str z => .ok (z.cps.toList.map fun c => .str ⟨#[c]⟩, p.2)
  | _ => .err
section
variable {X : Cx} {c : DC} {q b : Bool} {tg e : Expr} {fe : Ev → Res (D × Ev)} {pos p : Pos}
theorem ItR.list {K : PySem.W.Frag} {Z : AP} {H : Hp} {a : Addr} {vs : List V} {ds : List D} (r : RdL K Z H a vs) (s : Shs K Z H ds vs) : ItR K Z H (Itl K a) ds := by
  refine ⟨_, _, by rw [s.len]; exact walk_list (xs := vs), fun Z1 H1 st => (r.stp st).sq, fun i Z1 H1 x H2 hi st hz y => ?_⟩
  obtain ⟨rfl, y⟩ := y
  obtain ⟨d, h1, h2⟩ := (Shs.stp st s).getV y
  exact ⟨Same.refl _, d, h1, h2⟩
theorem ItR.tup {K : PySem.W.Frag} {Z : AP} {H : Hp} {a : Addr} {vs : List V} {ds : List D} (r : RdT K Z H a vs) (s : Shs K Z H ds vs) : ItR K Z H (Itt K a) ds := by
  refine ⟨_, _, by rw [s.len]; exact walk_tup (xs := vs), fun Z1 H1 st => (r.stp st).sq, fun i Z1 H1 x H2 hi st hz y => ?_⟩
  obtain ⟨rfl, y⟩ := y
  obtain ⟨d, h1, h2⟩ := (Shs.stp st s).getV y
  exact ⟨Same.refl _, d, h1, h2⟩
theorem di_tup (he : DE X c false false e fe) : DI X c tg e (dTupI fe) := ⟨by
  refine PI.imp (pi_tup he.pe) fun σ H R ⟨ρ, Z, fo, RR, ds, ρ', hf, k⟩ => ?_
  obtain ⟨⟨d1, ρ1⟩, e1, hf⟩ := Res.bind_ok hf
  refine ⟨ρ, Z, fo, RR, d1, ρ1, e1, fun v H1 Z1 fo1 R1 s1 m1 p1 => ?_⟩
  cases d1 with
  | tup es =>
    cases hf
    obtain ⟨a, vs, rfl, r, s⟩ := p1
    exact ⟨a, rfl, ⟨vs, r.sq⟩, k _ H1 Z1 fo1 R1 s1 (ItR.tup r s)⟩
  | _ => cases hf⟩
theorem di_list (he : DE X c false false e fe) : DI X c tg e (dLstI fe) := ⟨by
  refine PI.imp (pi_list he.pe) fun σ H R ⟨ρ, Z, fo, RR, ds, ρ', hf, k⟩ => ?_
  obtain ⟨⟨d1, ρ1⟩, e1, hf⟩ := Res.bind_ok hf
  refine ⟨ρ, Z, fo, RR, d1, ρ1, e1, fun v H1 Z1 fo1 R1 s1 m1 p1 => ?_⟩
  cases d1 with
  | lst es =>
    cases hf
    obtain ⟨a, vs, rfl, r, s⟩ := p1
    exact ⟨a, rfl, ⟨vs, r.sq⟩, k _ H1 Z1 fo1 R1 s1 (ItR.list r s)⟩
  | _ => cases hf⟩
theorem ItR.range {K : PySem.W.Frag} {Z : AP} {H : Hp} {a b : Int} : ItR K Z H (Itr a (b - a).toNat) (rgD a b) := by
  have hl : (rgD a b).length = (b - a).toNat := by unfold rgD; rw [List.length_map, List.length_range]
  refine ⟨_, _, by rw [hl]; exact walk_range, fun _ _ _ => True.intro, fun i Z1 H1 x H2 hi st hz y => ?_⟩
  obtain ⟨rfl, rfl⟩ := y
  refine ⟨Same.refl _, .int (a + (i : Nat)), ?_, rfl⟩
  rw [hl] at hi
  unfold rgD
  rw [List.getElem?_map, List.getElem?_range hi]
  rfl
theorem di_rng1 (hm : X.mg "range" = none) (ha : DE X c false false e fe) (hg : Gl X "range" := by rfl) (hs : starEach [e] X.env = [(false, eval e X.env)] := by rfl) : DI X c tg (.Call (.Name "range" p) [e] [] pos) (dRng1 fe) := ⟨by
  refine PI.imp (pi_range1 hg hm (pa_cons ha.pe pa_nil hs) hs) fun σ H R ⟨ρ, Z, fo, RR, ds, ρ', hf, k⟩ => ?_
  obtain ⟨⟨d1, ρ1⟩, e1, hf⟩ := Res.bind_ok hf
  refine ⟨ρ, Z, fo, RR, d1, ρ1, e1, fun v H1 Z1 fo1 R1 s1 m1 p1 => ?_⟩
  cases d1 with
  | int n =>
    obtain ⟨⟨h0, h1, h2, h3⟩, e2⟩ := if_ok hf
    cases e2
    cases p1
    have it : ItR X.K Z1 H1 (Itr 0 (n - 0).toNat) (rgD 0 n) := ItR.range
    rw [Int.sub_zero] at it
    exact ⟨n, rfl, h2, h3, k _ H1 Z1 fo1 R1 s1 it⟩
  | _ => cases hf⟩
theorem di_rng2 {e2 : Expr} {f : Ev → Res (List D × Ev)} (hm : X.mg "range" = none) (ha : DAs X c false false [e, e2] f) (hg : Gl X "range" := by rfl) (hs : starEach [e, e2] X.env = [(false, eval e X.env), (false, eval e2 X.env)] := by rfl) (hs2 : starEach [e2] X.env = [(false, eval e2 X.env)] := by rfl) : DI X c tg (.Call (.Name "range" p) [e, e2] [] pos) (dRng2 f) := ⟨by
  refine PI.imp (pi_range2 hg hm ha.pa hs hs2) fun σ H R ⟨ρ, Z, fo, RR, ds, ρ', hf, k⟩ => ?_
  obtain ⟨⟨d1, ρ1⟩, e1, hf⟩ := Res.bind_ok hf
  refine ⟨ρ, Z, fo, RR, d1, ρ1, e1, fun vs H1 Z1 fo1 R1 s1 m1 l1 p1 => ?_⟩
  dsimp only at hf
  split at hf
  · obtain ⟨x, y, rfl, x1, x2⟩ := shs2 p1
    obtain ⟨hR, e2⟩ := if_ok hf
    cases e2
    cases x1
    cases x2
    exact ⟨_, _, rfl, hR, k _ H1 Z1 fo1 R1 s1 ItR.range⟩
  · cases hf⟩
theorem getElem?_pair {xs ys : List D} {i : Nat} {d e : D} (h1 : xs[i]? = some d) (h2 : ys[i]? = some e) : (pairD xs ys)[i]? = some (.tup [d, e]) := by
  unfold pairD
  rw [List.getElem?_map, (List.getElem?_zip_eq_some (z := (d, e))).mpr ⟨h1, h2⟩]
  rfl
theorem pair_len {xs ys : List D} : (pairD xs ys).length = min xs.length ys.length := by
  unfold pairD
  rw [List.length_map, List.length_zip]
theorem Sh.pair {K : PySem.W.Frag} {Z : AP} {H : Hp} {T : Addr} {d e : D} {x y : V} (hn : H T = none) (hz : ∀ b, Z b → H b ≠ none) (h1 : Sh K Z H d x) (h2 : Sh K Z H e y) : Sh K Z (upd H T (.tup [x, y])) (.tup [d, e]) (.ref T) := by
  have sm : Same H (upd H T (.tup [x, y])) := same_upd hn
  exact ⟨T, _, rfl, RdT.new upd_same fun z => hz T z hn, x, [y], rfl, h1.same sm, y, [], rfl, h2.same sm, rfl⟩
theorem walk_zipT {K : PySem.W.Frag} {a b : Addr} {xs ys : List V} {n : Nat} (hn : n = min xs.length ys.length) : L2.Walk (RZ.ItzT K a b) n (fun H => SqT K H a xs ∧ SqT K H b ys) (YPair (fun i => xs[i]?) (fun i => ys[i]?)) := by
  subst hn
  refine ⟨fun i _ hi q => ?_, fun _ q => ⟨xs, ys, q.1, q.2, by omega⟩, fun i H v H' _ q y => ?_⟩
  · have h1 : i < xs.length := by omega
    have h2 : i < ys.length := by omega
    exact ⟨xs, ys, xs[i], ys[i], q.1, q.2, by simp [h1], by simp [h2]⟩
  · obtain ⟨T, x, z, h1, h2, h3, h4, h5⟩ := y
    exact ⟨T, x, z, h1, h2, h3, h4 xs q.1, h5 ys q.2⟩
theorem di_zip {e2 : Expr} {elts : List Expr} {kk : Nat} {tpos : Pos} {f : Ev → Res (List D × Ev)} (hm : X.mg "zip" = none) (ha : DAs X c false false [e, e2] f) (hg : Gl X "zip" := by rfl) (hs : starEach [e, e2] X.env = (false, eval e X.env) :: starEach [e2] X.env := by rfl) (hs2 : (backTo pos (starEach [e2] X.env)).any (·.1) = false := by rfl) :
    DI X c (.Tuple elts kk tpos) (.Call (.Name "zip" p) [e, e2] [] pos) (dZip f) := ⟨by
  refine PI.imp (RZ.pi_zipA hg hm ha.pa hs hs2) fun σ H R ⟨ρ, Z, fo, RR, ds, ρ', hf, k⟩ => ?_
  obtain ⟨⟨d1, ρ1⟩, e1, hf⟩ := Res.bind_ok hf
  refine ⟨ρ, Z, fo, RR, d1, ρ1, e1, fun vs H1 Z1 fo1 R1 s1 m1 l1 p1 => ?_⟩
  dsimp only at hf
  split at hf
  · rename_i xs ys
    obtain ⟨x, y, rfl, ⟨a, us, rfl, r1, q1⟩, ⟨b, ws, rfl, r2, q2⟩⟩ := shs2 p1
    cases hf
    refine ⟨a, b, us, ws, rfl, .inr ⟨r1.sq, r2.sq, k _ H1 Z1 fo1 R1 s1 ?_⟩⟩
    refine ⟨_, _, walk_zipT (xs := us) (ys := ws) (by rw [pair_len, q1.len, q2.len]), fun Z2 H2 st => ⟨(r1.stp st).sq, (r2.stp st).sq⟩, fun i Z2 H2 v H3 hi st hz yy => ?_⟩
    obtain ⟨T, x, y, rfl, nT, rfl, g1, g2⟩ := yy
    obtain ⟨dx, g3, g4⟩ := (Shs.stp st q1).getV g1
    obtain ⟨dy, g5, g6⟩ := (Shs.stp st q2).getV g2
    exact ⟨same_upd nT, _, getElem?_pair g3 g5, Sh.pair nT hz g4 g6⟩
  · rename_i xs ys
    obtain ⟨x, y, rfl, ⟨a, us, rfl, r1, q1⟩, ⟨b, ws, rfl, r2, q2⟩⟩ := shs2 p1
    cases hf
    refine ⟨a, b, us, ws, rfl, .inl ⟨r1.sq, r2.sq, k _ H1 Z1 fo1 R1 s1 ?_⟩⟩
    refine ⟨_, _, L2.walk_zip (xs := us) (ys := ws) (by rw [pair_len, q1.len, q2.len]), fun Z2 H2 st => ⟨(r1.stp st).sq, (r2.stp st).sq⟩, fun i Z2 H2 v H3 hi st hz yy => ?_⟩
    obtain ⟨T, x, y, rfl, nT, rfl, g1, g2⟩ := yy
    obtain ⟨dx, g3, g4⟩ := (Shs.stp st q1).getV g1
    obtain ⟨dy, g5, g6⟩ := (Shs.stp st q2).getV g2
    exact ⟨same_upd nT, _, getElem?_pair g3 g5, Sh.pair nT hz g4 g6⟩
  · cases hf⟩
/-! ### for -/
def sLoop (g : D → Ev → Res Ev) (f : Ev → Res Fl) : List D → Ev → Res Fl
  | [], ρ => .ok (.nx ρ)
  | d :: ds, ρ => (g d ρ).bind fun ρ1 => (f ρ1).bind fun fl => match fl with
    | .nx ρ2 => sLoop g f ds ρ2
    | .ct ρ2 => sLoop g f ds ρ2
    | .bk ρ2 => .ok (.nx ρ2)
    | .rt d ρ2 => .ok (.rt d ρ2)
def sFor (fi : Ev → Res (List D × Ev)) (g : D → Ev → Res Ev) (f : Ev → Res Fl) (ρ : Ev) : Res Fl := (fi ρ).bind fun p => sLoop g f p.1 p.2
theorem ds_for {rk : Option Nat} {iter : Expr} {body : List Stmt} {fi : Ev → Res (List D × Ev)} {g : D → Ev → Res Ev} {f : Ev → Res Fl} (hp : PassesOwn (model X.prog X.w) X.A X.env X.xe) (hc : X.calm = true) {ts : List Nat} (hi : DI X c tg iter fi) (hg : DG X c tg ts g) (hb : DSs X c rk body f)
    (hs : ∀ x, foldedSetIterable iter X.env x = pure x := by intro _; rfl) : DS X c rk (.For tg iter body [] pos) (sFor fi g f) := ⟨by
  refine PS.imp (ps_for hp hc hi.pi hg.pg hb.ps hs) fun E σ H ⟨ρ, Z, fo, R, fl, hf, k⟩ => ?_
  obtain ⟨⟨ds, ρ1⟩, e1, hf⟩ := Res.bind_ok hf
  refine ⟨ρ, Z, fo, R, ds, ρ1, e1, fun J H1 Z1 fo1 R1 s1 it => ?_⟩
  obtain ⟨G, Y, w, hG, hY⟩ := it
  have k1 := k.stp s1
  refine L2.for_it w (fun i σ' H' => ∃ ρi Zi foi, RS c X.K ρi Zi σ' H' foi ∧ Stp fo1 Z1 H1 foi Zi H' ∧ sLoop g f (ds.drop i) ρi = .ok fl) ⟨ρ1, Z1, fo1, R1, Stp.refl, hf⟩ (fun i σ' H' _ ⟨ρi, Zi, foi, Ri, si, _⟩ => hG Zi H' (si.s0 R1)) ?_ ?_
  · rintro i x σ' H' H2 hi ⟨ρi, Zi, foi, Ri, si, li⟩ y
    obtain ⟨sm, d, hd, hx⟩ := hY i Zi H' x H2 hi (si.s0 R1) Ri.ownN y
    have ed : ds.drop i = d :: ds.drop (i + 1) := by
      rw [List.drop_eq_getElem_cons hi]
      congr 1
      rw [List.getElem?_eq_getElem hi] at hd
      exact Option.some.inj hd
    rw [ed] at li
    obtain ⟨ρ2, g1, li⟩ := Res.bind_ok (show (g d ρi).bind (fun ρ1 => (f ρ1).bind fun fl => _) = .ok fl from li)
    obtain ⟨fl2, g2, li⟩ := Res.bind_ok li
    refine ⟨ρi, Zi, foi, d, Ri.same sm, hx, ρ2, g1, fun σ3 H3 Z3 fo3 R3 s3 _ => ⟨ρ2, Z3, fo3, R3, fl2, g2, ?_⟩⟩
    have s13 : Stp fo1 Z1 H1 fo3 Z3 H3 := (si.trans (Stp.same sm)).trans s3
    cases fl2 with
    | nx ρ4 => exact fun σ4 H4 Z4 fo4 R4 s4 => ⟨ρ4, Z4, fo4, R4, s13.trans s4, li⟩
    | ct ρ4 => exact fun σ4 H4 Z4 fo4 R4 s4 => ⟨ρ4, Z4, fo4, R4, s13.trans s4, li⟩
    | bk ρ4 =>
      cases li
      exact fun σ4 H4 Z4 fo4 R4 s4 => k1 σ4 H4 Z4 fo4 R4 (s13.trans s4)
    | rt d ρ4 =>
      cases li
      exact fun v σ4 H4 Z4 fo4 R4 s4 => k1 v σ4 H4 Z4 fo4 R4 (s13.trans s4)
  · rintro σ' H' ⟨ρi, Zi, foi, Ri, si, li⟩
    rw [List.drop_length] at li
    cases li
    exact k1 σ' H' Zi foi Ri si⟩
/-! ### while -/
def sWhileN (t : Ev → Res (Bool × Ev)) (f : Ev → Res Fl) : Nat → Ev → Res Fl
  | 0, _ => .err
  | n + 1, ρ => (t ρ).bind fun p => if p.1 = true then (f p.2).bind fun fl => match fl with
      | .nx ρ2 => sWhileN t f n ρ2
      | .ct ρ2 => sWhileN t f n ρ2
      | .bk ρ2 => .ok (.nx ρ2)
      | .rt d ρ2 => .ok (.rt d ρ2)
    else .ok (.nx p.2)
open Classical in
noncomputable def sWhile (t : Ev → Res (Bool × Ev)) (f : Ev → Res Fl) (ρ : Ev) : Res Fl := if h : ∃ n fl, sWhileN t f n ρ = .ok fl then sWhileN t f h.choose ρ else .err
theorem sWhileN_mono {t : Ev → Res (Bool × Ev)} {f : Ev → Res Fl} : ∀ {n : Nat} {ρ : Ev} {fl : Fl}, sWhileN t f n ρ = .ok fl → ∀ m, n ≤ m → sWhileN t f m ρ = .ok fl
  | 0, _, _, h, _, _ => by cases h
  | n + 1, ρ, fl, h, m, hm => by
    obtain ⟨m', rfl⟩ : ∃ m', m = m' + 1 := ⟨m - 1, by omega⟩
    obtain ⟨⟨k, ρ1⟩, h1, h⟩ := Res.bind_ok (show (t ρ).bind _ = .ok fl from h)
    show (t ρ).bind _ = .ok fl
    rw [h1]
    show (if k = true then _ else _) = Res.ok fl
    have h' : (if k = true then _ else _) = Res.ok fl := h
    cases k with
    | false => exact h'
    | true =>
      rw [if_pos rfl] at h' ⊢
      obtain ⟨fl2, h2, h'⟩ := Res.bind_ok h'
      rw [h2]
      cases fl2 with
      | nx ρ2 => exact sWhileN_mono h' m' (by omega)
      | ct ρ2 => exact sWhileN_mono h' m' (by omega)
      | bk ρ2 => exact h'
      | rt d ρ2 => exact h'
theorem sWhile_of {t : Ev → Res (Bool × Ev)} {f : Ev → Res Fl} {n : Nat} {ρ : Ev} {fl : Fl} (h : sWhileN t f n ρ = .ok fl) : sWhile t f ρ = .ok fl := by
  have ex : ∃ n fl, sWhileN t f n ρ = .ok fl := ⟨n, fl, h⟩
  unfold sWhile
  rw [dif_pos ex]
  obtain ⟨fl2, h2⟩ := ex.choose_spec
  rw [h2]
  have a := sWhileN_mono h (max n ex.choose) (Nat.le_max_left _ _)
  have b := sWhileN_mono h2 (max n ex.choose) (Nat.le_max_right _ _)
  rw [a] at b
  exact b.symm
theorem sWhile_to {t : Ev → Res (Bool × Ev)} {f : Ev → Res Fl} {ρ : Ev} {fl : Fl} (h : sWhile t f ρ = .ok fl) : ∃ n, sWhileN t f n ρ = .ok fl := by
  unfold sWhile at h
  split at h
  · rename_i ex
    exact ⟨_, h⟩
  · cases h
/-- the one-turn equation, as far as it ends -/
theorem sWhile_step {t : Ev → Res (Bool × Ev)} {f : Ev → Res Fl} {ρ ρ1 : Ev} {fl : Fl} {k : Bool} (h1 : t ρ = .ok (k, ρ1)) (h2 : k = false → fl = .nx ρ1)
    (h3 : k = true → ∃ fl2, f ρ1 = .ok fl2 ∧ match fl2 with
      | .nx ρ2 => sWhile t f ρ2 = .ok fl
      | .ct ρ2 => sWhile t f ρ2 = .ok fl
      | .bk ρ2 => fl = .nx ρ2
      | .rt d ρ2 => fl = .rt d ρ2) : sWhile t f ρ = .ok fl := by
  cases k with
  | false =>
    refine sWhile_of (n := 1) ?_
    show (t ρ).bind _ = _
    rw [h1, h2 rfl]
    rfl
  | true =>
    obtain ⟨fl2, h4, h5⟩ := h3 rfl
    cases fl2 with
    | nx ρ2 =>
      obtain ⟨n, h6⟩ := sWhile_to h5
      refine sWhile_of (n := n + 1) ?_
      show (t ρ).bind _ = _
      rw [h1]
      show (f ρ1).bind _ = _
      rw [h4]
      exact h6
    | ct ρ2 =>
      obtain ⟨n, h6⟩ := sWhile_to h5
      refine sWhile_of (n := n + 1) ?_
      show (t ρ).bind _ = _
      rw [h1]
      show (f ρ1).bind _ = _
      rw [h4]
      exact h6
    | bk ρ2 =>
      refine sWhile_of (n := 1) ?_
      show (t ρ).bind _ = _
      rw [h1]
      show (f ρ1).bind _ = _
      rw [h4, h5]
      rfl
    | rt d ρ2 =>
      refine sWhile_of (n := 1) ?_
      show (t ρ).bind _ = _
      rw [h1]
      show (f ρ1).bind _ = _
      rw [h4, h5]
      rfl
theorem ds_while {rk : Option Nat} {t : Expr} {body : List Stmt} {ft : Ev → Res (Bool × Ev)} {f : Ev → Res Fl} (hp : PassesOwn (model X.prog X.w) X.A X.env X.xe) (ht : DT X c false t ft) (hb : DSs X c rk body f) : DS X c rk (.While t body [] pos) (sWhile ft f) := ⟨by
  refine PS.imp (ps_while hp ht.pt hb.ps) fun E σ H ⟨ρ, Z, fo, R, fl, hf, k⟩ => ?_
  obtain ⟨n, hf⟩ := sWhile_to hf
  refine ⟨fun m σ' H' => ∃ ρi Zi foi, RS c X.K ρi Zi σ' H' foi ∧ Stp fo Z H foi Zi H' ∧ sWhileN ft f m ρi = .ok fl, ⟨n, ρ, Z, fo, R, Stp.refl, hf⟩, fun m σ' H' ⟨ρi, Zi, foi, Ri, si, li⟩ => ?_⟩
  cases m with
  | zero => cases li
  | succ m =>
    obtain ⟨⟨kk, ρ1⟩, h1, li⟩ := Res.bind_ok (show (ft ρi).bind _ = .ok fl from li)
    refine ⟨ρi, Zi, foi, Ri, kk, ρ1, h1, fun H1 Z1 fo1 R1 s1 m1 => ?_⟩
    have s01 := si.trans s1
    cases kk with
    | false =>
      rw [if_neg Bool.false_ne_true] at li
      cases li
      exact iteF (k σ' H1 Z1 fo1 R1 s01)
    | true =>
      rw [if_pos rfl] at li
      obtain ⟨fl2, h2, li⟩ := Res.bind_ok li
      refine iteT ⟨fun σ3 H3 => ∃ ρi Zi foi, RS c X.K ρi Zi σ3 H3 foi ∧ Stp fo Z H foi Zi H3 ∧ sWhileN ft f m ρi = .ok fl, fun σ3 H3 h3 => ⟨m, by omega, h3⟩, ρ1, Z1, fo1, R1, fl2, h2, ?_⟩
      cases fl2 with
      | nx ρ4 => exact fun σ4 H4 Z4 fo4 R4 s4 => ⟨ρ4, Z4, fo4, R4, s01.trans s4, li⟩
      | ct ρ4 => exact fun σ4 H4 Z4 fo4 R4 s4 => ⟨ρ4, Z4, fo4, R4, s01.trans s4, li⟩
      | bk ρ4 =>
        cases li
        exact fun σ4 H4 Z4 fo4 R4 s4 => k σ4 H4 Z4 fo4 R4 (s01.trans s4)
      | rt d ρ4 =>
        cases li
        exact fun v σ4 H4 Z4 fo4 R4 s4 => k v σ4 H4 Z4 fo4 R4 (s01.trans s4)⟩
end
end DL
/-! comprehensions, defs and their calls -/
namespace DL
open PySem PySem.Spec PyProof.Rows L2

def wipeE (ρ : Ev) : List Nat → Ev
  | [] => ρ
  | v :: vs => (wipeE ρ vs).set v none
def restE (ρ ρ1 : Ev) : List Nat → Ev
  | [] => ρ
  | v :: vs => (restE ρ ρ1 vs).set v ((ρ1[v]?).getD none)
def cLoop (vs : List Nat) (g : D → Ev → Res Ev) (tt : Ev → Res (Bool × Ev)) (te : Ev → Res (D × Ev)) : List D → Ev → Res (List D × Ev)
  | [], ρ => .ok ([], ρ)
  | d :: ds, ρ => (g d ρ).bind fun ρ1 => (tt ρ1).bind fun p => if p.1 = true then (te p.2).bind fun r => (cLoop vs g tt te ds (wipeE r.2 vs)).bind fun s => .ok (r.1 :: s.1, s.2)
      else cLoop vs g tt te ds (wipeE p.2 vs)
def dComp (fi : Ev → Res (List D × Ev)) (vs : List Nat) (g : D → Ev → Res Ev) (tt : Ev → Res (Bool × Ev)) (te : Ev → Res (D × Ev)) (ρ : Ev) : Res (D × Ev) := (fi ρ).bind fun p => if p.1.length ≤ 16777216 then
    (cLoop vs g tt te p.1 (wipeE p.2 vs)).bind fun r => .ok (.lst r.1, restE r.2 p.2 vs) else .err
def dYes (ρ : Ev) : Res (Bool × Ev) := .ok (true, ρ)
structure DTs (X : Cx) (c : DC) (ifs : List Expr) (f : Ev → Res (Bool × Ev)) : Prop where
  pt : PTs X ifs (tT c X.K false f)
theorem PTs.imp {X : Cx} {e : List Expr} {t u : TT} (h : PTs X e t) (k : ∀ σ H Q, u σ H Q → t σ H Q) : PTs X e u := ⟨fun pins s σ H Q I q => h.run pins s σ H Q I (k _ _ _ q)⟩
theorem wipeE_len (ρ : Ev) : ∀ vs, (wipeE ρ vs).length = ρ.length
  | [] => rfl
  | v :: vs => by unfold wipeE; rw [List.length_set, wipeE_len ρ vs]
theorem wipeE_get {ρ : Ev} {i : Nat} {d : D} : ∀ {vs : List Nat}, (wipeE ρ vs)[i]? = some (some d) → ρ[i]? = some (some d) ∧ i ∉ vs
  | [], h => ⟨h, by simp⟩
  | v :: vs, h => by
    unfold wipeE at h
    by_cases hi : v = i
    · subst hi
      by_cases hv : v < (wipeE ρ vs).length
      · rw [List.getElem?_set_self hv] at h; cases h
      · rw [List.getElem?_eq_none (by simpa using hv)] at h; cases h
    · rw [List.getElem?_set_ne hi] at h
      obtain ⟨h1, h2⟩ := wipeE_get h
      exact ⟨h1, by simp only [List.mem_cons, not_or]; exact ⟨fun e => hi e.symm, h2⟩⟩
theorem restE_len (ρ ρ1 : Ev) : ∀ vs, (restE ρ ρ1 vs).length = ρ.length
  | [] => rfl
  | v :: vs => by unfold restE; rw [List.length_set, restE_len ρ ρ1 vs]
theorem restE_in {ρ ρ1 : Ev} {i : Nat} {d : D} : ∀ {vs : List Nat}, i ∈ vs → (restE ρ ρ1 vs)[i]? = some (some d) → ρ1[i]? = some (some d)
  | v :: vs, hi, h => by
    unfold restE at h
    by_cases e : v = i
    · subst e
      by_cases hv : v < (restE ρ ρ1 vs).length
      · rw [List.getElem?_set_self hv] at h
        have h' : (ρ1[v]?).getD none = some d := Option.some.inj h
        cases q : ρ1[v]? with
        | none => rw [q] at h'; cases h'
        | some o => rw [q] at h'; rw [show o = some d from h']
      · rw [List.getElem?_eq_none (by simpa using hv)] at h; cases h
    · rw [List.getElem?_set_ne e] at h
      exact restE_in ((List.mem_cons.mp hi).resolve_left fun z => e z.symm) h
theorem restE_out {ρ ρ1 : Ev} {i : Nat} : ∀ {vs : List Nat}, i ∉ vs → (restE ρ ρ1 vs)[i]? = ρ[i]?
  | [], _ => rfl
  | v :: vs, hi => by
    unfold restE
    rw [List.getElem?_set_ne (fun e => hi (by rw [e]; exact List.mem_cons_self)), restE_out (fun z => hi (List.mem_cons_of_mem _ z))]
theorem wipe_ext {σ σ' : L2.St} {vs : List Nat} (h : σ.length = σ'.length) (k : ∀ j, j ∉ vs → σ[j]? = σ'[j]?) : wipe σ vs = wipe σ' vs := by
  apply List.ext_getElem?
  intro j
  by_cases hj : j ∈ vs
  · have go : ∀ (τ : L2.St) (us : List Nat), j ∈ us → (wipe τ us)[j]? = if j < τ.length then some none else none := by
      intro τ us
      induction us with
      | nil => intro z; cases z
      | cons u us ih =>
        intro z
        unfold wipe
        by_cases e : u = j
        · subst e
          by_cases hv : u < τ.length
          · rw [List.getElem?_set_self (by rw [wipe_length]; exact hv), if_pos hv]
          · rw [List.getElem?_eq_none (by rw [List.length_set, wipe_length]; omega), if_neg hv]
        · rw [List.getElem?_set_ne e]
          exact ih ((List.mem_cons.mp z).resolve_left fun q => e q.symm)
    rw [go σ vs hj, go σ' vs hj, h]
  · rw [wipe_out hj, wipe_out hj, k j hj]
theorem wipe_wipe (σ : L2.St) (vs : List Nat) : wipe (wipe σ vs) vs = wipe σ vs := wipe_ext (wipe_length σ vs) fun j hj => wipe_out hj
section
variable {X : Cx} {c : DC} {K : PySem.W.Frag} {ρ ρ1 : Ev} {Z Z1 : AP} {σ : L2.St} {H H1 : Hp} {fo fo1 : Nat → AP} {vs : List Nat}
theorem RS.wipe (R : RS c K ρ Z σ H fo) (hp : ∀ v ∈ vs, v ∉ c.pl) : RS c K (wipeE ρ vs) Z (L2.wipe σ vs) H fo :=
  { R with
    len := by rw [wipeE_len, wipe_length]; exact R.len
    val := fun i d h => by
      obtain ⟨h1, h2⟩ := wipeE_get h
      obtain ⟨v, h3, h4⟩ := R.val i d h1
      exact ⟨v, by rw [wipe_out h2]; exact h3, h4⟩
    pin := fun i hi => by
      rw [wipe_out fun z => hp i z hi]
      exact R.pin i hi }
theorem RS.unwipe (R : RS c K ρ Z (L2.wipe σ vs) H fo) (R1 : RS c K ρ1 Z1 σ H1 fo1) (s : Stp fo1 Z1 H1 fo Z H) (hk : ∀ v ∈ vs, c.ks.getD v 0 = 0) (hp : ∀ v ∈ vs, v ∉ c.pl) : RS c K (restE ρ ρ1 vs) Z σ H fo :=
  { R with
    len := by rw [restE_len, R.len, wipe_length]
    val := fun i d h => by
      by_cases hi : i ∈ vs
      · obtain ⟨v, h1, h2⟩ := R1.val i d (restE_in hi h)
        rw [hk i hi] at h2 ⊢
        exact ⟨v, h1, Sh.stp (s.s0 R1) h2⟩
      · rw [restE_out hi] at h
        obtain ⟨v, h1, h2⟩ := R.val i d h
        exact ⟨v, by rw [← wipe_out hi]; exact h1, h2⟩
    pin := fun i hi => by
      rw [← wipe_out (vs := vs) fun z => hp i z hi]
      exact R.pin i hi }
/-- an owned list that no slot holds is changed -/
theorem RS.pend {D : Addr} {xs ys : List V} (R : RS c K ρ Z σ H fo) (hz : Z D) (hf : ∀ i, ¬ fo i D) (hi : c.Hi D = none) (hD : H D = some (.lst xs)) :
    RS c K ρ Z σ (upd H D (.lst ys)) fo ∧ Stp0 Z H Z (upd H D (.lst ys)) := by
  have st : Stp0 Z H Z (upd H D (.lst ys)) := ⟨fun b o h z => by
    rw [upd_ne (fun (e : b = D) => z (by rw [e]; exact hz))]
    exact h, fun b h => .inl h⟩
  refine ⟨{ R with val := fun i d h => ?_, own := fun b hb => ?_, e1 := fun b o h1 h2 => ?_, dm := fun b h => ?_ }, st⟩
  · obtain ⟨v, h1, h2⟩ := R.val i d h
    exact ⟨v, h1, Ow.keep (fun d v s => s.stp st) _ d v (fo i) (fun b hb z _ => ⟨upd_ne fun e => hf i (by rw [← e]; exact hb), z⟩) h2⟩
  · by_cases e : b = D
    · rw [e]
      exact ⟨_, upd_same, rfl⟩
    · rw [upd_ne e]
      exact R.own b hb
  · have e : b ≠ D := fun e => by rw [e, hi] at h1; cases h1
    rw [upd_ne e]
    exact R.e1 b o h1 h2
  · by_cases e : b = D
    · rw [e, upd_same] at h; cases h
    · rw [upd_ne e] at h
      exact R.dm b h
theorem dts_nil : DTs X c [] dYes := ⟨by
  refine PTs.imp pts_nil fun σ H Q ⟨ρ, Z, fo, R, k, ρ', hf, q⟩ => ?_
  cases hf
  exact q H Z fo R Stp.refl (fun z => nomatch z)⟩
theorem dts_one {e : Expr} {f : Ev → Res (Bool × Ev)} (h : DT X c false e f) : DTs X c [e] f := ⟨pts_one h.pt⟩
end
section
variable {X : Cx} {c : DC} {pos : Pos}
theorem allK {vs : List Nat} {l : List Nat} (h : (vs.all fun v => l.getD v 0 == 0) = true) : ∀ v ∈ vs, l.getD v 0 = 0 := fun v hv => by
  have := List.all_eq_true.mp h v hv
  simpa using this
theorem allP {vs : List Nat} {l : List Nat} (h : (vs.all fun v => !l.contains v) = true) : ∀ v ∈ vs, v ∉ l := fun v hv => by
  have := List.all_eq_true.mp h v hv
  simpa using this
theorem lc_read {fi : Ev → Res (List D × Ev)} {vs ts : List Nat} {g : D → Ev → Res Ev} {tt : Ev → Res (Bool × Ev)} {te : Ev → Res (D × Ev)} {K : PySem.W.Frag} (hk : ∀ v ∈ vs, c.ks.getD v 0 = 0) (hp : ∀ v ∈ vs, v ∉ c.pl) (ht : ∀ t ∈ ts, t ∈ vs) {σ : L2.St} {H : Hp} {Q : VK}
    (h : tF c K 0 (dComp fi vs g tt te) σ H Q) : tLc (tI c K fi) (tG c K ts g) (tT c K false tt) (tD c K false false te) vs σ H Q := by
  obtain ⟨ρ, Z, fo, R, d, ρ', hf, k⟩ := h
  obtain ⟨⟨ds, ρ1⟩, e1, hf⟩ := Res.bind_ok hf
  dsimp only at hf
  by_cases hl : ds.length ≤ 16777216
  · rw [if_pos hl] at hf
    obtain ⟨⟨es, ρ2⟩, e2, hf⟩ := Res.bind_ok hf
    cases hf
    refine ⟨ρ, Z, fo, R, ds, ρ1, e1, fun J H1 Z1 fo1 R1 s1 it D hD => ?_⟩
    obtain ⟨G, Y, w, hG, hY⟩ := it
    have hiD : c.Hi D = none := R1.dm D hD
    refine L2.lc_it w (fun i H' => ∃ ρi Zi foi acc aV rest, RS c K ρi Zi (L2.wipe σ vs) H' foi ∧ Stp fo1 Z1 H1 foi Zi H' ∧ Zi D ∧ (∀ j, ¬ foi j D) ∧ H' D = some (.lst aV) ∧ Shs K Zi H' acc aV ∧ acc.length ≤ i ∧
      cLoop vs g tt te (ds.drop i) ρi = .ok (rest, ρ2) ∧ es = acc ++ rest) ?_ ?_ ?_ ?_
    · obtain ⟨R2, s2⟩ := R1.take (vs := []) hD
      exact ⟨_, _, fo1, [], [], es, R2.wipe hp, s2, .inr rfl, fun j hj => R1.nz hD (R1.sub j D hj).1, upd_same, rfl, Nat.zero_le _, e2, rfl⟩
    · rintro i H' _ ⟨ρi, Zi, foi, acc, aV, rest, Ri, si, _⟩
      exact hG Zi H' (si.s0 R1)
    · rintro i x H' H2 hi ⟨ρi, Zi, foi, acc, aV, rest, Ri, si, zD, fD, hD', sA, lA, cl, ee⟩ y
      obtain ⟨sm, dd, hd, hx⟩ := hY i Zi H' x H2 hi (si.s0 R1) Ri.ownN y
      have ed : ds.drop i = dd :: ds.drop (i + 1) := by
        rw [List.drop_eq_getElem_cons hi]
        congr 1
        rw [List.getElem?_eq_getElem hi] at hd
        exact Option.some.inj hd
      rw [ed] at cl
      obtain ⟨ρ3, g1, cl⟩ := Res.bind_ok (show (g dd ρi).bind _ = .ok (rest, ρ2) from cl)
      obtain ⟨⟨kk, ρ4⟩, g2, cl⟩ := Res.bind_ok cl
      dsimp only at cl
      refine ⟨ρi, Zi, foi, dd, Ri.same sm, hx, ρ3, g1, fun σ3 H3 Z3 fo3 R3 s3 o3 => ?_⟩
      have ew : L2.wipe σ3 vs = L2.wipe σ vs := by
        rw [← wipe_wipe σ vs]
        exact wipe_ext o3.1 fun j hj => o3.2 j fun z => hj (ht j z)
      refine ⟨ew, ρ3, Z3, fo3, R3, kk, ρ4, g2, fun H4 Z4 fo4 R4 s4 _ => ?_⟩
      have s04 : Stp foi Zi H' fo4 Z4 H4 := ((Stp.same sm).trans s3).trans s4
      have hn : H' D ≠ none := by rw [hD']; exact fun z => nomatch z
      have D4 : H4 D = some (.lst aV) := s04.k1 D _ hD' fD
      have zD4 : Z4 D := s04.k3 D zD hn fD
      have fD4 : ∀ j, ¬ fo4 j D := s04.nf hD' fD
      cases kk with
      | false =>
        rw [if_neg Bool.false_ne_true] at cl
        refine iteF ⟨wipeE ρ4 vs, Z4, fo4, acc, aV, rest, ?_, si.trans s04, zD4, fD4, D4, Shs.stp (s04.s0 Ri) sA, by omega, cl, ee⟩
        rw [← ew]
        exact R4.wipe hp
      | true =>
        rw [if_pos rfl] at cl
        obtain ⟨⟨y1, ρ5⟩, g3, cl⟩ := Res.bind_ok cl
        obtain ⟨⟨rest2, ρ6⟩, g4, cl⟩ := Res.bind_ok cl
        cases cl
        refine iteT ⟨ρ4, Z4, fo4, R4, y1, ρ5, g3, fun yv H5 Z5 fo5 R5 s5 _ p5 => ?_⟩
        have s05 := s04.trans s5
        have D5 : H5 D = some (.lst aV) := s05.k1 D _ hD' fD
        have zD5 : Z5 D := s05.k3 D zD hn fD
        have fD5 : ∀ j, ¬ fo5 j D := s05.nf hD' fD
        have sA5 : Shs K Z5 H5 acc aV := Shs.stp (s05.s0 Ri) sA
        obtain ⟨R6, s6⟩ := R5.pend (ys := aV ++ [yv]) zD5 fD5 hiD D5
        refine ⟨aV, D5, ?_, wipeE ρ5 vs, Z5, fo5, acc ++ [y1], aV ++ [yv], rest2, ?_, ?_, zD5, fD5, upd_same, Shs.stp s6 (sA5.app (Shs.one p5)), by rw [List.length_append, List.length_singleton]; omega, g4, by rw [ee, List.append_assoc]; rfl⟩
        · rw [← sA5.len]
          exact sizeLine_gt (by omega)
        · rw [← ew]
          exact R6.wipe hp
        · have s15 := si.trans s05
          refine ⟨fun b o hb hf => ?_, s15.k2, s15.k3, s15.k4⟩
          rw [upd_ne (fun (e : b = D) => by rw [e, hD] at hb; cases hb)]
          exact s15.k1 b o hb hf
    · rintro H' ⟨ρi, Zi, foi, acc, aV, rest, Ri, si, zD, fD, hD', sA, lA, cl, ee⟩
      rw [List.drop_length] at cl
      cases cl
      rw [List.append_nil] at ee
      subst ee
      refine k _ H' Zi foi (Ri.unwipe R1 si hk hp) (s1.trans si) ⟨fun b => b = D, ⟨D, aV, rfl, rfl, zD, hD', sA.len, fun _ _ => False, fun _ _ z => z.elim, fun _ _ _ z _ => z.elim, fun i d v h1 h2 => ?_⟩, fun b hb => ⟨by rw [hb]; exact zD, .inr (by rw [hb]; exact hiD)⟩, fun j b hb z => fD j (by rw [← hb]; exact z), fun b hb => ?_⟩
      · obtain ⟨w, h3, h4⟩ := sA.get h1
        rw [h3] at h2
        cases h2
        exact h4
      · rw [hb]
        exact (s1.none hD).symm
  · rw [if_neg hl] at hf; cases hf
theorem df_lc {elt tg iter : Expr} {ifs : List Expr} {scope : Scope} {own : List (PySem.Str × Nat)} {fi : Ev → Res (List D × Ev)} {ts : List Nat} {g : D → Ev → Res Ev} {tt : Ev → Res (Bool × Ev)} {te : Ev → Res (D × Ev)} (hc : X.calm = true) (nd : X.N.Nodup) (hi : DI X c tg iter fi) (ok : BlkOk X.N X.env.scope scope own)
    (hg : ∀ (s : Shared) (H : Hp) (C : Addr) (cl : List (PySem.Str × Addr)) (fp : List Addr), DG (X.blk s H scope (compEnvC scope cl C X.env) fp) c tg ts g)
    (htt : ∀ (s : Shared) (H : Hp) (C : Addr) (cl : List (PySem.Str × Addr)) (fp : List Addr), DTs (X.blk s H scope (compEnvC scope cl C X.env) fp) c ifs tt)
    (he : ∀ (s : Shared) (H : Hp) (C : Addr) (cl : List (PySem.Str × Addr)) (fp : List Addr), DE (X.blk s H scope (compEnvC scope cl C X.env) fp) c false false elt te)
    (hk : ((own.map (·.2)).all fun v => c.ks.getD v 0 == 0) = true := by rfl) (hp : ((own.map (·.2)).all fun v => !c.pl.contains v) = true := by rfl) (ht : ∀ t ∈ ts, t ∈ own.map (·.2) := by decide) (hs : ∀ x, foldedSetIterable iter X.env x = pure x := by intro _; rfl) :
    DF X c 0 (.ListComp elt [⟨tg, iter, ifs, 0⟩] scope pos) (dComp fi (own.map (·.2)) g tt te) :=
  ⟨PE.imp (pe_lc hc nd hi.pi ok (fun s H C cl fp => (hg s H C cl fp).pg) (fun s H C cl fp => (htt s H C cl fp).pt) (fun s H C cl fp => (he s H C cl fp).pe) hs) fun σ H Q h => lc_read (allK hk) (allP hp) ht h⟩
/-- y = [..]: into a slot of level 1 -/
theorem ds_lc (i : Nat) {rk : Option Nat} {y : PySem.Str} {py spos : Pos} {elt tg iter : Expr} {ifs : List Expr} {scope : Scope} {own : List (PySem.Str × Nat)} {fi : Ev → Res (List D × Ev)} {ts : List Nat} {g : D → Ev → Res Ev} {tt : Ev → Res (Bool × Ev)} {te : Ev → Res (D × Ev)} (hc : X.calm = true) (nd : X.N.Nodup)
    (hsw : swapsWith (.ListComp elt [⟨tg, iter, ifs, 0⟩] scope pos) (some (.Name y py)) spos.line X.env = pure true) (hi : DI X c tg iter fi) (ok : BlkOk X.N X.env.scope scope own)
    (hg : ∀ (s : Shared) (H : Hp) (C : Addr) (cl : List (PySem.Str × Addr)) (fp : List Addr), DG (X.blk s H scope (compEnvC scope cl C X.env) fp) c tg ts g)
    (htt : ∀ (s : Shared) (H : Hp) (C : Addr) (cl : List (PySem.Str × Addr)) (fp : List Addr), DTs (X.blk s H scope (compEnvC scope cl C X.env) fp) c ifs tt)
    (he : ∀ (s : Shared) (H : Hp) (C : Addr) (cl : List (PySem.Str × Addr)) (fp : List Addr), DE (X.blk s H scope (compEnvC scope cl C X.env) fp) c false false elt te)
    (hki : c.ks.getD i 0 = 1 := by rfl) (hpi : c.pl.contains i = false := by rfl) (hy : X.N[i]? = some y := by rfl) (hyl : X.env.scope.names.lookup y = some .local := by rfl)
    (hk : ((own.map (·.2)).all fun v => c.ks.getD v 0 == 0) = true := by rfl) (hp : ((own.map (·.2)).all fun v => !c.pl.contains v) = true := by rfl) (ht : ∀ t ∈ ts, t ∈ own.map (·.2) := by decide) (hs : ∀ x, foldedSetIterable iter X.env x = pure x := by intro _; rfl) :
    DS X c rk (.Assign [.Name y py] (.ListComp elt [⟨tg, iter, ifs, 0⟩] scope pos) spos) (sSet i (dComp fi (own.map (·.2)) g tt te)) := ⟨by
  refine PS.imp (ps_setLc (te := tD c X.K false false te) (g := tG c X.K ts g) (tt := tT c X.K false tt) hc nd hy hyl hsw hi.pi ok (fun s H C cl fp => (hg s H C cl fp).pg) (fun s H C cl fp => (htt s H C cl fp).pt) (fun s H C cl fp => (he s H C cl fp).pe) hs) fun E σ H ⟨ρ, Z, fo, R, fl, hf, k⟩ => ?_
  obtain ⟨⟨d1, ρ1⟩, h1, hf⟩ := Res.bind_ok hf
  cases hf
  refine lc_read (allK hk) (allP hp) ht ⟨ρ, Z, fo, R, d1, ρ1, h1, fun v H1 Z1 fo1 R1 s1 p1 => ?_⟩
  obtain ⟨fo2, R2, s2⟩ := R1.adopt hki hpi s1 p1
  exact k _ H1 Z1 fo2 R2 s2⟩
/-- .. into a slot of level 0: shared from here on -/
theorem ds_lc0 (i : Nat) {rk : Option Nat} {y : PySem.Str} {py spos : Pos} {elt tg iter : Expr} {ifs : List Expr} {scope : Scope} {own : List (PySem.Str × Nat)} {fi : Ev → Res (List D × Ev)} {ts : List Nat} {g : D → Ev → Res Ev} {tt : Ev → Res (Bool × Ev)} {te : Ev → Res (D × Ev)} (hc : X.calm = true) (nd : X.N.Nodup)
    (hsw : swapsWith (.ListComp elt [⟨tg, iter, ifs, 0⟩] scope pos) (some (.Name y py)) spos.line X.env = pure true) (hi : DI X c tg iter fi) (ok : BlkOk X.N X.env.scope scope own)
    (hg : ∀ (s : Shared) (H : Hp) (C : Addr) (cl : List (PySem.Str × Addr)) (fp : List Addr), DG (X.blk s H scope (compEnvC scope cl C X.env) fp) c tg ts g)
    (htt : ∀ (s : Shared) (H : Hp) (C : Addr) (cl : List (PySem.Str × Addr)) (fp : List Addr), DTs (X.blk s H scope (compEnvC scope cl C X.env) fp) c ifs tt)
    (he : ∀ (s : Shared) (H : Hp) (C : Addr) (cl : List (PySem.Str × Addr)) (fp : List Addr), DE (X.blk s H scope (compEnvC scope cl C X.env) fp) c false false elt te)
    (hki : c.ks.getD i 0 = 0 := by rfl) (hpi : c.pl.contains i = false := by rfl) (hy : X.N[i]? = some y := by rfl) (hyl : X.env.scope.names.lookup y = some .local := by rfl)
    (hk : ((own.map (·.2)).all fun v => c.ks.getD v 0 == 0) = true := by rfl) (hp : ((own.map (·.2)).all fun v => !c.pl.contains v) = true := by rfl) (ht : ∀ t ∈ ts, t ∈ own.map (·.2) := by decide) (hs : ∀ x, foldedSetIterable iter X.env x = pure x := by intro _; rfl) :
    DS X c rk (.Assign [.Name y py] (.ListComp elt [⟨tg, iter, ifs, 0⟩] scope pos) spos) (sSet i (dComp fi (own.map (·.2)) g tt te)) := ⟨by
  refine PS.imp (ps_setLc (te := tD c X.K false false te) (g := tG c X.K ts g) (tt := tT c X.K false tt) hc nd hy hyl hsw hi.pi ok (fun s H C cl fp => (hg s H C cl fp).pg) (fun s H C cl fp => (htt s H C cl fp).pt) (fun s H C cl fp => (he s H C cl fp).pe) hs) fun E σ H ⟨ρ, Z, fo, R, fl, hf, k⟩ => ?_
  obtain ⟨⟨d1, ρ1⟩, h1, hf⟩ := Res.bind_ok hf
  cases hf
  refine lc_read (allK hk) (allP hp) ht ⟨ρ, Z, fo, R, d1, ρ1, h1, fun v H1 Z1 fo1 R1 s1 p1 => ?_⟩
  obtain ⟨Z2, R2, s2, p2⟩ := R1.freeze s1 p1
  exact k _ H1 Z2 fo1 (R2.set hki hpi p2) s2⟩
end
end DL
/-! defs and their calls -/
namespace DL
open PySem PySem.Spec PyProof.Rows L2

abbrev Fn := List D → Res (D × List D)
/-- what a call hands back -/
def ResC (K : PySem.W.Frag) (rk : Option Nat) (fo : Nat → AP) (H : Hp) (fo' : Nat → AP) (Z' : AP) (H' : Hp) (d : D) (v : V) : Prop := match rk with
  | none => Sh K Z' H' d v
  | some n => ∃ P : AP, Ow K Z' H' (n + 1) d v P ∧ (∀ b, P b → Z' b ∧ ((∃ i, fo i b) ∨ H b = none)) ∧ ∀ j b, P b → ¬ fo' j b
def ResK (c : DC) (K : PySem.W.Frag) (rk : Option Nat) (fo : Nat → AP) (H : Hp) (fo' : Nat → AP) (Z' : AP) (H' : Hp) (d : D) (v : V) : Prop := match rk with
  | none => Sh K Z' H' d v
  | some n => FrR c K fo H fo' Z' H' n d v
/-- what holds behind a call -/
structure CEnd (K : PySem.W.Frag) (ks : List Nat) (rk : Option Nat) (fo : Nat → AP) (Z : AP) (H : Hp) (fo' : Nat → AP) (Z' : AP) (H' : Hp) (vs : List V) (ds' : List D) (d : D) (v : V) : Prop where
  e1 : ∀ b o, H b = some o → (∀ j, ¬ fo j b) → H' b = some o
  dm : ∀ b, H' b = none → H b = none
  e2 : ∀ b, Z' b → Z b ∨ H b = none
  e3 : ∀ b, Z b → (∀ j, ¬ fo j b) → Z' b
  own : ∀ b, Z' b → ∃ o, H' b = some o ∧ mutO o = true
  dis : ∀ i j b, fo' i b → fo' j b → i = j
  sub : ∀ j b, fo' j b → Z' b ∧ ((∃ i, fo i b) ∨ H b = none)
  lds : ds'.length = ks.length
  par : ∀ j k d' v, ks[j]? = some k → k ≠ 0 → ds'[j]? = some d' → vs[j]? = some v → Ow K Z' H' k d' v (fo' j)
  res : ResC K rk fo H fo' Z' H' d v
/-- a def's promise by its pure function; ks: the parameters' levels -/
def spD (K : PySem.W.Frag) (ks : List Nat) (rk : Option Nat) (F : Fn) : Sp := fun vs H Q _ => ∃ ds Z fo, vs.length = ks.length ∧ ds.length = ks.length ∧ (∀ j k d v, ks[j]? = some k → ds[j]? = some d → vs[j]? = some v → Ow K Z H k d v (fo j)) ∧
  (∀ i j b, fo i b → fo j b → i = j) ∧ (∀ b, Z b → ∃ o, H b = some o ∧ mutO o = true) ∧ (∀ j b, fo j b → Z b) ∧
  ∃ d ds', F ds = .ok (d, ds') ∧ ∀ v H' Z' fo', CEnd K ks rk fo Z H fo' Z' H' vs ds' d v → Q v H'
/-- the parameters' last values -/
def outP (ρ : Ev) : List Nat → Nat → Res (List D)
  | [], _ => .ok []
  | k :: ks, j => if k = 0 then (outP ρ ks (j + 1)).bind fun ds => .ok (.non :: ds) else match ρ[j]? with
    | some (some d) => (outP ρ ks (j + 1)).bind fun ds => .ok (d :: ds)
    | _ => .err
/-- a def's pure function, by its body -/
def mkF (N : Nat) (ks : List Nat) (rk : Option Nat) (body : Ev → Res Fl) : Fn := fun ds => (body (ds.map some ++ List.replicate (N - ds.length) none)).bind fun fl => match fl with
  | .rt d ρ => (outP ρ ks 0).bind fun o => .ok (d, o)
  | .nx ρ => match rk with
    | none => (outP ρ ks 0).bind fun o => .ok (.non, o)
    | some _ => .err
  | _ => .err
theorem outP_get {ρ : Ev} : ∀ {ks : List Nat} {i : Nat} {ds : List D}, outP ρ ks i = .ok ds → ds.length = ks.length ∧ ∀ j k d, ks[j]? = some k → k ≠ 0 → ds[j]? = some d → ρ[i + j]? = some (some d)
  | [], i, ds, h => by
    cases h
    exact ⟨rfl, fun j k d h => by simp at h⟩
  | k :: ks, i, ds, h => by
    by_cases hk : k = 0
    · have h' : (outP ρ ks (i + 1)).bind (fun ds => Res.ok (D.non :: ds)) = .ok ds := by
        have h2 := h
        unfold outP at h2
        rw [if_pos hk] at h2
        exact h2
      obtain ⟨es, h1, h2⟩ := Res.bind_ok h'
      cases h2
      obtain ⟨l, q⟩ := outP_get h1
      refine ⟨by rw [List.length_cons, List.length_cons, l], fun j k' d h3 h4 h5 => ?_⟩
      cases j with
      | zero =>
        have e : k = k' := by simpa using h3
        exact absurd (e ▸ hk) h4
      | succ j =>
        rw [show i + (j + 1) = (i + 1) + j by omega]
        exact q j k' d (by simpa using h3) h4 (by simpa using h5)
    · have h' : (match ρ[i]? with | some (some d) => (outP ρ ks (i + 1)).bind (fun ds => Res.ok (d :: ds)) | _ => .err) = .ok ds := by
        have h2 := h
        unfold outP at h2
        rw [if_neg hk] at h2
        exact h2
      split at h'
      · rename_i d0 h0
        obtain ⟨es, h1, h2⟩ := Res.bind_ok h'
        cases h2
        obtain ⟨l, q⟩ := outP_get h1
        refine ⟨by rw [List.length_cons, List.length_cons, l], fun j k' d h3 h4 h5 => ?_⟩
        cases j with
        | zero =>
          have e : d0 = d := by simpa using h5
          rw [← e]
          exact h0
        | succ j =>
          rw [show i + (j + 1) = (i + 1) + j by omega]
          exact q j k' d (by simpa using h3) h4 (by simpa using h5)
      · cases h'
/-- which slots are pinned: the parameters that are changed in place -/
def pinL : List Nat → Nat → List Nat
  | [], _ => []
  | k :: ks, i => if k = 0 then pinL ks (i + 1) else i :: pinL ks (i + 1)
theorem mem_pinL : ∀ {ks : List Nat} {i j : Nat}, j ∈ pinL ks i ↔ ∃ m k, j = i + m ∧ ks[m]? = some k ∧ k ≠ 0
  | [], i, j => by simp [pinL]
  | k :: ks, i, j => by
    unfold pinL
    by_cases hk : k = 0
    · rw [if_pos hk, mem_pinL]
      constructor
      · rintro ⟨m, k', e, h1, h2⟩
        exact ⟨m + 1, k', by omega, by simpa using h1, h2⟩
      · rintro ⟨m, k', e, h1, h2⟩
        cases m with
        | zero =>
          have e2 : k = k' := by simpa using h1
          exact absurd (e2 ▸ hk) h2
        | succ m => exact ⟨m, k', by omega, by simpa using h1, h2⟩
    · rw [if_neg hk, List.mem_cons, mem_pinL]
      constructor
      · rintro (e | ⟨m, k', e, h1, h2⟩)
        · exact ⟨0, k, by omega, rfl, hk⟩
        · exact ⟨m + 1, k', by omega, by simpa using h1, h2⟩
      · rintro ⟨m, k', e, h1, h2⟩
        cases m with
        | zero => exact .inl (by omega)
        | succ m => exact .inr ⟨m, k', by omega, by simpa using h1, h2⟩
section
variable {P : Program} {w : World} {K : PySem.W.Frag} {mg : Str → Option Value} {base : Heap}
theorem start_get {N : List PySem.Str} {vs : List V} {i : Nat} (h : i < vs.length) : (L2.start N vs)[i]? = (vs[i]?).map some := by
  unfold L2.start
  rw [List.getElem?_append_left (by simpa using h), List.getElem?_map]
/-- the context of a def's body -/
abbrev dc (ks lv : List Nat) (N : List PySem.Str) (vs : List V) (M Z : AP) (H : Hp) : DC := ⟨lv, pinL ks 0, fun j => (L2.start N vs)[j]?, M, Z, H⟩
theorem fun_ok {x qual : PySem.Str} {st : Stmt} {f : Addr} {fd : FuncData} {N ps : List PySem.Str} {k : Nat} {ks lv : List Nat} {rk : Option Nat} {b : Ev → Res Fl} (F : Fun K x qual st f fd) (S : FnScope N ps (defScope st)) (hps : ps.length = ks.length) (hlv : lv.take ks.length = ks)
    (hbody : ∀ (cdv : Value) (A : Around) (outer : List Env) (s : Shared) (H H0 : Hp) (vs : List V) (E : XK) (M Z : AP), Room k (A.deeper (envOfC qual (defScope st) s.heap.objs.size f cdv)) →
      DSs (cxOf CX0 P w K mg base N qual (defScope st) f cdv A outer s H E).nox (dc ks lv N vs M Z H0) rk (defBody st) b) :
    FnOk P w K mg base CX0 (k + 1) f fd ps (spD K ks rk (mkF N.length ks rk b)) := by
  refine F.ok S (fun vs H Q E ⟨ds, Z, fo, h, _⟩ => by rw [h, hps]) fun cdv A outer s H vs Q E hr h => ?_
  obtain ⟨ds, Z, fo, lv1, ld, hp, hdis, hown, hsub, d, ds', hF, hQ⟩ := h
  refine ⟨_, (hbody cdv A outer s H H vs E (fun b => ∃ j, fo j b) Z hr).ps, ?_⟩
  obtain ⟨fl, hb, hF⟩ := Res.bind_ok hF
  have hN : ks.length ≤ N.length := by
    have e := congrArg List.length S.pre
    rw [List.length_take, hps] at e
    omega
  have lget : ∀ {i k}, ks[i]? = some k → lv.getD i 0 = k := fun {i k} h => by
    have hi : i < ks.length := (List.getElem?_eq_some_iff.mp h).1
    rw [← hlv, List.getElem?_take_of_lt hi] at h
    rw [List.getD_eq_getElem?_getD, h]
    rfl
  refine ⟨ds.map some ++ List.replicate (N.length - ds.length) none, Z, fo, ?_, fl, hb, ?_⟩
  · refine ⟨?_, fun i d h => ?_, hdis, hown, fun i b h => ⟨hsub i b h, .inl ⟨i, h⟩⟩, fun b o h _ => h, fun b h => h, fun b h => .inl h, fun b h _ => h, fun b h => ?_, fun i hi => rfl⟩
    · unfold L2.start
      rw [List.length_append, List.length_append, List.length_map, List.length_map, List.length_replicate, List.length_replicate, ld, lv1]
    · have hi : i < ds.length := by
        by_cases hi : i < ds.length
        · exact hi
        · rw [List.getElem?_append_right (by simpa using hi), List.getElem?_replicate] at h
          split at h <;> cases h
      rw [List.getElem?_append_left (by simpa using hi), List.getElem?_map] at h
      have hd : ds[i]? = some d := by
        cases e : ds[i]? with
        | none => rw [e] at h; cases h
        | some z =>
          rw [e] at h
          cases h
          rfl
      have hiv : i < vs.length := by omega
      obtain ⟨k, hk⟩ : ∃ k, ks[i]? = some k := ⟨ks[i]'(by omega), List.getElem?_eq_getElem (by omega)⟩
      refine ⟨vs[i], ?_, ?_⟩
      · rw [start_get hiv, List.getElem?_eq_getElem hiv]
        rfl
      · show Ow K Z H (lv.getD i 0) d vs[i] (fo i)
        rw [lget hk]
        exact hp i k d _ hk hd (List.getElem?_eq_getElem hiv)
    · obtain ⟨o, h1, _⟩ := hown b h
      show H b ≠ none
      rw [h1]
      exact fun z => nomatch z
  · -- the end
    have fin : ∀ {ρ' : Ev} {o : List D} {v : V} {σ' : L2.St} {H' : Hp} {Z' : AP} {fo' : Nat → AP}, outP ρ' ks 0 = .ok o → RS (dc ks lv N vs (fun b => ∃ j, fo j b) Z H) K ρ' Z' σ' H' fo' → (d : D) →
        ResC K rk fo H fo' Z' H' d v →
        CEnd K ks rk fo Z H fo' Z' H' vs o d v := fun {ρ' o v σ' H' Z' fo'} h R d hr2 => by
      refine ⟨fun b o h1 h2 => R.e1 b o h1 fun ⟨j, hj⟩ => h2 j hj, R.dm, R.e2, fun b h1 h2 => R.e3 b h1 fun ⟨j, hj⟩ => h2 j hj, R.own, R.dis, R.sub, (outP_get h).1, fun j k d' v' h1 h2 h3 h4 => ?_, hr2⟩
      obtain ⟨lo, hg⟩ := outP_get h
      have e1 := hg j k d' h1 h2 h3
      rw [Nat.zero_add] at e1
      obtain ⟨u, q1, q2⟩ := R.val j d' e1
      have hpin := R.pin j (mem_pinL.mpr ⟨j, k, by omega, h1, h2⟩)
      have hjv : j < vs.length := (List.getElem?_eq_some_iff.mp h4).1
      rw [q1] at hpin
      have hpin' : some (some u) = (L2.start N vs)[j]? := hpin
      rw [start_get hjv, h4] at hpin'
      have eu : u = v' := Option.some.inj (Option.some.inj hpin')
      rw [← eu]
      have e3 : (dc ks lv N vs (fun b => ∃ j, fo j b) Z H).ks.getD j 0 = k := lget h1
      rw [e3] at q2
      exact q2
    cases fl with
    | rt d1 ρ1 =>
      obtain ⟨o, h1, h2⟩ := Res.bind_ok (show (outP ρ1 ks 0).bind (fun o => Res.ok (d1, o)) = .ok (d, ds') from hF)
      cases h2
      intro v σ' H' Z' fo' R' s' r'
      refine hQ v H' Z' fo' (fin h1 R' d ?_)
      cases rk with
      | none => exact r'
      | some n =>
        obtain ⟨P, q1, q2, q3, _⟩ := FrR.ex r'
        exact ⟨P, q1, q2, q3⟩
    | nx ρ1 =>
      cases rk with
      | some n => cases hF
      | none =>
        obtain ⟨o, h1, h2⟩ := Res.bind_ok (show (outP ρ1 ks 0).bind (fun o => Res.ok (D.non, o)) = .ok (d, ds') from hF)
        cases h2
        intro σ' H' Z' fo' R' s'
        exact hQ .non H' Z' fo' (fin h1 R' .non rfl)
    | bk ρ1 => cases hF
    | ct ρ1 => cases hF
end

/-! ### calls -/
inductive AK where
  | s
  | io (i : Nat)
def ArgsR (K : PySem.W.Frag) (σ : L2.St) (Z : AP) (H : Hp) : List AK → List (Option D) → List V → Prop
  | [], [], [] => True
  | .s :: as, some d :: ds, v :: vs => Sh K Z H d v ∧ ArgsR K σ Z H as ds vs
  | .io i :: as, none :: ds, v :: vs => σ[i]? = some (some v) ∧ ArgsR K σ Z H as ds vs
  | _, _, _ => False
def tArgs (c : DC) (K : PySem.W.Frag) (as : List AK) (f : Ev → Res (List (Option D) × Ev)) : TA := fun σ H Q => ∃ ρ Z fo, RS c K ρ Z σ H fo ∧ ∃ ds ρ', f ρ = .ok (ds, ρ') ∧
  ∀ vs H' Z' fo', RS c K ρ' Z' σ H' fo' → Stp fo Z H fo' Z' H' → ArgsR K σ Z' H' as ds vs → Q vs H'
structure DA (X : Cx) (c : DC) (es : List Expr) (as : List AK) (f : Ev → Res (List (Option D) × Ev)) : Prop where
  pa : PA X es (tArgs c X.K as f)
def aNil (ρ : Ev) : Res (List (Option D) × Ev) := .ok ([], ρ)
def aS (f : Ev → Res (D × Ev)) (g : Ev → Res (List (Option D) × Ev)) (ρ : Ev) : Res (List (Option D) × Ev) := (f ρ).bind fun p => (g p.2).bind fun r => .ok (some p.1 :: r.1, r.2)
def aIO (i : Nat) (g : Ev → Res (List (Option D) × Ev)) (ρ : Ev) : Res (List (Option D) × Ev) := match ρ[i]? with
  | some (some _) => (g ρ).bind fun r => .ok (none :: r.1, r.2)
  | _ => .err
theorem ArgsR.stp {K : PySem.W.Frag} {σ : L2.St} {Z Z' : AP} {H H' : Hp} (s : Stp0 Z H Z' H') : ∀ {as : List AK} {ds : List (Option D)} {vs : List V}, ArgsR K σ Z H as ds vs → ArgsR K σ Z' H' as ds vs
  | [], [], [], _ => True.intro
  | .s :: as, some d :: ds, v :: vs, h => ⟨Sh.stp s h.1, ArgsR.stp s h.2⟩
  | .io i :: as, none :: ds, v :: vs, h => ⟨h.1, ArgsR.stp s h.2⟩
  | [], [], _ :: _, h => h.elim
  | [], _ :: _, _, h => by cases h
  | .s :: as, [], _, h => by cases h
  | .s :: as, none :: ds, _, h => by cases h
  | .s :: as, some d :: ds, [], h => by cases h
  | .io i :: as, [], _, h => by cases h
  | .io i :: as, some d :: ds, _, h => by cases h
  | .io i :: as, none :: ds, [], h => by cases h
def fillA (ρ : Ev) : List AK → List (Option D) → Res (List D)
  | [], [] => .ok []
  | .s :: as, some d :: ds => (fillA ρ as ds).bind fun r => .ok (d :: r)
  | .io i :: as, none :: ds => match ρ[i]? with
    | some (some d) => (fillA ρ as ds).bind fun r => .ok (d :: r)
    | _ => .err
  | _, _ => .err
def putA : List AK → List D → Ev → Ev
  | .s :: as, _ :: ds, ρ => putA as ds ρ
  | .io i :: as, d :: ds, ρ => putA as ds (ρ.set i (some d))
  | _, _, ρ => ρ
def dCall (as : List AK) (F : Fn) (g : Ev → Res (List (Option D) × Ev)) (ρ : Ev) : Res (D × Ev) := (g ρ).bind fun p => (fillA p.2 as p.1).bind fun ds => (F ds).bind fun r => .ok (r.1, putA as r.2 p.2)
/-- the slots that are handed in, by the parameters' places; the levels that are due -/
def ioAt : List AK → Nat → Option Nat
  | .io i :: _, 0 => some i
  | _ :: as, j + 1 => ioAt as j
  | _, _ => none
def ksOf (lv : List Nat) : List AK → List Nat
  | [] => []
  | .s :: as => 0 :: ksOf lv as
  | .io i :: as => lv.getD i 0 :: ksOf lv as
def ios : List AK → List Nat
  | [] => []
  | .s :: as => ios as
  | .io i :: as => i :: ios as
section
variable {X : Cx} {c : DC} {K : PySem.W.Frag}
theorem da_nil : DA X c [] [] aNil := ⟨by
  refine PA.imp pa_nil fun σ H Q ⟨ρ, Z, fo, R, ds, ρ', hf, k⟩ => ?_
  cases hf
  exact k [] H Z fo R Stp.refl True.intro⟩
theorem da_s {e : Expr} {es : List Expr} {as : List AK} {f : Ev → Res (D × Ev)} {g : Ev → Res (List (Option D) × Ev)} (ha : DE X c false false e f) (hr : DA X c es as g) (hs : starEach (e :: es) X.env = (false, eval e X.env) :: starEach es X.env := by rfl) : DA X c (e :: es) (.s :: as) (aS f g) := ⟨by
  refine PA.imp (pa_cons ha.pe hr.pa hs) fun σ H Q ⟨ρ, Z, fo, R, ds, ρ', hf, k⟩ => ?_
  obtain ⟨⟨d1, ρ1⟩, h1, hf⟩ := Res.bind_ok hf
  obtain ⟨⟨d2, ρ2⟩, h2, hf⟩ := Res.bind_ok hf
  cases hf
  refine ⟨ρ, Z, fo, R, d1, ρ1, h1, fun x H1 Z1 fo1 R1 s1 m1 p1 => ⟨ρ1, Z1, fo1, R1, d2, ρ2, h2, fun xs H2 Z2 fo2 R2 s2 p2 => ?_⟩⟩
  exact k (x :: xs) H2 Z2 fo2 R2 (s1.trans s2) ⟨Sh.stp (s2.s0 R1) p1, p2⟩⟩
theorem da_io (i : Nat) {x : PySem.Str} {pos : Pos} {es : List Expr} {as : List AK} {g : Ev → Res (List (Option D) × Ev)} (hr : DA X c es as g) (hN : X.N[i]? = some x := by rfl) (hv : Vis X.env.scope x := by first | exact Or.inl rfl | exact Or.inr (Or.inl rfl) | exact Or.inr (Or.inr rfl)) (hd : (x == ("__debug__" : Str)) = false := by decide)
    (hcd : (x == ("__classdict__" : Str)) = false := by decide) (hs : starEach (.Name x pos :: es) X.env = (false, eval (.Name x pos) X.env) :: starEach es X.env := by rfl) : DA X c (.Name x pos :: es) (.io i :: as) (aIO i g) := ⟨by
  refine PA.imp (pa_cons (pe_var hN hv hd hcd) hr.pa hs) fun σ H Q ⟨ρ, Z, fo, R, ds, ρ', hf, k⟩ => ?_
  unfold aIO at hf
  split at hf
  · rename_i d0 h0
    obtain ⟨⟨d2, ρ2⟩, h2, hf⟩ := Res.bind_ok hf
    cases hf
    obtain ⟨v, q1, _⟩ := R.val i d0 h0
    exact ⟨v, q1, ρ, Z, fo, R, d2, ρ2, h2, fun xs H2 Z2 fo2 R2 s2 p2 => k (v :: xs) H2 Z2 fo2 R2 s2 ⟨q1, p2⟩⟩
  · cases hf⟩
theorem mem_ios : ∀ {as : List AK} {i : Nat}, i ∈ ios as ↔ ∃ j, ioAt as j = some i
  | [], i => by simp [ios, ioAt]
  | .s :: as, i => by
    show i ∈ ios as ↔ _
    rw [mem_ios]
    constructor
    · rintro ⟨j, h⟩
      exact ⟨j + 1, h⟩
    · rintro ⟨j, h⟩
      cases j with
      | zero => cases h
      | succ j => exact ⟨j, h⟩
  | .io k :: as, i => by
    show i ∈ k :: ios as ↔ _
    rw [List.mem_cons, mem_ios]
    constructor
    · rintro (e | ⟨j, h⟩)
      · exact ⟨0, by rw [e]; rfl⟩
      · exact ⟨j + 1, h⟩
    · rintro ⟨j, h⟩
      cases j with
      | zero =>
        have h' : some k = some i := h
        exact .inl (Option.some.inj h').symm
      | succ j => exact .inr ⟨j, h⟩
theorem ioAt_inj : ∀ {as : List AK} {j k i : Nat}, (ios as).Nodup → ioAt as j = some i → ioAt as k = some i → j = k
  | [], j, k, i, _, h, _ => by cases j <;> cases h
  | .s :: as, 0, k, i, _, h, _ => by cases h
  | .s :: as, j + 1, 0, i, _, _, h => by cases h
  | .s :: as, j + 1, k + 1, i, nd, h1, h2 => by rw [ioAt_inj (as := as) nd h1 h2]
  | .io m :: as, 0, 0, i, _, _, _ => rfl
  | .io m :: as, 0, k + 1, i, nd, h1, h2 => by
    have e : some m = some i := h1
    cases e
    exact absurd (mem_ios.mpr ⟨k, h2⟩) (List.nodup_cons.mp nd).1
  | .io m :: as, j + 1, 0, i, nd, h1, h2 => by
    have e : some m = some i := h2
    cases e
    exact absurd (mem_ios.mpr ⟨j, h1⟩) (List.nodup_cons.mp nd).1
  | .io m :: as, j + 1, k + 1, i, nd, h1, h2 => by rw [ioAt_inj (as := as) (List.nodup_cons.mp nd).2 h1 h2]
/-- what the arguments are, place by place -/
theorem args_get {σ : L2.St} {Z : AP} {H : Hp} {ρ : Ev} {lv : List Nat} : ∀ {as : List AK} {os : List (Option D)} {vs : List V} {ds : List D}, ArgsR K σ Z H as os vs → fillA ρ as os = .ok ds → vs.length = as.length ∧ ds.length = as.length ∧
    ∀ j d v, ds[j]? = some d → vs[j]? = some v → (ioAt as j = none ∧ (ksOf lv as)[j]? = some 0 ∧ Sh K Z H d v) ∨ ∃ i, ioAt as j = some i ∧ (ksOf lv as)[j]? = some (lv.getD i 0) ∧ σ[i]? = some (some v) ∧ ρ[i]? = some (some d)
  | [], [], [], ds, _, h => by
    cases h
    exact ⟨rfl, rfl, fun j d v h => by simp at h⟩
  | .s :: as, some d :: os, v :: vs, ds, a, h => by
    obtain ⟨r, h1, h2⟩ := Res.bind_ok (show (fillA ρ as os).bind (fun r => Res.ok (d :: r)) = .ok ds from h)
    cases h2
    obtain ⟨l1, l2, q⟩ := args_get (lv := lv) a.2 h1
    refine ⟨by rw [List.length_cons, List.length_cons, l1], by rw [List.length_cons, List.length_cons, l2], fun j d' v' e1 e2 => ?_⟩
    cases j with
    | zero =>
      have z1 : d = d' := by simpa using e1
      have z2 : v = v' := by simpa using e2
      rw [← z1, ← z2]
      exact .inl ⟨rfl, rfl, a.1⟩
    | succ j => exact q j d' v' (by simpa using e1) (by simpa using e2)
  | .io i :: as, none :: os, v :: vs, ds, a, h => by
    have h' : (match ρ[i]? with | some (some d) => (fillA ρ as os).bind (fun r => Res.ok (d :: r)) | _ => .err) = .ok ds := h
    split at h'
    · rename_i d hd
      obtain ⟨r, h1, h2⟩ := Res.bind_ok h'
      cases h2
      obtain ⟨l1, l2, q⟩ := args_get (lv := lv) a.2 h1
      refine ⟨by rw [List.length_cons, List.length_cons, l1], by rw [List.length_cons, List.length_cons, l2], fun j d' v' e1 e2 => ?_⟩
      cases j with
      | zero =>
        have z1 : d = d' := by simpa using e1
        have z2 : v = v' := by simpa using e2
        rw [← z1, ← z2]
        exact .inr ⟨i, rfl, rfl, a.1, hd⟩
      | succ j => exact q j d' v' (by simpa using e1) (by simpa using e2)
    · cases h'
  | [], [], _ :: _, _, h, _ => h.elim
  | [], _ :: _, _, _, h, _ => by cases h
  | .s :: as, [], _, _, h, _ => by cases h
  | .s :: as, none :: ds, _, _, h, _ => by cases h
  | .s :: as, some d :: ds, [], _, h, _ => by cases h
  | .io i :: as, [], _, _, h, _ => by cases h
  | .io i :: as, some d :: ds, _, _, h, _ => by cases h
  | .io i :: as, none :: ds, [], _, h, _ => by cases h
theorem putA_len : ∀ {as : List AK} {ds : List D} {ρ : Ev}, (putA as ds ρ).length = ρ.length
  | [], _, _ => rfl
  | .s :: as, [], _ => rfl
  | .io i :: as, [], _ => rfl
  | .s :: as, _ :: ds, ρ => putA_len (as := as)
  | .io i :: as, d :: ds, ρ => by
    show (putA as ds (ρ.set i (some d))).length = _
    rw [putA_len, List.length_set]
theorem putA_out : ∀ {as : List AK} {ds : List D} {ρ : Ev} {i : Nat}, i ∉ ios as → (putA as ds ρ)[i]? = ρ[i]?
  | [], _, _, _, _ => rfl
  | .s :: as, [], _, _, _ => rfl
  | .io i :: as, [], _, _, _ => rfl
  | .s :: as, _ :: ds, ρ, i, h => putA_out (as := as) h
  | .io k :: as, d :: ds, ρ, i, h => by
    show (putA as ds (ρ.set k (some d)))[i]? = _
    rw [putA_out (fun z => h (List.mem_cons_of_mem _ z)), List.getElem?_set_ne (fun e => h (by rw [e]; exact List.mem_cons_self))]
theorem putA_in : ∀ {as : List AK} {ds : List D} {ρ : Ev} {i j : Nat} {d : D}, (ios as).Nodup → ioAt as j = some i → ds.length = as.length → (putA as ds ρ)[i]? = some (some d) → ds[j]? = some d
  | [], _, _, _, j, _, _, h, _, _ => by cases j <;> cases h
  | .s :: as, [], _, _, _, _, _, _, l, _ => by simp at l
  | .io i :: as, [], _, _, _, _, _, _, l, _ => by simp at l
  | .s :: as, _ :: ds, ρ, i, 0, d, nd, h, l, e => by cases h
  | .s :: as, _ :: ds, ρ, i, j + 1, d, nd, h, l, e => by
    have := putA_in (as := as) (ds := ds) (ρ := ρ) nd h (by simpa using l) e
    simpa using this
  | .io k :: as, d' :: ds, ρ, i, 0, d, nd, h, l, e => by
    have h' : some k = some i := h
    cases h'
    have e' : (putA as ds (ρ.set k (some d')))[k]? = some (some d) := e
    rw [putA_out (List.nodup_cons.mp nd).1] at e'
    by_cases hk : k < ρ.length
    · rw [List.getElem?_set_self hk] at e'
      have z : d' = d := Option.some.inj (Option.some.inj e')
      rw [z]
      rfl
    · rw [List.getElem?_eq_none (by simpa using hk)] at e'; cases e'
  | .io k :: as, d' :: ds, ρ, i, j + 1, d, nd, h, l, e => by
    have := putA_in (as := as) (ds := ds) (ρ := ρ.set k (some d')) (List.nodup_cons.mp nd).2 h (by simpa using l) e
    simpa using this
/-- the call's own footprints -/
def foC (fo : Nat → AP) (as : List AK) (j : Nat) : AP := fun b => ∃ i, ioAt as j = some i ∧ fo i b
def foN (fo fo' : Nat → AP) (as : List AK) (i : Nat) : AP := fun b => (∃ j, ioAt as j = some i ∧ fo' j b) ∨ (i ∉ ios as ∧ fo i b)
theorem RS.called {ρ : Ev} {Z Z' : AP} {σ : L2.St} {H H' : Hp} {fo fo' : Nat → AP} {as : List AK} {os : List (Option D)} {vs : List V} {ds ds' : List D} {rk : Option Nat} {d : D} {v : V} (R : RS c K ρ Z σ H fo) (nd : (ios as).Nodup) (a : ArgsR K σ Z H as os vs) (hf : fillA ρ as os = .ok ds)
    (h0 : ∀ i ∈ ios as, c.ks.getD i 0 ≠ 0) (h : CEnd K (ksOf c.ks as) rk (foC fo as) Z H fo' Z' H' vs ds' d v) : RS c K (putA as ds' ρ) Z' σ H' (foN fo fo' as) ∧ Stp fo Z H (foN fo fo' as) Z' H' := by
  obtain ⟨l1, l2, q⟩ := args_get (lv := c.ks) a hf
  have st : Stp0 Z H Z' H' := ⟨fun b o h1 h2 => h.e1 b o h1 fun j ⟨i, _, hi⟩ => h2 (R.sub i b hi).1, fun b hb => h.e2 b hb⟩
  have lk : ∀ (as : List AK), (ksOf c.ks as).length = as.length := fun as => by
    induction as with
    | nil => rfl
    | cons x as ih => cases x <;> (show _ + 1 = _ + 1; rw [ih])
  have apart : ∀ {i b}, i ∉ ios as → fo i b → ∀ j, ¬ foC fo as j b := fun {i b} hi hb j ⟨k, hk, hkb⟩ => by
    have e := R.dis i k b hb hkb
    exact hi (mem_ios.mpr ⟨j, e ▸ hk⟩)
  have newF : ∀ {j b}, fo' j b → (∃ i, i ∈ ios as ∧ fo i b) ∨ H b = none := fun {j b} hj => by
    rcases (h.sub j b hj).2 with ⟨x, i, hi, hb⟩ | z
    · exact .inl ⟨i, mem_ios.mpr ⟨x, hi⟩, hb⟩
    · exact .inr z
  refine ⟨⟨?_, fun i d hd => ?_, fun i k b hi hk => ?_, h.own, fun i b hb => ?_, fun b o h1 h2 => ?_, fun b hb => R.dm b (h.dm b hb), fun b hb => ?_, fun b h1 h2 => ?_, R.zi, R.pin⟩, ⟨fun b o h1 h2 => h.e1 b o h1 fun j ⟨i, _, hi⟩ => h2 i hi, fun b hb => ?_, fun b h1 _ h2 => h.e3 b h1 fun j ⟨i, _, hi⟩ => h2 i hi, fun i b hb => ?_⟩⟩
  · rw [putA_len]
    exact R.len
  · by_cases hi : i ∈ ios as
    · obtain ⟨j, hj⟩ := mem_ios.mp hi
      have hl : ds'.length = as.length := by rw [h.lds, lk]
      have e1 := putA_in nd hj hl hd
      have hja : j < as.length := by
        have := (List.getElem?_eq_some_iff.mp e1).1
        omega
      have hv : vs[j]? = some (vs[j]'(by omega)) := List.getElem?_eq_getElem (by omega)
      have hd0 : ds[j]? = some (ds[j]'(by omega)) := List.getElem?_eq_getElem (by omega)
      rcases q j _ _ hd0 hv with ⟨z, _⟩ | ⟨k, hk, hks, hσ, _⟩
      · rw [z] at hj; cases hj
      · rw [hj] at hk
        cases hk
        refine ⟨_, hσ, ?_⟩
        exact Ow.more (P := fo' j) (fun b hb => .inl ⟨j, hj, hb⟩) (h.par j _ d _ hks (h0 i hi) e1 hv)
    · rw [putA_out hi] at hd
      obtain ⟨v, h1, h2⟩ := R.val i d hd
      refine ⟨v, h1, Ow.more (P := fo i) (fun b hb => .inr ⟨hi, hb⟩) (Ow.keep (fun d v s => s.stp st) _ d v (fo i) (fun b hb hz hn => ⟨?_, h.e3 b hz (apart hi hb)⟩) h2)⟩
      cases e : H b with
      | none => exact absurd e hn
      | some o => exact h.e1 b o e (apart hi hb)
  · rcases hi with ⟨j, hj, hjb⟩ | ⟨hi, hib⟩
    · rcases hk with ⟨l, hl, hlb⟩ | ⟨hk, hkb⟩
      · have e := h.dis j l b hjb hlb
        rw [e, hl] at hj
        cases hj
        rfl
      · rcases newF hjb with ⟨x, hx, hxb⟩ | z
        · exact absurd (R.dis k x b hkb hxb ▸ hx) hk
        · exact absurd z (R.ownN b (R.sub k b hkb).1)
    · rcases hk with ⟨l, hl, hlb⟩ | ⟨hk, hkb⟩
      · rcases newF hlb with ⟨x, hx, hxb⟩ | z
        · exact absurd (R.dis i x b hib hxb ▸ hx) hi
        · exact absurd z (R.ownN b (R.sub i b hib).1)
      · exact R.dis i k b hib hkb
  · rcases hb with ⟨j, hj, hjb⟩ | ⟨hi, hib⟩
    · refine ⟨(h.sub j b hjb).1, ?_⟩
      rcases newF hjb with ⟨x, hx, hxb⟩ | z
      · exact (R.sub x b hxb).2
      · exact .inr (R.dm b z)
    · exact ⟨h.e3 b (R.sub i b hib).1 (apart hi hib), (R.sub i b hib).2⟩
  · refine h.e1 b o (R.e1 b o h1 h2) fun j ⟨i, _, hi⟩ => ?_
    rcases (R.sub i b hi).2 with z | z
    · exact h2 z
    · rw [z] at h1; cases h1
  · rcases h.e2 b hb with z | z
    · exact R.e2 b z
    · exact .inr (R.dm b z)
  · refine h.e3 b (R.e3 b h1 h2) fun j ⟨i, _, hi⟩ => ?_
    rcases (R.sub i b hi).2 with z | z
    · exact h2 z
    · exact R.zi b h1 z
  · rcases h.e2 b hb with z | z
    · exact .inl z
    · exact .inr (.inl z)
  · rcases hb with ⟨j, hj, hjb⟩ | ⟨hi, hib⟩
    · rcases newF hjb with ⟨x, _, hxb⟩ | z
      · exact .inl ⟨x, hxb⟩
      · exact .inr z
    · exact .inl ⟨i, hib⟩
/-- what a caller must show -/
theorem sp_of {ρ : Ev} {Z : AP} {σ : L2.St} {H : Hp} {fo : Nat → AP} {as : List AK} {os : List (Option D)} {vs : List V} {ds ds' : List D} {rk : Option Nat} {F : Fn} {d : D} {Q : VK} {E : XK} (R : RS c K ρ Z σ H fo) (nd : (ios as).Nodup) (a : ArgsR K σ Z H as os vs) (hf : fillA ρ as os = .ok ds)
    (hF : F ds = .ok (d, ds')) (k : ∀ v H' Z' fo', CEnd K (ksOf c.ks as) rk (foC fo as) Z H fo' Z' H' vs ds' d v → Q v H') : spD K (ksOf c.ks as) rk F vs H Q E := by
  obtain ⟨l1, l2, q⟩ := args_get (lv := c.ks) a hf
  have lk : ∀ (as : List AK), (ksOf c.ks as).length = as.length := fun as => by
    induction as with
    | nil => rfl
    | cons x as ih => cases x <;> (show _ + 1 = _ + 1; rw [ih])
  refine ⟨ds, Z, foC fo as, by rw [l1, lk], by rw [l2, lk], fun j k d v h1 h2 h3 => ?_, fun i j b ⟨x, hx, hxb⟩ ⟨y, hy, hyb⟩ => ?_, R.own, fun j b ⟨i, _, hi⟩ => (R.sub i b hi).1, d, ds', hF, k⟩
  · rcases q j d v h2 h3 with ⟨_, hk, s⟩ | ⟨i, hi, hk, hσ, hρ⟩
    · rw [hk] at h1
      cases h1
      exact s
    · rw [hk] at h1
      cases h1
      obtain ⟨u, e1, e2⟩ := R.val i d hρ
      rw [hσ] at e1
      cases e1
      exact Ow.more (P := fo i) (fun b hb => ⟨i, hi, hb⟩) e2
  · have e := R.dis x y b hxb hyb
    rw [← e] at hy
    exact ioAt_inj nd hx hy
/-- a def of the text, as its callers use it -/
structure DFn (P : Program) (w : World) (K : PySem.W.Frag) (mg : Str → Option Value) (base : Heap) (k : Nat) (x : PySem.Str) (ks : List Nat) (rk : Option Nat) (F : Fn) : Prop where
  ex : ∃ (f : Addr) (fd : FuncData) (ps : List PySem.Str), mg x = some (.ref f) ∧ PySem.W.keepIn K (.ref f) = true ∧ Binds K fd ps [] ∧ FnOk P w K mg base CX0 k f fd ps (spD K ks rk F)
theorem DFn.mono {P : Program} {w : World} {K : PySem.W.Frag} {mg : Str → Option Value} {base : Heap} {j k : Nat} {x : PySem.Str} {ks : List Nat} {rk : Option Nat} {F : Fn} (h : DFn P w K mg base j x ks rk F) (hj : j ≤ k) : DFn P w K mg base k x ks rk F := by
  obtain ⟨f, fd, ps, h1, h2, h3, h4⟩ := h.ex
  exact ⟨f, fd, ps, h1, h2, h3, h4.mono hj⟩
theorem allN {vs : List Nat} {l : List Nat} (h : (vs.all fun v => l.getD v 0 != 0) = true) : ∀ v ∈ vs, l.getD v 0 ≠ 0 := fun v hv => by
  have := List.all_eq_true.mp h v hv
  simpa using this
theorem call_read {ks : List Nat} {rk : Option Nat} {F : Fn} {as : List AK} {g : Ev → Res (List (Option D) × Ev)} {σ : L2.St} {H : Hp} {Q : VK} (hks : ksOf c.ks as = ks) (nd : (ios as).Nodup) (h0 : ∀ i ∈ ios as, c.ks.getD i 0 ≠ 0)
    (h : ∃ ρ Z fo, RS c K ρ Z σ H fo ∧ ∃ d ρ', dCall as F g ρ = .ok (d, ρ') ∧ ∀ v H' Z' fo', RS c K ρ' Z' σ H' fo' → Stp fo Z H fo' Z' H' → ResK c K rk fo H fo' Z' H' d v → Q v H') : tCall (spD K ks rk F) [] E0 (tArgs c K as g) σ H Q := by
  obtain ⟨ρ, Z, fo, R, d, ρ', hf, k⟩ := h
  obtain ⟨⟨os, ρ1⟩, h1, hf⟩ := Res.bind_ok hf
  obtain ⟨ds, h2, hf⟩ := Res.bind_ok hf
  obtain ⟨⟨d1, ds'⟩, h3, hf⟩ := Res.bind_ok hf
  cases hf
  subst hks
  refine ⟨ρ, Z, fo, R, os, ρ1, h1, fun vs H1 Z1 fo1 R1 s1 a1 => ?_⟩
  show spD K (ksOf c.ks as) rk F (vs ++ []) H1 Q E0
  rw [List.append_nil]
  refine sp_of R1 nd a1 h2 h3 fun v H2 Z2 fo2 ce => ?_
  obtain ⟨R2, s2⟩ := R1.called nd a1 h2 h0 ce
  refine k v H2 Z2 _ R2 (s1.trans s2) ?_
  cases rk with
  | none => exact ce.res
  | some n =>
    obtain ⟨P, q1, q2, q3⟩ := ce.res
    have hP : ∀ b, P b → (∃ i, i ∈ ios as ∧ fo1 i b) ∨ H1 b = none := fun b hb => by
      rcases (q2 b hb).2 with ⟨x, i, hi, hib⟩ | z
      · exact .inl ⟨i, mem_ios.mpr ⟨x, hi⟩, hib⟩
      · exact .inr z
    refine FrR.back s1 ⟨P, q1, fun b hb => ⟨(q2 b hb).1, ?_⟩, fun i b hb z => ?_, fun b hb => ?_⟩
    · rcases hP b hb with ⟨i, _, hib⟩ | z
      · exact (R1.sub i b hib).2
      · exact .inr (R1.dm b z)
    · rcases z with ⟨j, hj, hjb⟩ | ⟨hi, hib⟩
      · exact q3 j b hb hjb
      · rcases hP b hb with ⟨x, hx, hxb⟩ | y
        · exact hi (R1.dis i x b hib hxb ▸ hx)
        · exact R1.ownN b (R1.sub i b hib).1 y
    · rcases hP b hb with ⟨i, _, hib⟩ | z
      · exact .inl ⟨i, hib⟩
      · exact .inr z
theorem de_call {k j : Nat} {x : PySem.Str} {p pos : Pos} {e : Expr} {es : List Expr} {ks : List Nat} {F : Fn} {as : List AK} {g : Ev → Res (List (Option D) × Ev)} (G : DFn X.prog X.w X.K X.mg X.base j x ks none F) (hr : Room k X.A) (hj : j ≤ k) (ha : DA X c (e :: es) as g) (hks : ksOf c.ks as = ks := by rfl) (nd : (ios as).Nodup := by decide) (h0 : ((ios as).all fun i => c.ks.getD i 0 != 0) = true := by rfl)
    (hg : Gl X x := by rfl) (hdb : (x == ("__debug__" : Str)) = false := by decide) (he : starEach (e :: es) X.env = (false, eval e X.env) :: starEach es X.env := by rfl) (hpl : (backTo pos (starEach es X.env)).any (·.1) = false := by rfl) :
    DE X c false false (.Call (.Name x p) (e :: es) [] pos) (dCall as F g) := ⟨by
  obtain ⟨f, fd, ps, h1, h2, h3, h4⟩ := G.ex
  refine PE.imp (pe_call h4 (hr.mono hj) hg h1 h2 h3 .nil pass0 ha.pa hdb he hpl) fun σ H Q ⟨ρ, Z, fo, R, d, ρ', hf, q⟩ => ?_
  exact call_read hks nd (allN h0) ⟨ρ, Z, fo, R, d, ρ', hf, fun v H' Z' fo' R' s' r' => q v H' Z' fo' R' s' (fun z => nomatch z) r'⟩⟩
theorem df_call {k j n : Nat} {x : PySem.Str} {p pos : Pos} {e : Expr} {es : List Expr} {ks : List Nat} {F : Fn} {as : List AK} {g : Ev → Res (List (Option D) × Ev)} (G : DFn X.prog X.w X.K X.mg X.base j x ks (some n) F) (hr : Room k X.A) (hj : j ≤ k) (ha : DA X c (e :: es) as g) (hks : ksOf c.ks as = ks := by rfl) (nd : (ios as).Nodup := by decide) (h0 : ((ios as).all fun i => c.ks.getD i 0 != 0) = true := by rfl)
    (hg : Gl X x := by rfl) (hdb : (x == ("__debug__" : Str)) = false := by decide) (he : starEach (e :: es) X.env = (false, eval e X.env) :: starEach es X.env := by rfl) (hpl : (backTo pos (starEach es X.env)).any (·.1) = false := by rfl) :
    DF X c n (.Call (.Name x p) (e :: es) [] pos) (dCall as F g) := ⟨by
  obtain ⟨f, fd, ps, h1, h2, h3, h4⟩ := G.ex
  refine PE.imp (pe_call h4 (hr.mono hj) hg h1 h2 h3 .nil pass0 ha.pa hdb he hpl) fun σ H Q ⟨ρ, Z, fo, R, d, ρ', hf, q⟩ => ?_
  exact call_read hks nd (allN h0) ⟨ρ, Z, fo, R, d, ρ', hf, fun v H' Z' fo' R' s' r' => q v H' Z' fo' R' s' r'⟩⟩
end
end DL
/-! further rules; short names for the common ones -/
namespace DL
open PySem PySem.Spec PyProof.Rows L2
section
variable {X : Cx} {c : DC} {q b : Bool} {tg e a : Expr} {fe fa fb : Ev → Res (D × Ev)} {pos p : Pos} {K : PySem.W.Frag}
theorem dt_q {f : Ev → Res (Bool × Ev)} (h : DT X c true e f) : DT X c false e f := ⟨by
  refine PT.imp h.pt fun σ H Q ⟨ρ, Z, fo, R, d, ρ', hf, k⟩ => ⟨ρ, Z, fo, R, d, ρ', hf, fun H' Z' fo' R' st sm => k H' Z' fo' R' st (fun z => nomatch z)⟩⟩
/-- a list or a tuple that is walked -/
theorem di_seq (he : DE X c false false e fe) : DI X c tg e (dSeqI fe) := by
  refine ⟨⟨fun pins s σ H R I h => ?_⟩⟩
  obtain ⟨ρ, Z, fo, RR, ds, ρ', hf, k⟩ := h
  obtain ⟨⟨d1, ρ1⟩, e1, hf⟩ := Res.bind_ok hf
  have hw : tD c X.K false false fe σ H (fun v H1 => ∃ a, v = .ref a ∧ ((∃ xs, SqL X.K H1 a xs) ∧ R (Itl X.K a) H1 ∨ (∃ xs, SqT X.K H1 a xs) ∧ R (Itt X.K a) H1)) := by
    refine ⟨ρ, Z, fo, RR, d1, ρ1, e1, fun v H1 Z1 fo1 R1 s1 m1 p1 => ?_⟩
    cases d1 with
    | tup es =>
      cases hf
      obtain ⟨a, vs, rfl, r, s⟩ := p1
      exact ⟨a, rfl, .inr ⟨⟨vs, r.sq⟩, k _ H1 Z1 fo1 R1 s1 (ItR.tup r s)⟩⟩
    | lst es =>
      cases hf
      obtain ⟨a, vs, rfl, r, s⟩ := p1
      exact ⟨a, rfl, .inl ⟨⟨vs, r.sq⟩, k _ H1 Z1 fo1 R1 s1 (ItR.list r s)⟩⟩
    | _ => cases hf
  refine thn (he.pe.run pins s σ H _ I hw) fun v s1 ⟨x, H1, I1, r1, q1⟩ => ?_
  obtain ⟨a, ex, q1⟩ := q1
  subst ex
  cases r1
  rcases q1 with ⟨⟨xs, hq⟩, qq⟩ | ⟨⟨xs, hq⟩, qq⟩
  · obtain ⟨its, rv, pl, hz⟩ := I1.list hq
    refine wpAny_pyIter_list pl.isList ?_
    refine ⟨s1.heap.objs.size, [s1.heap.objs.size], _, _, H1, rfl, I1.kept (t' := s1.toks) fun b o e => Heap.get?_push_of_some _ e, turn_list a _, ⟨_, Heap.get?_push_size _ rfl, rfl, rfl⟩, fun b hb => ?_, qq⟩
    have e : b = s1.heap.objs.size := by simpa using hb
    subst e
    exact I1.fpOk (Nat.le_refl _) (I1.hok.fresh (Nat.le_refl _))
  · obtain ⟨its, rv, pl, hz⟩ := I1.tuple hq
    refine wpAny_pyIter_tuple (show s1.heap.IsTuple a its.toArray from pl) ?_
    refine ⟨s1.heap.objs.size, [s1.heap.objs.size], _, _, H1, rfl, I1.kept (t' := s1.toks) fun b o e => Heap.get?_push_of_some _ e, turn_tuple a _, ⟨_, Heap.get?_push_size _ rfl, rfl, rfl⟩, fun b hb => ?_, qq⟩
    have e : b = s1.heap.objs.size := by simpa using hb
    subst e
    exact I1.fpOk (Nat.le_refl _) (I1.hok.fresh (Nat.le_refl _))
theorem ItR.down {Z : AP} {H : Hp} {a b : Int} : ItR K Z H (Itc a (-1) (a - b).toNat) (rgDn a b) := by
  have hl : (rgDn a b).length = (a - b).toNat := by unfold rgDn; rw [List.length_map, List.length_range]
  refine ⟨_, _, by rw [hl]; exact walk_rangeC, fun _ _ _ => True.intro, fun i Z1 H1 x H2 hi st hz y => ?_⟩
  obtain ⟨rfl, rfl⟩ := y
  refine ⟨Same.refl _, .int (a + (i : Nat) * (-1)), ?_, rfl⟩
  rw [hl] at hi
  unfold rgDn
  rw [List.getElem?_map, List.getElem?_range hi, Option.map_some, show a + (i : Int) * (-1) = a - i by omega]
theorem di_rngD {e1 e2 e3 : Expr} {f : Ev → Res (List D × Ev)} (hm : X.mg "range" = none) (ha : DAs X c false false [e1, e2, e3] f) (hg : Gl X "range" := by rfl) (hs : starEach [e1, e2, e3] X.env = (false, eval e1 X.env) :: starEach [e2, e3] X.env := by rfl) (hpl : (backTo pos (starEach [e2, e3] X.env)).any (·.1) = false := by rfl) :
    DI X c tg (.Call (.Name "range" p) [e1, e2, e3] [] pos) (dRngD f) := ⟨by
  refine PI.imp (pi_range3 hg hm ha.pa hs hpl) fun σ H R ⟨ρ, Z, fo, RR, ds, ρ', hf, k⟩ => ?_
  obtain ⟨⟨d1, ρ1⟩, e1, hf⟩ := Res.bind_ok hf
  refine ⟨ρ, Z, fo, RR, d1, ρ1, e1, fun vs H1 Z1 fo1 R1 s1 m1 l1 p1 => ?_⟩
  dsimp only at hf
  split at hf
  · obtain ⟨x, y, z, rfl, x1, x2, x3⟩ := shs3 p1
    obtain ⟨⟨⟨h1, h2, h3, h4⟩, rfl⟩, e2⟩ := if_ok hf
    cases e2
    cases x1
    cases x2
    cases x3
    exact ⟨_, _, _, _, rfl, RgC.neg h1 h2 h3 h4, k _ H1 Z1 fo1 R1 s1 ItR.down⟩
  · cases hf⟩
/-- list(range(n)) -/
def dLstRg (f : Ev → Res (D × Ev)) (ρ : Ev) : Res (D × Ev) := (f ρ).bind fun p => match p.1 with
  | .int n => if 0 ≤ n ∧ n ≤ 16777216 then .ok (.lst (rgD 0 n), p.2) else .err
  | _ => .err
theorem rgV_rgD {Z : AP} {H : Hp} {a b : Int} : Shs K Z H (rgD a b) (rgV a b) := by
  unfold rgD rgV
  generalize (List.range (b - a).toNat) = l
  induction l with
  | nil => exact rfl
  | cons x l ih => exact ⟨_, _, rfl, rfl, ih⟩
theorem df_lstRg {p2 pos2 : Pos} (hc : X.calm = true) (hm : X.mg "list" = none) (hm2 : X.mg "range" = none) (ha : DE X c false false e fe) (hg : Gl X "list" := by rfl) (hg2 : Gl X "range" := by rfl) (na : starEach [e] X.env = (false, eval e X.env) :: starEach [] X.env := by rfl)
    (na2 : starEach [Expr.Call (.Name "range" p2) [e] [] pos2] X.env = (false, eval (Expr.Call (.Name "range" p2) [e] [] pos2) X.env) :: starEach [] X.env := by rfl) : DF X c 0 (.Call (.Name "list" p) [.Call (.Name "range" p2) [e] [] pos2] [] pos) (dLstRg fe) := ⟨by
  refine PE.imp (pe_listRg hc hg hm (prg_1 hg2 hm2 ha.pe na) na2) fun σ H Q ⟨ρ, Z, fo, R, d, ρ', hf, k⟩ => ?_
  obtain ⟨⟨d1, ρ1⟩, h1, hf⟩ := Res.bind_ok hf
  refine ⟨ρ, Z, fo, R, d1, ρ1, h1, fun v H1 Z1 fo1 R1 s1 m1 p1 => ?_⟩
  cases d1 with
  | int n =>
    obtain ⟨⟨g1, g2⟩, e2⟩ := if_ok hf
    cases e2
    cases p1
    refine ⟨n, rfl, RgOk.of_le (by omega) g2 (by omega) g1, fun t ht => ?_⟩
    obtain ⟨R2, st⟩ := R1.take (vs := rgV 0 n) ht
    exact k _ _ _ fo1 R2 (s1.trans st) ((FrR.new R1 ht rgV_rgD).back s1)
  | _ => cases hf⟩
/-- list(x) of a list or tuple -/
def dLstOf (f : Ev → Res (List D × Ev)) (ρ : Ev) : Res (D × Ev) := (f ρ).bind fun p => match p.1 with
  | [.lst ds] => .ok (.lst ds, p.2)
  | [.tup ds] => .ok (.lst ds, p.2)
  | _ => .err
theorem df_lstOf {f : Ev → Res (List D × Ev)} (hm : X.mg "list" = none) (ha : DAs X c false false [e] f) (hg : Gl X "list" := by rfl) (he : starEach [e] X.env = (false, eval e X.env) :: starEach [] X.env := by rfl) (hpl : (backTo pos (starEach [] X.env)).any (·.1) = false := by rfl) :
    DF X c 0 (.Call (.Name "list" p) [e] [] pos) (dLstOf f) := ⟨by
  refine PE.imp (pe_callTy call_list_of hg hm (by decide +kernel) ha.pa (by decide) (by decide) he hpl) fun σ H Q ⟨ρ, Z, fo, R, d, ρ', hf, k⟩ => ?_
  obtain ⟨⟨d1, ρ1⟩, h1, hf⟩ := Res.bind_ok hf
  refine ⟨ρ, Z, fo, R, d1, ρ1, h1, fun vs H1 Z1 fo1 R1 s1 m1 l1 p1 => ?_⟩
  dsimp only at hf
  split at hf
  · obtain ⟨x, rfl, a, ws, rfl, r, s⟩ := shs1 p1
    cases hf
    refine ⟨a, ws, rfl, .inl r.sq, fun t ht => ?_⟩
    obtain ⟨R2, st⟩ := R1.take (vs := ws) ht
    exact k _ _ _ fo1 R2 (s1.trans st) ((FrR.new R1 ht s).back s1)
  · obtain ⟨x, rfl, a, ws, rfl, r, s⟩ := shs1 p1
    cases hf
    refine ⟨a, ws, rfl, .inr r.sq, fun t ht => ?_⟩
    obtain ⟨R2, st⟩ := R1.take (vs := ws) ht
    exact k _ _ _ fo1 R2 (s1.trans st) ((FrR.new R1 ht s).back s1)
  · cases hf⟩
/-! short names -/
section
variable (ha : DE X c q b a fa) (hb : DE X c q b e fb) (hq : b = true → q = true)
include ha hb hq
theorem e_add : DE X c q b (.BinOp a .Add e pos) (dOp gAdd fa fb) := de_op o_add d_add ha hb hq
theorem e_sub : DE X c q b (.BinOp a .Sub e pos) (dOp gSub fa fb) := de_op op_sub d_sub ha hb hq
theorem e_mul : DE X c q b (.BinOp a .Mult e pos) (dOp gMul fa fb) := de_op o_mul d_int ha hb hq
theorem e_fdiv : DE X c q b (.BinOp a .FloorDiv e pos) (dOp gFdiv fa fb) := de_op op_fdivW d_int ha hb hq
theorem e_mod : DE X c q b (.BinOp a .Mod e pos) (dOp gMod fa fb) := de_op op_mod d_int ha hb hq
theorem e_pow : DE X c q b (.BinOp a .Pow e pos) (dOp gPow fa fb) := de_op op_pow d_int ha hb hq
theorem e_shl : DE X c q b (.BinOp a .LShift e pos) (dOp gShl fa fb) := de_op op_shl d_int ha hb hq
theorem e_lt {k : Nat} (hr : Room k X.A) : DE X c q b (.Compare a [.Lt] [e] pos) (dOp gLt fa fb) := de_cmp (o_lt hr.units0) d_lt ha hb (nomark _) hq
theorem e_le : DE X c q b (.Compare a [.LtE] [e] pos) (dOp gLe fa fb) := de_cmp op_le d_intB ha hb (nomark _) hq
theorem e_gt {k : Nat} (hr : Room k X.A) : DE X c q b (.Compare a [.Gt] [e] pos) (dOp gGt fa fb) := de_cmp (o_gt hr.units0) d_gt ha hb (nomark _) hq
theorem e_ge : DE X c q b (.Compare a [.GtE] [e] pos) (dOp gGe fa fb) := de_cmp op_ge d_intB ha hb (nomark _) hq
theorem e_eq {k : Nat} (hr : Room k X.A) : DE X c q b (.Compare a [.Eq] [e] pos) (dOp gEq fa fb) := de_cmp (o_eq hr.units) d_eq ha hb (nomark _) hq
theorem e_ne {k : Nat} (hr : Room k X.A) : DE X c q b (.Compare a [.NotEq] [e] pos) (dOp gNe fa fb) := de_cmp (o_ne hr.units) d_ne ha hb (nomark _) hq
theorem e_in (hm : behindInMarks .In e = false) : DE X c q b (.Compare a [.In] [e] pos) (dOp (gIn false) fa fb) := de_cmp o_in d_in ha hb hm hq
theorem e_notIn (hm : behindInMarks .NotIn e = false) : DE X c q b (.Compare a [.NotIn] [e] pos) (dOp (gIn true) fa fb) := de_cmp o_notIn d_in ha hb hm hq
theorem e_is : DE X c q b (.Compare a [.Is] [e] pos) (dOp gIsN fa fb) := de_cmp op_isN d_isN ha hb (nomark _) hq
theorem e_isnot : DE X c q b (.Compare a [.IsNot] [e] pos) (dOp gNotN fa fb) := de_cmp op_notN d_notN ha hb (nomark _) hq
theorem t_lt {k : Nat} (hr : Room k X.A) : DT X c q (.Compare a [.Lt] [e] pos) (dBool (dOp gLt fa fb)) := dt_cmp (o_lt hr.units0) d_lt ha hb (nomark _) hq
theorem t_le : DT X c q (.Compare a [.LtE] [e] pos) (dBool (dOp gLe fa fb)) := dt_cmp op_le d_intB ha hb (nomark _) hq
theorem t_gt {k : Nat} (hr : Room k X.A) : DT X c q (.Compare a [.Gt] [e] pos) (dBool (dOp gGt fa fb)) := dt_cmp (o_gt hr.units0) d_gt ha hb (nomark _) hq
theorem t_ge : DT X c q (.Compare a [.GtE] [e] pos) (dBool (dOp gGe fa fb)) := dt_cmp op_ge d_intB ha hb (nomark _) hq
theorem t_eq {k : Nat} (hr : Room k X.A) : DT X c q (.Compare a [.Eq] [e] pos) (dBool (dOp gEq fa fb)) := dt_cmp (o_eq hr.units) d_eq ha hb (nomark _) hq
theorem t_ne {k : Nat} (hr : Room k X.A) : DT X c q (.Compare a [.NotEq] [e] pos) (dBool (dOp gNe fa fb)) := dt_cmp (o_ne hr.units) d_ne ha hb (nomark _) hq
theorem t_in (hm : behindInMarks .In e = false) : DT X c q (.Compare a [.In] [e] pos) (dBool (dOp (gIn false) fa fb)) := dt_cmp o_in d_in ha hb hm hq
theorem t_notIn (hm : behindInMarks .NotIn e = false) : DT X c q (.Compare a [.NotIn] [e] pos) (dBool (dOp (gIn true) fa fb)) := dt_cmp o_notIn d_in ha hb hm hq
theorem t_is : DT X c q (.Compare a [.Is] [e] pos) (dBool (dOp gIsN fa fb)) := dt_cmp op_isN d_isN ha hb (nomark _) hq
theorem t_isnot : DT X c q (.Compare a [.IsNot] [e] pos) (dBool (dOp gNotN fa fb)) := dt_cmp op_notN d_notN ha hb (nomark _) hq
end
theorem e_neg (ha : DE X c q b a fa) : DE X c q b (.UnaryOp .USub a pos) (dUn gNeg fa) := de_un un_neg d_neg ha
theorem e_ix (ha : DE X c q b a fa) (hb : DE X c q b e fb) (hq : b = true → q = true) (hs : PlainIx e := by intro _ _; rfl) : DE X c q b (.Subscript a e pos) (dOp gIx fa fb) := de_ix ix_seq d_ix ha hb hs hq
end
end DL
namespace DL
open PySem PySem.Spec PyProof.Rows L2
theorem hF {q : Bool} : false = true → q = true := fun h => by cases h
theorem hT {b : Bool} : b = true → true = true := fun _ => rfl
/-- a def as it stands behind the top -/
def Src (K : PySem.W.Frag) (mg : Str → Option Value) (x : PySem.Str) (st : Stmt) (ps : List PySem.Str) : Prop := ∃ (f : Addr) (fd : FuncData), mg x = some (.ref f) ∧ Fun K x x st f fd ∧ ∀ us : List Value, us.length = ps.length → bindArgs fd ⟨us, []⟩ = pure (ps.zip us)
theorem mkSrc {K : PySem.W.Frag} {h : Heap} {mg : Str → Option Value} {x : PySem.Str} {st : Stmt} {ps : List PySem.Str} {f : Addr} {oc : Value} {od an : Option Addr} {osl : Array (Option Value)} {kV doc pm cdv ct : Value}
    (hb : ∀ (kV doc pm : Value) (an : Option Addr) (cdv ct : Value) (us : List Value), us.length = ps.length → bindArgs (PySem.W.fnOf x x (defArgs st) (defBody st) (defScope st) .none kV doc pm an cdv ct) ⟨us, []⟩ = pure (ps.zip us))
    (X : K.In h) (G : h.Ns mainGlobals mg) (a : PySem.W.nsIn K mainGlobals x = some (some (.ref f))) (l : K.lookup f = some ⟨oc, od, .func (PySem.W.fnOf x x (defArgs st) (defBody st) (defScope st) .none kV doc pm an cdv ct), osl⟩)
    (c : PySem.W.codeIn K cdv x = true) (k : PySem.W.keepIn K (.ref f) = true) : Src K mg x st ps :=
  ⟨f, _, PySem.W.mg_of X G a, fun_mk l c k, fun us hl => hb _ _ _ _ _ _ us hl⟩
/-- the law's own promise -/
def spLaw (K : PySem.W.Frag) : Sp := fun vs H Q _ => ∃ (a : Addr) (ns : List Int), vs = [.ref a] ∧ SqL K H a (ns.map V.int) ∧ ns.length ≤ 63 ∧ ∀ H', Q (.bl true) H'
theorem shs_ints {K : PySem.W.Frag} {Z : AP} {H : Hp} : ∀ ns : List Int, Shs K Z H (ns.map D.int) (ns.map V.int)
  | [] => rfl
  | n :: ns => ⟨_, _, rfl, rfl, shs_ints ns⟩
theorem law_ok {P : Program} {w : World} {K : PySem.W.Frag} {mg : Str → Option Value} {base : Heap} {k : Nat} {f : Addr} {fd : FuncData} {F : Fn} (h : FnOk P w K mg base CX0 k f fd ["script"] (spD K [0] none F)) (hF : ∀ ns : List Int, ns.length ≤ 63 → ∃ o, F [.lst (ns.map D.int)] = .ok (.bl true, o)) :
    FnOk P w K mg base CX0 k f fd ["script"] (spLaw K) := by
  refine h.imp fun vs H Q E ⟨a, ns, e, hs, hl, q⟩ => ?_
  subst e
  obtain ⟨o, ho⟩ := hF ns hl
  refine ⟨[.lst (ns.map D.int)], fun _ => False, fun _ _ => False, rfl, rfl, fun j k d v h1 h2 h3 => ?_, fun _ _ _ z => z.elim, fun _ z => z.elim, fun _ _ z => z, _, o, ho, fun v H' Z' fo' ce => ?_⟩
  · cases j with
    | zero =>
      cases h1
      cases h2
      cases h3
      refine ⟨a, _, rfl, ?_, shs_ints ns⟩
      rcases hs with hs | hs
      · exact .inl ⟨hs, fun z => z⟩
      · exact .inr (.inr hs)
    | succ j => simp at h1
  · have e : v = .bl true := ce.res
    rw [e]
    exact q H'
end DL
/-! the pure functions, gone through step by step -/
namespace DL
open PySem PySem.Spec PyProof.Rows L2
/-- it ends well, and P holds of what it gives -/
def Ok {α : Type} (x : Res α) (P : α → Prop) : Prop := ∃ a, x = .ok a ∧ P a
section
variable {α β : Type}
theorem Ok.bind {x : Res α} {f : α → Res β} {Q : β → Prop} (h : Ok x fun a => Ok (f a) Q) : Ok (x.bind f) Q := by
  obtain ⟨a, e, b, e2, q⟩ := h
  exact ⟨b, by rw [e]; exact e2, q⟩
theorem Ok.mk {x : Res α} {a : α} {P : α → Prop} (e : x = .ok a) (p : P a) : Ok x P := ⟨a, e, p⟩
theorem Ok.ret {a : α} {P : α → Prop} (p : P a) : Ok (Res.ok a) P := ⟨a, rfl, p⟩
theorem Ok.imp {x : Res α} {P Q : α → Prop} (h : Ok x P) (k : ∀ a, P a → Q a) : Ok x Q := by
  obtain ⟨a, e, p⟩ := h
  exact ⟨a, e, k a p⟩
theorem Ok.eq {x y : Res α} {P : α → Prop} (e : x = y) (h : Ok y P) : Ok x P := e ▸ h
theorem Ok.ite {c : Prop} [Decidable c] {x y : Res α} {P : α → Prop} (h1 : c → Ok x P) (h2 : ¬ c → Ok y P) : Ok (if c then x else y) P := by
  by_cases h : c
  · rw [if_pos h]
    exact h1 h
  · rw [if_neg h]
    exact h2 h
theorem Ok.iteT {c : Prop} [Decidable c] {x y : Res α} {P : α → Prop} (h : c) (h1 : Ok x P) : Ok (if c then x else y) P := by
  rw [if_pos h]
  exact h1
theorem Ok.iteF {c : Prop} [Decidable c] {x y : Res α} {P : α → Prop} (h : ¬ c) (h1 : Ok y P) : Ok (if c then x else y) P := by
  rw [if_neg h]
  exact h1
end
section
variable {ρ : Ev} {f g : Ev → Res Fl} {fe fa fb : Ev → Res (D × Ev)} {fs : Ev → Res (List D × Ev)} {ft fu : Ev → Res (Bool × Ev)} {Q : Fl → Prop} {QE : D × Ev → Prop} {QS : List D × Ev → Prop} {QT : Bool × Ev → Prop} {i : Nat}
theorem w_mkF {N : Nat} {ks : List Nat} {rk : Option Nat} {b : Ev → Res Fl} {ds : List D} {P : D × List D → Prop} (h : Ok (b (ds.map some ++ List.replicate (N - ds.length) none)) fun fl => Ok (match fl with
  | .rt d ρ => (outP ρ ks 0).bind fun o => .ok (d, o)
  | .nx ρ => match rk with
    | none => (outP ρ ks 0).bind fun o => .ok (.non, o)
    | some _ => .err
  | _ => .err) P) : Ok (mkF N ks rk b ds) P := Ok.bind h
theorem w_seq (h : Ok (f ρ) fun fl => match fl with
  | .nx ρ' => Ok (g ρ') Q
  | fl => Q fl) : Ok (sSeq f g ρ) Q := by
  refine Ok.bind (h.imp fun fl q => ?_)
  cases fl with
  | nx ρ' => exact q
  | _ => exact Ok.ret q
theorem w_if (h : Ok (ft ρ) fun p => if p.1 = true then Ok (f p.2) Q else Ok (g p.2) Q) : Ok (sIf ft f g ρ) Q := by
  refine Ok.bind (h.imp fun p q => ?_)
  by_cases c : p.1 = true
  · rw [if_pos c] at q ⊢
    exact q
  · rw [if_neg c] at q ⊢
    exact q
theorem w_set (h : Ok (fe ρ) fun p => Q (.nx (p.2.set i (some p.1)))) : Ok (sSet i fe ρ) Q := Ok.bind (h.imp fun p q => Ok.ret q)
theorem w_ret (h : Ok (fe ρ) fun p => Q (.rt p.1 p.2)) : Ok (sRet fe ρ) Q := Ok.bind (h.imp fun p q => Ok.ret q)
theorem w_drop (h : Ok (fe ρ) fun p => Q (.nx p.2)) : Ok (sDrop fe ρ) Q := Ok.bind (h.imp fun p q => Ok.ret q)
theorem w_nil (h : Q (.nx ρ)) : Ok (sNil ρ) Q := Ok.ret h
theorem w_break (h : Q (.bk ρ)) : Ok (sBreak ρ) Q := Ok.ret h
theorem w_cont (h : Q (.ct ρ)) : Ok (sCont ρ) Q := Ok.ret h
theorem w_par2 {j : Nat} (h : Ok (fs ρ) fun p => ∃ x y, p.1 = [x, y] ∧ Q (.nx ((p.2.set i (some x)).set j (some y)))) : Ok (sPar [i, j] fs ρ) Q := by
  refine Ok.bind (h.imp fun p ⟨x, y, e, q⟩ => ?_)
  obtain ⟨ds, ρ1⟩ := p
  dsimp only at e
  subst e
  exact Ok.ret q
theorem w_par3 {j l : Nat} (h : Ok (fs ρ) fun p => ∃ x y z, p.1 = [x, y, z] ∧ Q (.nx (((p.2.set i (some x)).set j (some y)).set l (some z)))) : Ok (sPar [i, j, l] fs ρ) Q := by
  refine Ok.bind (h.imp fun p ⟨x, y, z, e, q⟩ => ?_)
  obtain ⟨ds, ρ1⟩ := p
  dsimp only at e
  subst e
  exact Ok.ret q
theorem w_asg {gt : D → Ev → Res Ev} (h : Ok (fe ρ) fun p => Ok (gt p.1 p.2) fun ρ' => Q (.nx ρ')) : Ok (sAsg fe gt ρ) Q := Ok.bind (h.imp fun p q => Ok.bind (q.imp fun r s => Ok.ret s))
theorem w_aug {op : D → D → Res D} {x : D} (h0 : ρ[i]? = some (some x)) (h : Ok (fe ρ) fun p => Ok (op x p.1) fun z => Q (.nx (p.2.set i (some z)))) : Ok (sAug i op fe ρ) Q := by
  unfold sAug
  rw [h0]
  exact Ok.bind (h.imp fun p q => Ok.bind (q.imp fun r s => Ok.ret s))
theorem w_app {ds0 : List D} (h0 : ρ[i]? = some (some (.lst ds0))) (h : Ok (fe ρ) fun p => ∃ ds, p.2[i]? = some (some (.lst ds)) ∧ ds.length < 16777216 ∧ Q (.nx (p.2.set i (some (.lst (ds ++ [p.1])))))) : Ok (sApp i fe ρ) Q := by
  unfold sApp
  rw [h0]
  refine Ok.bind (h.imp fun p ⟨ds, e, l, q⟩ => ?_)
  rw [e]
  exact Ok.iteT l (Ok.ret q)
theorem w_ext {ds0 : List D} (h0 : ρ[i]? = some (some (.lst ds0))) (h : Ok (fe ρ) fun p => ∃ ds es, p.2[i]? = some (some (.lst ds)) ∧ p.1 = .lst es ∧ ds.length + es.length ≤ 16777216 ∧ Q (.nx (p.2.set i (some (.lst (ds ++ es)))))) : Ok (sExt i fe ρ) Q := by
  unfold sExt
  rw [h0]
  refine Ok.bind (h.imp fun p ⟨ds, es, e, e2, l, q⟩ => ?_)
  rw [e, e2]
  exact Ok.iteT l (Ok.ret q)
theorem w_put {fi : Ev → Res (D × Ev)} (h : Ok (fe ρ) fun p => ∃ ds0, p.2[i]? = some (some (.lst ds0)) ∧ Ok (fi p.2) fun r => ∃ ds n j, r.2[i]? = some (some (.lst ds)) ∧ r.1 = .int n ∧ ixN ds.length n = some j ∧ Q (.nx (r.2.set i (some (.lst (ds.set j p.1)))))) : Ok (sPut i fe fi ρ) Q := by
  refine Ok.bind (h.imp fun p ⟨ds0, e0, q⟩ => ?_)
  rw [e0]
  refine Ok.bind (q.imp fun r ⟨ds, n, j, e1, e2, e3, q⟩ => ?_)
  rw [e1, e2]
  dsimp only
  rw [e3]
  exact Ok.ret q
theorem w_var {d : D} (h0 : ρ[i]? = some (some d)) (h : QE (d, ρ)) : Ok (dVar i ρ) QE := by
  refine ⟨(d, ρ), ?_, h⟩
  unfold dVar
  rw [h0]
theorem w_take {d : D} (h0 : ρ[i]? = some (some d)) (h : QE (d, ρ.set i none)) : Ok (dTake i ρ) QE := by
  refine ⟨(d, ρ.set i none), ?_, h⟩
  unfold dTake
  rw [h0]
theorem w_const {d : D} (h : QE (d, ρ)) : Ok (dConst d ρ) QE := Ok.ret h
theorem w_op {op : D → D → Res D} (h : Ok (fa ρ) fun p => Ok (fb p.2) fun r => Ok (op p.1 r.1) fun z => QE (z, r.2)) : Ok (dOp op fa fb ρ) QE := Ok.bind (h.imp fun _ q => Ok.bind (q.imp fun _ q => Ok.bind (q.imp fun _ q => Ok.ret q)))
theorem w_un {op : D → Res D} (h : Ok (fa ρ) fun p => Ok (op p.1) fun z => QE (z, p.2)) : Ok (dUn op fa ρ) QE := Ok.bind (h.imp fun _ q => Ok.bind (q.imp fun _ q => Ok.ret q))
theorem w_calm (h : Ok (fe ρ) fun p => p.1.calm = true ∧ QE p) : Ok (dCalm fe ρ) QE := Ok.bind (h.imp fun _ q => Ok.iteT q.1 (Ok.ret q.2))
theorem w_nils (h : QS ([], ρ)) : Ok (dNil ρ) QS := Ok.ret h
theorem w_cons (h : Ok (fe ρ) fun p => Ok (fs p.2) fun r => QS (p.1 :: r.1, r.2)) : Ok (dCons fe fs ρ) QS := Ok.bind (h.imp fun _ q => Ok.bind (q.imp fun _ q => Ok.ret q))
theorem w_tup (h : Ok (fs ρ) fun p => QE (.tup p.1, p.2)) : Ok (dTup fs ρ) QE := Ok.bind (h.imp fun _ q => Ok.ret q)
theorem w_lst (h : Ok (fs ρ) fun p => QE (.lst p.1, p.2)) : Ok (dLst fs ρ) QE := Ok.bind (h.imp fun _ q => Ok.ret q)
theorem w_tru (h : Ok (fe ρ) fun p => Ok (gTru p.1) fun k => QT (k, p.2)) : Ok (dTru fe ρ) QT := Ok.bind (h.imp fun _ q => Ok.bind (q.imp fun _ q => Ok.ret q))
theorem w_bool (h : Ok (fe ρ) fun p => ∃ k, p.1 = .bl k ∧ QT (k, p.2)) : Ok (dBool fe ρ) QT := by
  refine Ok.bind (h.imp fun p ⟨k, e, q⟩ => ?_)
  rw [e]
  exact Ok.ret q
theorem w_not (h : Ok (ft ρ) fun p => QT (!p.1, p.2)) : Ok (dNot ft ρ) QT := Ok.bind (h.imp fun _ q => Ok.ret q)
theorem w_and (h : Ok (ft ρ) fun p => if p.1 = true then Ok (fu p.2) QT else QT (false, p.2)) : Ok (dAnd ft fu ρ) QT := by
  refine Ok.bind (h.imp fun p q => ?_)
  by_cases c : p.1 = true
  · rw [if_pos c] at q ⊢
    exact q
  · rw [if_neg c] at q ⊢
    exact Ok.ret q
theorem w_or (h : Ok (ft ρ) fun p => if p.1 = true then QT (true, p.2) else Ok (fu p.2) QT) : Ok (dOr ft fu ρ) QT := by
  refine Ok.bind (h.imp fun p q => ?_)
  by_cases c : p.1 = true
  · rw [if_pos c] at q ⊢
    exact Ok.ret q
  · rw [if_neg c] at q ⊢
    exact q
theorem w_ife {α : Type} {u v : Ev → Res α} {QA : α → Prop} (h : Ok (ft ρ) fun p => if p.1 = true then Ok (u p.2) QA else Ok (v p.2) QA) : Ok (dIf ft u v ρ) QA := by
  refine Ok.bind (h.imp fun p q => ?_)
  by_cases c : p.1 = true
  · rw [if_pos c] at q ⊢
    exact q
  · rw [if_neg c] at q ⊢
    exact q
theorem w_andV (h : Ok (fa ρ) fun p => Ok (gTru p.1) fun k => if k = true then Ok (fb p.2) QE else QE p) : Ok (dAndV fa fb ρ) QE := by
  refine Ok.bind (h.imp fun p q => Ok.bind (q.imp fun k q => ?_))
  by_cases c : k = true
  · rw [if_pos c] at q ⊢
    exact q
  · rw [if_neg c] at q ⊢
    exact Ok.ret q
theorem w_orV (h : Ok (fa ρ) fun p => Ok (gTru p.1) fun k => if k = true then QE p else Ok (fb p.2) QE) : Ok (dOrV fa fb ρ) QE := by
  refine Ok.bind (h.imp fun p q => Ok.bind (q.imp fun k q => ?_))
  by_cases c : k = true
  · rw [if_pos c] at q ⊢
    exact Ok.ret q
  · rw [if_neg c] at q ⊢
    exact q
theorem w_callB {gf : List D → Res D} (h : Ok (fs ρ) fun p => Ok (gf p.1) fun z => QE (z, p.2)) : Ok (dCallB gf fs ρ) QE := Ok.bind (h.imp fun _ q => Ok.bind (q.imp fun _ q => Ok.ret q))
theorem w_call {as : List AK} {F : Fn} {ga : Ev → Res (List (Option D) × Ev)} (h : Ok (ga ρ) fun p => Ok (fillA p.2 as p.1) fun ds => Ok (F ds) fun r => QE (r.1, putA as r.2 p.2)) : Ok (dCall as F ga ρ) QE :=
  Ok.bind (h.imp fun _ q => Ok.bind (q.imp fun _ q => Ok.bind (q.imp fun _ q => Ok.ret q)))
theorem w_anil {QA : List (Option D) × Ev → Prop} (h : QA ([], ρ)) : Ok (aNil ρ) QA := Ok.ret h
theorem w_as {ga : Ev → Res (List (Option D) × Ev)} {QA : List (Option D) × Ev → Prop} (h : Ok (fe ρ) fun p => Ok (ga p.2) fun r => QA (some p.1 :: r.1, r.2)) : Ok (aS fe ga ρ) QA := Ok.bind (h.imp fun _ q => Ok.bind (q.imp fun _ q => Ok.ret q))
theorem w_aio {ga : Ev → Res (List (Option D) × Ev)} {QA : List (Option D) × Ev → Prop} {d : D} (h0 : ρ[i]? = some (some d)) (h : Ok (ga ρ) fun r => QA (none :: r.1, r.2)) : Ok (aIO i ga ρ) QA := by
  unfold aIO
  rw [h0]
  exact Ok.bind (h.imp fun _ q => Ok.ret q)
theorem w_pop {ds : List D} {d : D} (h0 : ρ[i]? = some (some (.lst ds))) (h1 : ds[ds.length - 1]? = some d) (h : QE (d, ρ.set i (some (.lst ds.dropLast)))) : Ok (dPop i ρ) QE := by
  refine ⟨_, ?_, h⟩
  unfold dPop
  rw [h0]
  dsimp only
  rw [h1]
theorem w_tname {d : D} {QV : Ev → Prop} (h : QV (ρ.set i (some d))) : Ok (gtName i d ρ) QV := Ok.ret h
theorem w_sl {gs : D → Option Int → Option Int → Res D} {l u : Ev → Res (Option Int × Ev)} (h : Ok (fe ρ) fun p => Ok (l p.2) fun a => Ok (u a.2) fun b => Ok (gs p.1 a.1 b.1) fun z => QE (z, b.2)) : Ok (dSl gs fe l u ρ) QE :=
  Ok.bind (h.imp fun _ q => Ok.bind (q.imp fun _ q => Ok.bind (q.imp fun _ q => Ok.bind (q.imp fun _ q => Ok.ret q))))
theorem w_nopart {QO : Option Int × Ev → Prop} (h : QO (none, ρ)) : Ok (dNoPart ρ) QO := Ok.ret h
theorem w_part {QO : Option Int × Ev → Prop} (h : Ok (fe ρ) fun p => ∃ n, p.1 = .int n ∧ QO (some n, p.2)) : Ok (dPart fe ρ) QO := by
  refine Ok.bind (h.imp fun p ⟨n, e, q⟩ => ?_)
  rw [e]
  exact Ok.ret q
/-! loops -/
theorem w_for {fi : Ev → Res (List D × Ev)} {gt : D → Ev → Res Ev} (h : Ok (fi ρ) fun p => Ok (sLoop gt f p.1 p.2) Q) : Ok (sFor fi gt f ρ) Q := Ok.bind h
/-- an invariant I over the items still to come and the state -/
theorem w_loop {gt : D → Ev → Res Ev} (I : List D → Ev → Prop) (hs : ∀ d ds ρ, I (d :: ds) ρ → Ok (gt d ρ) fun ρ1 => Ok (f ρ1) fun fl => match fl with
    | .nx ρ2 => I ds ρ2
    | .ct ρ2 => I ds ρ2
    | .bk ρ2 => Q (.nx ρ2)
    | .rt d ρ2 => Q (.rt d ρ2)) (he : ∀ ρ, I [] ρ → Q (.nx ρ)) : ∀ (ds : List D) (ρ : Ev), I ds ρ → Ok (sLoop gt f ds ρ) Q
  | [], ρ, h => Ok.ret (he ρ h)
  | d :: ds, ρ, h => by
    refine Ok.bind ((hs d ds ρ h).imp fun ρ1 q => Ok.bind (q.imp fun fl q => ?_))
    cases fl with
    | nx ρ2 => exact w_loop I hs he ds ρ2 q
    | ct ρ2 => exact w_loop I hs he ds ρ2 q
    | bk ρ2 => exact Ok.ret q
    | rt d ρ2 => exact Ok.ret q
theorem w_while (I : Nat → Ev → Prop) (hs : ∀ n ρ, I n ρ → Ok (ft ρ) fun p => if p.1 = true then Ok (f p.2) fun fl => match fl with
    | .nx ρ2 => ∃ m, m < n ∧ I m ρ2
    | .ct ρ2 => ∃ m, m < n ∧ I m ρ2
    | .bk ρ2 => Q (.nx ρ2)
    | .rt d ρ2 => Q (.rt d ρ2) else Q (.nx p.2)) : ∀ (n : Nat) (ρ : Ev), I n ρ → Ok (sWhile ft f ρ) Q := by
  intro n
  induction n using Nat.strongRecOn with
  | _ n ih =>
    intro ρ h
    obtain ⟨⟨k, ρ1⟩, e1, q⟩ := hs n ρ h
    cases k with
    | false =>
      rw [if_neg Bool.false_ne_true] at q
      exact ⟨_, sWhile_step e1 (fun _ => rfl) (fun z => nomatch z), q⟩
    | true =>
      rw [if_pos rfl] at q
      obtain ⟨fl, e2, q⟩ := q
      cases fl with
      | nx ρ2 =>
        obtain ⟨m, hm, hi⟩ := q
        obtain ⟨r, e3, q3⟩ := ih m hm ρ2 hi
        exact ⟨r, sWhile_step e1 (fun z => nomatch z) (fun _ => ⟨_, e2, e3⟩), q3⟩
      | ct ρ2 =>
        obtain ⟨m, hm, hi⟩ := q
        obtain ⟨r, e3, q3⟩ := ih m hm ρ2 hi
        exact ⟨r, sWhile_step e1 (fun z => nomatch z) (fun _ => ⟨_, e2, e3⟩), q3⟩
      | bk ρ2 => exact ⟨_, sWhile_step e1 (fun z => nomatch z) (fun _ => ⟨_, e2, rfl⟩), q⟩
      | rt d ρ2 => exact ⟨_, sWhile_step e1 (fun z => nomatch z) (fun _ => ⟨_, e2, rfl⟩), q⟩
theorem w_rng1 (h : Ok (fe ρ) fun p => ∃ n : Int, p.1 = .int n ∧ n < 2 ^ 62 ∧ -(2 ^ 62) ≤ n ∧ QS (rgD 0 n, p.2)) : Ok (dRng1 fe ρ) QS := by
  refine Ok.bind (h.imp fun p ⟨n, e, h1, h2, q⟩ => ?_)
  rw [e]
  exact Ok.iteT ⟨by decide, by decide, h2, h1⟩ (Ok.ret q)
theorem w_seqI (h : Ok (fe ρ) fun p => ∃ ds, seqOf p.1 = some ds ∧ QS (ds, p.2)) : Ok (dSeqI fe ρ) QS := by
  refine Ok.bind (h.imp fun p ⟨ds, e, q⟩ => ?_)
  rw [e]
  exact Ok.ret q
theorem w_zip (h : Ok (fs ρ) fun p => ∃ xs ys, p.1 = [.tup xs, .tup ys] ∧ QS (pairD xs ys, p.2)) : Ok (dZip fs ρ) QS := by
  refine Ok.bind (h.imp fun p ⟨xs, ys, e, q⟩ => ?_)
  rw [e]
  exact Ok.ret q
theorem w_comp {fi : Ev → Res (List D × Ev)} {vs : List Nat} {gt : D → Ev → Res Ev} (h : Ok (fi ρ) fun p => p.1.length ≤ 16777216 ∧ Ok (cLoop vs gt ft fe p.1 (wipeE p.2 vs)) fun r => QE (.lst r.1, restE r.2 p.2 vs)) : Ok (dComp fi vs gt ft fe ρ) QE :=
  Ok.bind (h.imp fun _ q => Ok.iteT q.1 (Ok.bind (q.2.imp fun _ q => Ok.ret q)))
/-- a comprehension with a state: I of the items to come, what is made so far, the state -/
theorem w_cloop {vs : List Nat} {gt : D → Ev → Res Ev} {QL : List D × Ev → Prop} (I : List D → List D → Ev → Prop) (hs : ∀ d ds acc ρ, I (d :: ds) acc ρ → Ok (gt d ρ) fun ρ1 => Ok (ft ρ1) fun p => if p.1 = true then Ok (fe p.2) fun r => I ds (acc ++ [r.1]) (wipeE r.2 vs) else I ds acc (wipeE p.2 vs))
    (he : ∀ acc ρ, I [] acc ρ → QL (acc, ρ)) {ds : List D} {ρ : Ev} (h : I ds [] ρ) : Ok (cLoop vs gt ft fe ds ρ) QL := by
  have go : ∀ (ds : List D) (acc : List D) (ρ : Ev), I ds acc ρ → Ok (cLoop vs gt ft fe ds ρ) fun r => I [] (acc ++ r.1) r.2 := by
    intro ds
    induction ds with
    | nil => intro acc ρ h; exact Ok.ret (by rw [List.append_nil]; exact h)
    | cons d ds ih =>
      intro acc ρ h
      refine Ok.bind ((hs d ds acc ρ h).imp fun ρ1 q => Ok.bind (q.imp fun p q => ?_))
      by_cases c : p.1 = true
      · rw [if_pos c] at q ⊢
        refine Ok.bind (q.imp fun r q => Ok.bind ((ih _ _ q).imp fun s q => Ok.ret ?_))
        rw [List.append_assoc] at q
        exact q
      · rw [if_neg c] at q ⊢
        exact ih acc _ q
  exact (go ds [] ρ h).imp fun r q => he _ _ q
/-- .. each item by itself, the state as it is -/
theorem w_cmap {vs : List Nat} {gt : D → Ev → Res Ev} {QL : List D × Ev → Prop} (hm : D → D) {ds : List D} {ρ : Ev} (hs : ∀ d ∈ ds, Ok (gt d ρ) fun ρ1 => Ok (ft ρ1) fun p => p.1 = true ∧ Ok (fe p.2) fun r => r.1 = hm d ∧ wipeE r.2 vs = ρ) (he : QL (ds.map hm, ρ)) : Ok (cLoop vs gt ft fe ds ρ) QL := by
  refine Ok.imp (P := fun r => r = (ds.map hm, ρ)) ?_ fun r e => e ▸ he
  clear he
  induction ds with
  | nil => exact Ok.ret rfl
  | cons d ds ih =>
    refine Ok.bind ((hs d List.mem_cons_self).imp fun ρ1 q => Ok.bind (q.imp fun p q => ?_))
    rw [if_pos q.1]
    refine Ok.bind (q.2.imp fun r q => ?_)
    rw [q.2]
    refine Ok.bind ((ih fun e he => hs e (List.mem_cons_of_mem _ he)).imp fun s e => Ok.ret ?_)
    rw [e, q.1]
    rfl
end
theorem gMul_r {i j : Int} {Q : D → Prop} (h1 : -(2 ^ 64) < j) (h2 : j < 2 ^ 64) (q : Q (.int (i * j))) : Ok (gMul (.int i) (.int j)) Q := Ok.iteT (.inl (.inr ⟨h1, h2⟩)) (Ok.ret q)
theorem gMul_l {i j : Int} {Q : D → Prop} (h1 : -(2 ^ 64) < i) (h2 : i < 2 ^ 64) (q : Q (.int (i * j))) : Ok (gMul (.int i) (.int j)) Q := Ok.iteT (.inl (.inl ⟨h1, h2⟩)) (Ok.ret q)
theorem gMod_p {i j : Int} {Q : D → Prop} (h : 0 < j) (q : Q (.int (i % j))) : Ok (gMod (.int i) (.int j)) Q := Ok.iteT h (Ok.ret q)
theorem gFdiv_p {i j : Int} {Q : D → Prop} (h : CDivW i j) (q : Q (.int (i / j))) : Ok (gFdiv (.int i) (.int j)) Q := Ok.iteT h (Ok.ret q)
theorem gPow_p {i j : Int} {Q : D → Prop} (h : CPow i j) (q : Q (.int (i ^ j.toNat))) : Ok (gPow (.int i) (.int j)) Q := Ok.iteT h (Ok.ret q)
theorem gShl_p {i j : Int} {Q : D → Prop} (h : CPow i j) (q : Q (.int (i * 2 ^ j.toNat))) : Ok (gShl (.int i) (.int j)) Q := Ok.iteT h (Ok.ret q)
theorem gIx_l {ds : List D} {i : Int} {d : D} {Q : D → Prop} (h : atI ds i = some d) (q : Q d) : Ok (gIx (.lst ds) (.int i)) Q := ⟨d, by unfold gIx; dsimp only; rw [h], q⟩
theorem gIx_t {ds : List D} {i : Int} {d : D} {Q : D → Prop} (h : atI ds i = some d) (q : Q d) : Ok (gIx (.tup ds) (.int i)) Q := ⟨d, by unfold gIx; dsimp only; rw [h], q⟩
theorem atI_in {α : Type} {xs : List α} {i : Int} (h0 : 0 ≤ i) (h1 : i < xs.length) : ∃ d, xs[i.toNat]? = some d ∧ atI xs i = some d := by
  have hj : i.toNat < xs.length := by omega
  refine ⟨xs[i.toNat], List.getElem?_eq_getElem hj, ?_⟩
  have e := atI_nat (j := i.toNat) (List.getElem?_eq_getElem hj)
  rw [show ((i.toNat : Nat) : Int) = i by omega] at e
  exact e
section
variable {i j : Int} {Q : D → Prop} {QB : Bool → Prop} {x y : PySem.Str} {b k : Bool} {ds : List D}
theorem g_add (q : Q (.int (i + j))) : Ok (gAdd (.int i) (.int j)) Q := Ok.ret q
theorem g_sub (q : Q (.int (i - j))) : Ok (gSub (.int i) (.int j)) Q := Ok.ret q
theorem g_neg (q : Q (.int (-i))) : Ok (gNeg (.int i)) Q := Ok.ret q
theorem g_lt (q : Q (.bl (decide (i < j)))) : Ok (gLt (.int i) (.int j)) Q := Ok.ret q
theorem g_le (q : Q (.bl (decide (i ≤ j)))) : Ok (gLe (.int i) (.int j)) Q := Ok.ret q
theorem g_gt (q : Q (.bl (decide (j < i)))) : Ok (gGt (.int i) (.int j)) Q := Ok.ret q
theorem g_ge (q : Q (.bl (decide (j ≤ i)))) : Ok (gGe (.int i) (.int j)) Q := Ok.ret q
theorem g_eqi (q : Q (.bl (decide (i = j)))) : Ok (gEq (.int i) (.int j)) Q := Ok.ret q
theorem g_nei (q : Q (.bl (!decide (i = j)))) : Ok (gNe (.int i) (.int j)) Q := Ok.ret q
theorem g_int (q : Q (.int i)) : Ok (gIntOf [.int i]) Q := Ok.ret q
theorem g_abs (q : Q (.int (if i < 0 then -i else i))) : Ok (gAbs [.int i]) Q := Ok.ret q
theorem g_lenL (q : Q (.int ds.length)) : Ok (gLen [.lst ds]) Q := Ok.ret q
theorem g_lenT (q : Q (.int ds.length)) : Ok (gLen [.tup ds]) Q := Ok.ret q
theorem g_trub (q : QB b) : Ok (gTru (.bl b)) QB := Ok.ret q
theorem g_tupL (q : Q (.tup ds)) : Ok (gTupOf [.lst ds]) Q := Ok.ret q
theorem g_tupT (q : Q (.tup ds)) : Ok (gTupOf [.tup ds]) Q := Ok.ret q
end
theorem itNT {P Q : Prop} (h : Q) : if (!true) = true then P else Q := h
theorem itNF {P Q : Prop} (h : P) : if (!false) = true then P else Q := h
theorem ne_refl {d : D} (h : eqS d d = some true) {Q : D → Prop} (q : Q (.bl false)) : Ok (gNe d d) Q := ⟨.bl false, by unfold gNe eqD; rw [h]; rfl, q⟩
theorem gNe_ii {i : Int} {Q : D → Prop} (q : Q (.bl false)) : Ok (gNe (.int i) (.int i)) Q := ne_refl (by show some (decide (i = i)) = _; rw [decide_eq_true rfl]) q
theorem gNe_bb {i : Bool} {Q : D → Prop} (q : Q (.bl false)) : Ok (gNe (.bl i) (.bl i)) Q := ne_refl (by show some (decide (i = i)) = _; rw [decide_eq_true rfl]) q
theorem gNe_ss {i : PySem.Str} {Q : D → Prop} (q : Q (.bl false)) : Ok (gNe (.str i) (.str i)) Q := ne_refl (by show some (decide (i = i)) = _; rw [decide_eq_true rfl]) q
theorem gIx_t0 {d : D} {ds : List D} {Q : D → Prop} (q : Q d) : Ok (gIx (.tup (d :: ds)) (.int 0)) Q := gIx_t (atI_nat (j := 0) rfl) q
theorem gIx_l0 {d : D} {ds : List D} {Q : D → Prop} (q : Q d) : Ok (gIx (.lst (d :: ds)) (.int 0)) Q := gIx_l (atI_nat (j := 0) rfl) q
end DL
namespace K1
open PySem PySem.Spec PyProof.Rows L2 DL
def topS (i : Nat) : Stmt := PySem.Challenge.pw_neveroverdrawn_k01_changes_figures.main.body.getD i (.Pass ⟨0, 0, 0, 0⟩)
/-- what the top has written -/
structure Top (K : PySem.W.Frag) (mg : Str → Option Value) : Prop where
  f_low_sum : Src K mg "low_sum" (topS 1) ["one", "other"]
  f_low_rank : Src K mg "low_rank" (topS 2) ["low"]
  f_low_less : Src K mg "low_less" (topS 3) ["one", "other"]
  f_least_low : Src K mg "least_low" (topS 4) ["lows"]
  f_low_times : Src K mg "low_times" (topS 5) ["low", "many"]
  f_need_less : Src K mg "need_less" (topS 6) ["one", "other"]
  f_greatest_need : Src K mg "greatest_need" (topS 7) ["needs"]
  f_need_behind : Src K mg "need_behind" (topS 8) ["need", "low"]
  f_put_change : Src K mg "put_change" (topS 10) ["amounts", "change"]
  f_change_sum : Src K mg "change_sum" (topS 11) ["one", "other"]
  f_change_times : Src K mg "change_times" (topS 12) ["change", "many"]
  f_is_overdrawn : Src K mg "is_overdrawn" (topS 13) ["amounts"]
  f__law_tape : Src K mg "_law_tape" (topS 15) ["script"]
  f__law_pick : Src K mg "_law_pick" (topS 16) ["tape", "many"]
  f__law_same : Src K mg "_law_same" (topS 17) ["told", "due"]
  f__law_order : Src K mg "_law_order" (topS 18) ["tape", "many"]
  f__law_number : Src K mg "_law_number" (topS 19) ["tape", "habit"]
  f__law_low : Src K mg "_law_low" (topS 20) ["tape"]
  f__law_need : Src K mg "_law_need" (topS 21) ["tape"]
  f__law_key : Src K mg "_law_key" (topS 22) ["figure"]
  f__law_need_key : Src K mg "_law_need_key" (topS 23) ["figure"]
  f__law_sum : Src K mg "_law_sum" (topS 24) ["one", "other"]
  f__law_changes : Src K mg "_law_changes" (topS 25) ["tape"]
  f__law_lows : Src K mg "_law_lows" (topS 26) ["tape"]
  f__law_needs : Src K mg "_law_needs" (topS 27) ["tape"]
  f_law : Src K mg "law" (topS 28) ["script"]
  b_abs : mg "abs" = none
  b_any : mg "any" = none
  b_bool : mg "bool" = none
  b_int : mg "int" = none
  b_isinstance : mg "isinstance" = none
  b_len : mg "len" = none
  b_list : mg "list" = none
  b_max : mg "max" = none
  b_range : mg "range" = none
  b_str : mg "str" = none
  b_tuple : mg "tuple" = none
  b_zip : mg "zip" = none
section
variable {P : Program} {w : World} {K : PySem.W.Frag} {mg : Str → Option Value} {base : Heap}
noncomputable def F_low_sum : Fn := mkF 2 [0, 0] none
  ((sSeq (sIf (dBool (dOp (gIn false) (dConst (.str "never")) (dTup (dCons (dVar 0) (dCons (dVar 1) dNil)))))
  (sRet (dConst (.str "never")))
  sNil)
  (sRet (dIf (dBool (dOp (gIn false) (dConst (.str "deep")) (dTup (dCons (dVar 0) (dCons (dVar 1) dNil))))) (dConst (.str "deep")) (dOp gAdd (dVar 0) (dVar 1))))))
theorem sc_low_sum : FnScope ["one", "other"] ["one", "other"] (defScope (topS 1)) := ⟨rfl, rfl, rfl, by decide +kernel, rfl, by decide +kernel, by decide +kernel⟩
theorem ok_low_sum (T : Top K mg) {f : Addr} {fd : FuncData} (h2 : Fun K "low_sum" "low_sum" (topS 1) f fd) : FnOk P w K mg base CX0 1 f fd ["one", "other"] (spD K [0, 0] none F_low_sum) :=
  fun_ok (lv := [0, 0]) h2 sc_low_sum rfl rfl fun cdv A outer s H H0 vs E M Z hr =>
    (dss_cons (ds_if (t_in de_str (de_tup (das_cons (de_var 0) (das_cons (de_var 1) das_nil (hq := hF)) (hq := hF))) hF rfl)
    (dss_one (ds_ret de_str))
    dss_nil)
    (dss_one (ds_ret (de_if (t_in de_str (de_tup (das_cons (de_var 0) (das_cons (de_var 1) das_nil (hq := hF)) (hq := hF))) hF rfl) de_str (e_add (de_var 0) (de_var 1) hF)))))
theorem d_low_sum (T : Top K mg) : DFn P w K mg base 1 "low_sum" [0, 0] none F_low_sum := by
  obtain ⟨f, fd, h1, h2, h3⟩ := T.f_low_sum
  exact ⟨f, fd, ["one", "other"], h1, h2.kp, .all h3, ok_low_sum T h2⟩
noncomputable def F_low_rank : Fn := mkF 1 [0] none
  ((sSeq (sIf (dBool (dOp gEq (dVar 0) (dConst (.str "deep"))))
  (sRet (dTup (dCons (dConst (.int 0)) (dCons (dConst (.int 0)) dNil))))
  sNil)
  (sRet (dIf (dBool (dOp gEq (dVar 0) (dConst (.str "never")))) (dTup (dCons (dConst (.int 2)) (dCons (dConst (.int 0)) dNil))) (dTup (dCons (dConst (.int 1)) (dCons (dVar 0) dNil)))))))
theorem sc_low_rank : FnScope ["low"] ["low"] (defScope (topS 2)) := ⟨rfl, rfl, rfl, by decide +kernel, rfl, by decide +kernel, by decide +kernel⟩
theorem ok_low_rank (T : Top K mg) {f : Addr} {fd : FuncData} (h2 : Fun K "low_rank" "low_rank" (topS 2) f fd) : FnOk P w K mg base CX0 1 f fd ["low"] (spD K [0] none F_low_rank) :=
  fun_ok (lv := [0]) h2 sc_low_rank rfl rfl fun cdv A outer s H H0 vs E M Z hr =>
    (dss_cons (ds_if (t_eq (de_var 0) de_str hF hr)
    (dss_one (ds_ret (de_tup (das_cons de_int (das_cons de_int das_nil (hq := hF)) (hq := hF)))))
    dss_nil)
    (dss_one (ds_ret (de_if (t_eq (de_var 0) de_str hF hr) (de_tup (das_cons de_int (das_cons de_int das_nil (hq := hF)) (hq := hF))) (de_tup (das_cons de_int (das_cons (de_var 0) das_nil (hq := hF)) (hq := hF)))))))
theorem d_low_rank (T : Top K mg) : DFn P w K mg base 1 "low_rank" [0] none F_low_rank := by
  obtain ⟨f, fd, h1, h2, h3⟩ := T.f_low_rank
  exact ⟨f, fd, ["low"], h1, h2.kp, .all h3, ok_low_rank T h2⟩
noncomputable def F_low_less : Fn := mkF 2 [0, 0] none
  ((sRet (dOp gLt (dCall [.s] F_low_rank (aS (dVar 0) aNil)) (dCall [.s] F_low_rank (aS (dVar 1) aNil)))))
theorem sc_low_less : FnScope ["one", "other"] ["one", "other"] (defScope (topS 3)) := ⟨rfl, rfl, rfl, by decide +kernel, rfl, by decide +kernel, by decide +kernel⟩
theorem ok_low_less (T : Top K mg) {f : Addr} {fd : FuncData} (h2 : Fun K "low_less" "low_less" (topS 3) f fd) : FnOk P w K mg base CX0 2 f fd ["one", "other"] (spD K [0, 0] none F_low_less) :=
  fun_ok (lv := [0, 0]) h2 sc_low_less rfl rfl fun cdv A outer s H H0 vs E M Z hr =>
    (dss_one (ds_ret (e_lt (de_call (d_low_rank T) hr (by decide) (da_s (de_var 0) da_nil)) (de_call (d_low_rank T) hr (by decide) (da_s (de_var 1) da_nil)) hF hr)))
theorem d_low_less (T : Top K mg) : DFn P w K mg base 2 "low_less" [0, 0] none F_low_less := by
  obtain ⟨f, fd, h1, h2, h3⟩ := T.f_low_less
  exact ⟨f, fd, ["one", "other"], h1, h2.kp, .all h3, ok_low_less T h2⟩
noncomputable def F_least_low : Fn := mkF 3 [0] none
  ((sSeq (sSet 1 (dOp gIx (dVar 0) (dConst (.int 0))))
  (sSeq (sFor (dSeqI (dVar 0)) (gtName 2)
  (sIf (dTru (dCall [.s, .s] F_low_less (aS (dVar 2) (aS (dVar 1) aNil))))
  (sSet 1 (dVar 2))
  sNil))
  (sRet (dVar 1)))))
theorem sc_least_low : FnScope ["lows", "best", "low"] ["lows"] (defScope (topS 4)) := ⟨rfl, rfl, rfl, by decide +kernel, rfl, by decide +kernel, by decide +kernel⟩
theorem ok_least_low (T : Top K mg) {f : Addr} {fd : FuncData} (h2 : Fun K "least_low" "least_low" (topS 4) f fd) : FnOk P w K mg base CX0 3 f fd ["lows"] (spD K [0] none F_least_low) :=
  fun_ok (lv := [0, 0, 0]) h2 sc_least_low rfl rfl fun cdv A outer s H H0 vs E M Z hr =>
    (dss_cons (ds_set 1 sc_least_low.nd (e_ix (de_var 0) de_int hF))
    (dss_cons (ds_for PassesOwn.never rfl (di_seq (de_var 0)) (dg_name 2 sc_least_low.nd)
    (dss_one (ds_if (dt_tru (b := false) (de_call (d_low_less T) hr (by decide) (da_s (de_var 2) (da_s (de_var 1) da_nil))))
    (dss_one (ds_set 1 sc_least_low.nd (de_var 2)))
    dss_nil)))
    (dss_one (ds_ret (de_var 1)))))
theorem d_least_low (T : Top K mg) : DFn P w K mg base 3 "least_low" [0] none F_least_low := by
  obtain ⟨f, fd, h1, h2, h3⟩ := T.f_least_low
  exact ⟨f, fd, ["lows"], h1, h2.kp, .all h3, ok_least_low T h2⟩
noncomputable def F_low_times : Fn := mkF 2 [0, 0] none
  ((sSeq (sIf (dBool (dOp gEq (dVar 1) (dConst (.int 0))))
  (sRet (dConst (.int 0)))
  sNil)
  (sRet (dIf (dBool (dOp (gIn false) (dVar 0) (dTup (dCons (dConst (.str "never")) (dCons (dConst (.str "deep")) dNil))))) (dVar 0) (dOp gMul (dVar 0) (dVar 1))))))
theorem sc_low_times : FnScope ["low", "many"] ["low", "many"] (defScope (topS 5)) := ⟨rfl, rfl, rfl, by decide +kernel, rfl, by decide +kernel, by decide +kernel⟩
theorem ok_low_times (T : Top K mg) {f : Addr} {fd : FuncData} (h2 : Fun K "low_times" "low_times" (topS 5) f fd) : FnOk P w K mg base CX0 1 f fd ["low", "many"] (spD K [0, 0] none F_low_times) :=
  fun_ok (lv := [0, 0]) h2 sc_low_times rfl rfl fun cdv A outer s H H0 vs E M Z hr =>
    (dss_cons (ds_if (t_eq (de_var 1) de_int hF hr)
    (dss_one (ds_ret de_int))
    dss_nil)
    (dss_one (ds_ret (de_if (t_in (de_var 0) (de_tup (das_cons de_str (das_cons de_str das_nil (hq := hF)) (hq := hF))) hF rfl) (de_var 0) (e_mul (de_var 0) (de_var 1) hF)))))
theorem d_low_times (T : Top K mg) : DFn P w K mg base 1 "low_times" [0, 0] none F_low_times := by
  obtain ⟨f, fd, h1, h2, h3⟩ := T.f_low_times
  exact ⟨f, fd, ["low", "many"], h1, h2.kp, .all h3, ok_low_times T h2⟩
noncomputable def F_need_less : Fn := mkF 2 [0, 0] none
  ((sSeq (sIf (dBool (dOp gEq (dVar 0) (dConst (.str "deep"))))
  (sRet (dConst (.bl false)))
  sNil)
  (sRet (dOrV (dOp gEq (dVar 1) (dConst (.str "deep"))) (dOp gLt (dVar 0) (dVar 1))))))
theorem sc_need_less : FnScope ["one", "other"] ["one", "other"] (defScope (topS 6)) := ⟨rfl, rfl, rfl, by decide +kernel, rfl, by decide +kernel, by decide +kernel⟩
theorem ok_need_less (T : Top K mg) {f : Addr} {fd : FuncData} (h2 : Fun K "need_less" "need_less" (topS 6) f fd) : FnOk P w K mg base CX0 1 f fd ["one", "other"] (spD K [0, 0] none F_need_less) :=
  fun_ok (lv := [0, 0]) h2 sc_need_less rfl rfl fun cdv A outer s H H0 vs E M Z hr =>
    (dss_cons (ds_if (t_eq (de_var 0) de_str hF hr)
    (dss_one (ds_ret de_bl))
    dss_nil)
    (dss_one (ds_ret (de_or (e_eq (de_var 1) de_str hF hr) (de_one (e_lt (de_var 0) (de_var 1) hF hr))))))
theorem d_need_less (T : Top K mg) : DFn P w K mg base 1 "need_less" [0, 0] none F_need_less := by
  obtain ⟨f, fd, h1, h2, h3⟩ := T.f_need_less
  exact ⟨f, fd, ["one", "other"], h1, h2.kp, .all h3, ok_need_less T h2⟩
noncomputable def F_greatest_need : Fn := mkF 3 [0] none
  ((sSeq (sSet 1 (dOp gIx (dVar 0) (dConst (.int 0))))
  (sSeq (sFor (dSeqI (dVar 0)) (gtName 2)
  (sIf (dTru (dCall [.s, .s] F_need_less (aS (dVar 1) (aS (dVar 2) aNil))))
  (sSet 1 (dVar 2))
  sNil))
  (sRet (dVar 1)))))
theorem sc_greatest_need : FnScope ["needs", "best", "need"] ["needs"] (defScope (topS 7)) := ⟨rfl, rfl, rfl, by decide +kernel, rfl, by decide +kernel, by decide +kernel⟩
theorem ok_greatest_need (T : Top K mg) {f : Addr} {fd : FuncData} (h2 : Fun K "greatest_need" "greatest_need" (topS 7) f fd) : FnOk P w K mg base CX0 2 f fd ["needs"] (spD K [0] none F_greatest_need) :=
  fun_ok (lv := [0, 0, 0]) h2 sc_greatest_need rfl rfl fun cdv A outer s H H0 vs E M Z hr =>
    (dss_cons (ds_set 1 sc_greatest_need.nd (e_ix (de_var 0) de_int hF))
    (dss_cons (ds_for PassesOwn.never rfl (di_seq (de_var 0)) (dg_name 2 sc_greatest_need.nd)
    (dss_one (ds_if (dt_tru (b := false) (de_call (d_need_less T) hr (by decide) (da_s (de_var 1) (da_s (de_var 2) da_nil))))
    (dss_one (ds_set 1 sc_greatest_need.nd (de_var 2)))
    dss_nil)))
    (dss_one (ds_ret (de_var 1)))))
theorem d_greatest_need (T : Top K mg) : DFn P w K mg base 2 "greatest_need" [0] none F_greatest_need := by
  obtain ⟨f, fd, h1, h2, h3⟩ := T.f_greatest_need
  exact ⟨f, fd, ["needs"], h1, h2.kp, .all h3, ok_greatest_need T h2⟩
noncomputable def F_need_behind : Fn := mkF 2 [0, 0] none
  ((sSeq (sIf (dBool (dOp gEq (dVar 1) (dConst (.str "never"))))
  (sRet (dConst (.int 0)))
  sNil)
  (sSeq (sIf (dOr (dBool (dOp gEq (dVar 0) (dConst (.str "deep")))) (dBool (dOp gEq (dVar 1) (dConst (.str "deep")))))
  (sRet (dConst (.str "deep")))
  sNil)
  (sRet (dCallB gMax2 (dCons (dConst (.int 0)) (dCons (dOp gSub (dVar 0) (dVar 1)) dNil)))))))
theorem sc_need_behind : FnScope ["need", "low"] ["need", "low"] (defScope (topS 8)) := ⟨rfl, rfl, rfl, by decide +kernel, rfl, by decide +kernel, by decide +kernel⟩
theorem ok_need_behind (T : Top K mg) {f : Addr} {fd : FuncData} (h2 : Fun K "need_behind" "need_behind" (topS 8) f fd) : FnOk P w K mg base CX0 1 f fd ["need", "low"] (spD K [0, 0] none F_need_behind) :=
  fun_ok (lv := [0, 0]) h2 sc_need_behind rfl rfl fun cdv A outer s H H0 vs E M Z hr =>
    (dss_cons (ds_if (t_eq (de_var 1) de_str hF hr)
    (dss_one (ds_ret de_int))
    dss_nil)
    (dss_cons (ds_if (dw_dt (dw_or (t_eq (de_var 0) de_str hF hr) (dw_or1 (t_eq (de_var 1) de_str hF hr))))
    (dss_one (ds_ret de_str))
    dss_nil)
    (dss_one (ds_ret (de_callB (call_max2 rfl) c_max2 T.b_max (by decide +kernel) (das_cons de_int (das_cons (e_sub (de_var 0) (de_var 1) hF) das_nil (hq := hF)) (hq := hF)))))))
theorem d_need_behind (T : Top K mg) : DFn P w K mg base 1 "need_behind" [0, 0] none F_need_behind := by
  obtain ⟨f, fd, h1, h2, h3⟩ := T.f_need_behind
  exact ⟨f, fd, ["need", "low"], h1, h2.kp, .all h3, ok_need_behind T h2⟩
noncomputable def F_put_change : Fn := mkF 4 [0, 0] none
  ((sRet (dCallB gTupOf (dCons (dComp (dZip (dCons (dVar 0) (dCons (dVar 1) dNil))) [2, 3] (gtTup 2 (gtCons (gtName 2) (gtCons (gtName 3) gtNil))) dYes (dOp gAdd (dVar 2) (dVar 3))) dNil))))
theorem sc_put_change : FnScope ["amounts", "change", "amount", "number"] ["amounts", "change"] (defScope (topS 10)) := ⟨rfl, rfl, rfl, by decide +kernel, rfl, by decide +kernel, by decide +kernel⟩
theorem ok_put_change (T : Top K mg) {f : Addr} {fd : FuncData} (h2 : Fun K "put_change" "put_change" (topS 10) f fd) : FnOk P w K mg base CX0 1 f fd ["amounts", "change"] (spD K [0, 0] none F_put_change) :=
  fun_ok (lv := [0, 0, 0, 0]) h2 sc_put_change rfl rfl fun cdv A outer s H H0 vs E M Z hr =>
    (dss_one (ds_ret (de_callTy call_tuple_of c_tuple T.b_tuple (by decide +kernel) (das_cons (de_f (df_lc (own := [("amount", 2), ("number", 3)]) rfl sc_put_change.nd (di_zip T.b_zip (das_cons (de_var 0) (das_cons (de_var 1) das_nil (hq := hF)) (hq := hF))) (blkOk_by (own := [("amount", 2), ("number", 3)]) (N := ["amounts", "change", "amount", "number"]) (sc := defScope (topS 10)) (by decide +kernel)) (fun _ _ _ _ _ => (dg_tup rfl (dgs_cons (dg_name 2 sc_put_change.nd) (dgs_cons (dg_name 3 sc_put_change.nd) dgs_nil)))) (fun _ _ _ _ _ => dts_nil) (fun _ _ _ _ _ => (e_add (de_var 2) (de_var 3) hF)))) das_nil (hq := hF)))))
theorem d_put_change (T : Top K mg) : DFn P w K mg base 1 "put_change" [0, 0] none F_put_change := by
  obtain ⟨f, fd, h1, h2, h3⟩ := T.f_put_change
  exact ⟨f, fd, ["amounts", "change"], h1, h2.kp, .all h3, ok_put_change T h2⟩
noncomputable def F_change_sum : Fn := mkF 4 [0, 0] none
  ((sRet (dCallB gTupOf (dCons (dComp (dZip (dCons (dVar 0) (dCons (dVar 1) dNil))) [2, 3] (gtTup 2 (gtCons (gtName 2) (gtCons (gtName 3) gtNil))) dYes (dOp gAdd (dVar 2) (dVar 3))) dNil))))
theorem sc_change_sum : FnScope ["one", "other", "mine", "yours"] ["one", "other"] (defScope (topS 11)) := ⟨rfl, rfl, rfl, by decide +kernel, rfl, by decide +kernel, by decide +kernel⟩
theorem ok_change_sum (T : Top K mg) {f : Addr} {fd : FuncData} (h2 : Fun K "change_sum" "change_sum" (topS 11) f fd) : FnOk P w K mg base CX0 1 f fd ["one", "other"] (spD K [0, 0] none F_change_sum) :=
  fun_ok (lv := [0, 0, 0, 0]) h2 sc_change_sum rfl rfl fun cdv A outer s H H0 vs E M Z hr =>
    (dss_one (ds_ret (de_callTy call_tuple_of c_tuple T.b_tuple (by decide +kernel) (das_cons (de_f (df_lc (own := [("mine", 2), ("yours", 3)]) rfl sc_change_sum.nd (di_zip T.b_zip (das_cons (de_var 0) (das_cons (de_var 1) das_nil (hq := hF)) (hq := hF))) (blkOk_by (own := [("mine", 2), ("yours", 3)]) (N := ["one", "other", "mine", "yours"]) (sc := defScope (topS 11)) (by decide +kernel)) (fun _ _ _ _ _ => (dg_tup rfl (dgs_cons (dg_name 2 sc_change_sum.nd) (dgs_cons (dg_name 3 sc_change_sum.nd) dgs_nil)))) (fun _ _ _ _ _ => dts_nil) (fun _ _ _ _ _ => (e_add (de_var 2) (de_var 3) hF)))) das_nil (hq := hF)))))
theorem d_change_sum (T : Top K mg) : DFn P w K mg base 1 "change_sum" [0, 0] none F_change_sum := by
  obtain ⟨f, fd, h1, h2, h3⟩ := T.f_change_sum
  exact ⟨f, fd, ["one", "other"], h1, h2.kp, .all h3, ok_change_sum T h2⟩
noncomputable def F_change_times : Fn := mkF 3 [0, 0] none
  ((sRet (dCallB gTupOf (dCons (dComp (dSeqI (dVar 0)) [2] (gtName 2) dYes (dOp gMul (dVar 2) (dVar 1))) dNil))))
theorem sc_change_times : FnScope ["change", "many", "number"] ["change", "many"] (defScope (topS 12)) := ⟨rfl, rfl, rfl, by decide +kernel, rfl, by decide +kernel, by decide +kernel⟩
theorem ok_change_times (T : Top K mg) {f : Addr} {fd : FuncData} (h2 : Fun K "change_times" "change_times" (topS 12) f fd) : FnOk P w K mg base CX0 1 f fd ["change", "many"] (spD K [0, 0] none F_change_times) :=
  fun_ok (lv := [0, 0, 0]) h2 sc_change_times rfl rfl fun cdv A outer s H H0 vs E M Z hr =>
    (dss_one (ds_ret (de_callTy call_tuple_of c_tuple T.b_tuple (by decide +kernel) (das_cons (de_f (df_lc (own := [("number", 2)]) rfl sc_change_times.nd (di_seq (de_var 0)) (blkOk_by (own := [("number", 2)]) (N := ["change", "many", "number"]) (sc := defScope (topS 12)) (by decide +kernel)) (fun _ _ _ _ _ => (dg_name 2 sc_change_times.nd)) (fun _ _ _ _ _ => dts_nil) (fun _ _ _ _ _ => (e_mul (de_var 2) (de_var 1) hF)))) das_nil (hq := hF)))))
theorem d_change_times (T : Top K mg) : DFn P w K mg base 1 "change_times" [0, 0] none F_change_times := by
  obtain ⟨f, fd, h1, h2, h3⟩ := T.f_change_times
  exact ⟨f, fd, ["change", "many"], h1, h2.kp, .all h3, ok_change_times T h2⟩
noncomputable def F_is_overdrawn : Fn := mkF 2 [0] none
  ((sRet (dCallB gAny (dCons (dComp (dSeqI (dVar 0)) [1] (gtName 1) dYes (dOp gLt (dVar 1) (dConst (.int 0)))) dNil))))
theorem sc_is_overdrawn : FnScope ["amounts", "amount"] ["amounts"] (defScope (topS 13)) := ⟨rfl, rfl, rfl, by decide +kernel, rfl, by decide +kernel, by decide +kernel⟩
theorem ok_is_overdrawn (T : Top K mg) {f : Addr} {fd : FuncData} (h2 : Fun K "is_overdrawn" "is_overdrawn" (topS 13) f fd) : FnOk P w K mg base CX0 1 f fd ["amounts"] (spD K [0] none F_is_overdrawn) :=
  fun_ok (lv := [0, 0]) h2 sc_is_overdrawn rfl rfl fun cdv A outer s H H0 vs E M Z hr =>
    (dss_one (ds_ret (de_callB (cr_any rfl) c_any T.b_any (by decide +kernel) (das_cons (de_f (df_lc (own := [("amount", 1)]) rfl sc_is_overdrawn.nd (di_seq (de_var 0)) (blkOk_by (own := [("amount", 1)]) (N := ["amounts", "amount"]) (sc := defScope (topS 13)) (by decide +kernel)) (fun _ _ _ _ _ => (dg_name 1 sc_is_overdrawn.nd)) (fun _ _ _ _ _ => dts_nil) (fun _ _ _ _ _ => (e_lt (de_var 1) de_int hF hr)))) das_nil (hq := hF)))))
theorem d_is_overdrawn (T : Top K mg) : DFn P w K mg base 1 "is_overdrawn" [0] none F_is_overdrawn := by
  obtain ⟨f, fd, h1, h2, h3⟩ := T.f_is_overdrawn
  exact ⟨f, fd, ["amounts"], h1, h2.kp, .all h3, ok_is_overdrawn T h2⟩
noncomputable def F__law_tape : Fn := mkF 7 [0] (some 0)
  ((sSeq (sSet 1 (dLst dNil))
  (sSeq (sSet 2 (dConst (.int 33409)))
  (sSeq (sFor (dSeqI (dSl gCutL (dVar 0) dNoPart (dPart (dConst (.int 63))))) (gtName 3)
  (sSeq (sSet 4 (dOp gMod (dCallB gAbs (dCons (dCallB gIntOf (dCons (dVar 3) dNil)) dNil)) (dOp gShl (dConst (.int 1)) (dConst (.int 2000)))))
  (sSeq (sSet 2 (dOp gMod (dCallB gIntOf (dCons (dOp gAdd (dOp gAdd (dOp gMul (dVar 2) (dConst (.int 48271))) (dOp gMod (dVar 4) (dConst (.int 2147483489)))) (dConst (.int 57))) dNil)) (dConst (.int 2147483563))))
  (sIf (dBool (dOp gGe (dVar 4) (dOp gPow (dConst (.int 10)) (dConst (.int 18)))))
  (sFor (dRng1 (dConst (.int 60))) (gtName 5)
  (sSeq (sIf (dBool (dOp gEq (dVar 4) (dConst (.int 0))))
  sBreak
  sNil)
  (sSeq (sApp 1 (dCallB gIntOf (dCons (dOp gMod (dVar 4) (dConst (.int 5040))) dNil)))
  (sSet 4 (dOp gFdiv (dVar 4) (dConst (.int 5040)))))))
  (sSeq (sSet 6 (dOp gMod (dCallB gIntOf (dCons (dOp gAdd (dOp gMul (dVar 2) (dConst (.int 39373))) (dConst (.int 1193))) dNil)) (dConst (.int 2147483587))))
  (sSeq (sApp 1 (dCallB gIntOf (dCons (dOp gFdiv (dVar 6) (dConst (.int 43))) dNil)))
  (sApp 1 (dCallB gIntOf (dCons (dOp gFdiv (dOp gMod (dCallB gIntOf (dCons (dOp gAdd (dOp gMul (dVar 6) (dConst (.int 48271))) (dConst (.int 11))) dNil)) (dConst (.int 2147483563))) (dConst (.int 59))) dNil)))))))))
  (sRet (dLst (dCons (dTake 1) (dCons (dConst (.int 0)) (dCons (dVar 2) dNil)))))))))
theorem sc__law_tape : FnScope ["script", "numbers", "mixed", "cell", "size", "turn", "turned"] ["script"] (defScope (topS 15)) := ⟨rfl, rfl, rfl, by decide +kernel, rfl, by decide +kernel, by decide +kernel⟩
theorem ok__law_tape (T : Top K mg) {f : Addr} {fd : FuncData} (h2 : Fun K "_law_tape" "_law_tape" (topS 15) f fd) : FnOk P w K mg base CX0 1 f fd ["script"] (spD K [0] (some 0) F__law_tape) :=
  fun_ok (lv := [0, 1, 0, 0, 0, 0, 0]) h2 sc__law_tape rfl rfl fun cdv A outer s H H0 vs E M Z hr =>
    (dss_cons (ds_new 1 sc__law_tape.nd (df_lst das_nil))
    (dss_cons (ds_set 2 sc__law_tape.nd de_int)
    (dss_cons (ds_for PassesOwn.never rfl (di_seq (de_f (df_sl (de_var 0) do_none (do_some (b := false) de_int)))) (dg_name 3 sc__law_tape.nd)
    (dss_cons (ds_set 4 sc__law_tape.nd (e_mod (de_callB call_abs c_abs T.b_abs (by decide +kernel) (das_cons (de_callTy call_int1 c_int T.b_int (by decide +kernel) (das_cons (de_var 3) das_nil (hq := hF))) das_nil (hq := hF))) (e_shl de_int de_int hF) hF))
    (dss_cons (ds_set 2 sc__law_tape.nd (e_mod (de_callTy call_int1 c_int T.b_int (by decide +kernel) (das_cons (e_add (e_add (e_mul (de_var 2) de_int hF) (e_mod (de_var 4) de_int hF) hF) de_int hF) das_nil (hq := hF))) de_int hF))
    (dss_one (ds_if (t_ge (de_var 4) (e_pow de_int de_int hF) hF)
    (dss_one (ds_for PassesOwn.never rfl (di_rng1 T.b_range de_int) (dg_name 5 sc__law_tape.nd)
    (dss_cons (ds_if (t_eq (de_var 4) de_int hF hr)
    (dss_one ds_break)
    dss_nil)
    (dss_cons (ds_app 1 (de_callTy call_int1 c_int T.b_int (by decide +kernel) (das_cons (e_mod (de_var 4) de_int hF) das_nil (hq := hF))))
    (dss_one (ds_set 4 sc__law_tape.nd (e_fdiv (de_var 4) de_int hF)))))))
    (dss_cons (ds_set 6 sc__law_tape.nd (e_mod (de_callTy call_int1 c_int T.b_int (by decide +kernel) (das_cons (e_add (e_mul (de_var 2) de_int hF) de_int hF) das_nil (hq := hF))) de_int hF))
    (dss_cons (ds_app 1 (de_callTy call_int1 c_int T.b_int (by decide +kernel) (das_cons (e_fdiv (de_var 6) de_int hF) das_nil (hq := hF))))
    (dss_one (ds_app 1 (de_callTy call_int1 c_int T.b_int (by decide +kernel) (das_cons (e_fdiv (e_mod (de_callTy call_int1 c_int T.b_int (by decide +kernel) (das_cons (e_add (e_mul (de_var 6) de_int hF) de_int hF) das_nil (hq := hF))) de_int hF) de_int hF) das_nil (hq := hF))))))))))))
    (dss_one (ds_retF (df_lst (das_cons (de_take 1) (das_cons de_int (das_cons (de_var 2) das_nil (hq := hF)) (hq := hF)) (hq := hF))))))))
theorem d__law_tape (T : Top K mg) : DFn P w K mg base 1 "_law_tape" [0] (some 0) F__law_tape := by
  obtain ⟨f, fd, h1, h2, h3⟩ := T.f__law_tape
  exact ⟨f, fd, ["script"], h1, h2.kp, .all h3, ok__law_tape T h2⟩
noncomputable def F__law_pick : Fn := mkF 2 [1, 0] none
  ((sSeq (sPut 0 (dOp gAdd (dCalm (dOp gIx (dVar 0) (dConst (.int 1)))) (dConst (.int 1))) (dConst (.int 1)))
  (sSeq (sIf (dBool (dOp gLe (dOp gIx (dVar 0) (dConst (.int 1))) (dCallB gLen (dCons (dOp gIx (dVar 0) (dConst (.int 0))) dNil))))
  (sRet (dCallB gIntOf (dCons (dOp gMod (dCalm (dOp gIx (dOp gIx (dVar 0) (dConst (.int 0))) (dOp gSub (dCalm (dOp gIx (dVar 0) (dConst (.int 1)))) (dConst (.int 1))))) (dVar 1)) dNil)))
  sNil)
  (sSeq (sPut 0 (dOp gMod (dCallB gIntOf (dCons (dOp gAdd (dOp gMul (dCalm (dOp gIx (dVar 0) (dConst (.int 2)))) (dConst (.int 39373))) (dConst (.int 1193))) dNil)) (dConst (.int 2147483587))) (dConst (.int 2)))
  (sRet (dCallB gIntOf (dCons (dOp gMod (dOp gFdiv (dCalm (dOp gIx (dVar 0) (dConst (.int 2)))) (dConst (.int 61))) (dVar 1)) dNil)))))))
theorem sc__law_pick : FnScope ["tape", "many"] ["tape", "many"] (defScope (topS 16)) := ⟨rfl, rfl, rfl, by decide +kernel, rfl, by decide +kernel, by decide +kernel⟩
theorem ok__law_pick (T : Top K mg) {f : Addr} {fd : FuncData} (h2 : Fun K "_law_pick" "_law_pick" (topS 16) f fd) : FnOk P w K mg base CX0 1 f fd ["tape", "many"] (spD K [1, 0] none F__law_pick) :=
  fun_ok (lv := [1, 0]) h2 sc__law_pick rfl rfl fun cdv A outer s H H0 vs E M Z hr =>
    (dss_cons (ds_put 0 (e_add (de_q (de_calm (e_ix (de_bor 0) (de_b de_int) hT))) de_int hF) de_int)
    (dss_cons (ds_if (dt_q (t_le (e_ix (de_bor 0) (de_b de_int) hT) (de_callB call_len c_len T.b_len (by decide +kernel) (das_cons (e_ix (de_bor 0) (de_b de_int) hT) das_nil (hq := hT))) hT))
    (dss_one (ds_ret (de_callTy call_int1 c_int T.b_int (by decide +kernel) (das_cons (e_mod (de_q (de_calm (e_ix (e_ix (de_bor 0) (de_b de_int) hT) (de_b (e_sub (de_calm (e_ix (de_bor 0) (de_b de_int) hT)) de_int hF)) hT))) (de_var 1) hF) das_nil (hq := hF)))))
    dss_nil)
    (dss_cons (ds_put 0 (e_mod (de_callTy call_int1 c_int T.b_int (by decide +kernel) (das_cons (e_add (e_mul (de_q (de_calm (e_ix (de_bor 0) (de_b de_int) hT))) de_int hF) de_int hF) das_nil (hq := hF))) de_int hF) de_int)
    (dss_one (ds_ret (de_callTy call_int1 c_int T.b_int (by decide +kernel) (das_cons (e_mod (e_fdiv (de_q (de_calm (e_ix (de_bor 0) (de_b de_int) hT))) de_int hF) (de_var 1) hF) das_nil (hq := hF))))))))
theorem d__law_pick (T : Top K mg) : DFn P w K mg base 1 "_law_pick" [1, 0] none F__law_pick := by
  obtain ⟨f, fd, h1, h2, h3⟩ := T.f__law_pick
  exact ⟨f, fd, ["tape", "many"], h1, h2.kp, .all h3, ok__law_pick T h2⟩
noncomputable def F__law_same : Fn := mkF 6 [0, 0] none
  ((sSeq (sSet 2 (dLst (dCons (dTup (dCons (dVar 0) (dCons (dVar 1) dNil))) dNil)))
  (sSeq (sWhile (dBool (dOp gGt (dCalm (dCallB gLen (dCons (dVar 2) dNil))) (dConst (.int 0))))
  (sSeq (sAsg (dPop 2) (gtTup 2 (gtCons (gtName 3) (gtCons (gtName 4) gtNil))))
  (sIf (dBool (dOp gIsN (dVar 4) (dConst .non)))
  (sIf (dBool (dOp gNotN (dVar 3) (dConst .non)))
  (sRet (dConst (.bl false)))
  sNil)
  (sIf (dTru (dCallB gIsi (dCons (dVar 4) (dCons (dConst (.ty "bool")) dNil))))
  (sIf (dOr (dNot (dTru (dCallB gIsi (dCons (dVar 3) (dCons (dConst (.ty "bool")) dNil))))) (dBool (dOp gNe (dVar 3) (dVar 4))))
  (sRet (dConst (.bl false)))
  sNil)
  (sIf (dTru (dCallB gIsi (dCons (dVar 4) (dCons (dConst (.ty "int")) dNil))))
  (sIf (dOr (dNot (dTru (dCallB gIsi (dCons (dVar 3) (dCons (dConst (.ty "int")) dNil))))) (dOr (dTru (dCallB gIsi (dCons (dVar 3) (dCons (dConst (.ty "bool")) dNil)))) (dBool (dOp gNe (dVar 3) (dVar 4)))))
  (sRet (dConst (.bl false)))
  sNil)
  (sIf (dTru (dCallB gIsi (dCons (dVar 4) (dCons (dConst (.ty "str")) dNil))))
  (sIf (dOr (dNot (dTru (dCallB gIsi (dCons (dVar 3) (dCons (dConst (.ty "str")) dNil))))) (dBool (dOp gNe (dVar 3) (dVar 4))))
  (sRet (dConst (.bl false)))
  sNil)
  (sSeq (sIf (dOr (dAnd (dTru (dCallB gIsi (dCons (dVar 4) (dCons (dConst (.ty "tuple")) dNil)))) (dNot (dTru (dCallB gIsi (dCons (dVar 3) (dCons (dConst (.ty "tuple")) dNil)))))) (dAnd (dTru (dCallB gIsi (dCons (dVar 4) (dCons (dConst (.ty "list")) dNil)))) (dNot (dTru (dCallB gIsi (dCons (dVar 3) (dCons (dConst (.ty "list")) dNil)))))))
  (sRet (dConst (.bl false)))
  sNil)
  (sSeq (sIf (dBool (dOp gNe (dCallB gLen (dCons (dVar 3) dNil)) (dCallB gLen (dCons (dVar 4) dNil))))
  (sRet (dConst (.bl false)))
  sNil)
  (sExt 2 (dComp (dRng1 (dCallB gLen (dCons (dVar 4) dNil))) [5] (gtName 5) dYes (dTup (dCons (dOp gIx (dVar 3) (dVar 5)) (dCons (dOp gIx (dVar 4) (dVar 5)) dNil)))))))))))))
  (sRet (dConst (.bl true))))))
theorem sc__law_same : FnScope ["told", "due", "line", "one", "other", "k"] ["told", "due"] (defScope (topS 17)) := ⟨rfl, rfl, rfl, by decide +kernel, rfl, by decide +kernel, by decide +kernel⟩
theorem ok__law_same (T : Top K mg) {f : Addr} {fd : FuncData} (h2 : Fun K "_law_same" "_law_same" (topS 17) f fd) : FnOk P w K mg base CX0 1 f fd ["told", "due"] (spD K [0, 0] none F__law_same) :=
  fun_ok (lv := [0, 0, 1, 0, 0, 0]) h2 sc__law_same rfl rfl fun cdv A outer s H H0 vs E M Z hr =>
    (dss_cons (ds_new 2 sc__law_same.nd (df_lst (das_cons (de_tup (das_cons (de_var 0) (das_cons (de_var 1) das_nil (hq := hF)) (hq := hF))) das_nil (hq := hF))))
    (dss_cons (ds_while PassesOwn.never (t_gt (de_q (de_calm (de_callB call_len c_len T.b_len (by decide +kernel) (das_cons (de_bor 2) das_nil (hq := hT))))) de_int hF hr)
    (dss_cons (ds_asg (de_pop 2) (dg_tup rfl (dgs_cons (dg_name 3 sc__law_same.nd) (dgs_cons (dg_name 4 sc__law_same.nd) dgs_nil))))
    (dss_one (ds_if (t_is (de_var 4) de_non hF)
    (dss_one (ds_if (t_isnot (de_var 3) de_non hF)
    (dss_one (ds_ret de_bl))
    dss_nil))
    (dss_one (ds_if (dt_tru (b := false) (de_callB c_isi_o c_isi T.b_isinstance (by decide +kernel) (das_cons (de_var 4) (das_cons (de_tyn T.b_bool (by decide +kernel)) das_nil (hq := hF)) (hq := hF))))
    (dss_one (ds_if (dw_dt (dw_or (dt_not (dt_tru (b := false) (de_callB c_isi_o c_isi T.b_isinstance (by decide +kernel) (das_cons (de_var 3) (das_cons (de_tyn T.b_bool (by decide +kernel)) das_nil (hq := hF)) (hq := hF))))) (dw_or1 (t_ne (de_var 3) (de_var 4) hF hr))))
    (dss_one (ds_ret de_bl))
    dss_nil))
    (dss_one (ds_if (dt_tru (b := false) (de_callB c_isi_o c_isi T.b_isinstance (by decide +kernel) (das_cons (de_var 4) (das_cons (de_tyn T.b_int (by decide +kernel)) das_nil (hq := hF)) (hq := hF))))
    (dss_one (ds_if (dw_dt (dw_or (dt_not (dt_tru (b := false) (de_callB c_isi_o c_isi T.b_isinstance (by decide +kernel) (das_cons (de_var 3) (das_cons (de_tyn T.b_int (by decide +kernel)) das_nil (hq := hF)) (hq := hF))))) (dw_or (dt_tru (b := false) (de_callB c_isi_o c_isi T.b_isinstance (by decide +kernel) (das_cons (de_var 3) (das_cons (de_tyn T.b_bool (by decide +kernel)) das_nil (hq := hF)) (hq := hF)))) (dw_or1 (t_ne (de_var 3) (de_var 4) hF hr)))))
    (dss_one (ds_ret de_bl))
    dss_nil))
    (dss_one (ds_if (dt_tru (b := false) (de_callB c_isi_o c_isi T.b_isinstance (by decide +kernel) (das_cons (de_var 4) (das_cons (de_tyn T.b_str (by decide +kernel)) das_nil (hq := hF)) (hq := hF))))
    (dss_one (ds_if (dw_dt (dw_or (dt_not (dt_tru (b := false) (de_callB c_isi_o c_isi T.b_isinstance (by decide +kernel) (das_cons (de_var 3) (das_cons (de_tyn T.b_str (by decide +kernel)) das_nil (hq := hF)) (hq := hF))))) (dw_or1 (t_ne (de_var 3) (de_var 4) hF hr))))
    (dss_one (ds_ret de_bl))
    dss_nil))
    (dss_cons (ds_if (dw_dt (dw_or (dw_dt (dw_and (dt_tru (b := false) (de_callB c_isi_o c_isi T.b_isinstance (by decide +kernel) (das_cons (de_var 4) (das_cons (de_tyn T.b_tuple (by decide +kernel)) das_nil (hq := hF)) (hq := hF)))) (dw_and1 (dt_not (dt_tru (b := false) (de_callB c_isi_o c_isi T.b_isinstance (by decide +kernel) (das_cons (de_var 3) (das_cons (de_tyn T.b_tuple (by decide +kernel)) das_nil (hq := hF)) (hq := hF)))))))) (dw_or1 (dw_dt (dw_and (dt_tru (b := false) (de_callB c_isi_o c_isi T.b_isinstance (by decide +kernel) (das_cons (de_var 4) (das_cons (de_tyn T.b_list (by decide +kernel)) das_nil (hq := hF)) (hq := hF)))) (dw_and1 (dt_not (dt_tru (b := false) (de_callB c_isi_o c_isi T.b_isinstance (by decide +kernel) (das_cons (de_var 3) (das_cons (de_tyn T.b_list (by decide +kernel)) das_nil (hq := hF)) (hq := hF)))))))))))
    (dss_one (ds_ret de_bl))
    dss_nil)
    (dss_cons (ds_if (t_ne (de_callB call_len c_len T.b_len (by decide +kernel) (das_cons (de_var 3) das_nil (hq := hF))) (de_callB call_len c_len T.b_len (by decide +kernel) (das_cons (de_var 4) das_nil (hq := hF))) hF hr)
    (dss_one (ds_ret de_bl))
    dss_nil)
    (dss_one (ds_ext 2 (df_lc (own := [("k", 5)]) rfl sc__law_same.nd (di_rng1 T.b_range (de_callB call_len c_len T.b_len (by decide +kernel) (das_cons (de_var 4) das_nil (hq := hF)))) (blkOk_by (own := [("k", 5)]) (N := ["told", "due", "line", "one", "other", "k"]) (sc := defScope (topS 17)) (by decide +kernel)) (fun _ _ _ _ _ => (dg_name 5 sc__law_same.nd)) (fun _ _ _ _ _ => dts_nil) (fun _ _ _ _ _ => (de_tup (das_cons (e_ix (de_var 3) (de_var 5) hF) (das_cons (e_ix (de_var 4) (de_var 5) hF) das_nil (hq := hF)) (hq := hF)))))))))))))))))))
    (dss_one (ds_ret de_bl))))
theorem d__law_same (T : Top K mg) : DFn P w K mg base 1 "_law_same" [0, 0] none F__law_same := by
  obtain ⟨f, fd, h1, h2, h3⟩ := T.f__law_same
  exact ⟨f, fd, ["told", "due"], h1, h2.kp, .all h3, ok__law_same T h2⟩
noncomputable def F__law_order : Fn := mkF 6 [1, 0] none
  ((sSeq (sSet 2 (dLstRg (dVar 1)))
  (sSeq (sFor (dRngD (dCons (dOp gSub (dVar 1) (dConst (.int 1))) (dCons (dConst (.int 0)) (dCons (dUn gNeg (dConst (.int 1))) dNil)))) (gtName 3)
  (sSeq (sSet 4 (dCall [.io 0, .s] F__law_pick (aIO 0 (aS (dOp gAdd (dVar 3) (dConst (.int 1))) aNil))))
  (sSeq (sSet 5 (dCalm (dOp gIx (dVar 2) (dVar 3))))
  (sSeq (sPut 2 (dCalm (dOp gIx (dVar 2) (dVar 4))) (dVar 3))
  (sPut 2 (dVar 5) (dVar 4))))))
  (sRet (dTake 2)))))
theorem sc__law_order : FnScope ["tape", "many", "row", "k", "at", "kept"] ["tape", "many"] (defScope (topS 18)) := ⟨rfl, rfl, rfl, by decide +kernel, rfl, by decide +kernel, by decide +kernel⟩
theorem ok__law_order (T : Top K mg) {f : Addr} {fd : FuncData} (h2 : Fun K "_law_order" "_law_order" (topS 18) f fd) : FnOk P w K mg base CX0 2 f fd ["tape", "many"] (spD K [1, 0] none F__law_order) :=
  fun_ok (lv := [1, 0, 1, 0, 0, 0]) h2 sc__law_order rfl rfl fun cdv A outer s H H0 vs E M Z hr =>
    (dss_cons (ds_new 2 sc__law_order.nd (df_lstRg rfl T.b_list T.b_range (de_var 1)))
    (dss_cons (ds_for PassesOwn.never rfl (di_rngD T.b_range (das_cons (e_sub (de_var 1) de_int hF) (das_cons de_int (das_cons (e_neg de_int) das_nil (hq := hF)) (hq := hF)) (hq := hF))) (dg_name 3 sc__law_order.nd)
    (dss_cons (ds_set 4 sc__law_order.nd (de_call (d__law_pick T) hr (by decide) (da_io 0 (da_s (e_add (de_var 3) de_int hF) da_nil))))
    (dss_cons (ds_set 5 sc__law_order.nd (de_q (de_calm (e_ix (de_bor 2) (de_b (de_var 3)) hT))))
    (dss_cons (ds_put 2 (de_q (de_calm (e_ix (de_bor 2) (de_b (de_var 4)) hT))) (de_var 3))
    (dss_one (ds_put 2 (de_var 5) (de_var 4)))))))
    (dss_one (ds_ret (de_take 2)))))
theorem d__law_order (T : Top K mg) : DFn P w K mg base 2 "_law_order" [1, 0] none F__law_order := by
  obtain ⟨f, fd, h1, h2, h3⟩ := T.f__law_order
  exact ⟨f, fd, ["tape", "many"], h1, h2.kp, .all h3, ok__law_order T h2⟩
noncomputable def F__law_number : Fn := mkF 2 [1, 0] none
  ((sSeq (sIf (dBool (dOp gEq (dVar 1) (dConst (.int 0))))
  (sRet (dOp gSub (dCall [.io 0, .s] F__law_pick (aIO 0 (aS (dConst (.int 7)) aNil))) (dConst (.int 3))))
  sNil)
  (sSeq (sIf (dBool (dOp gEq (dVar 1) (dConst (.int 1))))
  (sRet (dOp gMul (dOp gAdd (dOp gPow (dConst (.int 10)) (dConst (.int 59))) (dCall [.io 0, .s] F__law_pick (aIO 0 (aS (dConst (.int 9)) aNil)))) (dOp gSub (dConst (.int 1)) (dOp gMul (dConst (.int 2)) (dCall [.io 0, .s] F__law_pick (aIO 0 (aS (dConst (.int 2)) aNil)))))))
  sNil)
  (sRet (dOp gIx (dTup (dCons (dConst (.int 0)) (dCons (dConst (.int 1)) (dCons (dUn gNeg (dConst (.int 1))) (dCons (dOp gPow (dConst (.int 10)) (dConst (.int 6))) (dCons (dUn gNeg (dOp gPow (dConst (.int 10)) (dConst (.int 6)))) (dCons (dOp gSub (dCall [.io 0, .s] F__law_pick (aIO 0 (aS (dConst (.int 2001)) aNil))) (dConst (.int 1000))) dNil))))))) (dCall [.io 0, .s] F__law_pick (aIO 0 (aS (dConst (.int 6)) aNil))))))))
theorem sc__law_number : FnScope ["tape", "habit"] ["tape", "habit"] (defScope (topS 19)) := ⟨rfl, rfl, rfl, by decide +kernel, rfl, by decide +kernel, by decide +kernel⟩
theorem ok__law_number (T : Top K mg) {f : Addr} {fd : FuncData} (h2 : Fun K "_law_number" "_law_number" (topS 19) f fd) : FnOk P w K mg base CX0 2 f fd ["tape", "habit"] (spD K [1, 0] none F__law_number) :=
  fun_ok (lv := [1, 0]) h2 sc__law_number rfl rfl fun cdv A outer s H H0 vs E M Z hr =>
    (dss_cons (ds_if (t_eq (de_var 1) de_int hF hr)
    (dss_one (ds_ret (e_sub (de_call (d__law_pick T) hr (by decide) (da_io 0 (da_s de_int da_nil))) de_int hF)))
    dss_nil)
    (dss_cons (ds_if (t_eq (de_var 1) de_int hF hr)
    (dss_one (ds_ret (e_mul (e_add (e_pow de_int de_int hF) (de_call (d__law_pick T) hr (by decide) (da_io 0 (da_s de_int da_nil))) hF) (e_sub de_int (e_mul de_int (de_call (d__law_pick T) hr (by decide) (da_io 0 (da_s de_int da_nil))) hF) hF) hF)))
    dss_nil)
    (dss_one (ds_ret (e_ix (de_tup (das_cons de_int (das_cons de_int (das_cons (e_neg de_int) (das_cons (e_pow de_int de_int hF) (das_cons (e_neg (e_pow de_int de_int hF)) (das_cons (e_sub (de_call (d__law_pick T) hr (by decide) (da_io 0 (da_s de_int da_nil))) de_int hF) das_nil (hq := hF)) (hq := hF)) (hq := hF)) (hq := hF)) (hq := hF)) (hq := hF))) (de_call (d__law_pick T) hr (by decide) (da_io 0 (da_s de_int da_nil))) hF)))))
theorem d__law_number (T : Top K mg) : DFn P w K mg base 2 "_law_number" [1, 0] none F__law_number := by
  obtain ⟨f, fd, h1, h2, h3⟩ := T.f__law_number
  exact ⟨f, fd, ["tape", "habit"], h1, h2.kp, .all h3, ok__law_number T h2⟩
noncomputable def F__law_low : Fn := mkF 2 [1] none
  ((sSeq (sSet 1 (dCall [.io 0, .s] F__law_pick (aIO 0 (aS (dConst (.int 6)) aNil))))
  (sRet (dIf (dBool (dOp gEq (dVar 1) (dConst (.int 0)))) (dConst (.str "deep")) (dIf (dBool (dOp gEq (dVar 1) (dConst (.int 1)))) (dConst (.str "never")) (dCall [.io 0, .s] F__law_number (aIO 0 (aS (dCall [.io 0, .s] F__law_pick (aIO 0 (aS (dConst (.int 3)) aNil))) aNil))))))))
theorem sc__law_low : FnScope ["tape", "way"] ["tape"] (defScope (topS 20)) := ⟨rfl, rfl, rfl, by decide +kernel, rfl, by decide +kernel, by decide +kernel⟩
theorem ok__law_low (T : Top K mg) {f : Addr} {fd : FuncData} (h2 : Fun K "_law_low" "_law_low" (topS 20) f fd) : FnOk P w K mg base CX0 3 f fd ["tape"] (spD K [1] none F__law_low) :=
  fun_ok (lv := [1, 0]) h2 sc__law_low rfl rfl fun cdv A outer s H H0 vs E M Z hr =>
    (dss_cons (ds_set 1 sc__law_low.nd (de_call (d__law_pick T) hr (by decide) (da_io 0 (da_s de_int da_nil))))
    (dss_one (ds_ret (de_if (t_eq (de_var 1) de_int hF hr) de_str (de_if (t_eq (de_var 1) de_int hF hr) de_str (de_call (d__law_number T) hr (by decide) (da_io 0 (da_s (de_call (d__law_pick T) hr (by decide) (da_io 0 (da_s de_int da_nil))) da_nil))))))))
theorem d__law_low (T : Top K mg) : DFn P w K mg base 3 "_law_low" [1] none F__law_low := by
  obtain ⟨f, fd, h1, h2, h3⟩ := T.f__law_low
  exact ⟨f, fd, ["tape"], h1, h2.kp, .all h3, ok__law_low T h2⟩
noncomputable def F__law_need : Fn := mkF 1 [1] none
  ((sRet (dIf (dBool (dOp gEq (dCall [.io 0, .s] F__law_pick (aIO 0 (aS (dConst (.int 4)) aNil))) (dConst (.int 0)))) (dConst (.str "deep")) (dCallB gAbs (dCons (dCall [.io 0, .s] F__law_number (aIO 0 (aS (dCall [.io 0, .s] F__law_pick (aIO 0 (aS (dConst (.int 3)) aNil))) aNil))) dNil)))))
theorem sc__law_need : FnScope ["tape"] ["tape"] (defScope (topS 21)) := ⟨rfl, rfl, rfl, by decide +kernel, rfl, by decide +kernel, by decide +kernel⟩
theorem ok__law_need (T : Top K mg) {f : Addr} {fd : FuncData} (h2 : Fun K "_law_need" "_law_need" (topS 21) f fd) : FnOk P w K mg base CX0 3 f fd ["tape"] (spD K [1] none F__law_need) :=
  fun_ok (lv := [1]) h2 sc__law_need rfl rfl fun cdv A outer s H H0 vs E M Z hr =>
    (dss_one (ds_ret (de_if (t_eq (de_call (d__law_pick T) hr (by decide) (da_io 0 (da_s de_int da_nil))) de_int hF hr) de_str (de_callB call_abs c_abs T.b_abs (by decide +kernel) (das_cons (de_call (d__law_number T) hr (by decide) (da_io 0 (da_s (de_call (d__law_pick T) hr (by decide) (da_io 0 (da_s de_int da_nil))) da_nil))) das_nil (hq := hF))))))
theorem d__law_need (T : Top K mg) : DFn P w K mg base 3 "_law_need" [1] none F__law_need := by
  obtain ⟨f, fd, h1, h2, h3⟩ := T.f__law_need
  exact ⟨f, fd, ["tape"], h1, h2.kp, .all h3, ok__law_need T h2⟩
noncomputable def F__law_key : Fn := mkF 1 [0] none
  ((sSeq (sIf (dBool (dOp gEq (dVar 0) (dConst (.str "deep"))))
  (sRet (dTup (dCons (dConst (.int 0)) (dCons (dConst (.int 0)) dNil))))
  sNil)
  (sRet (dIf (dBool (dOp gEq (dVar 0) (dConst (.str "never")))) (dTup (dCons (dConst (.int 2)) (dCons (dConst (.int 0)) dNil))) (dTup (dCons (dConst (.int 1)) (dCons (dVar 0) dNil)))))))
theorem sc__law_key : FnScope ["figure"] ["figure"] (defScope (topS 22)) := ⟨rfl, rfl, rfl, by decide +kernel, rfl, by decide +kernel, by decide +kernel⟩
theorem ok__law_key (T : Top K mg) {f : Addr} {fd : FuncData} (h2 : Fun K "_law_key" "_law_key" (topS 22) f fd) : FnOk P w K mg base CX0 1 f fd ["figure"] (spD K [0] none F__law_key) :=
  fun_ok (lv := [0]) h2 sc__law_key rfl rfl fun cdv A outer s H H0 vs E M Z hr =>
    (dss_cons (ds_if (t_eq (de_var 0) de_str hF hr)
    (dss_one (ds_ret (de_tup (das_cons de_int (das_cons de_int das_nil (hq := hF)) (hq := hF)))))
    dss_nil)
    (dss_one (ds_ret (de_if (t_eq (de_var 0) de_str hF hr) (de_tup (das_cons de_int (das_cons de_int das_nil (hq := hF)) (hq := hF))) (de_tup (das_cons de_int (das_cons (de_var 0) das_nil (hq := hF)) (hq := hF)))))))
theorem d__law_key (T : Top K mg) : DFn P w K mg base 1 "_law_key" [0] none F__law_key := by
  obtain ⟨f, fd, h1, h2, h3⟩ := T.f__law_key
  exact ⟨f, fd, ["figure"], h1, h2.kp, .all h3, ok__law_key T h2⟩
noncomputable def F__law_need_key : Fn := mkF 1 [0] none
  ((sRet (dIf (dBool (dOp gEq (dVar 0) (dConst (.str "deep")))) (dTup (dCons (dConst (.int 1)) (dCons (dConst (.int 0)) dNil))) (dTup (dCons (dConst (.int 0)) (dCons (dVar 0) dNil))))))
theorem sc__law_need_key : FnScope ["figure"] ["figure"] (defScope (topS 23)) := ⟨rfl, rfl, rfl, by decide +kernel, rfl, by decide +kernel, by decide +kernel⟩
theorem ok__law_need_key (T : Top K mg) {f : Addr} {fd : FuncData} (h2 : Fun K "_law_need_key" "_law_need_key" (topS 23) f fd) : FnOk P w K mg base CX0 1 f fd ["figure"] (spD K [0] none F__law_need_key) :=
  fun_ok (lv := [0]) h2 sc__law_need_key rfl rfl fun cdv A outer s H H0 vs E M Z hr =>
    (dss_one (ds_ret (de_if (t_eq (de_var 0) de_str hF hr) (de_tup (das_cons de_int (das_cons de_int das_nil (hq := hF)) (hq := hF))) (de_tup (das_cons de_int (das_cons (de_var 0) das_nil (hq := hF)) (hq := hF))))))
theorem d__law_need_key (T : Top K mg) : DFn P w K mg base 1 "_law_need_key" [0] none F__law_need_key := by
  obtain ⟨f, fd, h1, h2, h3⟩ := T.f__law_need_key
  exact ⟨f, fd, ["figure"], h1, h2.kp, .all h3, ok__law_need_key T h2⟩
noncomputable def F__law_sum : Fn := mkF 2 [0, 0] none
  ((sSeq (sIf (dBool (dOp (gIn false) (dConst (.str "never")) (dTup (dCons (dVar 0) (dCons (dVar 1) dNil)))))
  (sRet (dConst (.str "never")))
  sNil)
  (sRet (dIf (dBool (dOp (gIn false) (dConst (.str "deep")) (dTup (dCons (dVar 0) (dCons (dVar 1) dNil))))) (dConst (.str "deep")) (dOp gAdd (dVar 0) (dVar 1))))))
theorem sc__law_sum : FnScope ["one", "other"] ["one", "other"] (defScope (topS 24)) := ⟨rfl, rfl, rfl, by decide +kernel, rfl, by decide +kernel, by decide +kernel⟩
theorem ok__law_sum (T : Top K mg) {f : Addr} {fd : FuncData} (h2 : Fun K "_law_sum" "_law_sum" (topS 24) f fd) : FnOk P w K mg base CX0 1 f fd ["one", "other"] (spD K [0, 0] none F__law_sum) :=
  fun_ok (lv := [0, 0]) h2 sc__law_sum rfl rfl fun cdv A outer s H H0 vs E M Z hr =>
    (dss_cons (ds_if (t_in de_str (de_tup (das_cons (de_var 0) (das_cons (de_var 1) das_nil (hq := hF)) (hq := hF))) hF rfl)
    (dss_one (ds_ret de_str))
    dss_nil)
    (dss_one (ds_ret (de_if (t_in de_str (de_tup (das_cons (de_var 0) (das_cons (de_var 1) das_nil (hq := hF)) (hq := hF))) hF rfl) de_str (e_add (de_var 0) (de_var 1) hF)))))
theorem d__law_sum (T : Top K mg) : DFn P w K mg base 1 "_law_sum" [0, 0] none F__law_sum := by
  obtain ⟨f, fd, h1, h2, h3⟩ := T.f__law_sum
  exact ⟨f, fd, ["one", "other"], h1, h2.kp, .all h3, ok__law_sum T h2⟩
noncomputable def F__law_changes : Fn := mkF 11 [1] none
  ((sSeq (sSet 1 (dOp gAdd (dConst (.int 1)) (dCall [.io 0, .s] F__law_pick (aIO 0 (aS (dConst (.int 4)) aNil)))))
  (sSeq (sSet 2 (dCall [.io 0, .s] F__law_pick (aIO 0 (aS (dConst (.int 3)) aNil))))
  (sSeq (sSet 3 (dCallB gTupOf (dCons (dComp (dRng1 (dVar 1)) [9] (gtName 9) dYes (dCallB gAbs (dCons (dCall [.io 0, .s] F__law_number (aIO 0 (aS (dVar 2) aNil))) dNil))) dNil)))
  (sSeq (sSet 4 (dCallB gTupOf (dCons (dComp (dRng1 (dVar 1)) [9] (gtName 9) dYes (dCall [.io 0, .s] F__law_number (aIO 0 (aS (dVar 2) aNil)))) dNil)))
  (sSeq (sSet 5 (dCallB gTupOf (dCons (dComp (dRng1 (dVar 1)) [9] (gtName 9) dYes (dCall [.io 0, .s] F__law_number (aIO 0 (aS (dCall [.io 0, .s] F__law_pick (aIO 0 (aS (dConst (.int 3)) aNil))) aNil)))) dNil)))
  (sSeq (sIf (dNot (dTru (dCall [.s, .s] F__law_same (aS (dCall [.s, .s] F_put_change (aS (dVar 3) (aS (dVar 4) aNil))) (aS (dCallB gTupOf (dCons (dComp (dRng1 (dVar 1)) [9] (gtName 9) dYes (dOp gAdd (dOp gIx (dVar 3) (dVar 9)) (dOp gIx (dVar 4) (dVar 9)))) dNil)) aNil)))))
  (sRet (dConst (.bl false)))
  sNil)
  (sSeq (sSet 6 (dCallB gTupOf (dCons (dComp (dRng1 (dVar 1)) [9] (gtName 9) dYes (dOp gAdd (dOp gIx (dVar 4) (dVar 9)) (dOp gIx (dVar 5) (dVar 9)))) dNil)))
  (sSeq (sIf (dNot (dTru (dCall [.s, .s] F__law_same (aS (dTup (dCons (dCall [.s, .s] F_change_sum (aS (dVar 4) (aS (dVar 5) aNil))) (dCons (dCall [.s, .s] F_change_sum (aS (dVar 5) (aS (dVar 4) aNil))) dNil))) (aS (dTup (dCons (dVar 6) (dCons (dVar 6) dNil))) aNil)))))
  (sRet (dConst (.bl false)))
  sNil)
  (sSeq (sSet 7 (dOp gIx (dTup (dCons (dConst (.int 0)) (dCons (dConst (.int 1)) (dCons (dConst (.int 2)) (dCons (dCall [.io 0, .s] F__law_pick (aIO 0 (aS (dConst (.int 1000)) aNil))) (dCons (dOp gPow (dConst (.int 10)) (dConst (.int 20))) dNil)))))) (dCall [.io 0, .s] F__law_pick (aIO 0 (aS (dConst (.int 5)) aNil)))))
  (sSeq (sIf (dNot (dTru (dCall [.s, .s] F__law_same (aS (dCall [.s, .s] F_change_times (aS (dVar 4) (aS (dVar 7) aNil))) (aS (dCallB gTupOf (dCons (dComp (dSeqI (dVar 4)) [10] (gtName 10) dYes (dOp gMul (dVar 7) (dVar 10))) dNil)) aNil)))))
  (sRet (dConst (.bl false)))
  sNil)
  (sSeq (sFor (dSeqI (dTup (dCons (dVar 3) (dCons (dVar 4) (dCons (dVar 5) (dCons (dCall [.s, .s] F_put_change (aS (dVar 3) (aS (dVar 4) aNil))) dNil)))))) (gtName 8)
  (sIf (dNot (dTru (dCall [.s, .s] F__law_same (aS (dCall [.s] F_is_overdrawn (aS (dVar 8) aNil)) (aS (dOp gGt (dCallB gLen (dCons (dComp (dSeqI (dVar 8)) [10] (gtName 10) (dBool (dOp gLt (dVar 10) (dConst (.int 0)))) (dVar 10)) dNil)) (dConst (.int 0))) aNil)))))
  (sRet (dConst (.bl false)))
  sNil))
  (sRet (dConst (.bl true)))))))))))))))
theorem sc__law_changes : FnScope ["tape", "many", "habit", "amounts", "one", "other", "sums", "times", "thing", "k", "number"] ["tape"] (defScope (topS 25)) := ⟨rfl, rfl, rfl, by decide +kernel, rfl, by decide +kernel, by decide +kernel⟩
theorem ok__law_changes (T : Top K mg) {f : Addr} {fd : FuncData} (h2 : Fun K "_law_changes" "_law_changes" (topS 25) f fd) : FnOk P w K mg base CX0 3 f fd ["tape"] (spD K [1] none F__law_changes) :=
  fun_ok (lv := [1, 0, 0, 0, 0, 0, 0, 0, 0, 0, 0]) h2 sc__law_changes rfl rfl fun cdv A outer s H H0 vs E M Z hr =>
    (dss_cons (ds_set 1 sc__law_changes.nd (e_add de_int (de_call (d__law_pick T) hr (by decide) (da_io 0 (da_s de_int da_nil))) hF))
    (dss_cons (ds_set 2 sc__law_changes.nd (de_call (d__law_pick T) hr (by decide) (da_io 0 (da_s de_int da_nil))))
    (dss_cons (ds_set 3 sc__law_changes.nd (de_callTy call_tuple_of c_tuple T.b_tuple (by decide +kernel) (das_cons (de_f (df_lc (own := [("k", 9)]) rfl sc__law_changes.nd (di_rng1 T.b_range (de_var 1)) (blkOk_by (own := [("k", 9)]) (N := ["tape", "many", "habit", "amounts", "one", "other", "sums", "times", "thing", "k", "number"]) (sc := defScope (topS 25)) (by decide +kernel)) (fun _ _ _ _ _ => (dg_name 9 sc__law_changes.nd)) (fun _ _ _ _ _ => dts_nil) (fun _ _ _ _ _ => (de_callB call_abs c_abs T.b_abs (by decide +kernel) (das_cons (de_call (d__law_number T) hr (by decide) (da_io 0 (da_s (de_var 2) da_nil))) das_nil (hq := hF)))))) das_nil (hq := hF))))
    (dss_cons (ds_set 4 sc__law_changes.nd (de_callTy call_tuple_of c_tuple T.b_tuple (by decide +kernel) (das_cons (de_f (df_lc (own := [("k", 9)]) rfl sc__law_changes.nd (di_rng1 T.b_range (de_var 1)) (blkOk_by (own := [("k", 9)]) (N := ["tape", "many", "habit", "amounts", "one", "other", "sums", "times", "thing", "k", "number"]) (sc := defScope (topS 25)) (by decide +kernel)) (fun _ _ _ _ _ => (dg_name 9 sc__law_changes.nd)) (fun _ _ _ _ _ => dts_nil) (fun _ _ _ _ _ => (de_call (d__law_number T) hr (by decide) (da_io 0 (da_s (de_var 2) da_nil)))))) das_nil (hq := hF))))
    (dss_cons (ds_set 5 sc__law_changes.nd (de_callTy call_tuple_of c_tuple T.b_tuple (by decide +kernel) (das_cons (de_f (df_lc (own := [("k", 9)]) rfl sc__law_changes.nd (di_rng1 T.b_range (de_var 1)) (blkOk_by (own := [("k", 9)]) (N := ["tape", "many", "habit", "amounts", "one", "other", "sums", "times", "thing", "k", "number"]) (sc := defScope (topS 25)) (by decide +kernel)) (fun _ _ _ _ _ => (dg_name 9 sc__law_changes.nd)) (fun _ _ _ _ _ => dts_nil) (fun _ _ _ _ _ => (de_call (d__law_number T) hr (by decide) (da_io 0 (da_s (de_call (d__law_pick T) hr (by decide) (da_io 0 (da_s de_int da_nil))) da_nil)))))) das_nil (hq := hF))))
    (dss_cons (ds_if (dt_not (dt_tru (b := false) (de_call (d__law_same T) hr (by decide) (da_s (de_call (d_put_change T) hr (by decide) (da_s (de_var 3) (da_s (de_var 4) da_nil))) (da_s (de_callTy call_tuple_of c_tuple T.b_tuple (by decide +kernel) (das_cons (de_f (df_lc (own := [("k", 9)]) rfl sc__law_changes.nd (di_rng1 T.b_range (de_var 1)) (blkOk_by (own := [("k", 9)]) (N := ["tape", "many", "habit", "amounts", "one", "other", "sums", "times", "thing", "k", "number"]) (sc := defScope (topS 25)) (by decide +kernel)) (fun _ _ _ _ _ => (dg_name 9 sc__law_changes.nd)) (fun _ _ _ _ _ => dts_nil) (fun _ _ _ _ _ => (e_add (e_ix (de_var 3) (de_var 9) hF) (e_ix (de_var 4) (de_var 9) hF) hF)))) das_nil (hq := hF))) da_nil)))))
    (dss_one (ds_ret de_bl))
    dss_nil)
    (dss_cons (ds_set 6 sc__law_changes.nd (de_callTy call_tuple_of c_tuple T.b_tuple (by decide +kernel) (das_cons (de_f (df_lc (own := [("k", 9)]) rfl sc__law_changes.nd (di_rng1 T.b_range (de_var 1)) (blkOk_by (own := [("k", 9)]) (N := ["tape", "many", "habit", "amounts", "one", "other", "sums", "times", "thing", "k", "number"]) (sc := defScope (topS 25)) (by decide +kernel)) (fun _ _ _ _ _ => (dg_name 9 sc__law_changes.nd)) (fun _ _ _ _ _ => dts_nil) (fun _ _ _ _ _ => (e_add (e_ix (de_var 4) (de_var 9) hF) (e_ix (de_var 5) (de_var 9) hF) hF)))) das_nil (hq := hF))))
    (dss_cons (ds_if (dt_not (dt_tru (b := false) (de_call (d__law_same T) hr (by decide) (da_s (de_tup (das_cons (de_call (d_change_sum T) hr (by decide) (da_s (de_var 4) (da_s (de_var 5) da_nil))) (das_cons (de_call (d_change_sum T) hr (by decide) (da_s (de_var 5) (da_s (de_var 4) da_nil))) das_nil (hq := hF)) (hq := hF))) (da_s (de_tup (das_cons (de_var 6) (das_cons (de_var 6) das_nil (hq := hF)) (hq := hF))) da_nil)))))
    (dss_one (ds_ret de_bl))
    dss_nil)
    (dss_cons (ds_set 7 sc__law_changes.nd (e_ix (de_tup (das_cons de_int (das_cons de_int (das_cons de_int (das_cons (de_call (d__law_pick T) hr (by decide) (da_io 0 (da_s de_int da_nil))) (das_cons (e_pow de_int de_int hF) das_nil (hq := hF)) (hq := hF)) (hq := hF)) (hq := hF)) (hq := hF))) (de_call (d__law_pick T) hr (by decide) (da_io 0 (da_s de_int da_nil))) hF))
    (dss_cons (ds_if (dt_not (dt_tru (b := false) (de_call (d__law_same T) hr (by decide) (da_s (de_call (d_change_times T) hr (by decide) (da_s (de_var 4) (da_s (de_var 7) da_nil))) (da_s (de_callTy call_tuple_of c_tuple T.b_tuple (by decide +kernel) (das_cons (de_f (df_lc (own := [("number", 10)]) rfl sc__law_changes.nd (di_seq (de_var 4)) (blkOk_by (own := [("number", 10)]) (N := ["tape", "many", "habit", "amounts", "one", "other", "sums", "times", "thing", "k", "number"]) (sc := defScope (topS 25)) (by decide +kernel)) (fun _ _ _ _ _ => (dg_name 10 sc__law_changes.nd)) (fun _ _ _ _ _ => dts_nil) (fun _ _ _ _ _ => (e_mul (de_var 7) (de_var 10) hF)))) das_nil (hq := hF))) da_nil)))))
    (dss_one (ds_ret de_bl))
    dss_nil)
    (dss_cons (ds_for PassesOwn.never rfl (di_seq (de_tup (das_cons (de_var 3) (das_cons (de_var 4) (das_cons (de_var 5) (das_cons (de_call (d_put_change T) hr (by decide) (da_s (de_var 3) (da_s (de_var 4) da_nil))) das_nil (hq := hF)) (hq := hF)) (hq := hF)) (hq := hF)))) (dg_name 8 sc__law_changes.nd)
    (dss_one (ds_if (dt_not (dt_tru (b := false) (de_call (d__law_same T) hr (by decide) (da_s (de_call (d_is_overdrawn T) hr (by decide) (da_s (de_var 8) da_nil)) (da_s (e_gt (de_callB call_len c_len T.b_len (by decide +kernel) (das_cons (de_f (df_lc (own := [("number", 10)]) rfl sc__law_changes.nd (di_seq (de_var 8)) (blkOk_by (own := [("number", 10)]) (N := ["tape", "many", "habit", "amounts", "one", "other", "sums", "times", "thing", "k", "number"]) (sc := defScope (topS 25)) (by decide +kernel)) (fun _ _ _ _ _ => (dg_name 10 sc__law_changes.nd)) (fun _ _ _ _ _ => (dts_one (t_lt (de_var 10) de_int hF hr))) (fun _ _ _ _ _ => (de_var 10)))) das_nil (hq := hF))) de_int hF hr) da_nil)))))
    (dss_one (ds_ret de_bl))
    dss_nil)))
    (dss_one (ds_ret de_bl)))))))))))))
theorem d__law_changes (T : Top K mg) : DFn P w K mg base 3 "_law_changes" [1] none F__law_changes := by
  obtain ⟨f, fd, h1, h2, h3⟩ := T.f__law_changes
  exact ⟨f, fd, ["tape"], h1, h2.kp, .all h3, ok__law_changes T h2⟩
noncomputable def F__law_lows : Fn := mkF 13 [1] none
  ((sSeq (sPar [1, 2, 3] (dCons (dCall [.io 0] F__law_low (aIO 0 aNil)) (dCons (dCall [.io 0] F__law_low (aIO 0 aNil)) (dCons (dCall [.io 0] F__law_low (aIO 0 aNil)) dNil))))
  (sSeq (sSet 4 (dTup (dCons (dCall [.s, .s] F__law_sum (aS (dVar 1) (aS (dVar 2) aNil))) (dCons (dCall [.s, .s] F__law_sum (aS (dVar 1) (aS (dVar 2) aNil))) (dCons (dOp gLt (dCall [.s] F__law_key (aS (dVar 1) aNil)) (dCall [.s] F__law_key (aS (dVar 2) aNil))) (dCons (dOp gLt (dCall [.s] F__law_key (aS (dVar 2) aNil)) (dCall [.s] F__law_key (aS (dVar 1) aNil))) (dCons (dConst (.bl false)) dNil)))))))
  (sSeq (sIf (dNot (dTru (dCall [.s, .s] F__law_same (aS (dTup (dCons (dCall [.s, .s] F_low_sum (aS (dVar 1) (aS (dVar 2) aNil))) (dCons (dCall [.s, .s] F_low_sum (aS (dVar 2) (aS (dVar 1) aNil))) (dCons (dCall [.s, .s] F_low_less (aS (dVar 1) (aS (dVar 2) aNil))) (dCons (dCall [.s, .s] F_low_less (aS (dVar 2) (aS (dVar 1) aNil))) (dCons (dCall [.s, .s] F_low_less (aS (dVar 3) (aS (dVar 3) aNil))) dNil)))))) (aS (dVar 4) aNil)))))
  (sRet (dConst (.bl false)))
  sNil)
  (sSeq (sIf (dNot (dTru (dCall [.s, .s] F__law_same (aS (dCall [.s, .s] F_low_sum (aS (dCall [.s, .s] F_low_sum (aS (dVar 1) (aS (dVar 2) aNil))) (aS (dVar 3) aNil))) (aS (dCall [.s, .s] F__law_sum (aS (dVar 1) (aS (dCall [.s, .s] F__law_sum (aS (dVar 2) (aS (dVar 3) aNil))) aNil))) aNil)))))
  (sRet (dConst (.bl false)))
  sNil)
  (sSeq (sSet 5 (dCallB gTupOf (dCons (dComp (dRng1 (dOp gAdd (dConst (.int 1)) (dCall [.io 0, .s] F__law_pick (aIO 0 (aS (dConst (.int 5)) aNil))))) [12] (gtName 12) dYes (dCall [.io 0] F__law_low (aIO 0 aNil))) dNil)))
  (sSeq (sSet 6 (dOp gIx (dVar 5) (dConst (.int 0))))
  (sSeq (sFor (dSeqI (dVar 5)) (gtName 7)
  (sIf (dBool (dOp gLt (dCall [.s] F__law_key (aS (dVar 7) aNil)) (dCall [.s] F__law_key (aS (dVar 6) aNil))))
  (sSet 6 (dVar 7))
  sNil))
  (sSeq (sSet 8 (dCallB gTupOf (dCons (dComp (dSeqI (dCall [.io 0, .s] F__law_order (aIO 0 (aS (dCallB gLen (dCons (dVar 5) dNil)) aNil)))) [12] (gtName 12) dYes (dOp gIx (dVar 5) (dVar 12))) dNil)))
  (sSeq (sIf (dNot (dTru (dCall [.s, .s] F__law_same (aS (dTup (dCons (dCall [.s] F_least_low (aS (dVar 5) aNil)) (dCons (dCall [.s] F_least_low (aS (dVar 8) aNil)) (dCons (dCall [.s] F_least_low (aS (dTup (dCons (dVar 1) dNil)) aNil)) dNil)))) (aS (dTup (dCons (dVar 6) (dCons (dVar 6) (dCons (dVar 1) dNil)))) aNil)))))
  (sRet (dConst (.bl false)))
  sNil)
  (sSeq (sSet 9 (dCall [.io 0, .s] F__law_pick (aIO 0 (aS (dConst (.int 6)) aNil))))
  (sSeq (sSet 4 (dConst (.int 0)))
  (sSeq (sFor (dRng1 (dVar 9)) (gtName 10)
  (sSet 4 (dCall [.s, .s] F__law_sum (aS (dVar 4) (aS (dVar 1) aNil)))))
  (sSeq (sIf (dAnd (dBool (dOp gEq (dVar 9) (dConst (.int 0)))) (dTru (dCallB gIsi (dCons (dVar 1) (dCons (dConst (.ty "str")) dNil)))))
  (sRet (dConst (.bl true)))
  sNil)
  (sSeq (sIf (dNot (dTru (dCall [.s, .s] F__law_same (aS (dCall [.s, .s] F_low_times (aS (dVar 1) (aS (dVar 9) aNil))) (aS (dVar 4) aNil)))))
  (sRet (dConst (.bl false)))
  sNil)
  (sSeq (sSet 11 (dOp gAdd (dOp gPow (dConst (.int 10)) (dConst (.int 6))) (dCall [.io 0, .s] F__law_pick (aIO 0 (aS (dConst (.int 9)) aNil)))))
  (sRet (dCall [.s, .s] F__law_same (aS (dCall [.s, .s] F_low_times (aS (dVar 2) (aS (dVar 11) aNil))) (aS (dIf (dTru (dCallB gIsi (dCons (dVar 2) (dCons (dConst (.ty "str")) dNil)))) (dVar 2) (dOp gMul (dVar 2) (dVar 11))) aNil))))))))))))))))))))
theorem sc__law_lows : FnScope ["tape", "one", "other", "third", "due", "lows", "least", "low", "mixed", "many", "lap", "great", "k"] ["tape"] (defScope (topS 26)) := ⟨rfl, rfl, rfl, by decide +kernel, rfl, by decide +kernel, by decide +kernel⟩
theorem ok__law_lows (T : Top K mg) {f : Addr} {fd : FuncData} (h2 : Fun K "_law_lows" "_law_lows" (topS 26) f fd) : FnOk P w K mg base CX0 4 f fd ["tape"] (spD K [1] none F__law_lows) :=
  fun_ok (lv := [1, 0, 0, 0, 0, 0, 0, 0, 0, 0, 0, 0, 0]) h2 sc__law_lows rfl rfl fun cdv A outer s H H0 vs E M Z hr =>
    (dss_cons (ds_par3 1 2 3 rfl sc__law_lows.nd (das_cons (de_call (d__law_low T) hr (by decide) (da_io 0 da_nil)) (das_cons (de_call (d__law_low T) hr (by decide) (da_io 0 da_nil)) (das_cons (de_call (d__law_low T) hr (by decide) (da_io 0 da_nil)) das_nil (hq := hF)) (hq := hF)) (hq := hF)))
    (dss_cons (ds_set 4 sc__law_lows.nd (de_tup (das_cons (de_call (d__law_sum T) hr (by decide) (da_s (de_var 1) (da_s (de_var 2) da_nil))) (das_cons (de_call (d__law_sum T) hr (by decide) (da_s (de_var 1) (da_s (de_var 2) da_nil))) (das_cons (e_lt (de_call (d__law_key T) hr (by decide) (da_s (de_var 1) da_nil)) (de_call (d__law_key T) hr (by decide) (da_s (de_var 2) da_nil)) hF hr) (das_cons (e_lt (de_call (d__law_key T) hr (by decide) (da_s (de_var 2) da_nil)) (de_call (d__law_key T) hr (by decide) (da_s (de_var 1) da_nil)) hF hr) (das_cons de_bl das_nil (hq := hF)) (hq := hF)) (hq := hF)) (hq := hF)) (hq := hF))))
    (dss_cons (ds_if (dt_not (dt_tru (b := false) (de_call (d__law_same T) hr (by decide) (da_s (de_tup (das_cons (de_call (d_low_sum T) hr (by decide) (da_s (de_var 1) (da_s (de_var 2) da_nil))) (das_cons (de_call (d_low_sum T) hr (by decide) (da_s (de_var 2) (da_s (de_var 1) da_nil))) (das_cons (de_call (d_low_less T) hr (by decide) (da_s (de_var 1) (da_s (de_var 2) da_nil))) (das_cons (de_call (d_low_less T) hr (by decide) (da_s (de_var 2) (da_s (de_var 1) da_nil))) (das_cons (de_call (d_low_less T) hr (by decide) (da_s (de_var 3) (da_s (de_var 3) da_nil))) das_nil (hq := hF)) (hq := hF)) (hq := hF)) (hq := hF)) (hq := hF))) (da_s (de_var 4) da_nil)))))
    (dss_one (ds_ret de_bl))
    dss_nil)
    (dss_cons (ds_if (dt_not (dt_tru (b := false) (de_call (d__law_same T) hr (by decide) (da_s (de_call (d_low_sum T) hr (by decide) (da_s (de_call (d_low_sum T) hr (by decide) (da_s (de_var 1) (da_s (de_var 2) da_nil))) (da_s (de_var 3) da_nil))) (da_s (de_call (d__law_sum T) hr (by decide) (da_s (de_var 1) (da_s (de_call (d__law_sum T) hr (by decide) (da_s (de_var 2) (da_s (de_var 3) da_nil))) da_nil))) da_nil)))))
    (dss_one (ds_ret de_bl))
    dss_nil)
    (dss_cons (ds_set 5 sc__law_lows.nd (de_callTy call_tuple_of c_tuple T.b_tuple (by decide +kernel) (das_cons (de_f (df_lc (own := [("k", 12)]) rfl sc__law_lows.nd (di_rng1 T.b_range (e_add de_int (de_call (d__law_pick T) hr (by decide) (da_io 0 (da_s de_int da_nil))) hF)) (blkOk_by (own := [("k", 12)]) (N := ["tape", "one", "other", "third", "due", "lows", "least", "low", "mixed", "many", "lap", "great", "k"]) (sc := defScope (topS 26)) (by decide +kernel)) (fun _ _ _ _ _ => (dg_name 12 sc__law_lows.nd)) (fun _ _ _ _ _ => dts_nil) (fun _ _ _ _ _ => (de_call (d__law_low T) hr (by decide) (da_io 0 da_nil))))) das_nil (hq := hF))))
    (dss_cons (ds_set 6 sc__law_lows.nd (e_ix (de_var 5) de_int hF))
    (dss_cons (ds_for PassesOwn.never rfl (di_seq (de_var 5)) (dg_name 7 sc__law_lows.nd)
    (dss_one (ds_if (t_lt (de_call (d__law_key T) hr (by decide) (da_s (de_var 7) da_nil)) (de_call (d__law_key T) hr (by decide) (da_s (de_var 6) da_nil)) hF hr)
    (dss_one (ds_set 6 sc__law_lows.nd (de_var 7)))
    dss_nil)))
    (dss_cons (ds_set 8 sc__law_lows.nd (de_callTy call_tuple_of c_tuple T.b_tuple (by decide +kernel) (das_cons (de_f (df_lc (own := [("k", 12)]) rfl sc__law_lows.nd (di_seq (de_call (d__law_order T) hr (by decide) (da_io 0 (da_s (de_callB call_len c_len T.b_len (by decide +kernel) (das_cons (de_var 5) das_nil (hq := hF))) da_nil)))) (blkOk_by (own := [("k", 12)]) (N := ["tape", "one", "other", "third", "due", "lows", "least", "low", "mixed", "many", "lap", "great", "k"]) (sc := defScope (topS 26)) (by decide +kernel)) (fun _ _ _ _ _ => (dg_name 12 sc__law_lows.nd)) (fun _ _ _ _ _ => dts_nil) (fun _ _ _ _ _ => (e_ix (de_var 5) (de_var 12) hF)))) das_nil (hq := hF))))
    (dss_cons (ds_if (dt_not (dt_tru (b := false) (de_call (d__law_same T) hr (by decide) (da_s (de_tup (das_cons (de_call (d_least_low T) hr (by decide) (da_s (de_var 5) da_nil)) (das_cons (de_call (d_least_low T) hr (by decide) (da_s (de_var 8) da_nil)) (das_cons (de_call (d_least_low T) hr (by decide) (da_s (de_tup (das_cons (de_var 1) das_nil (hq := hF))) da_nil)) das_nil (hq := hF)) (hq := hF)) (hq := hF))) (da_s (de_tup (das_cons (de_var 6) (das_cons (de_var 6) (das_cons (de_var 1) das_nil (hq := hF)) (hq := hF)) (hq := hF))) da_nil)))))
    (dss_one (ds_ret de_bl))
    dss_nil)
    (dss_cons (ds_set 9 sc__law_lows.nd (de_call (d__law_pick T) hr (by decide) (da_io 0 (da_s de_int da_nil))))
    (dss_cons (ds_set 4 sc__law_lows.nd de_int)
    (dss_cons (ds_for PassesOwn.never rfl (di_rng1 T.b_range (de_var 9)) (dg_name 10 sc__law_lows.nd)
    (dss_one (ds_set 4 sc__law_lows.nd (de_call (d__law_sum T) hr (by decide) (da_s (de_var 4) (da_s (de_var 1) da_nil))))))
    (dss_cons (ds_if (dw_dt (dw_and (t_eq (de_var 9) de_int hF hr) (dw_and1 (dt_tru (b := false) (de_callB c_isi_o c_isi T.b_isinstance (by decide +kernel) (das_cons (de_var 1) (das_cons (de_tyn T.b_str (by decide +kernel)) das_nil (hq := hF)) (hq := hF)))))))
    (dss_one (ds_ret de_bl))
    dss_nil)
    (dss_cons (ds_if (dt_not (dt_tru (b := false) (de_call (d__law_same T) hr (by decide) (da_s (de_call (d_low_times T) hr (by decide) (da_s (de_var 1) (da_s (de_var 9) da_nil))) (da_s (de_var 4) da_nil)))))
    (dss_one (ds_ret de_bl))
    dss_nil)
    (dss_cons (ds_set 11 sc__law_lows.nd (e_add (e_pow de_int de_int hF) (de_call (d__law_pick T) hr (by decide) (da_io 0 (da_s de_int da_nil))) hF))
    (dss_one (ds_ret (de_call (d__law_same T) hr (by decide) (da_s (de_call (d_low_times T) hr (by decide) (da_s (de_var 2) (da_s (de_var 11) da_nil))) (da_s (de_if (dt_tru (b := false) (de_callB c_isi_o c_isi T.b_isinstance (by decide +kernel) (das_cons (de_var 2) (das_cons (de_tyn T.b_str (by decide +kernel)) das_nil (hq := hF)) (hq := hF)))) (de_var 2) (e_mul (de_var 2) (de_var 11) hF)) da_nil))))))))))))))))))))
theorem d__law_lows (T : Top K mg) : DFn P w K mg base 4 "_law_lows" [1] none F__law_lows := by
  obtain ⟨f, fd, h1, h2, h3⟩ := T.f__law_lows
  exact ⟨f, fd, ["tape"], h1, h2.kp, .all h3, ok__law_lows T h2⟩
noncomputable def F__law_needs : Fn := mkF 10 [1] none
  ((sSeq (sPar [1, 2] (dCons (dCall [.io 0] F__law_need (aIO 0 aNil)) (dCons (dCall [.io 0] F__law_need (aIO 0 aNil)) dNil)))
  (sSeq (sIf (dNot (dTru (dCall [.s, .s] F__law_same (aS (dTup (dCons (dCall [.s, .s] F_need_less (aS (dVar 1) (aS (dVar 2) aNil))) (dCons (dCall [.s, .s] F_need_less (aS (dVar 2) (aS (dVar 1) aNil))) (dCons (dCall [.s, .s] F_need_less (aS (dVar 1) (aS (dVar 1) aNil))) dNil)))) (aS (dTup (dCons (dOp gLt (dCall [.s] F__law_need_key (aS (dVar 1) aNil)) (dCall [.s] F__law_need_key (aS (dVar 2) aNil))) (dCons (dOp gLt (dCall [.s] F__law_need_key (aS (dVar 2) aNil)) (dCall [.s] F__law_need_key (aS (dVar 1) aNil))) (dCons (dConst (.bl false)) dNil)))) aNil)))))
  (sRet (dConst (.bl false)))
  sNil)
  (sSeq (sSet 3 (dCallB gTupOf (dCons (dComp (dRng1 (dOp gAdd (dConst (.int 1)) (dCall [.io 0, .s] F__law_pick (aIO 0 (aS (dConst (.int 5)) aNil))))) [9] (gtName 9) dYes (dCall [.io 0] F__law_need (aIO 0 aNil))) dNil)))
  (sSeq (sSet 4 (dOp gIx (dVar 3) (dConst (.int 0))))
  (sSeq (sFor (dSeqI (dVar 3)) (gtName 5)
  (sIf (dBool (dOp gGt (dCall [.s] F__law_need_key (aS (dVar 5) aNil)) (dCall [.s] F__law_need_key (aS (dVar 4) aNil))))
  (sSet 4 (dVar 5))
  sNil))
  (sSeq (sSet 6 (dCallB gTupOf (dCons (dComp (dSeqI (dCall [.io 0, .s] F__law_order (aIO 0 (aS (dCallB gLen (dCons (dVar 3) dNil)) aNil)))) [9] (gtName 9) dYes (dOp gIx (dVar 3) (dVar 9))) dNil)))
  (sSeq (sIf (dNot (dTru (dCall [.s, .s] F__law_same (aS (dTup (dCons (dCall [.s] F_greatest_need (aS (dVar 3) aNil)) (dCons (dCall [.s] F_greatest_need (aS (dVar 6) aNil)) (dCons (dCall [.s] F_greatest_need (aS (dTup (dCons (dVar 1) dNil)) aNil)) dNil)))) (aS (dTup (dCons (dVar 4) (dCons (dVar 4) (dCons (dVar 1) dNil)))) aNil)))))
  (sRet (dConst (.bl false)))
  sNil)
  (sSeq (sSet 7 (dCall [.io 0] F__law_low (aIO 0 aNil)))
  (sSeq (sIf (dBool (dOp gEq (dVar 7) (dConst (.str "never"))))
  (sSet 8 (dConst (.int 0)))
  (sIf (dOr (dBool (dOp gEq (dVar 7) (dConst (.str "deep")))) (dBool (dOp gEq (dVar 1) (dConst (.str "deep")))))
  (sSet 8 (dConst (.str "deep")))
  (sSet 8 (dCallB gMax2 (dCons (dConst (.int 0)) (dCons (dOp gSub (dVar 1) (dVar 7)) dNil))))))
  (sRet (dCall [.s, .s] F__law_same (aS (dCall [.s, .s] F_need_behind (aS (dVar 1) (aS (dVar 7) aNil))) (aS (dVar 8) aNil))))))))))))))
theorem sc__law_needs : FnScope ["tape", "one", "other", "needs", "greatest", "need", "mixed", "low", "due", "k"] ["tape"] (defScope (topS 27)) := ⟨rfl, rfl, rfl, by decide +kernel, rfl, by decide +kernel, by decide +kernel⟩
theorem ok__law_needs (T : Top K mg) {f : Addr} {fd : FuncData} (h2 : Fun K "_law_needs" "_law_needs" (topS 27) f fd) : FnOk P w K mg base CX0 4 f fd ["tape"] (spD K [1] none F__law_needs) :=
  fun_ok (lv := [1, 0, 0, 0, 0, 0, 0, 0, 0, 0]) h2 sc__law_needs rfl rfl fun cdv A outer s H H0 vs E M Z hr =>
    (dss_cons (ds_par 1 2 rfl sc__law_needs.nd (das_cons (de_call (d__law_need T) hr (by decide) (da_io 0 da_nil)) (das_cons (de_call (d__law_need T) hr (by decide) (da_io 0 da_nil)) das_nil (hq := hF)) (hq := hF)))
    (dss_cons (ds_if (dt_not (dt_tru (b := false) (de_call (d__law_same T) hr (by decide) (da_s (de_tup (das_cons (de_call (d_need_less T) hr (by decide) (da_s (de_var 1) (da_s (de_var 2) da_nil))) (das_cons (de_call (d_need_less T) hr (by decide) (da_s (de_var 2) (da_s (de_var 1) da_nil))) (das_cons (de_call (d_need_less T) hr (by decide) (da_s (de_var 1) (da_s (de_var 1) da_nil))) das_nil (hq := hF)) (hq := hF)) (hq := hF))) (da_s (de_tup (das_cons (e_lt (de_call (d__law_need_key T) hr (by decide) (da_s (de_var 1) da_nil)) (de_call (d__law_need_key T) hr (by decide) (da_s (de_var 2) da_nil)) hF hr) (das_cons (e_lt (de_call (d__law_need_key T) hr (by decide) (da_s (de_var 2) da_nil)) (de_call (d__law_need_key T) hr (by decide) (da_s (de_var 1) da_nil)) hF hr) (das_cons de_bl das_nil (hq := hF)) (hq := hF)) (hq := hF))) da_nil)))))
    (dss_one (ds_ret de_bl))
    dss_nil)
    (dss_cons (ds_set 3 sc__law_needs.nd (de_callTy call_tuple_of c_tuple T.b_tuple (by decide +kernel) (das_cons (de_f (df_lc (own := [("k", 9)]) rfl sc__law_needs.nd (di_rng1 T.b_range (e_add de_int (de_call (d__law_pick T) hr (by decide) (da_io 0 (da_s de_int da_nil))) hF)) (blkOk_by (own := [("k", 9)]) (N := ["tape", "one", "other", "needs", "greatest", "need", "mixed", "low", "due", "k"]) (sc := defScope (topS 27)) (by decide +kernel)) (fun _ _ _ _ _ => (dg_name 9 sc__law_needs.nd)) (fun _ _ _ _ _ => dts_nil) (fun _ _ _ _ _ => (de_call (d__law_need T) hr (by decide) (da_io 0 da_nil))))) das_nil (hq := hF))))
    (dss_cons (ds_set 4 sc__law_needs.nd (e_ix (de_var 3) de_int hF))
    (dss_cons (ds_for PassesOwn.never rfl (di_seq (de_var 3)) (dg_name 5 sc__law_needs.nd)
    (dss_one (ds_if (t_gt (de_call (d__law_need_key T) hr (by decide) (da_s (de_var 5) da_nil)) (de_call (d__law_need_key T) hr (by decide) (da_s (de_var 4) da_nil)) hF hr)
    (dss_one (ds_set 4 sc__law_needs.nd (de_var 5)))
    dss_nil)))
    (dss_cons (ds_set 6 sc__law_needs.nd (de_callTy call_tuple_of c_tuple T.b_tuple (by decide +kernel) (das_cons (de_f (df_lc (own := [("k", 9)]) rfl sc__law_needs.nd (di_seq (de_call (d__law_order T) hr (by decide) (da_io 0 (da_s (de_callB call_len c_len T.b_len (by decide +kernel) (das_cons (de_var 3) das_nil (hq := hF))) da_nil)))) (blkOk_by (own := [("k", 9)]) (N := ["tape", "one", "other", "needs", "greatest", "need", "mixed", "low", "due", "k"]) (sc := defScope (topS 27)) (by decide +kernel)) (fun _ _ _ _ _ => (dg_name 9 sc__law_needs.nd)) (fun _ _ _ _ _ => dts_nil) (fun _ _ _ _ _ => (e_ix (de_var 3) (de_var 9) hF)))) das_nil (hq := hF))))
    (dss_cons (ds_if (dt_not (dt_tru (b := false) (de_call (d__law_same T) hr (by decide) (da_s (de_tup (das_cons (de_call (d_greatest_need T) hr (by decide) (da_s (de_var 3) da_nil)) (das_cons (de_call (d_greatest_need T) hr (by decide) (da_s (de_var 6) da_nil)) (das_cons (de_call (d_greatest_need T) hr (by decide) (da_s (de_tup (das_cons (de_var 1) das_nil (hq := hF))) da_nil)) das_nil (hq := hF)) (hq := hF)) (hq := hF))) (da_s (de_tup (das_cons (de_var 4) (das_cons (de_var 4) (das_cons (de_var 1) das_nil (hq := hF)) (hq := hF)) (hq := hF))) da_nil)))))
    (dss_one (ds_ret de_bl))
    dss_nil)
    (dss_cons (ds_set 7 sc__law_needs.nd (de_call (d__law_low T) hr (by decide) (da_io 0 da_nil)))
    (dss_cons (ds_if (t_eq (de_var 7) de_str hF hr)
    (dss_one (ds_set 8 sc__law_needs.nd de_int))
    (dss_one (ds_if (dw_dt (dw_or (t_eq (de_var 7) de_str hF hr) (dw_or1 (t_eq (de_var 1) de_str hF hr))))
    (dss_one (ds_set 8 sc__law_needs.nd de_str))
    (dss_one (ds_set 8 sc__law_needs.nd (de_callB (call_max2 rfl) c_max2 T.b_max (by decide +kernel) (das_cons de_int (das_cons (e_sub (de_var 1) (de_var 7) hF) das_nil (hq := hF)) (hq := hF))))))))
    (dss_one (ds_ret (de_call (d__law_same T) hr (by decide) (da_s (de_call (d_need_behind T) hr (by decide) (da_s (de_var 1) (da_s (de_var 7) da_nil))) (da_s (de_var 8) da_nil))))))))))))))
theorem d__law_needs (T : Top K mg) : DFn P w K mg base 4 "_law_needs" [1] none F__law_needs := by
  obtain ⟨f, fd, h1, h2, h3⟩ := T.f__law_needs
  exact ⟨f, fd, ["tape"], h1, h2.kp, .all h3, ok__law_needs T h2⟩
noncomputable def F_law : Fn := mkF 4 [0] none
  ((sSeq (sSet 1 (dCall [.s] F__law_tape (aS (dVar 0) aNil)))
  (sSeq (sFor (dRng1 (dConst (.int 4))) (gtName 2)
  (sIf (dOr (dNot (dTru (dCall [.io 1] F__law_changes (aIO 1 aNil)))) (dOr (dNot (dTru (dCall [.io 1] F__law_lows (aIO 1 aNil)))) (dNot (dTru (dCall [.io 1] F__law_needs (aIO 1 aNil))))))
  (sRet (dConst (.bl false)))
  sNil))
  (sSeq (sSet 3 (dTup (dCons (dCall [.s, .s] F_low_sum (aS (dConst (.str "deep")) (aS (dConst (.str "never")) aNil))) (dCons (dCall [.s, .s] F_low_less (aS (dConst (.str "deep")) (aS (dUn gNeg (dOp gPow (dConst (.int 10)) (dConst (.int 59)))) aNil))) (dCons (dCall [.s, .s] F_low_less (aS (dOp gPow (dConst (.int 10)) (dConst (.int 59))) (aS (dConst (.str "never")) aNil))) (dCons (dCall [.s, .s] F_low_less (aS (dConst (.str "never")) (aS (dConst (.str "never")) aNil))) dNil))))))
  (sSeq (sIf (dNot (dTru (dCall [.s, .s] F__law_same (aS (dVar 3) (aS (dTup (dCons (dConst (.str "never")) (dCons (dConst (.bl true)) (dCons (dConst (.bl true)) (dCons (dConst (.bl false)) dNil))))) aNil)))))
  (sRet (dConst (.bl false)))
  sNil)
  (sSeq (sIf (dNot (dTru (dCall [.s, .s] F__law_same (aS (dTup (dCons (dCall [.s] F_least_low (aS (dTup (dCons (dConst (.str "never")) (dCons (dConst (.str "deep")) (dCons (dUn gNeg (dConst (.int 5))) dNil)))) aNil)) (dCons (dCall [.s, .s] F_need_behind (aS (dConst (.str "deep")) (aS (dConst (.str "never")) aNil))) (dCons (dCall [.s, .s] F_need_behind (aS (dConst (.int 0)) (aS (dConst (.str "deep")) aNil))) dNil)))) (aS (dTup (dCons (dConst (.str "deep")) (dCons (dConst (.int 0)) (dCons (dConst (.str "deep")) dNil)))) aNil)))))
  (sRet (dConst (.bl false)))
  sNil)
  (sRet (dCall [.s, .s] F__law_same (aS (dTup (dCons (dCall [.s, .s] F_need_less (aS (dOp gPow (dConst (.int 10)) (dConst (.int 59))) (aS (dConst (.str "deep")) aNil))) (dCons (dCall [.s] F_greatest_need (aS (dTup (dCons (dConst (.int 3)) (dCons (dConst (.str "deep")) (dCons (dConst (.int 4)) dNil)))) aNil)) (dCons (dCall [.s, .s] F_need_behind (aS (dConst (.int 2)) (aS (dConst (.int 5)) aNil))) (dCons (dCall [.s, .s] F_low_times (aS (dUn gNeg (dConst (.int 2))) (aS (dConst (.int 0)) aNil))) dNil))))) (aS (dTup (dCons (dConst (.bl true)) (dCons (dConst (.str "deep")) (dCons (dConst (.int 0)) (dCons (dConst (.int 0)) dNil))))) aNil))))))))))
theorem sc_law : FnScope ["script", "tape", "lap", "told"] ["script"] (defScope (topS 28)) := ⟨rfl, rfl, rfl, by decide +kernel, rfl, by decide +kernel, by decide +kernel⟩
theorem ok_law (T : Top K mg) {f : Addr} {fd : FuncData} (h2 : Fun K "law" "law" (topS 28) f fd) : FnOk P w K mg base CX0 5 f fd ["script"] (spD K [0] none F_law) :=
  fun_ok (lv := [0, 1, 0, 0]) h2 sc_law rfl rfl fun cdv A outer s H H0 vs E M Z hr =>
    (dss_cons (ds_new 1 sc_law.nd (df_call (d__law_tape T) hr (by decide) (da_s (de_var 0) da_nil)))
    (dss_cons (ds_for PassesOwn.never rfl (di_rng1 T.b_range de_int) (dg_name 2 sc_law.nd)
    (dss_one (ds_if (dw_dt (dw_or (dt_not (dt_tru (b := false) (de_call (d__law_changes T) hr (by decide) (da_io 1 da_nil)))) (dw_or (dt_not (dt_tru (b := false) (de_call (d__law_lows T) hr (by decide) (da_io 1 da_nil)))) (dw_or1 (dt_not (dt_tru (b := false) (de_call (d__law_needs T) hr (by decide) (da_io 1 da_nil))))))))
    (dss_one (ds_ret de_bl))
    dss_nil)))
    (dss_cons (ds_set 3 sc_law.nd (de_tup (das_cons (de_call (d_low_sum T) hr (by decide) (da_s de_str (da_s de_str da_nil))) (das_cons (de_call (d_low_less T) hr (by decide) (da_s de_str (da_s (e_neg (e_pow de_int de_int hF)) da_nil))) (das_cons (de_call (d_low_less T) hr (by decide) (da_s (e_pow de_int de_int hF) (da_s de_str da_nil))) (das_cons (de_call (d_low_less T) hr (by decide) (da_s de_str (da_s de_str da_nil))) das_nil (hq := hF)) (hq := hF)) (hq := hF)) (hq := hF))))
    (dss_cons (ds_if (dt_not (dt_tru (b := false) (de_call (d__law_same T) hr (by decide) (da_s (de_var 3) (da_s (de_tup (das_cons de_str (das_cons de_bl (das_cons de_bl (das_cons de_bl das_nil (hq := hF)) (hq := hF)) (hq := hF)) (hq := hF))) da_nil)))))
    (dss_one (ds_ret de_bl))
    dss_nil)
    (dss_cons (ds_if (dt_not (dt_tru (b := false) (de_call (d__law_same T) hr (by decide) (da_s (de_tup (das_cons (de_call (d_least_low T) hr (by decide) (da_s (de_tup (das_cons de_str (das_cons de_str (das_cons (e_neg de_int) das_nil (hq := hF)) (hq := hF)) (hq := hF))) da_nil)) (das_cons (de_call (d_need_behind T) hr (by decide) (da_s de_str (da_s de_str da_nil))) (das_cons (de_call (d_need_behind T) hr (by decide) (da_s de_int (da_s de_str da_nil))) das_nil (hq := hF)) (hq := hF)) (hq := hF))) (da_s (de_tup (das_cons de_str (das_cons de_int (das_cons de_str das_nil (hq := hF)) (hq := hF)) (hq := hF))) da_nil)))))
    (dss_one (ds_ret de_bl))
    dss_nil)
    (dss_one (ds_ret (de_call (d__law_same T) hr (by decide) (da_s (de_tup (das_cons (de_call (d_need_less T) hr (by decide) (da_s (e_pow de_int de_int hF) (da_s de_str da_nil))) (das_cons (de_call (d_greatest_need T) hr (by decide) (da_s (de_tup (das_cons de_int (das_cons de_str (das_cons de_int das_nil (hq := hF)) (hq := hF)) (hq := hF))) da_nil)) (das_cons (de_call (d_need_behind T) hr (by decide) (da_s de_int (da_s de_int da_nil))) (das_cons (de_call (d_low_times T) hr (by decide) (da_s (e_neg de_int) (da_s de_int da_nil))) das_nil (hq := hF)) (hq := hF)) (hq := hF)) (hq := hF))) (da_s (de_tup (das_cons de_bl (das_cons de_str (das_cons de_int (das_cons de_int das_nil (hq := hF)) (hq := hF)) (hq := hF)) (hq := hF))) da_nil))))))))))
theorem d_law (T : Top K mg) : DFn P w K mg base 5 "law" [0] none F_law := by
  obtain ⟨f, fd, h1, h2, h3⟩ := T.f_law
  exact ⟨f, fd, ["script"], h1, h2.kp, .all h3, ok_law T h2⟩
end
end K1
open PySem PySem.Spec PyProof.Rows L2 DL
local macro_rules | `(tactic| walk_at "ds") => `(tactic| try dsimp only [List.set_cons_zero, List.set_cons_succ, List.map_cons, List.map_nil, List.length_cons, List.length_nil, Nat.reduceAdd, Nat.reduceSub, List.replicate_succ, List.replicate_zero, List.cons_append, List.nil_append, wipeE, restE, List.getElem?_cons_zero, List.getElem?_cons_succ, Option.getD_some, Option.getD_none, Int.toNat_one, Int.reduceToNat, Bool.not_true, Bool.not_false])
local macro_rules | `(tactic| walk_at "st") => `(tactic| first
  | with_reducible first
    | refine w_mkF ?_ | refine w_seq ?_ | refine w_if ?_ | refine w_set ?_ | refine w_ret ?_ | refine w_drop ?_ | refine w_nil ?_ | refine w_break ?_ | refine w_cont ?_
    | refine w_const ?_ | refine w_op ?_ | refine w_un ?_ | refine w_nils ?_ | refine w_cons ?_ | refine w_tup ?_ | refine w_lst ?_ | refine w_tru ?_ | refine w_not ?_ | refine w_and ?_ | refine w_or ?_ | refine w_ife ?_ | refine w_andV ?_ | refine w_orV ?_
    | refine w_callB ?_ | refine w_call ?_ | refine w_anil ?_ | refine w_as ?_ | refine w_asg ?_ | refine w_tname ?_ | refine w_sl ?_ | refine w_nopart ?_ | refine w_for ?_ | refine w_comp ?_
    | refine g_add ?_ | refine g_sub ?_ | refine g_neg ?_ | refine g_lt ?_ | refine g_le ?_ | refine g_gt ?_ | refine g_ge ?_ | refine g_eqi ?_ | refine gNe_ii ?_ | refine g_nei ?_ | refine g_int ?_ | refine g_abs ?_ | refine g_lenL ?_ | refine g_lenT ?_ | refine g_trub ?_ | refine g_tupL ?_ | refine g_tupT ?_
    | refine itNT ?_ | refine itNF ?_ | refine iteT ?_ | refine iteF ?_ | refine Ok.ret ?_
  | ((with_reducible refine' w_var ?h1 ?_); (case h1 => exact rfl))
  | ((with_reducible refine' w_take ?h1 ?_); (case h1 => exact rfl))
  | ((with_reducible refine' w_aio ?h1 ?_); (case h1 => exact rfl))
  | ((with_reducible refine gMul_r ?h1 ?h2 ?_); (case h1 => first | decide | omega); (case h2 => first | decide | omega))
  | ((with_reducible refine gMod_p ?h1 ?_); (case h1 => first | decide | assumption | omega))
  | ((with_reducible refine gFdiv_p ?h1 ?_); (case h1 => exact ⟨by decide, by decide⟩))
  | ((with_reducible refine gPow_p ?h1 ?_); (case h1 => decide))
  | ((with_reducible refine gShl_p ?h1 ?_); (case h1 => decide))
  | (with_reducible refine gIx_t0 ?_)
  | (with_reducible refine gIx_l0 ?_)
  | (with_reducible refine gNe_ii ?_)
  | (with_reducible refine gNe_bb ?_)
  | (with_reducible refine gNe_ss ?_)
  | ((with_reducible show Ok (gIsi _) _); first | refine Ok.mk (a := D.bl true) rfl ?_ | refine Ok.mk (a := D.bl false) rfl ?_)
  | ((with_reducible show Ok (gIsN _ _) _); first | refine Ok.mk (a := D.bl true) rfl ?_ | refine Ok.mk (a := D.bl false) rfl ?_)
  | ((with_reducible show Ok (gNotN _ _) _); first | refine Ok.mk (a := D.bl true) rfl ?_ | refine Ok.mk (a := D.bl false) rfl ?_)
  | ((with_reducible show Ok (gtTup _ _ (D.tup [_, _]) _) _); refine Ok.mk rfl ?_)
  | ((with_reducible show Ok (gIx (D.lst (_ :: _)) (D.int _)) _); refine Ok.mk rfl ?_)
  | ((with_reducible show Ok (gIx (D.tup (_ :: _)) (D.int _)) _); refine Ok.mk rfl ?_)
  | ((with_reducible show Ok (fillA _ _ _) _); refine Ok.mk rfl ?_)
  | ((with_reducible show Ok ((outP _ _ _).bind _) _); refine Ok.mk rfl ?_)
  | ((with_reducible show Ok (dYes _) _); refine Ok.mk rfl ?_)
  | ((with_reducible show true = true ∧ Ok _ _); refine ⟨rfl, ?_⟩)
  | ((with_reducible refine w_bool ?_))
  | ((with_reducible show ∃ k : Bool, D.bl _ = D.bl k ∧ _); refine ⟨_, rfl, ?_⟩)
  | ((with_reducible refine w_calm ?_))
  | ((with_reducible refine w_put ?_))
  | ((with_reducible show ∃ ds0 : List D, _ = some (some (D.lst ds0)) ∧ Ok _ _); refine ⟨_, rfl, ?_⟩)
  | ((with_reducible show ∃ (ds : List D) (n : Int) (j : Nat), _ = some (some (D.lst ds)) ∧ _ ∧ _ ∧ _); refine ⟨_, _, _, rfl, rfl, rfl, ?_⟩)
  | ((with_reducible show D.calm (D.int _) = true ∧ _); refine ⟨rfl, ?_⟩))
local macro_rules | `(tactic| walk_at "go") => `(tactic| (walk_at "ds"; repeat (walk_at "st"; walk_at "ds")))
namespace K1
/-- the tape -/
def tp (nums : List Int) (pos mixed : Int) : D := .lst [.lst (nums.map .int), .int pos, .int mixed]
theorem pick_ok (nums : List Int) (pos mixed many : Int) (h0 : 0 ≤ pos) (hm : 0 < many) : Ok (F__law_pick [tp nums pos mixed, .int many]) fun r => ∃ v p' m', r = (.int v, [tp nums p' m', .non]) ∧ 0 ≤ v ∧ v < many ∧ 0 ≤ p' := by
  unfold F__law_pick tp
  walk_at "go"
  walk_at "go"
  refine ite2 (fun hc => ?_) (fun hc => ?_)
  · have hc := of_decide_eq_true hc
    walk_at "go"
    obtain ⟨d, h1, h2⟩ := atI_in (xs := List.map D.int nums) (i := pos + 1 - 1) (by omega) (by omega)
    rw [List.getElem?_map] at h1
    cases hn : nums[(pos + 1 - 1).toNat]? with
    | none => rw [hn] at h1; cases h1
    | some n =>
      rw [hn] at h1
      cases h1
      refine gIx_l h2 ?_
      walk_at "go"
      exact ⟨_, _, _, rfl, Int.emod_nonneg _ (by omega), Int.emod_lt_of_pos _ hm, by omega⟩
  · walk_at "go"
    exact ⟨_, _, _, rfl, Int.emod_nonneg _ (by omega), Int.emod_lt_of_pos _ hm, by omega⟩
def Tp (t : D) : Prop := ∃ nums pos mixed, t = tp nums pos mixed ∧ 0 ≤ pos
theorem pick {t : D} {many : Int} {Q : D × List D → Prop} (h : Tp t) (hm : 0 < many) (q : ∀ v t', Tp t' → 0 ≤ v → v < many → Q (.int v, [t', .non])) : Ok (F__law_pick [t, .int many]) Q := by
  obtain ⟨nums, pos, mixed, rfl, h0⟩ := h
  refine (pick_ok nums pos mixed many h0 hm).imp ?_
  rintro _ ⟨v, p', m', rfl, a, b, c⟩
  exact q v _ ⟨_, _, _, rfl, c⟩ a b
local macro_rules | `(tactic| walk_at "st") => `(tactic| ((with_reducible refine pick ?h1 ?h2 (fun _ _ _ _ _ => ?_)); (case h1 => assumption); (case h2 => omega)))
theorem number {t : D} {habit : Int} {Q : D × List D → Prop} (h : Tp t) (q : ∀ v t', Tp t' → v.natAbs < 2 ^ 200 → Q (.int v, [t', .non])) : Ok (F__law_number [t, .int habit]) Q := by
  unfold F__law_number
  walk_at "go"
  refine ite2 (fun hc => ?_) (fun hc => ?_)
  · walk_at "go"
    exact q _ _ ‹_› (by omega)
  · walk_at "go"
    refine ite2 (fun hc => ?_) (fun hc => ?_)
    · walk_at "go"
      rename_i v1 t1 h1 h10 h11 v2 t2 h2 h20 h21
      have : v2 = 0 ∨ v2 = 1 := by omega
      rcases this with rfl | rfl
      · walk_at "go"
        exact q _ _ ‹_› (by omega)
      · walk_at "go"
        exact q _ _ ‹_› (by omega)
    · walk_at "go"
      rename_i v1 t1 h1 h10 h11 v2 t2 h2 h20 h21
      have : v2 = 0 ∨ v2 = 1 ∨ v2 = 2 ∨ v2 = 3 ∨ v2 = 4 ∨ v2 = 5 := by omega
      rcases this with rfl | rfl | rfl | rfl | rfl | rfl <;> walk_at "go" <;> exact q _ _ ‹_› (by omega)
local macro_rules | `(tactic| walk_at "st") => `(tactic| ((with_reducible refine number ?h1 (fun _ _ _ _ => ?_)); (case h1 => assumption)))
/-- deep, never, or a number -/
inductive Fg where
  | deep
  | never
  | num (i : Int)
def Fg.d : Fg → D
  | .deep => .str "deep"
  | .never => .str "never"
  | .num i => .int i
def Fg.sm : Fg → Prop
  | .num i => i.natAbs < 2 ^ 200
  | _ => True
theorem low {t : D} {Q : D × List D → Prop} (h : Tp t) (q : ∀ (g : Fg) t', Tp t' → g.sm → Q (g.d, [t'])) : Ok (F__law_low [t]) Q := by
  unfold F__law_low
  walk_at "go"
  refine ite2 (fun hc => ?_) (fun hc => ?_)
  · walk_at "go"
    exact q .deep _ ‹_› trivial
  · walk_at "go"
    refine ite2 (fun hc => ?_) (fun hc => ?_)
    · walk_at "go"
      exact q .never _ ‹_› trivial
    · walk_at "go"
      exact q (.num _) _ ‹_› ‹_›
/-- deep or a number of nought and more -/
def Fg.nd : Fg → Prop
  | .num i => 0 ≤ i ∧ i.natAbs < 2 ^ 200
  | .deep => True
  | .never => False
theorem need {t : D} {Q : D × List D → Prop} (h : Tp t) (q : ∀ (g : Fg) t', Tp t' → g.nd → Q (g.d, [t'])) : Ok (F__law_need [t]) Q := by
  unfold F__law_need
  walk_at "go"
  refine ite2 (fun hc => ?_) (fun hc => ?_)
  · walk_at "go"
    exact q .deep _ ‹_› trivial
  · walk_at "go"
    refine q (.num _) _ ‹_› ?_
    show 0 ≤ _ ∧ _
    split <;> omega
local macro_rules | `(tactic| walk_at "st") => `(tactic| ((with_reducible refine low ?h1 (fun _ _ _ _ => ?_)); (case h1 => assumption)))
local macro_rules | `(tactic| walk_at "st") => `(tactic| ((with_reducible refine need ?h1 (fun _ _ _ _ => ?_)); (case h1 => assumption)))
end K1
namespace K1
mutual
def Pl : D → Bool
  | .tup ds => Pls ds
  | .lst ds => Pls ds
  | .fn _ => false
  | .ty _ => false
  | .non => true
  | .bl _ => true
  | .int _ => true
  | .str _ => true
def Pls : List D → Bool
  | [] => true
  | d :: ds => Pl d && Pls ds
end
mutual
def szD : D → Nat
  | .tup ds => 1 + szS ds
  | .lst ds => 1 + szS ds
  | .fn _ => 1
  | .ty _ => 1
  | .non => 1
  | .bl _ => 1
  | .int _ => 1
  | .str _ => 1
def szS : List D → Nat
  | [] => 0
  | d :: ds => szD d + szS ds
end
theorem Pls_app : ∀ {as bs : List D}, Pls (as ++ bs) = (Pls as && Pls bs)
  | [], bs => by rw [List.nil_append, Pls, Bool.true_and]
  | a :: as, bs => by rw [List.cons_append, Pls, Pls, Pls_app, Bool.and_assoc]
theorem szS_app : ∀ {as bs : List D}, szS (as ++ bs) = szS as + szS bs
  | [], bs => by rw [List.nil_append, szS, Nat.zero_add]
  | a :: as, bs => by rw [List.cons_append, szS, szS, szS_app, Nat.add_assoc]
theorem szD_pos : ∀ d : D, 1 ≤ szD d
  | .tup ds => by unfold szD; omega
  | .lst ds => by unfold szD; omega
  | .fn _ => by unfold szD; omega
  | .ty _ => by unfold szD; omega
  | .non => by unfold szD; omega
  | .bl _ => by unfold szD; omega
  | .int _ => by unfold szD; omega
  | .str _ => by unfold szD; omega
theorem szS_len : ∀ ds : List D, ds.length ≤ szS ds
  | [] => Nat.le_refl _
  | d :: ds => by
    have h1 := szS_len ds
    have h2 := szD_pos d
    rw [szS, List.length_cons]
    omega
def pr (d : D) : D := .tup [d, d]
def nthD (ds : List D) : D → D
  | .int k => (atI ds k).getD .non
  | _ => .non
theorem rg_all (ds : List D) (f : D → D) : (rgD 0 ds.length).map (fun d => f (nthD ds d)) = ds.map f := by
  unfold rgD
  rw [List.map_map]
  refine List.ext_getElem? fun i => ?_
  rw [List.getElem?_map, List.getElem?_map]
  by_cases h : i < ds.length
  · have h2 : i < ((ds.length : Int) - 0).toNat := by omega
    rw [List.getElem?_range h2, List.getElem?_eq_getElem h]
    have e := atI_nat (List.getElem?_eq_getElem h)
    show some (f ((atI ds (0 + (i : Int))).getD .non)) = _
    rw [Int.zero_add, e]
    rfl
  · have h2 : ((ds.length : Int) - 0).toNat ≤ i := by omega
    rw [List.getElem?_eq_none (by rw [List.length_range]; exact h2), List.getElem?_eq_none (by omega)]
    rfl
theorem rg_in {n : Int} {d : D} (h : d ∈ rgD 0 n) : ∃ i : Nat, d = .int i ∧ (i : Int) < n := by
  unfold rgD at h
  obtain ⟨i, h1, rfl⟩ := List.mem_map.mp h
  have := List.mem_range.mp h1
  exact ⟨i, by rw [Int.zero_add], by omega⟩
theorem nth_ok {ds : List D} {i : Nat} (h : (i : Int) < ds.length) : atI ds i = some (nthD ds (.int i)) := by
  obtain ⟨d, h1, h2⟩ := atI_in (xs := ds) (i := i) (by omega) h
  show _ = some ((atI ds i).getD .non)
  rw [h2]
  rfl
theorem rgD_len {n : Int} : (rgD 0 n).length = n.toNat := by
  unfold rgD
  rw [List.length_map, List.length_range, Int.sub_zero]
theorem same (d : D) (hp : Pl d = true) (hz : szD d ≤ 16777216) {Q : D × List D → Prop} (q : Q (.bl true, [.non, .non])) : Ok (F__law_same [d, d]) Q := by
  unfold F__law_same
  walk_at "go"
  refine w_while (fun n ρ => ∃ st a b, ρ = [some d, some d, some (.lst (st.map pr)), a, b, none] ∧ Pls st = true ∧ szS st = n ∧ n ≤ 16777216) ?_ (szS [d]) _ ⟨[d], none, none, rfl, by unfold Pls Pls; rw [hp]; rfl, rfl, by unfold szS szS; exact hz⟩
  rintro n ρ ⟨st, a, b, rfl, p1, p2, p3⟩
  rcases List.eq_nil_or_concat st with rfl | ⟨st', x, hst⟩
  · walk_at "go"
    refine ite2 (fun hc => absurd hc (by simp)) (fun hc => ?_)
    walk_at "go"
    exact q
  · rw [List.concat_eq_append] at hst
    subst hst
    walk_at "go"
    refine ite2 (fun hc => ?_) (fun hc => absurd (decide_eq_true (by simp)) hc)
    have e1 : (List.map pr (st' ++ [x]))[(List.map pr (st' ++ [x])).length - 1]? = some (pr x) := by simp
    have e2 : (List.map pr (st' ++ [x])).dropLast = st'.map pr := by simp
    rw [Pls_app, Bool.and_eq_true] at p1
    rw [szS_app] at p2
    have px : Pl x = true := by
      have := p1.2
      unfold Pls Pls at this
      rw [Bool.and_true] at this
      exact this
    have zx : szS [x] = szD x := by unfold szS szS; rfl
    have zp := szD_pos x
    walk_at "go"
    refine w_pop rfl (by exact e1) ?_
    rw [e2]
    unfold pr
    walk_at "go"
    cases x with
    | non =>
      walk_at "go"
      exact ⟨szS st', by omega, st', _, _, rfl, p1.1, rfl, by omega⟩
    | bl k =>
      walk_at "go"
      exact ⟨szS st', by omega, st', _, _, rfl, p1.1, rfl, by omega⟩
    | int k =>
      walk_at "go"
      exact ⟨szS st', by omega, st', _, _, rfl, p1.1, rfl, by omega⟩
    | str k =>
      walk_at "go"
      exact ⟨szS st', by omega, st', _, _, rfl, p1.1, rfl, by omega⟩
    | fn _ => cases px
    | ty _ => cases px
    | tup ds =>
      walk_at "go"
      have zt : szS [D.tup ds] = 1 + szS ds := by simp only [szS, szD]; omega
      have zl := szS_len ds
      have pl : Pls ds = true := px
      refine w_ext rfl ?_
      walk_at "go"
      refine w_rng1 ?_
      walk_at "go"
      refine ⟨_, rfl, by omega, by omega, by rw [rgD_len]; omega, ?_⟩
      refine w_cmap (fun d => pr (nthD ds d)) (fun x hx => ?_) ?_
      · obtain ⟨i, rfl, hi⟩ := rg_in hx
        walk_at "go"
        refine gIx_t (nth_ok hi) ?_
        walk_at "go"
        refine gIx_t (nth_ok hi) ?_
        walk_at "go"
        exact ⟨rfl, rfl⟩
      · rw [rg_all]
        walk_at "go"
        refine ⟨_, _, rfl, rfl, by rw [List.length_map, List.length_map]; have := szS_len st'; omega, ?_⟩
        rw [show List.map (fun d => D.tup [d, d]) st' ++ List.map pr ds = List.map pr (st' ++ ds) from (List.map_append).symm]
        exact ⟨szS (st' ++ ds), by rw [szS_app]; omega, st' ++ ds, _, _, rfl, by rw [Pls_app, p1.1, pl]; rfl, rfl, by rw [szS_app]; omega⟩
    | lst ds =>
      walk_at "go"
      have zt : szS [D.lst ds] = 1 + szS ds := by simp only [szS, szD]; omega
      have zl := szS_len ds
      have pl : Pls ds = true := px
      refine w_ext rfl ?_
      walk_at "go"
      refine w_rng1 ?_
      walk_at "go"
      refine ⟨_, rfl, by omega, by omega, by rw [rgD_len]; omega, ?_⟩
      refine w_cmap (fun d => pr (nthD ds d)) (fun x hx => ?_) ?_
      · obtain ⟨i, rfl, hi⟩ := rg_in hx
        walk_at "go"
        refine gIx_l (nth_ok hi) ?_
        walk_at "go"
        refine gIx_l (nth_ok hi) ?_
        walk_at "go"
        exact ⟨rfl, rfl⟩
      · rw [rg_all]
        walk_at "go"
        refine ⟨_, _, rfl, rfl, by rw [List.length_map, List.length_map]; have := szS_len st'; omega, ?_⟩
        rw [show List.map (fun d => D.tup [d, d]) st' ++ List.map pr ds = List.map pr (st' ++ ds) from (List.map_append).symm]
        exact ⟨szS (st' ++ ds), by rw [szS_app]; omega, st' ++ ds, _, _, rfl, by rw [Pls_app, p1.1, pl]; rfl, rfl, by rw [szS_app]; omega⟩
end K1
namespace K1
local macro_rules | `(tactic| walk_at "st") => `(tactic| first
  | ((with_reducible refine pick ?h1 ?h2 (fun _ _ _ _ _ => ?_)); (case h1 => assumption); (case h2 => omega))
  | ((with_reducible refine number ?h1 (fun _ _ _ _ => ?_)); (case h1 => assumption))
  | ((with_reducible refine low ?h1 (fun _ _ _ _ => ?_)); (case h1 => assumption))
  | ((with_reducible refine need ?h1 (fun _ _ _ _ => ?_)); (case h1 => assumption)))
/-! the row of an order -/
theorem g_lstrg {ρ : Ev} {fe : Ev → Res (D × Ev)} {QE : D × Ev → Prop} (h : Ok (fe ρ) fun p => ∃ n : Int, p.1 = .int n ∧ 0 ≤ n ∧ n ≤ 16777216 ∧ QE (.lst (rgD 0 n), p.2)) : Ok (dLstRg fe ρ) QE := by
  refine Ok.bind (h.imp fun p ⟨n, e, h1, h2, q⟩ => ?_)
  rw [e]
  exact Ok.iteT ⟨h1, h2⟩ (Ok.ret q)
theorem w_rngd {ρ : Ev} {fs : Ev → Res (List D × Ev)} {QS : List D × Ev → Prop} (h : Ok (fs ρ) fun p => ∃ m n : Int, p.1 = [.int m, .int n, .int (-1)] ∧ RgI m n ∧ QS (rgDn m n, p.2)) : Ok (dRngD fs ρ) QS := by
  refine Ok.bind (h.imp fun p ⟨m, n, e, h1, q⟩ => ?_)
  rw [e]
  exact Ok.iteT ⟨h1, rfl⟩ (Ok.ret q)
theorem rgn_in {a b : Int} {d : D} (h : d ∈ rgDn a b) : ∃ i : Int, d = .int i ∧ b < i ∧ i ≤ a := by
  unfold rgDn at h
  obtain ⟨i, h1, rfl⟩ := List.mem_map.mp h
  have := List.mem_range.mp h1
  exact ⟨_, rfl, by omega, by omega⟩
theorem ixN_in {n : Nat} {i : Int} (h0 : 0 ≤ i) (h1 : i < n) : ixN n i = some i.toNat := by
  unfold ixN
  rw [if_pos h0, if_pos h1]
theorem order {t : D} {many : Int} {Q : D × List D → Prop} (h : Tp t) (h0 : 0 < many) (h1 : many ≤ 16777216) (q : ∀ row t', Tp t' → row.Perm (rgD 0 many) → Q (.lst row, [t', .non])) : Ok (F__law_order [t, .int many]) Q := by
  unfold F__law_order
  walk_at "go"
  refine g_lstrg ?_
  walk_at "go"
  refine ⟨_, rfl, by omega, by omega, ?_⟩
  walk_at "go"
  refine w_rngd ?_
  walk_at "go"
  refine ⟨_, _, rfl, ⟨by omega, by omega, by omega, by omega⟩, ?_⟩
  refine w_loop (fun ds ρ => (∀ d ∈ ds, ∃ k : Int, d = .int k ∧ 0 < k ∧ k < many) ∧ ∃ t row a b c, ρ = [some t, some (.int many), some (.lst row), a, b, c] ∧ Tp t ∧ row.Perm (rgD 0 many)) ?_ ?_ _ _ ⟨fun d hd => ?_, t, rgD 0 many, _, _, _, rfl, h, List.Perm.refl _⟩
  · rintro d ds ρ ⟨hd, t, row, a, b, c, rfl, ht, hp⟩
    obtain ⟨k, rfl, k0, k1⟩ := hd d List.mem_cons_self
    have hl : row.length = many.toNat := by rw [hp.length_eq, rgD_len]
    walk_at "go"
    rename_i v t' ht' hv0 hv1
    obtain ⟨x, hx1, hx2⟩ := atI_in (xs := row) (i := k) (by omega) (by omega)
    obtain ⟨y, hy1, hy2⟩ := atI_in (xs := row) (i := v) (by omega) (by omega)
    obtain ⟨xi, rfl, _⟩ := rg_in (hp.mem_iff.mp (List.mem_of_getElem? hx1))
    obtain ⟨yi, rfl, _⟩ := rg_in (hp.mem_iff.mp (List.mem_of_getElem? hy1))
    refine gIx_l hx2 ?_
    walk_at "go"
    refine gIx_l hy2 ?_
    walk_at "go"
    refine ⟨_, _, _, rfl, rfl, ixN_in (by omega) (by omega), ?_⟩
    walk_at "go"
    refine ⟨_, _, _, rfl, rfl, ixN_in (by omega) (by rw [List.length_set]; omega), ?_⟩
    refine ⟨fun d hd' => hd d (List.mem_cons_of_mem _ hd'), t', _, _, _, _, rfl, ht', ?_⟩
    obtain ⟨l1, e1⟩ := List.getElem?_eq_some_iff.mp hx1
    obtain ⟨l2, e2⟩ := List.getElem?_eq_some_iff.mp hy1
    have z := List.set_set_perm (as := row) l1 l2
    rw [e1, e2] at z
    exact z.trans hp
  · rintro ρ ⟨_, t, row, a, b, c, rfl, ht, hp⟩
    walk_at "go"
    exact q _ _ ht hp
  · obtain ⟨i, rfl, a, b⟩ := rgn_in hd
    exact ⟨i, rfl, by omega, by omega⟩
/-! the figures -/
def sumF : Fg → Fg → Fg
  | .never, _ => .never
  | _, .never => .never
  | .deep, _ => .deep
  | _, .deep => .deep
  | .num i, .num j => .num (i + j)
def ltF : Fg → Fg → Bool
  | .deep, .deep => false
  | .deep, _ => true
  | _, .deep => false
  | .num i, .num j => decide (i < j)
  | .num _, .never => true
  | .never, _ => false
def keyF : Fg → D
  | .deep => .tup [.int 0, .int 0]
  | .never => .tup [.int 2, .int 0]
  | .num i => .tup [.int 1, .int i]
section
variable {f g : Fg} {Q : D × List D → Prop}
theorem low_sum_r (q : Q ((sumF f g).d, [.non, .non])) : Ok (F_low_sum [f.d, g.d]) Q := ⟨_, by cases f <;> cases g <;> rfl, q⟩
theorem law_sum_r (q : Q ((sumF f g).d, [.non, .non])) : Ok (F__law_sum [f.d, g.d]) Q := ⟨_, by cases f <;> cases g <;> rfl, q⟩
theorem low_rank_r (q : Q (keyF f, [.non])) : Ok (F_low_rank [f.d]) Q := ⟨_, by cases f <;> rfl, q⟩
theorem law_key_r (q : Q (keyF f, [.non])) : Ok (F__law_key [f.d]) Q := ⟨_, by cases f <;> rfl, q⟩
theorem key_lt {Q : D → Prop} (q : Q (.bl (ltF f g))) : Ok (gLt (keyF f) (keyF g)) Q := by
  refine ⟨_, ?_, q⟩
  cases f <;> cases g <;> try rfl
  rename_i i j
  show Res.ok (D.bl (HT.lexLt [1, i] [1, j])) = .ok (.bl (decide (i < j)))
  congr 2
  unfold HT.lexLt HT.lexLt HT.lexLt
  by_cases h : i < j
  · simp [h]; try omega
  · simp [h]; try omega
local macro_rules | `(tactic| walk_at "st") => `(tactic| with_reducible first | refine low_sum_r ?_ | refine law_sum_r ?_ | refine low_rank_r ?_ | refine law_key_r ?_ | refine key_lt ?_)
theorem low_less_r (q : Q (.bl (ltF f g), [.non, .non])) : Ok (F_low_less [f.d, g.d]) Q := by
  unfold F_low_less
  walk_at "go"
  exact q
end
end K1
namespace K1
local macro_rules | `(tactic| walk_at "st") => `(tactic| with_reducible first | refine low_sum_r ?_ | refine law_sum_r ?_ | refine low_rank_r ?_ | refine law_key_r ?_ | refine key_lt ?_ | refine low_less_r ?_)
local macro_rules | `(tactic| walk_at "st") => `(tactic| first
  | ((with_reducible refine pick ?h1 ?h2 (fun _ _ _ _ _ => ?_)); (case h1 => assumption); (case h2 => omega))
  | ((with_reducible refine number ?h1 (fun _ _ _ _ => ?_)); (case h1 => assumption))
  | ((with_reducible refine low ?h1 (fun _ _ _ _ => ?_)); (case h1 => assumption))
  | ((with_reducible refine need ?h1 (fun _ _ _ _ => ?_)); (case h1 => assumption)))
def needF : Fg → Fg → Bool
  | .num _, .deep => true
  | .num i, .num j => decide (i < j)
  | _, _ => false
def nkeyF : Fg → D
  | .deep => .tup [.int 1, .int 0]
  | .never => .tup [.int 0, .str "never"]
  | .num i => .tup [.int 0, .int i]
def timesF (f : Fg) (m : Int) : Fg := if m = 0 then .num 0 else match f with
  | .num i => .num (i * m)
  | .deep => .deep
  | .never => .never
def behindF : Fg → Fg → Fg
  | _, .never => .num 0
  | .deep, _ => .deep
  | _, .deep => .deep
  | .num i, .num j => .num (if i - j > 0 then i - j else 0)
  | _, _ => .deep
section
variable {f g : Fg} {Q : D × List D → Prop}
theorem lex2 {a i j : Int} : HT.lexLt [a, i] [a, j] = decide (i < j) := by
  unfold HT.lexLt HT.lexLt HT.lexLt
  by_cases h : i < j
  · simp [h]; try omega
  · simp [h]; try omega
theorem lexg2 {a i j : Int} : lexGt [a, i] [a, j] = decide (j < i) := by
  show Ob.lexAt _ _ (decide (2 > 2)) 0 2 = _
  show (if decide (a = a) = true then (if decide (i = j) = true then decide (2 > 2) else decide (j < i)) else decide (a < a)) = _
  rw [decide_eq_true rfl, if_pos rfl]
  by_cases h : i = j
  · subst h
    rw [decide_eq_true rfl, if_pos rfl, decide_eq_false (Int.lt_irrefl _)]
    rfl
  · rw [decide_eq_false h, if_neg Bool.false_ne_true]
theorem nkey_r (q : Q (nkeyF f, [.non])) : Ok (F__law_need_key [f.d]) Q := ⟨_, by cases f <;> rfl, q⟩
theorem nkey_lt (hf : f.nd) (hg : g.nd) {Q : D → Prop} (q : Q (.bl (needF f g))) : Ok (gLt (nkeyF f) (nkeyF g)) Q := by
  refine ⟨_, ?_, q⟩
  cases f with
  | never => cases hf
  | deep => cases g with
    | never => cases hg
    | _ => rfl
  | num i => cases g with
    | never => cases hg
    | deep => rfl
    | num j => exact congrArg (fun b => Res.ok (D.bl b)) lex2
theorem nkey_gt (hf : f.nd) (hg : g.nd) {Q : D → Prop} (q : Q (.bl (needF g f))) : Ok (gGt (nkeyF f) (nkeyF g)) Q := by
  refine ⟨_, ?_, q⟩
  cases f with
  | never => cases hf
  | deep => cases g with
    | never => cases hg
    | _ => rfl
  | num i => cases g with
    | never => cases hg
    | deep => rfl
    | num j => exact congrArg (fun b => Res.ok (D.bl b)) lexg2
theorem need_less_r (hf : f.nd) (hg : g.nd) (q : Q (.bl (needF f g), [.non, .non])) : Ok (F_need_less [f.d, g.d]) Q := by
  refine ⟨_, ?_, q⟩
  cases f with
  | never => cases hf
  | deep => rfl
  | num i => cases g with
    | never => cases hg
    | deep => rfl
    | num j => rfl
theorem low_times_r {m : Int} (h1 : -(2 ^ 64) < m) (h2 : m < 2 ^ 64) (q : Q ((timesF f m).d, [.non, .non])) : Ok (F_low_times [f.d, .int m]) Q := by
  unfold F_low_times
  walk_at "go"
  refine ite2 (fun hc => ?_) (fun hc => ?_)
  · have hc := of_decide_eq_true hc
    subst hc
    walk_at "go"
    exact q
  · have hc : m ≠ 0 := fun z => hc (decide_eq_true z)
    unfold timesF at q
    rw [if_neg hc] at q
    cases f with
    | never =>
      walk_at "go"
      refine Ok.mk (a := .bl true) rfl ?_
      walk_at "go"
      exact q
    | deep =>
      walk_at "go"
      refine Ok.mk (a := .bl true) rfl ?_
      walk_at "go"
      exact q
    | num i =>
      walk_at "go"
      refine Ok.mk (a := .bl false) rfl ?_
      walk_at "go"
      unfold Fg.d
      walk_at "go"
      exact q
theorem need_behind_r (hf : f.nd) (q : Q ((behindF f g).d, [.non, .non])) : Ok (F_need_behind [f.d, g.d]) Q := by
  refine ⟨_, ?_, q⟩
  cases f with
  | never => cases hf
  | deep => cases g <;> rfl
  | num i => cases g with
    | num j => rfl
    | _ => rfl
end
/-! the least of a row -/
def foldF (lt : Fg → Fg → Bool) : List Fg → Fg → Fg
  | [], b => b
  | l :: ls, b => foldF lt ls (if lt l b = true then l else b)
theorem fold_in {lt : Fg → Fg → Bool} : ∀ (ls : List Fg) (b : Fg), foldF lt ls b ∈ b :: ls
  | [], b => List.mem_cons_self
  | l :: ls, b => by
    have := fold_in (lt := lt) ls (if lt l b = true then l else b)
    unfold foldF
    by_cases h : lt l b = true
    · rw [if_pos h] at this ⊢
      exact List.mem_cons_of_mem _ this
    · rw [if_neg h] at this ⊢
      rcases List.mem_cons.mp this with e | e
      · rw [e]
        exact List.mem_cons_self
      · exact List.mem_cons_of_mem _ (List.mem_cons_of_mem _ e)
structure Ord (p : Fg → Prop) (lt : Fg → Fg → Bool) : Prop where
  ir : ∀ x, lt x x = false
  ant : ∀ x y, p x → p y → lt x y = false → lt y x = false → x = y
  tr : ∀ x y z, p x → p y → p z → lt x y = false → lt y z = false → lt x z = false
  asy : ∀ x y, lt x y = true → lt y x = false
theorem fold_least {p : Fg → Prop} {lt : Fg → Fg → Bool} (O : Ord p lt) : ∀ (ls : List Fg) (b : Fg), (∀ x ∈ b :: ls, p x) → ∀ x ∈ b :: ls, lt x (foldF lt ls b) = false
  | [], b, _, x, hx => by
    rcases List.mem_cons.mp hx with e | e
    · rw [e]
      exact O.ir b
    · cases e
  | l :: ls, b, hp, x, hx => by
    have pb := hp b List.mem_cons_self
    have pl := hp l (List.mem_cons_of_mem _ List.mem_cons_self)
    have hp' : ∀ x ∈ (if lt l b = true then l else b) :: ls, p x := fun x hx => by
      rcases List.mem_cons.mp hx with e | e
      · rw [e]
        split
        · exact pl
        · exact pb
      · exact hp x (List.mem_cons_of_mem _ (List.mem_cons_of_mem _ e))
    have ih := fold_least O ls _ hp'
    have ps : p (foldF lt ls (if lt l b = true then l else b)) := hp' _ (fold_in ls _)
    have i0 := ih _ List.mem_cons_self
    show lt x (foldF lt ls (if lt l b = true then l else b)) = false
    rcases List.mem_cons.mp hx with e | e
    · subst e
      by_cases h : lt l x = true
      · have pp : p (if lt l x = true then l else x) := hp' _ List.mem_cons_self
        refine O.tr x _ _ pb pp ps ?_ i0
        rw [if_pos h]
        exact O.asy _ _ h
      · have e : (if lt l x = true then l else x) = x := if_neg h
        rw [e] at i0 ⊢
        exact i0
    · rcases List.mem_cons.mp e with e | e
      · subst e
        by_cases h : lt x b = true
        · have e : (if lt x b = true then x else b) = x := if_pos h
          rw [e] at i0 ⊢
          exact i0
        · have pp : p (if lt x b = true then x else b) := hp' _ List.mem_cons_self
          refine O.tr x _ _ pl pp ps ?_ i0
          rw [if_neg h]
          exact Bool.not_eq_true _ ▸ h
      · exact ih x (List.mem_cons_of_mem _ e)
/-- of a row in another order it is the same -/
theorem fold_perm {p : Fg → Prop} {lt : Fg → Fg → Bool} (O : Ord p lt) {a b : Fg} {ls ms : List Fg} (hp : ∀ x ∈ a :: ls, p x) (h : (a :: ls).Perm (b :: ms)) : foldF lt (a :: ls) a = foldF lt (b :: ms) b := by
  have c1 : ∀ (a : Fg) (ls : List Fg), foldF lt (a :: ls) a ∈ a :: ls := fun a ls => by
    rcases List.mem_cons.mp (fold_in (lt := lt) (a :: ls) a) with e | e
    · rw [e]
      exact List.mem_cons_self
    · exact e
  have hp' : ∀ x ∈ b :: ms, p x := fun x hx => hp x (h.mem_iff.mpr hx)
  have c2 : ∀ (a : Fg) (ls : List Fg), (∀ x ∈ a :: ls, p x) → ∀ x ∈ a :: ls, lt x (foldF lt (a :: ls) a) = false := fun a ls hp x hx => fold_least O (a :: ls) a (fun x hx => by
    rcases List.mem_cons.mp hx with e | e
    · rw [e]
      exact hp a List.mem_cons_self
    · exact hp x e) x (List.mem_cons_of_mem _ hx)
  have m1 := c1 a ls
  have m2 := c1 b ms
  exact O.ant _ _ (hp _ m1) (hp' _ m2) (c2 b ms hp' _ (h.mem_iff.mp m1)) (c2 a ls hp _ (h.mem_iff.mpr m2))
theorem ordL : Ord (fun _ => True) ltF := by
  refine ⟨fun x => ?_, fun x y _ _ h1 h2 => ?_, fun x y z _ _ _ h1 h2 => ?_, fun x y h => ?_⟩
  · cases x <;> simp [ltF]
  · cases x <;> cases y <;> simp [ltF] at h1 h2 ⊢
    omega
  · cases x <;> cases y <;> cases z <;> simp [ltF] at h1 h2 ⊢
    omega
  · cases x <;> cases y <;> simp [ltF] at h ⊢
    omega
theorem ordN : Ord Fg.nd (fun l b => needF b l) := by
  refine ⟨fun x => ?_, fun x y p1 p2 h1 h2 => ?_, fun x y z p1 p2 p3 h1 h2 => ?_, fun x y h => ?_⟩
  · cases x <;> simp [needF]
  · cases x <;> cases y <;> simp [needF, Fg.nd] at h1 h2 p1 p2 ⊢
    omega
  · cases x <;> cases y <;> cases z <;> simp [needF, Fg.nd] at h1 h2 p1 p2 p3 ⊢
    omega
  · cases x <;> cases y <;> simp [needF] at h ⊢
    omega
end K1
namespace K1
local macro_rules | `(tactic| walk_at "st") => `(tactic| with_reducible first | refine low_sum_r ?_ | refine law_sum_r ?_ | refine low_rank_r ?_ | refine law_key_r ?_ | refine key_lt ?_ | refine low_less_r ?_)
local macro_rules | `(tactic| walk_at "st") => `(tactic| first
  | ((with_reducible refine pick ?h1 ?h2 (fun _ _ _ _ _ => ?_)); (case h1 => assumption); (case h2 => omega))
  | ((with_reducible refine number ?h1 (fun _ _ _ _ => ?_)); (case h1 => assumption))
  | ((with_reducible refine low ?h1 (fun _ _ _ _ => ?_)); (case h1 => assumption))
  | ((with_reducible refine need ?h1 (fun _ _ _ _ => ?_)); (case h1 => assumption)))
theorem same2 {d e : D} {Q : D × List D → Prop} (h : d = e) (hp : Pl d = true) (hz : szD d ≤ 16777216) (q : Q (.bl true, [.non, .non])) : Ok (F__law_same [d, e]) Q := by
  subst h
  exact same d hp hz q
theorem plF {f : Fg} : Pl f.d = true := by cases f <;> rfl
theorem szF {f : Fg} : szD f.d = 1 := by cases f <;> rfl
theorem pls_map {α : Type} {f : α → D} (h : ∀ x, Pl (f x) = true) : ∀ {xs : List α}, Pls (xs.map f) = true
  | [] => rfl
  | x :: xs => by
    show (Pl (f x) && Pls (xs.map f)) = true
    rw [h, pls_map h]
    rfl
theorem szs_map {α : Type} {f : α → D} (h : ∀ x, szD (f x) = 1) : ∀ {xs : List α}, szS (xs.map f) = xs.length
  | [] => rfl
  | x :: xs => by
    show szD (f x) + szS (xs.map f) = _
    rw [h, szs_map h, List.length_cons]
    omega
/-- the ints of a tuple -/
abbrev its (xs : List Int) : D := .tup (xs.map .int)
theorem its_pl {xs : List Int} : Pl (its xs) = true := pls_map (f := D.int) fun _ => rfl
theorem its_sz {xs : List Int} : szD (its xs) = 1 + xs.length := by
  show 1 + szS (xs.map .int) = _
  rw [szs_map fun _ => rfl]
/-- the fold of the two loops -/
theorem least_low_r {a : Fg} {ls : List Fg} {Q : D × List D → Prop} (q : Q ((foldF ltF (a :: ls) a).d, [.non])) : Ok (F_least_low [.tup ((a :: ls).map Fg.d)]) Q := by
  show Ok (F_least_low [.tup (a.d :: List.map Fg.d ls)]) Q
  unfold F_least_low
  walk_at "go"
  refine w_seqI ?_
  walk_at "go"
  refine ⟨_, rfl, ?_⟩
  refine w_loop (fun ds ρ => ∃ rest b x, ds = List.map Fg.d rest ∧ ρ = [some (.tup (a.d :: List.map Fg.d ls)), some (Fg.d b), x] ∧ foldF ltF rest b = foldF ltF (a :: ls) a) ?_ ?_ _ _ ⟨a :: ls, a, none, rfl, rfl, rfl⟩
  · rintro d ds ρ ⟨rest, b, x, e, rfl, h⟩
    cases rest with
    | nil => cases e
    | cons l rest =>
      cases e
      walk_at "go"
      refine ite2 (fun hc => ?_) (fun hc => ?_)
      · walk_at "go"
        refine ⟨rest, l, _, rfl, rfl, ?_⟩
        rw [← h, foldF, if_pos hc]
      · walk_at "go"
        refine ⟨rest, b, _, rfl, rfl, ?_⟩
        rw [← h, foldF, if_neg hc]
  · rintro ρ ⟨rest, b, x, e, rfl, h⟩
    cases rest with
    | cons _ _ => cases e
    | nil =>
      walk_at "go"
      rw [← h] at q
      exact q
theorem greatest_need_r {a : Fg} {ls : List Fg} {Q : D × List D → Prop} (hn : ∀ x ∈ a :: ls, x.nd) (q : Q ((foldF (fun l b => needF b l) (a :: ls) a).d, [.non])) : Ok (F_greatest_need [.tup ((a :: ls).map Fg.d)]) Q := by
  show Ok (F_greatest_need [.tup (a.d :: List.map Fg.d ls)]) Q
  unfold F_greatest_need
  walk_at "go"
  refine w_seqI ?_
  walk_at "go"
  refine ⟨_, rfl, ?_⟩
  refine w_loop (fun ds ρ => ∃ rest b x, ds = List.map Fg.d rest ∧ b.nd ∧ (∀ x ∈ rest, x.nd) ∧ ρ = [some (.tup (a.d :: List.map Fg.d ls)), some (Fg.d b), x] ∧ foldF (fun l b => needF b l) rest b = foldF (fun l b => needF b l) (a :: ls) a) ?_ ?_ _ _ ⟨a :: ls, a, none, rfl, hn a List.mem_cons_self, hn, rfl, rfl⟩
  · rintro d ds ρ ⟨rest, b, x, e, nb, nr, rfl, h⟩
    cases rest with
    | nil => cases e
    | cons l rest =>
      cases e
      have nl := nr l List.mem_cons_self
      walk_at "go"
      refine need_less_r nb nl ?_
      walk_at "go"
      refine ite2 (fun hc => ?_) (fun hc => ?_)
      · walk_at "go"
        refine ⟨rest, l, _, rfl, nl, fun x hx => nr x (List.mem_cons_of_mem _ hx), rfl, ?_⟩
        rw [← h, foldF, if_pos hc]
      · walk_at "go"
        refine ⟨rest, b, _, rfl, nb, fun x hx => nr x (List.mem_cons_of_mem _ hx), rfl, ?_⟩
        rw [← h, foldF, if_neg hc]
  · rintro ρ ⟨rest, b, x, e, _, _, rfl, h⟩
    cases rest with
    | cons _ _ => cases e
    | nil =>
      walk_at "go"
      rw [← h] at q
      exact q
/-! changes -/
def addP : D → D
  | .tup [.int a, .int b] => .int (a + b)
  | d => d
theorem pair_add : ∀ (xs ys : List Int), (DL.pairD (xs.map .int) (ys.map .int)).map addP = (List.zipWith (· + ·) xs ys).map .int
  | [], _ => rfl
  | _ :: _, [] => rfl
  | x :: xs, y :: ys => by
    show D.int (x + y) :: (DL.pairD (xs.map .int) (ys.map .int)).map addP = _
    rw [pair_add xs ys]
    rfl
theorem pair_len (xs ys : List D) : (DL.pairD xs ys).length ≤ xs.length := by
  unfold DL.pairD
  rw [List.length_map, List.length_zip]
  omega
theorem pair_in {xs ys : List Int} {d : D} (h : d ∈ DL.pairD (xs.map .int) (ys.map .int)) : ∃ a b : Int, d = .tup [.int a, .int b] := by
  unfold DL.pairD at h
  obtain ⟨p, h1, rfl⟩ := List.mem_map.mp h
  obtain ⟨a, ha, e1⟩ := List.mem_map.mp (List.of_mem_zip h1).1
  obtain ⟨b, hb, e2⟩ := List.mem_map.mp (List.of_mem_zip h1).2
  exact ⟨a, b, by rw [e1, e2]⟩
theorem put_change_r {xs ys : List Int} {Q : D × List D → Prop} (hl : xs.length ≤ 1000) (q : Q (its (List.zipWith (· + ·) xs ys), [.non, .non])) : Ok (F_put_change [its xs, its ys]) Q := by
  unfold F_put_change its
  walk_at "go"
  refine w_zip ?_
  walk_at "go"
  refine ⟨_, _, rfl, Nat.le_trans (pair_len _ _) (by rw [List.length_map]; omega), ?_⟩
  refine w_cmap addP (fun d hd => ?_) ?_
  · obtain ⟨a, b, rfl⟩ := pair_in hd
    walk_at "go"
    exact ⟨rfl, rfl⟩
  · rw [pair_add]
    walk_at "go"
    exact q
theorem change_sum_r {xs ys : List Int} {Q : D × List D → Prop} (hl : xs.length ≤ 1000) (q : Q (its (List.zipWith (· + ·) xs ys), [.non, .non])) : Ok (F_change_sum [its xs, its ys]) Q := by
  unfold F_change_sum its
  walk_at "go"
  refine w_zip ?_
  walk_at "go"
  refine ⟨_, _, rfl, Nat.le_trans (pair_len _ _) (by rw [List.length_map]; omega), ?_⟩
  refine w_cmap addP (fun d hd => ?_) ?_
  · obtain ⟨a, b, rfl⟩ := pair_in hd
    walk_at "go"
    exact ⟨rfl, rfl⟩
  · rw [pair_add]
    walk_at "go"
    exact q
def mulP (m : Int) : D → D
  | .int a => .int (a * m)
  | d => d
theorem mul_map (m : Int) (xs : List Int) : (xs.map D.int).map (mulP m) = (xs.map (· * m)).map .int := by
  rw [List.map_map, List.map_map]
  rfl
theorem gMul_w {i j : Int} {a b : Nat} {Q : D → Prop} (ha : i.natAbs < 2 ^ a) (hb : j.natAbs < 2 ^ b) (h0 : 0 < a) (h1 : 0 < b) (h : a + b ≤ 1000000) (q : Q (.int (i * j))) : Ok (gMul (.int i) (.int j)) Q := Ok.iteT (.inr (wide_mul ha hb h0 h1 h)) (Ok.ret q)
theorem change_times_r {xs : List Int} {m : Int} {Q : D × List D → Prop} (hl : xs.length ≤ 1000) (hx : ∀ x ∈ xs, x.natAbs < 2 ^ 200) (hm : m.natAbs < 2 ^ 70) (q : Q (its (xs.map (· * m)), [.non, .non])) : Ok (F_change_times [its xs, .int m]) Q := by
  unfold F_change_times its
  walk_at "go"
  refine w_seqI ?_
  walk_at "go"
  refine ⟨_, rfl, by rw [List.length_map]; omega, ?_⟩
  refine w_cmap (mulP m) (fun d hd => ?_) ?_
  · obtain ⟨a, ha, rfl⟩ := List.mem_map.mp hd
    walk_at "go"
    refine gMul_w (hx a ha) hm (by omega) (by omega) (by omega) ?_
    walk_at "go"
    exact ⟨rfl, rfl⟩
  · rw [mul_map]
    walk_at "go"
    exact q
def negP : D → D
  | .int a => .bl (decide (a < 0))
  | d => d
theorem bools_neg : ∀ xs : List Int, bools? ((xs.map D.int).map negP) = some (xs.map fun x => decide (x < 0))
  | [] => rfl
  | x :: xs => by
    show (bools? ((xs.map D.int).map negP)).map (decide (x < 0) :: ·) = _
    rw [bools_neg xs]
    rfl
theorem is_overdrawn_r {xs : List Int} {Q : D × List D → Prop} (hl : xs.length ≤ 1000) (q : Q (.bl (xs.any fun x => decide (x < 0)), [.non])) : Ok (F_is_overdrawn [its xs]) Q := by
  unfold F_is_overdrawn its
  walk_at "go"
  refine w_seqI ?_
  walk_at "go"
  refine ⟨_, rfl, by rw [List.length_map]; omega, ?_⟩
  refine w_cmap negP (fun d hd => ?_) ?_
  · obtain ⟨a, ha, rfl⟩ := List.mem_map.mp hd
    walk_at "go"
    exact ⟨rfl, rfl⟩
  · walk_at "go"
    refine Ok.mk (a := .bl (xs.any fun x => decide (x < 0))) ?_ ?_
    · show (match bools? ((xs.map D.int).map negP) with
        | some bs => Res.ok (D.bl (bs.any id))
        | none => .err) = _
      rw [bools_neg]
      show Res.ok (D.bl ((xs.map fun x => decide (x < 0)).any id)) = _
      rw [List.any_map]
      rfl
    · walk_at "go"
      exact q
end K1
namespace K1
local macro_rules | `(tactic| walk_at "st") => `(tactic| first
  | ((with_reducible refine put_change_r ?h1 ?_); (case h1 => omega))
  | ((with_reducible refine change_sum_r ?h1 ?_); (case h1 => omega))
  | ((with_reducible refine is_overdrawn_r ?h1 ?_); (case h1 => omega)))
local macro_rules | `(tactic| walk_at "st") => `(tactic| with_reducible first | refine low_sum_r ?_ | refine law_sum_r ?_ | refine low_rank_r ?_ | refine law_key_r ?_ | refine key_lt ?_ | refine low_less_r ?_)
local macro_rules | `(tactic| walk_at "st") => `(tactic| first
  | ((with_reducible refine pick ?h1 ?h2 (fun _ _ _ _ _ => ?_)); (case h1 => assumption); (case h2 => omega))
  | ((with_reducible refine number ?h1 (fun _ _ _ _ => ?_)); (case h1 => assumption))
  | ((with_reducible refine low ?h1 (fun _ _ _ _ => ?_)); (case h1 => assumption))
  | ((with_reducible refine need ?h1 (fun _ _ _ _ => ?_)); (case h1 => assumption)))
def nthI (xs : List Int) : D → Int
  | .int k => xs.getD k.toNat 0
  | _ => 0
theorem nthI_ok {xs : List Int} {i : Nat} (h : (i : Int) < xs.length) : atI (xs.map D.int) i = some (.int (nthI xs (.int i))) := by
  have h1 : i < xs.length := by omega
  refine atI_nat ?_
  rw [List.getElem?_map, List.getElem?_eq_getElem h1]
  show some (D.int _) = some (D.int (xs.getD i 0))
  rw [List.getD_eq_getElem?_getD, List.getElem?_eq_getElem h1]
  rfl
theorem rg_zip {xs ys : List Int} {m : Int} (h1 : (xs.length : Int) = m) (h2 : (ys.length : Int) = m) : (rgD 0 m).map (fun d => D.int (nthI xs d + nthI ys d)) = (List.zipWith (· + ·) xs ys).map .int := by
  unfold rgD
  rw [List.map_map]
  refine List.ext_getElem? fun i => ?_
  rw [List.getElem?_map, List.getElem?_map, List.getElem?_zipWith]
  by_cases h : i < xs.length
  · have h3 : i < (m - 0).toNat := by omega
    have h4 : i < ys.length := by omega
    rw [List.getElem?_range h3, List.getElem?_eq_getElem h, List.getElem?_eq_getElem h4]
    show some (D.int (xs.getD ((0 : Int) + i).toNat 0 + ys.getD ((0 : Int) + i).toNat 0)) = some (D.int (xs[i] + ys[i]))
    rw [show ((0 : Int) + i).toNat = i by omega, List.getD_eq_getElem?_getD, List.getElem?_eq_getElem h, List.getD_eq_getElem?_getD, List.getElem?_eq_getElem h4]
    rfl
  · have h3 : (m - 0).toNat ≤ i := by omega
    rw [List.getElem?_eq_none (by rw [List.length_range]; exact h3), List.getElem?_eq_none (l := xs) (by omega)]
    cases ys[i]? <;> rfl
theorem sz2 {xs : List Int} (h : xs.length ≤ 1000) : szD (its xs) ≤ 16777216 := by
  rw [its_sz]
  omega
theorem zip_len {xs ys : List Int} : (List.zipWith (· + ·) xs ys).length ≤ xs.length := by
  rw [List.length_zipWith]
  omega
theorem any_len (xs : List Int) : (xs.any fun x => decide (x < 0)) = decide ((0 : Int) < (List.map D.int (xs.filter fun x => decide (x < 0))).length) := by
  rw [List.length_map]
  induction xs with
  | nil => rfl
  | cons x xs ih =>
    rw [List.any_cons, List.filter_cons]
    by_cases h : x < 0
    · rw [decide_eq_true h, Bool.true_or, if_pos rfl]
      exact (decide_eq_true (by rw [List.length_cons]; omega)).symm
    · rw [decide_eq_false h, Bool.false_or, if_neg Bool.false_ne_true]
      exact ih
theorem changes {t : D} {Q : D × List D → Prop} (h : Tp t) (q : ∀ t', Tp t' → Q (.bl true, [t'])) : Ok (F__law_changes [t]) Q := by
  unfold F__law_changes
  walk_at "go"
  rename_i v t1 ht1 hv0 hv1 hb t2 ht2 hb0 hb1
  generalize hm : 1 + v = m
  refine w_rng1 ?_
  walk_at "go"
  refine ⟨_, rfl, by omega, by omega, by rw [rgD_len]; omega, ?_⟩
  refine w_cloop (fun ds acc ρ => ∃ t xs, acc = List.map D.int xs ∧ (∀ x ∈ xs, x.natAbs < 2 ^ 200) ∧ (xs.length : Int) + ds.length = m ∧ Tp t ∧ ρ = [some t, some (.int m), some (.int hb), none, none, none, none, none, none, none, none]) ?_ ?_ ⟨t2, [], rfl, (fun x hx => nomatch hx), by rw [rgD_len]; show (0 : Int) + _ = _; omega, ht2, rfl⟩
  · rintro d ds acc ρ ⟨t, xs, rfl, hx, hl, ht, rfl⟩
    walk_at "go"
    rename_i w t3 ht3 hw
    refine ⟨t3, xs ++ [if w < 0 then -w else w], by rw [List.map_append]; rfl, fun x hx' => ?_, ?_, ht3, rfl⟩
    · rcases List.mem_append.mp hx' with e | e
      · exact hx x e
      · rw [List.mem_singleton.mp e]
        split <;> omega
    · rw [List.length_append, List.length_singleton]
      rw [List.length_cons] at hl
      omega
  rintro acc ρ ⟨t3, xs, rfl, hx, hlx, ht3, rfl⟩
  walk_at "go"
  refine w_rng1 ?_
  walk_at "go"
  refine ⟨_, rfl, by omega, by omega, by rw [rgD_len]; omega, ?_⟩
  refine w_cloop (fun ds acc ρ => ∃ t ys, acc = List.map D.int ys ∧ (∀ x ∈ ys, x.natAbs < 2 ^ 200) ∧ (ys.length : Int) + ds.length = m ∧ Tp t ∧ ρ = [some t, some (.int m), some (.int hb), some (its xs), none, none, none, none, none, none, none]) ?_ ?_ ⟨t3, [], rfl, (fun x hx => nomatch hx), by rw [rgD_len]; show (0 : Int) + _ = _; omega, ht3, rfl⟩
  · rintro d ds acc ρ ⟨t, ys, rfl, hx, hl, ht, rfl⟩
    walk_at "go"
    rename_i w t3 ht3 hw
    refine ⟨t3, ys ++ [w], by rw [List.map_append]; rfl, fun x hx' => ?_, ?_, ht3, rfl⟩
    · rcases List.mem_append.mp hx' with e | e
      · exact hx x e
      · rw [List.mem_singleton.mp e]
        exact hw
    · rw [List.length_append, List.length_singleton]
      rw [List.length_cons] at hl
      omega
  rintro acc ρ ⟨t4, ys, rfl, hy, hly, ht4, rfl⟩
  walk_at "go"
  refine w_rng1 ?_
  walk_at "go"
  refine ⟨_, rfl, by omega, by omega, by rw [rgD_len]; omega, ?_⟩
  refine w_cloop (fun ds acc ρ => ∃ t zs, acc = List.map D.int zs ∧ (∀ x ∈ zs, x.natAbs < 2 ^ 200) ∧ (zs.length : Int) + ds.length = m ∧ Tp t ∧ ρ = [some t, some (.int m), some (.int hb), some (its xs), some (its ys), none, none, none, none, none, none]) ?_ ?_ ⟨t4, [], rfl, (fun x hx => nomatch hx), by rw [rgD_len]; show (0 : Int) + _ = _; omega, ht4, rfl⟩
  · rintro d ds acc ρ ⟨t, ys, rfl, hx, hl, ht, rfl⟩
    walk_at "go"
    rename_i w t3 ht3 hw
    refine ⟨t3, ys ++ [w], by rw [List.map_append]; rfl, fun x hx' => ?_, ?_, ht3, rfl⟩
    · rcases List.mem_append.mp hx' with e | e
      · exact hx x e
      · rw [List.mem_singleton.mp e]
        exact hw
    · rw [List.length_append, List.length_singleton]
      rw [List.length_cons] at hl
      omega
  rintro acc ρ ⟨t5, zs, rfl, hz, hlz, ht5, rfl⟩
  have hlx : (xs.length : Int) = m := by simpa using hlx
  have hly : (ys.length : Int) = m := by simpa using hly
  have hlz : (zs.length : Int) = m := by simpa using hlz
  walk_at "go"
  refine w_rng1 ?_
  walk_at "go"
  refine ⟨_, rfl, by omega, by omega, by rw [rgD_len]; omega, ?_⟩
  refine w_cmap (fun d => .int (nthI xs d + nthI ys d)) (fun d hd => ?_) ?_
  · obtain ⟨i, rfl, hi⟩ := rg_in hd
    walk_at "go"
    refine gIx_t (nthI_ok (by omega)) ?_
    walk_at "go"
    refine gIx_t (nthI_ok (by omega)) ?_
    walk_at "go"
    exact ⟨rfl, rfl⟩
  rw [rg_zip hlx hly]
  walk_at "go"
  refine same2 rfl its_pl (sz2 (Nat.le_trans zip_len (by omega))) ?_
  walk_at "go"
  refine w_rng1 ?_
  walk_at "go"
  refine ⟨_, rfl, by omega, by omega, by rw [rgD_len]; omega, ?_⟩
  refine w_cmap (fun d => .int (nthI ys d + nthI zs d)) (fun d hd => ?_) ?_
  · obtain ⟨i, rfl, hi⟩ := rg_in hd
    walk_at "go"
    refine gIx_t (nthI_ok (by omega)) ?_
    walk_at "go"
    refine gIx_t (nthI_ok (by omega)) ?_
    walk_at "go"
    exact ⟨rfl, rfl⟩
  rw [rg_zip hly hlz]
  walk_at "go"
  have hc : List.zipWith (· + ·) zs ys = List.zipWith (· + ·) ys zs := List.zipWith_comm_of_comm Int.add_comm
  rw [hc]
  have hpl : Pl (its (List.zipWith (· + ·) ys zs)) = true := its_pl
  have hzl : szD (its (List.zipWith (· + ·) ys zs)) ≤ 1001 := by
    rw [its_sz]
    have := zip_len (xs := ys) (ys := zs)
    omega
  refine same2 rfl (by simp only [Pl, Pls] at hpl ⊢; rw [hpl]; rfl) (by simp only [szD, szS] at hzl ⊢; omega) ?_
  walk_at "go"
  rename_i v3 t6 ht6 hv30 hv31 v4 t7 ht7 hv40 hv41
  refine Ok.imp (P := fun r => ∃ k : Int, r = .int k ∧ k.natAbs < 2 ^ 70) ?_ ?_
  · have : v4 = 0 ∨ v4 = 1 ∨ v4 = 2 ∨ v4 = 3 ∨ v4 = 4 := by omega
    rcases this with rfl | rfl | rfl | rfl | rfl
    · exact Ok.mk rfl ⟨_, rfl, by decide⟩
    · exact Ok.mk rfl ⟨_, rfl, by decide⟩
    · exact Ok.mk rfl ⟨_, rfl, by decide⟩
    · exact Ok.mk rfl ⟨_, rfl, by omega⟩
    · exact Ok.mk rfl ⟨_, rfl, by decide⟩
  rintro _ ⟨k, rfl, hk⟩
  walk_at "go"
  refine change_times_r (by omega) hy hk ?_
  walk_at "go"
  refine w_seqI ?_
  walk_at "go"
  refine ⟨_, rfl, by rw [List.length_map]; omega, ?_⟩
  refine w_cmap (mulP k) (fun d hd => ?_) ?_
  · obtain ⟨a, ha, rfl⟩ := List.mem_map.mp hd
    walk_at "go"
    refine gMul_w hk (hy a ha) (by omega) (by omega) (by omega) ?_
    walk_at "go"
    exact ⟨by rw [Int.mul_comm]; rfl, rfl⟩
  rw [mul_map]
  walk_at "go"
  refine same2 rfl its_pl (sz2 (by rw [List.length_map]; omega)) ?_
  walk_at "go"
  refine w_seqI ?_
  walk_at "go"
  refine ⟨_, rfl, ?_⟩
  refine w_loop (fun ds ρ => (∀ d ∈ ds, ∃ ws, d = its ws ∧ ws.length ≤ 1000) ∧ ∃ x, ρ = [some t7, some (.int m), some (.int hb), some (its xs), some (its ys), some (its zs), some (its (List.zipWith (· + ·) ys zs)), some (.int k), x, none, none]) ?_ ?_ _ _ ⟨fun d hd => ?_, _, rfl⟩
  · rintro d ds ρ ⟨hd, x, rfl⟩
    obtain ⟨ws, rfl, hw⟩ := hd d List.mem_cons_self
    walk_at "go"
    refine w_seqI ?_
    walk_at "go"
    refine ⟨_, rfl, by rw [List.length_map]; omega, ?_⟩
    refine w_cloop (fun es acc ρ => ∃ done rest, es = List.map D.int rest ∧ ws = done ++ rest ∧ acc = List.map D.int (done.filter fun x => decide (x < 0)) ∧ ρ = [some t7, some (.int m), some (.int hb), some (its xs), some (its ys), some (its zs), some (its (List.zipWith (· + ·) ys zs)), some (.int k), some (its ws), none, none]) ?_ ?_ ⟨[], ws, rfl, rfl, rfl, rfl⟩
    · rintro d es acc ρ ⟨done, rest, e, e2, rfl, rfl⟩
      cases rest with
      | nil => cases e
      | cons r rest =>
        cases e
        walk_at "go"
        refine ite2 (fun hc => ?_) (fun hc => ?_)
        · walk_at "go"
          refine ⟨done ++ [r], rest, rfl, by rw [e2, List.append_assoc]; rfl, ?_, rfl⟩
          rw [List.filter_append, List.map_append]
          show _ = _ ++ List.map D.int (List.filter _ [r])
          rw [List.filter_cons, if_pos hc]
          rfl
        · refine ⟨done ++ [r], rest, rfl, by rw [e2, List.append_assoc]; rfl, ?_, rfl⟩
          rw [List.filter_append, List.map_append]
          show _ = _ ++ List.map D.int (List.filter _ [r])
          rw [List.filter_cons, if_neg hc]
          exact (List.append_nil _).symm
    rintro acc ρ ⟨done, rest, e, e2, rfl, rfl⟩
    cases rest with
    | cons _ _ => cases e
    | nil =>
      rw [List.append_nil] at e2
      subst e2
      walk_at "go"
      refine same2 (by rw [any_len]) rfl (by show 1 ≤ 16777216; decide) ?_
      walk_at "go"
      exact ⟨fun d hd' => hd d (List.mem_cons_of_mem _ hd'), _, rfl⟩
  · rintro ρ ⟨_, x, rfl⟩
    walk_at "go"
    exact q _ ht7
  · rcases List.mem_cons.mp hd with rfl | hd
    · exact ⟨xs, rfl, by omega⟩
    rcases List.mem_cons.mp hd with rfl | hd
    · exact ⟨ys, rfl, by omega⟩
    rcases List.mem_cons.mp hd with rfl | hd
    · exact ⟨zs, rfl, by omega⟩
    rcases List.mem_cons.mp hd with rfl | hd
    · exact ⟨_, rfl, Nat.le_trans zip_len (by omega)⟩
    cases hd
end K1
namespace K1
local macro_rules | `(tactic| walk_at "st") => `(tactic| first
  | ((with_reducible refine put_change_r ?h1 ?_); (case h1 => omega))
  | ((with_reducible refine change_sum_r ?h1 ?_); (case h1 => omega))
  | ((with_reducible refine is_overdrawn_r ?h1 ?_); (case h1 => omega)))
local macro_rules | `(tactic| walk_at "st") => `(tactic| with_reducible first | refine low_sum_r ?_ | refine law_sum_r ?_ | refine low_rank_r ?_ | refine law_key_r ?_ | refine key_lt ?_ | refine low_less_r ?_)
local macro_rules | `(tactic| walk_at "st") => `(tactic| first
  | ((with_reducible refine pick ?h1 ?h2 (fun _ _ _ _ _ => ?_)); (case h1 => assumption); (case h2 => omega))
  | ((with_reducible refine number ?h1 (fun _ _ _ _ => ?_)); (case h1 => assumption))
  | ((with_reducible refine low ?h1 (fun _ _ _ _ => ?_)); (case h1 => assumption))
  | ((with_reducible refine need ?h1 (fun _ _ _ _ => ?_)); (case h1 => assumption)))
/-! lows and needs -/
def unF : D → Fg
  | .int i => .num i
  | .str x => if x = "never" then .never else .deep
  | _ => .deep
theorem unF_d {f : Fg} : unF f.d = f := by cases f <;> rfl
theorem unF_map (ls : List Fg) : (ls.map Fg.d).map unF = ls := by
  rw [List.map_map]
  induction ls with
  | nil => rfl
  | cons l ls ih =>
    rw [List.map_cons, ih]
    show unF l.d :: ls = _
    rw [unF_d]
theorem mixed_ok {ls : List Fg} {row : List D} (h : row.Perm (rgD 0 (ls.map Fg.d).length)) : ∃ ms : List Fg, row.map (nthD (ls.map Fg.d)) = ms.map Fg.d ∧ ls.Perm ms := by
  have e : (rgD 0 (ls.map Fg.d).length).map (nthD (ls.map Fg.d)) = ls.map Fg.d := by
    have := rg_all (ls.map Fg.d) id
    rw [List.map_id] at this
    exact this
  have p1 : (row.map (nthD (ls.map Fg.d))).Perm (ls.map Fg.d) := by
    have z := h.map (nthD (ls.map Fg.d))
    rw [e] at z
    exact z
  refine ⟨(row.map (nthD (ls.map Fg.d))).map unF, ?_, ?_⟩
  · rw [List.map_map]
    refine (List.map_id _).symm.trans (List.map_congr_left fun d hd => ?_)
    obtain ⟨f, _, rfl⟩ := List.mem_map.mp (p1.mem_iff.mp hd)
    show f.d = (unF f.d).d
    rw [unF_d]
  · have p2 := p1.map unF
    rw [unF_map] at p2
    exact p2.symm
theorem sum_comm (f g : Fg) : sumF f g = sumF g f := by
  cases f <;> cases g <;> simp [sumF]
  omega
theorem sum_assoc (f g h : Fg) : sumF (sumF f g) h = sumF f (sumF g h) := by
  cases f <;> cases g <;> cases h <;> simp [sumF]
  omega
theorem lt_irr (f : Fg) : ltF f f = false := ordL.ir f
theorem nd_irr (f : Fg) : needF f f = false := ordN.ir f
theorem times_succ (f : Fg) (k : Int) (h : 0 ≤ k) : sumF (timesF f k) f = timesF f (k + 1) := by
  have h1 : ¬ k + 1 = 0 := by omega
  unfold timesF
  rw [if_neg h1]
  by_cases h2 : k = 0
  · rw [if_pos h2]
    subst h2
    cases f <;> simp [sumF]
  · rw [if_neg h2]
    cases f <;> simp [sumF]
    rw [Int.mul_add, Int.mul_one]
def isS : Fg → Bool
  | .num _ => false
  | _ => true
theorem isS_r {f : Fg} {Q : D → Prop} (q : Q (.bl (isS f))) : Ok (gIsi [f.d, .ty "str"]) Q := ⟨_, by cases f <;> rfl, q⟩
local macro_rules | `(tactic| walk_at "st") => `(tactic| (with_reducible refine isS_r ?_))
local macro_rules | `(tactic| walk_at "st") => `(tactic| (with_reducible refine w_par3 ?_))
local macro_rules | `(tactic| walk_at "st") => `(tactic| (with_reducible refine w_par2 ?_))
theorem tup_pl {fs : List D} (h : Pls fs = true) : Pl (.tup fs) = true := h
theorem lows {t : D} {Q : D × List D → Prop} (h : Tp t) (q : ∀ t', Tp t' → Q (.bl true, [t'])) : Ok (F__law_lows [t]) Q := by
  unfold F__law_lows
  walk_at "go"
  rename_i one t1 ht1 s1 two t2 ht2 s2 thr t3 ht3 s3
  refine ⟨_, _, _, rfl, ?_⟩
  walk_at "go"
  refine same2 ?_ ?_ ?_ ?_
  · rw [sum_comm two one, lt_irr]
  · refine tup_pl ?_
    simp only [Pls, Pl, plF, Bool.and_true, Bool.and_self]
  · simp only [szD, szS, szF]
    omega
  walk_at "go"
  refine same2 ?_ plF (by rw [szF]; omega) ?_
  · rw [sum_assoc]
  walk_at "go"
  refine w_rng1 ?_
  walk_at "go"
  rename_i v t4 ht4 hv0 hv1
  refine ⟨_, rfl, by omega, by omega, by rw [rgD_len]; omega, ?_⟩
  refine w_cloop (fun ds acc ρ => ∃ (t : D) (ls : List Fg), acc = List.map Fg.d ls ∧ (ls.length : Int) + ds.length = 1 + v ∧ Tp t ∧ ρ = [some t, some one.d, some two.d, some thr.d, some (.tup [(sumF one two).d, (sumF one two).d, .bl (ltF one two), .bl (ltF two one), .bl false]), none, none, none, none, none, none, none, none]) ?_ ?_ ⟨t4, [], rfl, by rw [rgD_len]; show (0 : Int) + _ = _; omega, ht4, rfl⟩
  · rintro d ds acc ρ ⟨t, ls, rfl, hl, ht, rfl⟩
    walk_at "go"
    rename_i w t3 ht3 hw
    refine ⟨t3, ls ++ [w], by rw [List.map_append]; rfl, ?_, ht3, rfl⟩
    rw [List.length_append, List.length_singleton]
    rw [List.length_cons] at hl
    omega
  rintro acc ρ ⟨t5, ls, rfl, hl, ht5, rfl⟩
  have hl : (ls.length : Int) = 1 + v := by simpa using hl
  cases ls with
  | nil => simp at hl; omega
  | cons a ls =>
    walk_at "go"
    simp only [List.map_cons]
    walk_at "go"
    refine w_seqI ?_
    walk_at "go"
    refine ⟨_, rfl, ?_⟩
    refine w_loop (fun ds ρ => ∃ rest b x, ds = List.map Fg.d rest ∧ foldF ltF rest b = foldF ltF (a :: ls) a ∧ ρ = [some t5, some one.d, some two.d, some thr.d, some (.tup [(sumF one two).d, (sumF one two).d, .bl (ltF one two), .bl (ltF two one), .bl false]), some (.tup (a.d :: List.map Fg.d ls)), some (Fg.d b), x, none, none, none, none, none]) ?_ ?_ _ _ ⟨a :: ls, a, none, rfl, rfl, rfl⟩
    · rintro d ds ρ ⟨rest, b, x, e, h, rfl⟩
      cases rest with
      | nil => cases e
      | cons l rest =>
        cases e
        walk_at "go"
        refine ite2 (fun hc => ?_) (fun hc => ?_)
        · walk_at "go"
          refine ⟨rest, l, _, rfl, ?_, rfl⟩
          rw [← h, foldF, if_pos hc]
        · walk_at "go"
          refine ⟨rest, b, _, rfl, ?_, rfl⟩
          rw [← h, foldF, if_neg hc]
    rintro ρ ⟨rest, b, x1, e, h, rfl⟩
    cases rest with
    | cons _ _ => cases e
    | nil =>
      have h : b = foldF ltF (a :: ls) a := h
      walk_at "go"
      refine w_seqI ?_
      walk_at "go"
      refine order ht5 (by omega) (by rw [List.length_map]; rw [List.length_cons] at hl; omega) fun row t6 ht6 hp => ?_
      walk_at "go"
      obtain ⟨ms, hm, pm⟩ := mixed_ok (ls := a :: ls) hp
      have hlen : row.length = ls.length + 1 := by
        have := congrArg List.length hm
        rw [List.length_map, List.length_map, ← pm.length_eq] at this
        exact this
      refine ⟨_, rfl, by rw [hlen]; rw [List.length_cons] at hl; omega, ?_⟩
      refine w_cmap (nthD (a.d :: List.map Fg.d ls)) (fun d hd => ?_) ?_
      · obtain ⟨i, rfl, hi⟩ := rg_in (hp.mem_iff.mp hd)
        walk_at "go"
        refine gIx_t (nth_ok hi) ?_
        walk_at "go"
        exact ⟨rfl, rfl⟩
      rw [show List.map (nthD (a.d :: List.map Fg.d ls)) row = ms.map Fg.d from hm]
      cases ms with
      | nil => cases pm.length_eq
      | cons c ms =>
        walk_at "go"
        refine least_low_r (a := a) (ls := ls) ?_
        walk_at "go"
        refine least_low_r (a := c) (ls := ms) ?_
        walk_at "go"
        refine least_low_r (a := one) (ls := []) ?_
        walk_at "go"
        have e1 : foldF ltF (c :: ms) c = foldF ltF (a :: ls) a := (fold_perm ordL (fun _ _ => trivial) pm).symm
        have e2 : foldF ltF [one] one = one := by
          show (if ltF one one = true then one else one) = one
          split <;> rfl
        rw [e1, e2, ← h]
        refine same2 rfl ?_ ?_ ?_
        · refine tup_pl ?_
          simp only [Pls, Pl, plF, Bool.and_true, Bool.and_self]
        · simp only [szD, szS, szF]
          omega
        walk_at "go"
        rename_i v5 t7 ht7 hv50 hv51
        refine w_rng1 ?_
        walk_at "go"
        refine ⟨_, rfl, by omega, by omega, ?_⟩
        refine w_loop (fun ds ρ => ∃ (k : Int) (x : Option D), 0 ≤ k ∧ k + ds.length = v5 ∧ ρ = [some t7, some one.d, some two.d, some thr.d, some (timesF one k).d, some (.tup (a.d :: List.map Fg.d ls)), some (Fg.d b), x1, some (.tup (c.d :: List.map Fg.d ms)), some (.int v5), x, none, none]) ?_ ?_ _ _ ⟨0, none, by omega, by rw [rgD_len]; omega, rfl⟩
        · rintro d ds ρ ⟨k, x, k0, k1, rfl⟩
          walk_at "go"
          refine ⟨k + 1, some d, by omega, by rw [List.length_cons] at k1; omega, ?_⟩
          rw [← times_succ one k k0]
          rfl
        rintro ρ ⟨k, x, k0, k1, rfl⟩
        have k1 : k = v5 := by simpa using k1
        subst k1
        walk_at "go"
        refine ite2 (fun hc => ?_) (fun hc => ?_)
        · have hc := of_decide_eq_true hc
          walk_at "go"
          refine ite2 (fun hc => ?_) (fun hc => ?_)
          · walk_at "go"
            exact q _ ht7
          · walk_at "go"
            refine low_times_r (by omega) (by omega) ?_
            walk_at "go"
            refine same2 rfl plF (by rw [szF]; omega) ?_
            walk_at "go"
            rename_i w t8 ht8 hw0 hw1
            generalize hg : (10 : Int) ^ 6 + w = gr
            have e10 : (10 : Int) ^ 6 = 1000000 := by decide
            have hgr : gr < 2 ^ 64 ∧ 0 < gr := by rw [e10] at hg; omega
            refine low_times_r (by omega) (by omega) ?_
            walk_at "go"
            refine ite2 (fun hc => ?_) (fun hc => ?_)
            · have e : timesF two gr = two := by
                unfold timesF
                rw [if_neg (by omega)]
                cases two with
                | num i => cases hc
                | _ => rfl
              rw [e]
              walk_at "go"
              refine same2 rfl plF (by rw [szF]; omega) ?_
              walk_at "go"
              exact q _ ht8
            · cases two with
              | never => exact absurd rfl hc
              | deep => exact absurd rfl hc
              | num i =>
                have e : timesF (.num i) gr = .num (i * gr) := by
                  unfold timesF
                  rw [if_neg (by omega)]
                rw [e]
                walk_at "go"
                unfold Fg.d
                walk_at "go"
                refine same2 rfl rfl (by show 1 ≤ 16777216; decide) ?_
                walk_at "go"
                exact q _ ht8
        · walk_at "go"
          refine low_times_r (by omega) (by omega) ?_
          walk_at "go"
          refine same2 rfl plF (by rw [szF]; omega) ?_
          walk_at "go"
          rename_i w t8 ht8 hw0 hw1
          generalize hg : (10 : Int) ^ 6 + w = gr
          have e10 : (10 : Int) ^ 6 = 1000000 := by decide
          have hgr : gr < 2 ^ 64 ∧ 0 < gr := by rw [e10] at hg; omega
          refine low_times_r (by omega) (by omega) ?_
          walk_at "go"
          refine ite2 (fun hc => ?_) (fun hc => ?_)
          · have e : timesF two gr = two := by
              unfold timesF
              rw [if_neg (by omega)]
              cases two with
              | num i => cases hc
              | _ => rfl
            rw [e]
            walk_at "go"
            refine same2 rfl plF (by rw [szF]; omega) ?_
            walk_at "go"
            exact q _ ht8
          · cases two with
            | never => exact absurd rfl hc
            | deep => exact absurd rfl hc
            | num i =>
              have e : timesF (.num i) gr = .num (i * gr) := by
                unfold timesF
                rw [if_neg (by omega)]
              rw [e]
              walk_at "go"
              unfold Fg.d
              walk_at "go"
              refine same2 rfl rfl (by show 1 ≤ 16777216; decide) ?_
              walk_at "go"
              exact q _ ht8
end K1
namespace K1
local macro_rules | `(tactic| walk_at "st") => `(tactic| first
  | ((with_reducible refine put_change_r ?h1 ?_); (case h1 => omega))
  | ((with_reducible refine change_sum_r ?h1 ?_); (case h1 => omega))
  | ((with_reducible refine is_overdrawn_r ?h1 ?_); (case h1 => omega)))
local macro_rules | `(tactic| walk_at "st") => `(tactic| with_reducible first | refine low_sum_r ?_ | refine law_sum_r ?_ | refine low_rank_r ?_ | refine law_key_r ?_ | refine key_lt ?_ | refine low_less_r ?_)
local macro_rules | `(tactic| walk_at "st") => `(tactic| first
  | ((with_reducible refine pick ?h1 ?h2 (fun _ _ _ _ _ => ?_)); (case h1 => assumption); (case h2 => omega))
  | ((with_reducible refine number ?h1 (fun _ _ _ _ => ?_)); (case h1 => assumption))
  | ((with_reducible refine low ?h1 (fun _ _ _ _ => ?_)); (case h1 => assumption))
  | ((with_reducible refine need ?h1 (fun _ _ _ _ => ?_)); (case h1 => assumption)))
theorem gEq_t {d e : D} {Q : D → Prop} (h : gEq d e = .ok (.bl true)) (q : Q (.bl true)) : Ok (gEq d e) Q := ⟨_, h, q⟩
theorem gEq_f {d e : D} {Q : D → Prop} (h : gEq d e = .ok (.bl false)) (q : Q (.bl false)) : Ok (gEq d e) Q := ⟨_, h, q⟩
local macro_rules | `(tactic| walk_at "st") => `(tactic| first
  | ((with_reducible refine gEq_t ?h1 ?_); (case h1 => rfl))
  | ((with_reducible refine gEq_f ?h1 ?_); (case h1 => rfl))
  | ((with_reducible show Ok (gSub (Fg.d _) (Fg.d _)) _); refine Ok.mk rfl ?_)
  | ((with_reducible show Ok (gMax2 _) _); refine Ok.mk rfl ?_)
  | (with_reducible refine w_par2 ?_)
  | (with_reducible refine nkey_r ?_)
  | ((with_reducible refine nkey_lt ?h1 ?h2 ?_); (case h1 => assumption); (case h2 => assumption))
  | ((with_reducible refine nkey_gt ?h1 ?h2 ?_); (case h1 => assumption); (case h2 => assumption))
  | ((with_reducible refine need_less_r ?h1 ?h2 ?_); (case h1 => assumption); (case h2 => assumption))
  | ((with_reducible refine need_behind_r ?h1 ?_); (case h1 => assumption)))
theorem needs {t : D} {Q : D × List D → Prop} (h : Tp t) (q : ∀ t', Tp t' → Q (.bl true, [t'])) : Ok (F__law_needs [t]) Q := by
  unfold F__law_needs
  walk_at "go"
  rename_i one t1 ht1 n1 two t2 ht2 n2
  refine ⟨_, _, rfl, ?_⟩
  walk_at "go"
  refine same2 ?_ ?_ ?_ ?_
  · rw [nd_irr]
  · rfl
  · show 4 ≤ 16777216
    decide
  walk_at "go"
  refine w_rng1 ?_
  walk_at "go"
  rename_i v t4 ht4 hv0 hv1
  refine ⟨_, rfl, by omega, by omega, by rw [rgD_len]; omega, ?_⟩
  refine w_cloop (fun ds acc ρ => ∃ (t : D) (ls : List Fg), acc = List.map Fg.d ls ∧ (∀ x ∈ ls, x.nd) ∧ (ls.length : Int) + ds.length = 1 + v ∧ Tp t ∧ ρ = [some t, some one.d, some two.d, none, none, none, none, none, none, none]) ?_ ?_ ⟨t4, [], rfl, (fun x hx => nomatch hx), by rw [rgD_len]; show (0 : Int) + _ = _; omega, ht4, rfl⟩
  · rintro d ds acc ρ ⟨t, ls, rfl, hn, hl, ht, rfl⟩
    walk_at "go"
    rename_i w t3 ht3 hw
    refine ⟨t3, ls ++ [w], by rw [List.map_append]; rfl, fun x hx' => ?_, ?_, ht3, rfl⟩
    · rcases List.mem_append.mp hx' with e | e
      · exact hn x e
      · rw [List.mem_singleton.mp e]
        exact hw
    · rw [List.length_append, List.length_singleton]
      rw [List.length_cons] at hl
      omega
  rintro acc ρ ⟨t5, ls, rfl, hn, hl, ht5, rfl⟩
  have hl : (ls.length : Int) = 1 + v := by simpa using hl
  cases ls with
  | nil => simp at hl; omega
  | cons a ls =>
    walk_at "go"
    simp only [List.map_cons]
    walk_at "go"
    refine w_seqI ?_
    walk_at "go"
    refine ⟨_, rfl, ?_⟩
    refine w_loop (fun ds ρ => ∃ rest b x, ds = List.map Fg.d rest ∧ b.nd ∧ (∀ x ∈ rest, x.nd) ∧ foldF (fun l b => needF b l) rest b = foldF (fun l b => needF b l) (a :: ls) a ∧ ρ = [some t5, some one.d, some two.d, some (.tup (a.d :: List.map Fg.d ls)), some (Fg.d b), x, none, none, none, none]) ?_ ?_ _ _ ⟨a :: ls, a, none, rfl, hn a List.mem_cons_self, hn, rfl, rfl⟩
    · rintro d ds ρ ⟨rest, b, x, e, nb, nr, h, rfl⟩
      cases rest with
      | nil => cases e
      | cons l rest =>
        cases e
        have nl := nr l List.mem_cons_self
        walk_at "go"
        refine ite2 (fun hc => ?_) (fun hc => ?_)
        · walk_at "go"
          refine ⟨rest, l, _, rfl, nl, fun x hx => nr x (List.mem_cons_of_mem _ hx), ?_, rfl⟩
          rw [← h, foldF, if_pos hc]
        · walk_at "go"
          refine ⟨rest, b, _, rfl, nb, fun x hx => nr x (List.mem_cons_of_mem _ hx), ?_, rfl⟩
          rw [← h, foldF, if_neg hc]
    rintro ρ ⟨rest, b, x1, e, nb, _, h, rfl⟩
    cases rest with
    | cons _ _ => cases e
    | nil =>
      have h : b = foldF (fun l b => needF b l) (a :: ls) a := h
      walk_at "go"
      refine w_seqI ?_
      walk_at "go"
      refine order ht5 (by omega) (by rw [List.length_map]; rw [List.length_cons] at hl; omega) fun row t6 ht6 hp => ?_
      walk_at "go"
      obtain ⟨ms, hm, pm⟩ := mixed_ok (ls := a :: ls) hp
      have hlen : row.length = ls.length + 1 := by
        have := congrArg List.length hm
        rw [List.length_map, List.length_map, ← pm.length_eq] at this
        exact this
      refine ⟨_, rfl, by rw [hlen]; rw [List.length_cons] at hl; omega, ?_⟩
      refine w_cmap (nthD (a.d :: List.map Fg.d ls)) (fun d hd => ?_) ?_
      · obtain ⟨i, rfl, hi⟩ := rg_in (hp.mem_iff.mp hd)
        walk_at "go"
        refine gIx_t (nth_ok hi) ?_
        walk_at "go"
        exact ⟨rfl, rfl⟩
      rw [show List.map (nthD (a.d :: List.map Fg.d ls)) row = ms.map Fg.d from hm]
      cases ms with
      | nil => cases pm.length_eq
      | cons c ms =>
        walk_at "go"
        refine greatest_need_r (a := a) (ls := ls) hn ?_
        walk_at "go"
        refine greatest_need_r (a := c) (ls := ms) (fun x hx => hn x (pm.mem_iff.mpr hx)) ?_
        walk_at "go"
        refine greatest_need_r (a := one) (ls := []) (fun x hx => by rw [List.mem_singleton.mp hx]; assumption) ?_
        walk_at "go"
        have e1 : foldF (fun l b => needF b l) (c :: ms) c = foldF (fun l b => needF b l) (a :: ls) a := (fold_perm ordN hn pm).symm
        have e2 : foldF (fun l b => needF b l) [one] one = one := by
          show (if needF one one = true then one else one) = one
          split <;> rfl
        rw [e1, e2, ← h]
        refine same2 rfl ?_ ?_ ?_
        · refine tup_pl ?_
          simp only [Pls, Pl, plF, Bool.and_true, Bool.and_self]
        · simp only [szD, szS, szF]
          omega
        walk_at "go"
        rename_i low t7 ht7 sl
        cases low with
        | never =>
          walk_at "go"
          refine same2 (by cases one <;> rfl) plF (by rw [szF]; omega) ?_
          walk_at "go"
          exact q _ ht7
        | deep =>
          walk_at "go"
          refine same2 (by cases one with | never => cases n1 | _ => rfl) plF (by rw [szF]; omega) ?_
          walk_at "go"
          exact q _ ht7
        | num j =>
          cases one with
          | never => cases n1
          | deep =>
            walk_at "go"
            refine same2 rfl plF (by rw [szF]; omega) ?_
            walk_at "go"
            exact q _ ht7
          | num i =>
            walk_at "go"
            refine same2 rfl plF (by rw [szF]; omega) ?_
            walk_at "go"
            exact q _ ht7
end K1
namespace K1
local macro_rules | `(tactic| walk_at "st") => `(tactic| first
  | ((with_reducible refine put_change_r ?h1 ?_); (case h1 => omega))
  | ((with_reducible refine change_sum_r ?h1 ?_); (case h1 => omega))
  | ((with_reducible refine is_overdrawn_r ?h1 ?_); (case h1 => omega)))
local macro_rules | `(tactic| walk_at "st") => `(tactic| with_reducible first | refine low_sum_r ?_ | refine law_sum_r ?_ | refine low_rank_r ?_ | refine law_key_r ?_ | refine key_lt ?_ | refine low_less_r ?_)
local macro_rules | `(tactic| walk_at "st") => `(tactic| first
  | ((with_reducible refine pick ?h1 ?h2 (fun _ _ _ _ _ => ?_)); (case h1 => assumption); (case h2 => omega))
  | ((with_reducible refine number ?h1 (fun _ _ _ _ => ?_)); (case h1 => assumption))
  | ((with_reducible refine low ?h1 (fun _ _ _ _ => ?_)); (case h1 => assumption))
  | ((with_reducible refine need ?h1 (fun _ _ _ _ => ?_)); (case h1 => assumption)))
/-! the tape -/
theorem w_app2 {ρ : Ev} {i : Nat} {fe : Ev → Res (D × Ev)} {Q : Fl → Prop} {ds0 : List D} (h0 : ρ[i]? = some (some (.lst ds0))) (h : Ok (fe ρ) fun p => ∃ ds, p.2[i]? = some (some (.lst ds)) ∧ ds.length < 16777216 ∧ Q (.nx (p.2.set i (some (.lst (ds ++ [p.1])))))) : Ok (sApp i fe ρ) Q := w_app h0 h
theorem map_snoc (ns : List Int) (n : Int) : ns.map D.int ++ [.int n] = (ns ++ [n]).map .int := by
  rw [List.map_append]
  rfl
theorem tape {ns : List Int} {Q : D × List D → Prop} (hl : ns.length ≤ 63) (q : ∀ t, Tp t → Q (t, [.non])) : Ok (F__law_tape [.lst (ns.map .int)]) Q := by
  unfold F__law_tape
  walk_at "go"
  refine w_seqI ?_
  walk_at "go"
  refine w_part ?_
  walk_at "go"
  refine ⟨_, rfl, ?_⟩
  walk_at "go"
  refine Ok.mk (a := .lst (cutL (ns.map .int) none (some 63))) rfl ?_
  refine ⟨_, rfl, ?_⟩
  have hcl : (cutL (ns.map D.int) none (some 63)).length ≤ 63 := by
    unfold cutL
    rw [List.length_take, List.length_drop, List.length_map]
    omega
  have hci : ∀ d ∈ cutL (ns.map D.int) none (some 63), ∃ i : Int, d = .int i := fun d hd => by
    unfold cutL at hd
    obtain ⟨i, _, rfl⟩ := List.mem_map.mp (List.mem_of_mem_drop (List.mem_of_mem_take hd))
    exact ⟨i, rfl⟩
  walk_at "go"
  refine w_loop (fun ds ρ => ∃ (nums : List Int) (mixed : Int) (a b c d : Option D), ρ = [some (.lst (ns.map .int)), some (.lst (nums.map .int)), some (.int mixed), a, b, c, d] ∧ nums.length + 60 * ds.length ≤ 3780 ∧ (∀ d ∈ ds, ∃ i : Int, d = .int i)) ?_ ?_ _ _ ⟨[], _, _, _, _, _, rfl, by simp; omega, hci⟩
  · rintro d ds ρ ⟨nums, mixed, a, b, c, e, rfl, hn, hd⟩
    obtain ⟨i, rfl⟩ := hd d List.mem_cons_self
    have hd' := fun d h => hd d (List.mem_cons_of_mem _ h)
    rw [List.length_cons] at hn
    walk_at "go"
    refine ite2 (fun hc => ?_) (fun hc => ?_)
    · walk_at "go"
      refine w_rng1 ?_
      walk_at "go"
      refine ⟨_, rfl, by omega, by omega, ?_⟩
      refine w_loop (fun es ρ => ∃ (nums : List Int) (size : Int) (mx : Int) (a c d : Option D), ρ = [some (.lst (ns.map .int)), some (.lst (nums.map .int)), some (.int mx), a, some (.int size), c, d] ∧ nums.length + es.length + 60 * ds.length ≤ 3780) ?_ ?_ _ _ ⟨nums, _, _, _, _, _, rfl, by rw [rgD_len]; show nums.length + 60 + _ ≤ _; omega⟩
      · rintro d es ρ ⟨nums, size, mx, a, c, e, rfl, hn⟩
        rw [List.length_cons] at hn
        walk_at "go"
        refine ite2 (fun hc => ?_) (fun hc => ?_)
        · walk_at "go"
          exact ⟨nums, _, _, _, _, _, rfl, by omega, hd'⟩
        · walk_at "go"
          refine w_app rfl ?_
          walk_at "go"
          refine ⟨_, rfl, by rw [List.length_map]; omega, ?_⟩
          rw [map_snoc]
          walk_at "go"
          exact ⟨_, _, _, _, _, _, rfl, by rw [List.length_append, List.length_singleton]; omega⟩
      · rintro ρ ⟨nums, size, mx, a, c, e, rfl, hn⟩
        exact ⟨nums, _, _, _, _, _, rfl, by simp at hn; omega, hd'⟩
    · walk_at "go"
      refine w_app rfl ?_
      walk_at "go"
      refine ⟨_, rfl, by rw [List.length_map]; omega, ?_⟩
      rw [map_snoc]
      walk_at "go"
      refine w_app rfl ?_
      walk_at "go"
      refine ⟨_, rfl, by rw [List.length_map, List.length_append, List.length_singleton]; omega, ?_⟩
      rw [map_snoc]
      exact ⟨_, _, _, _, _, _, rfl, by rw [List.length_append, List.length_append, List.length_singleton, List.length_singleton]; omega, hd'⟩
  · rintro ρ ⟨nums, mixed, a, b, c, e, rfl, hn, hd⟩
    walk_at "go"
    exact q _ ⟨nums, 0, mixed, rfl, by omega⟩
local macro_rules | `(tactic| walk_at "st") => `(tactic| first
  | ((with_reducible refine changes ?h1 (fun _ _ => ?_)); (case h1 => assumption))
  | ((with_reducible refine lows ?h1 (fun _ _ => ?_)); (case h1 => assumption))
  | ((with_reducible refine needs ?h1 (fun _ _ => ?_)); (case h1 => assumption)))
theorem law_ok1 {ns : List Int} (hl : ns.length ≤ 63) : Ok (F_law [.lst (ns.map .int)]) fun r => ∃ o, r = (.bl true, o) := by
  unfold F_law
  walk_at "go"
  refine tape hl fun t ht => ?_
  walk_at "go"
  refine w_rng1 ?_
  walk_at "go"
  refine ⟨_, rfl, by omega, by omega, ?_⟩
  refine w_loop (fun ds ρ => ∃ (t : D) (a b : Option D), Tp t ∧ ρ = [some (.lst (ns.map .int)), some t, a, b]) ?_ ?_ _ _ ⟨t, _, _, ht, rfl⟩
  · rintro d ds ρ ⟨t, a, b, ht, rfl⟩
    walk_at "go"
    exact ⟨_, _, _, ‹_›, rfl⟩
  · rintro ρ ⟨t, a, b, ht, rfl⟩
    walk_at "go"
    refine low_sum_r (f := .deep) (g := .never) ?_
    walk_at "go"
    refine low_less_r (f := .deep) (g := .num _) ?_
    walk_at "go"
    refine low_less_r (f := .num _) (g := .never) ?_
    walk_at "go"
    refine low_less_r (f := .never) (g := .never) ?_
    walk_at "go"
    refine same2 rfl rfl (by show 5 ≤ 16777216; decide) ?_
    walk_at "go"
    refine least_low_r (a := .never) (ls := [.deep, .num _]) ?_
    walk_at "go"
    refine need_behind_r (f := .deep) (g := .never) trivial ?_
    walk_at "go"
    refine need_behind_r (f := .num 0) (g := .deep) (show (0 : Int) ≤ 0 ∧ Int.natAbs 0 < 2 ^ 200 by decide) ?_
    walk_at "go"
    refine same2 rfl rfl (by show 4 ≤ 16777216; decide) ?_
    walk_at "go"
    refine need_less_r (f := .num _) (g := .deep) (show (0 : Int) ≤ 10 ^ 59 ∧ Int.natAbs (10 ^ 59) < 2 ^ 200 by decide) trivial ?_
    walk_at "go"
    refine greatest_need_r (a := .num 3) (ls := [.deep, .num 4]) (fun x hx => ?_) ?_
    · rcases List.mem_cons.mp hx with rfl | hx
      · exact (by decide : (0 : Int) ≤ 3 ∧ Int.natAbs 3 < 2 ^ 200)
      rcases List.mem_cons.mp hx with rfl | hx
      · trivial
      rcases List.mem_cons.mp hx with rfl | hx
      · exact (by decide : (0 : Int) ≤ 4 ∧ Int.natAbs 4 < 2 ^ 200)
      cases hx
    walk_at "go"
    refine need_behind_r (f := .num 2) (g := .num 5) (show (0 : Int) ≤ 2 ∧ Int.natAbs 2 < 2 ^ 200 by decide) ?_
    walk_at "go"
    refine low_times_r (f := .num (-2)) (by decide) (by decide) ?_
    walk_at "go"
    refine same2 rfl rfl (by show 5 ≤ 16777216; decide) ?_
    walk_at "go"
    exact ⟨_, rfl⟩
theorem law_true : ∀ ns : List Int, ns.length ≤ 63 → ∃ o, F_law [.lst (ns.map D.int)] = .ok (.bl true, o) := fun ns hl => by
  obtain ⟨r, e, o, rfl⟩ := law_ok1 hl
  exact ⟨o, e⟩
end K1
namespace K1
open PySem PySem.Spec PyProof.Rows L2 DL
theorem fin {l : PySem.W.OpenLaw} {w : World} {K : PySem.W.Frag} {h : Heap} {mg : Str → Option Value} {fa : Addr} (X : K.In h) (G : h.Ns mainGlobals mg) (hmg : mg "law" = some (.ref fa)) (T : Top K mg) :
    ∃ fd : FuncData, (∀ (s : Shared) (u : Value), BindsTo s fd ⟨[u], []⟩ [("script", u)]) ∧ ∀ base : Heap, K.In base → base.Ns mainGlobals mg → FnOk l.prog w K mg base CX0 5 fa fd ["script"] (spLaw K) := by
  obtain ⟨f, fd, h1, h2, h3⟩ := T.f_law
  have e := hmg.symm.trans h1
  cases e
  exact ⟨fd, fun s u => .of_eq (h3 [u] rfl), fun base _ _ => law_ok (ok_law T h2) law_true⟩
end K1
open PySem PySem.W PyProof.Rows
set_option maxRecDepth 100000 in
set_option maxHeartbeats 0 in
theorem PySem.Challenge.cw_neveroverdrawn_k01_changes_figures_holds : PySem.Challenge.rw_neveroverdrawn_k01_changes_figures.Holds := by
  w_on; o_law; k_head; (case hw => w_witness2)
  k_fill
  refine L2.walk_ofK (l := PySem.Challenge.rw_neveroverdrawn_k01_changes_figures) (n := 63) (k := 5) (x := "script") (CX := L2.CX0) (sp := DL.spLaw) rfl (by decide) rfl ⟨rfl, by decide, by decide⟩ (fun w h Y => PySem.W.kIn_of Y) ?F (fun _ _ a ns hl _ hS => ⟨a, ns, rfl, hS, hl, fun _ => rfl⟩) (fun _ _ _ _ h => h)
  case F =>
    intro w mg fa h KX G hmg
    refine' K1.fin KX G hmg ?T
    case T =>
      refine' { f_low_sum := ?f_low_sum, f_low_rank := ?f_low_rank, f_low_less := ?f_low_less, f_least_low := ?f_least_low, f_low_times := ?f_low_times, f_need_less := ?f_need_less, f_greatest_need := ?f_greatest_need, f_need_behind := ?f_need_behind, f_put_change := ?f_put_change, f_change_sum := ?f_change_sum, f_change_times := ?f_change_times, f_is_overdrawn := ?f_is_overdrawn, f__law_tape := ?f__law_tape, f__law_pick := ?f__law_pick, f__law_same := ?f__law_same, f__law_order := ?f__law_order, f__law_number := ?f__law_number, f__law_low := ?f__law_low, f__law_need := ?f__law_need, f__law_key := ?f__law_key, f__law_need_key := ?f__law_need_key, f__law_sum := ?f__law_sum, f__law_changes := ?f__law_changes, f__law_lows := ?f__law_lows, f__law_needs := ?f__law_needs, f_law := ?f_law, b_abs := ?b_abs, b_any := ?b_any, b_bool := ?b_bool, b_int := ?b_int, b_isinstance := ?b_isinstance, b_len := ?b_len, b_list := ?b_list, b_max := ?b_max, b_range := ?b_range, b_str := ?b_str, b_tuple := ?b_tuple, b_zip := ?b_zip }
      case f_low_sum =>
        refine' DL.mkSrc (fun _ _ _ _ _ _ us hl => match us, hl with | [_, _], _ => rfl) KX G ?a ?l ?c ?k
        (case a => k_is); (case l => k_is); (case c => k_is); (case k => k_is)
      case f_low_rank =>
        refine' DL.mkSrc (fun _ _ _ _ _ _ us hl => match us, hl with | [_], _ => rfl) KX G ?a ?l ?c ?k
        (case a => k_is); (case l => k_is); (case c => k_is); (case k => k_is)
      case f_low_less =>
        refine' DL.mkSrc (fun _ _ _ _ _ _ us hl => match us, hl with | [_, _], _ => rfl) KX G ?a ?l ?c ?k
        (case a => k_is); (case l => k_is); (case c => k_is); (case k => k_is)
      case f_least_low =>
        refine' DL.mkSrc (fun _ _ _ _ _ _ us hl => match us, hl with | [_], _ => rfl) KX G ?a ?l ?c ?k
        (case a => k_is); (case l => k_is); (case c => k_is); (case k => k_is)
      case f_low_times =>
        refine' DL.mkSrc (fun _ _ _ _ _ _ us hl => match us, hl with | [_, _], _ => rfl) KX G ?a ?l ?c ?k
        (case a => k_is); (case l => k_is); (case c => k_is); (case k => k_is)
      case f_need_less =>
        refine' DL.mkSrc (fun _ _ _ _ _ _ us hl => match us, hl with | [_, _], _ => rfl) KX G ?a ?l ?c ?k
        (case a => k_is); (case l => k_is); (case c => k_is); (case k => k_is)
      case f_greatest_need =>
        refine' DL.mkSrc (fun _ _ _ _ _ _ us hl => match us, hl with | [_], _ => rfl) KX G ?a ?l ?c ?k
        (case a => k_is); (case l => k_is); (case c => k_is); (case k => k_is)
      case f_need_behind =>
        refine' DL.mkSrc (fun _ _ _ _ _ _ us hl => match us, hl with | [_, _], _ => rfl) KX G ?a ?l ?c ?k
        (case a => k_is); (case l => k_is); (case c => k_is); (case k => k_is)
      case f_put_change =>
        refine' DL.mkSrc (fun _ _ _ _ _ _ us hl => match us, hl with | [_, _], _ => rfl) KX G ?a ?l ?c ?k
        (case a => k_is); (case l => k_is); (case c => k_is); (case k => k_is)
      case f_change_sum =>
        refine' DL.mkSrc (fun _ _ _ _ _ _ us hl => match us, hl with | [_, _], _ => rfl) KX G ?a ?l ?c ?k
        (case a => k_is); (case l => k_is); (case c => k_is); (case k => k_is)
      case f_change_times =>
        refine' DL.mkSrc (fun _ _ _ _ _ _ us hl => match us, hl with | [_, _], _ => rfl) KX G ?a ?l ?c ?k
        (case a => k_is); (case l => k_is); (case c => k_is); (case k => k_is)
      case f_is_overdrawn =>
        refine' DL.mkSrc (fun _ _ _ _ _ _ us hl => match us, hl with | [_], _ => rfl) KX G ?a ?l ?c ?k
        (case a => k_is); (case l => k_is); (case c => k_is); (case k => k_is)
      case f__law_tape =>
        refine' DL.mkSrc (fun _ _ _ _ _ _ us hl => match us, hl with | [_], _ => rfl) KX G ?a ?l ?c ?k
        (case a => k_is); (case l => k_is); (case c => k_is); (case k => k_is)
      case f__law_pick =>
        refine' DL.mkSrc (fun _ _ _ _ _ _ us hl => match us, hl with | [_, _], _ => rfl) KX G ?a ?l ?c ?k
        (case a => k_is); (case l => k_is); (case c => k_is); (case k => k_is)
      case f__law_same =>
        refine' DL.mkSrc (fun _ _ _ _ _ _ us hl => match us, hl with | [_, _], _ => rfl) KX G ?a ?l ?c ?k
        (case a => k_is); (case l => k_is); (case c => k_is); (case k => k_is)
      case f__law_order =>
        refine' DL.mkSrc (fun _ _ _ _ _ _ us hl => match us, hl with | [_, _], _ => rfl) KX G ?a ?l ?c ?k
        (case a => k_is); (case l => k_is); (case c => k_is); (case k => k_is)
      case f__law_number =>
        refine' DL.mkSrc (fun _ _ _ _ _ _ us hl => match us, hl with | [_, _], _ => rfl) KX G ?a ?l ?c ?k
        (case a => k_is); (case l => k_is); (case c => k_is); (case k => k_is)
      case f__law_low =>
        refine' DL.mkSrc (fun _ _ _ _ _ _ us hl => match us, hl with | [_], _ => rfl) KX G ?a ?l ?c ?k
        (case a => k_is); (case l => k_is); (case c => k_is); (case k => k_is)
      case f__law_need =>
        refine' DL.mkSrc (fun _ _ _ _ _ _ us hl => match us, hl with | [_], _ => rfl) KX G ?a ?l ?c ?k
        (case a => k_is); (case l => k_is); (case c => k_is); (case k => k_is)
      case f__law_key =>
        refine' DL.mkSrc (fun _ _ _ _ _ _ us hl => match us, hl with | [_], _ => rfl) KX G ?a ?l ?c ?k
        (case a => k_is); (case l => k_is); (case c => k_is); (case k => k_is)
      case f__law_need_key =>
        refine' DL.mkSrc (fun _ _ _ _ _ _ us hl => match us, hl with | [_], _ => rfl) KX G ?a ?l ?c ?k
        (case a => k_is); (case l => k_is); (case c => k_is); (case k => k_is)
      case f__law_sum =>
        refine' DL.mkSrc (fun _ _ _ _ _ _ us hl => match us, hl with | [_, _], _ => rfl) KX G ?a ?l ?c ?k
        (case a => k_is); (case l => k_is); (case c => k_is); (case k => k_is)
      case f__law_changes =>
        refine' DL.mkSrc (fun _ _ _ _ _ _ us hl => match us, hl with | [_], _ => rfl) KX G ?a ?l ?c ?k
        (case a => k_is); (case l => k_is); (case c => k_is); (case k => k_is)
      case f__law_lows =>
        refine' DL.mkSrc (fun _ _ _ _ _ _ us hl => match us, hl with | [_], _ => rfl) KX G ?a ?l ?c ?k
        (case a => k_is); (case l => k_is); (case c => k_is); (case k => k_is)
      case f__law_needs =>
        refine' DL.mkSrc (fun _ _ _ _ _ _ us hl => match us, hl with | [_], _ => rfl) KX G ?a ?l ?c ?k
        (case a => k_is); (case l => k_is); (case c => k_is); (case k => k_is)
      case f_law =>
        refine' DL.mkSrc (fun _ _ _ _ _ _ us hl => match us, hl with | [_], _ => rfl) KX G ?a ?l ?c ?k
        (case a => k_is); (case l => k_is); (case c => k_is); (case k => k_is)
      case b_abs => exact PySem.W.mg_none_of KX G (by k_is)
      case b_any => exact PySem.W.mg_none_of KX G (by k_is)
      case b_bool => exact PySem.W.mg_none_of KX G (by k_is)
      case b_int => exact PySem.W.mg_none_of KX G (by k_is)
      case b_isinstance => exact PySem.W.mg_none_of KX G (by k_is)
      case b_len => exact PySem.W.mg_none_of KX G (by k_is)
      case b_list => exact PySem.W.mg_none_of KX G (by k_is)
      case b_max => exact PySem.W.mg_none_of KX G (by k_is)
      case b_range => exact PySem.W.mg_none_of KX G (by k_is)
      case b_str => exact PySem.W.mg_none_of KX G (by k_is)
      case b_tuple => exact PySem.W.mg_none_of KX G (by k_is)
      case b_zip => exact PySem.W.mg_none_of KX G (by k_is)
