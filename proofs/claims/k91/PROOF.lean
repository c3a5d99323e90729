import PyProof.Rows.All
import Wide.All
import OpenK.AllK
import Wide.FinOn
import HandS.ForMost
import HandS.ForExc
import HandS.Deep
import HandS.Flow
import HandS.Style
import HandS.TupMul
import HandS.SortInts
import HandS.SetFor
import HandS.ListEq
import HandS.TupAny
import HandS.Conv
import HandS.ExcIs
import HandS.ExcValue
import HandS.IsInst
import PySem.Challenge.RW_windowback_k91_whole_two_at_once
set_option Elab.async false
set_option linter.all false
set_option maxRecDepth 100000
set_option maxHeartbeats 2000000
/-! Part A: values as data, views of the heap, what a reading means over data. -/
namespace WB
open PySem PySem.Spec L2
abbrev D := PyData
inductive Kd | row | stretch | size | told | norow | number | text
  deriving DecidableEq
/-- a slot: nothing known, a value that stays, a list of one's own (it may be changed) -/
inductive Slot | no | v (d : D) | own (xs : List D)
abbrev Rho := List Slot
/-- what a piece of code does, by what is wanted behind it: of its value and the town's length; of a refusal -/
abbrev W (α : Type) := (α → Nat → Prop) → (Kd → Nat → Prop) → Nat → Prop
mutual
inductive Rp (K : PySem.W.Frag) (H : Hp) : V → D → Prop
  | non : Rp K H .non .none
  | bl (b : Bool) : Rp K H (.bl b) (.bool b)
  | int (i : Int) : Rp K H (.int i) (.int i)
  | str (x : Str) : Rp K H (.str x) (.str x)
  | lst {a : Addr} {xs : List V} {ds : List D} : H a = some (.lst xs) → RpAll K H xs ds → Rp K H (.ref a) (.list ds)
  | tup {a : Addr} {xs : List V} {ds : List D} : SqT K H a xs → RpAll K H xs ds → Rp K H (.ref a) (.tuple ds)
inductive RpAll (K : PySem.W.Frag) (H : Hp) : List V → List D → Prop
  | nil : RpAll K H [] []
  | cons {v : V} {vs : List V} {d : D} {ds : List D} : Rp K H v d → RpAll K H vs ds → RpAll K H (v :: vs) (d :: ds)
end
section
variable {K : PySem.W.Frag} {H H' : Hp}
theorem Rp.mono (e : Same H H') {v : V} {d : D} (h : Rp K H v d) : Rp K H' v d :=
  Rp.rec (motive_1 := fun v d _ => Rp K H' v d) (motive_2 := fun vs ds _ => RpAll K H' vs ds)
    .non (fun b => .bl b) (fun i => .int i) (fun x => .str x) (fun h _ r => .lst (e _ _ h) r)
    (fun {a xs ds} h _ r => .tup (by
      rcases h with (h | ⟨o, h⟩) | h
      · exact .inl (.inl (e _ _ h))
      · exact .inl (.inr ⟨o, e _ _ h⟩)
      · exact .inr h) r) .nil (fun _ _ a b => .cons a b) h
theorem seqT_mono (e : Same H H') {a : Addr} {xs : List V} (h : SqT K H a xs) : SqT K H' a xs := by
  rcases h with (h | ⟨o, h⟩) | h
  · exact .inl (.inl (e _ _ h))
  · exact .inl (.inr ⟨o, e _ _ h⟩)
  · exact .inr h
theorem RpAll.mono (e : Same H H') : ∀ {vs : List V} {ds : List D}, RpAll K H vs ds → RpAll K H' vs ds
  | _, _, .nil => .nil
  | _, _, .cons a b => .cons (a.mono e) (RpAll.mono e b)
theorem Rp.dp {v : V} {d : D} (h : Rp K H v d) : Dp K H v d :=
  Rp.rec (motive_1 := fun v d _ => Dp K H v d) (motive_2 := fun vs ds _ => DpAll K H vs ds)
    .non (fun b => .bl b) (fun i => .int i) (fun x => .str x) (fun h _ r => .lst (.inl (.inl h)) r)
    (fun h _ r => .tup h r) .nil (fun _ _ a b => .cons a b) h
theorem RpAll.dp : ∀ {vs : List V} {ds : List D}, RpAll K H vs ds → DpAll K H vs ds
  | _, _, .nil => .nil
  | _, _, .cons a b => .cons a.dp (RpAll.dp b)
theorem RpAll.length : ∀ {vs : List V} {ds : List D}, RpAll K H vs ds → vs.length = ds.length
  | _, _, .nil => rfl
  | _, _, .cons _ b => by rw [List.length_cons, List.length_cons, RpAll.length b]
theorem RpAll.get : ∀ {vs : List V} {ds : List D} {i : Nat} {d : D}, RpAll K H vs ds → ds[i]? = some d → ∃ v, vs[i]? = some v ∧ Rp K H v d
  | _, _, _, _, .nil, e => by simp at e
  | _, _, 0, _, .cons a _, e => by simp at e; subst e; exact ⟨_, rfl, a⟩
  | _, _, i + 1, d, .cons _ b, e => by
    obtain ⟨v, h1, h2⟩ := RpAll.get (i := i) (d := d) b (by simpa using e)
    exact ⟨v, by simpa using h1, h2⟩
theorem RpAll.get' : ∀ {vs : List V} {ds : List D} {i : Nat} {v : V}, RpAll K H vs ds → vs[i]? = some v → ∃ d, ds[i]? = some d ∧ Rp K H v d
  | _, _, _, _, .nil, e => by simp at e
  | _, _, 0, _, .cons a _, e => by simp at e; subst e; exact ⟨_, rfl, a⟩
  | _, _, i + 1, d, .cons _ b, e => by
    obtain ⟨v, h1, h2⟩ := RpAll.get' (i := i) (v := d) b (by simpa using e)
    exact ⟨v, by simpa using h1, h2⟩
theorem RpAll.append : ∀ {vs ws : List V} {ds es : List D}, RpAll K H vs ds → RpAll K H ws es → RpAll K H (vs ++ ws) (ds ++ es)
  | _, _, _, _, .nil, b => b
  | _, _, _, _, .cons a r, b => .cons a (RpAll.append r b)
theorem RpAll.take : ∀ {vs : List V} {ds : List D} (n : Nat), RpAll K H vs ds → RpAll K H (vs.take n) (ds.take n)
  | _, _, 0, _ => .nil
  | _, _, _ + 1, .nil => .nil
  | _, _, n + 1, .cons a b => .cons a (RpAll.take n b)
theorem RpAll.drop : ∀ {vs : List V} {ds : List D} (n : Nat), RpAll K H vs ds → RpAll K H (vs.drop n) (ds.drop n)
  | _, _, 0, h => h
  | _, _, _ + 1, .nil => .nil
  | _, _, n + 1, .cons _ b => RpAll.drop n b
theorem RpAll.set {v : V} {d : D} (h : Rp K H v d) : ∀ {vs : List V} {ds : List D} (n : Nat), RpAll K H vs ds → RpAll K H (vs.set n v) (ds.set n d)
  | _, _, _, .nil => .nil
  | _, _, 0, .cons _ b => .cons h b
  | _, _, n + 1, .cons a b => .cons a (RpAll.set h n b)
theorem RpAll.reverse : ∀ {vs : List V} {ds : List D}, RpAll K H vs ds → RpAll K H vs.reverse ds.reverse
  | _, _, .nil => .nil
  | _, _, .cons a b => by
    rw [List.reverse_cons, List.reverse_cons]
    exact (RpAll.reverse b).append (.cons a .nil)
theorem RpAll.eraseIdx : ∀ {vs : List V} {ds : List D} (n : Nat), RpAll K H vs ds → RpAll K H (vs.eraseIdx n) (ds.eraseIdx n)
  | _, _, _, .nil => .nil
  | _, _, 0, .cons _ b => b
  | _, _, n + 1, .cons a b => .cons a (RpAll.eraseIdx n b)
theorem RpAll.flat {vs : List V} {ds : List D} (h : RpAll K H vs ds) : ∀ n : Nat, RpAll K H (List.replicate n vs).flatten (List.replicate n ds).flatten
  | 0 => .nil
  | n + 1 => by
    rw [List.replicate_succ, List.replicate_succ, List.flatten_cons, List.flatten_cons]
    exact h.append (RpAll.flat h n)
theorem RpAll.ints : ∀ {vs : List V} {ns : List Int}, RpAll K H vs (ns.map PyData.int) → vs = ns.map V.int
  | _, [], .nil => rfl
  | _, n :: ns, .cons (.int _) b => by rw [List.map_cons, RpAll.ints b]
theorem RpAll.bls : ∀ {vs : List V} {ns : List Bool}, RpAll K H vs (ns.map PyData.bool) → vs = ns.map V.bl
  | _, [], .nil => rfl
  | _, n :: ns, .cons (.bl _) b => by rw [List.map_cons, RpAll.bls b]
theorem RpAll.strs : ∀ {vs : List V} {ns : List Str}, RpAll K H vs (ns.map PyData.str) → vs = ns.map V.str
  | _, [], .nil => rfl
  | _, n :: ns, .cons (.str _) b => by rw [List.map_cons, RpAll.strs b]
theorem RpAll.of_ints : ∀ {ns : List Int}, RpAll K H (ns.map V.int) (ns.map PyData.int)
  | [] => .nil
  | _ :: _ => .cons (.int _) RpAll.of_ints
theorem RpAll.of_strs : ∀ {ns : List Str}, RpAll K H (ns.map V.str) (ns.map PyData.str)
  | [] => .nil
  | _ :: _ => .cons (.str _) RpAll.of_strs
theorem Rp.non_iff {v : V} {d : D} (h : Rp K H v d) : decide (v = .non) = (match d with | .none => true | _ => false) := by
  cases h <;> simp
end
/-- None, a bool, an int, a text -/
def scD : D → Bool
  | .none => true
  | .bool _ => true
  | .int _ => true
  | .str _ => true
  | _ => false
theorem Rp.scal {K : PySem.W.Frag} {H H' : Hp} {v : V} {d : D} (h : Rp K H v d) (s : scD d = true) : Rp K H' v d := by
  cases h with
  | non => exact .non
  | bl b => exact .bl b
  | int i => exact .int i
  | str x => exact .str x
  | lst _ _ => cases s
  | tup _ _ => cases s
/-! ### views -/
open Classical in
noncomputable def hide (P : Addr → Prop) (H : Hp) : Hp := fun a => if P a then none else H a
theorem hide_some {P : Addr → Prop} {H : Hp} {a : Addr} {o : HO} : hide P H a = some o ↔ ¬ P a ∧ H a = some o := by
  unfold hide
  by_cases h : P a
  · rw [if_pos h]; exact ⟨fun q => (nomatch q), fun q => (q.1 h).elim⟩
  · rw [if_neg h]; exact ⟨fun q => ⟨h, q⟩, fun q => q.2⟩
theorem hide_le {P : Addr → Prop} {H : Hp} : Same (hide P H) H := fun _ _ h => (hide_some.mp h).2
theorem hide_mono {P P' : Addr → Prop} {H H' : Hp} (h : ∀ a o, ¬ P a → H a = some o → ¬ P' a ∧ H' a = some o) : Same (hide P H) (hide P' H') := fun a o e =>
  hide_some.mpr (h a o (hide_some.mp e).1 (hide_some.mp e).2)
theorem same_new {H : Hp} {p : Addr} {o : HO} (h : H p = none) : Same H (upd H p o) := fun a u e => by
  rw [upd_ne (ne_of_none e h)]; exact e
theorem hide_same {P : Addr → Prop} {H H' : Hp} (e : Same H H') : Same (hide P H) (hide P H') := hide_mono fun a o n q => ⟨n, e a o q⟩
/-- the script's and the town's addresses, where the code has them (slots 0 and 1) -/
abbrev Twn := Option (Addr × Addr)
structure TwOk (K : PySem.W.Frag) (T : Twn) (P : Addr → Prop) (n : Nat) (H : Hp) : Prop where
  ok : ∀ p, T = some p → P p.2 ∧ H p.2 = some (.lst (List.replicate n (.int 0))) ∧ ∃ ns : List Int, SqL K (hide P H) p.1 (ns.map V.int) ∧ ns.length ≤ 63
/-- all that was known stays, but for the town -/
def Keep (T : Twn) (H H' : Hp) : Prop := ∀ a o, (∀ p, T = some p → a ≠ p.2) → H a = some o → H' a = some o
structure Post (K : PySem.W.Frag) (P : Addr → Prop) (T : Twn) (H : Hp) (n' : Nat) (H' : Hp) : Prop where
  keep : Keep T H H'
  tw : TwOk K T P n' H'
structure St0 (K : PySem.W.Frag) (P : Addr → Prop) (T : Twn) (n : Nat) (H : Hp) (σ : L2.St) (ρ : Rho) : Prop where
  there : ∀ a, P a → H a ≠ none
  tw : TwOk K T P n H
  frame : ∀ p, T = some p → σ[0]? = some (some (.ref p.1)) ∧ σ[1]? = some (some (.ref p.2))
  len : σ.length = ρ.length
  val : ∀ (i : Nat) (d : D), ρ[i]? = some (Slot.v d) → ∃ v, σ[i]? = some (some v) ∧ Rp K (hide P H) v d
section
variable {K : PySem.W.Frag} {P : Addr → Prop} {T : Twn} {n n' n2 : Nat} {H H' H2 : Hp} {σ : L2.St} {ρ : Rho}
theorem Keep.refl (T : Twn) (H : Hp) : Keep T H H := fun _ _ _ h => h
theorem Keep.trans (a : Keep T H H') (b : Keep T H' H2) : Keep T H H2 := fun x o h q => b x o h (a x o h q)
theorem Keep.of (e : Same H H') : Keep T H H' := fun a o _ q => e a o q
theorem Keep.view (a : Keep T H H') (t : TwOk K T P n H) : Same (hide P H) (hide P H') := hide_mono fun x o hn q => ⟨hn, a x o (fun p hp e => hn (e ▸ (t.ok p hp).1)) q⟩
theorem TwOk.same (t : TwOk K T P n H) (e : Same H H') : TwOk K T P n H' := ⟨fun p hp => by
  obtain ⟨h1, h2, ns, h3, h4⟩ := t.ok p hp
  exact ⟨h1, e _ _ h2, ns, (hide_same e).seq h3, h4⟩⟩
theorem Post.refl (t : TwOk K T P n H) : Post K P T H n H := ⟨.refl T H, t⟩
theorem Post.same (t : TwOk K T P n H) (e : Same H H') : Post K P T H n H' := ⟨.of e, t.same e⟩
theorem Post.trans (a : Post K P T H n' H') (b : Post K P T H' n2 H2) : Post K P T H n2 H2 := ⟨a.keep.trans b.keep, b.tw⟩
theorem Post.view (a : Post K P T H n' H') (t : TwOk K T P n H) : Same (hide P H) (hide P H') := a.keep.view t
theorem Post.there (a : Post K P T H n' H') (h : ∀ a, P a → H a ≠ none) : ∀ a, P a → H' a ≠ none := fun x hx => by
  by_cases e : ∃ p, T = some p ∧ x = p.2
  · obtain ⟨p, hp, e⟩ := e
    rw [e, (a.tw.ok p hp).2.1]; exact fun z => nomatch z
  · cases q : H x with
    | none => exact (h x hx q).elim
    | some o => rw [a.keep x o (fun p hp z => e ⟨p, hp, z⟩) q]; exact fun z => nomatch z
theorem St0.step (s : St0 K P T n H σ ρ) (p : Post K P T H n' H') : St0 K P T n' H' σ ρ :=
  ⟨p.there s.there, p.tw, s.frame, s.len, fun i d h => by
    obtain ⟨v, h1, h2⟩ := s.val i d h
    exact ⟨v, h1, h2.mono (p.view s.tw)⟩⟩
theorem St0.nin (s : St0 K P T n H σ ρ) {p : Addr} (h : H p = none) : ¬ P p := fun q => s.there p q h
theorem St0.set (s : St0 K P T n H σ ρ) {i : Nat} {v : V} {d : D} (hi : T.isSome = true → 2 ≤ i) (h : Rp K (hide P H) v d) : St0 K P T n H (σ.set i (some v)) (ρ.set i (.v d)) := by
  refine ⟨s.there, s.tw, fun p hp => ?_, by rw [List.length_set, List.length_set]; exact s.len, fun j e hj => ?_⟩
  · obtain ⟨h0, h1⟩ := s.frame p hp
    have := hi (by rw [hp]; rfl)
    exact ⟨by rw [List.getElem?_set_ne (by omega)]; exact h0, by rw [List.getElem?_set_ne (by omega)]; exact h1⟩
  · by_cases e1 : i = j
    · subst e1
      rw [List.getElem?_set] at hj
      simp only [if_true] at hj
      split at hj
      · rename_i hl
        cases hj
        exact ⟨v, by rw [List.getElem?_set_self (by rw [s.len]; exact hl)], h⟩
      · cases hj
    · rw [List.getElem?_set_ne e1] at hj
      obtain ⟨w, h1, h2⟩ := s.val j e hj
      exact ⟨w, by rw [List.getElem?_set_ne e1]; exact h1, h2⟩
theorem St0.wipe (s : St0 K P T n H σ ρ) {i : Nat} (hi : T.isSome = true → 2 ≤ i) : St0 K P T n H (σ.set i none) (ρ.set i .no) := by
  refine ⟨s.there, s.tw, fun p hp => ?_, by rw [List.length_set, List.length_set]; exact s.len, fun j e hj => ?_⟩
  · obtain ⟨h0, h1⟩ := s.frame p hp
    have := hi (by rw [hp]; rfl)
    exact ⟨by rw [List.getElem?_set_ne (by omega)]; exact h0, by rw [List.getElem?_set_ne (by omega)]; exact h1⟩
  · by_cases e1 : i = j
    · subst e1
      rw [List.getElem?_set] at hj
      simp only [if_true] at hj
      split at hj <;> cases hj
    · rw [List.getElem?_set_ne e1] at hj
      obtain ⟨w, h1, h2⟩ := s.val j e hj
      exact ⟨w, by rw [List.getElem?_set_ne e1]; exact h1, h2⟩
end
/-! ### what an expression's reading means -/
abbrev EXT := L2.St → XK
/-- a reading t, from a state that is known as ρ, does what f says -/
def DT (K : PySem.W.Frag) (EX : EXT) (ek : Kd → Value) (tw : Bool) (t : TE) (f : Rho → W D) : Prop :=
  ∀ (P : Addr → Prop) (T : Twn) (n : Nat) (H : Hp) (σ : L2.St) (ρ : Rho) (Qd : D → Nat → Prop) (Ed : Kd → Nat → Prop) (Q : VK),
    T.isSome = tw → St0 K P T n H σ ρ → f ρ Qd Ed n → (∀ d n' v H', Qd d n' → Post K P T H n' H' → Rp K (hide P H') v d → Q v H') →
    (∀ k n' H', Ed k n' → Post K P T H n' H' → EX σ (ek k) none H') → t σ H Q
/-- a test -/
def DB (K : PySem.W.Frag) (EX : EXT) (ek : Kd → Value) (tw : Bool) (t : TT) (f : Rho → W Bool) : Prop :=
  ∀ (P : Addr → Prop) (T : Twn) (n : Nat) (H : Hp) (σ : L2.St) (ρ : Rho) (Qd : Bool → Nat → Prop) (Ed : Kd → Nat → Prop) (Q : Bool → Hp → Prop),
    T.isSome = tw → St0 K P T n H σ ρ → f ρ Qd Ed n → (∀ d n' H', Qd d n' → Post K P T H n' H' → Q d H') →
    (∀ k n' H', Ed k n' → Post K P T H n' H' → EX σ (ek k) none H') → t σ H Q
/-- arguments -/
def DA (K : PySem.W.Frag) (EX : EXT) (ek : Kd → Value) (tw : Bool) (t : TA) (f : Rho → W (List D)) : Prop :=
  ∀ (P : Addr → Prop) (T : Twn) (n : Nat) (H : Hp) (σ : L2.St) (ρ : Rho) (Qd : List D → Nat → Prop) (Ed : Kd → Nat → Prop) (Q : List V → Hp → Prop),
    T.isSome = tw → St0 K P T n H σ ρ → f ρ Qd Ed n → (∀ ds n' vs H', Qd ds n' → Post K P T H n' H' → RpAll K (hide P H') vs ds → Q vs H') →
    (∀ k n' H', Ed k n' → Post K P T H n' H' → EX σ (ek k) none H') → t σ H Q
/-- a slice's part -/
def DO (K : PySem.W.Frag) (EX : EXT) (ek : Kd → Value) (tw : Bool) (t : TO) (f : Rho → W (Option Int)) : Prop :=
  ∀ (P : Addr → Prop) (T : Twn) (n : Nat) (H : Hp) (σ : L2.St) (ρ : Rho) (Qd : Option Int → Nat → Prop) (Ed : Kd → Nat → Prop) (Q : Option Int → Hp → Prop),
    T.isSome = tw → St0 K P T n H σ ρ → f ρ Qd Ed n → (∀ d n' H', Qd d n' → Post K P T H n' H' → Q d H') →
    (∀ k n' H', Ed k n' → Post K P T H n' H' → EX σ (ek k) none H') → t σ H Q
/-- an expression that gives a NEW list -/
def DF (K : PySem.W.Frag) (EX : EXT) (ek : Kd → Value) (tw : Bool) (t : TE) (f : Rho → W (List D)) : Prop :=
  ∀ (P : Addr → Prop) (T : Twn) (n : Nat) (H : Hp) (σ : L2.St) (ρ : Rho) (Qd : List D → Nat → Prop) (Ed : Kd → Nat → Prop) (Q : VK),
    T.isSome = tw → St0 K P T n H σ ρ → f ρ Qd Ed n →
    (∀ ds n' p vs H', Qd ds n' → Post K P T H n' H' → H p = none → H' p = some (.lst vs) → RpAll K (hide (fun a => P a ∨ a = p) H') vs ds → Q (.ref p) H') →
    (∀ k n' H', Ed k n' → Post K P T H n' H' → EX σ (ek k) none H') → t σ H Q
/-! ### the wp's words -/
def wret {α : Type} (a : α) : W α := fun Q _ n => Q a n
def wbind {α β : Type} (m : W α) (f : α → W β) : W β := fun Q E n => m (fun a n1 => f a Q E n1) E n
/-- an operation on values, without the town and refusals -/
def wop {α : Type} (g : (α → Prop) → Prop) : W α := fun Q _ n => g fun a => Q a n
def getV (ρ : Rho) (i : Nat) : W D := fun Q _ n => match ρ[i]? with
  | some (Slot.v d) => Q d n
  | _ => False
section
variable {K : PySem.W.Frag} {EX : EXT} {ek : Kd → Value} {tw : Bool} {ta tb tc te : TE} {fa fb fc fe : Rho → W D} {t u : TT} {ft fu : Rho → W Bool} {tr : TA} {fr : Rho → W (List D)}
theorem DF.dt {f : Rho → W (List D)} (h : DF K EX ek tw te f) : DT K EX ek tw te (fun ρ Q E n => f ρ (fun ds n' => Q (.list ds) n') E n) := by
  intro P T n H σ ρ Qd Ed Q hT s hf hq he
  refine h P T n H σ ρ _ Ed Q hT s hf (fun ds n' p vs H' q po hn hp r => hq _ n' _ H' q po ?_) he
  have hnp : ¬ P p := s.nin hn
  exact .lst (hide_some.mpr ⟨hnp, hp⟩) (r.mono (hide_mono fun a o hn q => ⟨fun z => hn (.inl z), q⟩))
theorem dt_var {i : Nat} : DT K EX ek tw (tVar i) (fun ρ => getV ρ i) := by
  intro P T n H σ ρ Qd Ed Q _ s hf hq _
  unfold getV at hf
  split at hf
  · rename_i d hd
    obtain ⟨v, h1, h2⟩ := s.val i d hd
    exact ⟨v, h1, hq d n v H hf (.refl s.tw) h2⟩
  · exact hf.elim
theorem dt_const {v : V} {d : D} (h : ∀ H, Rp K H v d) : DT K EX ek tw (tC v) (fun _ => wret d) := by
  intro P T n H σ ρ Qd Ed Q _ s hf hq _
  exact hq d n v H hf (.refl s.tw) (h _)
theorem dt_int {i : Int} : DT K EX ek tw (tC (.int i)) (fun _ => wret (.int i)) := dt_const fun _ => .int i
theorem dt_str {x : Str} : DT K EX ek tw (tC (.str x)) (fun _ => wret (.str x)) := dt_const fun _ => .str x
theorem dt_bl {b : Bool} : DT K EX ek tw (tC (.bl b)) (fun _ => wret (.bool b)) := dt_const fun _ => .bl b
theorem dt_non : DT K EX ek tw (tC .non) (fun _ => wret .none) := dt_const fun _ => .non
theorem rp_tup {H : Hp} {a : Addr} {xs : List V} {ds : List D} (h : ∀ H, SqT K H a xs) (r : ∀ H, RpAll K H xs ds) : Rp K H (.ref a) (.tuple ds) := .tup (h H) (r H)
/-! ### operations of two values -/
/-- r does what g says -/
def DR (K : PySem.W.Frag) (r : R2) (g : D → D → (D → Prop) → Prop) : Prop :=
  ∀ (P : Addr → Prop) (H : Hp) (x y : V) (dx dy : D) (q : D → Prop) (Q : VK), (∀ a, P a → H a ≠ none) → Rp K (hide P H) x dx → Rp K (hide P H) y dy → g dx dy q →
    (∀ d v H', q d → Same H H' → Rp K (hide P H') v d → Q v H') → r x y H Q
theorem dt_op {r : R2} {g : D → D → (D → Prop) → Prop} (hr : DR K r g) (ha : DT K EX ek tw ta fa) (hb : DT K EX ek tw tb fb) :
    DT K EX ek tw (tOp r ta tb) (fun ρ => wbind (fa ρ) fun x => wbind (fb ρ) fun y => wop (g x y)) := by
  intro P T n H σ ρ Qd Ed Q hT s hf hq he
  refine ha P T n H σ ρ _ Ed _ hT s hf (fun x n1 vx H1 q1 p1 r1 => ?_) he
  refine hb P T n1 H1 σ ρ _ Ed _ hT (s.step p1) q1 (fun y n2 vy H2 q2 p2 r2 => ?_) (fun k n' H' a b => he k n' H' a (p1.trans b))
  have s2 := (s.step p1).step p2
  exact hr P H2 vx vy x y _ _ s2.there (r1.mono (p2.view (s.step p1).tw)) r2 q2 fun d v H3 q3 e r3 => hq d n2 v H3 q3 ((p1.trans p2).trans (.same s2.tw e)) r3
def DU (K : PySem.W.Frag) (r : V → Hp → VK → Prop) (g : D → (D → Prop) → Prop) : Prop :=
  ∀ (P : Addr → Prop) (H : Hp) (x : V) (dx : D) (q : D → Prop) (Q : VK), (∀ a, P a → H a ≠ none) → Rp K (hide P H) x dx → g dx q →
    (∀ d v H', q d → Same H H' → Rp K (hide P H') v d → Q v H') → r x H Q
theorem dt_un {r : V → Hp → VK → Prop} {g : D → (D → Prop) → Prop} (hr : DU K r g) (ha : DT K EX ek tw ta fa) :
    DT K EX ek tw (tUn r ta) (fun ρ => wbind (fa ρ) fun x => wop (g x)) := by
  intro P T n H σ ρ Qd Ed Q hT s hf hq he
  refine ha P T n H σ ρ _ Ed _ hT s hf (fun x n1 vx H1 q1 p1 r1 => ?_) he
  have s1 := s.step p1
  exact hr P H1 vx x _ _ s1.there r1 q1 fun d v H2 q2 e r2 => hq d n1 v H2 q2 (p1.trans (.same s1.tw e)) r2
/-- a call of a built-in by values -/
def DC (K : PySem.W.Frag) (r : List V → Hp → VK → Prop) (g : List D → (D → Prop) → Prop) : Prop :=
  ∀ (P : Addr → Prop) (H : Hp) (xs : List V) (ds : List D) (q : D → Prop) (Q : VK), (∀ a, P a → H a ≠ none) → RpAll K (hide P H) xs ds → g ds q →
    (∀ d v H', q d → Same H H' → Rp K (hide P H') v d → Q v H') → r xs H Q
theorem dt_cb {r : List V → Hp → VK → Prop} {g : List D → (D → Prop) → Prop} (hr : DC K r g) (ha : DA K EX ek tw tr fr) :
    DT K EX ek tw (tCB r tr) (fun ρ => wbind (fr ρ) fun xs => wop (g xs)) := by
  intro P T n H σ ρ Qd Ed Q hT s hf hq he
  refine ha P T n H σ ρ _ Ed _ hT s hf (fun x n1 vx H1 q1 p1 r1 => ?_) he
  have s1 := s.step p1
  exact hr P H1 vx x _ _ s1.there r1 q1 fun d v H2 q2 e r2 => hq d n1 v H2 q2 (p1.trans (.same s1.tw e)) r2
theorem da_nil : DA K EX ek tw tNil (fun _ => wret []) := by
  intro P T n H σ ρ Qd Ed Q _ s hf hq _
  exact hq [] n [] H hf (.refl s.tw) .nil
theorem da_cons (ha : DT K EX ek tw ta fa) (hr : DA K EX ek tw tr fr) : DA K EX ek tw (tCons ta tr) (fun ρ => wbind (fa ρ) fun x => wbind (fr ρ) fun xs => wret (x :: xs)) := by
  intro P T n H σ ρ Qd Ed Q hT s hf hq he
  refine ha P T n H σ ρ _ Ed _ hT s hf (fun x n1 vx H1 q1 p1 r1 => ?_) he
  refine hr P T n1 H1 σ ρ _ Ed _ hT (s.step p1) q1 (fun y n2 vy H2 q2 p2 r2 => ?_) (fun k n' H' a b => he k n' H' a (p1.trans b))
  exact hq _ n2 _ H2 q2 (p1.trans p2) (.cons (r1.mono (p2.view (s.step p1).tw)) r2)
theorem do_none : DO K EX ek tw tNoPart (fun _ => wret none) := by
  intro P T n H σ ρ Qd Ed Q _ s hf hq _
  exact hq none n H hf (.refl s.tw)
def asInt : D → (Int → Prop) → Prop
  | .int i, q => q i
  | _, _ => False
theorem do_some (ha : DT K EX ek tw ta fa) : DO K EX ek tw (tPart ta) (fun ρ => wbind (fa ρ) fun x => wop (fun q => asInt x fun i => q (some i))) := by
  intro P T n H σ ρ Qd Ed Q hT s hf hq he
  refine ha P T n H σ ρ _ Ed _ hT s hf (fun x n1 vx H1 q1 p1 r1 => ?_) he
  cases r1 with
  | int i => exact ⟨i, rfl, hq (some i) n1 H1 q1 p1⟩
  | _ => exact q1.elim
/-! ### tests -/
def asBool : D → (Bool → Prop) → Prop
  | .bool b, q => q b
  | _, _ => False
theorem db_test (ha : DT K EX ek tw ta fa) : DB K EX ek tw (tTest ta) (fun ρ => wbind (fa ρ) fun x => wop (asBool x)) := by
  intro P T n H σ ρ Qd Ed Q hT s hf hq he
  refine ha P T n H σ ρ _ Ed _ hT s hf (fun x n1 vx H1 q1 p1 r1 => ?_) he
  cases r1 with
  | bl b => exact ⟨b, rfl, hq b n1 H1 q1 p1⟩
  | _ => exact q1.elim
theorem db_B (ha : DT K EX ek tw ta fa) : DB K EX ek tw (tB ta) (fun ρ => wbind (fa ρ) fun x => wop (asBool x)) := db_test ha
/-- a value's truth -/
def truD : D → (Bool → Prop) → Prop
  | .none, q => q false
  | .bool b, q => q b
  | .int i, q => q (i != 0)
  | .list xs, q => q (!xs.isEmpty)
  | .tuple xs, q => q (!xs.isEmpty)
  | .str x, q => x.length ≤ sizeLine ∧ q ((x.length : Int) != 0)
  | _, _ => False
theorem isEmpty_rp {K : PySem.W.Frag} {H : Hp} {vs : List V} {ds : List D} (h : RpAll K H vs ds) : vs.isEmpty = ds.isEmpty := by cases h <;> rfl
theorem tru_rp {H : Hp} {P : Addr → Prop} {v : V} {d : D} {q : Bool → Prop} (r : Rp K (hide P H) v d) (h : truD d q) : ∃ k, TruV K v H k ∧ q k := by
  cases r with
  | non => exact ⟨false, rfl, h⟩
  | bl b => exact ⟨b, rfl, h⟩
  | int i => exact ⟨_, rfl, h⟩
  | str x => exact ⟨_, ⟨h.1, rfl⟩, h.2⟩
  | lst e r => exact ⟨_, .inl ⟨_, .inl (.inl (hide_le _ _ e)), rfl⟩, by rw [isEmpty_rp r]; exact h⟩
  | tup e r => exact ⟨_, .inr (.inl ⟨_, seqT_mono hide_le e, rfl⟩), by rw [isEmpty_rp r]; exact h⟩
theorem db_tru (ha : DT K EX ek tw ta fa) : DB K EX ek tw (fun σ H Q => ta σ H fun x H' => ∃ k, TruV K x H' k ∧ Q k H') (fun ρ => wbind (fa ρ) fun x => wop (truD x)) := by
  intro P T n H σ ρ Qd Ed Q hT s hf hq he
  refine ha P T n H σ ρ _ Ed _ hT s hf (fun x n1 vx H1 q1 p1 r1 => ?_) he
  obtain ⟨k, h1, h2⟩ := tru_rp r1 q1
  exact ⟨k, h1, hq k n1 H1 h2 p1⟩
theorem db_not (h : DB K EX ek tw t ft) : DB K EX ek tw (tNot t) (fun ρ => wbind (ft ρ) fun b => wret (!b)) := by
  intro P T n H σ ρ Qd Ed Q hT s hf hq he
  exact h P T n H σ ρ _ Ed _ hT s hf (fun b n1 H1 q1 p1 => hq _ n1 H1 q1 p1) he
theorem db_and (h : DB K EX ek tw t ft) (h2 : DB K EX ek tw u fu) : DB K EX ek tw (tAnd t u) (fun ρ => wbind (ft ρ) fun b => bif b then fu ρ else wret false) := by
  intro P T n H σ ρ Qd Ed Q hT s hf hq he
  refine h P T n H σ ρ _ Ed _ hT s hf (fun b n1 H1 q1 p1 => ?_) he
  cases b with
  | true => exact iteT (h2 P T n1 H1 σ ρ _ Ed _ hT (s.step p1) q1 (fun c n2 H2 q2 p2 => hq c n2 H2 q2 (p1.trans p2)) fun k n' H' a b => he k n' H' a (p1.trans b))
  | false => exact iteF (hq _ n1 H1 q1 p1)
theorem db_or (h : DB K EX ek tw t ft) (h2 : DB K EX ek tw u fu) : DB K EX ek tw (tOr t u) (fun ρ => wbind (ft ρ) fun b => bif b then wret true else fu ρ) := by
  intro P T n H σ ρ Qd Ed Q hT s hf hq he
  refine h P T n H σ ρ _ Ed _ hT s hf (fun b n1 H1 q1 p1 => ?_) he
  cases b with
  | false => exact iteF (h2 P T n1 H1 σ ρ _ Ed _ hT (s.step p1) q1 (fun c n2 H2 q2 p2 => hq c n2 H2 q2 (p1.trans p2)) fun k n' H' a b => he k n' H' a (p1.trans b))
  | true => exact iteT (hq _ n1 H1 q1 p1)
theorem db_yes : DB K EX ek tw tYes (fun _ => wret true) := by
  intro P T n H σ ρ Qd Ed Q _ s hf hq _
  exact hq true n H hf (.refl s.tw)
theorem dt_if (h : DB K EX ek tw t ft) (ha : DT K EX ek tw ta fa) (hb : DT K EX ek tw tb fb) : DT K EX ek tw (tIf t ta tb) (fun ρ => wbind (ft ρ) fun b => bif b then fa ρ else fb ρ) := by
  intro P T n H σ ρ Qd Ed Q hT s hf hq he
  refine h P T n H σ ρ _ Ed _ hT s hf (fun b n1 H1 q1 p1 => ?_) he
  cases b with
  | true => exact iteT (ha P T n1 H1 σ ρ _ Ed _ hT (s.step p1) q1 (fun c n2 v H2 q2 p2 r2 => hq c n2 v H2 q2 (p1.trans p2) r2) fun k n' H' a b => he k n' H' a (p1.trans b))
  | false => exact iteF (hb P T n1 H1 σ ρ _ Ed _ hT (s.step p1) q1 (fun c n2 v H2 q2 p2 r2 => hq c n2 v H2 q2 (p1.trans p2) r2) fun k n' H' a b => he k n' H' a (p1.trans b))
theorem dt_andV (ha : DT K EX ek tw ta fa) (hb : DT K EX ek tw tb fb) : DT K EX ek tw (tAndV ta tb) (fun ρ => wbind (fa ρ) fun x => wbind (wop (asBool x)) fun b => bif b then fb ρ else wret (.bool false)) := by
  intro P T n H σ ρ Qd Ed Q hT s hf hq he
  refine ha P T n H σ ρ _ Ed _ hT s hf (fun x n1 vx H1 q1 p1 r1 => ?_) he
  cases r1 with
  | bl b =>
    refine ⟨b, rfl, ?_⟩
    cases b with
    | true => exact iteT (hb P T n1 H1 σ ρ _ Ed _ hT (s.step p1) q1 (fun c n2 v H2 q2 p2 r2 => hq c n2 v H2 q2 (p1.trans p2) r2) fun k n' H' a b => he k n' H' a (p1.trans b))
    | false => exact iteF (hq _ n1 _ H1 q1 p1 (.bl false))
  | _ => exact q1.elim
theorem dt_orV (ha : DT K EX ek tw ta fa) (hb : DT K EX ek tw tb fb) : DT K EX ek tw (tOrV ta tb) (fun ρ => wbind (fa ρ) fun x => wbind (wop (asBool x)) fun b => bif b then wret (.bool true) else fb ρ) := by
  intro P T n H σ ρ Qd Ed Q hT s hf hq he
  refine ha P T n H σ ρ _ Ed _ hT s hf (fun x n1 vx H1 q1 p1 r1 => ?_) he
  cases r1 with
  | bl b =>
    refine ⟨b, rfl, ?_⟩
    cases b with
    | false => exact iteF (hb P T n1 H1 σ ρ _ Ed _ hT (s.step p1) q1 (fun c n2 v H2 q2 p2 r2 => hq c n2 v H2 q2 (p1.trans p2) r2) fun k n' H' a b => he k n' H' a (p1.trans b))
    | true => exact iteT (hq _ n1 _ H1 q1 p1 (.bl true))
  | _ => exact q1.elim
theorem dt_notV (ha : DT K EX ek tw ta fa) : DT K EX ek tw (tNotV ta) (fun ρ => wbind (fa ρ) fun x => wbind (wop (asBool x)) fun b => wret (.bool (!b))) := by
  intro P T n H σ ρ Qd Ed Q hT s hf hq he
  refine ha P T n H σ ρ _ Ed _ hT s hf (fun x n1 vx H1 q1 p1 r1 => ?_) he
  cases r1 with
  | bl b => exact ⟨b, rfl, hq _ n1 _ H1 q1 p1 (.bl _)⟩
  | _ => exact q1.elim
/-- a < b < c -/
theorem dt_chain {r r' : R2} {g g' : D → D → (D → Prop) → Prop} (hr : DR K r g) (hr' : DR K r' g') (ha : DT K EX ek tw ta fa) (hb : DT K EX ek tw tb fb) (hc : DT K EX ek tw tc fc) :
    DT K EX ek tw (tChain r r' ta tb tc) (fun ρ => wbind (fa ρ) fun x => wbind (fb ρ) fun y => wbind (wop (g x y)) fun z => wbind (wop (asBool z)) fun b => bif b then wbind (fc ρ) fun w => wop (g' y w) else wret (.bool false)) := by
  intro P T n H σ ρ Qd Ed Q hT s hf hq he
  refine ha P T n H σ ρ _ Ed _ hT s hf (fun x n1 vx H1 q1 p1 r1 => ?_) he
  refine hb P T n1 H1 σ ρ _ Ed _ hT (s.step p1) q1 (fun y n2 vy H2 q2 p2 r2 => ?_) (fun k n' H' a b => he k n' H' a (p1.trans b))
  have s2 := (s.step p1).step p2
  refine hr P H2 vx vy x y _ _ s2.there (r1.mono (p2.view (s.step p1).tw)) r2 q2 fun z vz H3 q3 e r3 => ?_
  have p3 : Post K P T H n2 H3 := (p1.trans p2).trans (.same s2.tw e)
  cases r3 with
  | bl b =>
    refine ⟨b, rfl, ?_⟩
    cases b with
    | false => exact iteF (hq _ n2 _ H3 q3 p3 (.bl false))
    | true =>
      refine iteT (hc P T n2 H3 σ ρ _ Ed _ hT (s.step p3) q3 (fun c n4 vc H4 q4 p4 r4 => ?_) fun k n' H' a b => he k n' H' a (p3.trans b))
      have s4 := (s.step p3).step p4
      exact hr' P H4 vy vc y c _ _ s4.there ((r2.mono (hide_same e)).mono (p4.view (s.step p3).tw)) r4 q4 fun d v H5 q5 e5 r5 => hq d n4 v H5 q5 ((p3.trans p4).trans (.same s4.tw e5)) r5
  | _ => exact q3.elim
/-! ### displays -/
theorem dt_tup (h : DA K EX ek tw tr fr) : DT K EX ek tw (tTup tr) (fun ρ => wbind (fr ρ) fun xs => wop fun q => xs.length ≤ 100000 ∧ q (.tuple xs)) := by
  intro P T n H σ ρ Qd Ed Q hT s hf hq he
  refine h P T n H σ ρ _ Ed _ hT s hf (fun xs n1 vs H1 q1 p1 r1 => ?_) he
  have s1 := s.step p1
  refine ⟨by rw [r1.length, sizeLine_eq]; have := q1.1; omega, fun p hp => ?_⟩
  have e := same_new (o := .tup vs) hp
  exact hq _ n1 _ _ q1.2 (p1.trans (.same s1.tw e)) (.tup (.inl (.inl (hide_some.mpr ⟨s1.nin hp, upd_same⟩))) (r1.mono (hide_same e)))
theorem df_lst (h : DA K EX ek tw tr fr) : DF K EX ek tw (tLst tr) (fun ρ => wbind (fr ρ) fun xs => wop fun q => xs.length ≤ 100000 ∧ q xs) := by
  intro P T n H σ ρ Qd Ed Q hT s hf hq he
  refine h P T n H σ ρ _ Ed _ hT s hf (fun xs n1 vs H1 q1 p1 r1 => ?_) he
  have s1 := s.step p1
  refine ⟨by rw [r1.length, sizeLine_eq]; have := q1.1; omega, fun p hp => ?_⟩
  have e := same_new (o := .lst vs) hp
  have hn : H p = none := by
    cases z : H p with
    | none => rfl
    | some o =>
      by_cases w : ∃ b, T = some b ∧ p = b.2
      · obtain ⟨b, hb, rfl⟩ := w
        rw [(s1.tw.ok b hb).2.1] at hp; cases hp
      · rw [p1.keep p o (fun b hb q => w ⟨b, hb, q⟩) z] at hp; cases hp
  refine hq _ n1 p vs _ q1.2 (p1.trans (.same s1.tw e)) hn upd_same (r1.mono (hide_mono fun a o na q => ⟨fun z => ?_, e a o q⟩))
  rcases z with z | z
  · exact na z
  · rw [z, hp] at q; cases q
theorem St0.back {P : Addr → Prop} {T : Twn} {n n' : Nat} {H H' : Hp} {σ : L2.St} {ρ : Rho} (s : St0 K P T n H σ ρ) (p1 : Post K P T H n' H') {p : Addr} (hp : H' p = none) : H p = none := by
  cases z : H p with
  | none => rfl
  | some o =>
    by_cases w : ∃ b, T = some b ∧ p = b.2
    · obtain ⟨b, hb, rfl⟩ := w
      rw [(p1.tw.ok b hb).2.1] at hp; cases hp
    · rw [p1.keep p o (fun b hb q => w ⟨b, hb, q⟩) z] at hp; cases hp
end
end WB
set_option Elab.async false
set_option linter.all false
set_option maxRecDepth 100000
set_option maxHeartbeats 2000000
/-! Part B: operators, built-ins, slices, walks, comprehensions over data. -/
namespace WB
open PySem PySem.Spec L2
/-! ### operators -/
section
variable {X : Cx}
abbrev rAddI : R2 := rI0 fun i j => .int (i + j)
abbrev rAddS : R2 := fun x y H Q => ∃ i j, x = .str i ∧ y = .str j ∧ i.length + j.length ≤ sizeLine ∧ Q (.str (i ++ j)) H
def rAddG (K : PySem.W.Frag) : R2 := fun x y H Q => rAddI x y H Q ∨ (rCat x y H Q ∨ (rCatA K x y H Q ∨ rAddS x y H Q))
theorem op_addG : OpR X (binaryOp .Add) (rAddG X.K) := op_add.or (op_cat.or (op_catA.or op_add_str))
def rMulG (K : PySem.W.Frag) : R2 := fun x y H Q => (rI CMul fun i j => .int (i * j)) x y H Q ∨ rRep x y H Q
theorem op_mulG : OpR X (binaryOp .Mult) (rMulG X.K) := op_mul.or op_rep
end
section
variable {K : PySem.W.Frag}
theorem df_new {P : Addr → Prop} {H : Hp} (hP : ∀ a, P a → H a ≠ none) {p : Addr} {o : HO} (hp : H p = none) : hide P (upd H p o) p = some o := hide_some.mpr ⟨fun q => hP p q hp, upd_same⟩
theorem new_l {P : Addr → Prop} {H : Hp} {q : D → Prop} {Q : VK} {p : Addr} {vs : List V} {ds : List D} (hP : ∀ a, P a → H a ≠ none) (hQ : ∀ d v H', q d → Same H H' → Rp K (hide P H') v d → Q v H') (hp : H p = none) (hg : q (.list ds)) (r : RpAll K (hide P H) vs ds) : Q (.ref p) (upd H p (.lst vs)) :=
  hQ _ _ _ hg (same_new hp) (.lst (df_new hP hp) (r.mono (hide_same (same_new hp))))
theorem new_t {P : Addr → Prop} {H : Hp} {q : D → Prop} {Q : VK} {p : Addr} {vs : List V} {ds : List D} (hP : ∀ a, P a → H a ≠ none) (hQ : ∀ d v H', q d → Same H H' → Rp K (hide P H') v d → Q v H') (hp : H p = none) (hg : q (.tuple ds)) (r : RpAll K (hide P H) vs ds) : Q (.ref p) (upd H p (.tup vs)) :=
  hQ _ _ _ hg (same_new hp) (.tup (.inl (.inl (df_new hP hp))) (r.mono (hide_same (same_new hp))))
/-- the new list's own place is hidden -/
theorem new_f {P : Addr → Prop} {H : Hp} {p : Addr} {o : HO} {vs : List V} {ds : List D} (hp : H p = none) (r : RpAll K (hide P H) vs ds) : RpAll K (hide (fun a => P a ∨ a = p) (upd H p o)) vs ds :=
  r.mono (hide_mono fun a u na q => ⟨fun z => z.elim na fun w => (by rw [w, hp] at q; cases q), same_new hp a u q⟩)
def addD : D → D → (D → Prop) → Prop
  | .int a, .int b, q => q (.int (a + b))
  | .list a, .list b, q => a.length + b.length ≤ 1000000 ∧ q (.list (a ++ b))
  | .tuple a, .tuple b, q => a.length + b.length ≤ 1000000 ∧ q (.tuple (a ++ b))
  | .str a, .str b, q => a.length + b.length ≤ 1000000 ∧ q (.str (a ++ b))
  | _, _, _ => False
theorem line6 {n : Nat} (h : n ≤ 1000000) : n ≤ sizeLine := by rw [sizeLine_eq]; omega
theorem dr_add : DR K (rAddG K) addD := by
  intro P H x y dx dy q Q hP rx ry hg hQ
  cases rx with
  | int i =>
    cases ry with
    | int j => exact .inl ⟨i, j, rfl, rfl, hQ _ _ H hg (fun _ _ e => e) (.int _)⟩
    | _ => exact hg.elim
  | str a =>
    cases ry with
    | str b => exact .inr (.inr (.inr ⟨a, b, rfl, rfl, line6 hg.1, hQ _ _ H hg.2 (fun _ _ e => e) (.str _)⟩))
    | _ => exact hg.elim
  | lst e1 r1 =>
    cases ry with
    | lst e2 r2 =>
      refine .inr (.inl ⟨_, _, _, _, rfl, rfl, hide_le _ _ e1, hide_le _ _ e2, ?_, fun p hp => ?_⟩)
      · rw [r1.length, r2.length]; exact line6 hg.1
      · exact new_l hP hQ hp hg.2 (r1.append r2)
    | _ => exact hg.elim
  | tup e1 r1 =>
    cases ry with
    | tup e2 r2 =>
      refine .inr (.inr (.inl ⟨_, _, _, _, rfl, rfl, seqT_mono hide_le e1, seqT_mono hide_le e2, ?_, fun ne => ?_, fun _ ne => ?_, fun _ _ p hp => ?_⟩))
      · rw [r1.length, r2.length]; exact line6 hg.1
      · subst ne
        cases r1
        exact hQ _ _ H hg.2 (fun _ _ e => e) (.tup e2 r2)
      · subst ne
        cases r2
        refine hQ _ _ H hg.2 (fun _ _ e => e) ?_
        rw [List.append_nil]
        exact .tup e1 r1
      · exact new_t hP hQ hp hg.2 (r1.append r2)
    | _ => exact hg.elim
  | _ => exact hg.elim
def mulD : D → D → (D → Prop) → Prop
  | .int a, .int b, q => CMul a b ∧ q (.int (a * b))
  | .list a, .int b, q => a.length * b.toNat ≤ 1000000 ∧ -1000000 ≤ b ∧ b ≤ 1000000 ∧ q (.list (List.replicate b.toNat a).flatten)
  | _, _, _ => False
theorem dr_mul : DR K (rMulG K) mulD := by
  intro P H x y dx dy q Q hP rx ry hg hQ
  cases rx with
  | int i =>
    cases ry with
    | int j => exact .inl ⟨i, j, rfl, rfl, hg.1, hQ _ _ H hg.2 (fun _ _ e => e) (.int _)⟩
    | _ => exact hg.elim
  | lst e1 r1 =>
    cases ry with
    | int j =>
      refine .inr ⟨_, _, _, rfl, rfl, hide_le _ _ e1, ?_, ?_, ?_, fun p hp => ?_⟩
      · have := hg.2.1; omega
      · have := hg.2.2.1; omega
      · rw [r1.length]; exact line6 hg.1
      · exact new_l hP hQ hp hg.2.2.2 (r1.flat _)
    | _ => exact hg.elim
  | _ => exact hg.elim
/-- two ints, under a condition -/
def intD (C : Int → Int → Prop) (g : Int → Int → D) : D → D → (D → Prop) → Prop
  | .int a, .int b, q => C a b ∧ q (g a b)
  | _, _, _ => False
def intD0 (g : Int → Int → D) : D → D → (D → Prop) → Prop
  | .int a, .int b, q => q (g a b)
  | _, _, _ => False
theorem dr_I {C : Int → Int → Prop} {g : Int → Int → V} {g' : Int → Int → D} (h : ∀ H i j, Rp K H (g i j) (g' i j)) : DR K (rI C g) (intD C g') := by
  intro P H x y dx dy q Q hP rx ry hg hQ
  cases rx with
  | int i =>
    cases ry with
    | int j => exact ⟨i, j, rfl, rfl, hg.1, hQ _ _ H hg.2 (fun _ _ e => e) (h _ _ _)⟩
    | _ => exact hg.elim
  | _ => exact hg.elim
theorem dr_I0 {g : Int → Int → V} {g' : Int → Int → D} (h : ∀ H i j, Rp K H (g i j) (g' i j)) : DR K (rI0 g) (intD0 g') := by
  intro P H x y dx dy q Q hP rx ry hg hQ
  cases rx with
  | int i =>
    cases ry with
    | int j => exact ⟨i, j, rfl, rfl, hQ _ _ H hg (fun _ _ e => e) (h _ _ _)⟩
    | _ => exact hg.elim
  | _ => exact hg.elim
theorem dr_sub : DR K (rI0 fun i j => .int (i - j)) (intD0 fun i j => .int (i - j)) := dr_I0 fun _ _ _ => .int _
theorem dr_fdiv : DR K (rI CDiv fun i j => .int (i / j)) (intD CDiv fun i j => .int (i / j)) := dr_I fun _ _ _ => .int _
theorem dr_mod : DR K (rI (fun _ j => 0 < j) fun i j => .int (i % j)) (intD (fun _ j => 0 < j) fun i j => .int (i % j)) := dr_I fun _ _ _ => .int _
theorem dr_pow : DR K (rI CPow fun i j => .int (i ^ j.toNat)) (intD CPow fun i j => .int (i ^ j.toNat)) := dr_I fun _ _ _ => .int _
theorem dr_lt : DR K (rI0 fun i j => .bl (decide (i < j))) (intD0 fun i j => .bool (decide (i < j))) := dr_I0 fun _ _ _ => .bl _
theorem dr_le : DR K (rI0 fun i j => .bl (decide (i ≤ j))) (intD0 fun i j => .bool (decide (i ≤ j))) := dr_I0 fun _ _ _ => .bl _
theorem dr_gt : DR K (rI0 fun i j => .bl (decide (j < i))) (intD0 fun i j => .bool (decide (j < i))) := dr_I0 fun _ _ _ => .bl _
theorem dr_ge : DR K (rI0 fun i j => .bl (decide (j ≤ i))) (intD0 fun i j => .bool (decide (j ≤ i))) := dr_I0 fun _ _ _ => .bl _
/-- == and != of data -/
def eqD : D → D → (D → Prop) → Prop := fun x y q => SeqAt.shaped x = true ∧ SeqAt.shaped y = true ∧ q (.bool (PyData.eqv x y))
def neD : D → D → (D → Prop) → Prop := fun x y q => SeqAt.shaped x = true ∧ SeqAt.shaped y = true ∧ q (.bool (!PyData.eqv x y))
theorem dr_eq : DR K (rEqD K) eqD := fun P H x y dx dy q Q _ rx ry hg hQ =>
  ⟨dx, dy, (rx.mono hide_le).dp, (ry.mono hide_le).dp, hg.1, hg.2.1, hQ _ _ H hg.2.2 (fun _ _ e => e) (.bl _)⟩
theorem dr_ne : DR K (rNeD K) neD := fun P H x y dx dy q Q _ rx ry hg hQ =>
  ⟨dx, dy, (rx.mono hide_le).dp, (ry.mono hide_le).dp, hg.1, hg.2.1, hQ _ _ H hg.2.2 (fun _ _ e => e) (.bl _)⟩
abbrev rIsNo : R2 := fun x y H Q => y = .non ∧ Q (.bl (decide (x = .non))) H
abbrev rIsNotNo : R2 := fun x y H Q => y = .non ∧ Q (.bl (!decide (x = .non))) H
def isNo : D → Bool
  | .none => true
  | _ => false
def isNoD : D → D → (D → Prop) → Prop := fun x y q => y = .none ∧ q (.bool (isNo x))
def isNotNoD : D → D → (D → Prop) → Prop := fun x y q => y = .none ∧ q (.bool (!isNo x))
theorem dec_no {H : Hp} {v : V} {d : D} (h : Rp K H v d) : decide (v = .non) = isNo d := by cases h <;> simp [isNo]
theorem dr_is : DR K rIsNo isNoD := fun P H x y dx dy q Q _ rx ry hg hQ => by
  obtain ⟨e, hg⟩ := hg
  subst e
  cases ry
  exact ⟨rfl, by rw [dec_no rx]; exact hQ _ _ H hg (fun _ _ e => e) (.bl _)⟩
theorem dr_isnot : DR K rIsNotNo isNotNoD := fun P H x y dx dy q Q _ rx ry hg hQ => by
  obtain ⟨e, hg⟩ := hg
  subst e
  cases ry
  exact ⟨rfl, by rw [dec_no rx]; exact hQ _ _ H hg (fun _ _ e => e) (.bl _)⟩
/-! in, not in -/
abbrev rInSg : R2 := fun x y H Q => ∃ (c : Nat) (z : Str), x = .str ⟨#[c]⟩ ∧ y = .str z ∧ Q (.bl (decide (c ∈ z.cps.toList))) H
abbrev rNotInSg : R2 := fun x y H Q => ∃ (c : Nat) (z : Str), x = .str ⟨#[c]⟩ ∧ y = .str z ∧ Q (.bl (!decide (c ∈ z.cps.toList))) H
def rInG (K : PySem.W.Frag) : R2 := fun x y H Q => rInD K x y H Q ∨ (rIn K false x y H Q ∨ rInSg x y H Q)
def rNotInG (K : PySem.W.Frag) : R2 := fun x y H Q => rNotInD K x y H Q ∨ (rIn K true x y H Q ∨ rNotInSg x y H Q)
theorem op_inG {X : Cx} (hu : X.A.units + 65 < cLine) : OpR X (compareOp .In) (rInG X.K) := (op_inD hu).or (op_in_seq.or op_in_sign)
theorem op_notInG {X : Cx} (hu : X.A.units + 65 < cLine) : OpR X (compareOp .NotIn) (rNotInG X.K) := (op_notInD hu).or (op_notIn_seq.or op_notIn_sign)
/-- a text is among texts -/
def strsOf : List D → Option (List Str)
  | [] => some []
  | .str x :: ds => (strsOf ds).map (x :: ·)
  | _ :: _ => none
def inD : D → D → (Bool → Prop) → Prop
  | x, .list ds, q => SeqAt.shaped x = true ∧ SeqAt.shaped (.list ds) = true ∧ q (ds.any fun z => PyData.eqv z x)
  | .str x, .tuple ds, q => ∃ xs, strsOf ds = some xs ∧ q (xs.any fun z => z == x)
  | .str x, .str z, q => ∃ c, x = ⟨#[c]⟩ ∧ q (decide (c ∈ z.cps.toList))
  | _, _, _ => False
theorem strsOf_map : ∀ {ds : List D} {xs : List Str}, strsOf ds = some xs → ds = xs.map PyData.str
  | [], _, h => by cases h; rfl
  | .str x :: ds, xs, h => by
    unfold strsOf at h
    cases e : strsOf ds with
    | none => rw [e] at h; cases h
    | some ys => rw [e] at h; cases h; rw [strsOf_map e]; rfl
  | .none :: _, _, h => by cases h
  | .bool _ :: _, _, h => by cases h
  | .int _ :: _, _, h => by cases h
  | .list _ :: _, _, h => by cases h
  | .tuple _ :: _, _, h => by cases h
  | .dict _ :: _, _, h => by cases h
theorem all_flat_str (xs : List Str) : (xs.map V.str).all flatV = true := by
  rw [List.all_map]; exact List.all_eq_true.mpr fun _ _ => rfl
theorem inV_str (x : Str) (xs : List Str) : inV (.str x) (xs.map V.str) = xs.any fun z => z == x := by
  unfold inV; rw [List.any_map]; rfl
theorem in_core {P : Addr → Prop} {H : Hp} {x y : V} {dx dy : D} {q : Bool → Prop} (rx : Rp K (hide P H) x dx) (ry : Rp K (hide P H) y dy) (hg : inD dx dy q) :
    ∃ b, q b ∧ ((∃ ds, dy = .list ds ∧ SeqAt.shaped dx = true ∧ SeqAt.shaped (.list ds) = true ∧ b = (ds.any fun z => PyData.eqv z dx)) ∨
      (∃ p xs, y = .ref p ∧ SqT K H p xs ∧ flatV x = true ∧ xs.all flatV = true ∧ b = inV x xs) ∨ (∃ c z, x = .str ⟨#[c]⟩ ∧ y = .str z ∧ b = decide (c ∈ z.cps.toList))) := by
  cases ry with
  | lst e2 r2 =>
    rename_i ds
    have h : SeqAt.shaped dx = true ∧ SeqAt.shaped (.list ds) = true ∧ q (ds.any fun z => PyData.eqv z dx) := by cases dx <;> exact hg
    exact ⟨_, h.2.2, .inl ⟨_, rfl, h.1, h.2.1, rfl⟩⟩
  | tup e2 r2 =>
    cases rx with
    | str x =>
      obtain ⟨xs, h1, h2⟩ := hg
      have := strsOf_map h1
      subst this
      have := r2.strs
      subst this
      exact ⟨_, h2, .inr (.inl ⟨_, _, rfl, seqT_mono hide_le e2, rfl, all_flat_str _, (inV_str _ _).symm⟩)⟩
    | _ => exact hg.elim
  | str z =>
    cases rx with
    | str x =>
      obtain ⟨c, h1, h2⟩ := hg
      subst h1
      exact ⟨_, h2, .inr (.inr ⟨_, _, rfl, rfl, rfl⟩)⟩
    | _ => exact hg.elim
  | _ => cases dx <;> exact hg.elim
theorem dr_in : DR K (rInG K) (fun x y q => inD x y fun b => q (.bool b)) := by
  intro P H x y dx dy q Q hP rx ry hg hQ
  obtain ⟨b, hb, h | h | h⟩ := in_core rx ry hg
  · obtain ⟨ds, rfl, s1, s2, rfl⟩ := h
    exact .inl ⟨dx, ds, (rx.mono hide_le).dp, (ry.mono hide_le).dp, s1, s2, hQ _ _ H hb (fun _ _ e => e) (.bl _)⟩
  · obtain ⟨p, xs, rfl, h1, h2, h3, rfl⟩ := h
    exact .inr (.inl ⟨p, xs, rfl, .inr h1, h2, h3, hQ _ _ H hb (fun _ _ e => e) (.bl _)⟩)
  · obtain ⟨c, z, rfl, rfl, rfl⟩ := h
    exact .inr (.inr ⟨c, z, rfl, rfl, hQ _ _ H hb (fun _ _ e => e) (.bl _)⟩)
theorem dr_notIn : DR K (rNotInG K) (fun x y q => inD x y fun b => q (.bool (!b))) := by
  intro P H x y dx dy q Q hP rx ry hg hQ
  obtain ⟨b, hb, h | h | h⟩ := in_core rx ry hg
  · obtain ⟨ds, rfl, s1, s2, rfl⟩ := h
    exact .inl ⟨dx, ds, (rx.mono hide_le).dp, (ry.mono hide_le).dp, s1, s2, hQ _ _ H hb (fun _ _ e => e) (.bl _)⟩
  · obtain ⟨p, xs, rfl, h1, h2, h3, rfl⟩ := h
    exact .inr (.inl ⟨p, xs, rfl, .inr h1, h2, h3, hQ _ _ H hb (fun _ _ e => e) (.bl _)⟩)
  · obtain ⟨c, z, rfl, rfl, rfl⟩ := h
    exact .inr (.inr ⟨c, z, rfl, rfl, hQ _ _ H hb (fun _ _ e => e) (.bl _)⟩)
/-! places -/
theorem atI_rp {H : Hp} {xs : List V} {ds : List D} (r : RpAll K H xs ds) {i : Int} {d : D} (h : atI ds i = some d) : ∃ v, atI xs i = some v ∧ Rp K H v d := by
  unfold atI at h ⊢
  rw [r.length]
  cases e : ixN ds.length i with
  | none => rw [e] at h; cases h
  | some j =>
    rw [e] at h
    exact r.get (i := j) h
def ixD : D → D → (D → Prop) → Prop
  | .list ds, .int i, q => ∃ d, atI ds i = some d ∧ q d
  | .tuple ds, .int i, q => ∃ d, atI ds i = some d ∧ q d
  | .str z, .int i, q => z.length ≤ 1000000 ∧ ∃ c, atI z.cps.toList i = some c ∧ q (.str ⟨#[c]⟩)
  | _, _, _ => False
theorem dr_ix : DR K (rIx K) ixD := by
  intro P H x y dx dy q Q hP rx ry hg hQ
  cases rx with
  | lst e1 r1 =>
    cases ry with
    | int i =>
      obtain ⟨d, h1, h2⟩ := hg
      obtain ⟨v, h3, h4⟩ := atI_rp r1 h1
      exact .inl ⟨_, _, i, v, rfl, rfl, .inl (.inl (hide_le _ _ e1)), h3, hQ _ _ H h2 (fun _ _ e => e) h4⟩
    | _ => exact hg.elim
  | tup e1 r1 =>
    cases ry with
    | int i =>
      obtain ⟨d, h1, h2⟩ := hg
      obtain ⟨v, h3, h4⟩ := atI_rp r1 h1
      exact .inr (.inl ⟨_, _, i, v, rfl, rfl, seqT_mono hide_le e1, h3, hQ _ _ H h2 (fun _ _ e => e) h4⟩)
    | _ => exact hg.elim
  | str z =>
    cases ry with
    | int i =>
      obtain ⟨h0, c, h1, h2⟩ := hg
      exact .inr (.inr ⟨z, i, c, rfl, rfl, line6 h0, h1, hQ _ _ H h2 (fun _ _ e => e) (.str _)⟩)
    | _ => exact hg.elim
  | _ => exact hg.elim
/-! -x -/
def negD : D → (D → Prop) → Prop
  | .int i, q => q (.int (-i))
  | _, _ => False
theorem du_neg : DU K (rU fun i => .int (-i)) negD := by
  intro P H x dx q Q hP rx hg hQ
  cases rx with
  | int i => exact ⟨i, rfl, hQ _ _ H hg (fun _ _ e => e) (.int _)⟩
  | _ => exact hg.elim
/-! slices -/
def cutG {α : Type} (xs : List α) (lo hi : Option Int) : List α := (xs.drop (HT.sIx xs.length 0 lo)).take (HT.sIx xs.length xs.length hi - HT.sIx xs.length 0 lo)
theorem cut_rp {H : Hp} {xs : List V} {ds : List D} (r : RpAll K H xs ds) (lo hi : Option Int) : RpAll K H (cutV xs lo hi) (cutG ds lo hi) := by
  unfold cutV cutG
  rw [r.length]
  exact (r.drop _).take _
theorem cut_whole {α : Type} {xs : List α} {lo hi : Option Int} (h : HT.sIx xs.length 0 lo = 0 ∧ HT.sIx xs.length xs.length hi = xs.length) : cutG xs lo hi = xs := by
  unfold cutG
  rw [h.1, h.2, List.drop_zero, Nat.sub_zero, List.take_length]
def rSlG (K : PySem.W.Frag) : V → Option Int → Option Int → Hp → VK → Prop := fun x lo hi H Q => rSlL K x lo hi H Q ∨ (rSlA K x lo hi H Q ∨ rSlS x lo hi H Q)
theorem sl_G {X : Cx} : SlR X (rSlG X.K) := sl_list.or (sl_tupA.or sl_str)
def slD : D → Option Int → Option Int → (D → Prop) → Prop
  | .list ds, lo, hi, q => q (.list (cutG ds lo hi))
  | .tuple ds, lo, hi, q => q (.tuple (cutG ds lo hi))
  | .str z, lo, hi, q => z.length ≤ 1000000 ∧ q (.str (cutS z lo hi))
  | _, _, _, _ => False
theorem ds_sl {P : Addr → Prop} {H : Hp} {x : V} {dx : D} {lo hi : Option Int} {q : D → Prop} {Q : VK} (hP : ∀ a, P a → H a ≠ none) (rx : Rp K (hide P H) x dx) (hg : slD dx lo hi q)
    (hQ : ∀ d v H', q d → Same H H' → Rp K (hide P H') v d → Q v H') : rSlG K x lo hi H Q := by
  cases rx with
  | lst e1 r1 =>
    refine .inl ⟨_, _, rfl, .inl (.inl (hide_le _ _ e1)), fun p hp => new_l hP hQ hp hg (cut_rp r1 lo hi)⟩
  | tup e1 r1 =>
    refine .inr (.inl ⟨_, _, rfl, seqT_mono hide_le e1, fun hw => ?_, fun _ p hp => ?_⟩)
    · rw [r1.length] at hw
      have hg : q _ := hg
      rw [cut_whole hw] at hg
      exact hQ _ _ H hg (fun _ _ e => e) (.tup e1 r1)
    · exact new_t hP hQ hp hg (cut_rp r1 lo hi)
  | str z => exact .inr (.inr ⟨z, rfl, line6 hg.1, hQ _ _ H hg.2 (fun _ _ e => e) (.str _)⟩)
  | _ => exact hg.elim
end
section
variable {K : PySem.W.Frag} {EX : EXT} {ek : Kd → Value} {tw : Bool} {ta tb tc te : TE} {fa fb fc fe : Rho → W D} {t u : TT} {ft fu : Rho → W Bool} {tr : TA} {fr : Rho → W (List D)} {tl th : TO} {fl fh : Rho → W (Option Int)}
theorem dt_slice (ha : DT K EX ek tw ta fa) (hl : DO K EX ek tw tl fl) (hh : DO K EX ek tw th fh) :
    DT K EX ek tw (tSl (rSlG K) ta tl th) (fun ρ => wbind (fa ρ) fun x => wbind (fl ρ) fun l => wbind (fh ρ) fun h => wop (slD x l h)) := by
  intro P T n H σ ρ Qd Ed Q hT s hf hq he
  refine ha P T n H σ ρ _ Ed _ hT s hf (fun x n1 vx H1 q1 p1 r1 => ?_) he
  refine hl P T n1 H1 σ ρ _ Ed _ hT (s.step p1) q1 (fun l n2 H2 q2 p2 => ?_) (fun k n' H' a b => he k n' H' a (p1.trans b))
  have p12 := p1.trans p2
  refine hh P T n2 H2 σ ρ _ Ed _ hT (s.step p12) q2 (fun h n3 H3 q3 p3 => ?_) (fun k n' H' a b => he k n' H' a (p12.trans b))
  have p13 := p12.trans p3
  have s3 := s.step p13
  exact ds_sl s3.there (r1.mono ((p2.trans p3).view (s.step p1).tw)) q3 fun d v H' q e r => hq d n3 v H' q (p13.trans (.same s3.tw e)) r
/-- xs[::-1] -/
def revD : D → (List D → Prop) → Prop
  | .list ds, q => q ds.reverse
  | _, _ => False
theorem df_rev (ha : DT K EX ek tw ta fa) : DF K EX ek tw (tRevL K ta) (fun ρ => wbind (fa ρ) fun x => wop (revD x)) := by
  intro P T n H σ ρ Qd Ed Q hT s hf hq he
  refine ha P T n H σ ρ _ Ed _ hT s hf (fun x n1 vx H1 q1 p1 r1 => ?_) he
  have s1 := s.step p1
  cases r1 with
  | lst e1 r1 =>
    refine ⟨_, _, rfl, .inl (.inl (hide_le _ _ e1)), fun p hp => ?_⟩
    exact hq _ n1 p _ _ q1 (p1.trans (.same s1.tw (same_new hp))) (s.back p1 hp) upd_same (new_f hp r1.reverse)
  | _ => exact q1.elim
end
end WB
set_option Elab.async false
set_option linter.all false
set_option maxRecDepth 100000
set_option maxHeartbeats 2000000
/-! Part C: built-ins, walks, comprehensions, calls by contract. -/
namespace WB
open PySem PySem.Spec L2
section
variable {K : PySem.W.Frag}
/-! ### built-ins -/
abbrev rLen (K : PySem.W.Frag) : List V → Hp → VK → Prop := fun xs H Q => ∃ x n, xs = [x] ∧ LenV K x H n ∧ Q (.int n) H
def lenD : List D → (D → Prop) → Prop
  | [.list ds], q => q (.int ds.length)
  | [.tuple ds], q => q (.int ds.length)
  | [.str z], q => z.length ≤ 1000000 ∧ q (.int z.length)
  | _, _ => False
theorem dc_len : DC K (rLen K) lenD := by
  intro P H xs ds q Q hP r hg hQ
  cases r with
  | nil => exact hg.elim
  | cons r rr =>
    cases rr with
    | cons _ _ => cases r <;> exact hg.elim
    | nil =>
      cases r with
      | lst e r => exact ⟨_, _, rfl, .inl ⟨_, .inl (.inl (hide_le _ _ e)), rfl⟩, by rw [r.length]; exact hQ _ _ H hg (fun _ _ e => e) (.int _)⟩
      | tup e r => exact ⟨_, _, rfl, .inr ⟨_, seqT_mono hide_le e, rfl⟩, by rw [r.length]; exact hQ _ _ H hg (fun _ _ e => e) (.int _)⟩
      | str z => exact ⟨_, _, rfl, ⟨line6 hg.1, rfl⟩, hQ _ _ H hg.2 (fun _ _ e => e) (.int _)⟩
      | _ => exact hg.elim
theorem one_list {P : Addr → Prop} {H : Hp} {xs : List V} {ds : List D} (r : RpAll K (hide P H) xs [.list ds]) : ∃ a vs, xs = [.ref a] ∧ H a = some (.lst vs) ∧ RpAll K (hide P H) vs ds := by
  cases r with
  | cons r rr =>
    cases rr
    cases r with
    | lst e r => exact ⟨_, _, rfl, hide_le _ _ e, r⟩
def sumD : List D → (D → Prop) → Prop := fun xs q => ∃ ns : List Int, xs = [.list (ns.map .int)] ∧ q (.int ns.sum)
theorem dc_sum : DC K (rSum K) sumD := by
  intro P H xs ds q Q hP r hg hQ
  obtain ⟨ns, rfl, hg⟩ := hg
  obtain ⟨a, vs, rfl, e, r⟩ := one_list r
  rw [r.ints] at e
  exact ⟨a, ns, rfl, .inl (.inl e), hQ _ _ H hg (fun _ _ e => e) (.int _)⟩
def allD : List D → (D → Prop) → Prop := fun xs q => ∃ bs : List Bool, xs = [.list (bs.map .bool)] ∧ q (.bool (bs.all id))
theorem dc_all : DC K (rAll K) allD := by
  intro P H xs ds q Q hP r hg hQ
  obtain ⟨ns, rfl, hg⟩ := hg
  obtain ⟨a, vs, rfl, e, r⟩ := one_list r
  rw [r.bls] at e
  exact ⟨a, ns, rfl, .inl (.inl e), hQ _ _ H hg (fun _ _ e => e) (.bl _)⟩
def anyD : List D → (D → Prop) → Prop := fun xs q => ∃ bs : List Bool, xs = [.list (bs.map .bool)] ∧ q (.bool (bs.any id))
theorem dc_any : DC K (rAny K) anyD := by
  intro P H xs ds q Q hP r hg hQ
  obtain ⟨ns, rfl, hg⟩ := hg
  obtain ⟨a, vs, rfl, e, r⟩ := one_list r
  rw [r.bls] at e
  exact ⟨a, ns, rfl, .inl (.inl e), hQ _ _ H hg (fun _ _ e => e) (.bl _)⟩
/-- max, min: of a list of ints; of two ints -/
abbrev rMax2' : List V → Hp → VK → Prop := fun xs H Q => ∃ i j, xs = [.int i, .int j] ∧ Q (.int (if j > i then j else i)) H
abbrev rMin2' : List V → Hp → VK → Prop := fun xs H Q => ∃ i j, xs = [.int i, .int j] ∧ Q (.int (if j < i then j else i)) H
def rMaxG (K : PySem.W.Frag) : List V → Hp → VK → Prop := fun xs H Q => rMax K xs H Q ∨ rMax2' xs H Q
def rMinG (K : PySem.W.Frag) : List V → Hp → VK → Prop := fun xs H Q => rMin K xs H Q ∨ rMin2' xs H Q
theorem call_maxG {X : Cx} (hc : X.calm = true) : CallR X (.builtin "max") (rMaxG X.K) := (cr_max hc).or (call_max2 hc)
theorem call_minG {X : Cx} (hc : X.calm = true) : CallR X (.builtin "min") (rMinG X.K) := (cr_min hc).or (call_min2 hc)
def maxD : List D → (D → Prop) → Prop := fun xs q => (∃ ns : List Int, xs = [.list (ns.map .int)] ∧ ns ≠ [] ∧ ∀ m, m ∈ ns → (∀ y, y ∈ ns → y ≤ m) → q (.int m)) ∨ ∃ i j, xs = [.int i, .int j] ∧ q (.int (max i j))
def minD : List D → (D → Prop) → Prop := fun xs q => (∃ ns : List Int, xs = [.list (ns.map .int)] ∧ ns ≠ [] ∧ ∀ m, m ∈ ns → (∀ y, y ∈ ns → m ≤ y) → q (.int m)) ∨ ∃ i j, xs = [.int i, .int j] ∧ q (.int (min i j))
theorem len_pos {α : Type} {l : List α} (h : l ≠ []) : 0 < l.length := List.length_pos_iff.mpr h
theorem dc_max : DC K (rMaxG K) maxD := by
  intro P H xs ds q Q hP r hg hQ
  rcases hg with ⟨ns, rfl, hne, hg⟩ | ⟨i, j, rfl, hg⟩
  · obtain ⟨a, vs, rfl, e, r⟩ := one_list r
    rw [r.ints] at e
    exact .inl ⟨a, ns, rfl, .inl (.inl e), len_pos hne, fun m h1 h2 => hQ _ _ H (hg m h1 h2) (fun _ _ e => e) (.int _)⟩
  · cases r with
    | cons r rr =>
      cases r
      cases rr with
      | cons r rr =>
        cases r
        cases rr
        refine .inr ⟨i, j, rfl, ?_⟩
        have : (if j > i then j else i) = max i j := by omega
        rw [this]
        exact hQ _ _ H hg (fun _ _ e => e) (.int _)
theorem dc_min : DC K (rMinG K) minD := by
  intro P H xs ds q Q hP r hg hQ
  rcases hg with ⟨ns, rfl, hne, hg⟩ | ⟨i, j, rfl, hg⟩
  · obtain ⟨a, vs, rfl, e, r⟩ := one_list r
    rw [r.ints] at e
    exact .inl ⟨a, ns, rfl, .inl (.inl e), len_pos hne, fun m h1 h2 => hQ _ _ H (hg m h1 h2) (fun _ _ e => e) (.int _)⟩
  · cases r with
    | cons r rr =>
      cases r
      cases rr with
      | cons r rr =>
        cases r
        cases rr
        refine .inr ⟨i, j, rfl, ?_⟩
        have : (if j < i then j else i) = min i j := by omega
        rw [this]
        exact hQ _ _ H hg (fun _ _ e => e) (.int _)
abbrev rAbs : List V → Hp → VK → Prop := fun xs H Q => ∃ i, xs = [.int i] ∧ Q (.int (if i < 0 then -i else i)) H
def absD : List D → (D → Prop) → Prop := fun xs q => ∃ i : Int, xs = [.int i] ∧ q (.int (i.natAbs : Int))
theorem dc_abs : DC K rAbs absD := by
  intro P H xs ds q Q hP r hg hQ
  obtain ⟨i, rfl, hg⟩ := hg
  cases r with
  | cons r rr =>
    cases r
    cases rr
    refine ⟨i, rfl, ?_⟩
    have : (if i < 0 then -i else i) = (i.natAbs : Int) := by omega
    rw [this]
    exact hQ _ _ H hg (fun _ _ e => e) (.int _)
abbrev rInt1 : List V → Hp → VK → Prop := fun xs H Q => (∃ i, xs = [.int i] ∧ Q (.int i) H) ∨ ∃ k, xs = [.bl k] ∧ Q (.int (if k then 1 else 0)) H
def int1D : List D → (D → Prop) → Prop
  | [.int i], q => q (.int i)
  | [.bool b], q => q (.int (if b then 1 else 0))
  | _, _ => False
theorem dc_int1 : DC K rInt1 int1D := by
  intro P H xs ds q Q hP r hg hQ
  cases r with
  | nil => exact hg.elim
  | cons r rr =>
    cases rr with
    | cons _ _ => cases r <;> exact hg.elim
    | nil =>
      cases r with
      | int i => exact .inl ⟨i, rfl, hQ _ _ H hg (fun _ _ e => e) (.int _)⟩
      | bl b => exact .inr ⟨b, rfl, hQ _ _ H hg (fun _ _ e => e) (.int _)⟩
      | _ => exact hg.elim
abbrev rStrI : List V → Hp → VK → Prop := fun xs H Q => ∃ i, xs = [.int i] ∧ i.natAbs.log2 < 1920 ∧ Q (.str (toString i)) H
def strD : List D → (D → Prop) → Prop := fun xs q => ∃ i : Int, xs = [.int i] ∧ i.natAbs < 1000000 ∧ q (.str (toString i))
theorem dc_str : DC K rStrI strD := by
  intro P H xs ds q Q hP r hg hQ
  obtain ⟨i, rfl, hl, hg⟩ := hg
  cases r with
  | cons r rr =>
    cases r
    cases rr
    refine ⟨i, rfl, ?_, hQ _ _ H hg (fun _ _ e => e) (.str _)⟩
    by_cases h0 : i.natAbs = 0
    · rw [h0]; decide
    · have h1 : 2 ^ i.natAbs.log2 ≤ i.natAbs := Nat.log2_self_le h0
      have h2 : ¬ 1920 ≤ i.natAbs.log2 := fun q => by
        have := Nat.pow_le_pow_right (show 0 < 2 by decide) (Nat.le_trans (by decide : 20 ≤ 1920) q)
        omega
      omega
/-- tuple(x) -/
def tupD : List D → (D → Prop) → Prop
  | [.list ds], q => q (.tuple ds)
  | [.tuple ds], q => q (.tuple ds)
  | _, _ => False
abbrev rTupO (K : PySem.W.Frag) : List V → Hp → VK → Prop := fun xs H Q => ∃ p ys, xs = [.ref p] ∧ ((SqL K H p ys ∧ ∀ l, H l = none → Q (.ref l) (upd H l (.tup ys))) ∨ (SqT K H p ys ∧ Q (.ref p) H))
theorem dc_tuple : DC K (rTupO K) tupD := by
  intro P H xs ds q Q hP r hg hQ
  cases r with
  | nil => exact hg.elim
  | cons r rr =>
    cases rr with
    | cons _ _ => cases r <;> exact hg.elim
    | nil =>
      cases r with
      | lst e r => exact ⟨_, _, rfl, .inl ⟨.inl (.inl (hide_le _ _ e)), fun l hl => new_t hP hQ hl hg r⟩⟩
      | tup e r => exact ⟨_, _, rfl, .inr ⟨seqT_mono hide_le e, hQ _ _ H hg (fun _ _ e => e) (.tup e r)⟩⟩
      | _ => exact hg.elim
end
section
variable {K : PySem.W.Frag} {EX : EXT} {ek : Kd → Value} {tw : Bool} {ta tb tc te : TE} {fa fb fc fe : Rho → W D} {t u : TT} {ft fu : Rho → W Bool} {tr : TA} {fr : Rho → W (List D)} {tl th : TO} {fl fh : Rho → W (Option Int)}
/-- a built-in that gives a new list -/
def DCF (K : PySem.W.Frag) (r : List V → Hp → VK → Prop) (g : List D → (List D → Prop) → Prop) : Prop :=
  ∀ (P : Addr → Prop) (H : Hp) (xs : List V) (ds : List D) (q : List D → Prop) (Q : VK), (∀ a, P a → H a ≠ none) → RpAll K (hide P H) xs ds → g ds q →
    (∀ ds p vs, q ds → H p = none → RpAll K (hide P H) vs ds → Q (.ref p) (upd H p (.lst vs))) → r xs H Q
theorem df_cb {r : List V → Hp → VK → Prop} {g : List D → (List D → Prop) → Prop} (hr : DCF K r g) (ha : DA K EX ek tw tr fr) :
    DF K EX ek tw (tCB r tr) (fun ρ => wbind (fr ρ) fun xs => wop (g xs)) := by
  intro P T n H σ ρ Qd Ed Q hT s hf hq he
  refine ha P T n H σ ρ _ Ed _ hT s hf (fun x n1 vx H1 q1 p1 r1 => ?_) he
  have s1 := s.step p1
  refine hr P H1 vx x _ _ s1.there r1 q1 fun ds p vs q2 hp r2 => ?_
  exact hq ds n1 p vs _ q2 (p1.trans (.same s1.tw (same_new hp))) (s.back p1 hp) upd_same (new_f hp r2)
abbrev rListO (K : PySem.W.Frag) : List V → Hp → VK → Prop := fun xs H Q => ∃ p ys, xs = [.ref p] ∧ (SqL K H p ys ∨ SqT K H p ys) ∧ ∀ l, H l = none → Q (.ref l) (upd H l (.lst ys))
def listD : List D → (List D → Prop) → Prop
  | [.list ds], q => q ds
  | [.tuple ds], q => q ds
  | _, _ => False
theorem dcf_list : DCF K (rListO K) listD := by
  intro P H xs ds q Q hP r hg hQ
  cases r with
  | nil => exact hg.elim
  | cons r rr =>
    cases rr with
    | cons _ _ => cases r <;> exact hg.elim
    | nil =>
      cases r with
      | lst e r => exact ⟨_, _, rfl, .inl (.inl (.inl (hide_le _ _ e))), fun l hl => hQ _ _ _ hg hl r⟩
      | tup e r => exact ⟨_, _, rfl, .inr (seqT_mono hide_le e), fun l hl => hQ _ _ _ hg hl r⟩
      | _ => exact hg.elim
/-- sorted ints -/
def sortD : List D → (List D → Prop) → Prop := fun xs q => ∃ ns : List Int, xs = [.list (ns.map .int)] ∧ ∀ ns' : List Int, ns'.Perm ns → ns'.Pairwise (· ≤ ·) → q (ns'.map .int)
theorem dcf_sorted : DCF K (rSortedI K) sortD := by
  intro P H xs ds q Q hP r hg hQ
  obtain ⟨ns, rfl, hg⟩ := hg
  obtain ⟨a, vs, rfl, e, r⟩ := one_list r
  rw [r.ints] at e
  exact ⟨a, ns, rfl, .inl (.inl e), fun ns' p h1 h2 hp => hQ _ p _ (hg ns' h1 h2) hp .of_ints⟩
/-- list + list, a slice of a list: new ones -/
def asList : D → (List D → Prop) → Prop
  | .list ds, q => q ds
  | _, _ => False
theorem df_add (ha : DT K EX ek tw ta fa) (hb : DT K EX ek tw tb fb) :
    DF K EX ek tw (tOp (rAddG K) ta tb) (fun ρ => wbind (fa ρ) fun x => wbind (fb ρ) fun y => wop fun q => asList x fun a => asList y fun b => a.length + b.length ≤ 1000000 ∧ q (a ++ b)) := by
  intro P T n H σ ρ Qd Ed Q hT s hf hq he
  refine ha P T n H σ ρ _ Ed _ hT s hf (fun x n1 vx H1 q1 p1 r1 => ?_) he
  refine hb P T n1 H1 σ ρ _ Ed _ hT (s.step p1) q1 (fun y n2 vy H2 q2 p2 r2 => ?_) (fun k n' H' a b => he k n' H' a (p1.trans b))
  have s2 := (s.step p1).step p2
  have r1' := r1.mono (p2.view (s.step p1).tw)
  cases r1' with
  | lst e1 s1 =>
    cases r2 with
    | lst e2 r2 =>
      refine .inr (.inl ⟨_, _, _, _, rfl, rfl, hide_le _ _ e1, hide_le _ _ e2, ?_, fun p hp => ?_⟩)
      · rw [s1.length, r2.length]; exact line6 q2.1
      · exact hq _ n2 p _ _ q2.2 ((p1.trans p2).trans (.same s2.tw (same_new hp))) (s.back (p1.trans p2) hp) upd_same (new_f hp (s1.append r2))
    | _ => exact q2.elim
  | _ => exact q2.elim
theorem df_mul (ha : DT K EX ek tw ta fa) (hb : DT K EX ek tw tb fb) :
    DF K EX ek tw (tOp (rMulG K) ta tb) (fun ρ => wbind (fa ρ) fun x => wbind (fb ρ) fun y => wop fun q => asList x fun a => asInt y fun b => a.length * b.toNat ≤ 1000000 ∧ -1000000 ≤ b ∧ b ≤ 1000000 ∧ q (List.replicate b.toNat a).flatten) := by
  intro P T n H σ ρ Qd Ed Q hT s hf hq he
  refine ha P T n H σ ρ _ Ed _ hT s hf (fun x n1 vx H1 q1 p1 r1 => ?_) he
  refine hb P T n1 H1 σ ρ _ Ed _ hT (s.step p1) q1 (fun y n2 vy H2 q2 p2 r2 => ?_) (fun k n' H' a b => he k n' H' a (p1.trans b))
  have s2 := (s.step p1).step p2
  have r1' := r1.mono (p2.view (s.step p1).tw)
  cases r1' with
  | lst e1 s1 =>
    cases r2 with
    | int j =>
      refine .inr ⟨_, _, _, rfl, rfl, hide_le _ _ e1, ?_, ?_, ?_, fun p hp => ?_⟩
      · have := q2.2.1; omega
      · have := q2.2.2.1; omega
      · rw [s1.length]; exact line6 q2.1
      · exact hq _ n2 p _ _ q2.2.2.2 ((p1.trans p2).trans (.same s2.tw (same_new hp))) (s.back (p1.trans p2) hp) upd_same (new_f hp (s1.flat _))
    | _ => exact q2.elim
  | _ => exact q2.elim
theorem df_slice (ha : DT K EX ek tw ta fa) (hl : DO K EX ek tw tl fl) (hh : DO K EX ek tw th fh) :
    DF K EX ek tw (tSl (rSlG K) ta tl th) (fun ρ => wbind (fa ρ) fun x => wbind (fl ρ) fun l => wbind (fh ρ) fun h => wop fun q => asList x fun ds => q (cutG ds l h)) := by
  intro P T n H σ ρ Qd Ed Q hT s hf hq he
  refine ha P T n H σ ρ _ Ed _ hT s hf (fun x n1 vx H1 q1 p1 r1 => ?_) he
  refine hl P T n1 H1 σ ρ _ Ed _ hT (s.step p1) q1 (fun l n2 H2 q2 p2 => ?_) (fun k n' H' a b => he k n' H' a (p1.trans b))
  have p12 := p1.trans p2
  refine hh P T n2 H2 σ ρ _ Ed _ hT (s.step p12) q2 (fun h n3 H3 q3 p3 => ?_) (fun k n' H' a b => he k n' H' a (p12.trans b))
  have p13 := p12.trans p3
  have s3 := s.step p13
  have r1' := r1.mono ((p2.trans p3).view (s.step p1).tw)
  cases r1' with
  | lst e1 s1 =>
    exact .inl ⟨_, _, rfl, .inl (.inl (hide_le _ _ e1)), fun p hp => hq _ n3 p _ _ q3 (p13.trans (.same s3.tw (same_new hp))) (s.back p13 hp) upd_same (new_f hp (cut_rp s1 l h))⟩
  | _ => exact q3.elim
/-! ### methods by values -/
/-- xs.index(y) -/
def indexD : D → D → (D → Prop) → Prop := fun x y q => ∃ ds j z, x = .list ds ∧ SeqAt.shaped (.list ds) = true ∧ SeqAt.shaped y = true ∧ ds[j]? = some z ∧ PyData.eqv z y = true ∧
  (∀ (m : Nat) (z' : D), m < j → ds[m]? = some z' → PyData.eqv z' y = false) ∧ q (.int (j : Nat))
theorem dt_index (ha : DT K EX ek tw ta fa) (hb : DT K EX ek tw tb fb) :
    DT K EX ek tw (tBM K "list" (rIndexD K) ta (tCons tb tNil)) (fun ρ => wbind (fa ρ) fun x => wbind (wop (asList x)) fun ds => wbind (fb ρ) fun y => wop (indexD (.list ds) y)) := by
  intro P T n H σ ρ Qd Ed Q hT s hf hq he
  refine ha P T n H σ ρ _ Ed _ hT s hf (fun x n1 vx H1 q1 p1 r1 => ?_) he
  cases r1 with
  | lst e1 r1 =>
    refine ⟨.inl ⟨rfl, _, .inl (.inl (hide_le _ _ e1))⟩, ?_⟩
    refine hb P T n1 H1 σ ρ _ Ed _ hT (s.step p1) q1 (fun y n2 vy H2 q2 p2 r2 => ?_) (fun k n' H' a b => he k n' H' a (p1.trans b))
    obtain ⟨ds, j, z, e, h1, h2, h3, h4, h5, h6⟩ := q2
    cases e
    have v := p2.view (s.step p1).tw
    exact ⟨_, vy, y, _, j, z, rfl, rfl, ((Rp.lst e1 r1).mono v |>.mono hide_le).dp, (r2.mono hide_le).dp, h1, h2, h3, h4, h5, hq _ n2 _ H2 h6 (p1.trans p2) (.int _)⟩
  | _ => exact q1.elim
/-- xs.count(k) of ints -/
theorem dt_count (ha : DT K EX ek tw ta fa) (hb : DT K EX ek tw tb fb) :
    DT K EX ek tw (tBM K "list" (rCntI K) ta (tCons tb tNil)) (fun ρ => wbind (fa ρ) fun x => wbind (wop (asList x)) fun ds => wbind (fb ρ) fun y => wop fun q => ∃ (ns : List Int) (k : Int), ds = ns.map .int ∧ y = .int k ∧ q (.int (ns.count k : Nat))) := by
  intro P T n H σ ρ Qd Ed Q hT s hf hq he
  refine ha P T n H σ ρ _ Ed _ hT s hf (fun x n1 vx H1 q1 p1 r1 => ?_) he
  cases r1 with
  | lst e1 r1 =>
    refine ⟨.inl ⟨rfl, _, .inl (.inl (hide_le _ _ e1))⟩, ?_⟩
    refine hb P T n1 H1 σ ρ _ Ed _ hT (s.step p1) q1 (fun y n2 vy H2 q2 p2 r2 => ?_) (fun k n' H' a b => he k n' H' a (p1.trans b))
    obtain ⟨ns, k, rfl, rfl, h6⟩ := q2
    have v := p2.view (s.step p1).tw
    have e2 := v _ _ e1
    rw [r1.ints] at e2
    cases r2
    exact ⟨_, ns, k, rfl, rfl, .inl (.inl (hide_le _ _ e2)), hq _ n2 _ H2 h6 (p1.trans p2) (.int _)⟩
  | _ => exact q1.elim
end
end WB
set_option Elab.async false
set_option linter.all false
set_option maxRecDepth 100000
set_option maxHeartbeats 2000000
/-! Part D: walks, comprehensions, calls by contract. -/
namespace WB
open PySem PySem.Spec L2
/-! ### walks -/
/-- what J walks: the data ds, while the view Hv stands -/
structure Walks (K : PySem.W.Frag) (Hv : Hp) (J : It) (ds : List D) : Prop where
  stop : ∀ H', Same Hv H' → J.stop ds.length H'
  go : ∀ H', Same Hv H' → ∀ i, i < ds.length → J.go i H'
  yld : ∀ H', Same Hv H' → ∀ i, i < ds.length → ∀ x H3, J.yld i H' x H3 → H3 = H' ∧ ∃ d, ds[i]? = some d ∧ Rp K Hv x d
def DI (K : PySem.W.Frag) (EX : EXT) (ek : Kd → Value) (tw : Bool) (wi : TI) (f : Rho → W (List D)) : Prop :=
  ∀ (P : Addr → Prop) (T : Twn) (n : Nat) (H : Hp) (σ : L2.St) (ρ : Rho) (Qd : List D → Nat → Prop) (Ed : Kd → Nat → Prop) (R : It → Hp → Prop),
    T.isSome = tw → St0 K P T n H σ ρ → f ρ Qd Ed n → (∀ ds n' J H', Qd ds n' → Post K P T H n' H' → Walks K (hide P H') J ds → R J H') →
    (∀ k n' H', Ed k n' → Post K P T H n' H' → EX σ (ek k) none H') → wi σ H R
def asTup : D → (List D → Prop) → Prop
  | .tuple ds, q => q ds
  | _, _ => False
def rngD (lo : Int) (n : Nat) : List D := (List.range n).map fun i : Nat => .int (lo + (i : Int))
theorem rngD_len (lo : Int) (n : Nat) : (rngD lo n).length = n := by unfold rngD; rw [List.length_map, List.length_range]
theorem rngD_get (lo : Int) (n i : Nat) (h : i < n) : (rngD lo n)[i]? = some (.int (lo + (i : Int))) := by
  unfold rngD
  rw [List.getElem?_map, List.getElem?_range h]; rfl
section
variable {K : PySem.W.Frag} {EX : EXT} {ek : Kd → Value} {tw : Bool} {ta tb tc te : TE} {fa fb fc fe : Rho → W D} {t u : TT} {ft fu : Rho → W Bool} {tr : TA} {fr : Rho → W (List D)}
theorem sqL_view {Hv H' : Hp} {a : Addr} {xs : List V} (e : Same Hv H') (h : Hv a = some (.lst xs)) : SqL K H' a xs := .inl (.inl (e _ _ h))
theorem di_list (ha : DT K EX ek tw ta fa) : DI K EX ek tw (iList K ta) (fun ρ => wbind (fa ρ) fun x => wop (asList x)) := by
  intro P T n H σ ρ Qd Ed R hT s hf hq he
  refine ha P T n H σ ρ _ Ed _ hT s hf (fun x n1 vx H1 q1 p1 r1 => ?_) he
  cases r1 with
  | lst e1 rr =>
    refine ⟨_, rfl, ⟨_, .inl (.inl (hide_le _ _ e1))⟩, hq _ n1 _ H1 q1 p1 ⟨fun H' e => ⟨_, sqL_view e e1, by rw [rr.length]; exact Nat.le_refl _⟩, fun H' e i hi => ?_, fun H' e i hi x H3 y => ?_⟩⟩
    · obtain ⟨v, h1, _⟩ := rr.get (List.getElem?_eq_getElem hi)
      exact ⟨_, v, sqL_view e e1, h1⟩
    · obtain ⟨y1, y2⟩ := y
      obtain ⟨d, h1, h2⟩ := rr.get' (y2 _ (sqL_view e e1))
      exact ⟨y1, d, h1, h2⟩
  | _ => exact q1.elim
theorem di_tup (ha : DT K EX ek tw ta fa) : DI K EX ek tw (iTup K ta) (fun ρ => wbind (fa ρ) fun x => wop (asTup x)) := by
  intro P T n H σ ρ Qd Ed R hT s hf hq he
  refine ha P T n H σ ρ _ Ed _ hT s hf (fun x n1 vx H1 q1 p1 r1 => ?_) he
  cases r1 with
  | tup e1 rr =>
    refine ⟨_, rfl, ⟨_, seqT_mono hide_le e1⟩, hq _ n1 _ H1 q1 p1 ⟨fun H' e => ⟨_, seqT_mono e e1, by rw [rr.length]; exact Nat.le_refl _⟩, fun H' e i hi => ?_, fun H' e i hi x H3 y => ?_⟩⟩
    · obtain ⟨v, h1, _⟩ := rr.get (List.getElem?_eq_getElem hi)
      exact ⟨_, v, seqT_mono e e1, h1⟩
    · obtain ⟨y1, y2⟩ := y
      obtain ⟨d, h1, h2⟩ := rr.get' (y2 _ (seqT_mono e e1))
      exact ⟨y1, d, h1, h2⟩
  | _ => exact q1.elim
theorem walks_rng {Hv : Hp} {lo : Int} {n : Nat} : Walks K Hv (Itr lo n) (rngD lo n) :=
  ⟨fun _ _ => by show n ≤ _; rw [rngD_len]; exact Nat.le_refl _, fun _ _ i hi => by rw [rngD_len] at hi; exact hi, fun _ _ i hi x H3 y => by
    rw [rngD_len] at hi
    obtain ⟨y1, y2⟩ := y
    subst y2
    exact ⟨y1, _, rngD_get lo n i hi, .int _⟩⟩
def rng1D : List D → (List D → Prop) → Prop
  | [.int j], q => -1000000 ≤ j ∧ j ≤ 1000000 ∧ q (rngD 0 j.toNat)
  | _, _ => False
def rng2D : List D → (List D → Prop) → Prop
  | [.int i, .int j], q => -1000000 ≤ i ∧ i ≤ 1000000 ∧ -1000000 ≤ j ∧ j ≤ 1000000 ∧ q (rngD i (j - i).toNat)
  | _, _ => False
theorem di_rng1 (ha : DA K EX ek tw tr fr) : DI K EX ek tw (iRng1 tr) (fun ρ => wbind (fr ρ) fun xs => wop (rng1D xs)) := by
  intro P T n H σ ρ Qd Ed R hT s hf hq he
  refine ha P T n H σ ρ _ Ed _ hT s hf (fun xs n1 vs H1 q1 p1 r1 => ?_) he
  cases r1 with
  | nil => exact q1.elim
  | cons r rr =>
    cases rr with
    | cons _ _ => cases r <;> exact q1.elim
    | nil =>
      cases r with
      | int j =>
        obtain ⟨h1, h2, h3⟩ := q1
        exact ⟨j, rfl, by omega, by omega, hq _ n1 _ H1 h3 p1 walks_rng⟩
      | _ => exact q1.elim
theorem di_rng2 (ha : DA K EX ek tw tr fr) : DI K EX ek tw (iRng2 tr) (fun ρ => wbind (fr ρ) fun xs => wop (rng2D xs)) := by
  intro P T n H σ ρ Qd Ed R hT s hf hq he
  refine ha P T n H σ ρ _ Ed _ hT s hf (fun xs n1 vs H1 q1 p1 r1 => ?_) he
  cases r1 with
  | nil => exact q1.elim
  | cons r rr =>
    cases rr with
    | nil => cases r <;> exact q1.elim
    | cons r2 rr =>
      cases rr with
      | cons _ _ => cases r <;> cases r2 <;> exact q1.elim
      | nil =>
        cases r with
        | int i =>
          cases r2 with
          | int j =>
            obtain ⟨h1, h2, h3, h4, h5⟩ := q1
            exact ⟨i, j, rfl, ⟨by omega, by omega, by omega, by omega⟩, hq _ n1 _ H1 h5 p1 walks_rng⟩
          | _ => exact q1.elim
        | _ => cases r2 <;> exact q1.elim
/-! ### targets -/
/-- what a target does with an item -/
abbrev Tgt := D → Rho → Option Rho
def tg1 (i : Nat) : Tgt := fun d ρ => some (ρ.set i (.v d))
def setAll : Rho → List Nat → List D → Option Rho
  | ρ, [], [] => some ρ
  | ρ, i :: is, d :: ds => setAll (ρ.set i (.v d)) is ds
  | _, _, _ => none
def tgT (is : List Nat) : Tgt := fun d ρ => match d with
  | .tuple ds => setAll ρ is ds
  | _ => none
inductive GTs : TGs → List Nat → Prop
  | nil : GTs gNil []
  | cons {i : Nat} {is : List Nat} {u : TGs} : GTs u is → GTs (gCons (gName i) u) (i :: is)
theorem wipe_get (σ : L2.St) : ∀ (vs : List Nat) (j : Nat), (wipe σ vs)[j]? = if j ∈ vs then (σ[j]?).map (fun _ => none) else σ[j]?
  | [], j => by simp [wipe]
  | v :: vs, j => by
    show ((wipe σ vs).set v none)[j]? = _
    have ih := wipe_get σ vs j
    by_cases e : v = j
    · subst e
      rw [List.getElem?_set]
      simp only [if_true, List.mem_cons, true_or, wipe_length]
      by_cases h : v < σ.length
      · rw [if_pos h, List.getElem?_eq_getElem h]; rfl
      · rw [if_neg h, List.getElem?_eq_none (by omega)]; rfl
    · rw [List.getElem?_set_ne e, ih]
      have : (j ∈ v :: vs) ↔ j ∈ vs := by
        rw [List.mem_cons]
        exact ⟨fun q => q.resolve_left fun z => e z.symm, .inr⟩
      by_cases h : j ∈ vs
      · rw [if_pos h, if_pos (this.mpr h)]
      · rw [if_neg h, if_neg fun q => h (this.mp q)]
/-- alike but for the slots vs -/
theorem wipe_ext {σ σ' : L2.St} {vs : List Nat} (hl : σ'.length = σ.length) (h : ∀ j, j ∉ vs → σ'[j]? = σ[j]?) : wipe σ' vs = wipe σ vs := by
  apply List.ext_getElem?
  intro j
  rw [wipe_get, wipe_get]
  by_cases e : j ∈ vs
  · rw [if_pos e, if_pos e]
    by_cases q : j < σ.length
    · rw [List.getElem?_eq_getElem q, List.getElem?_eq_getElem (by omega)]; rfl
    · rw [List.getElem?_eq_none (by omega), List.getElem?_eq_none (by omega)]
  · rw [if_neg e, if_neg e]; exact h j e
def wipeR (ρ : Rho) : List Nat → Rho
  | [] => ρ
  | v :: vs => (wipeR ρ vs).set v .no
theorem St0.wipes {P : Addr → Prop} {T : Twn} {n : Nat} {H : Hp} {σ : L2.St} {ρ : Rho} (s : St0 K P T n H σ ρ) : ∀ {vs : List Nat}, (T.isSome = true → ∀ i ∈ vs, 2 ≤ i) → St0 K P T n H (L2.wipe σ vs) (wipeR ρ vs)
  | [], _ => s
  | v :: vs, h => (St0.wipes s fun a i hi => h a i (List.mem_cons_of_mem _ hi)).wipe fun a => h a v List.mem_cons_self
/-- a target's reading does what tg says, at the slots vs -/
def DG (K : PySem.W.Frag) (tw : Bool) (g : TG) (tg : Tgt) (vs : List Nat) : Prop :=
  ∀ (P : Addr → Prop) (T : Twn) (n : Nat) (H : Hp) (σ : L2.St) (ρ ρ' : Rho) (x : V) (d : D) (Q : L2.St → Hp → Prop), T.isSome = tw → St0 K P T n H σ ρ → Rp K (hide P H) x d → tg d ρ = some ρ' →
    (∀ σ', St0 K P T n H σ' ρ' → σ'.length = σ.length → (∀ j, j ∉ vs → σ'[j]? = σ[j]?) → Q σ' H) → g x σ H Q
theorem dg_name {i : Nat} (hi : tw = true → 2 ≤ i) : DG K tw (gName i) (tg1 i) [i] := by
  intro P T n H σ ρ ρ' x d Q hT s r e hQ
  cases e
  exact hQ _ (s.set (fun h => hi (hT ▸ h)) r) (List.length_set ..) fun j hj => List.getElem?_set_ne (by simpa using Ne.symm (by simpa using hj))
theorem gs_ok {P : Addr → Prop} {T : Twn} {n : Nat} {H : Hp} : ∀ {t : TGs} {is : List Nat}, GTs t is → ∀ {σ : L2.St} {ρ ρ' : Rho} {xs : List V} {ds : List D} {Q : L2.St → Hp → Prop}, (T.isSome = true → ∀ i ∈ is, 2 ≤ i) → St0 K P T n H σ ρ → RpAll K (hide P H) xs ds →
    setAll ρ is ds = some ρ' → (∀ σ', St0 K P T n H σ' ρ' → σ'.length = σ.length → (∀ j, j ∉ is → σ'[j]? = σ[j]?) → Q σ' H) → t xs σ H Q
  | _, _, .nil, σ, ρ, ρ', xs, ds, Q, _, s, r, e, hQ => by
    cases r with
    | nil => cases e; exact ⟨rfl, hQ _ s rfl fun _ _ => rfl⟩
    | cons _ _ => cases e
  | _, _, .cons g, σ, ρ, ρ', xs, ds, Q, hi, s, r, e, hQ => by
    cases r with
    | nil => cases e
    | cons r rr =>
      refine ⟨_, _, rfl, ?_⟩
      refine gs_ok g (fun a i hm => hi a i (List.mem_cons_of_mem _ hm)) (s.set (fun a => hi a _ List.mem_cons_self) r) rr e fun σ' s' hl hs => hQ σ' s' (hl.trans (List.length_set ..)) fun j hj => ?_
      rw [List.mem_cons, not_or] at hj
      rw [hs j hj.2, List.getElem?_set_ne (Ne.symm hj.1)]
theorem setAll_len : ∀ {is : List Nat} {ρ ρ' : Rho} {ds : List D}, setAll ρ is ds = some ρ' → ds.length = is.length
  | [], _, _, [], _ => rfl
  | [], _, _, _ :: _, h => by cases h
  | _ :: _, _, _, [], h => by cases h
  | _ :: is, _, _, _ :: ds, h => by
    show ds.length + 1 = is.length + 1
    rw [setAll_len (is := is) (ds := ds) h]
theorem dg_tup {t : TGs} {is : List Nat} {k : Nat} (g : GTs t is) (hk : is.length = k) (hi : tw = true → ∀ i ∈ is, 2 ≤ i) : DG K tw (gTup K k t) (tgT is) is := by
  intro P T n H σ ρ ρ' x d Q hT s r e hQ
  cases r with
  | tup e1 rr =>
    have e : setAll ρ is _ = some ρ' := e
    refine ⟨_, _, rfl, seqT_mono hide_le e1, by rw [rr.length, setAll_len e, hk], ?_⟩
    exact gs_ok g (fun h => hi (hT ▸ h)) s rr e hQ
  | _ => cases e
/-! ### comprehensions -/
abbrev EX0 : EXT := fun _ _ _ _ => False
abbrev NoE : Kd → Nat → Prop := fun _ _ => False
def lcL (tg : Tgt) (ft : Rho → W Bool) (fe : Rho → W D) (ρ : Rho) : List D → (List D → Nat → Prop) → Nat → Prop
  | [], Q, n => Q [] n
  | d :: ds, Q, n => ∃ ρ', tg d ρ = some ρ' ∧ ft ρ' (fun b n1 => cond b (fe ρ' (fun y n2 => lcL tg ft fe ρ ds (fun ys => Q (y :: ys)) n2) NoE n1) (lcL tg ft fe ρ ds Q n1)) NoE n
theorem df_lc {wi : TI} {fi : Rho → W (List D)} {g : TG} {tg : Tgt} {vs : List Nat} (hi : DI K EX ek tw wi fi) (hg : DG K tw g tg vs) (ht : DB K EX0 ek tw t ft) (he : DT K EX0 ek tw te fe) (hv : tw = true → ∀ i ∈ vs, 2 ≤ i) :
    DF K EX ek tw (tLc wi g t te vs) (fun ρ Q E n => fi ρ (fun ds n1 => ds.length ≤ 1000000 ∧ lcL tg ft fe (wipeR ρ vs) ds Q n1) E n) := by
  intro P T n H σ ρ Qd Ed Q hT s hf hq hE
  refine hi P T n H σ ρ _ Ed _ hT s hf (fun ds n1 J H1 q1 p1 wk => ?_) hE
  intro Dn hD
  have s1 := s.step p1
  have hnP : ¬ P Dn := s1.nin hD
  have hvT : T.isSome = true → ∀ i ∈ vs, 2 ≤ i := fun h => hv (hT ▸ h)
  -- W
  refine ⟨fun i m H2 => m = ds.length - i ∧ i ≤ ds.length ∧ ∃ n2 acc dacc, Post K P T H1 n2 H2 ∧ H2 Dn = some (.lst acc) ∧ dacc.length ≤ i ∧ RpAll K (hide (fun a => P a ∨ a = Dn) H2) acc dacc ∧
    lcL tg ft fe (wipeR ρ vs) (ds.drop i) (fun ys => Qd (dacc ++ ys)) n2, ⟨_, rfl, Nat.zero_le _, n1, [], [], .same s1.tw (same_new hD), upd_same, Nat.le_refl _, .nil, ?_⟩, ?_⟩
  · rw [List.drop_zero]
    exact q1.2
  rintro i m H2 ⟨rfl, hi', n2, acc, dacc, p2, hH2, hlen, racc, hl⟩
  have view2 : Same (hide P H1) H2 := fun a o e => hide_le _ _ (p2.view s1.tw a o e)
  by_cases hlt : i < ds.length
  · refine .inr ⟨wk.go H2 view2 i hlt, fun H' => ds.length - (i + 1) = ds.length - (i + 1) ∧ i + 1 ≤ ds.length ∧ ∃ n2 acc dacc, Post K P T H1 n2 H' ∧ H' Dn = some (.lst acc) ∧ dacc.length ≤ i + 1 ∧ RpAll K (hide (fun a => P a ∨ a = Dn) H') acc dacc ∧
      lcL tg ft fe (wipeR ρ vs) (ds.drop (i + 1)) (fun ys => Qd (dacc ++ ys)) n2, fun H' z => ⟨ds.length - (i + 1), by omega, z⟩, fun x H3 y => ?_⟩
    obtain ⟨e3, d, hd, rd⟩ := wk.yld H2 view2 i hlt x H3 y
    subst e3
    have hdrop : ds.drop i = d :: ds.drop (i + 1) := by
      rw [List.drop_eq_getElem_cons hlt]
      rw [List.getElem?_eq_getElem hlt] at hd
      cases hd; rfl
    rw [hdrop] at hl
    obtain ⟨ρ', hρ, hl⟩ := hl
    -- the state within the block: the new list is hidden
    have hP' : ∀ a, (P a ∨ a = Dn) → H3 a ≠ none := fun a h => by
      rcases h with h | h
      · exact p2.there s1.there a h
      · rw [h, hH2]; exact fun z => nomatch z
    have tw3 : ∀ {n' : Nat} {H' : Hp}, TwOk K T P n' H' → H1 Dn = none → (∀ p, T = some p → p.2 ≠ Dn) → Same (hide P H1) H' → TwOk K T (fun a => P a ∨ a = Dn) n' H' := fun {n' H'} w _ hne sv => ⟨fun p hp => by
      obtain ⟨h1, h2, ns, h3, h4⟩ := w.ok p hp
      obtain ⟨_, _, ns1, h31, h41⟩ := s1.tw.ok p hp
      refine ⟨.inl h1, h2, ns1, ?_, h41⟩
      refine Same.seq (fun a o e => ?_) h31
      have e' := hide_some.mp e
      refine hide_some.mpr ⟨fun z => ?_, sv a o e⟩
      rcases z with z | z
      · exact e'.1 z
      · rw [z, hD] at e'; cases e'.2⟩
    have hTne : ∀ p, T = some p → p.2 ≠ Dn := fun p hp z => by
      have := (s1.tw.ok p hp).2.1
      rw [z, hD] at this; cases this
    have viewP : Same (hide P H1) (hide (fun a => P a ∨ a = Dn) H3) := hide_mono fun a o hn e => ⟨fun z => z.elim hn fun w => (by rw [w, hD] at e; cases e), view2 a o (hide_some.mpr ⟨hn, e⟩)⟩
    have sw := s1.wipes hvT
    have s3 : St0 K (fun a => P a ∨ a = Dn) T n2 H3 (wipe σ vs) (wipeR ρ vs) :=
      ⟨hP', tw3 p2.tw hD hTne view2, sw.frame, sw.len, fun i d h => by
        obtain ⟨v, h1, h2⟩ := sw.val i d h
        exact ⟨v, h1, h2.mono viewP⟩⟩
    refine hg _ T n2 H3 _ _ ρ' x d _ hT s3 (rd.mono viewP) hρ fun σ2 s4 hl4 hs4 => ⟨?_, ?_⟩
    · refine (wipe_ext (by rw [hl4, wipe_length]) fun j hj => ?_)
      rw [hs4 j hj, wipe_get, if_neg hj]
    refine ht _ T n2 H3 σ2 ρ' _ NoE _ hT s4 hl (fun b n4 H4 q4 p4 => ?_) (fun _ _ _ z _ => z)
    -- what is known behind a piece
    have fin : ∀ {n' : Nat} {H' : Hp}, Post K (fun a => P a ∨ a = Dn) T H3 n' H' → Post K P T H1 n' H' ∧ H' Dn = some (.lst acc) ∧ RpAll K (hide (fun a => P a ∨ a = Dn) H') acc dacc := fun {n' H'} p => by
      have k : Keep T H3 H' := p.keep
      refine ⟨⟨p2.keep.trans k, ⟨fun q hq => ?_⟩⟩, k _ _ (fun q hq z => hTne q hq z.symm) hH2, racc.mono (p.view s4.tw)⟩
      obtain ⟨h1, h2, ns, h3, h4⟩ := p.tw.ok q hq
      refine ⟨(s1.tw.ok q hq).1, h2, ns, ?_, h4⟩
      exact Same.seq (hide_mono fun a o hn e => ⟨fun z => hn (.inl z), e⟩) h3
    cases b with
    | false =>
      refine iteF ?_
      obtain ⟨f1, f2, f3⟩ := fin p4
      exact ⟨rfl, hlt, n4, acc, dacc, f1, f2, by omega, f3, q4⟩
    | true =>
      refine iteT ?_
      refine he _ T n4 H4 σ2 ρ' _ NoE _ hT (s4.step p4) q4 (fun y n5 v5 H5 q5 p5 r5 => ?_) (fun _ _ _ z _ => z)
      have p45 := p4.trans p5
      obtain ⟨f1, f2, f3⟩ := fin p45
      refine ⟨acc, f2, ?_, rfl, hlt, n5, acc ++ [v5], dacc ++ [y], ?_, upd_same, by rw [List.length_append]; simp; omega, ?_, ?_⟩
      · rw [f3.length, sizeLine_eq]
        have := q1.1
        omega
      · refine ⟨fun a o hn e => ?_, ⟨fun p hp => ?_⟩⟩
        · rw [upd_ne (ne_of_none e hD)]; exact f1.keep a o hn e
        · obtain ⟨h1, h2, ns, h3, h4⟩ := f1.tw.ok p hp
          obtain ⟨_, _, ns1, h31, h41⟩ := s1.tw.ok p hp
          refine ⟨h1, by rw [upd_ne (hTne p hp)]; exact h2, ns1, ?_, h41⟩
          refine Same.seq (fun a o e => ?_) h31
          have e' := hide_some.mp e
          refine hide_some.mpr ⟨e'.1, ?_⟩
          rw [upd_ne (ne_of_none e'.2 hD)]
          exact hide_le _ _ (f1.view s1.tw a o e)
      · have sv : Same (hide (fun a => P a ∨ a = Dn) H5) (hide (fun a => P a ∨ a = Dn) (upd H5 Dn (.lst (acc ++ [v5])))) := hide_mono fun a o hn e => ⟨hn, by rw [upd_ne fun z => hn (.inr z)]; exact e⟩
        exact (f3.mono sv).append (.cons (r5.mono sv) .nil)
      · have : (fun ys => Qd (dacc ++ [y] ++ ys)) = fun ys => Qd (dacc ++ (y :: ys)) := by
          funext ys; rw [List.append_assoc]; rfl
        rw [this]
        exact q5
  · have e : i = ds.length := by omega
    subst e
    refine .inl ⟨wk.stop H2 view2, ?_⟩
    rw [List.drop_length] at hl
    have hl : Qd (dacc ++ []) n2 := hl
    rw [List.append_nil] at hl
    exact hq dacc n2 Dn acc H2 hl (p1.trans p2) (s.back p1 hD) hH2 racc
/-! ### contracts -/
/-- the script and the town ahead of the values -/
def argsOf : Twn → List V → List V
  | some p, us => .ref p.1 :: .ref p.2 :: us
  | none, us => us
/-- f does what F says: of values; with tw: the script and the town ahead of them -/
def spD (K : PySem.W.Frag) (ek : Kd → Value) (tw : Bool) (m : Nat) (F : List D → W D) : Sp := fun vs H Q E =>
  ∃ (P : Addr → Prop) (T : Twn) (n : Nat) (us : List V) (ds : List D) (Qd : D → Nat → Prop) (Ed : Kd → Nat → Prop),
    T.isSome = tw ∧ ds.length = m ∧ vs = argsOf T us ∧ (∀ a, P a → H a ≠ none) ∧ TwOk K T P n H ∧ RpAll K (hide P H) us ds ∧ F ds Qd Ed n ∧
    (∀ d n' v H', Qd d n' → Post K P T H n' H' → Rp K (hide P H') v d → Q v H') ∧ ∀ k n' H', Ed k n' → Post K P T H n' H' → E (ek k) none H'
theorem dt_callP {m : Nat} {F : List D → W D} (ha : DA K EX ek tw tr fr) :
    DT K EX ek tw (tCallS (spD K ek false m F) EX tr) (fun ρ => wbind (fr ρ) fun ds => fun Q E n => ds.length = m ∧ F ds (fun d _ => Q d n) (fun k _ => E k n) 0) := by
  intro P T n H σ ρ Qd Ed Q hT s hf hq he
  refine ha P T n H σ ρ _ Ed _ hT s hf (fun ds n1 vs H1 q1 p1 r1 => ?_) he
  have s1 := s.step p1
  refine ⟨P, none, 0, vs, ds, fun d _ => Qd d n1, fun k _ => Ed k n1, rfl, q1.1, rfl, s1.there, ⟨fun _ z => nomatch z⟩, r1, q1.2, fun d n' v H' q2 p2 r2 => ?_, fun k n' H' q2 p2 => ?_⟩
  all_goals
    have sm : Same H1 H' := fun a o e => p2.keep a o (fun _ z => nomatch z) e
    have p12 : Post K P T H n1 H' := p1.trans (.same s1.tw sm)
  · exact hq d n1 v H' q2 p12 r2
  · exact he k n1 H' q2 p12
theorem dt_callT {m : Nat} {F : List D → W D} (ha : DA K EX ek true tr fr) :
    DT K EX ek true (tCallS (spD K ek true m F) EX (tCons (tVar 0) (tCons (tVar 1) tr))) (fun ρ => wbind (fr ρ) fun ds => fun Q E n => ds.length = m ∧ F ds Q E n) := by
  intro P T n H σ ρ Qd Ed Q hT s hf hq he
  cases T with
  | none => cases hT
  | some p =>
    obtain ⟨h0, h1⟩ := s.frame p rfl
    refine ⟨_, h0, _, h1, ?_⟩
    refine ha P (some p) n H σ ρ _ Ed _ rfl s hf (fun ds n1 vs H1 q1 p1 r1 => ?_) he
    have s1 := s.step p1
    exact ⟨P, some p, n1, vs, ds, Qd, Ed, rfl, q1.1, rfl, s1.there, s1.tw, r1, q1.2, fun d n' v H' q2 p2 r2 => hq d n' v H' q2 (p1.trans p2) r2, fun k n' H' q2 p2 => he k n' H' q2 (p1.trans p2)⟩
theorem spD_len {m : Nat} {F : List D → W D} : ∀ vs H Q E, spD K ek tw m F vs H Q E → vs.length = m + (bif tw then 2 else 0) := by
  intro vs H Q E h
  obtain ⟨P, T, n, us, ds, Qd, Ed, hT, hl, rfl, _, _, r, _⟩ := h
  have := r.length
  cases T with
  | none => cases hT; show us.length = m + 0; omega
  | some p => cases hT; show us.length + 1 + 1 = m + 2; omega
end
end WB
set_option Elab.async false
set_option linter.all false
set_option maxRecDepth 100000
set_option maxHeartbeats 2000000
/-! Part E: statements over data; defs by their bodies. -/
namespace WB
open PySem PySem.Spec L2
/-! ### states with lists of one's own -/
def Mm (T : Twn) (ρ : Rho) (ps : Nat → Addr) (a : Addr) : Prop := (∃ (i : Nat) (xs : List D), ρ[i]? = some (Slot.own xs) ∧ a = ps i) ∨ ∃ p, T = some p ∧ a = p.2
def Pp (P0 : Addr → Prop) (T : Twn) (ρ : Rho) (ps : Nat → Addr) (a : Addr) : Prop := P0 a ∨ Mm T ρ ps a
def Po (P0 : Addr → Prop) (T : Twn) (a : Addr) : Prop := P0 a ∨ ∃ p, T = some p ∧ a = p.2
/-- own lists as values -/
def opn (ρ : Rho) : Rho := ρ.map fun s => match s with
  | .own xs => .v (.list xs)
  | s => s
structure SRx (K : PySem.W.Frag) (B : Hp) (P0 : Addr → Prop) (T : Twn) (n : Nat) (H : Hp) (σ : L2.St) (ρ : Rho) (ps : Nat → Addr) : Prop where
  base : ∀ a o, B a = some o → ¬ Mm T ρ ps a ∧ H a = some o
  own : ∀ (i : Nat) (xs : List D), ρ[i]? = some (Slot.own xs) → σ[i]? = some (some (.ref (ps i))) ∧ ¬ P0 (ps i) ∧ (∀ p, T = some p → ps i ≠ p.2) ∧ ∃ vs, H (ps i) = some (.lst vs) ∧ RpAll K (hide (Pp P0 T ρ ps) H) vs xs
  inj : ∀ (i j : Nat) (xs ys : List D), ρ[i]? = some (Slot.own xs) → ρ[j]? = some (Slot.own ys) → ps i = ps j → i = j
  lo : T.isSome = true → ∀ (i : Nat) (xs : List D), ρ[i]? = some (Slot.own xs) → 2 ≤ i
  st : St0 K (Pp P0 T ρ ps) T n H σ ρ
def SR (K : PySem.W.Frag) (B : Hp) (P0 : Addr → Prop) (T : Twn) (n : Nat) (H : Hp) (σ : L2.St) (ρ : Rho) : Prop := ∃ ps, SRx K B P0 T n H σ ρ ps
structure FinOk (K : PySem.W.Frag) (B : Hp) (P0 : Addr → Prop) (T : Twn) (n : Nat) (H : Hp) : Prop where
  base : ∀ a o, B a = some o → (∀ p, T = some p → a ≠ p.2) → H a = some o
  tw : TwOk K T (Po P0 T) n H
  there : ∀ a, Po P0 T a → H a ≠ none
structure Sk where
  nx : Rho → Nat → Prop
  rt : D → Nat → Prop
  er : Kd → Nat → Prop := fun _ _ => False
  bk : Rho → Nat → Prop := fun _ _ => False
  ct : Rho → Nat → Prop := fun _ _ => False
structure Lk (K : PySem.W.Frag) (EX : EXT) (ek : Kd → Value) (B : Hp) (P0 : Addr → Prop) (T : Twn) (k : Sk) (E : Ends) : Prop where
  nx : ∀ ρ n σ H, k.nx ρ n → SR K B P0 T n H σ ρ → E.nx σ H
  bk : ∀ ρ n σ H, k.bk ρ n → SR K B P0 T n H σ ρ → E.bk σ H
  ct : ∀ ρ n σ H, k.ct ρ n → SR K B P0 T n H σ ρ → E.ct σ H
  rt : ∀ d n v H, k.rt d n → FinOk K B P0 T n H → Rp K (hide (Po P0 T) H) v d → E.rt v H
  er : ∀ e n σ H, k.er e n → FinOk K B P0 T n H → EX σ (ek e) none H
/-- a statement's reading t does what f says -/
def DSt (K : PySem.W.Frag) (EX : EXT) (ek : Kd → Value) (tw : Bool) (t : TS) (f : Rho → Sk → Nat → Prop) : Prop :=
  ∀ (B : Hp) (P0 : Addr → Prop) (T : Twn) (n : Nat) (H : Hp) (σ : L2.St) (ρ : Rho) (k : Sk) (E : Ends), T.isSome = tw → SR K B P0 T n H σ ρ → f ρ k n → Lk K EX ek B P0 T k E → t E σ H
section
variable {K : PySem.W.Frag} {B B' : Hp} {P0 : Addr → Prop} {T : Twn} {n n' : Nat} {H H' : Hp} {σ : L2.St} {ρ : Rho} {ps : Nat → Addr}
theorem Mm.tw {p : Addr × Addr} (h : T = some p) : Mm T ρ ps p.2 := .inr ⟨p, h, rfl⟩
/-- the town and the views, after a step -/
theorem SRx.step (s : SRx K B P0 T n H σ ρ ps) (k : Keep T H H') (tw : ∀ p, T = some p → H' p.2 = some (.lst (List.replicate n' (.int 0)))) : SRx K B P0 T n' H' σ ρ ps := by
  have vw : Same (hide (Pp P0 T ρ ps) H) (hide (Pp P0 T ρ ps) H') := k.view s.st.tw
  have tw' : TwOk K T (Pp P0 T ρ ps) n' H' := ⟨fun p hp => by
    obtain ⟨h1, h2, ns, h3, h4⟩ := s.st.tw.ok p hp
    exact ⟨h1, tw p hp, ns, vw.seq h3, h4⟩⟩
  refine ⟨fun a o e => ?_, fun i xs e => ?_, s.inj, s.lo, s.st.step ⟨k, tw'⟩⟩
  · obtain ⟨h1, h2⟩ := s.base a o e
    exact ⟨h1, k a o (fun p hp z => h1 (z ▸ Mm.tw hp)) h2⟩
  · obtain ⟨h1, h2, h3, vs, h4, h5⟩ := s.own i xs e
    exact ⟨h1, h2, h3, vs, k _ _ (fun p hp => h3 p hp) h4, h5.mono vw⟩
theorem SRx.post (s : SRx K B P0 T n H σ ρ ps) {P : Addr → Prop} (p : Post K P T H n' H') : SRx K B P0 T n' H' σ ρ ps := s.step p.keep fun q hq => (p.tw.ok q hq).2.1
theorem SRx.weak (s : SRx K B' P0 T n H σ ρ ps) (h : Same B B') : SRx K B P0 T n H σ ρ ps := ⟨fun a o e => s.base a o (h a o e), s.own, s.inj, s.lo, s.st⟩
theorem po_le : ∀ a, Po P0 T a → Pp P0 T ρ ps a := fun a h => h.imp id fun z => .inr z
theorem SRx.opn_st (s : SRx K B P0 T n H σ ρ ps) : St0 K (Po P0 T) T n H σ (opn ρ) := by
  have vw : Same (hide (Pp P0 T ρ ps) H) (hide (Po P0 T) H) := hide_mono fun a o hn e => ⟨fun z => hn (po_le a z), e⟩
  refine ⟨fun a h => s.st.there a (po_le a h), ⟨fun p hp => ?_⟩, s.st.frame, by unfold opn; rw [List.length_map]; exact s.st.len, fun i d h => ?_⟩
  · obtain ⟨_, h2, ns, h3, h4⟩ := s.st.tw.ok p hp
    exact ⟨.inr ⟨p, hp, rfl⟩, h2, ns, vw.seq h3, h4⟩
  · unfold opn at h
    rw [List.getElem?_map] at h
    cases e : ρ[i]? with
    | none => rw [e] at h; cases h
    | some sl =>
      rw [e] at h
      cases sl with
      | no => cases h
      | v d' =>
        cases h
        obtain ⟨v, h1, h2⟩ := s.st.val i _ e
        exact ⟨v, h1, h2.mono vw⟩
      | own xs =>
        cases h
        obtain ⟨h1, h2, h3, vs, h4, h5⟩ := s.own i xs e
        refine ⟨_, h1, .lst (hide_some.mpr ⟨fun z => ?_, h4⟩) (h5.mono vw)⟩
        rcases z with z | ⟨p, hp, z⟩
        · exact h2 z
        · exact h3 p hp z
theorem SRx.fin (s : SRx K B P0 T n H σ ρ ps) : FinOk K B P0 T n H := ⟨fun a o e _ => (s.base a o e).2, s.opn_st.tw, s.opn_st.there⟩
theorem FinOk.weak (s : FinOk K B' P0 T n H) (h : Same B B') : FinOk K B P0 T n H := ⟨fun a o e hn => s.base a o (h a o e) hn, s.tw, s.there⟩
theorem FinOk.step (s : FinOk K B P0 T n H) (p : Post K (Po P0 T) T H n' H') : FinOk K B P0 T n' H' := ⟨fun a o e hn => p.keep a o hn (s.base a o e hn), p.tw, p.there s.there⟩
theorem get_set {α : Type} {l : List α} {i j : Nat} {a b : α} (h : (l.set i a)[j]? = some b) : (j = i ∧ b = a ∧ i < l.length) ∨ (j ≠ i ∧ l[j]? = some b) := by
  by_cases e : i = j
  · subst e
    rw [List.getElem?_set] at h
    simp only [if_true] at h
    split at h
    · rename_i hl
      cases h; exact .inl ⟨rfl, rfl, hl⟩
    · cases h
  · rw [List.getElem?_set_ne e] at h; exact .inr ⟨Ne.symm e, h⟩
/-- a slot is given a value that is known in the view behind -/
theorem SRx.put (s : SRx K B P0 T n H σ ρ ps) {i : Nat} {x : V} {d : D} (hi : T.isSome = true → 2 ≤ i) (r : Rp K (hide (Pp P0 T (ρ.set i (.v d)) ps) H) x d) : SRx K B P0 T n H (σ.set i (some x)) (ρ.set i (.v d)) ps := by
  have mle : ∀ a, Mm T (ρ.set i (.v d)) ps a → Mm T ρ ps a := fun a h => by
    rcases h with ⟨j, xs, e, z⟩ | h
    · rcases get_set e with ⟨_, e, _⟩ | ⟨_, e⟩
      · cases e
      · exact .inl ⟨j, xs, e, z⟩
    · exact .inr h
  have ple : ∀ a, Pp P0 T (ρ.set i (.v d)) ps a → Pp P0 T ρ ps a := fun a h => h.imp id (mle a)
  have vw : Same (hide (Pp P0 T ρ ps) H) (hide (Pp P0 T (ρ.set i (.v d)) ps) H) := hide_mono fun a o hn e => ⟨fun z => hn (ple a z), e⟩
  refine ⟨fun a o e => ⟨fun z => (s.base a o e).1 (mle a z), (s.base a o e).2⟩, fun j xs e => ?_, fun j l xs ys e1 e2 => ?_, fun hT j xs e => ?_, ?_⟩
  · rcases get_set e with ⟨_, e, _⟩ | ⟨hne, e⟩
    · cases e
    · obtain ⟨h1, h2, h3, vs, h4, h5⟩ := s.own j xs e
      exact ⟨by rw [List.getElem?_set_ne (Ne.symm hne)]; exact h1, h2, h3, vs, h4, h5.mono vw⟩
  · rcases get_set e1 with ⟨_, e, _⟩ | ⟨_, e1⟩
    · cases e
    · rcases get_set e2 with ⟨_, e, _⟩ | ⟨_, e2⟩
      · cases e
      · exact s.inj j l xs ys e1 e2
  · rcases get_set e with ⟨_, e, _⟩ | ⟨_, e⟩
    · cases e
    · exact s.lo hT j xs e
  · have s0 : St0 K (Pp P0 T (ρ.set i (.v d)) ps) T n H σ ρ := by
      refine ⟨fun a h => s.st.there a (ple a h), ⟨fun p hp => ?_⟩, s.st.frame, s.st.len, fun j e h => ?_⟩
      · obtain ⟨_, h2, ns, h3, h4⟩ := s.st.tw.ok p hp
        exact ⟨.inr (.inr ⟨p, hp, rfl⟩), h2, ns, vw.seq h3, h4⟩
      · obtain ⟨v, h1, h2⟩ := s.st.val j e h
        exact ⟨v, h1, h2.mono vw⟩
    exact s0.set hi r
theorem pp_set {i : Nat} {d : D} : ∀ a, Pp P0 T (ρ.set i (.v d)) ps a → Pp P0 T ρ ps a := fun a h => by
  rcases h with h | ⟨j, xs, e, z⟩ | h
  · exact .inl h
  · rcases get_set e with ⟨_, e, _⟩ | ⟨_, e⟩
    · cases e
    · exact .inr (.inl ⟨j, xs, e, z⟩)
  · exact .inr (.inr h)
theorem SRx.set (s : SRx K B P0 T n H σ ρ ps) {i : Nat} {x : V} {d : D} (hi : T.isSome = true → 2 ≤ i) (r : Rp K (hide (Pp P0 T ρ ps) H) x d) : SRx K B P0 T n H (σ.set i (some x)) (ρ.set i (.v d)) ps :=
  s.put hi (r.mono (hide_mono fun a o hn e => ⟨fun z => hn (pp_set a z), e⟩))
/-- a list of one's own is known from now on as a value -/
theorem SRx.freeze (s : SRx K B P0 T n H σ ρ ps) {i : Nat} {xs : List D} (e : ρ[i]? = some (Slot.own xs)) : SRx K B P0 T n H σ (ρ.set i (.v (.list xs))) ps := by
  obtain ⟨h1, h2, h3, vs, h4, h5⟩ := s.own i xs e
  have hr : Rp K (hide (Pp P0 T (ρ.set i (.v (.list xs))) ps) H) (.ref (ps i)) (.list xs) := by
    refine .lst (hide_some.mpr ⟨fun z => ?_, h4⟩) (h5.mono (hide_mono fun a o hn e => ⟨fun z => hn (pp_set a z), e⟩))
    rcases z with z | ⟨j, ys, e', z⟩ | ⟨p, hp, z⟩
    · exact h2 z
    · rcases get_set e' with ⟨_, e', _⟩ | ⟨hne, e'⟩
      · cases e'
      · exact hne (s.inj i j xs ys e e' z).symm
    · exact h3 p hp z
  have hi : T.isSome = true → 2 ≤ i := fun hT => s.lo hT i xs e
  have := s.put (x := .ref (ps i)) hi hr
  have e2 : σ.set i (some (.ref (ps i))) = σ := by
    apply List.ext_getElem?
    intro j
    by_cases q : i = j
    · subst q
      obtain ⟨hl, _⟩ := List.getElem?_eq_some_iff.mp h1
      rw [List.getElem?_set_self hl, h1]
    · rw [List.getElem?_set_ne q]
  rw [e2] at this
  exact this
/-- a new list becomes a list of one's own -/
theorem SRx.fresh (s : SRx K B P0 T n H σ ρ ps) (pk : Keep T H H') (tw : ∀ p, T = some p → H' p.2 = some (.lst (List.replicate n' (.int 0)))) {i : Nat} {p : Addr} {vs : List V} {xs : List D} (hi : T.isSome = true → 2 ≤ i) (hl : i < ρ.length) (hp : H p = none) (h4 : H' p = some (.lst vs))
    (r : RpAll K (hide (fun a => Pp P0 T ρ ps a ∨ a = p) H') vs xs) : SRx K B P0 T n' H' (σ.set i (some (.ref p))) (ρ.set i (.own xs)) (fun j => if j = i then p else ps j) := by
  have s' := s.step pk tw
  have hps : ∀ (j : Nat) (ys : List D), ρ[j]? = some (Slot.own ys) → ps j ≠ p := fun j ys e z => by
    obtain ⟨_, _, _, vs, h, _⟩ := s.own j ys e
    rw [z, hp] at h; cases h
  have hP0 : ¬ P0 p := fun z => s.st.there p (.inl z) hp
  have hT : ∀ q, T = some q → p ≠ q.2 := fun q hq z => by
    have := (s.st.tw.ok q hq).2.1
    rw [← z, hp] at this; cases this
  have mle : ∀ a, Mm T (ρ.set i (.own xs)) (fun j => if j = i then p else ps j) a → Mm T ρ ps a ∨ a = p := fun a h => by
    rcases h with ⟨j, ys, e, z⟩ | h
    · rcases get_set e with ⟨rfl, _, _⟩ | ⟨hne, e⟩
      · dsimp only at z
        rw [if_pos rfl] at z; exact .inr z
      · dsimp only at z
        rw [if_neg hne] at z; exact .inl (.inl ⟨j, ys, e, z⟩)
    · exact .inl (.inr h)
  have ple : ∀ a, Pp P0 T (ρ.set i (.own xs)) (fun j => if j = i then p else ps j) a → Pp P0 T ρ ps a ∨ a = p := fun a h => by
    rcases h with h | h
    · exact .inl (.inl h)
    · exact (mle a h).imp .inr id
  -- what stood ahead is seen behind
  have vw : Same (hide (Pp P0 T ρ ps) H) (hide (Pp P0 T (ρ.set i (.own xs)) (fun j => if j = i then p else ps j)) H') := hide_mono fun a o hn e =>
    ⟨fun z => (ple a z).elim hn fun w => (by rw [w, hp] at e; cases e), pk a o (fun q hq z => hn (z ▸ .inr (Mm.tw hq))) e⟩
  have vw2 : Same (hide (fun a => Pp P0 T ρ ps a ∨ a = p) H') (hide (Pp P0 T (ρ.set i (.own xs)) (fun j => if j = i then p else ps j)) H') := hide_mono fun a o hn e => ⟨fun z => hn (ple a z), e⟩
  refine ⟨fun a o e => ⟨fun z => ?_, (s'.base a o e).2⟩, fun j ys e => ?_, fun j l xs ys e1 e2 z => ?_, fun ht j ys e => ?_, ?_⟩
  · rcases mle a z with z | z
    · exact (s'.base a o e).1 z
    · have := (s.base a o e).2
      rw [z, hp] at this; cases this
  · rcases get_set e with ⟨rfl, e, _⟩ | ⟨hne, e⟩
    · cases e
      refine ⟨?_, ?_, ?_, vs, ?_, r.mono vw2⟩
      · rw [List.getElem?_set_self (by rw [s.st.len]; exact hl), if_pos rfl]
      · rw [if_pos rfl]; exact hP0
      · rw [if_pos rfl]; exact hT
      · rw [if_pos rfl]; exact h4
    · obtain ⟨h1, h2, h3, ws, h4', h5⟩ := s.own j ys e
      rw [if_neg hne]
      refine ⟨by rw [List.getElem?_set_ne (Ne.symm hne)]; exact h1, h2, h3, ws, pk _ _ (fun q hq => h3 q hq) h4', h5.mono vw⟩
  · rcases get_set e1 with ⟨rfl, _, _⟩ | ⟨n1, f1⟩
    · rcases get_set e2 with ⟨rfl, _, _⟩ | ⟨n2, f2⟩
      · rfl
      · rw [if_pos rfl, if_neg n2] at z
        exact (hps _ _ f2 z.symm).elim
    · rcases get_set e2 with ⟨rfl, _, _⟩ | ⟨n2, f2⟩
      · rw [if_pos rfl, if_neg n1] at z
        exact (hps _ _ f1 z).elim
      · rw [if_neg n1, if_neg n2] at z
        exact s.inj _ _ _ _ f1 f2 z
  · rcases get_set e with ⟨rfl, _, _⟩ | ⟨_, e⟩
    · exact hi ht
    · exact s.lo ht j ys e
  · refine ⟨fun a h => ?_, ⟨fun q hq => ?_⟩, fun q hq => ?_, by rw [List.length_set, List.length_set]; exact s.st.len, fun j d e => ?_⟩
    · rcases ple a h with h | h
      · exact s'.st.there a h
      · rw [h, h4]; exact fun z => nomatch z
    · obtain ⟨_, _, ns, h3, h5⟩ := s.st.tw.ok q hq
      exact ⟨.inr (.inr ⟨q, hq, rfl⟩), tw q hq, ns, vw.seq h3, h5⟩
    · obtain ⟨f0, f1⟩ := s.st.frame q hq
      have := hi (by rw [hq]; rfl)
      exact ⟨by rw [List.getElem?_set_ne (by omega)]; exact f0, by rw [List.getElem?_set_ne (by omega)]; exact f1⟩
    · rcases get_set e with ⟨_, e, _⟩ | ⟨hne, e⟩
      · cases e
      · obtain ⟨v, h1, h2⟩ := s.st.val j d e
        exact ⟨v, by rw [List.getElem?_set_ne (Ne.symm hne)]; exact h1, h2.mono vw⟩
/-- a list of one's own changes -/
theorem SRx.chg (s : SRx K B P0 T n H σ ρ ps) {i : Nat} {xs ys : List D} {ws : List V} (e : ρ[i]? = some (Slot.own xs)) (r : RpAll K (hide (Pp P0 T ρ ps) H) ws ys) : SRx K B P0 T n (upd H (ps i) (.lst ws)) σ (ρ.set i (.own ys)) ps := by
  obtain ⟨g1, g2, g3, vs, g4, g5⟩ := s.own i xs e
  have hil : i < ρ.length := (List.getElem?_eq_some_iff.mp e).1
  have meq : ∀ a, Mm T (ρ.set i (.own ys)) ps a ↔ Mm T ρ ps a := fun a => by
    constructor
    · intro h
      rcases h with ⟨j, zs, e', z⟩ | h
      · rcases get_set e' with ⟨rfl, _, _⟩ | ⟨_, e'⟩
        · exact .inl ⟨_, xs, e, z⟩
        · exact .inl ⟨j, zs, e', z⟩
      · exact .inr h
    · intro h
      rcases h with ⟨j, zs, e', z⟩ | h
      · by_cases q : i = j
        · subst q; exact .inl ⟨i, ys, by rw [List.getElem?_set_self hil], z⟩
        · exact .inl ⟨j, zs, by rw [List.getElem?_set_ne q]; exact e', z⟩
      · exact .inr h
  have peq : ∀ a, Pp P0 T (ρ.set i (.own ys)) ps a ↔ Pp P0 T ρ ps a := fun a => by
    unfold Pp; rw [meq a]
  have hin : Pp P0 T ρ ps (ps i) := .inr (.inl ⟨i, xs, e, rfl⟩)
  have vw : Same (hide (Pp P0 T ρ ps) H) (hide (Pp P0 T (ρ.set i (.own ys)) ps) (upd H (ps i) (.lst ws))) := hide_mono fun a o hn e' =>
    ⟨fun z => hn ((peq a).mp z), by rw [upd_ne fun z : a = ps i => hn (by rw [z]; exact hin)]; exact e'⟩
  refine ⟨fun a o e' => ⟨fun z => (s.base a o e').1 ((meq a).mp z), ?_⟩, fun j zs e' => ?_, fun j l as bs e1 e2 z => ?_, fun hT j zs e' => ?_, ?_⟩
  · rw [upd_ne fun z => (s.base a o e').1 (.inl ⟨i, xs, e, z⟩)]
    exact (s.base a o e').2
  · rcases get_set e' with ⟨rfl, e', _⟩ | ⟨hne, e'⟩
    · cases e'
      exact ⟨g1, g2, g3, ws, upd_same, r.mono vw⟩
    · obtain ⟨h1, h2, h3, us, h4, h5⟩ := s.own j zs e'
      exact ⟨h1, h2, h3, us, by rw [upd_ne fun z => hne (s.inj j i _ _ e' e z)]; exact h4, h5.mono vw⟩
  · have back : ∀ (j : Nat) (as : List D), (ρ.set i (.own ys))[j]? = some (Slot.own as) → ∃ bs, ρ[j]? = some (Slot.own bs) := fun j as h => by
      rcases get_set h with ⟨rfl, _, _⟩ | ⟨_, h⟩
      · exact ⟨_, e⟩
      · exact ⟨_, h⟩
    obtain ⟨_, e1⟩ := back j as e1
    obtain ⟨_, e2⟩ := back l bs e2
    exact s.inj j l _ _ e1 e2 z
  · rcases get_set e' with ⟨rfl, _, _⟩ | ⟨_, e'⟩
    · exact s.lo hT _ xs e
    · exact s.lo hT j zs e'
  · refine ⟨fun a h => ?_, ⟨fun q hq => ?_⟩, s.st.frame, by rw [List.length_set]; exact s.st.len, fun j d e' => ?_⟩
    · by_cases q : a = ps i
      · rw [q, upd_same]; exact fun z => nomatch z
      · rw [upd_ne q]; exact s.st.there a ((peq a).mp h)
    · obtain ⟨_, h2, ns, h3, h5⟩ := s.st.tw.ok q hq
      exact ⟨.inr (.inr ⟨q, hq, rfl⟩), by rw [upd_ne fun z => g3 q hq z.symm]; exact h2, ns, vw.seq h3, h5⟩
    · rcases get_set e' with ⟨_, e', _⟩ | ⟨_, e'⟩
      · cases e'
      · obtain ⟨v, h1, h2⟩ := s.st.val j d e'
        exact ⟨v, h1, h2.mono vw⟩
end
end WB
set_option Elab.async false
set_option linter.all false
set_option maxRecDepth 100000
set_option maxHeartbeats 2000000
/-! Part F: rules for statements; defs. -/
namespace WB
open PySem PySem.Spec L2
section
variable {K : PySem.W.Frag} {EX : EXT} {ek : Kd → Value} {tw : Bool} {ta tb tc te : TE} {fa fb fc fe : Rho → W D} {t u : TS} {c : TT} {ft fu : Rho → Sk → Nat → Prop} {gc : Rho → W Bool} {tr : TA} {fr : Rho → W (List D)}
  {B : Hp} {P0 : Addr → Prop} {T : Twn} {n n' : Nat} {H H' : Hp} {σ : L2.St} {ρ : Rho} {ps : Nat → Addr} {k : Sk} {E : Ends}
theorem FinOk.of_post (s : SRx K B P0 T n H σ ρ ps) {P : Addr → Prop} (p : Post K P T H n' H') : FinOk K B P0 T n' H' := (s.post p).fin
theorem two_of (h : tw = true → 2 ≤ i) (hT : T.isSome = tw) : T.isSome = true → 2 ≤ i := fun q => h (hT ▸ q)
theorem dst_next : DSt K EX ek tw tNext (fun ρ k n => k.nx ρ n) := fun _ _ _ _ _ _ _ _ _ _ s hf L => L.nx _ _ _ _ hf s
theorem dst_brk : DSt K EX ek tw tBreak (fun ρ k n => k.bk ρ n) := fun _ _ _ _ _ _ _ _ _ _ s hf L => L.bk _ _ _ _ hf s
theorem dst_cont : DSt K EX ek tw tCont (fun ρ k n => k.ct ρ n) := fun _ _ _ _ _ _ _ _ _ _ s hf L => L.ct _ _ _ _ hf s
universe u
/-- one after another; the rest is not looked at before its turn -/
def Of {β : Sort u} (_ : β) (α : Type) : Type := α
def seqF (f g : Rho → Sk → Nat → Prop) (ρ : Of f (Of g Rho)) (k : Sk) (n : Of k Nat) : Prop := f ρ { k with nx := fun ρ' n' => g ρ' k n' } n
theorem seqI {f g : Rho → Sk → Nat → Prop} {ρ : Rho} {k : Sk} {n : Nat} (h : f ρ { k with nx := fun ρ' n' => g ρ' k n' } n) : seqF f g ρ k n := h
theorem dst_seq (h1 : DSt K EX ek tw t ft) (h2 : DSt K EX ek tw u fu) : DSt K EX ek tw (tSeq t u) (fun ρ k n => seqF ft fu ρ k n) := by
  intro B P0 T n H σ ρ k E hT s hf L
  exact h1 B P0 T n H σ ρ _ _ hT s hf ⟨fun ρ' n' σ' H' q s' => h2 B P0 T n' H' σ' ρ' k E hT s' q L, L.bk, L.ct, L.rt, L.er⟩
theorem dst_if (hc : DB K EX ek tw c gc) (h1 : DSt K EX ek tw t ft) (h2 : DSt K EX ek tw u fu) :
    DSt K EX ek tw (tIfS c t u) (fun ρ k n => gc (opn ρ) (fun b n' => cond b (ft ρ k n') (fu ρ k n')) k.er n) := by
  intro B P0 T n H σ ρ k E hT s hf L
  obtain ⟨ps, s⟩ := s
  refine hc _ T n H σ _ _ _ _ hT s.opn_st hf (fun b n' H' q p => ?_) fun e n' H' q p => L.er e n' _ H' q (.of_post s p)
  cases b with
  | true => exact iteT (h1 B P0 T n' H' σ ρ k E hT ⟨ps, s.post p⟩ q L)
  | false => exact iteF (h2 B P0 T n' H' σ ρ k E hT ⟨ps, s.post p⟩ q L)
theorem dst_ret (h : DT K EX ek tw te fe) : DSt K EX ek tw (tRet te) (fun ρ k n => fe (opn ρ) k.rt k.er n) := by
  intro B P0 T n H σ ρ k E hT s hf L
  obtain ⟨ps, s⟩ := s
  exact h _ T n H σ _ _ _ _ hT s.opn_st hf (fun d n' v H' q p r => L.rt d n' v H' q (.of_post s p) r) fun e n' H' q p => L.er e n' _ H' q (.of_post s p)
theorem dst_retN : DSt K EX ek tw tRetN (fun _ k n => k.rt .none n) := by
  intro B P0 T n H σ ρ k E hT s hf L
  obtain ⟨ps, s⟩ := s
  exact L.rt _ n _ H hf s.fin .non
theorem dst_drop (h : DT K EX ek tw te fe) : DSt K EX ek tw (tDrop te) (fun ρ k n => fe (opn ρ) (fun _ n' => k.nx ρ n') k.er n) := by
  intro B P0 T n H σ ρ k E hT s hf L
  obtain ⟨ps, s⟩ := s
  exact h _ T n H σ _ _ _ _ hT s.opn_st hf (fun d n' v H' q p r => L.nx ρ n' σ H' q ⟨ps, s.post p⟩) fun e n' H' q p => L.er e n' _ H' q (.of_post s p)
/-- x = e; e doesn't read lists of one's own -/
theorem dst_set {i : Nat} (hi : tw = true → 2 ≤ i) (h : DT K EX ek tw te fe) : DSt K EX ek tw (tAsg te (gName i)) (fun ρ k n => fe ρ (fun d n' => k.nx (ρ.set i (.v d)) n') k.er n) := by
  intro B P0 T n H σ ρ k E hT s hf L
  obtain ⟨ps, s⟩ := s
  exact h _ T n H σ _ _ _ _ hT s.st hf (fun d n' v H' q p r => L.nx _ n' _ H' q ⟨ps, (s.post p).set (two_of hi hT) r⟩) fun e n' H' q p => L.er e n' _ H' q (.of_post s p)
/-- x = e; what e gives is no list -/
theorem dst_setO {i : Nat} (hi : tw = true → 2 ≤ i) (h : DT K EX ek tw te fe) : DSt K EX ek tw (tAsg te (gName i)) (fun ρ k n => fe (opn ρ) (fun d n' => scD d = true ∧ k.nx (ρ.set i (.v d)) n') k.er n) := by
  intro B P0 T n H σ ρ k E hT s hf L
  obtain ⟨ps, s⟩ := s
  exact h _ T n H σ _ _ _ _ hT s.opn_st hf (fun d n' v H' q p r => L.nx _ n' _ H' q.2 ⟨ps, (s.post p).set (two_of hi hT) (r.scal q.1)⟩) fun e n' H' q p => L.er e n' _ H' q (.of_post s p)
/-- x = [..]: a list of one's own -/
theorem dst_own {i : Nat} {ff : Rho → W (List D)} (hi : tw = true → 2 ≤ i) (h : DF K EX ek tw te ff) : DSt K EX ek tw (tAsg te (gName i)) (fun ρ k n => i < ρ.length ∧ ff ρ (fun ds n' => k.nx (ρ.set i (.own ds)) n') k.er n) := by
  intro B P0 T n H σ ρ k E hT s hf L
  obtain ⟨ps, s⟩ := s
  exact h _ T n H σ _ _ _ _ hT s.st hf.2 (fun ds n' p vs H' q po hp hq r => L.nx _ n' _ H' q ⟨_, s.fresh po.keep (fun q hq => (po.tw.ok q hq).2.1) (two_of hi hT) hf.1 hp hq r⟩) fun e n' H' q p => L.er e n' _ H' q (.of_post s p)
/-- a list of one's own becomes a value -/
def frz (i : Nat) (ρ : Rho) : Rho := match ρ[i]? with
  | some (.own xs) => ρ.set i (.v (.list xs))
  | _ => ρ
theorem dst_frz (i : Nat) (h : DSt K EX ek tw t ft) : DSt K EX ek tw t (fun ρ k n => ft (frz i ρ) k n) := by
  intro B P0 T n H σ ρ k E hT s hf L
  refine h B P0 T n H σ _ k E hT ?_ hf L
  unfold frz
  split
  · rename_i xs e
    obtain ⟨ps, s⟩ := s
    exact ⟨ps, s.freeze e⟩
  · exact s
/-- a, b = e -/
theorem sr_gs : ∀ {tg : TGs} {is : List Nat}, GTs tg is → ∀ {σ : L2.St} {ρ ρ' : Rho} {xs : List V} {ds : List D} {Q : L2.St → Hp → Prop}, (T.isSome = true → ∀ i ∈ is, 2 ≤ i) → SRx K B P0 T n H σ ρ ps → RpAll K (hide (Pp P0 T ρ ps) H) xs ds →
    setAll ρ is ds = some ρ' → (∀ σ', SRx K B P0 T n H σ' ρ' ps → Q σ' H) → tg xs σ H Q
  | _, _, .nil, σ, ρ, ρ', xs, ds, Q, _, s, r, e, hQ => by
    cases r with
    | nil => cases e; exact ⟨rfl, hQ _ s⟩
    | cons _ _ => cases e
  | _, _, .cons g, σ, ρ, ρ', xs, ds, Q, hi, s, r, e, hQ => by
    cases r with
    | nil => cases e
    | cons r rr =>
      refine ⟨_, _, rfl, ?_⟩
      exact sr_gs g (fun a i hm => hi a i (List.mem_cons_of_mem _ hm)) (s.set (fun a => hi a _ List.mem_cons_self) r) (rr.mono (hide_mono fun a o hn e => ⟨fun z => hn (pp_set a z), e⟩)) e hQ
/-- a statement's target -/
def DGs (K : PySem.W.Frag) (tw : Bool) (g : TG) (tg : Tgt) : Prop :=
  ∀ (B : Hp) (P0 : Addr → Prop) (T : Twn) (n : Nat) (H : Hp) (σ : L2.St) (ρ ρ' : Rho) (ps : Nat → Addr) (x : V) (d : D) (Q : L2.St → Hp → Prop), T.isSome = tw → SRx K B P0 T n H σ ρ ps → Rp K (hide (Pp P0 T ρ ps) H) x d → tg d ρ = some ρ' →
    (∀ σ', SRx K B P0 T n H σ' ρ' ps → Q σ' H) → g x σ H Q
theorem dgs_name {i : Nat} (hi : tw = true → 2 ≤ i) : DGs K tw (gName i) (tg1 i) := by
  intro B P0 T n H σ ρ ρ' ps x d Q hT s r e hQ
  cases e
  exact hQ _ (s.set (two_of hi hT) r)
theorem dgs_tup {g : TGs} {is : List Nat} {m : Nat} (hg : GTs g is) (hk : is.length = m) (hi : tw = true → ∀ i ∈ is, 2 ≤ i) : DGs K tw (gTup K m g) (tgT is) := by
  intro B P0 T n H σ ρ ρ' ps x d Q hT s r e hQ
  cases r with
  | tup e1 rr =>
    have e : setAll ρ is _ = some ρ' := e
    refine ⟨_, _, rfl, seqT_mono hide_le e1, by rw [rr.length, setAll_len e, hk], ?_⟩
    exact sr_gs hg (fun h => hi (hT ▸ h)) s rr e hQ
  | _ => cases e
theorem dst_asg {g : TG} {tg : Tgt} (hg : DGs K tw g tg) (h : DT K EX ek tw te fe) : DSt K EX ek tw (tAsg te g) (fun ρ k n => fe ρ (fun d n' => ∃ ρ', tg d ρ = some ρ' ∧ k.nx ρ' n') k.er n) := by
  intro B P0 T n H σ ρ k E hT s hf L
  obtain ⟨ps, s⟩ := s
  refine h _ T n H σ _ _ _ _ hT s.st hf (fun d n' v H' q p r => ?_) fun e n' H' q p => L.er e n' _ H' q (.of_post s p)
  obtain ⟨ρ', e, q⟩ := q
  exact hg B P0 T n' H' σ ρ ρ' ps v d _ hT (s.post p) r e fun σ' s' => L.nx _ _ _ _ q ⟨ps, s'⟩
/-! changes of lists of one's own -/
def getO (ρ : Rho) (i : Nat) (q : List D → Prop) : Prop := match ρ[i]? with
  | some (.own xs) => q xs
  | _ => False
theorem getO_ok {i : Nat} {q : List D → Prop} (h : getO ρ i q) : ∃ xs, ρ[i]? = some (Slot.own xs) ∧ q xs := by
  unfold getO at h
  split at h
  · rename_i xs e
    exact ⟨xs, e, h⟩
  · exact h.elim
theorem dst_app {i : Nat} (h : DT K EX ek tw te fe) : DSt K EX ek tw (tDrop (tBM K "list" rAppend (tVar i) (tCons te tNil))) (fun ρ k n => getO ρ i fun xs => fe ρ (fun d n' => xs.length < 1000000 ∧ k.nx (ρ.set i (.own (xs ++ [d]))) n') k.er n) := by
  intro B P0 T n H σ ρ k E hT s hf L
  obtain ⟨ps, s⟩ := s
  obtain ⟨xs, e, hf⟩ := getO_ok hf
  obtain ⟨g1, g2, g3, vs, g4, g5⟩ := s.own i xs e
  refine ⟨_, g1, .inl ⟨rfl, _, .inl (.inl g4)⟩, ?_⟩
  refine h _ T n H σ _ _ _ _ hT s.st hf (fun d n' v H' q p r => ?_) fun e n' H' q p => L.er e n' _ H' q (.of_post s p)
  have s' := s.post p
  obtain ⟨_, _, _, vs', g4', g5'⟩ := s'.own i xs e
  refine ⟨_, vs', v, rfl, rfl, g4', by rw [g5'.length, sizeLine_eq]; have := q.1; omega, L.nx _ _ _ _ q.2 ⟨ps, s'.chg e (g5'.append (.cons r .nil))⟩⟩
theorem dst_appO {i : Nat} (h : DT K EX ek tw te fe) : DSt K EX ek tw (tDrop (tBM K "list" rAppend (tVar i) (tCons te tNil))) (fun ρ k n => getO ρ i fun xs => fe (opn ρ) (fun d n' => scD d = true ∧ xs.length < 1000000 ∧ k.nx (ρ.set i (.own (xs ++ [d]))) n') k.er n) := by
  intro B P0 T n H σ ρ k E hT s hf L
  obtain ⟨ps, s⟩ := s
  obtain ⟨xs, e, hf⟩ := getO_ok hf
  obtain ⟨g1, g2, g3, vs, g4, g5⟩ := s.own i xs e
  refine ⟨_, g1, .inl ⟨rfl, _, .inl (.inl g4)⟩, ?_⟩
  refine h _ T n H σ _ _ _ _ hT s.opn_st hf (fun d n' v H' q p r => ?_) fun e n' H' q p => L.er e n' _ H' q (.of_post s p)
  have s' := s.post p
  obtain ⟨_, _, _, vs', g4', g5'⟩ := s'.own i xs e
  refine ⟨_, vs', v, rfl, rfl, g4', by rw [g5'.length, sizeLine_eq]; have := q.2.1; omega, L.nx _ _ _ _ q.2.2 ⟨ps, s'.chg e (g5'.append (.cons (r.scal q.1) .nil))⟩⟩
theorem dst_ext {i : Nat} (h : DT K EX ek tw te fe) : DSt K EX ek tw (tDrop (tBM K "list" rExtend (tVar i) (tCons te tNil))) (fun ρ k n => getO ρ i fun xs => fe ρ (fun d n' => asList d fun ds => xs.length + ds.length ≤ 1000000 ∧ k.nx (ρ.set i (.own (xs ++ ds))) n') k.er n) := by
  intro B P0 T n H σ ρ k E hT s hf L
  obtain ⟨ps, s⟩ := s
  obtain ⟨xs, e, hf⟩ := getO_ok hf
  obtain ⟨g1, g2, g3, vs, g4, g5⟩ := s.own i xs e
  refine ⟨_, g1, .inl ⟨rfl, _, .inl (.inl g4)⟩, ?_⟩
  refine h _ T n H σ _ _ _ _ hT s.st hf (fun d n' v H' q p r => ?_) fun e n' H' q p => L.er e n' _ H' q (.of_post s p)
  have s' := s.post p
  obtain ⟨_, _, _, vs', g4', g5'⟩ := s'.own i xs e
  cases r with
  | lst e1 rr =>
    refine ⟨_, _, vs', _, rfl, rfl, g4', hide_le _ _ e1, ?_, L.nx _ _ _ _ q.2 ⟨ps, s'.chg e (g5'.append rr)⟩⟩
    rw [g5'.length, rr.length]; exact line6 q.1
  | _ => exact q.elim
abbrev rInsert : V → List V → Hp → VK → Prop := fun x vs H Q => ∃ (l : Addr) (xs : List V) (i : Int) (y : V), x = .ref l ∧ vs = [.int i, y] ∧ H l = some (.lst xs) ∧ xs.length < sizeLine ∧ 0 ≤ i ∧ i < 2 ^ 63 ∧
    Q .non (upd H l (.lst (xs.take i.toNat ++ [y] ++ xs.drop i.toNat)))
theorem dst_ins {i : Nat} (ha : DT K EX ek tw ta fa) (h : DT K EX ek tw te fe) : DSt K EX ek tw (tDrop (tBM K "list" rInsert (tVar i) (tCons ta (tCons te tNil)))) (fun ρ k n => getO ρ i fun xs => fa (opn ρ) (fun a n1 => asInt a fun j => fe ρ (fun d n' => xs.length < 1000000 ∧ 0 ≤ j ∧ j ≤ 1000000 ∧ k.nx (ρ.set i (.own (xs.take j.toNat ++ [d] ++ xs.drop j.toNat))) n') k.er n1) k.er n) := by
  intro B P0 T n H σ ρ k E hT s hf L
  obtain ⟨ps, s⟩ := s
  obtain ⟨xs, e, hf⟩ := getO_ok hf
  obtain ⟨g1, g2, g3, vs, g4, g5⟩ := s.own i xs e
  refine ⟨_, g1, .inl ⟨rfl, _, .inl (.inl g4)⟩, ?_⟩
  refine ha _ T n H σ _ _ _ _ hT s.opn_st hf (fun a n1 va H1 q1 p1 r1 => ?_) fun e n' H' q p => L.er e n' _ H' q (.of_post s p)
  have s1 := s.post p1
  cases r1 with
  | int j =>
    refine h _ T n1 H1 σ _ _ _ _ hT s1.st q1 (fun d n' v H' q p r => ?_) fun e n' H' q p => L.er e n' _ H' q (.of_post s1 p)
    have s' := s1.post p
    obtain ⟨_, _, _, vs', g4', g5'⟩ := s'.own i xs e
    refine ⟨_, vs', j, v, rfl, rfl, g4', by rw [g5'.length, sizeLine_eq]; have := q.1; omega, q.2.1, by have := q.2.2.1; omega, L.nx _ _ _ _ q.2.2.2 ⟨ps, s'.chg e (((g5'.take _).append (.cons r .nil)).append (g5'.drop _))⟩⟩
  | _ => exact q1.elim
theorem dst_pop {i : Nat} (ha : DT K EX ek tw ta fa) : DSt K EX ek tw (tDrop (tBM K "list" rPopAt (tVar i) (tCons ta tNil))) (fun ρ k n => getO ρ i fun xs => fa (opn ρ) (fun a n1 => asInt a fun j => 0 ≤ j ∧ j < xs.length ∧ xs.length < 1000000 ∧ k.nx (ρ.set i (.own (xs.eraseIdx j.toNat))) n1) k.er n) := by
  intro B P0 T n H σ ρ k E hT s hf L
  obtain ⟨ps, s⟩ := s
  obtain ⟨xs, e, hf⟩ := getO_ok hf
  obtain ⟨g1, g2, g3, vs, g4, g5⟩ := s.own i xs e
  refine ⟨_, g1, .inl ⟨rfl, _, .inl (.inl g4)⟩, ?_⟩
  refine ha _ T n H σ _ _ _ _ hT s.opn_st hf (fun a n1 va H1 q1 p1 r1 => ?_) fun e n' H' q p => L.er e n' _ H' q (.of_post s p)
  have s' := s.post p1
  cases r1 with
  | int j =>
    obtain ⟨_, _, _, vs', g4', g5'⟩ := s'.own i xs e
    obtain ⟨h0, h1, h2, h3⟩ := q1
    have hj : j.toNat < vs'.length := by rw [g5'.length]; omega
    have hs : seqIndex? j vs'.length = some j.toNat := (ixN_seq (n := vs'.length) (i := j) (j := j.toNat) (by unfold ixN; rw [if_pos h0, if_pos (by rw [g5'.length]; exact h1)])).1
    exact ⟨_, vs', j, j.toNat, vs'[j.toNat], rfl, rfl, g4', by omega, by omega, hs, List.getElem?_eq_getElem hj, L.nx _ _ _ _ h3 ⟨ps, s'.chg e (g5'.eraseIdx _)⟩⟩
  | _ => exact q1.elim
theorem ixN_lt {m j : Nat} {i : Int} (h : ixN m i = some j) : j < m := (ixN_seq h).2.1
theorem dst_sub {i : Nat} (he : DT K EX ek tw te fe) (ha : DT K EX ek tw ta fa) : DSt K EX ek tw (tAsg te (gSub (tVar i) ta rSetL)) (fun ρ k n => fe ρ (fun d n1 => getO ρ i fun xs => fa (opn ρ) (fun a n2 => asInt a fun z => ∃ j, ixN xs.length z = some j ∧ k.nx (ρ.set i (.own (xs.set j d))) n2) k.er n1) k.er n) := by
  intro B P0 T n H σ ρ k E hT s hf L
  obtain ⟨ps, s⟩ := s
  refine he _ T n H σ _ _ _ _ hT s.st hf (fun d n1 v H1 q1 p1 r1 => ?_) fun e n' H' q p => L.er e n' _ H' q (.of_post s p)
  have s1 := s.post p1
  obtain ⟨xs, e, q1⟩ := getO_ok q1
  obtain ⟨g1, g2, g3, vs, g4, g5⟩ := s1.own i xs e
  refine ⟨_, g1, ?_⟩
  refine ha _ T n1 H1 σ _ _ _ _ hT s1.opn_st q1 (fun a n2 va H2 q2 p2 r2 => ?_) fun e n' H' q p => L.er e n' _ H' q (.of_post s1 p)
  have s2 := s1.post p2
  cases r2 with
  | int z =>
    obtain ⟨j, hj, q2⟩ := q2
    obtain ⟨_, _, _, vs', g4', g5'⟩ := s2.own i xs e
    have vw : Same (hide (Pp P0 T ρ ps) H1) (hide (Pp P0 T ρ ps) H2) := p2.keep.view s1.st.tw
    exact ⟨_, vs', z, j, rfl, rfl, g4', by rw [g5'.length]; exact hj, L.nx _ _ _ _ q2 ⟨ps, s2.chg e (g5'.set (r1.mono vw) j)⟩⟩
  | _ => exact q2.elim
theorem dst_subO {i : Nat} (he : DT K EX ek tw te fe) (ha : DT K EX ek tw ta fa) : DSt K EX ek tw (tAsg te (gSub (tVar i) ta rSetL)) (fun ρ k n => fe (opn ρ) (fun d n1 => scD d = true ∧ getO ρ i fun xs => fa (opn ρ) (fun a n2 => asInt a fun z => ∃ j, ixN xs.length z = some j ∧ k.nx (ρ.set i (.own (xs.set j d))) n2) k.er n1) k.er n) := by
  intro B P0 T n H σ ρ k E hT s hf L
  obtain ⟨ps, s⟩ := s
  refine he _ T n H σ _ _ _ _ hT s.opn_st hf (fun d n1 v H1 q1 p1 r1 => ?_) fun e n' H' q p => L.er e n' _ H' q (.of_post s p)
  have s1 := s.post p1
  obtain ⟨sc, q1⟩ := q1
  obtain ⟨xs, e, q1⟩ := getO_ok q1
  obtain ⟨g1, g2, g3, vs, g4, g5⟩ := s1.own i xs e
  refine ⟨_, g1, ?_⟩
  refine ha _ T n1 H1 σ _ _ _ _ hT s1.opn_st q1 (fun a n2 va H2 q2 p2 r2 => ?_) fun e n' H' q p => L.er e n' _ H' q (.of_post s1 p)
  have s2 := s1.post p2
  cases r2 with
  | int z =>
    obtain ⟨j, hj, q2⟩ := q2
    obtain ⟨_, _, _, vs', g4', g5'⟩ := s2.own i xs e
    exact ⟨_, vs', z, j, rfl, rfl, g4', by rw [g5'.length]; exact hj, L.nx _ _ _ _ q2 ⟨ps, s2.chg e (g5'.set (r1.scal sc) j)⟩⟩
  | _ => exact q2.elim
/-! ### loops -/
def forL (tg : Tgt) (fb : Rho → Sk → Nat → Prop) : List D → Rho → Sk → Nat → Prop
  | [], ρ, k, n => k.nx ρ n
  | d :: ds, ρ, k, n => ∃ ρ1, tg d ρ = some ρ1 ∧ fb ρ1 { k with nx := fun ρ' n' => forL tg fb ds ρ' k n', ct := fun ρ' n' => forL tg fb ds ρ' k n', bk := k.nx } n
/-- the same, with the body and the rest kept folded -/
def forW (tg : Tgt) (fb : Rho → Sk → Nat → Prop) (k : Sk) (ds : Of fb (List D)) (ρ : Of k Rho) (n : Of tg Nat) : Prop := forL tg fb ds ρ k n
/-- walks that lean on no view -/
def DIo (K : PySem.W.Frag) (EX : EXT) (ek : Kd → Value) (tw : Bool) (wi : TI) (f : Rho → W (List D)) : Prop :=
  ∀ (P : Addr → Prop) (T : Twn) (n : Nat) (H : Hp) (σ : L2.St) (ρ : Rho) (Qd : List D → Nat → Prop) (Ed : Kd → Nat → Prop) (R : It → Hp → Prop),
    T.isSome = tw → St0 K P T n H σ ρ → f ρ Qd Ed n → (∀ ds n' J H', Qd ds n' → Post K P T H n' H' → (∀ Hv, Walks K Hv J ds) → R J H') →
    (∀ k n' H', Ed k n' → Post K P T H n' H' → EX σ (ek k) none H') → wi σ H R
theorem dio_rng1 (ha : DA K EX ek tw tr fr) : DIo K EX ek tw (iRng1 tr) (fun ρ => wbind (fr ρ) fun xs => wop (rng1D xs)) := by
  intro P T n H σ ρ Qd Ed R hT s hf hq he
  refine ha P T n H σ ρ _ Ed _ hT s hf (fun xs n1 vs H1 q1 p1 r1 => ?_) he
  cases r1 with
  | nil => exact q1.elim
  | cons r rr =>
    cases rr with
    | cons _ _ => cases r <;> exact q1.elim
    | nil =>
      cases r with
      | int j =>
        obtain ⟨h1, h2, h3⟩ := q1
        exact ⟨j, rfl, by omega, by omega, hq _ n1 _ H1 h3 p1 fun _ => walks_rng⟩
      | _ => exact q1.elim
theorem dio_rng2 (ha : DA K EX ek tw tr fr) : DIo K EX ek tw (iRng2 tr) (fun ρ => wbind (fr ρ) fun xs => wop (rng2D xs)) := by
  intro P T n H σ ρ Qd Ed R hT s hf hq he
  refine ha P T n H σ ρ _ Ed _ hT s hf (fun xs n1 vs H1 q1 p1 r1 => ?_) he
  cases r1 with
  | nil => exact q1.elim
  | cons r rr =>
    cases rr with
    | nil => cases r <;> exact q1.elim
    | cons r2 rr =>
      cases rr with
      | cons _ _ => cases r <;> cases r2 <;> exact q1.elim
      | nil =>
        cases r with
        | int i =>
          cases r2 with
          | int j =>
            obtain ⟨h1, h2, h3, h4, h5⟩ := q1
            exact ⟨i, j, rfl, ⟨by omega, by omega, by omega, by omega⟩, hq _ n1 _ H1 h5 p1 fun _ => walks_rng⟩
          | _ => exact q1.elim
        | _ => cases r2 <;> exact q1.elim
theorem Lk.weak {B' : Hp} (L : Lk K EX ek B P0 T k E) (h : Same B B') : Lk K EX ek B' P0 T k E :=
  ⟨fun ρ n σ H q ⟨ps, s⟩ => L.nx ρ n σ H q ⟨ps, s.weak h⟩, fun ρ n σ H q ⟨ps, s⟩ => L.bk ρ n σ H q ⟨ps, s.weak h⟩, fun ρ n σ H q ⟨ps, s⟩ => L.ct ρ n σ H q ⟨ps, s.weak h⟩,
   fun d n v H q f r => L.rt d n v H q (f.weak h) r, fun e n σ H q f => L.er e n σ H q (f.weak h)⟩
/-- the loop proper -/
theorem for_core {g : TG} {tg : Tgt} {J : It} {ds : List D} (hT : T.isSome = tw) (hg : DGs K tw g tg) (hb : DSt K EX ek tw t ft) (s : SRx K B P0 T n H σ ρ ps) (wk : Walks K (hide (Pp P0 T ρ ps) H) J ds) (hf : forL tg ft ds ρ k n) (L : Lk K EX ek B P0 T k E) :
    ∃ W : Nat → Nat → L2.St → Hp → Prop, (∃ m, W 0 m σ H) ∧ ∀ i m σ H, W i m σ H →
      (J.stop i H ∧ E.nx σ H) ∨ (J.go i H ∧ ∃ N : L2.St → Hp → Prop, (∀ σ' H', N σ' H' → ∃ m', m' < m ∧ W (i + 1) m' σ' H') ∧ ∀ x H', J.yld i H x H' → g x σ H' fun σ2 H2 => t { E with nx := N, ct := N, bk := E.nx } σ2 H2) := by
  have hB : Same B (hide (Mm T ρ ps) H) := fun a o e => hide_some.mpr (s.base a o e)
  have s0 : SRx K (hide (Mm T ρ ps) H) P0 T n H σ ρ ps := ⟨fun a o e => hide_some.mp e, s.own, s.inj, s.lo, s.st⟩
  refine ⟨fun i m σ' H' => m = ds.length - i ∧ i ≤ ds.length ∧ ∃ ρ' n', SR K (hide (Mm T ρ ps) H) P0 T n' H' σ' ρ' ∧ forL tg ft (ds.drop i) ρ' k n', ⟨_, rfl, Nat.zero_le _, ρ, n, ⟨ps, s0⟩, hf⟩, ?_⟩
  rintro i m σ3 H3 ⟨rfl, hi, ρ3, n3, ⟨ps3, s3⟩, hl⟩
  have vw : Same (hide (Pp P0 T ρ ps) H) (hide (Pp P0 T ρ3 ps3) H3) := hide_mono fun a o hn e => by
    obtain ⟨h1, h2⟩ := s3.base a o (hide_some.mpr ⟨fun z => hn (.inr z), e⟩)
    exact ⟨fun z => z.elim (fun z => hn (.inl z)) h1, h2⟩
  have vw' : Same (hide (Pp P0 T ρ ps) H) H3 := fun a o e => hide_le _ _ (vw a o e)
  by_cases hlt : i < ds.length
  · refine .inr ⟨wk.go H3 vw' i hlt, fun σ' H' => ds.length - (i + 1) = ds.length - (i + 1) ∧ i + 1 ≤ ds.length ∧ ∃ ρ' n', SR K (hide (Mm T ρ ps) H) P0 T n' H' σ' ρ' ∧ forL tg ft (ds.drop (i + 1)) ρ' k n', fun σ' H' z => ⟨ds.length - (i + 1), by omega, z⟩, fun x H4 y => ?_⟩
    obtain ⟨e4, d, hd, rd⟩ := wk.yld H3 vw' i hlt x H4 y
    subst e4
    have hdrop : ds.drop i = d :: ds.drop (i + 1) := by
      rw [List.drop_eq_getElem_cons hlt]
      rw [List.getElem?_eq_getElem hlt] at hd
      cases hd; rfl
    rw [hdrop] at hl
    obtain ⟨ρ1, e1, hl⟩ := hl
    refine hg _ P0 T n3 H4 σ3 ρ3 ρ1 ps3 x d _ hT s3 (rd.mono vw) e1 fun σ' s' => ?_
    have L' := L.weak hB
    exact hb _ P0 T n3 H4 σ' ρ1 _ _ hT ⟨ps3, s'⟩ hl ⟨fun ρ' n' σ' H' q s => ⟨rfl, hlt, ρ', n', s, q⟩, L'.nx, fun ρ' n' σ' H' q s => ⟨rfl, hlt, ρ', n', s, q⟩, L'.rt, L'.er⟩
  · have e : i = ds.length := by omega
    subst e
    rw [List.drop_length] at hl
    exact .inl ⟨wk.stop H3 vw', (L.weak hB).nx ρ3 n3 σ3 H3 hl ⟨ps3, s3⟩⟩
theorem dst_for {wi : TI} {fi : Rho → W (List D)} {g : TG} {tg : Tgt} (hi : DI K EX ek tw wi fi) (hg : DGs K tw g tg) (hb : DSt K EX ek tw t ft) :
    DSt K EX ek tw (tFor wi g t) (fun ρ k n => fi ρ (fun ds n' => forW tg ft k ds ρ n') k.er n) := by
  intro B P0 T n H σ ρ k E hT s hf L
  obtain ⟨ps, s⟩ := s
  exact hi _ T n H σ ρ _ _ _ hT s.st hf (fun ds n' J H' q p wk => for_core hT hg hb (s.post p) wk q L) fun e n' H' q p => L.er e n' _ H' q (.of_post s p)
theorem dst_forO {wi : TI} {fi : Rho → W (List D)} {g : TG} {tg : Tgt} (hi : DIo K EX ek tw wi fi) (hg : DGs K tw g tg) (hb : DSt K EX ek tw t ft) :
    DSt K EX ek tw (tFor wi g t) (fun ρ k n => fi (opn ρ) (fun ds n' => forW tg ft k ds ρ n') k.er n) := by
  intro B P0 T n H σ ρ k E hT s hf L
  obtain ⟨ps, s⟩ := s
  exact hi _ T n H σ _ _ _ _ hT s.opn_st hf (fun ds n' J H' q p wk => for_core hT hg hb (s.post p) (wk _) q L) fun e n' H' q p => L.er e n' _ H' q (.of_post s p)
/-- while: by fuel -/
def whF (gc : Rho → W Bool) (ft : Rho → Sk → Nat → Prop) : Nat → Rho → Sk → Nat → Prop
  | 0, _, _, _ => False
  | m + 1, ρ, k, n => gc (opn ρ) (fun b n' => cond b (ft ρ { k with nx := fun ρ' n' => whF gc ft m ρ' k n', ct := fun ρ' n' => whF gc ft m ρ' k n', bk := k.nx } n') (k.nx ρ n')) k.er n
theorem dst_while (hc : DB K EX ek tw c gc) (hb : DSt K EX ek tw t ft) : DSt K EX ek tw (tWhile c t) (fun ρ k n => ∃ m, whF gc ft m ρ k n) := by
  intro B P0 T n H σ ρ k E hT s hf L
  obtain ⟨m, hf⟩ := hf
  refine ⟨fun m σ H => ∃ ρ n, SR K B P0 T n H σ ρ ∧ whF gc ft m ρ k n, ⟨m, ρ, n, s, hf⟩, ?_⟩
  rintro m σ1 H1 ⟨ρ1, n1, ⟨ps1, s1⟩, hf⟩
  cases m with
  | zero => exact hf.elim
  | succ m =>
    refine hc _ T n1 H1 σ1 _ _ _ _ hT s1.opn_st hf (fun b n' H' q p => ?_) fun e n' H' q p => L.er e n' _ H' q (.of_post s1 p)
    have s' := s1.post p
    cases b with
    | true =>
      refine iteT ⟨fun σ H => ∃ ρ n, SR K B P0 T n H σ ρ ∧ whF gc ft m ρ k n, fun σ' H' z => ⟨m, Nat.lt_succ_self _, z⟩, ?_⟩
      exact hb B P0 T n' H' σ1 ρ1 _ _ hT ⟨ps1, s'⟩ q ⟨fun ρ' n' σ' H' q s => ⟨ρ', n', s, q⟩, L.nx, fun ρ' n' σ' H' q s => ⟨ρ', n', s, q⟩, L.rt, L.er⟩
    | false => exact iteF (L.nx ρ1 n' σ1 H' q ⟨ps1, s'⟩)
/-! ### raise -/
theorem dst_raise {cls : Value} {j : Kd} (hE : ek j = cls) (E0 : XK) (hEX : EX = fun _ => E0) : DSt K EX ek tw (fun _ σ H => (fun (_ : L2.St) (H : Hp) (Q : XK) => Q cls none H) σ H fun c d H' => E0 c d H') (fun _ k n => k.er j n) := by
  intro B P0 T n H σ ρ k E hT s hf L
  obtain ⟨ps, s⟩ := s
  have := L.er j n σ H hf s.fin
  rw [hEX, hE] at this
  exact this
end
/-! ### defs -/
/-- the slots at a def's entry -/
def ini (tw : Bool) (ds : List D) (r : Nat) : Rho := (bif tw then [Slot.no, Slot.no] else []) ++ ds.map Slot.v ++ List.replicate r Slot.no
section
variable {P : Program} {w : World} {K : PySem.W.Frag} {mg : Str → Option Value} {base : Heap} {ek : Kd → Value} {tw : Bool}
theorem ini_v {tw : Bool} {ds : List D} {r i : Nat} {d : D} (h : (ini tw ds r)[i]? = some (Slot.v d)) : ∃ j, i = j + (bif tw then 2 else 0) ∧ ds[j]? = some d := by
  have core : ∀ {i : Nat}, (ds.map Slot.v ++ List.replicate r Slot.no)[i]? = some (Slot.v d) → ds[i]? = some d := fun {i} h => by
    by_cases hl : i < ds.length
    · rw [List.getElem?_append_left (by rw [List.length_map]; exact hl), List.getElem?_map] at h
      cases e : ds[i]? with
      | none => rw [e] at h; cases h
      | some x => rw [e] at h; cases h; rfl
    · rw [List.getElem?_append_right (by rw [List.length_map]; omega)] at h
      rw [List.getElem?_replicate] at h
      split at h <;> cases h
  cases tw with
  | false => exact ⟨i, rfl, core h⟩
  | true =>
    match i with
    | 0 => cases h
    | 1 => cases h
    | i + 2 => exact ⟨i, rfl, core h⟩
theorem ini_own {tw : Bool} {ds : List D} {r i : Nat} {xs : List D} (h : (ini tw ds r)[i]? = some (Slot.own xs)) : False := by
  have hm := List.mem_of_getElem? h
  unfold ini at hm
  rw [List.mem_append, List.mem_append] at hm
  rcases hm with (hm | hm) | hm
  · cases tw
    · cases hm
    · simp at hm
  · obtain ⟨x, _, e⟩ := List.mem_map.mp hm
    cases e
  · have := List.eq_of_mem_replicate hm
    cases this
theorem start_get {N : List Str} {vs : List V} {i : Nat} {v : V} (h : vs[i]? = some v) : (L2.start N vs)[i]? = some (some v) := by
  unfold L2.start
  obtain ⟨hl, e⟩ := List.getElem?_eq_some_iff.mp h
  rw [List.getElem?_append_left (by rw [List.length_map]; exact hl), List.getElem?_map, h]
  rfl
theorem Fun.okD {x qual : Str} {st : Stmt} {f : Addr} {fd : FuncData} {N ps : List Str} {k m r : Nat} {F : List D → W D} (Fn : Fun K x qual st f fd) (S : FnScope N ps (defScope st)) (hps : ps.length = m + (bif tw then 2 else 0)) (hr : N.length = ps.length + r)
    (body : ∀ (cdv : Value) (A : Around) (outer : List Env) (s : Shared) (H : Hp) (E : XK), Room k (A.deeper (PyProof.Rows.envOfC qual (defScope st) s.heap.objs.size f cdv)) →
      ∃ t fs, PSs (cxOf (L2.CX P w) P w K mg base N qual (defScope st) f cdv A outer s H E) (defBody st) t ∧ DSt K (fun _ => E) ek tw t fs ∧
        ∀ (ds : List D) (Qd : D → Nat → Prop) (Ed : Kd → Nat → Prop) (n : Nat), ds.length = m → F ds Qd Ed n → fs (ini tw ds r) { nx := fun _ n' => Qd .none n', rt := Qd, er := Ed } n) :
    FnOk P w K mg base (L2.CX P w) (k + 1) f fd ps (spD K ek tw m F) := by
  refine Fn.okX S (fun vs H Q E h => by rw [spD_len vs H Q E h, hps]) (fun cdv A outer s H vs Q E hroom h => ?_)
  obtain ⟨t, fs, h1, h2, h3⟩ := body cdv A outer s H E hroom
  refine ⟨t, h1, ?_⟩
  obtain ⟨Pc, T, n, us, ds, Qd, Ed, hT, hl, rfl, hthere, htw, r1, hF, hQ, hE⟩ := h
  have husl := r1.length
  have ep : ∀ a, Pp Pc T (ini tw ds r) (fun _ => 0) a → Pc a ∨ ∃ p, T = some p ∧ a = p.2 := fun a h => by
    rcases h with h | ⟨i, xs, e, _⟩ | h
    · exact .inl h
    · exact (ini_own e).elim
    · exact .inr h
  have ep' : ∀ a, Pp Pc T (ini tw ds r) (fun _ => 0) a → Pc a := fun a h => (ep a h).elim id fun ⟨p, hp, e⟩ => e ▸ (htw.ok p hp).1
  have vw : Same (hide Pc H) (hide (Pp Pc T (ini tw ds r) (fun _ => 0)) H) := hide_mono fun a o hn e => ⟨fun z => hn (ep' a z), e⟩
  have vwo : ∀ {H'}, Same (hide (Po Pc T) H') (hide Pc H') := fun {H'} => hide_mono fun a o hn e => ⟨fun z => hn (.inl z), e⟩
  have s0 : SRx K (hide (fun a => ∃ p, T = some p ∧ a = p.2) H) Pc T n H (L2.start N (argsOf T us)) (ini tw ds r) (fun _ => 0) := by
    refine ⟨fun a o e => ?_, fun i xs e => (ini_own e).elim, fun i j xs ys e => (ini_own e).elim, fun _ i xs e => (ini_own e).elim, fun a h => hthere a (ep' a h), ⟨fun p hp => ?_⟩, fun p hp => ?_, ?_, fun i d h => ?_⟩
    · obtain ⟨h1, h2⟩ := hide_some.mp e
      refine ⟨fun z => ?_, h2⟩
      rcases z with ⟨i, xs, e, _⟩ | z
      · exact ini_own e
      · exact h1 z
    · obtain ⟨h1, h2, ns, h3, h4⟩ := htw.ok p hp
      exact ⟨.inl h1, h2, ns, vw.seq h3, h4⟩
    · subst hp
      exact ⟨rfl, rfl⟩
    · unfold L2.start ini
      cases T with
      | none => cases hT; simp [argsOf] at hps ⊢; omega
      | some p => cases hT; simp [argsOf] at hps ⊢; omega
    · obtain ⟨j, rfl, hj⟩ := ini_v h
      obtain ⟨v, h1, h2⟩ := r1.get hj
      refine ⟨v, start_get ?_, h2.mono vw⟩
      cases T with
      | none => cases hT; exact h1
      | some p => cases hT; exact h1
  refine h2 _ Pc T n H _ _ _ _ hT ⟨_, s0⟩ (h3 ds Qd Ed n hl hF) ⟨fun ρ' n' σ' H' q s => ?_, fun _ _ _ _ q => q.elim, fun _ _ _ _ q => q.elim, fun d n' v H' q fo rr => ?_, fun e n' σ' H' q fo => ?_⟩
  · obtain ⟨ps', s'⟩ := s
    have fo := s'.fin
    refine hQ _ n' _ H' q ⟨fun a o hn e => fo.base a o (hide_some.mpr ⟨fun ⟨p, hp, z⟩ => hn p hp z, e⟩) hn, ⟨fun p hp => ?_⟩⟩ .non
    obtain ⟨h1, h2, ns, h3, h4⟩ := fo.tw.ok p hp
    exact ⟨(htw.ok p hp).1, h2, ns, vwo.seq h3, h4⟩
  · refine hQ d n' v H' q ⟨fun a o hn e => fo.base a o (hide_some.mpr ⟨fun ⟨p, hp, z⟩ => hn p hp z, e⟩) hn, ⟨fun p hp => ?_⟩⟩ (rr.mono vwo)
    obtain ⟨h1, h2, ns, h3, h4⟩ := fo.tw.ok p hp
    exact ⟨(htw.ok p hp).1, h2, ns, vwo.seq h3, h4⟩
  · refine hE e n' H' q ⟨fun a o hn e => fo.base a o (hide_some.mpr ⟨fun ⟨p, hp, z⟩ => hn p hp z, e⟩) hn, ⟨fun p hp => ?_⟩⟩
    obtain ⟨h1, h2, ns, h3, h4⟩ := fo.tw.ok p hp
    exact ⟨(htw.ok p hp).1, h2, ns, vwo.seq h3, h4⟩
end
end WB
namespace WB
open PySem PySem.Spec L2
theorem dst_never {K : PySem.W.Frag} {EX : EXT} {ek : Kd → Value} {tw : Bool} : DSt K EX ek tw tNever (fun _ _ _ => False) := fun _ _ _ _ _ _ _ _ _ _ _ hf _ => hf.elim
end WB
set_option Elab.async false
set_option linter.all false
set_option maxRecDepth 100000
set_option maxHeartbeats 2000000
/-! Part G: defs by name, raise, an exception that is caught and kept, isinstance of it. -/
namespace WB
open PySem PySem.Spec L2
/-! ### defs as the top has left them -/
/-- the def x of the text stands in the module under its name -/
def Df (K : PySem.W.Frag) (mg : Str → Option Value) (x : Str) (st : Stmt) (ps : List Str) : Prop :=
  ∃ f fd, Fun K x x st f fd ∧ mg x = some (.ref f) ∧ Binds K fd ps []
/-- .. and keeps its promise -/
def Rd (P : Program) (w : World) (K : PySem.W.Frag) (mg : Str → Option Value) (base : Heap) (x : Str) (k : Nat) (ps : List Str) (sp : Sp) : Prop :=
  ∃ f fd, FnOk P w K mg base (L2.CX P w) k f fd ps sp ∧ mg x = some (.ref f) ∧ PySem.W.keepIn K (.ref f) = true ∧ Binds K fd ps []
theorem df_mk {K : PySem.W.Frag} {h : Heap} {mg : Str → Option Value} {x : Str} {st : Stmt} {ps : List Str} {f : Addr} {oc : Value} {od an : Option Addr} {osl : Array (Option Value)} {kV doc pm cdv ct : Value} (X : K.In h) (G : h.Ns mainGlobals mg)
    (a : PySem.W.nsIn K mainGlobals x = some (some (.ref f))) (l : K.lookup f = some ⟨oc, od, .func (PySem.W.fnOf x x (defArgs st) (defBody st) (defScope st) .none kV doc pm an cdv ct), osl⟩) (c : PySem.W.codeIn K cdv x = true) (k : PySem.W.keepIn K (.ref f) = true)
    (b : ∀ (kV doc pm : Value) (an : Option Addr) (cdv ct : Value) (us : List Value), us.length = ps.length → bindArgs (PySem.W.fnOf x x (defArgs st) (defBody st) (defScope st) .none kV doc pm an cdv ct) ⟨us, []⟩ = pure (ps.zip us)) : Df K mg x st ps :=
  ⟨f, _, fun_mk l c k, PySem.W.mg_of X G a, (fun_mk l c k).binds b⟩
section
variable {P : Program} {w : World} {K : PySem.W.Frag} {mg : Str → Option Value} {base : Heap} {ek : Kd → Value} {tw : Bool}
theorem Df.ok {x : Str} {st : Stmt} {N ps : List Str} {k m r : Nat} {F : List D → W D} (d : Df K mg x st ps) (S : FnScope N ps (defScope st)) (hps : ps.length = m + (bif tw then 2 else 0)) (hr : N.length = ps.length + r)
    (body : ∀ (f : Addr) (cdv : Value) (A : Around) (outer : List Env) (s : Shared) (H : Hp) (E : XK), Room k (A.deeper (PyProof.Rows.envOfC x (defScope st) s.heap.objs.size f cdv)) →
      ∃ t fs, PSs (cxOf (L2.CX P w) P w K mg base N x (defScope st) f cdv A outer s H E) (defBody st) t ∧ DSt K (fun _ => E) ek tw t fs ∧
        ∀ (ds : List D) (Qd : D → Nat → Prop) (Ed : Kd → Nat → Prop) (n : Nat), ds.length = m → F ds Qd Ed n → fs (ini tw ds r) { nx := fun _ n' => Qd .none n', rt := Qd, er := Ed } n) :
    Rd P w K mg base x (k + 1) ps (spD K ek tw m F) := by
  obtain ⟨f, fd, Fn, hm, hb⟩ := d
  exact ⟨f, fd, Fun.okD Fn S hps hr (fun cdv A outer s H E hr => body f cdv A outer s H E hr), hm, Fn.kp, hb⟩
theorem Rd.imp {x : Str} {k : Nat} {ps : List Str} {sp sp' : Sp} (r : Rd P w K mg base x k ps sp) (h : ∀ vs H Q E, sp' vs H Q E → sp vs H Q E) : Rd P w K mg base x k ps sp' := by
  obtain ⟨f, fd, F, a, b, c⟩ := r
  exact ⟨f, fd, F.imp h, a, b, c⟩
/-- a call by name -/
theorem pe_callD {X : Cx} {x : Str} {k : Nat} {ps : List Str} {sp : Sp} {EX : EXT} {p pos : Pos} {e : Expr} {es : List Expr} {t : TA} (R : Rd X.prog X.w X.K X.mg X.base x k ps sp) (hr : Room k X.A) (hg : Gl X x) (hx : ∀ σ, PassesAt (L2.CX X.prog X.w) X σ (EX σ))
    (ha : PA X (e :: es) t) (hdb : (x == ("__debug__" : Str)) = false := by decide) (he : starEach (e :: es) X.env = (false, eval e X.env) :: starEach es X.env := by rfl) (hpl : (backTo pos (starEach es X.env)).any (·.1) = false := by rfl) :
    PE X (.Call (.Name x p) (e :: es) [] pos) (tCallS sp EX t) := by
  obtain ⟨f, fd, F, hm, hk, hb⟩ := R
  exact pe_callS F hr hg hm hk hb hx ha hdb he hpl
theorem pass_in {X : Cx} {W : WX} (tk : Takes X W) : ∀ σ, PassesAt (L2.CX X.prog X.w) X σ (WE W σ) := fun σ => passAt tk σ
theorem pass_blk {X : Cx} : ∀ σ : L2.St, PassesAt (L2.CX X.prog X.w) X σ (EX0 σ) := fun σ => fun pins H s e s' I c => passL pins σ H s e s' I c
theorem hr65 {k : Nat} {A : Around} (r : Room k A) : A.units + 65 < cLine := by have := r.un; omega
/-! ### raise -/
/-- the refusal class x of kind j -/
structure ExcK (K : PySem.W.Frag) (mg : Str → Option Value) (ek : Kd → Value) (j : Kd) (x : Str) (C : Addr) : Prop where
  m : mg x = some (.ref C)
  e : ek j = .ref C
  xi : PySem.W.excIn K C [.type "ValueError", .type "Exception", .type "BaseException", .type "object"] "ValueError.__new__" = true
  kp : PySem.W.keepIn K (.ref C) = true
  sb : PySem.W.subIn K (.ref C) (.type "BaseException") = some true
  ty : PySem.W.typeIn K (.ref C) = some (.type "type")
def tRz (E : XK) (v : Value) : TS := fun _ _ H => E v none H
theorem ps_raiseD {X : Cx} {E : XK} {x m : Str} {C : Addr} {jj : Kd} {p p2 pos pos2 : Pos} {j : Nat} (R : ExcK X.K X.mg ek jj x C) (hc : X.calm = true) (tk : Takes X (fun cls d _ H => E cls d H)) (hg : Gl X x) (hdb : (x == ("__debug__" : Str)) = false := by decide) :
    PS X (.Raise (some (.Call (.Name x p) [.Constant (.str m) j p2] [] pos)) none pos2) (tRz E (ek jj)) := by
  have := ps_raise (pos := pos2) hc tk (pmk_own (p := p) (p2 := p2) (pos := pos) (m := m) (j := j) PySem.F.excBase_ValueError R.xi R.m R.kp (raises_own R.sb R.ty) hg hdb)
  rw [R.e]
  exact this
theorem dst_rz {E : XK} {j : Kd} : DSt K (fun _ => E) ek tw (tRz E (ek j)) (fun _ k n => k.er j n) := by
  intro B P0 T n H σ ρ k Ds hT s hf L
  obtain ⟨ps, s⟩ := s
  exact L.er j n σ H hf s.fin
end
/-! ### an exception that was caught, as a value -/
/-- an exception object of the class cls stands at a -/
def Exv (cls : Value) (a : Addr) : HO := .ext fun h => ∃ (oe : Obj) (vs : Array Value), h.get? a = some oe ∧ oe.cls = cls ∧ oe.dict = none ∧ oe.data = .fields vs
theorem track_exc {X : Cx} {pins : List (Addr × Obj)} {σ : L2.St} {H : Hp} {s : Shared} {a : Addr} {oe : Obj} {vs : Array Value} {cls : Value} (J : Inv X pins σ H s) (e : s.heap.get? a = some oe) (h1 : oe.cls = cls) (h2 : oe.dict = none) (h3 : oe.data = .fields vs) (na : H a = none)
    (n0 : X.s_0.heap.get? a = none) (nL : a ≠ X.env.locals) (np : ∀ p ∈ X.pn ++ pins, p.1 ≠ a) : Inv X pins σ (upd H a (Exv cls a)) s := by
  have ne : ∀ b, H b = none → b ≠ a → upd H a (Exv cls a) b = none := fun b h q => by rw [upd_ne q]; exact h
  have ok : ObjOk X.prog X.w (upd H a (Exv cls a)) s.heap a (Exv cls a) := ⟨⟨oe, vs, e, h1, h2, h3⟩, ⟨oe, e⟩, fun _ _ ⟨o, v, q, r⟩ k => ⟨o, v, k o q, r⟩⟩
  refine ⟨J.ok, J.os, J.bare, ⟨J.base.keep, J.base.slot, fun b o q n hx => ne b (J.base.free b o q n hx) fun z => ?_, J.base.there, fun b xs q => ?_, fun b o u q => ?_, fun b q r => ?_⟩, J.loc, J.cell, ne _ J.free (Ne.symm nL), fun x c q => ne _ (J.freeC x c q) fun z => ?_, fun p hp => ?_, J.hok.laidN (fun _ _ q => q) na ok, J.len⟩
  · rw [z, n0] at q; cases q
  · have := J.base.tups b xs q
    rw [upd_ne (ne_of_none this na)]; exact this
  · have := J.base.frzs b o u q
    rw [upd_ne (ne_of_none this na)]; exact this
  · obtain ⟨m, this⟩ := J.base.tbls b q r
    exact ⟨m, by rw [upd_ne (ne_of_none this na)]; exact this⟩
  · obtain ⟨v, o, ho, hd⟩ := J.cell x c q
    rw [z, e] at ho
    cases ho
    rw [h3] at hd; cases hd
  · obtain ⟨p1, p2, p3⟩ := J.pin p hp
    exact ⟨p1, ne _ p2 (np p hp), p3⟩
/-- what is wished of an exception that «except B as n: y = n» meets: i is n's slot, j is y's -/
def wKeep (K : PySem.W.Frag) (c : Value) (i j l : Nat) (Wout : WX) (Dn : Ends) : WX := fun cls d σ H =>
  ∃ b, PySem.W.exmOne K cls c = some b ∧ (b = true → d = none ∧ ∀ a, H a = none → σ.length = l → Dn.nx (((σ.set i (some (.ref a))).set j (some (.ref a))).set i none) (upd H a (Exv cls a))) ∧ (b = false → Wout cls d σ H)
def tTry (K : PySem.W.Frag) (c : Value) (i j l : Nat) (Wout : WX) (tb : WX → TS) : TS := fun Dn σ H => tb (wKeep K c i j l Wout Dn) Dn σ H
section
variable {X : Cx} {i j : Nat} {n x y : Str} {c : Value} {np pe pa pn2 py pos pos' : Pos} {body : List Stmt} {tb : WX → TS} {Wout : WX}
theorem ps_try_keep (hs : X.stack = X.env :: X.outer) (hf : X.env.frame = some X.env.locals) (hN : X.N.Nodup) (hi : X.N[i]? = some n) (hj : X.N[j]? = some y) (hln : X.env.kindOf n = some .local) (hly : X.env.kindOf y = some .local) (hc : Names X x c) (tk : Takes X Wout)
    (hd1 : (n == ("__debug__" : Str)) = false) (hd2 : (n == ("__classdict__" : Str)) = false) (hex : X.ex = [])
    (hsw : ∀ env, swapsWith (.Name n pn2) (some (.Name y py)) pa.line env = pure false)
    (hb : ∀ (W : WX) (pn : List (Addr × Obj)) (xe : Value → Shared → Prop), Takes (X.tr pn xe) W → PassesOwn (model X.prog X.w) X.A X.env xe → PSs (X.tr pn xe) body (tb W)) :
    PS X (.Try body [.ExceptHandler (some (.Name x np)) (some n) [.Assign [.Name y py] (.Name n pn2) pa] pos'] [] [] pos) (tTry X.K c i j X.N.length Wout tb) := by
  constructor
  intro pins s σ H Dn I h
  have xok := I.ok
  have frs1 : X.A.frames = some (X.env :: X.outer) := by rw [xok.frames, hs]
  have lcn : Loc X.env.scope n := .inl hln
  have lcy : Loc X.env.scope y := .inl hly
  refine wpAny_Try_except ?_
  have body_ok := (hb (wKeep X.K c i j X.N.length Wout Dn) (X.pn ++ pins) (fun ev t1 => wpAny (model X.prog X.w) X.A (noteFrame ev X.env) (fun _ t2 => wpAny (model X.prog X.w) X.A (setFlight ev none) (fun _ t3 =>
    wpAny (model X.prog X.w) X.A (handleBy ev X.env [.ExceptHandler (some (.Name x np)) (some n) [.Assign [.Name y py] (.Name n pn2) pa] pos']) (SP X pins Dn) X.xe t3) X.xe t2) X.xe t1) ?tk PassesOwn.looking).run [] s σ H Dn (I.toTry _) h
  case tk =>
    rintro u t0 ⟨a, G, sI, pns, σ1, H1, cls, d, rfl, JJ, ground, ups, sky, na, oseq, gens, b, hb1, hy, hno⟩
    have J : Inv X pins σ1 H1 sI := JJ.ofTry xok
    have sk : Sky G (X.env :: X.outer) a (Zc cls d) X.env.locals t0.heap := hs ▸ sky
    show wpAny (model X.prog X.w) X.A (noteFrame (.ref a) X.env) _ _ _
    refine Sky.land Zc.steady frs1 hf sk fun h1 fl1 up1 => ?_
    have J1 : Inv X pins σ1 H1 { t0 with heap := h1 } := J.landed ground fl1.1 (ups.trans up1) oseq gens
    obtain ⟨oe1, vs1, he1, hz1, hv1⟩ := fl1.there
    have noframe : a ∉ frs (X.env :: X.outer) := fun hm => by
      obtain ⟨_, o', e', hnf⟩ := fl1.2.2.1.mem hm
      exact hnf vs1 (by rw [he1] at e'; cases e'; exact hv1)
    have aL : a ≠ X.env.locals := fun z => noframe (List.mem_filterMap.mpr ⟨X.env, List.mem_cons_self, by rw [hf, z]⟩)
    have aF : a ∉ X.fs := fun hm => by
      obtain ⟨ev, hev, q⟩ := List.mem_filterMap.mp hm
      exact noframe (List.mem_filterMap.mpr ⟨ev, List.mem_cons_of_mem _ hev, q⟩)
    have aG : G.get? a = none := fl1.2.1
    have a0 : X.s_0.heap.get? a = none := by
      cases q : X.s_0.heap.get? a with
      | none => rfl
      | some o =>
        obtain ⟨o', q'⟩ := J.base.there a o q (by rw [hex]; exact fun z => nomatch z)
        have := ground a o' q' (by rw [hs]; exact noframe)
        rw [aG] at this; cases this
    have apin : ∀ p ∈ X.pn ++ pins, p.1 ≠ a := fun p hp z => by
      obtain ⟨q1, _, q3, q4, _⟩ := J.pin p hp
      have : p.1 ∉ frs X.stack := by
        rw [hs]
        intro hm
        rw [z] at hm
        exact noframe hm
      have := ground p.1 p.2 q1 this
      rw [z, aG] at this; cases this
    have S1 := J1.suite he1 hv1 na aL aF
    refine wpAny_handleBy_cons (codeAny_handlers_test ?_) (by intro q; cases q)
    have tyA : PySem.W.Looks (model X.prog X.w) h1 (typeOf (.ref a)) cls := fun A1 Q1 E1 s1 k q => wpAny_typeOf_ref (k _ _ he1) (by rw [hz1.1]; exact q)
    have exm := PySem.W.exm_one (M := model X.prog X.w) (J1.kIn) tyA hb1
    have name_ok : ∀ {Q : Value → Shared → Prop} {E : Value → Shared → Prop}, Q c { t0 with heap := h1 } → wpAny (model X.prog X.w) (X.A.mark (some (.ref a))) (eval (.Name x np) X.env) Q E { t0 with heap := h1 } := by
      intro Q E q
      obtain ⟨hg, hdbg, hm | ⟨hm, hv, hnn⟩⟩ := hc
      · exact ld_glob (X := X.suite a ((a, oe1) :: (X.pn ++ pins))) S1 hg hm q hdbg
      · exact ld_blt (X := X.suite a ((a, oe1) :: (X.pn ++ pins))) S1 hg hm hv q hnn hdbg
    refine name_ok (exm.here ?_)
    cases b with
    | true =>
      obtain ⟨dn, hy⟩ := hy rfl
      refine codeAny_handlers_suite_as ?_
      refine HandSPX.lands_againZ fl1 fun h2 fl2 up2 => ?_
      have J2 : Inv X pins σ1 H1 { t0 with heap := h2 } := J.landed ground fl2.1 ((ups.trans up1).trans up2) oseq gens
      obtain ⟨oe2, vs2, he2, hz2, hv2⟩ := fl2.there
      have S2 := J2.suite he2 hv2 na aL aF
      refine store_ok (X := X.suite a ((a, oe2) :: (X.pn ++ pins))) (v := .ref a) S2 hN hi lcn rfl (fun t3 S3 => ?_) (.inr hln)
      have asg : PSs (X.suite a ((a, oe2) :: (X.pn ++ pins))) [.Assign [.Name y py] (.Name n pn2) pa] (tAsg (tVar i) (gName j)) :=
        pss_one (ps_set (X := X.suite a ((a, oe2) :: (X.pn ++ pins))) hN hj lcy (pe_var hi (.inl hln) hd1 hd2) (hsw _) (.inr hly))
      have hil : i < (σ1.set i (some (V.ref a))).length := by
        rw [List.length_set, J2.len]
        exact (List.getElem?_eq_some_iff.mp hi).1
      refine wpAny_mono (asg.run [] t3 _ H1 { nx := fun σ6 H6 => σ6 = (σ1.set i (some (.ref a))).set j (some (.ref a)) ∧ H6 = H1, rt := fun _ _ => False } S3 ⟨.ref a, ?_, rfl, rfl⟩) (fun f t4 hsp => ?_) (fun _ _ z => False.elim z)
      · rw [List.getElem?_set_self (by rw [List.length_set] at hil; exact hil)]
      cases f with
      | next =>
        obtain ⟨σ6, H6, S6, rfl, rfl⟩ := hsp
        have pin6 := (S6.pin (a, oe2) (List.mem_append_left _ List.mem_cons_self)).1
        have J6 := S6.unsuite xok
        have J7 := track_exc (cls := cls) J6 pin6 hz2.1 (by rw [hz2.2]; exact dn) hv2 na a0 aL apin
        exact gone_ok J7 hN hi hln fun t5 J8 => ⟨_, _, J8, hy a na J.len⟩
      | brk => obtain ⟨_, _, _, z⟩ := hsp; exact z.elim
      | cont => obtain ⟨_, _, _, z⟩ := hsp; exact z.elim
      | ret u => obtain ⟨_, _, _, _, _, z⟩ := hsp; exact z.elim
    | false =>
      show wpAny _ X.A (handleBy (.ref a) X.env []) _ _ _
      refine wpAny_handleBy_nil ?_
      obtain ⟨_, _, _, ob, ws, tr, otr, ts, q1, q2, q3, q4, q5⟩ := id fl1
      unfold PySem.passOn
      refine wpAny_bind (wpAny_field q1 q3 q4 ?_)
      rw [if_neg (show ¬ ((Value.ref tr == Value.none) = true) from by simp)]
      have on : wpAny (model X.prog X.w) X.A (setFlight (.ref a) X.env.frame) (fun _ t4 => wpAny (model X.prog X.w) X.A (throw (.ref a) : Sem Flow) (SP X pins Dn) X.xe t4) X.xe { t0 with heap := h1 } := by
        rw [hf]
        refine HandSPX.setFlight_upZ fl1 fun h2 held up2 => wpAny_throw (tk _ _ ?_)
        exact ⟨a, G, sI, pins, σ1, H1, cls, d, rfl, J, ground, (ups.trans up1).trans up2, .inr (.inr (by rw [hs]; exact held)), na, oseq, gens, hno rfl⟩
      first
        | exact wpAny_bind (wpAny_pure (wpAny_bind on))
        | exact wpAny_bind on
  refine wpAny_mono body_ok (fun f t1 hsp => ?_) fun _ _ he => he
  cases f with
  | next => obtain ⟨σ1, H1, J, q⟩ := hsp; exact wpAny_execs_nil ⟨σ1, H1, J.ofTry xok, q⟩
  | brk => obtain ⟨σ1, H1, J, q⟩ := hsp; exact ⟨σ1, H1, J.ofTry xok, q⟩
  | cont => obtain ⟨σ1, H1, J, q⟩ := hsp; exact ⟨σ1, H1, J.ofTry xok, q⟩
  | ret u => obtain ⟨v, σ1, H1, J, r, q⟩ := hsp; exact ⟨v, σ1, H1, J.ofTry xok, r, q⟩
/-- isinstance(e, c) of such a value; c a class of one's own or a built-in one -/
def rIsX (K : PySem.W.Frag) : List V → Hp → VK → Prop := fun xs H Q => ∃ (a E : Addr) (cv : V) (cw : Value) (b : Bool), xs = [.ref a, cv] ∧ H a = some (Exv (.ref E) a) ∧ ExcC K E ∧ (∀ u, RelV cv u → u = cw) ∧ PySem.W.kitOne K (.ref E) cw = some b ∧ Q (.bl b) H
theorem call_isX {X : Cx} : CallR X (.builtin "isinstance") (rIsX X.K) := by
  intro pins s σ H xs us Q I r h
  obtain ⟨a, E, cv, cw, b, rfl, hH, C, hcv, e, q⟩ := h
  cases r with
  | cons rx rr =>
    cases rr with
    | cons rt rr =>
      cases rr
      cases rx
      have ec := hcv _ rt
      subst ec
      obtain ⟨⟨oe, vs, g1, g2, g3, g4⟩, _⟩ := I.hok a _ hH
      have J : PySem.W.InstAt s.heap a oe E none := by
        obtain ⟨oc, od, oda, osl⟩ := oe
        dsimp only at g2 g3 g4
        subst g2 g3 g4
        exact ⟨g1, rfl, rfl, trivial⟩
      exact PySem.W.kia_one (PySem.W.handS_kitx_exc C.hg C.hk C.hs C.hd C.ha C.hn C.ht C.hm) I.kIn J e (fun z => nomatch z) fun tk => ⟨.bl b, H, I.kept (t' := tk) fun _ _ z => z, rfl, q⟩
end
end WB
set_option Elab.async false
set_option linter.all false
set_option maxRecDepth 100000
set_option maxHeartbeats 2000000
/-! Part H: three comparisons in a chain; names of the module; a context's facts. -/
namespace WB
open PySem PySem.Spec L2
/-- a op b op c op d -/
def tChain3 (r r' r'' : R2) (ta tb tc td : TE) : TE := fun σ H Q => ta σ H fun x H1 => tb σ H1 fun y H2 => r x y H2 fun z H3 => ∃ k, z = .bl k ∧
  (if k = true then tc σ H3 fun u H4 => r' y u H4 fun z' H5 => ∃ k', z' = .bl k' ∧ (if k' = true then td σ H5 fun v H6 => r'' u v H6 Q else Q (.bl false) H5) else Q (.bl false) H3)
section
variable {X : Cx} {a b c d : Expr} {ta tb tc td : TE} {pos : Pos} {op op' op'' : CmpOp} {r r' r'' : R2}
theorem pe_chain3 (h1 : OpR X (compareOp op) r) (h2 : OpR X (compareOp op') r') (h3 : OpR X (compareOp op'') r'') (ha : PE X a ta) (hb : PE X b tb) (hc : PE X c tc) (hd : PE X d td)
    (hm : lastMarks [op, op', op''] [b, c, d] = false := by with_unfolding_all rfl) : PE X (.Compare a [op, op', op''] [b, c, d] pos) (tChain3 r r' r'' ta tb tc td) := by
  constructor
  intro pins s σ H Q I h
  refine PyProof.Rows.Compare_chain (thn (ha.run pins s σ H _ I h) fun v s1 ⟨x, H1, I1, r1, q1⟩ => PyProof.Rows.chain_link (thn (hb.run pins s1 σ H1 _ I1 q1) fun u s2 ⟨y, H2, I2, r2, q2⟩ =>
    thn (h1 pins s2 σ H2 x y v u _ I2 r1 r2 q2) fun e s3 ⟨z, H3, I3, r3, k, ez, q3⟩ => ?_)) hm
  subst ez
  cases r3
  refine wpAny_truthy_bool ?_
  cases k with
  | false => exact PyProof.Rows.ite_ff ⟨.bl false, H3, I3, rfl, q3⟩
  | true =>
    refine PyProof.Rows.ite_tt (PyProof.Rows.chain_link (thn (hc.run pins s3 σ H3 _ I3 q3) fun w s4 ⟨y2, H4, I4, r4, q4⟩ => thn (h2 pins s4 σ H4 y y2 u w _ I4 r2 r4 q4) fun e s5 ⟨z2, H5, I5, r5, k2, ez2, q5⟩ => ?_))
    subst ez2
    cases r5
    refine wpAny_truthy_bool ?_
    cases k2 with
    | false => exact PyProof.Rows.ite_ff ⟨.bl false, H5, I5, rfl, q5⟩
    | true => exact PyProof.Rows.ite_tt (PyProof.Rows.chain_last (thn (hd.run pins s5 σ H5 _ I5 q5) fun w2 s6 ⟨y3, H6, I6, r6, q6⟩ => h3 pins s6 σ H6 y2 y3 w w2 Q I6 r4 r6 q6))
theorem pt_chain3 (h1 : OpR X (compareOp op) r) (h2 : OpR X (compareOp op') r') (h3 : OpR X (compareOp op'') r'') (ha : PE X a ta) (hb : PE X b tb) (hc : PE X c tc) (hd : PE X d td)
    (hm : lastMarks [op, op', op''] [b, c, d] = false := by with_unfolding_all rfl) : PT X (.Compare a [op, op', op''] [b, c, d] pos) (tTest (tChain3 r r' r'' ta tb tc td)) := by
  constructor
  intro pins s σ H Q I h
  refine PyProof.Rows.isTrue_chain (thn (ha.run pins s σ H _ I h) fun v s1 ⟨x, H1, I1, r1, q1⟩ => PyProof.Rows.test_link (thn (hb.run pins s1 σ H1 _ I1 q1) fun u s2 ⟨y, H2, I2, r2, q2⟩ =>
    thn (h1 pins s2 σ H2 x y v u _ I2 r1 r2 q2) fun e s3 ⟨z, H3, I3, r3, k, ez, q3⟩ => ?_)) hm
  subst ez
  cases r3
  refine wpAny_truthy_bool ?_
  cases k with
  | false =>
    obtain ⟨k', e', q'⟩ := q3
    cases e'
    exact PyProof.Rows.ite_ff ⟨H3, I3, q'⟩
  | true =>
    refine PyProof.Rows.ite_tt (PyProof.Rows.test_link (thn (hc.run pins s3 σ H3 _ I3 q3) fun w s4 ⟨y2, H4, I4, r4, q4⟩ => thn (h2 pins s4 σ H4 y y2 u w _ I4 r2 r4 q4) fun e s5 ⟨z2, H5, I5, r5, k2, ez2, q5⟩ => ?_))
    subst ez2
    cases r5
    refine wpAny_truthy_bool ?_
    cases k2 with
    | false =>
      obtain ⟨k', e', q'⟩ := q5
      cases e'
      exact PyProof.Rows.ite_ff ⟨H5, I5, q'⟩
    | true =>
      refine PyProof.Rows.ite_tt (PyProof.Rows.test_last (thn (hd.run pins s5 σ H5 _ I5 q5) fun w2 s6 ⟨y3, H6, I6, r6, q6⟩ => thn (h3 pins s6 σ H6 y2 y3 w w2 _ I6 r4 r6 q6) fun e s7 ⟨z3, H7, I7, r7, k3, ez3, q7⟩ => ?_))
      subst ez3
      cases r7
      exact wpAny_truthy_bool ⟨H7, I7, q7⟩
theorem pe_globI {x : Str} {i : Int} (h : ∃ t, X.mg x = some (.int i t)) (hg : Gl X x) (hd : (x == ("__debug__" : Str)) = false := by decide) : PE X (.Name x pos) (tC (.int i)) := by
  obtain ⟨t, h⟩ := h
  exact pe_glob hg h ⟨t, rfl⟩ hd
end
section
variable {K : PySem.W.Frag} {EX : EXT} {ek : Kd → Value} {tw : Bool} {ta tb tc td : TE} {fa fb fc fd : Rho → W D}
theorem dt_chain3 {r r' r'' : R2} {g g' g'' : D → D → (D → Prop) → Prop} (hr : DR K r g) (hr' : DR K r' g') (hr'' : DR K r'' g'') (ha : DT K EX ek tw ta fa) (hb : DT K EX ek tw tb fb) (hc : DT K EX ek tw tc fc) (hd : DT K EX ek tw td fd) :
    DT K EX ek tw (tChain3 r r' r'' ta tb tc td) (fun ρ => wbind (fa ρ) fun x => wbind (fb ρ) fun y => wbind (wop (g x y)) fun z => wbind (wop (asBool z)) fun b => bif b then
      (wbind (fc ρ) fun u => wbind (wop (g' y u)) fun z' => wbind (wop (asBool z')) fun b' => bif b' then (wbind (fd ρ) fun v => wop (g'' u v)) else wret (.bool false)) else wret (.bool false)) := by
  intro P T n H σ ρ Qd Ed Q hT s hf hq he
  refine ha P T n H σ ρ _ Ed _ hT s hf (fun x n1 vx H1 q1 p1 r1 => ?_) he
  refine hb P T n1 H1 σ ρ _ Ed _ hT (s.step p1) q1 (fun y n2 vy H2 q2 p2 r2 => ?_) (fun k n' H' a b => he k n' H' a (p1.trans b))
  have s2 := (s.step p1).step p2
  refine hr P H2 vx vy x y _ _ s2.there (r1.mono (p2.view (s.step p1).tw)) r2 q2 fun z vz H3 q3 e r3 => ?_
  have p3 : Post K P T H n2 H3 := (p1.trans p2).trans (.same s2.tw e)
  cases r3 with
  | bl b =>
    refine ⟨b, rfl, ?_⟩
    cases b with
    | false => exact iteF (hq _ n2 _ H3 q3 p3 (.bl false))
    | true =>
      refine iteT (hc P T n2 H3 σ ρ _ Ed _ hT (s.step p3) q3 (fun u n4 vu H4 q4 p4 r4 => ?_) fun k n' H' a b => he k n' H' a (p3.trans b))
      have s4 := (s.step p3).step p4
      refine hr' P H4 vy vu y u _ _ s4.there ((r2.mono (hide_same e)).mono (p4.view (s.step p3).tw)) r4 q4 fun z' vz' H5 q5 e5 r5 => ?_
      have p5 : Post K P T H n4 H5 := (p3.trans p4).trans (.same s4.tw e5)
      cases r5 with
      | bl b' =>
        refine ⟨b', rfl, ?_⟩
        cases b' with
        | false => exact iteF (hq _ n4 _ H5 q5 p5 (.bl false))
        | true =>
          refine iteT (hd P T n4 H5 σ ρ _ Ed _ hT (s.step p5) q5 (fun v n6 vv H6 q6 p6 r6 => ?_) fun k n' H' a b => he k n' H' a (p5.trans b))
          have s6 := (s.step p5).step p6
          exact hr'' P H6 vu vv u v _ _ s6.there ((r4.mono (hide_same e5)).mono (p6.view (s.step p5).tw)) r6 q6 fun d vd H7 q7 e7 r7 => hq d n6 vd H7 q7 ((p5.trans p6).trans (.same s6.tw e7)) r7
      | _ => exact q5.elim
  | _ => exact q3.elim
end
end WB
set_option Elab.async false
set_option linter.all false
set_option maxRecDepth 100000
set_option maxHeartbeats 2000000
/-! Part I: data in Lean's own kinds; folds of walks. -/
namespace WB
open PySem PySem.Spec L2
def ekOf (ec : Kd → Addr) : Kd → Value := fun j => .ref (ec j)
/-- a row, a list of rows -/
def eR (r : List Int) : D := .list (r.map .int)
def eRs (rs : List (List Int)) : D := .list (rs.map eR)
/-- m does a, and nothing else -/
def Does {α : Type} (m : W α) (a : α) : Prop := ∀ (Q : α → Nat → Prop) (E : Kd → Nat → Prop) (n : Nat), Q a n → m Q E n
/-! ### comprehensions over data -/
theorem lcL_fm {α : Type} {tg : Tgt} {ft : Rho → W Bool} {fe : Rho → W D} {ρ : Rho} {enc : α → D} (p : α → Bool) (g : α → D) : ∀ {xs : List α} {Q : List D → Nat → Prop} {n : Nat},
    (∀ x ∈ xs, ∃ ρ', tg (enc x) ρ = some ρ' ∧ Does (ft ρ') (p x) ∧ (p x = true → Does (fe ρ') (g x))) → Q ((xs.filter p).map g) n → lcL tg ft fe ρ (xs.map enc) Q n
  | [], _, _, _, h => h
  | x :: xs, Q, n, hx, h => by
    obtain ⟨ρ', e, ht, hg⟩ := hx x List.mem_cons_self
    refine ⟨ρ', e, ht _ _ _ ?_⟩
    cases hp : p x with
    | true =>
      refine hg hp _ _ _ ?_
      refine lcL_fm p g (fun y hy => hx y (List.mem_cons_of_mem _ hy)) ?_
      rw [List.filter_cons_of_pos hp] at h
      exact h
    | false =>
      refine lcL_fm p g (fun y hy => hx y (List.mem_cons_of_mem _ hy)) ?_
      rw [List.filter_cons_of_neg (by rw [hp]; exact Bool.false_ne_true)] at h
      exact h
theorem lcL_m {α : Type} {tg : Tgt} {fe : Rho → W D} {ρ : Rho} {enc : α → D} (g : α → D) {xs : List α} {Q : List D → Nat → Prop} {n : Nat}
    (hx : ∀ x ∈ xs, ∃ ρ', tg (enc x) ρ = some ρ' ∧ Does (fe ρ') (g x)) (h : Q (xs.map g) n) : lcL tg (fun _ => wret true) fe ρ (xs.map enc) Q n := by
  refine lcL_fm (fun _ => true) g (fun x hx' => ?_) (by rw [List.filter_eq_self.mpr fun _ _ => rfl]; exact h)
  obtain ⟨ρ', e, hg⟩ := hx x hx'
  exact ⟨ρ', e, fun Q E n h => h, fun _ => hg⟩
/-- over a range -/
theorem rngD_map (lo : Int) (n : Nat) : rngD lo n = (List.range n).map fun i : Nat => PyData.int (lo + (i : Int)) := rfl
/-! ### the town's draws -/
def isRow (m : Int) (L : Nat) (r : List Int) : Prop := r.length = L ∧ ∀ x ∈ r, 0 ≤ x ∧ x < m
theorem lcL_draw {tg : Tgt} {fe : Rho → W D} {ρ : Rho} (m : Int) : ∀ {ds : List D} {Q : List D → Nat → Prop} {n : Nat},
    (∀ d ∈ ds, ∃ ρ', tg d ρ = some ρ' ∧ ∀ (Q : D → Nat → Prop) (n : Nat), n < 900000 → (∀ d, 0 ≤ d → d < m → Q (.int d) (n + 1)) → fe ρ' Q NoE n) → n + ds.length < 900000 →
    (∀ r, isRow m ds.length r → Q (r.map .int) (n + ds.length)) → lcL tg (fun _ => wret true) fe ρ ds Q n
  | [], Q, n, _, _, h => h [] ⟨rfl, fun _ z => nomatch z⟩
  | d :: ds, Q, n, hx, hn, h => by
    obtain ⟨ρ', e, hg⟩ := hx d List.mem_cons_self
    rw [List.length_cons] at hn
    refine ⟨ρ', e, hg _ n (by omega) fun y h0 h1 => ?_⟩
    refine lcL_draw m (fun y hy => hx y (List.mem_cons_of_mem _ hy)) (by omega) fun r hr => ?_
    have := h (y :: r) ⟨by rw [List.length_cons, List.length_cons, hr.1], fun x hx => by
      rcases List.mem_cons.mp hx with rfl | hx
      · exact ⟨h0, h1⟩
      · exact hr.2 x hx⟩
    rw [List.length_cons] at this
    have e2 : n + 1 + ds.length = n + (ds.length + 1) := by omega
    rw [e2]
    exact this
/-! ### equality of data -/
mutual
/-- no bools within -/
def nob : D → Bool
  | .none => true
  | .bool _ => false
  | .int _ => true
  | .str _ => true
  | .list ds => nobs ds
  | .tuple ds => nobs ds
  | .dict _ => false
def nobs : List D → Bool
  | [] => true
  | d :: ds => nob d && nobs ds
end
mutual
theorem eqv_iff : ∀ {d e : D}, nob d = true → nob e = true → (PyData.eqv d e = true ↔ d = e)
  | .none, .none, _, _ => by simp [PyData.eqv]
  | .int i, .int j, _, _ => by simp [PyData.eqv]
  | .str i, .str j, _, _ => by simp [PyData.eqv]
  | .list xs, .list ys, h1, h2 => by
    have := eqvs_iff (xs := xs) (ys := ys) (by simpa [nob] using h1) (by simpa [nob] using h2)
    simp [PyData.eqv, this]
  | .tuple xs, .tuple ys, h1, h2 => by
    have := eqvs_iff (xs := xs) (ys := ys) (by simpa [nob] using h1) (by simpa [nob] using h2)
    simp [PyData.eqv, this]
  | .bool _, _, h1, _ => by simp [nob] at h1
  | .dict _, _, h1, _ => by simp [nob] at h1
  | _, .bool _, _, h2 => by simp [nob] at h2
  | _, .dict _, _, h2 => by simp [nob] at h2
  | .none, .int _, _, _ => by simp [PyData.eqv]
  | .none, .str _, _, _ => by simp [PyData.eqv]
  | .none, .list _, _, _ => by simp [PyData.eqv]
  | .none, .tuple _, _, _ => by simp [PyData.eqv]
  | .int _, .none, _, _ => by simp [PyData.eqv]
  | .int _, .str _, _, _ => by simp [PyData.eqv]
  | .int _, .list _, _, _ => by simp [PyData.eqv]
  | .int _, .tuple _, _, _ => by simp [PyData.eqv]
  | .str _, .none, _, _ => by simp [PyData.eqv]
  | .str _, .int _, _, _ => by simp [PyData.eqv]
  | .str _, .list _, _, _ => by simp [PyData.eqv]
  | .str _, .tuple _, _, _ => by simp [PyData.eqv]
  | .list _, .none, _, _ => by simp [PyData.eqv]
  | .list _, .int _, _, _ => by simp [PyData.eqv]
  | .list _, .str _, _, _ => by simp [PyData.eqv]
  | .list _, .tuple _, _, _ => by simp [PyData.eqv]
  | .tuple _, .none, _, _ => by simp [PyData.eqv]
  | .tuple _, .int _, _, _ => by simp [PyData.eqv]
  | .tuple _, .str _, _, _ => by simp [PyData.eqv]
  | .tuple _, .list _, _, _ => by simp [PyData.eqv]
theorem eqvs_iff : ∀ {xs ys : List D}, nobs xs = true → nobs ys = true → (PyData.eqvAll xs ys = true ↔ xs = ys)
  | [], [], _, _ => by simp [PyData.eqvAll]
  | [], _ :: _, _, _ => by simp [PyData.eqvAll]
  | _ :: _, [], _, _ => by simp [PyData.eqvAll]
  | x :: xs, y :: ys, h1, h2 => by
    have h1 : nob x = true ∧ nobs xs = true := by simpa [nobs] using h1
    have h2 : nob y = true ∧ nobs ys = true := by simpa [nobs] using h2
    have a := eqv_iff h1.1 h2.1
    have b := eqvs_iff h1.2 h2.2
    simp [PyData.eqvAll, a, b]
end
theorem eqv_dec {d e : D} (h1 : nob d = true) (h2 : nob e = true) {p : Prop} [Decidable p] (h : d = e ↔ p) : PyData.eqv d e = decide p := by
  have := eqv_iff h1 h2
  by_cases q : p
  · rw [decide_eq_true q]; exact this.mpr (h.mpr q)
  · rw [decide_eq_false q]
    cases z : PyData.eqv d e with
    | false => rfl
    | true => exact (q (h.mp (this.mp z))).elim
/-- of a depth up to k, no dict, texts as they should be -/
def shp (k : Nat) (d : D) : Prop := d.canLay0 = true ∧ d.depth ≤ k
theorem shp.mono {k l : Nat} {d : D} (h : shp k d) (q : k ≤ l) : shp l d := ⟨h.1, Nat.le_trans h.2 q⟩
theorem shp.ok {k : Nat} {d : D} (h : shp k d) (q : k ≤ 64 := by decide) : SeqAt.shaped d = true := by
  show (d.canLay0 && decide (d.depth ≤ 64)) = true
  rw [h.1, decide_eq_true (Nat.le_trans h.2 q)]
  rfl
theorem shp_int (i : Int) {k : Nat} : shp k (.int i) := ⟨rfl, Nat.zero_le _⟩
theorem shp_non {k : Nat} : shp k .none := ⟨rfl, Nat.zero_le _⟩
theorem shp_bool (b : Bool) {k : Nat} : shp k (.bool b) := ⟨rfl, Nat.zero_le _⟩
theorem shp_all {k : Nat} : ∀ {ds : List D}, (∀ d ∈ ds, shp k d) → PyData.canLayAll0 ds = true ∧ PyData.depthAll ds ≤ k
  | [], _ => ⟨by simp [PyData.canLayAll0], by simp [PyData.depthAll]⟩
  | d :: ds, h => by
    have a := h d List.mem_cons_self
    have b := shp_all (ds := ds) fun e he => h e (List.mem_cons_of_mem _ he)
    refine ⟨by simp [PyData.canLayAll0, a.1, b.1], ?_⟩
    simp only [PyData.depthAll]
    have := a.2
    have := b.2
    omega
theorem shp_list {k : Nat} {ds : List D} (h : ∀ d ∈ ds, shp k d) : shp (k + 1) (.list ds) := by
  have := shp_all h
  exact ⟨by simpa [PyData.canLay0] using this.1, by simp only [PyData.depth]; omega⟩
theorem shp_tup {k : Nat} {ds : List D} (h : ∀ d ∈ ds, shp k d) : shp (k + 1) (.tuple ds) := by
  have := shp_all h
  exact ⟨by simpa [PyData.canLay0] using this.1, by simp only [PyData.depth]; omega⟩
theorem shp_eR (r : List Int) : shp 1 (eR r) := shp_list fun d hd => by
  obtain ⟨i, _, rfl⟩ := List.mem_map.mp hd
  exact shp_int i
theorem shp_eRs (rs : List (List Int)) : shp 2 (eRs rs) := shp_list fun d hd => by
  obtain ⟨i, _, rfl⟩ := List.mem_map.mp hd
  exact shp_eR i
theorem nobs_map {α : Type} {enc : α → D} : ∀ {xs : List α}, (∀ x ∈ xs, nob (enc x) = true) → nobs (xs.map enc) = true
  | [], _ => by simp [nobs]
  | x :: xs, h => by
    rw [List.map_cons]
    simp [nobs, h x List.mem_cons_self, nobs_map fun y hy => h y (List.mem_cons_of_mem _ hy)]
theorem nob_eR (r : List Int) : nob (eR r) = true := by
  have := nobs_map (enc := PyData.int) (xs := r) fun _ _ => by simp [nob]
  simpa [eR, nob] using this
theorem nob_eRs (rs : List (List Int)) : nob (eRs rs) = true := by
  have := nobs_map (enc := eR) (xs := rs) fun _ _ => nob_eR _
  simpa [eRs, nob] using this
theorem map_inj {α : Type} {enc : α → D} (hi : ∀ x y, enc x = enc y → x = y) : ∀ {xs ys : List α}, xs.map enc = ys.map enc → xs = ys
  | [], [], _ => rfl
  | [], _ :: _, h => by cases h
  | _ :: _, [], h => by cases h
  | x :: xs, y :: ys, h => by
    rw [List.map_cons, List.map_cons] at h
    injection h with h1 h2
    rw [hi _ _ h1, map_inj hi h2]
theorem eR_inj {r s : List Int} (h : eR r = eR s) : r = s := by
  unfold eR at h
  injection h with h
  exact map_inj (enc := PyData.int) (fun x y h => by injection h) h
theorem eRs_inj {r s : List (List Int)} (h : eRs r = eRs s) : r = s := by
  unfold eRs at h
  injection h with h
  exact map_inj (enc := eR) (fun x y h => eR_inj h) h
theorem eqv_eR (r s : List Int) : PyData.eqv (eR r) (eR s) = decide (r = s) := eqv_dec (nob_eR r) (nob_eR s) ⟨eR_inj, fun h => h ▸ rfl⟩
theorem eqv_int (i j : Int) : PyData.eqv (.int i) (.int j) = decide (i = j) := by
  simp only [PyData.eqv]
  by_cases h : i = j
  · subst h; simp
  · rw [decide_eq_false h]; simpa using h
/-! ### places -/
theorem atI_map {α β : Type} (f : α → β) (xs : List α) (i : Int) : atI (xs.map f) i = (atI xs i).map f := by
  unfold atI
  rw [List.length_map]
  cases ixN xs.length i with
  | none => rfl
  | some j => simp
theorem atI_getD {xs : List Int} {i : Int} (h0 : 0 ≤ i) (h1 : i < xs.length) : atI xs i = some (xs.getD i.toNat 0) := by
  unfold atI ixN
  rw [if_pos h0, if_pos h1]
  show xs[i.toNat]? = _
  rw [List.getElem?_eq_getElem (by omega), List.getD_eq_getElem?_getD, List.getElem?_eq_getElem (by omega)]
  rfl
end WB
namespace WB
open PySem PySem.Spec L2
theorem cond_app {α : Type} {b : Bool} {m m' : W α} {Q : α → Nat → Prop} {E : Kd → Nat → Prop} {n : Nat} : (bif b then m else m') Q E n = (bif b then m Q E n else m' Q E n) := by cases b <;> rfl
theorem cond_prop {b : Bool} {p q : Prop} : (bif b then p else q) ↔ ((b = true → p) ∧ (b = false → q)) := by cases b <;> simp
theorem len_ints (r : List Int) : (List.map PyData.int r).length = r.length := List.length_map ..
theorem Does.cond {α : Type} {b : Bool} {m m' : W α} {a a' : α} (h1 : b = true → Does m a) (h2 : b = false → Does m' a') : Does (bif b then m else m') (bif b then a else a') := by
  cases b with
  | true => exact h1 rfl
  | false => exact h2 rfl
end WB
namespace WB
open PySem PySem.Spec L2
/-! ### loops by an invariant -/
theorem forL_core {α : Type} {tg : Tgt} {fb : Rho → Sk → Nat → Prop} {enc : α → D} {k : Sk} (I : Nat → Rho → Nat → Prop) : ∀ (xs ys : List α) (i : Nat), i + ys.length = xs.length → (∀ j, ys[j]? = xs[i + j]?) →
    (∀ i x ρ n (N : Rho → Nat → Prop), xs[i]? = some x → I i ρ n → (∀ ρ' n', I (i + 1) ρ' n' → N ρ' n') → ∃ ρ1, tg (enc x) ρ = some ρ1 ∧ fb ρ1 { k with nx := N, ct := N, bk := k.nx } n) →
    (∀ ρ n, I xs.length ρ n → k.nx ρ n) → ∀ ρ n, I i ρ n → forL tg fb (ys.map enc) ρ k n
  | xs, [], i, hl, _, _, he, ρ, n, h => by
    have : i = xs.length := by simpa using hl
    subst this
    exact he ρ n h
  | xs, y :: ys, i, hl, hg, hs, he, ρ, n, h => by
    have h0 := hg 0
    simp at h0
    obtain ⟨ρ1, e, q⟩ := hs i y ρ n (fun ρ' n' => forL tg fb (ys.map enc) ρ' k n') h0.symm h fun ρ' n' h' =>
      forL_core I xs ys (i + 1) (by rw [List.length_cons] at hl; omega) (fun j => by
        have := hg (j + 1)
        simp at this
        rw [this, show i + (j + 1) = i + 1 + j from by omega]) hs he ρ' n' h'
    exact ⟨ρ1, e, q⟩
theorem forL_inv {α : Type} {tg : Tgt} {fb : Rho → Sk → Nat → Prop} {enc : α → D} {k : Sk} (I : Nat → Rho → Nat → Prop) {xs : List α} {ρ : Rho} {n : Nat} (h0 : I 0 ρ n)
    (hs : ∀ i x ρ n (N : Rho → Nat → Prop), xs[i]? = some x → I i ρ n → (∀ ρ' n', I (i + 1) ρ' n' → N ρ' n') → ∃ ρ1, tg (enc x) ρ = some ρ1 ∧ fb ρ1 { k with nx := N, ct := N, bk := k.nx } n)
    (he : ∀ ρ n, I xs.length ρ n → k.nx ρ n) : forL tg fb (xs.map enc) ρ k n :=
  forL_core I xs xs 0 (by simp) (fun j => by simp) hs he ρ n h0
/-- over range(lo, hi) -/
theorem forL_rng {tg : Tgt} {fb : Rho → Sk → Nat → Prop} {lo : Int} {m : Nat} {k : Sk} (I : Nat → Rho → Nat → Prop) {ρ : Rho} {n : Nat} (h0 : I 0 ρ n)
    (hs : ∀ (i : Nat) ρ n (N : Rho → Nat → Prop), i < m → I i ρ n → (∀ ρ' n', I (i + 1) ρ' n' → N ρ' n') → ∃ ρ1, tg (.int (lo + (i : Int))) ρ = some ρ1 ∧ fb ρ1 { k with nx := N, ct := N, bk := k.nx } n)
    (he : ∀ ρ n, I m ρ n → k.nx ρ n) : forL tg fb (rngD lo m) ρ k n := by
  rw [rngD_map]
  refine forL_inv (xs := List.range m) (enc := fun i : Nat => PyData.int (lo + (i : Int))) I h0 (fun i x ρ n N hx => ?_) (by rw [List.length_range]; exact he)
  obtain ⟨hlt, e⟩ := List.getElem?_eq_some_iff.mp hx
  rw [List.getElem_range] at e
  rw [List.length_range] at hlt
  subst e
  exact hs i ρ n N hlt
theorem whF_inv {gc : Rho → W Bool} {ft : Rho → Sk → Nat → Prop} {k : Sk} (I : Nat → Rho → Nat → Prop)
    (hs : ∀ m ρ n (N : Rho → Nat → Prop), I m ρ n → (∀ m' ρ' n', m' < m → I m' ρ' n' → N ρ' n') → gc (opn ρ) (fun c n' => cond c (ft ρ { k with nx := N, ct := N, bk := k.nx } n') (k.nx ρ n')) k.er n) {m : Nat} {ρ : Rho} {n : Nat} (h : I m ρ n) :
    ∃ M, whF gc ft M ρ k n := by
  have core : ∀ M m ρ n, m < M → I m ρ n → whF gc ft M ρ k n := by
    intro M
    induction M with
    | zero => intro m ρ n h; omega
    | succ M ih => exact fun m ρ n hm hi => hs m ρ n _ hi fun m' ρ' n' hlt hi' => ih m' ρ' n' (by omega) hi'
  exact ⟨m + 1, core _ m ρ n (Nat.lt_succ_self _) h⟩
end WB
namespace WB
open PySem PySem.Spec L2
/-- a while by an invariant and what holds behind it -/
theorem whF_post {gc : Rho → W Bool} {ft : Rho → Sk → Nat → Prop} {k : Sk} (I : Nat → Rho → Nat → Prop) (post : Rho → Nat → Prop) {m : Nat} {ρ : Rho} {n : Nat} (h : I m ρ n)
    (hs : ∀ m ρ n (N X : Rho → Nat → Prop), I m ρ n → (∀ m' ρ' n', m' < m → I m' ρ' n' → N ρ' n') → (∀ ρ' n', post ρ' n' → X ρ' n') → gc (opn ρ) (fun c n' => cond c (ft ρ { k with nx := N, ct := N, bk := X } n') (X ρ n')) k.er n)
    (he : ∀ ρ n, post ρ n → k.nx ρ n) : ∃ M, whF gc ft M ρ k n :=
  whF_inv I (fun m ρ n N hi hN => hs m ρ n N k.nx hi hN he) h
end WB
set_option Elab.async false
set_option linter.all false
set_option maxRecDepth 100000
set_option maxHeartbeats 2000000
/-! Part K: a def that tells a refusal as data: try, keep, ask which. -/
namespace WB
open PySem PySem.Spec L2
/-- the kinds' words -/
def kdWord : Kd → String
  | .row => "row" | .stretch => "stretch" | .size => "size" | .told => "told" | .norow => "no row" | .number => "number" | .text => "text"
def eRef (j : Kd) : D := .tuple [.str "refused", .str (Str.ofString (kdWord j))]
/-- the refusal's teller: handed a caught refusal of kind j it tells eRef j -/
def spRef (K : PySem.W.Frag) (ec : Kd → Addr) : Sp := fun vs H Q _ => ∃ (a : Addr) (j : Kd), vs = [.ref a] ∧ H a = some (Exv (.ref (ec j)) a) ∧ ∀ v H', Same H H' → (∀ (P : Addr → Prop), (∀ b, P b → H b ≠ none) → Rp K (hide P H') v (eRef j)) → Q v H'
section
variable {K : PySem.W.Frag} {EX : EXT} {ec : Kd → Addr} {E : XK} {tb : WX → TS} {fb : Rho → Sk → Nat → Prop} {te : TE} {fe : Rho → W D} {i c f l : Nat} {CB : Value} {Wout : WX}
/-- c: the caught one's slot; f: the found one's; i: the clause's name's -/
def tTold (K : PySem.W.Frag) (ec : Kd → Addr) (CB : Value) (i c f l : Nat) (tb : WX → TS) (te : TE) (Wout : WX) (EX : EXT) : TS :=
  tSeq (tAsg (tC .non) (gName c)) (tSeq (tAsg (tC .non) (gName f)) (tSeq (tTry K CB i c l Wout tb)
    (tRet (tIf (tTest (tOp rIsNo (tVar c) (tC .non))) te (tCallS (spRef K ec) EX (tCons (tVar c) tNil))))))
theorem dst_told (hci : c ≠ i) (hcl : c < l) (hex : ∀ j, PySem.W.exmOne K (ekOf ec j) CB = some true) (hb : ∀ W : WX, DSt K (WE W) (ekOf ec) false (tb W) fb) (he : DT K EX (ekOf ec) false te fe) :
    DSt K EX (ekOf ec) false (tTold K ec CB i c f l tb te Wout EX) (fun ρ k n => ρ.length = l ∧
      fb ((ρ.set c (.v .none)).set f (.v .none)) { nx := fun ρ' n' => getV ρ' c (fun d _ => d = .none) (fun _ _ => False) n' ∧ fe (opn ρ') k.rt k.er n', rt := fun _ _ => False, er := fun j n' => k.rt (eRef j) n' } n) := by
  intro B P0 T n H σ ρ k Ds hT s hf L
  obtain ⟨ps, s⟩ := s
  obtain ⟨hl, hf⟩ := hf
  have T0 : T = none := by
    cases T with
    | none => rfl
    | some p => cases hT
  subst T0
  have two : ∀ i : Nat, ((none : Twn).isSome = true → 2 ≤ i) := fun _ h => nomatch h
  have s1 := (s.set (i := c) (x := .non) (two _) .non).set (i := f) (x := .non) (two _) .non
  show tb (wKeep K CB i c l Wout _) _ _ H
  refine hb _ B P0 none n H _ _ _ _ rfl ⟨ps, s1⟩ hf ⟨fun ρ' n' σ' H' q s' => ?_, fun _ _ _ _ q => q.elim, fun _ _ _ _ q => q.elim, fun _ _ _ _ q => q.elim, fun j n' σ' H' q fo => ?_⟩
  · obtain ⟨ps', s'⟩ := s'
    obtain ⟨q1, q2⟩ := q
    unfold getV at q1
    split at q1
    · rename_i d hd
      subst q1
      obtain ⟨v, h1, h2⟩ := s'.st.val c _ hd
      cases h2
      refine ⟨_, h1, rfl, true, rfl, iteT ?_⟩
      exact he _ none n' H' σ' _ _ _ _ rfl s'.opn_st q2 (fun d n2 v H2 q p r => L.rt d n2 v H2 q (.of_post s' p) r) fun e n2 H2 q p => L.er e n2 _ H2 q (.of_post s' p)
    · exact q1.elim
  · refine ⟨true, hex j, fun _ => ⟨rfl, fun a na hlen => ?_⟩, fun z => nomatch z⟩
    have e1 : (((σ'.set i (some (V.ref a))).set c (some (.ref a))).set i none)[c]? = some (some (.ref a)) := by
      rw [List.getElem?_set_ne (Ne.symm hci), List.getElem?_set_self (by rw [List.length_set, hlen]; exact hcl)]
    refine (show tRet (tIf (tTest (tOp rIsNo (tVar c) (tC .non))) te (tCallS (spRef K ec) EX (tCons (tVar c) tNil))) Ds _ _ from ?_)
    refine ⟨_, e1, rfl, false, rfl, iteF ?_⟩
    refine ⟨_, e1, a, j, rfl, upd_same, fun v H2 sm r => ?_⟩
    have sm' : Same H' H2 := fun b o e => sm b o (same_new na b o e)
    have th : ∀ b, Po P0 none b → H2 b ≠ none := fun b hb => by
      cases z : H' b with
      | none => exact (fo.there b hb z).elim
      | some o => rw [sm' b o z]; exact fun z => nomatch z
    refine L.rt _ n' v H2 q ⟨fun b o e hn => sm' b o (fo.base b o e hn), ⟨fun p hp => nomatch hp⟩, th⟩ (r _ fun b hb => ?_)
    cases z : H' b with
    | none => exact (fo.there b hb z).elim
    | some o => rw [same_new na b o z]; exact fun z => nomatch z
end
end WB
set_option Elab.async false
set_option linter.all false
set_option maxRecDepth 100000
set_option maxHeartbeats 2000000
/-! Part L: count of flat things; asking which refusal; the law's start and end. -/
namespace WB
open PySem PySem.Spec L2
/-! ### xs.count(y), flat -/
def rCntF (K : PySem.W.Frag) : V → List V → Hp → VK → Prop := fun x xs H Q => ∃ (p : Addr) (ys : List V) (y : V), x = .ref p ∧ xs = [y] ∧ SqL K H p ys ∧ flatV y = true ∧ ys.all flatV = true ∧ Q (.int ((ys.countP fun z => eqV z y : Nat) : Int)) H
theorem countP_eqU {x : V} : ∀ {xs : List V} {us : List Value}, Vals xs us → xs.all flatV = true → us.countP (eqU x) = xs.countP fun y => eqV y x
  | _, _, .nil, _ => rfl
  | y :: xs, u :: us, .cons r t, f => by
    rw [List.all_cons, Bool.and_eq_true] at f
    rw [List.countP_cons, List.countP_cons, countP_eqU t f.2, eqU_of r f.1]
theorem mt_countF {X : Cx} : MtR X "list.count" (rCntF X.K) := by
  intro pins s σ H x xs v us Q I rx rxs h
  obtain ⟨p, ys, y, rfl, rfl, hs, fy, fa, q⟩ := h
  cases rx
  obtain ⟨u, rfl, ru⟩ := rxs.one
  obtain ⟨its, rv, ⟨⟨cls, dd, data, sl⟩, n, ho, hc, hdn, hd⟩, hlen⟩ := I.list hs
  simp only at hc hd
  subst hc hd
  refine call_meets PySem.F.slot_list_count ⟨_, ho, rfl⟩ PySem.F.entry_list_count (PySem.F.args_list_count_2 _ _)
    (SeqAt.list_countAt p its.toArray n dd sl u (eqU y)) ⟨ho, fun z hz => mem_eqAt ru fy rv fa z (by simpa using hz), ?_⟩
  have ec : its.toArray.toList.countP (eqU y) = ys.countP fun z => eqV z y := by
    rw [List.toList_toArray]; exact countP_eqU rv fa
  refine ⟨.int ((ys.countP fun z => eqV z y : Nat) : Int), H, I.tok _, ⟨s.toks, ?_⟩, q⟩
  show Value.int ((its.toArray.toList.countP (eqU y) : Nat) : Int) s.toks = _
  rw [ec]
/-! ### which refusal -/
structure ExcT (K : PySem.W.Frag) (ec : Kd → Addr) (CB : Addr) : Prop where
  cls : ∀ j, ExcC K (ec j)
  kit : ∀ i j, PySem.W.kitOne K (.ref (ec i)) (.ref (ec j)) = some (decide (i = j))
  kitV : ∀ i, PySem.W.kitOne K (.ref (ec i)) (.type "ValueError") = some true
  exm : ∀ j, PySem.W.exmOne K (.ref (ec j)) (.ref CB) = some true
section
variable {X : Cx} {K : PySem.W.Frag} {ec : Kd → Addr} {CB : Addr}
/-- isinstance(caught, X), the caught one in slot 0 -/
def tIsi (K : PySem.W.Frag) (v : V) : TE := tCB (rIsX K) (tCons (tVar 0) (tCons (tC v) tNil))
theorem isi_ok {σ : L2.St} {H : Hp} {Q : VK} {a : Addr} {i j : Kd} (T : ExcT K ec CB) (h0 : σ[0]? = some (some (.ref a))) (hH : H a = some (Exv (.ref (ec i)) a)) (h : Q (.bl (decide (i = j))) H) : tIsi K (.ref (ec j)) σ H Q :=
  ⟨_, h0, a, ec i, .ref (ec j), _, _, rfl, hH, T.cls i, fun u r => r, T.kit i j, h⟩
theorem isi_okV {σ : L2.St} {H : Hp} {Q : VK} {a : Addr} {i : Kd} (T : ExcT K ec CB) (h0 : σ[0]? = some (some (.ref a))) (hH : H a = some (Exv (.ref (ec i)) a)) (h : Q (.bl true) H) : tIsi K (.ty "ValueError") σ H Q :=
  ⟨_, h0, a, ec i, .ty "ValueError", _, _, rfl, hH, T.cls i, fun u r => r, T.kitV i, h⟩
end
/-! ### the law's own start: a town of its own -/
/-- the promise of a law: a list of at most 63 ints is handed in, True comes out -/
def spLaw (K : PySem.W.Frag) : Sp := fun vs H Q _ => ∃ (a : Addr) (ns : List Int), vs = [.ref a] ∧ SqL K H a (ns.map V.int) ∧ ns.length ≤ 63 ∧ ∀ H', Q (.bl true) H'
theorem SqL.not_new {K : PySem.W.Frag} {H : Hp} {a p : Addr} {xs : List V} {o : HO} (h : SqL K H a xs) (hp : H p = none) : SqL K (hide (fun b => b = p) (upd H p o)) a xs := by
  refine Same.seq (fun b u e => ?_) h
  have ne : b ≠ p := ne_of_none e hp
  exact hide_some.mpr ⟨ne, by rw [upd_ne ne]; exact e⟩
section
variable {P : Program} {w : World} {K : PySem.W.Frag} {mg : Str → Option Value} {base : Heap} {ek : Kd → Value}
/-- a law: its first statement makes the town (slot 1), the rest runs with the script and the town -/
theorem law_ok {x : Str} {st s0 : Stmt} {rest : List Stmt} {N : List Str} {k r : Nat} {f : Addr} {fd : FuncData} (Fn : Fun K x x st f fd) (S : FnScope N ["_law_script"] (defScope st)) (hr : N.length = r + 2) (hb : defBody st = s0 :: rest)
    (body : ∀ (cdv : Value) (A : Around) (outer : List Env) (s : Shared) (H : Hp) (E : XK), Room k (A.deeper (PyProof.Rows.envOfC x (defScope st) s.heap.objs.size f cdv)) →
      PS (cxOf (L2.CX P w) P w K mg base N x (defScope st) f cdv A outer s H E) s0 (tAsg (tLst tNil) (gName 1)) ∧
      ∃ t fs, PSs (cxOf (L2.CX P w) P w K mg base N x (defScope st) f cdv A outer s H E) rest t ∧ DSt K (fun _ => E) ek true t fs ∧
        fs (ini true [] r) { nx := fun _ _ => False, rt := fun d _ => d = .bool true, er := fun _ _ => False } 0) :
    FnOk P w K mg base (L2.CX P w) (k + 1) f fd ["_law_script"] (spLaw K) := by
  refine Fn.okX S (fun vs H Q E h => by obtain ⟨a, ns, rfl, _⟩ := h; rfl) (fun cdv A outer s H vs Q E hroom h => ?_)
  obtain ⟨h0, t, fs, h1, h2, h3⟩ := body cdv A outer s H E hroom
  rw [hb]
  refine ⟨_, pss_cons h0 h1, ?_⟩
  obtain ⟨a, ns, rfl, hS, hlen, hQ⟩ := h
  refine ⟨Nat.zero_le _, fun p hp => ?_⟩
  have hst : (L2.start N [V.ref a]).set 1 (some (.ref p)) = some (.ref a) :: some (.ref p) :: List.replicate r none := by
    unfold L2.start
    rw [hr]
    show some (V.ref a) :: ((List.replicate (r + 2 - 1) none).set 0 (some (V.ref p))) = _
    rw [show r + 2 - 1 = r + 1 from by omega, List.replicate_succ]
    rfl
  refine (show t _ ((L2.start N [V.ref a]).set 1 (some (.ref p))) (upd H p (.lst [])) from ?_)
  rw [hst]
  have ep : ∀ b, Pp (fun b => b = p) (some (a, p)) (ini true [] r) (fun _ => 0) b → b = p := fun b h => by
    rcases h with h | ⟨i, xs, e, _⟩ | ⟨q, hq, e⟩
    · exact h
    · exact (ini_own e).elim
    · cases hq; exact e
  have vw : Same (hide (fun b => b = p) (upd H p (.lst []))) (hide (Pp (fun b => b = p) (some (a, p)) (ini true [] r) (fun _ => 0)) (upd H p (.lst []))) := hide_mono fun b o hn e => ⟨fun z => hn (ep b z), e⟩
  have s0 : SRx K H (fun b => b = p) (some (a, p)) 0 (upd H p (.lst [])) (some (.ref a) :: some (.ref p) :: List.replicate r none) (ini true [] r) (fun _ => 0) := by
    refine ⟨fun b o e => ⟨fun z => ?_, by rw [upd_ne (ne_of_none e hp)]; exact e⟩, fun i xs e => (ini_own e).elim, fun i j xs ys e => (ini_own e).elim, fun _ i xs e => (ini_own e).elim, fun b h => ?_, ⟨fun q hq => ?_⟩, fun q hq => ?_, ?_, fun i d h => ?_⟩
    · rcases z with ⟨i, xs, e', _⟩ | ⟨q, hq, z⟩
      · exact ini_own e'
      · cases hq; rw [z, hp] at e; cases e
    · rw [ep b h, upd_same]; exact fun z => nomatch z
    · cases hq
      exact ⟨.inl rfl, upd_same, ns, vw.seq (SqL.not_new hS hp), hlen⟩
    · cases hq; exact ⟨rfl, rfl⟩
    · unfold ini; simp
    · obtain ⟨j, _, hj⟩ := ini_v h
      cases hj
  exact h2 H _ (some (a, p)) 0 _ _ _ _ _ rfl ⟨_, s0⟩ h3 ⟨fun _ _ _ _ q => q.elim, fun _ _ _ _ q => q.elim, fun _ _ _ _ q => q.elim, fun d n v H' q fo rr => by
    subst q
    cases rr
    exact hQ H', fun _ _ _ _ q => q.elim⟩
end
end WB
set_option Elab.async false
set_option linter.all false
set_option maxRecDepth 100000
set_option maxHeartbeats 2000000
/-! Part M: plain lists: greatest, least, stretches; outcomes. -/
namespace WB
open PySem PySem.Spec L2
/-- an outcome: a value or a refusal -/
def out (o : Except Kd D) : W D := fun Q E n => match o with
  | .ok d => Q d n
  | .error k => E k n
theorem out_ok {d : D} {Q : D → Nat → Prop} {E : Kd → Nat → Prop} {n : Nat} : out (.ok d) Q E n = Q d n := rfl
theorem out_err {k : Kd} {Q : D → Nat → Prop} {E : Kd → Nat → Prop} {n : Nat} : out (.error k) Q E n = E k n := rfl
def toD : Except Kd D → D
  | .ok d => d
  | .error k => eRef k
/-- the greatest, the least of a list -/
def mxL : List Int → Int
  | [] => 0
  | [x] => x
  | x :: y :: r => max x (mxL (y :: r))
def mnL : List Int → Int
  | [] => 0
  | [x] => x
  | x :: y :: r => min x (mnL (y :: r))
theorem mxL_mem : ∀ {l : List Int}, l ≠ [] → mxL l ∈ l ∧ ∀ y ∈ l, y ≤ mxL l
  | [], h => (h rfl).elim
  | [x], _ => ⟨List.mem_singleton.mpr rfl, fun y hy => by rw [List.mem_singleton.mp hy]; exact Int.le_refl _⟩
  | x :: y :: r, _ => by
    obtain ⟨h1, h2⟩ := mxL_mem (l := y :: r) (by simp)
    refine ⟨?_, fun z hz => ?_⟩
    · show max x (mxL (y :: r)) ∈ _
      by_cases q : x ≤ mxL (y :: r)
      · rw [Int.max_eq_right q]; exact List.mem_cons_of_mem _ h1
      · rw [Int.max_eq_left (by omega)]; exact List.mem_cons_self
    · show z ≤ max x (mxL (y :: r))
      rcases List.mem_cons.mp hz with rfl | hz
      · omega
      · have := h2 z hz; omega
theorem mnL_mem : ∀ {l : List Int}, l ≠ [] → mnL l ∈ l ∧ ∀ y ∈ l, mnL l ≤ y
  | [], h => (h rfl).elim
  | [x], _ => ⟨List.mem_singleton.mpr rfl, fun y hy => by rw [List.mem_singleton.mp hy]; exact Int.le_refl _⟩
  | x :: y :: r, _ => by
    obtain ⟨h1, h2⟩ := mnL_mem (l := y :: r) (by simp)
    refine ⟨?_, fun z hz => ?_⟩
    · show min x (mnL (y :: r)) ∈ _
      by_cases q : x ≤ mnL (y :: r)
      · rw [Int.min_eq_left q]; exact List.mem_cons_self
      · rw [Int.min_eq_right (by omega)]; exact List.mem_cons_of_mem _ h1
    · show min x (mnL (y :: r)) ≤ z
      rcases List.mem_cons.mp hz with rfl | hz
      · omega
      · have := h2 z hz; omega
theorem mxL_of {l : List Int} {m : Int} (h1 : m ∈ l) (h2 : ∀ y ∈ l, y ≤ m) : m = mxL l := by
  obtain ⟨a, b⟩ := mxL_mem (l := l) (fun e => by rw [e] at h1; cases h1)
  have := b m h1; have := h2 _ a; omega
theorem mnL_of {l : List Int} {m : Int} (h1 : m ∈ l) (h2 : ∀ y ∈ l, m ≤ y) : m = mnL l := by
  obtain ⟨a, b⟩ := mnL_mem (l := l) (fun e => by rw [e] at h1; cases h1)
  have := b m h1; have := h2 _ a; omega
theorem maxD_ints {ns : List Int} {q : D → Prop} (h : ns ≠ []) (hq : q (.int (mxL ns))) : maxD [.list (ns.map .int)] q := .inl ⟨ns, rfl, h, fun m h1 h2 => mxL_of h1 h2 ▸ hq⟩
theorem minD_ints {ns : List Int} {q : D → Prop} (h : ns ≠ []) (hq : q (.int (mnL ns))) : minD [.list (ns.map .int)] q := .inl ⟨ns, rfl, h, fun m h1 h2 => mnL_of h1 h2 ▸ hq⟩
theorem cutG_map {α β : Type} (f : α → β) (xs : List α) (lo hi : Option Int) : cutG (xs.map f) lo hi = (cutG xs lo hi).map f := by
  unfold cutG
  rw [List.length_map, List.map_take, List.map_drop]
/-- the stretch from f to l -/
def sl (row : List Int) (f l : Int) : List Int := cutG row (some f) (some (l + 1))
theorem sIx_pos (n d : Nat) {i : Int} (h0 : 0 ≤ i) (h1 : i ≤ n) : HT.sIx n d (some i) = i.toNat := by
  obtain ⟨k, rfl⟩ := Int.eq_ofNat_of_zero_le h0
  rw [HT.sIx_nat]
  omega
theorem cut_nat {α : Type} (xs : List α) {f l : Int} (h0 : 0 ≤ f) (h1 : f ≤ l) (h2 : l ≤ xs.length) : cutG xs (some f) (some l) = (xs.drop f.toNat).take (l - f).toNat := by
  unfold cutG
  rw [sIx_pos _ _ h0 (by omega), sIx_pos _ _ (by omega) h2]
  congr 1
  omega
theorem sl_eq {row : List Int} {f l : Int} (h0 : 0 ≤ f) (h1 : f ≤ l) (h2 : l < row.length) : sl row f l = (row.drop f.toNat).take (l + 1 - f).toNat := cut_nat row h0 (by omega) (by omega)
theorem sl_ne {row : List Int} {f l : Int} (h0 : 0 ≤ f) (h1 : f ≤ l) (h2 : l < row.length) : sl row f l ≠ [] := by
  rw [sl_eq h0 h1 h2]
  refine List.ne_nil_of_length_pos ?_
  rw [List.length_take, List.length_drop]
  omega
end WB
namespace WB
open PySem PySem.Spec L2
theorem atI_neg1 {α : Type} (xs : List α) : atI xs (-1) = xs.getLast? := by
  unfold atI ixN
  rw [if_neg (by decide)]
  by_cases h : xs = []
  · subst h; rfl
  · have hl := List.length_pos_iff.mpr h
    rw [if_pos (by omega), List.getLast?_eq_getElem?]
    show xs[(-1 + (xs.length : Int)).toNat]? = _
    congr 1
    omega
theorem atI_0 {α : Type} (xs : List α) : atI xs 0 = xs.head? := by
  cases xs with
  | nil => rfl
  | cons x r => exact atI_nat (j := 0) rfl
theorem sorted_last {ns ns' : List Int} (hp : ns'.Perm ns) (hs : ns'.Pairwise (· ≤ ·)) (hne : ns ≠ []) : atI (ns'.map PyData.int) (-1) = some (.int (mxL ns)) := by
  have hne' : ns' ≠ [] := fun e => hne (by rw [e] at hp; exact hp.symm.eq_nil)
  rw [atI_map, atI_neg1, List.getLast?_eq_some_getLast hne']
  have h1 : ns'.getLast hne' ∈ ns := hp.mem_iff.mp (List.getLast_mem hne')
  have h2 : ∀ y ∈ ns, y ≤ ns'.getLast hne' := fun y hy => by
    have hy' := hp.mem_iff.mpr hy
    have e : ns'.dropLast ++ [ns'.getLast hne'] = ns' := List.dropLast_concat_getLast hne'
    rw [← e] at hs hy'
    rw [List.pairwise_append] at hs
    rcases List.mem_append.mp hy' with h | h
    · exact hs.2.2 y h _ (List.mem_singleton.mpr rfl)
    · rw [List.mem_singleton.mp h]; exact Int.le_refl _
  rw [← mxL_of h1 h2]; rfl
theorem sorted_first {ns ns' : List Int} (hp : ns'.Perm ns) (hs : ns'.Pairwise (· ≤ ·)) (hne : ns ≠ []) : atI (ns'.map PyData.int) 0 = some (.int (mnL ns)) := by
  cases ns' with
  | nil => exact (hne hp.symm.eq_nil).elim
  | cons x r =>
    rw [List.pairwise_cons] at hs
    have h1 : x ∈ ns := hp.mem_iff.mp List.mem_cons_self
    have h2 : ∀ y ∈ ns, x ≤ y := fun y hy => by
      rcases List.mem_cons.mp (hp.mem_iff.mpr hy) with rfl | h
      · exact Int.le_refl _
      · exact hs.1 y h
    rw [← mnL_of h1 h2, atI_0]; rfl
theorem eqv_nil {α : Type} (f : α → D) (xs : List α) : PyData.eqv (.list (xs.map f)) (.list []) = xs.isEmpty := by
  cases xs with
  | nil => simp [PyData.eqv, PyData.eqvAll]
  | cons x r => simp [PyData.eqv, PyData.eqvAll]
theorem shp_ints (r : List Int) : shp 1 (.list (r.map .int)) := shp_eR r
theorem shp_nil {k : Nat} : shp (k + 1) (.list []) := shp_list fun _ h => nomatch h
end WB
namespace WB
open PySem PySem.Spec L2
theorem out_toD {o : Except Kd D} {Q : D → Nat → Prop} {n m : Nat} (h : Q (toD o) n) : out o (fun d _ => True ∧ Q d n) (fun k _ => Q (eRef k) n) m := by
  cases o with
  | ok d => exact ⟨trivial, h⟩
  | error k => exact h
end WB
namespace WB
open PySem PySem.Spec L2
theorem shp_str {x : Str} {k : Nat} (h : PyData.strOk x = true) : shp k (.str x) := ⟨by simpa [PyData.canLay0] using h, Nat.zero_le _⟩
theorem shp_pair {k : Nat} {a b : D} (ha : shp k a) (hb : shp k b) : shp (k + 1) (.tuple [a, b]) := shp_tup fun d hd => by
  rcases List.mem_cons.mp hd with rfl | hd
  · exact ha
  · rw [List.mem_singleton.mp hd]; exact hb
theorem shp_eRef (j : Kd) : shp 1 (eRef j) := shp_pair (shp_str (by decide +kernel)) (shp_str (by cases j <;> decide +kernel))
theorem nob_eRef (j : Kd) : nob (eRef j) = true := by simp [eRef, nob, nobs]
theorem eqv_refl' {k : Nat} {d : D} (h : shp k d) : PyData.eqv d d = true := SeqAt.eqv_refl d h.1
theorem eqD_refl {k : Nat} {d : D} {q : D → Prop} (h : shp k d) (hq : q (.bool true)) (hk : k ≤ 64 := by decide) : eqD d d q := ⟨h.ok hk, h.ok hk, by rw [eqv_refl' h]; exact hq⟩
theorem neD_refl {k : Nat} {d : D} {q : D → Prop} (h : shp k d) (hq : q (.bool false)) (hk : k ≤ 64 := by decide) : neD d d q := ⟨h.ok hk, h.ok hk, by rw [eqv_refl' h]; exact hq⟩
end WB
namespace WB
open PySem PySem.Spec L2
theorem cut_to {α : Type} (xs : List α) (k : Nat) : cutG xs none (some (k : Int)) = xs.take k := by
  unfold cutG
  rw [HT.sIx_none, List.drop_zero, Nat.sub_zero, HT.sIx_nat]
  by_cases h : k ≤ xs.length
  · rw [Nat.min_eq_left h]
  · rw [Nat.min_eq_right (by omega), List.take_of_length_le (Nat.le_refl _), List.take_of_length_le (by omega)]
theorem cut_from {α : Type} (xs : List α) (k : Nat) : cutG xs (some (k : Int)) none = xs.drop k := by
  unfold cutG
  rw [HT.sIx_none, HT.sIx_nat]
  by_cases h : k ≤ xs.length
  · rw [Nat.min_eq_left h, List.take_of_length_le (by rw [List.length_drop]; omega)]
  · rw [Nat.min_eq_right (by omega), Nat.sub_self, List.take_zero, List.drop_of_length_le (by omega)]
theorem shp_eqs {k : Nat} {d : D} {n : Nat} (h : shp k d) : shp (k + 1) (.list (List.replicate n d)) := shp_list fun e he => by rw [List.eq_of_mem_replicate he]; exact h
end WB
namespace WB
open PySem PySem.Spec L2
theorem words_rp {K : PySem.W.Frag} {wa : Addr} {wd : Option Addr} {wt1 wt2 : Tok} {wn : Nat} {wsl : Array (Option Value)} (h : K.lookup wa = some ⟨.type "tuple", wd, .seq #[.str "greatest" wt1, .str "least" wt2] wn, wsl⟩) (H : Hp) :
    Rp K H (.ref wa) (.tuple [.str "greatest", .str "least"]) :=
  .tup (xs := [.str "greatest", .str "least"]) (.inr ⟨_, _, _, h, rfl, rfl, (by show 2 ≤ sizeLine; decide), .cons ⟨_, rfl⟩ (.cons ⟨_, rfl⟩ .nil)⟩) (.cons (.str _) (.cons (.str _) .nil))
end WB
namespace WB
open PySem PySem.Spec L2
theorem kit_same {K : PySem.W.Frag} {C : Addr} : PySem.W.kitOne K (.ref C) (.ref C) = some true := by
  show (if (Value.ref C == Value.ref C) = true then some true else _) = some true
  rw [if_pos (beq_self_eq_true _)]
theorem kit_other {K : PySem.W.Frag} {E C : Addr} (hd : PySem.W.hasDictIn K C = true) (ht : PySem.W.typeIn K (.ref C) = some (.type "type")) (h0 : PySem.W.subIn K (.ref E) (.ref E) = some true) (hs : PySem.W.subIn K (.ref E) (.ref C) = some false) : PySem.W.kitOne K (.ref E) (.ref C) = some false := by
  have ne : ¬ (Value.ref E == Value.ref C) = true := fun q => by
    have e : E = C := Value.ref.inj (beq_iff_eq.mp q)
    subst e
    rw [h0] at hs; cases hs
  show (if (Value.ref E == Value.ref C) = true then some true else PySem.W.kitCls K (.ref E) (.ref C)) = some false
  rw [if_neg ne]
  show (if ((PySem.W.clsIn K C).isSome && PySem.W.typeIn K (.ref C) == some (.type "type")) = true then PySem.W.subIn K (.ref E) (.ref C) else none) = some false
  have e : ((PySem.W.clsIn K C).isSome && PySem.W.typeIn K (.ref C) == some (.type "type")) = true := by
    unfold PySem.W.hasDictIn at hd
    rw [ht]
    cases z : PySem.W.clsIn K C with
    | none => rw [z] at hd; cases hd
    | some c => rfl
  rw [if_pos e]; exact hs
theorem kit_VE {K : PySem.W.Frag} {E : Addr} (hs : PySem.W.subIn K (.ref E) (.type "ValueError") = some true) : PySem.W.kitOne K (.ref E) (.type "ValueError") = some true := by
  show (if (Value.ref E == Value.type "ValueError") = true then some true else PySem.W.kitCls K (.ref E) (.type "ValueError")) = some true
  rw [if_neg (by simp)]
  show (if PySem.W.kitMeta "ValueError" = true then PySem.W.subIn K (.ref E) (.type "ValueError") else none) = some true
  rw [if_pos (by decide +kernel)]; exact hs
end WB
namespace WB
open PySem PySem.Spec L2
/-! ### facts -/
structure Fact where
  word : Str
  first : Int
  last : Int
  worth : Int
  deriving DecidableEq
def eF (f : Fact) : D := .tuple [.str f.word, .int f.first, .int f.last, .int f.worth]
def eFs (l : List Fact) : D := .list (l.map eF)
def isWord (x : Str) : Bool := x == "greatest" || x == "least"
def isF (size most : Int) (f : Fact) : Bool := isWord f.word && decide (0 ≤ f.first ∧ f.first ≤ f.last ∧ f.last < size ∧ 0 ≤ f.worth ∧ f.worth ≤ most)
def sizesOk (size most : Int) : Bool := decide (1 ≤ size ∧ size ≤ 8 ∧ 0 ≤ most ∧ most ≤ 9)
def toldOk (size most : Int) (told : List Fact) : Bool := decide (told.length ≤ 6) && told.all (isF size most)
/-- what a row has where a fact tells -/
def wof (row : List Int) (f : Fact) : Int := if f.word = "greatest" then mxL (sl row f.first f.last) else mnL (sl row f.first f.last)
def keepsB (row : List Int) (told : List Fact) : Bool := told.all fun f => decide (wof row f = f.worth)
def isRowB (size most : Int) (row : List Int) : Bool := decide ((row.length : Int) = size) && row.all fun x => decide (0 ≤ x ∧ x ≤ most)
theorem str_beq (x y : Str) : (x == y) = decide (x = y) := by
  by_cases h : x = y
  · subst h; simp
  · rw [decide_eq_false h]; exact beq_eq_false_iff_ne.mpr h
theorem eqv_str (x y : Str) : PyData.eqv (.str x) (.str y) = decide (x = y) := by
  simp only [PyData.eqv]; exact str_beq x y
theorem isWord_ok {x : Str} (h : isWord x = true) : PyData.strOk x = true := by
  unfold isWord at h
  rw [Bool.or_eq_true, beq_iff_eq, beq_iff_eq] at h
  rcases h with rfl | rfl <;> decide +kernel
theorem isF_ok {size most : Int} {f : Fact} (h : isF size most f = true) : isWord f.word = true ∧ 0 ≤ f.first ∧ f.first ≤ f.last ∧ f.last < size ∧ 0 ≤ f.worth ∧ f.worth ≤ most := by
  unfold isF at h
  rw [Bool.and_eq_true] at h
  exact ⟨h.1, of_decide_eq_true h.2⟩
theorem toldOk_ok {size most : Int} {told : List Fact} (h : toldOk size most told = true) : told.length ≤ 6 ∧ ∀ f ∈ told, isF size most f = true := by
  unfold toldOk at h
  rw [Bool.and_eq_true] at h
  exact ⟨of_decide_eq_true h.1, List.all_eq_true.mp h.2⟩
theorem sizesOk_ok {size most : Int} (h : sizesOk size most = true) : 1 ≤ size ∧ size ≤ 8 ∧ 0 ≤ most ∧ most ≤ 9 := of_decide_eq_true h
theorem shp_eF {f : Fact} (h : PyData.strOk f.word = true) : shp 1 (eF f) := shp_tup fun d hd => by
  simp only [List.mem_cons, List.not_mem_nil, or_false] at hd
  rcases hd with rfl | rfl | rfl | rfl
  · exact shp_str h
  · exact shp_int _
  · exact shp_int _
  · exact shp_int _
theorem shp_eFs {l : List Fact} (h : ∀ f ∈ l, PyData.strOk f.word = true) : shp 2 (eFs l) := shp_list fun d hd => by
  obtain ⟨f, hf, rfl⟩ := List.mem_map.mp hd
  exact shp_eF (h f hf)
/-- in the two words -/
theorem inD_words {x : Str} {q : Bool → Prop} (h : q (isWord x)) : inD (.str x) (.tuple [.str "greatest", .str "least"]) q := by
  refine ⟨["greatest", "least"], rfl, ?_⟩
  have : (["greatest", "least"] : List Str).any (fun z => z == x) = isWord x := by
    unfold isWord
    simp only [List.any_cons, List.any_nil, Bool.or_false, str_beq]
    congr 1 <;> (rw [decide_eq_decide]; exact eq_comm)
  rw [this]; exact h
theorem all_map_dec {α : Type} (p : α → Bool) (l : List α) : (l.map p).all id = l.all p := by rw [List.all_map]; rfl
end WB
namespace WB
open PySem PySem.Spec L2
/-! ### list(range(n)) -/
theorem rp_rg {K : PySem.W.Frag} {H : Hp} (a b : Int) : RpAll K H (rgV a b) (rngD a (b - a).toNat) := by
  have : ∀ l : List Nat, RpAll K H (l.map fun i : Nat => V.int (a + (i : Nat))) (l.map fun i : Nat => PyData.int (a + (i : Int))) := by
    intro l
    induction l with
    | nil => exact .nil
    | cons x r ih => exact .cons (.int _) ih
  exact this _
theorem df_lrg1 {K : PySem.W.Frag} {EX : EXT} {ek : Kd → Value} {tw : Bool} {ta : TE} {fa : Rho → W D} (ha : DT K EX ek tw ta fa) :
    DF K EX ek tw (tLstRg (tRg1 ta)) (fun ρ => wbind (fa ρ) fun x => wop fun q => asInt x fun j => -1000000 ≤ j ∧ j ≤ 1000000 ∧ q (rngD 0 j.toNat)) := by
  intro P T n H σ ρ Qd Ed Q hT s hf hq he
  refine ha P T n H σ ρ _ Ed _ hT s hf (fun x n1 vx H1 q1 p1 r1 => ?_) he
  have s1 := s.step p1
  cases r1 with
  | int j =>
    obtain ⟨h1, h2, h3⟩ := q1
    refine ⟨j, rfl, ⟨by omega, by omega, by omega, by omega, by omega⟩, fun p hp => ?_⟩
    have r : RpAll K (hide P H1) (rgV 0 j) (rngD 0 j.toNat) := by
      have := rp_rg (K := K) (H := hide P H1) 0 j
      rw [Int.sub_zero] at this; exact this
    exact hq _ n1 p _ _ h3 (p1.trans (.same s1.tw (same_new hp))) (s.back p1 hp) upd_same (new_f hp r)
  | _ => exact q1.elim
end WB
set_option Elab.async false
set_option linter.all false
set_option maxRecDepth 100000
set_option maxHeartbeats 2000000
/-! Part N: more plain rules. -/
namespace WB
open PySem PySem.Spec L2
theorem minD_two {i j : Int} {q : D → Prop} (h : q (.int (min i j))) : minD [.int i, .int j] q := .inr ⟨i, j, rfl, h⟩
theorem maxD_two {i j : Int} {q : D → Prop} (h : q (.int (max i j))) : maxD [.int i, .int j] q := .inr ⟨i, j, rfl, h⟩
theorem eqv_bool (a b : Bool) : PyData.eqv (.bool a) (.bool b) = (a == b) := by cases a <;> cases b <;> rfl
theorem eqD_bools {a b : Bool} {q : D → Prop} (h : q (.bool (a == b))) : eqD (.bool a) (.bool b) q := ⟨(shp_bool a (k := 0)).ok, (shp_bool b (k := 0)).ok, by rw [eqv_bool]; exact h⟩
end WB
namespace WB
open PySem PySem.Spec L2
/-! ### a conditional as a test -/
section
variable {X : Cx}
def tIfT (tc ta tb : TT) : TT := fun σ H Q => tc σ H fun c H1 => if c = true then ta σ H1 Q else tb σ H1 Q
theorem pt_if {c a b : Expr} {tc ta tb : TT} {pos : Pos} (hc : PT X c tc) (ha : PT X a ta) (hb : PT X b tb) : PT X (.IfExp c a b pos) (tIfT tc ta tb) := by
  refine ⟨fun pins s σ H Q I h => ?_⟩
  rw [arm_isTrue_IfExp]
  refine wpAny_bind (thn (hc.run pins s σ H _ I h) fun d s1 ⟨H1, I1, q1⟩ => ?_)
  cases d with
  | true => exact ha.run pins s1 σ H1 Q I1 q1
  | false => exact hb.run pins s1 σ H1 Q I1 q1
end
section
variable {K : PySem.W.Frag} {EX : EXT} {ek : Kd → Value} {tw : Bool} {t u v : TT} {ft fu fv : Rho → W Bool}
theorem db_if (h : DB K EX ek tw t ft) (h2 : DB K EX ek tw u fu) (h3 : DB K EX ek tw v fv) : DB K EX ek tw (tIfT t u v) (fun ρ => wbind (ft ρ) fun b => bif b then fu ρ else fv ρ) := by
  intro P T n H σ ρ Qd Ed Q hT s hf hq he
  refine h P T n H σ ρ _ Ed _ hT s hf (fun b n1 H1 q1 p1 => ?_) he
  cases b with
  | true => exact iteT (h2 P T n1 H1 σ ρ _ Ed _ hT (s.step p1) q1 (fun c n2 H2 q2 p2 => hq c n2 H2 q2 (p1.trans p2)) fun k n' H' a b => he k n' H' a (p1.trans b))
  | false => exact iteF (h3 P T n1 H1 σ ρ _ Ed _ hT (s.step p1) q1 (fun c n2 H2 q2 p2 => hq c n2 H2 q2 (p1.trans p2)) fun k n' H' a b => he k n' H' a (p1.trans b))
end
end WB
namespace WB
open PySem PySem.Spec L2
theorem toldOk_of {size most : Int} {told : List Fact} (h1 : told.length ≤ 6) (h2 : ∀ f ∈ told, isF size most f = true) : toldOk size most told = true := by
  unfold toldOk
  rw [decide_eq_true h1, Bool.true_and]
  exact List.all_eq_true.mpr h2
theorem sizesOk_of {size most : Int} (h : 1 ≤ size ∧ size ≤ 8 ∧ 0 ≤ most ∧ most ≤ 9) : sizesOk size most = true := decide_eq_true h
theorem strOks {size most : Int} {told : List Fact} (h2 : ∀ f ∈ told, isF size most f = true) : ∀ f ∈ told, PyData.strOk f.word = true := fun f hf => isWord_ok (isF_ok (h2 f hf)).1
end WB
namespace WB
open PySem PySem.Spec L2
theorem cut_last {α : Type} (xs : List α) : cutG xs none (some (-1)) = xs.take (xs.length - 1) := by
  unfold cutG
  rw [HT.sIx_none, List.drop_zero, Nat.sub_zero]
  congr 1
  show HT.sIx xs.length xs.length (some (-1)) = _
  simp only [HT.sIx]
  split <;> omega
end WB
set_option Elab.async false
set_option linter.all false
set_option maxRecDepth 100000
set_option maxHeartbeats 4000000
namespace WB
open PySem PySem.Spec L2
def top (i : Nat) : Stmt := PySem.Challenge.pw_windowback_k91_whole_two_at_once.main.body.getD i (.Pass ⟨0, 0, 0, 0⟩)
abbrev s_look_sizes : Stmt := top 12
abbrev N_look_sizes : List Str := ["size", "most"]
theorem sc_look_sizes : FnScope N_look_sizes ["size", "most"] (defScope s_look_sizes) := ⟨rfl, rfl, rfl, by decide +kernel, rfl, by decide +kernel, by decide +kernel⟩
abbrev s_look_row : Stmt := top 13
abbrev N_look_row : List Str := ["row", "worth"]
theorem sc_look_row : FnScope N_look_row ["row"] (defScope s_look_row) := ⟨rfl, rfl, rfl, by decide +kernel, rfl, by decide +kernel, by decide +kernel⟩
abbrev s_is_fact : Stmt := top 17
abbrev N_is_fact : List Str := ["size", "most", "fact"]
theorem sc_is_fact : FnScope N_is_fact ["size", "most", "fact"] (defScope s_is_fact) := ⟨rfl, rfl, rfl, by decide +kernel, rfl, by decide +kernel, by decide +kernel⟩
abbrev s_look_told : Stmt := top 18
abbrev N_look_told : List Str := ["size", "most", "told", "fact"]
theorem sc_look_told : FnScope N_look_told ["size", "most", "told"] (defScope s_look_told) := ⟨rfl, rfl, rfl, by decide +kernel, rfl, by decide +kernel, by decide +kernel⟩
abbrev s_worth_of : Stmt := top 19
abbrev N_worth_of : List Str := ["row", "fact", "some"]
theorem sc_worth_of : FnScope N_worth_of ["row", "fact"] (defScope s_worth_of) := ⟨rfl, rfl, rfl, by decide +kernel, rfl, by decide +kernel, by decide +kernel⟩
abbrev s_keeps : Stmt := top 20
abbrev N_keeps : List Str := ["row", "told", "fact"]
theorem sc_keeps : FnScope N_keeps ["row", "told"] (defScope s_keeps) := ⟨rfl, rfl, rfl, by decide +kernel, rfl, by decide +kernel, by decide +kernel⟩
abbrev s_is_row_of : Stmt := top 21
abbrev N_is_row_of : List Str := ["size", "most", "row", "worth"]
theorem sc_is_row_of : FnScope N_is_row_of ["size", "most", "row"] (defScope s_is_row_of) := ⟨rfl, rfl, rfl, by decide +kernel, rfl, by decide +kernel, by decide +kernel⟩
abbrev s_broken : Stmt := top 22
abbrev N_broken : List Str := ["size", "most", "told", "row", "k"]
theorem sc_broken : FnScope N_broken ["size", "most", "told", "row"] (defScope s_broken) := ⟨rfl, rfl, rfl, by decide +kernel, rfl, by decide +kernel, by decide +kernel⟩
abbrev s_bounds : Stmt := top 23
abbrev N_bounds : List Str := ["size", "most", "told", "found", "place", "here", "low", "high", "fact"]
theorem sc_bounds : FnScope N_bounds ["size", "most", "told"] (defScope s_bounds) := ⟨rfl, rfl, rfl, by decide +kernel, rfl, by decide +kernel, by decide +kernel⟩
abbrev s_tally : Stmt := top 26
abbrev N_tally : List Str := ["size", "most", "told"]
theorem sc_tally : FnScope N_tally ["size", "most", "told"] (defScope s_tally) := ⟨rfl, rfl, rfl, by decide +kernel, rfl, by decide +kernel, by decide +kernel⟩
abbrev s_how_many : Stmt := top 27
abbrev N_how_many : List Str := ["size", "most", "told"]
theorem sc_how_many : FnScope N_how_many ["size", "most", "told"] (defScope s_how_many) := ⟨rfl, rfl, rfl, by decide +kernel, rfl, by decide +kernel, by decide +kernel⟩
abbrev s_row_at : Stmt := top 28
abbrev N_row_at : List Str := ["size", "most", "told", "number", "counter"]
theorem sc_row_at : FnScope N_row_at ["size", "most", "told", "number"] (defScope s_row_at) := ⟨rfl, rfl, rfl, by decide +kernel, rfl, by decide +kernel, by decide +kernel⟩
abbrev s_row_by : Stmt := top 29
abbrev N_row_by : List Str := ["counter", "number", "row", "held", "worth", "one", "some"]
theorem sc_row_by : FnScope N_row_by ["counter", "number"] (defScope s_row_by) := ⟨rfl, rfl, rfl, by decide +kernel, rfl, by decide +kernel, by decide +kernel⟩
abbrev s_number_of : Stmt := top 30
abbrev N_number_of : List Str := ["size", "most", "told", "row", "counter", "found", "held", "place", "less", "worth", "one"]
theorem sc_number_of : FnScope N_number_of ["size", "most", "told", "row"] (defScope s_number_of) := ⟨rfl, rfl, rfl, by decide +kernel, rfl, by decide +kernel, by decide +kernel⟩
abbrev s_may : Stmt := top 31
abbrev N_may : List Str := ["size", "most", "told", "place", "found", "worth"]
theorem sc_may : FnScope N_may ["size", "most", "told", "place"] (defScope s_may) := ⟨rfl, rfl, rfl, by decide +kernel, rfl, by decide +kernel, by decide +kernel⟩
abbrev s_sure : Stmt := top 32
abbrev N_sure : List Str := ["size", "most", "told", "found", "place", "some", "worth"]
theorem sc_sure : FnScope N_sure ["size", "most", "told"] (defScope s_sure) := ⟨rfl, rfl, rfl, by decide +kernel, rfl, by decide +kernel, by decide +kernel⟩
abbrev s_parts : Stmt := top 34
abbrev N_parts : List Str := ["count", "size", "found", "k", "longer", "some", "one"]
theorem sc_parts : FnScope N_parts ["count", "size"] (defScope s_parts) := ⟨rfl, rfl, rfl, by decide +kernel, rfl, by decide +kernel, by decide +kernel⟩
abbrev s_has_row : Stmt := top 35
abbrev N_has_row : List Str := ["size", "most", "told"]
theorem sc_has_row : FnScope N_has_row ["size", "most", "told"] (defScope s_has_row) := ⟨rfl, rfl, rfl, by decide +kernel, rfl, by decide +kernel, by decide +kernel⟩
abbrev s_clash : Stmt := top 36
abbrev N_clash : List Str := ["size", "most", "told", "count", "some", "k"]
theorem sc_clash : FnScope N_clash ["size", "most", "told"] (defScope s_clash) := ⟨rfl, rfl, rfl, by decide +kernel, rfl, by decide +kernel, by decide +kernel⟩
abbrev s_is_clash : Stmt := top 37
abbrev N_is_clash : List Str := ["size", "most", "told", "some", "k", "j"]
theorem sc_is_clash : FnScope N_is_clash ["size", "most", "told", "some"] (defScope s_is_clash) := ⟨rfl, rfl, rfl, by decide +kernel, rfl, by decide +kernel, by decide +kernel⟩
abbrev s_left_out : Stmt := top 38
abbrev N_left_out : List Str := ["size", "most", "told", "count", "some", "k"]
theorem sc_left_out : FnScope N_left_out ["size", "most", "told"] (defScope s_left_out) := ⟨rfl, rfl, rfl, by decide +kernel, rfl, by decide +kernel, by decide +kernel⟩
abbrev s_least_cost : Stmt := top 40
abbrev N_least_cost : List Str := ["size", "most", "told"]
theorem sc_least_cost : FnScope N_least_cost ["size", "most", "told"] (defScope s_least_cost) := ⟨rfl, rfl, rfl, by decide +kernel, rfl, by decide +kernel, by decide +kernel⟩
abbrev s_mended : Stmt := top 41
abbrev N_mended : List Str := ["size", "most", "told", "mender", "row", "so_far", "place", "costs", "worth"]
theorem sc_mended : FnScope N_mended ["size", "most", "told"] (defScope s_mended) := ⟨rfl, rfl, rfl, by decide +kernel, rfl, by decide +kernel, by decide +kernel⟩
abbrev s_first_row : Stmt := top 42
abbrev N_first_row : List Str := ["size", "most", "told", "counter"]
theorem sc_first_row : FnScope N_first_row ["size", "most", "told"] (defScope s_first_row) := ⟨rfl, rfl, rfl, by decide +kernel, rfl, by decide +kernel, by decide +kernel⟩
abbrev s_look_fact : Stmt := top 44
abbrev N_look_fact : List Str := ["size", "most", "told", "fact"]
theorem sc_look_fact : FnScope N_look_fact ["size", "most", "told", "fact"] (defScope s_look_fact) := ⟨rfl, rfl, rfl, by decide +kernel, rfl, by decide +kernel, by decide +kernel⟩
abbrev s_worths : Stmt := top 45
abbrev N_worths : List Str := ["size", "most", "told", "word", "first", "last"]
theorem sc_worths : FnScope N_worths ["size", "most", "told", "word", "first", "last"] (defScope s_worths) := ⟨rfl, rfl, rfl, by decide +kernel, rfl, by decide +kernel, by decide +kernel⟩
abbrev s_may_worths : Stmt := top 46
abbrev N_may_worths : List Str := ["size", "most", "told", "word", "first", "last", "some", "worth"]
theorem sc_may_worths : FnScope N_may_worths ["size", "most", "told", "word", "first", "last"] (defScope s_may_worths) := ⟨rfl, rfl, rfl, by decide +kernel, rfl, by decide +kernel, by decide +kernel⟩
abbrev s_follows : Stmt := top 47
abbrev N_follows : List Str := ["size", "most", "told", "fact"]
theorem sc_follows : FnScope N_follows ["size", "most", "told", "fact"] (defScope s_follows) := ⟨rfl, rfl, rfl, by decide +kernel, rfl, by decide +kernel, by decide +kernel⟩
abbrev s_does_follow : Stmt := top 48
abbrev N_does_follow : List Str := ["size", "most", "told", "fact", "worth"]
theorem sc_does_follow : FnScope N_does_follow ["size", "most", "told", "fact"] (defScope s_does_follow) := ⟨rfl, rfl, rfl, by decide +kernel, rfl, by decide +kernel, by decide +kernel⟩
abbrev s_parting : Stmt := top 49
abbrev N_parting : List Str := ["size", "most", "told", "fact", "rows", "worth", "counter"]
theorem sc_parting : FnScope N_parting ["size", "most", "told", "fact"] (defScope s_parting) := ⟨rfl, rfl, rfl, by decide +kernel, rfl, by decide +kernel, by decide +kernel⟩
abbrev s_needless : Stmt := top 50
abbrev N_needless : List Str := ["size", "most", "told", "k"]
theorem sc_needless : FnScope N_needless ["size", "most", "told"] (defScope s_needless) := ⟨rfl, rfl, rfl, by decide +kernel, rfl, by decide +kernel, by decide +kernel⟩
abbrev s_lessened : Stmt := top 51
abbrev N_lessened : List Str := ["size", "most", "told", "left", "k"]
theorem sc_lessened : FnScope N_lessened ["size", "most", "told"] (defScope s_lessened) := ⟨rfl, rfl, rfl, by decide +kernel, rfl, by decide +kernel, by decide +kernel⟩
abbrev s_are_alike : Stmt := top 52
abbrev N_are_alike : List Str := ["size", "most", "one", "other", "fact"]
theorem sc_are_alike : FnScope N_are_alike ["size", "most", "one", "other"] (defScope s_are_alike) := ⟨rfl, rfl, rfl, by decide +kernel, rfl, by decide +kernel, by decide +kernel⟩
abbrev s_first_apart : Stmt := top 53
abbrev N_first_apart : List Str := ["size", "most", "one", "other", "both", "rows", "found"]
theorem sc_first_apart : FnScope N_first_apart ["size", "most", "one", "other"] (defScope s_first_apart) := ⟨rfl, rfl, rfl, by decide +kernel, rfl, by decide +kernel, by decide +kernel⟩
abbrev s_row_without : Stmt := top 54
abbrev N_row_without : List Str := ["size", "most", "one", "other", "rows", "fact", "worth", "counter"]
theorem sc_row_without : FnScope N_row_without ["size", "most", "one", "other"] (defScope s_row_without) := ⟨rfl, rfl, rfl, by decide +kernel, rfl, by decide +kernel, by decide +kernel⟩
abbrev s_written : Stmt := top 56
abbrev N_written : List Str := ["size", "most", "told", "words", "word", "first", "last", "worth"]
theorem sc_written : FnScope N_written ["size", "most", "told"] (defScope s_written) := ⟨rfl, rfl, rfl, by decide +kernel, rfl, by decide +kernel, by decide +kernel⟩
abbrev s_law_cell : Stmt := top 58
abbrev N_law_cell : List Str := ["_law_script", "_law_k"]
theorem sc_law_cell : FnScope N_law_cell ["_law_script", "_law_k"] (defScope s_law_cell) := ⟨rfl, rfl, rfl, by decide +kernel, rfl, by decide +kernel, by decide +kernel⟩
abbrev s_law_mix : Stmt := top 59
abbrev N_law_mix : List Str := ["_law_script", "_law_k", "_law_number"]
theorem sc_law_mix : FnScope N_law_mix ["_law_script", "_law_k"] (defScope s_law_mix) := ⟨rfl, rfl, rfl, by decide +kernel, rfl, by decide +kernel, by decide +kernel⟩
abbrev s_law_draw : Stmt := top 60
abbrev N_law_draw : List Str := ["_law_script", "_law_town", "_law_many"]
theorem sc_law_draw : FnScope N_law_draw ["_law_script", "_law_town", "_law_many"] (defScope s_law_draw) := ⟨rfl, rfl, rfl, by decide +kernel, rfl, by decide +kernel, by decide +kernel⟩
abbrev s_law_pick : Stmt := top 61
abbrev N_law_pick : List Str := ["_law_script", "_law_town", "_law_some"]
theorem sc_law_pick : FnScope N_law_pick ["_law_script", "_law_town", "_law_some"] (defScope s_law_pick) := ⟨rfl, rfl, rfl, by decide +kernel, rfl, by decide +kernel, by decide +kernel⟩
abbrev s_law_refusal : Stmt := top 62
abbrev N_law_refusal : List Str := ["_law_caught", "_law_kinds", "_law_words"]
theorem sc_law_refusal : FnScope N_law_refusal ["_law_caught"] (defScope s_law_refusal) := ⟨rfl, rfl, rfl, by decide +kernel, rfl, by decide +kernel, by decide +kernel⟩
abbrev s_law_one_b : Stmt := top 63
abbrev N_law_one_b : List Str := ["_law_kind", "_law_some", "_law_size", "_law_most", "_law_told_here", "_law_fact", "_law_number"]
theorem sc_law_one_b : FnScope N_law_one_b ["_law_kind", "_law_some"] (defScope s_law_one_b) := ⟨rfl, rfl, rfl, by decide +kernel, rfl, by decide +kernel, by decide +kernel⟩
abbrev s_law_one : Stmt := top 64
abbrev N_law_one : List Str := ["_law_kind", "_law_some", "_law_size", "_law_most", "_law_told_here", "_law_row", "_law_number"]
theorem sc_law_one : FnScope N_law_one ["_law_kind", "_law_some"] (defScope s_law_one) := ⟨rfl, rfl, rfl, by decide +kernel, rfl, by decide +kernel, by decide +kernel⟩
abbrev s_law_told : Stmt := top 65
abbrev N_law_told : List Str := ["_law_kind", "_law_some", "_law_caught", "_law_found", "e"]
theorem sc_law_told : FnScope N_law_told ["_law_kind", "_law_some"] (defScope s_law_told) := ⟨rfl, rfl, rfl, by decide +kernel, rfl, by decide +kernel, by decide +kernel⟩
abbrev s_law : Stmt := top 66
abbrev N_law : List Str := ["_law_script", "_law_town", "_law_size", "_law_most", "_law_sizes", "_law_fact", "_law_good", "_law_told_here", "_law_row", "_law_number", "_law_kind", "_law_some"]
theorem sc_law : FnScope N_law ["_law_script"] (defScope s_law) := ⟨rfl, rfl, rfl, by decide +kernel, rfl, by decide +kernel, by decide +kernel⟩
structure Tx (K : PySem.W.Frag) (mg : Str → Option Value) (ec : Kd → Addr) (wa CB : Addr) : Prop where
  look_sizes : Df K mg "look_sizes" s_look_sizes ["size", "most"]
  look_row : Df K mg "look_row" s_look_row ["row"]
  is_fact : Df K mg "is_fact" s_is_fact ["size", "most", "fact"]
  look_told : Df K mg "look_told" s_look_told ["size", "most", "told"]
  worth_of : Df K mg "worth_of" s_worth_of ["row", "fact"]
  keeps : Df K mg "keeps" s_keeps ["row", "told"]
  is_row_of : Df K mg "is_row_of" s_is_row_of ["size", "most", "row"]
  broken : Df K mg "broken" s_broken ["size", "most", "told", "row"]
  bounds : Df K mg "bounds" s_bounds ["size", "most", "told"]
  tally : Df K mg "tally" s_tally ["size", "most", "told"]
  how_many : Df K mg "how_many" s_how_many ["size", "most", "told"]
  row_at : Df K mg "row_at" s_row_at ["size", "most", "told", "number"]
  row_by : Df K mg "row_by" s_row_by ["counter", "number"]
  number_of : Df K mg "number_of" s_number_of ["size", "most", "told", "row"]
  may : Df K mg "may" s_may ["size", "most", "told", "place"]
  sure : Df K mg "sure" s_sure ["size", "most", "told"]
  parts : Df K mg "parts" s_parts ["count", "size"]
  has_row : Df K mg "has_row" s_has_row ["size", "most", "told"]
  clash : Df K mg "clash" s_clash ["size", "most", "told"]
  is_clash : Df K mg "is_clash" s_is_clash ["size", "most", "told", "some"]
  left_out : Df K mg "left_out" s_left_out ["size", "most", "told"]
  least_cost : Df K mg "least_cost" s_least_cost ["size", "most", "told"]
  mended : Df K mg "mended" s_mended ["size", "most", "told"]
  first_row : Df K mg "first_row" s_first_row ["size", "most", "told"]
  look_fact : Df K mg "look_fact" s_look_fact ["size", "most", "told", "fact"]
  worths : Df K mg "worths" s_worths ["size", "most", "told", "word", "first", "last"]
  may_worths : Df K mg "may_worths" s_may_worths ["size", "most", "told", "word", "first", "last"]
  follows : Df K mg "follows" s_follows ["size", "most", "told", "fact"]
  does_follow : Df K mg "does_follow" s_does_follow ["size", "most", "told", "fact"]
  parting : Df K mg "parting" s_parting ["size", "most", "told", "fact"]
  needless : Df K mg "needless" s_needless ["size", "most", "told"]
  lessened : Df K mg "lessened" s_lessened ["size", "most", "told"]
  are_alike : Df K mg "are_alike" s_are_alike ["size", "most", "one", "other"]
  first_apart : Df K mg "first_apart" s_first_apart ["size", "most", "one", "other"]
  row_without : Df K mg "row_without" s_row_without ["size", "most", "one", "other"]
  written : Df K mg "written" s_written ["size", "most", "told"]
  law_cell : Df K mg "_law_cell" s_law_cell ["_law_script", "_law_k"]
  law_mix : Df K mg "_law_mix" s_law_mix ["_law_script", "_law_k"]
  law_draw : Df K mg "_law_draw" s_law_draw ["_law_script", "_law_town", "_law_many"]
  law_pick : Df K mg "_law_pick" s_law_pick ["_law_script", "_law_town", "_law_some"]
  law_refusal : Df K mg "_law_refusal" s_law_refusal ["_law_caught"]
  law_one_b : Df K mg "_law_one_b" s_law_one_b ["_law_kind", "_law_some"]
  law_one : Df K mg "_law_one" s_law_one ["_law_kind", "_law_some"]
  law_told : Df K mg "_law_told" s_law_told ["_law_kind", "_law_some"]
  law : Df K mg "law" s_law ["_law_script"]
  b_ValueError : mg "ValueError" = none
  b_all : mg "all" = none
  b_isinstance : mg "isinstance" = none
  b_len : mg "len" = none
  b_list : mg "list" = none
  b_max : mg "max" = none
  b_min : mg "min" = none
  b_range : mg "range" = none
  b_str : mg "str" = none
  x_BadRow : ExcK K mg (ekOf ec) .row "BadRow" (ec .row)
  x_BadStretch : ExcK K mg (ekOf ec) .stretch "BadStretch" (ec .stretch)
  x_BadSize : ExcK K mg (ekOf ec) .size "BadSize" (ec .size)
  x_BadTold : ExcK K mg (ekOf ec) .told "BadTold" (ec .told)
  x_NoRow : ExcK K mg (ekOf ec) .norow "NoRow" (ec .norow)
  x_BadNumber : ExcK K mg (ekOf ec) .number "BadNumber" (ec .number)
  x_BadText : ExcK K mg (ekOf ec) .text "BadText" (ec .text)
  x_BackError : mg "BackError" = some (.ref CB)
  xt : ExcT K ec CB
  c_MOST_SIZE : ∃ t, mg "MOST_SIZE" = some (.int 8 t)
  c_MOST_WORTH : ∃ t, mg "MOST_WORTH" = some (.int 9 t)
  c_MOST_TOLD : ∃ t, mg "MOST_TOLD" = some (.int 6 t)
  c_WORDS : mg "WORDS" = some (.ref wa) ∧ ∀ H, Rp K H (.ref wa) (.tuple [.str "greatest", .str "least"])
end WB
set_option Elab.async false
set_option linter.all false
set_option maxRecDepth 100000
set_option maxHeartbeats 4000000
namespace WB
open PySem PySem.Spec L2
local macro_rules | `(tactic| walk_at "wb") => `(tactic| first | simp (config := { dsimp := false }) only [cond_app, seqF, wbind, wret, wop, getV, ini, opn, Bool.cond_true, Bool.cond_false, cond_true, cond_false, List.map_cons, List.map_nil, List.cons_append, List.nil_append, List.replicate_succ, List.replicate_zero, List.append_nil, List.getElem?_cons_zero, List.getElem?_cons_succ, asBool, asList, asInt, addD, intD, intD0, lenD, truD, ixD, slD, isNo, isNoD, isNotNoD, negD, rng1D, rng2D, listD, tupD, wipeR, eR, eRs, getO, frz, mulD, List.set_cons_zero, List.set_cons_succ, tg1] | skip)
local macro_rules | `(tactic| walk_at "ws") => `(tactic| first | simp only [cond_prop, decide_eq_true_eq, decide_eq_false_iff_not, Bool.not_eq_true', Bool.not_eq_false', Bool.and_eq_true, Bool.and_eq_false_iff, Bool.or_eq_true, Bool.or_eq_false_iff, len_ints, List.length_map, true_implies, false_implies, and_true, true_and, reduceCtorEq, Bool.not_true, Bool.not_false, forall_const, Bool.false_eq_true, Bool.true_eq_false] | skip)
local macro_rules | `(tactic| walk_at "wo") => `(tactic| first | simp only [out_ok, out_err] | skip)
local macro_rules | `(tactic| walk_at "w1") => `(tactic| first | simp (config := { dsimp := false }) only [cond_app, wbind, wret, wop, getV, ini, opn, Bool.cond_true, Bool.cond_false, cond_true, cond_false, List.map_cons, List.map_nil, List.cons_append, List.nil_append, List.replicate_succ, List.replicate_zero, List.append_nil, List.getElem?_cons_zero, List.getElem?_cons_succ, asBool, asList, asInt, addD, intD, intD0, lenD, truD, ixD, slD, isNo, isNoD, isNotNoD, negD, rng1D, rng2D, listD, tupD, wipeR, eR, eRs, getO, frz, mulD, List.set_cons_zero, List.set_cons_succ, tg1] | skip)
local macro_rules | `(tactic| walk_at "wn") => `(tactic| (refine seqI ?_; first | simp (config := { dsimp := false }) only [cond_app, wbind, wret, wop, getV, ini, opn, Bool.cond_true, Bool.cond_false, cond_true, cond_false, List.map_cons, List.map_nil, List.cons_append, List.nil_append, List.replicate_succ, List.replicate_zero, List.append_nil, List.getElem?_cons_zero, List.getElem?_cons_succ, asBool, asList, asInt, addD, intD, intD0, lenD, truD, ixD, slD, isNo, isNoD, isNotNoD, negD, rng1D, rng2D, listD, tupD, wipeR, eR, eRs, getO, frz, mulD, List.set_cons_zero, List.set_cons_succ, tg1] | skip))
section
variable {P : Program} {w : World} {K : PySem.W.Frag} {mg : Str → Option Value} {base : Heap} {ec : Kd → Addr} {wa CB : Addr}
def o_look_sizes (size most : Int) : Except Kd D := if sizesOk size most = true then .ok .none else .error .size
def F_look_sizes : List D → W D := fun ds Q E n => ∃ size most : Int, ds = [.int size, .int most] ∧ out (o_look_sizes size most) Q E n
theorem r_look_sizes (T : Tx K mg ec wa CB) : Rd P w K mg base "look_sizes" 1 ["size", "most"] (spD K (ekOf ec) false 2 F_look_sizes) := by
  refine T.look_sizes.ok sc_look_sizes (r := 0) rfl rfl (fun f cdv A outer s H E hr => ?_)
  have tk := takes_of (X := cxOf (L2.CX P w) P w K mg base N_look_sizes "look_sizes" (defScope s_look_sizes) f cdv A outer s H E) (E := E) rfl rfl rfl rfl
  refine ⟨_, _, (pss_one (ps_if (PW.pt (pw_or (pt_not (pt_chain op_le op_le pe_int (pv 0) (pe_globI T.c_MOST_SIZE rfl))) (pw_or1 (pt_not (pt_chain op_le op_le pe_int (pv 1) (pe_globI T.c_MOST_WORTH rfl)))))) (pss_one (ps_raiseD T.x_BadSize rfl tk rfl)) pss_nil)), (dst_if (db_or (db_not (db_test (dt_chain dr_le dr_le dt_int dt_var dt_int))) (db_not (db_test (dt_chain dr_le dr_le dt_int dt_var dt_int)))) dst_rz dst_next), ?_⟩
  intro ds Qd Ed n hl hF
  obtain ⟨a, b, rfl, h⟩ := hF
  unfold o_look_sizes at h
  walk_at "wb"
  walk_at "ws"
  by_cases q : sizesOk a b = true
  · rw [if_pos q] at h
    have := sizesOk_ok q
    refine ⟨fun _ => ⟨fun _ => by omega, fun _ => ⟨fun _ => ⟨fun _ => by omega, fun _ => h⟩, fun _ => by omega⟩⟩, fun _ => by omega⟩
  · rw [if_neg q] at h
    have e : Ed .size n := h
    refine ⟨fun x => ⟨fun _ => e, fun y => ⟨fun z => ⟨fun _ => e, fun u => absurd (decide_eq_true (by omega)) q⟩, fun _ => e⟩⟩, fun _ => e⟩
def rowOk (row : List Int) : Bool := decide (1 ≤ row.length ∧ row.length ≤ 8) && row.all fun x => decide (0 ≤ x ∧ x ≤ 9)
def o_look_row (row : List Int) : Except Kd D := if rowOk row = true then .ok .none else .error .row
def F_look_row : List D → W D := fun ds Q E n => ∃ row : List Int, ds = [eR row] ∧ row.length ≤ 1000 ∧ out (o_look_row row) Q E n
theorem r_look_row (T : Tx K mg ec wa CB) : Rd P w K mg base "look_row" 1 ["row"] (spD K (ekOf ec) false 1 F_look_row) := by
  refine T.look_row.ok sc_look_row (r := 1) rfl rfl (fun f cdv A outer s H E hr => ?_)
  have tk := takes_of (X := cxOf (L2.CX P w) P w K mg base N_look_row "look_row" (defScope s_look_row) f cdv A outer s H E) (E := E) rfl rfl rfl rfl
  refine ⟨_, _, (pss_one (ps_if (PW.pt (pw_or (pt_not (pt_chain op_le op_le pe_int (pe_callB call_len (by rfl) T.b_len PySem.boot_len (pa_cons (pv 0) pa_nil)) (pe_globI T.c_MOST_SIZE rfl))) (pw_or1 (pt_not (pt_truth (pe_callB (cr_all rfl) (by rfl) T.b_all (by decide +kernel) (pa_cons (pe_lc (own := [("worth", 1)]) rfl sc_look_row.nd (pi_list (pv 0)) (blkOk_by (N := N_look_row) (sc := defScope s_look_row) (by decide +kernel)) (fun _ _ _ _ _ => (pg_name (i := 1) sc_look_row.nd rfl (Or.inl rfl))) (fun _ _ _ _ _ => pts_nil) (fun _ _ _ _ _ => (pe_chain op_le op_le pe_int (pv 1) (pe_globI T.c_MOST_WORTH rfl)))) pa_nil)) (by intro _; rfl)))))) (pss_one (ps_raiseD T.x_BadRow rfl tk rfl)) pss_nil)), (dst_if (db_or (db_not (db_test (dt_chain dr_le dr_le dt_int (dt_cb dc_len (da_cons dt_var da_nil)) dt_int))) (db_not (db_tru (dt_cb dc_all (da_cons (df_lc (di_list dt_var) (dg_name (by decide)) db_yes (dt_chain dr_le dr_le dt_int dt_var dt_int) (by decide)).dt da_nil))))) dst_rz dst_next), ?_⟩
  intro ds Qd Ed n hl hF
  obtain ⟨row, rfl, hlen, h⟩ := hF
  have h1 : rowOk row = true → Qd .none n := fun q => by rw [o_look_row, if_pos q] at h; exact h
  have h2 : rowOk row = false → Ed .row n := fun q => by rw [o_look_row, if_neg (by rw [q]; exact Bool.false_ne_true)] at h; exact h
  walk_at "wb"
  walk_at "ws"
  refine ⟨fun a => ⟨fun b => h2 (by unfold rowOk; rw [decide_eq_false (by omega)]; rfl), fun b => ⟨by omega, ?_⟩⟩, fun a => h2 (by unfold rowOk; rw [decide_eq_false (by omega)]; rfl)⟩
  refine lcL_m (fun x => .bool (decide (0 ≤ x ∧ x ≤ 9))) (fun x _ => ⟨_, rfl, fun Q E n h => ?_⟩) ⟨row.map fun x => decide (0 ≤ x ∧ x ≤ 9), by rw [List.map_map]; rfl, ?_⟩
  · walk_at "wb"
    walk_at "ws"
    refine ⟨fun a => ?_, fun a => ?_⟩
    · have e : decide (0 ≤ x ∧ x ≤ 9) = decide (x ≤ 9) := by simp [a]
      rw [e] at h; exact h
    · have e : decide (0 ≤ x ∧ x ≤ 9) = false := by simp [a]
      rw [e] at h; exact h
  · have e : ((row.map fun x => decide (0 ≤ x ∧ x ≤ 9)).all id) = row.all fun x => decide (0 ≤ x ∧ x ≤ 9) := by rw [List.all_map]; rfl
    rw [e]
    walk_at "wb"
    walk_at "ws"
    refine ⟨fun z => h2 (by unfold rowOk; rw [z, Bool.and_false]), fun z => h1 (by unfold rowOk; rw [z, decide_eq_true (by omega)]; rfl)⟩
def F_is_fact : List D → W D := fun ds Q _ n => ∃ (size most : Int) (f : Fact), ds = [.int size, .int most, eF f] ∧ Q (.bool (isF size most f)) n
theorem r_is_fact (T : Tx K mg ec wa CB) : Rd P w K mg base "is_fact" 1 ["size", "most", "fact"] (spD K (ekOf ec) false 3 F_is_fact) := by
  refine T.is_fact.ok sc_is_fact (r := 0) rfl rfl (fun f cdv A outer s H E hr => ?_)
  have tk := takes_of (X := cxOf (L2.CX P w) P w K mg base N_is_fact "is_fact" (defScope s_is_fact) f cdv A outer s H E) (E := E) rfl rfl rfl rfl
  refine ⟨_, _, (pss_cons (ps_if (PW.pt (pw_or (pt_cmpR (op_neD hr.units) (pe_callB call_len (by rfl) T.b_len PySem.boot_len (pa_cons (pv 2) pa_nil)) pe_int (nomark _)) (pw_or1 (pt_cmpR (op_notInG (hr65 hr)) (pe_ix ix_seq (pv 2) pe_int (fun _ _ => rfl)) (pe_glob (v := .ref wa) rfl T.c_WORDS.1 rfl) rfl)))) (pss_one (ps_ret pe_bl)) pss_nil) (pss_one (ps_ret (pe_and (pe_chain3 op_le op_le op_lt pe_int (pe_ix ix_seq (pv 2) pe_int (fun _ _ => rfl)) (pe_ix ix_seq (pv 2) pe_int (fun _ _ => rfl)) (pv 0)) (pe_one (pe_chain op_le op_le pe_int (pe_ix ix_seq (pv 2) pe_int (fun _ _ => rfl)) (pv 1))))))), (dst_seq (dst_if (db_or (db_test (dt_op dr_ne (dt_cb dc_len (da_cons dt_var da_nil)) dt_int)) (db_test (dt_op dr_notIn (dt_op dr_ix dt_var dt_int) (dt_const T.c_WORDS.2)))) (dst_ret dt_bl) dst_next) (dst_ret (dt_andV (dt_chain3 dr_le dr_le dr_lt dt_int (dt_op dr_ix dt_var dt_int) (dt_op dr_ix dt_var dt_int) dt_var) (dt_chain dr_le dr_le dt_int (dt_op dr_ix dt_var dt_int) dt_var)))), ?_⟩
  intro ds Qd Ed n hl hF
  obtain ⟨size, most, f, rfl, h⟩ := hF
  walk_at "wb"
  unfold eF
  walk_at "wb"
  refine ⟨rfl, rfl, ?_⟩
  rw [eqv_int]
  walk_at "wb"
  refine ⟨_, atI_nat (j := 0) rfl, ?_⟩
  refine inD_words ?_
  walk_at "wb"
  walk_at "ws"
  unfold isF at h
  refine ⟨fun q => by rw [q, Bool.false_and] at h; exact h, fun q => ?_⟩
  rw [q, Bool.true_and] at h
  refine ⟨_, atI_nat (j := 1) rfl, ?_⟩
  walk_at "wb"
  walk_at "ws"
  refine ⟨fun h1 => ⟨_, atI_nat (j := 2) rfl, ?_⟩, fun h1 => by rw [decide_eq_false (by omega)] at h; exact h⟩
  walk_at "wb"
  walk_at "ws"
  refine ⟨fun h2 => ⟨fun h3 => ⟨_, atI_nat (j := 3) rfl, ?_⟩, fun h3 => by rw [decide_eq_false (by omega)] at h; exact h⟩, fun h2 => by rw [decide_eq_false (by omega)] at h; exact h⟩
  walk_at "wb"
  walk_at "ws"
  refine ⟨fun h4 => ?_, fun h4 => by rw [decide_eq_false (by omega)] at h; exact h⟩
  have e : decide (0 ≤ f.first ∧ f.first ≤ f.last ∧ f.last < size ∧ 0 ≤ f.worth ∧ f.worth ≤ most) = decide (f.worth ≤ most) := by simp [h1, h2, h3, h4]
  rw [e] at h; exact h
def o_look_told (size most : Int) (told : List Fact) : Except Kd D := if sizesOk size most = true then (if toldOk size most told = true then .ok .none else .error .told) else .error .size
def F_look_told : List D → W D := fun ds Q E n => ∃ (size most : Int) (told : List Fact), ds = [.int size, .int most, eFs told] ∧ told.length ≤ 1000 ∧ out (o_look_told size most told) Q E n
theorem r_look_told (T : Tx K mg ec wa CB) : Rd P w K mg base "look_told" 2 ["size", "most", "told"] (spD K (ekOf ec) false 3 F_look_told) := by
  refine T.look_told.ok sc_look_told (r := 1) rfl rfl (fun f cdv A outer s H E hr => ?_)
  have tk := takes_of (X := cxOf (L2.CX P w) P w K mg base N_look_told "look_told" (defScope s_look_told) f cdv A outer s H E) (E := E) rfl rfl rfl rfl
  refine ⟨_, _, (pss_cons (ps_expr (pe_callD (r_look_sizes T) (hr.mono (by decide)) rfl (pass_in tk) (pa_cons (pv 0) (pa_cons (pv 1) pa_nil)))) (pss_one (ps_if (PW.pt (pw_or (pt_cmpR op_gt (pe_callB call_len (by rfl) T.b_len PySem.boot_len (pa_cons (pv 2) pa_nil)) (pe_globI T.c_MOST_TOLD rfl) (nomark _)) (pw_or1 (pt_not (pt_truth (pe_callB (cr_all rfl) (by rfl) T.b_all (by decide +kernel) (pa_cons (pe_lc (own := [("fact", 3)]) rfl sc_look_told.nd (pi_list (pv 2)) (blkOk_by (N := N_look_told) (sc := defScope s_look_told) (by decide +kernel)) (fun _ _ _ _ _ => (pg_name (i := 3) sc_look_told.nd rfl (Or.inl rfl))) (fun _ _ _ _ _ => pts_nil) (fun _ _ _ _ _ => (pe_callD (r_is_fact T) (hr.mono (by decide)) rfl pass_blk (pa_cons (pv 0) (pa_cons (pv 1) (pa_cons (pv 3) pa_nil)))))) pa_nil)) (by intro _; rfl)))))) (pss_one (ps_raiseD T.x_BadTold rfl tk rfl)) pss_nil))), (dst_seq (dst_drop (dt_callP (da_cons dt_var (da_cons dt_var da_nil)))) (dst_if (db_or (db_test (dt_op dr_gt (dt_cb dc_len (da_cons dt_var da_nil)) dt_int)) (db_not (db_tru (dt_cb dc_all (da_cons (df_lc (di_list dt_var) (dg_name (by decide)) db_yes (dt_callP (da_cons dt_var (da_cons dt_var (da_cons dt_var da_nil)))) (by decide)).dt da_nil))))) dst_rz dst_next)), ?_⟩
  intro ds Qd Ed n hl hF
  obtain ⟨a, b, told, rfl, hlen, h⟩ := hF
  unfold o_look_told at h
  unfold eFs
  walk_at "wb"
  refine ⟨rfl, a, b, rfl, ?_⟩
  unfold o_look_sizes
  by_cases q : sizesOk a b = true
  · rw [if_pos q] at h ⊢
    walk_at "wo"
    walk_at "ws"
    refine ⟨fun h6 => ?_, fun h6 => ⟨by omega, ?_⟩⟩
    · rw [if_neg (by unfold toldOk; rw [decide_eq_false (by omega)]; simp)] at h
      exact h
    · refine lcL_m (fun f => .bool (isF a b f)) (fun f _ => ⟨_, rfl, fun Q E n h => ?_⟩) ⟨told.map (isF a b), by rw [List.map_map]; rfl, ?_⟩
      · walk_at "wb"
        exact ⟨rfl, a, b, f, rfl, h⟩
      · rw [all_map_dec]
        walk_at "wb"
        walk_at "ws"
        have e : toldOk a b told = told.all (isF a b) := by unfold toldOk; rw [decide_eq_true (by omega), Bool.true_and]
        rw [e] at h
        refine ⟨fun z => ?_, fun z => ?_⟩
        · rw [if_neg (by rw [z]; exact Bool.false_ne_true)] at h; exact h
        · rw [if_pos z] at h; exact h
  · rw [if_neg q] at h ⊢
    exact h
def F_worth_of : List D → W D := fun ds Q _ n => ∃ (row : List Int) (f : Fact), ds = [eR row, eF f] ∧ isWord f.word = true ∧ 0 ≤ f.first ∧ f.first ≤ f.last ∧ f.last < row.length ∧ Q (.int (wof row f)) n
theorem r_worth_of (T : Tx K mg ec wa CB) : Rd P w K mg base "worth_of" 1 ["row", "fact"] (spD K (ekOf ec) false 2 F_worth_of) := by
  refine T.worth_of.ok sc_worth_of (r := 1) rfl rfl (fun f cdv A outer s H E hr => ?_)
  have tk := takes_of (X := cxOf (L2.CX P w) P w K mg base N_worth_of "worth_of" (defScope s_worth_of) f cdv A outer s H E) (E := E) rfl rfl rfl rfl
  refine ⟨_, _, (pss_cons (ps_set (i := 2) sc_worth_of.nd rfl (Or.inl rfl) (pe_slice sl_G (pv 0) (po_some (pe_ix ix_seq (pv 1) pe_int (fun _ _ => rfl))) (po_some (pe_op op_addG (pe_ix ix_seq (pv 1) pe_int (fun _ _ => rfl)) pe_int)))) (pss_one (ps_ret (pe_ifExp (pt_cmpR (op_eqD hr.units) (pe_ix ix_seq (pv 1) pe_int (fun _ _ => rfl)) pe_str (nomark _)) (pe_callB (call_maxG rfl) (by rfl) T.b_max (by decide +kernel) (pa_cons (pv 2) pa_nil)) (pe_callB (call_minG rfl) (by rfl) T.b_min (by decide +kernel) (pa_cons (pv 2) pa_nil)))))), (dst_seq (dst_set (by decide) (dt_slice dt_var (do_some (dt_op dr_ix dt_var dt_int)) (do_some (dt_op dr_add (dt_op dr_ix dt_var dt_int) dt_int)))) (dst_ret (dt_if (db_test (dt_op dr_eq (dt_op dr_ix dt_var dt_int) dt_str)) (dt_cb dc_max (da_cons dt_var da_nil)) (dt_cb dc_min (da_cons dt_var da_nil))))), ?_⟩
  intro ds Qd Ed n hl hF
  obtain ⟨row, f, rfl, hw, h0, h1, h2, h⟩ := hF
  unfold eF
  walk_at "wb"
  refine ⟨_, atI_nat (j := 1) rfl, _, atI_nat (j := 2) rfl, ?_⟩
  walk_at "wb"
  refine ⟨_, atI_nat (j := 0) rfl, (shp_str (k := 0) (isWord_ok hw)).ok, (shp_str (k := 0) (by decide +kernel)).ok, ?_⟩
  rw [eqv_str, cutG_map]
  walk_at "wb"
  unfold wof at h
  walk_at "ws"
  refine ⟨fun e => maxD_ints (sl_ne h0 h1 h2) (by rw [if_pos e] at h; exact h), fun e => minD_ints (sl_ne h0 h1 h2) (by rw [if_neg e] at h; exact h)⟩
/-- the facts are of rows as long as this one -/
def fits (n : Int) (told : List Fact) : Prop := ∀ f ∈ told, isWord f.word = true ∧ 0 ≤ f.first ∧ f.first ≤ f.last ∧ f.last < n
theorem fits_of {size most : Int} {told : List Fact} (h : toldOk size most told = true) : fits size told := fun f hf => by
  obtain ⟨a, b, c, d, _⟩ := isF_ok ((toldOk_ok h).2 f hf)
  exact ⟨a, b, c, d⟩
def F_keeps : List D → W D := fun ds Q _ n => ∃ (row : List Int) (told : List Fact), ds = [eR row, eFs told] ∧ told.length ≤ 1000 ∧ fits row.length told ∧ Q (.bool (keepsB row told)) n
theorem r_keeps (T : Tx K mg ec wa CB) : Rd P w K mg base "keeps" 2 ["row", "told"] (spD K (ekOf ec) false 2 F_keeps) := by
  refine T.keeps.ok sc_keeps (r := 1) rfl rfl (fun f cdv A outer s H E hr => ?_)
  have tk := takes_of (X := cxOf (L2.CX P w) P w K mg base N_keeps "keeps" (defScope s_keeps) f cdv A outer s H E) (E := E) rfl rfl rfl rfl
  refine ⟨_, _, (pss_one (ps_ret (pe_callB (cr_all rfl) (by rfl) T.b_all (by decide +kernel) (pa_cons (pe_lc (own := [("fact", 2)]) rfl sc_keeps.nd (pi_list (pv 1)) (blkOk_by (N := N_keeps) (sc := defScope s_keeps) (by decide +kernel)) (fun _ _ _ _ _ => (pg_name (i := 2) sc_keeps.nd rfl (Or.inl rfl))) (fun _ _ _ _ _ => pts_nil) (fun _ _ _ _ _ => (pe_cmpR (op_eqD hr.units) (pe_callD (r_worth_of T) (hr.mono (by decide)) rfl pass_blk (pa_cons (pv 0) (pa_cons (pv 2) pa_nil))) (pe_ix ix_seq (pv 2) pe_int (fun _ _ => rfl)) (nomark _)))) pa_nil)))), (dst_ret (dt_cb dc_all (da_cons (df_lc (di_list dt_var) (dg_name (by decide)) db_yes (dt_op dr_eq (dt_callP (da_cons dt_var (da_cons dt_var da_nil))) (dt_op dr_ix dt_var dt_int)) (by decide)).dt da_nil))), ?_⟩
  intro ds Qd Ed n hl hF
  obtain ⟨row, told, rfl, hlen, hfit, h⟩ := hF
  unfold eFs
  walk_at "wb"
  refine ⟨by rw [List.length_map]; omega, ?_⟩
  refine lcL_m (fun f => .bool (decide (wof row f = f.worth))) (fun f hf => ⟨_, rfl, fun Q E n h => ?_⟩) ⟨told.map fun f => decide (wof row f = f.worth), by rw [List.map_map]; rfl, by rw [all_map_dec]; exact h⟩
  obtain ⟨a, b, c, d⟩ := hfit f hf
  walk_at "wb"
  refine ⟨rfl, row, f, rfl, a, b, c, d, ?_⟩
  unfold eF
  walk_at "wb"
  refine ⟨_, atI_nat (j := 3) rfl, rfl, rfl, ?_⟩
  rw [eqv_int]
  exact h
def F_is_row_of : List D → W D := fun ds Q _ n => ∃ (size most : Int) (row : List Int), ds = [.int size, .int most, eR row] ∧ row.length ≤ 1000 ∧ Q (.bool (isRowB size most row)) n
theorem r_is_row_of (T : Tx K mg ec wa CB) : Rd P w K mg base "is_row_of" 1 ["size", "most", "row"] (spD K (ekOf ec) false 3 F_is_row_of) := by
  refine T.is_row_of.ok sc_is_row_of (r := 1) rfl rfl (fun f cdv A outer s H E hr => ?_)
  have tk := takes_of (X := cxOf (L2.CX P w) P w K mg base N_is_row_of "is_row_of" (defScope s_is_row_of) f cdv A outer s H E) (E := E) rfl rfl rfl rfl
  refine ⟨_, _, (pss_one (ps_ret (pe_and (pe_cmpR (op_eqD hr.units) (pe_callB call_len (by rfl) T.b_len PySem.boot_len (pa_cons (pv 2) pa_nil)) (pv 0) (nomark _)) (pe_one (pe_callB (cr_all rfl) (by rfl) T.b_all (by decide +kernel) (pa_cons (pe_lc (own := [("worth", 3)]) rfl sc_is_row_of.nd (pi_list (pv 2)) (blkOk_by (N := N_is_row_of) (sc := defScope s_is_row_of) (by decide +kernel)) (fun _ _ _ _ _ => (pg_name (i := 3) sc_is_row_of.nd rfl (Or.inl rfl))) (fun _ _ _ _ _ => pts_nil) (fun _ _ _ _ _ => (pe_chain op_le op_le pe_int (pv 3) (pv 1)))) pa_nil)))))), (dst_ret (dt_andV (dt_op dr_eq (dt_cb dc_len (da_cons dt_var da_nil)) dt_var) (dt_cb dc_all (da_cons (df_lc (di_list dt_var) (dg_name (by decide)) db_yes (dt_chain dr_le dr_le dt_int dt_var dt_var) (by decide)).dt da_nil)))), ?_⟩
  intro ds Qd Ed n hl hF
  obtain ⟨size, most, row, rfl, hlen, h⟩ := hF
  walk_at "wb"
  refine ⟨rfl, rfl, ?_⟩
  rw [eqv_int, List.length_map]
  walk_at "wb"
  walk_at "ws"
  unfold isRowB at h
  refine ⟨fun e => ⟨by omega, ?_⟩, fun e => by rw [decide_eq_false e, Bool.false_and] at h; exact h⟩
  rw [decide_eq_true e, Bool.true_and] at h
  refine lcL_m (fun x => .bool (decide (0 ≤ x ∧ x ≤ most))) (fun x _ => ⟨_, rfl, fun Q E n h => ?_⟩) ⟨row.map fun x => decide (0 ≤ x ∧ x ≤ most), by rw [List.map_map]; rfl, by rw [all_map_dec]; exact h⟩
  walk_at "wb"
  walk_at "ws"
  refine ⟨fun a => ?_, fun a => ?_⟩
  · have e : decide (0 ≤ x ∧ x ≤ most) = decide (x ≤ most) := by simp [a]
    rw [e] at h; exact h
  · have e : decide (0 ≤ x ∧ x ≤ most) = false := by simp [a]
    rw [e] at h; exact h
def brk (row : List Int) (told : List Fact) : List Nat := (List.range told.length).filter fun k => (told[k]?).elim false fun f => decide (wof row f ≠ f.worth)
def eNs (l : List Nat) : D := .list (l.map fun k : Nat => .int (k : Int))
def o_broken (size most : Int) (told : List Fact) (row : List Int) : Except Kd D := match o_look_told size most told with
  | .error k => .error k
  | .ok _ => if rowOk row = true then .ok (eNs (if isRowB size most row = true then brk row told else List.range told.length)) else .error .row
def F_broken : List D → W D := fun ds Q E n => ∃ (size most : Int) (told : List Fact) (row : List Int), ds = [.int size, .int most, eFs told, eR row] ∧ told.length ≤ 1000 ∧ row.length ≤ 1000 ∧ out (o_broken size most told row) Q E n
theorem r_broken (T : Tx K mg ec wa CB) : Rd P w K mg base "broken" 3 ["size", "most", "told", "row"] (spD K (ekOf ec) false 4 F_broken) := by
  refine T.broken.ok sc_broken (r := 1) rfl rfl (fun f cdv A outer s H E hr => ?_)
  have tk := takes_of (X := cxOf (L2.CX P w) P w K mg base N_broken "broken" (defScope s_broken) f cdv A outer s H E) (E := E) rfl rfl rfl rfl
  refine ⟨_, _, (pss_cons (ps_expr (pe_callD (r_look_told T) (hr.mono (by decide)) rfl (pass_in tk) (pa_cons (pv 0) (pa_cons (pv 1) (pa_cons (pv 2) pa_nil))))) (pss_cons (ps_expr (pe_callD (r_look_row T) (hr.mono (by decide)) rfl (pass_in tk) (pa_cons (pv 3) pa_nil))) (pss_cons (ps_if (pt_not (pt_truth (pe_callD (r_is_row_of T) (hr.mono (by decide)) rfl (pass_in tk) (pa_cons (pv 0) (pa_cons (pv 1) (pa_cons (pv 3) pa_nil)))) (by intro _; rfl))) (pss_one (ps_ret (pe_listRg rfl (by rfl) T.b_list (prg_1 (by rfl) T.b_range (pe_callB call_len (by rfl) T.b_len PySem.boot_len (pa_cons (pv 2) pa_nil)))))) pss_nil) (pss_one (ps_ret (pe_lc (own := [("k", 4)]) rfl sc_broken.nd (pi_range1 rfl T.b_range (pa_cons (pe_callB call_len (by rfl) T.b_len PySem.boot_len (pa_cons (pv 2) pa_nil)) pa_nil)) (blkOk_by (N := N_broken) (sc := defScope s_broken) (by decide +kernel)) (fun _ _ _ _ _ => (pg_name (i := 4) sc_broken.nd rfl (Or.inl rfl))) (fun _ _ _ _ _ => (pts_one (pt_cmpR (op_neD hr.units) (pe_callD (r_worth_of T) (hr.mono (by decide)) rfl pass_blk (pa_cons (pv 3) (pa_cons (pe_ix ix_seq (pv 2) (pv 4) (fun _ _ => rfl)) pa_nil))) (pe_ix ix_seq (pe_ix ix_seq (pv 2) (pv 4) (fun _ _ => rfl)) pe_int (fun _ _ => rfl)) (nomark _)))) (fun _ _ _ _ _ => (pv 4)))))))), (dst_seq (dst_drop (dt_callP (da_cons dt_var (da_cons dt_var (da_cons dt_var da_nil))))) (dst_seq (dst_drop (dt_callP (da_cons dt_var da_nil))) (dst_seq (dst_if (db_not (db_tru (dt_callP (da_cons dt_var (da_cons dt_var (da_cons dt_var da_nil)))))) (dst_ret (df_lrg1 (dt_cb dc_len (da_cons dt_var da_nil))).dt) dst_next) (dst_ret (df_lc (di_rng1 (da_cons (dt_cb dc_len (da_cons dt_var da_nil)) da_nil)) (dg_name (by decide)) (db_test (dt_op dr_ne (dt_callP (da_cons dt_var (da_cons (dt_op dr_ix dt_var dt_var) da_nil))) (dt_op dr_ix (dt_op dr_ix dt_var dt_var) dt_int))) dt_var (by decide)).dt)))), ?_⟩
  intro ds Qd Ed n hl hF
  obtain ⟨a, b, told, row, rfl, hlen, hlen2, h⟩ := hF
  unfold o_broken at h
  unfold eFs
  walk_at "wb"
  refine ⟨rfl, a, b, told, rfl, hlen, ?_⟩
  cases z : o_look_told a b told with
  | error k => rw [z] at h; exact h
  | ok d =>
    rw [z] at h
    have hT : toldOk a b told = true := by
      unfold o_look_told at z
      split at z
      · split at z
        · assumption
        · cases z
      · cases z
    walk_at "wo"
    refine ⟨rfl, row, rfl, hlen2, ?_⟩
    unfold o_look_row
    by_cases hr : rowOk row = true
    · have h : Qd (eNs (if isRowB a b row = true then brk row told else List.range told.length)) n := by
        have h' := h
        simp only [hr, if_true] at h'
        exact h'
      rw [if_pos hr]
      walk_at "wo"
      refine ⟨rfl, a, b, row, rfl, hlen2, ?_⟩
      walk_at "wb"
      walk_at "ws"
      refine ⟨fun q => ?_, fun q => ?_⟩
      · rw [if_neg (by rw [q]; exact Bool.false_ne_true)] at h
        refine ⟨by omega, by omega, ?_⟩
        have e : rngD 0 ((told.length : Int)).toNat = (List.range told.length).map fun k : Nat => PyData.int (k : Int) := by
          rw [rngD_map, Int.toNat_natCast]
          simp only [Int.zero_add]
        rw [e]; exact h
      · rw [if_pos q] at h
        have hrl : (row.length : Int) = a := by
          unfold isRowB at q
          rw [Bool.and_eq_true] at q
          exact of_decide_eq_true q.1
        have fit := fits_of hT
        refine ⟨by omega, by omega, by rw [rngD_len]; omega, ?_⟩
        rw [rngD_map, Int.toNat_natCast]
        refine lcL_fm (fun k : Nat => (told[k]?).elim false fun f => decide (wof row f ≠ f.worth)) (fun k : Nat => .int (k : Int)) (fun k hk => ⟨_, rfl, fun Q E n h => ?_, fun _ Q E n h => ?_⟩) h
        · rw [List.mem_range] at hk
          have e1 : told[k]? = some told[k] := List.getElem?_eq_getElem hk
          rw [e1] at h
          obtain ⟨w1, w2, w3, w4⟩ := fit told[k] (List.getElem_mem hk)
          rw [Int.zero_add]
          walk_at "wb"
          have e2 : atI (told.map eF) (k : Int) = some (eF told[k]) := by rw [atI_map, atI_nat e1]; rfl
          refine ⟨_, e2, rfl, row, told[k], rfl, w1, w2, w3, by omega, _, e2, ?_⟩
          unfold eF
          walk_at "wb"
          refine ⟨_, atI_nat (j := 3) rfl, rfl, rfl, ?_⟩
          rw [eqv_int]
          have e3 : (!decide (wof row told[k] = told[k].worth)) = decide (wof row told[k] ≠ told[k].worth) := by simp
          rw [e3]
          exact h
        · rw [Int.zero_add]; exact h
    · have h : Ed .row n := by
        have h' := h
        rw [if_neg hr] at h'
        exact h'
      rw [if_neg hr]
      exact h
def hereF (told : List Fact) (p : Int) : List Fact := told.filter fun f => decide (f.first ≤ p ∧ p ≤ f.last)
def lowF (told : List Fact) (p : Int) : Int := mxL (((hereF told p).filter fun f : Fact => decide (f.word = ("least" : Str))).map Fact.worth ++ [0])
def highF (most : Int) (told : List Fact) (p : Int) : Int := mnL (((hereF told p).filter fun f : Fact => decide (f.word = ("greatest" : Str))).map Fact.worth ++ [most])
def boundD (most : Int) (told : List Fact) (p : Int) : D := if lowF told p ≤ highF most told p then .tuple [.int (lowF told p), .int (highF most told p)] else .none
def boundsL (size most : Int) (told : List Fact) : List D := (List.range size.toNat).map fun p : Nat => boundD most told p
def o_bounds (size most : Int) (told : List Fact) : Except Kd D := match o_look_told size most told with
  | .error k => .error k
  | .ok _ => .ok (.list (boundsL size most told))
def F_bounds : List D → W D := fun ds Q E n => ∃ (size most : Int) (told : List Fact), ds = [.int size, .int most, eFs told] ∧ told.length ≤ 1000 ∧ out (o_bounds size most told) Q E n
theorem r_bounds (T : Tx K mg ec wa CB) : Rd P w K mg base "bounds" 3 ["size", "most", "told"] (spD K (ekOf ec) false 3 F_bounds) := by
  refine T.bounds.ok sc_bounds (r := 6) rfl rfl (fun f cdv A outer s H E hr => ?_)
  have tk := takes_of (X := cxOf (L2.CX P w) P w K mg base N_bounds "bounds" (defScope s_bounds) f cdv A outer s H E) (E := E) rfl rfl rfl rfl
  refine ⟨_, _, (pss_cons (ps_expr (pe_callD (r_look_told T) (hr.mono (by decide)) rfl (pass_in tk) (pa_cons (pv 0) (pa_cons (pv 1) (pa_cons (pv 2) pa_nil))))) (pss_cons (ps_set (i := 3) sc_bounds.nd rfl (Or.inl rfl) (pe_lst pa_nil)) (pss_cons (ps_for (passes_of rfl) rfl (pi_range1 rfl T.b_range (pa_cons (pv 0) pa_nil)) (pg_name (i := 4) sc_bounds.nd rfl (Or.inr rfl)) (pss_cons (ps_setLc (i := 5) (g := _) (own := [("fact", 8)]) rfl sc_bounds.nd rfl rfl (sw_true rfl rfl rfl (by decide +kernel)) (pi_list (pv 2)) (blkOk_by (N := N_bounds) (sc := defScope s_bounds) (by decide +kernel)) (fun _ _ _ _ _ => (pg_name (i := 8) sc_bounds.nd rfl (Or.inl rfl))) (fun _ _ _ _ _ => (pts_one (pt_chain op_le op_le (pe_ix ix_seq (pv 8) pe_int (fun _ _ => rfl)) (pv 4) (pe_ix ix_seq (pv 8) pe_int (fun _ _ => rfl))))) (fun _ _ _ _ _ => (pv 8))) (pss_cons (ps_set (i := 6) sc_bounds.nd rfl (Or.inl rfl) (pe_callB (call_maxG rfl) (by rfl) T.b_max (by decide +kernel) (pa_cons (pe_op op_addG (pe_lc (own := [("fact", 8)]) rfl sc_bounds.nd (pi_list (pv 5)) (blkOk_by (N := N_bounds) (sc := defScope s_bounds) (by decide +kernel)) (fun _ _ _ _ _ => (pg_name (i := 8) sc_bounds.nd rfl (Or.inl rfl))) (fun _ _ _ _ _ => (pts_one (pt_cmpR (op_eqD hr.units) (pe_ix ix_seq (pv 8) pe_int (fun _ _ => rfl)) pe_str (nomark _)))) (fun _ _ _ _ _ => (pe_ix ix_seq (pv 8) pe_int (fun _ _ => rfl)))) (pe_lst (pa_cons pe_int pa_nil))) pa_nil))) (pss_cons (ps_set (i := 7) sc_bounds.nd rfl (Or.inl rfl) (pe_callB (call_minG rfl) (by rfl) T.b_min (by decide +kernel) (pa_cons (pe_op op_addG (pe_lc (own := [("fact", 8)]) rfl sc_bounds.nd (pi_list (pv 5)) (blkOk_by (N := N_bounds) (sc := defScope s_bounds) (by decide +kernel)) (fun _ _ _ _ _ => (pg_name (i := 8) sc_bounds.nd rfl (Or.inl rfl))) (fun _ _ _ _ _ => (pts_one (pt_cmpR (op_eqD hr.units) (pe_ix ix_seq (pv 8) pe_int (fun _ _ => rfl)) pe_str (nomark _)))) (fun _ _ _ _ _ => (pe_ix ix_seq (pv 8) pe_int (fun _ _ => rfl)))) (pe_lst (pa_cons (pv 1) pa_nil))) pa_nil))) (pss_one (ps_expr (pe_bm PySem.F.plainAttrs_list PySem.F.slot_list_append PySem.F.type_list_append mt_append (pv 3) (pa_cons (pe_ifExp (pt_cmpR op_le (pv 6) (pv 7) (nomark _)) (pe_tup (pa_cons (pv 6) (pa_cons (pv 7) pa_nil))) pe_non) pa_nil)))))))) (pss_one (ps_ret (pv 3)))))), (dst_seq (dst_drop (dt_callP (da_cons dt_var (da_cons dt_var (da_cons dt_var da_nil))))) (dst_seq (dst_own (by decide) (df_lst da_nil)) (dst_seq (dst_forO (dio_rng1 (da_cons dt_var da_nil)) (dgs_name (by decide)) (dst_seq (dst_set (by decide) (df_lc (di_list dt_var) (dg_name (by decide)) (db_test (dt_chain dr_le dr_le (dt_op dr_ix dt_var dt_int) dt_var (dt_op dr_ix dt_var dt_int))) dt_var (by decide)).dt) (dst_seq (dst_set (by decide) (dt_cb dc_max (da_cons (dt_op dr_add (df_lc (di_list dt_var) (dg_name (by decide)) (db_test (dt_op dr_eq (dt_op dr_ix dt_var dt_int) dt_str)) (dt_op dr_ix dt_var dt_int) (by decide)).dt (df_lst (da_cons dt_int da_nil)).dt) da_nil))) (dst_seq (dst_set (by decide) (dt_cb dc_min (da_cons (dt_op dr_add (df_lc (di_list dt_var) (dg_name (by decide)) (db_test (dt_op dr_eq (dt_op dr_ix dt_var dt_int) dt_str)) (dt_op dr_ix dt_var dt_int) (by decide)).dt (df_lst (da_cons dt_var da_nil)).dt) da_nil))) (dst_app (dt_if (db_test (dt_op dr_le dt_var dt_var)) (dt_tup (da_cons dt_var (da_cons dt_var da_nil))) dt_non)))))) (dst_ret dt_var)))), ?_⟩
  intro ds Qd Ed n hl hF
  obtain ⟨a, b, told, rfl, hlen, h⟩ := hF
  unfold o_bounds at h
  unfold eFs
  walk_at "wb"
  refine ⟨rfl, a, b, told, rfl, hlen, ?_⟩
  cases z : o_look_told a b told with
  | error k => rw [z] at h; exact h
  | ok d =>
    rw [z] at h
    have hT : sizesOk a b = true ∧ toldOk a b told = true := by
      unfold o_look_told at z
      split at z
      · split at z
        · exact ⟨by assumption, by assumption⟩
        · cases z
      · cases z
    obtain ⟨hs, hT⟩ := hT
    have hs := sizesOk_ok hs
    walk_at "wo"
    refine ⟨by simp, by simp, by omega, by omega, ?_⟩
    refine forL_rng (fun i ρ n' => n' = n ∧ ∃ s4 s5 s6 s7 s8, ρ = [.v (.int a), .v (.int b), .v (.list (told.map eF)), .own ((List.range i).map fun p : Nat => boundD b told p), s4, s5, s6, s7, s8]) ⟨rfl, _, _, _, _, _, rfl⟩ ?_ ?_
    · rintro i ρ n' N hi ⟨rfl, s4, s5, s6, s7, s8, rfl⟩ hN
      refine ⟨_, rfl, ?_⟩
      rw [Int.zero_add]
      walk_at "wb"
      rw [List.length_map] 
      refine ⟨by omega, ?_⟩
      have hw : ∀ f ∈ told, PyData.strOk f.word = true := fun f hf => isWord_ok (isF_ok ((toldOk_ok hT).2 f hf)).1
      refine lcL_fm (fun f => decide (f.first ≤ (i : Int) ∧ (i : Int) ≤ f.last)) eF (fun f hf => ⟨_, rfl, fun Q E n h => ?_, fun _ Q E n h => h⟩) ?_
      · unfold eF
        walk_at "wb"
        refine ⟨_, atI_nat (j := 1) rfl, ?_⟩
        walk_at "wb"
        by_cases e : f.first ≤ (i : Int)
        · simp only [e, decide_true, true_and] at h ⊢
          walk_at "wb"
          exact ⟨_, atI_nat (j := 2) rfl, h⟩
        · simp only [e, decide_false, false_and] at h ⊢
          walk_at "wb"
          exact h
      have hlh : (hereF told i).length ≤ told.length := List.length_filter_le _ _
      have hsub : ∀ f ∈ hereF told i, PyData.strOk f.word = true := fun f hf => hw f (List.mem_filter.mp hf).1
      have eh : (told.filter fun f => decide (f.first ≤ (i : Int) ∧ (i : Int) ≤ f.last)) = hereF told i := rfl
      simp only [eh]
      refine ⟨by rw [List.length_map]; omega, ?_⟩
      refine lcL_fm (fun f : Fact => decide (f.word = ("least" : Str))) (fun f => .int f.worth) (fun f hf => ⟨_, rfl, fun Q E n h => ?_, fun _ Q E n h => ?_⟩) ?_
      · unfold eF
        walk_at "wb"
        refine ⟨_, atI_nat (j := 0) rfl, (shp_str (k := 0) (hsub f hf)).ok, (shp_str (k := 0) (by decide +kernel)).ok, ?_⟩
        rw [eqv_str]; exact h
      · unfold eF
        walk_at "wb"
        exact ⟨_, atI_nat (j := 3) rfl, h⟩
      have hl1 : ((hereF told i).filter fun f : Fact => decide (f.word = ("least" : Str))).length ≤ (hereF told i).length := List.length_filter_le _ _
      have hl2 : ((hereF told i).filter fun f : Fact => decide (f.word = ("greatest" : Str))).length ≤ (hereF told i).length := List.length_filter_le _ _
      have e1 : (((hereF told i).filter fun f : Fact => decide (f.word = ("least" : Str))).map fun f => PyData.int f.worth) ++ [.int 0] = ((((hereF told i).filter fun f : Fact => decide (f.word = ("least" : Str))).map Fact.worth) ++ [0]).map .int := by
        rw [List.map_append, List.map_map]; rfl
      have e2 : (((hereF told i).filter fun f : Fact => decide (f.word = ("greatest" : Str))).map fun f => PyData.int f.worth) ++ [.int b] = ((((hereF told i).filter fun f : Fact => decide (f.word = ("greatest" : Str))).map Fact.worth) ++ [b]).map .int := by
        rw [List.map_append, List.map_map]; rfl
      refine ⟨by simp, by rw [List.length_map]; simp only [List.length_singleton]; omega, ?_⟩
      rw [e1]
      refine maxD_ints (by simp) ?_
      refine ⟨by rw [List.length_map]; omega, ?_⟩
      refine lcL_fm (fun f : Fact => decide (f.word = ("greatest" : Str))) (fun f => .int f.worth) (fun f hf => ⟨_, rfl, fun Q E n h => ?_, fun _ Q E n h => ?_⟩) ?_
      · unfold eF
        walk_at "wb"
        refine ⟨_, atI_nat (j := 0) rfl, (shp_str (k := 0) (hsub f hf)).ok, (shp_str (k := 0) (by decide +kernel)).ok, ?_⟩
        rw [eqv_str]; exact h
      · unfold eF
        walk_at "wb"
        exact ⟨_, atI_nat (j := 3) rfl, h⟩
      refine ⟨by simp, by rw [List.length_map]; simp only [List.length_singleton]; omega, ?_⟩
      rw [e2]
      refine minD_ints (by simp) ?_
      walk_at "wb"
      have e3 : (List.range (i + 1)).map (fun p : Nat => boundD b told p) = (List.range i).map (fun p : Nat => boundD b told p) ++ [boundD b told i] := by
        rw [List.range_succ, List.map_append]; rfl
      have hN := hN
      rw [e3] at hN
      walk_at "ws"
      refine ⟨fun q => ?_, fun q => ?_⟩
      · have e4 : boundD b told i = .tuple [.int (lowF told i), .int (highF b told i)] := if_pos q
        rw [e4] at hN
        exact ⟨by simp, by simp only [List.length_map, List.length_range]; omega, hN _ _ ⟨rfl, _, _, _, _, _, rfl⟩⟩
      · have e4 : boundD b told i = .none := if_neg q
        rw [e4] at hN
        exact ⟨by simp only [List.length_map, List.length_range]; omega, hN _ _ ⟨rfl, _, _, _, _, _, rfl⟩⟩
    · rintro ρ n' ⟨rfl, s4, s5, s6, s7, s8, rfl⟩
      exact h
-- no piece: tally
def F_how_many : List D → W D := fun ds _ E n => ∃ (size most : Int) (told : List Fact) (k : Kd), ds = [.int size, .int most, eFs told] ∧ told.length ≤ 1000 ∧ o_look_told size most told = .error k ∧ E k n
theorem r_how_many (T : Tx K mg ec wa CB) : Rd P w K mg base "how_many" 3 ["size", "most", "told"] (spD K (ekOf ec) false 3 F_how_many) := by
  refine T.how_many.ok sc_how_many (r := 0) rfl rfl (fun f cdv A outer s H E hr => ?_)
  have tk := takes_of (X := cxOf (L2.CX P w) P w K mg base N_how_many "how_many" (defScope s_how_many) f cdv A outer s H E) (E := E) rfl rfl rfl rfl
  refine ⟨_, _, (pss_cons (ps_expr (pe_callD (r_look_told T) (hr.mono (by decide)) rfl (pass_in tk) (pa_cons (pv 0) (pa_cons (pv 1) (pa_cons (pv 2) pa_nil))))) pss_never), (dst_seq (dst_drop (dt_callP (da_cons dt_var (da_cons dt_var (da_cons dt_var da_nil))))) dst_never), ?_⟩
  intro ds Qd Ed n hl hF
  obtain ⟨a, b, told, k, rfl, hlen, he, h⟩ := hF
  unfold eFs
  walk_at "wb"
  refine ⟨rfl, a, b, told, rfl, hlen, ?_⟩
  rw [he]; exact h
def F_row_at : List D → W D := fun ds _ E n => ∃ (size most : Int) (told : List Fact) (x0 : D) (k : Kd), ds = [.int size, .int most, eFs told, x0] ∧ told.length ≤ 1000 ∧ o_look_told size most told = .error k ∧ E k n
theorem r_row_at (T : Tx K mg ec wa CB) : Rd P w K mg base "row_at" 3 ["size", "most", "told", "number"] (spD K (ekOf ec) false 4 F_row_at) := by
  refine T.row_at.ok sc_row_at (r := 1) rfl rfl (fun f cdv A outer s H E hr => ?_)
  have tk := takes_of (X := cxOf (L2.CX P w) P w K mg base N_row_at "row_at" (defScope s_row_at) f cdv A outer s H E) (E := E) rfl rfl rfl rfl
  refine ⟨_, _, (pss_cons (ps_expr (pe_callD (r_look_told T) (hr.mono (by decide)) rfl (pass_in tk) (pa_cons (pv 0) (pa_cons (pv 1) (pa_cons (pv 2) pa_nil))))) pss_never), (dst_seq (dst_drop (dt_callP (da_cons dt_var (da_cons dt_var (da_cons dt_var da_nil))))) dst_never), ?_⟩
  intro ds Qd Ed n hl hF
  obtain ⟨a, b, told, x0, k, rfl, hlen, he, h⟩ := hF
  unfold eFs
  walk_at "wb"
  refine ⟨rfl, a, b, told, rfl, hlen, ?_⟩
  rw [he]; exact h
-- no piece: row_by
def F_number_of : List D → W D := fun ds _ E n => ∃ (size most : Int) (told : List Fact) (row : List Int) (k : Kd), ds = [.int size, .int most, eFs told, eR row] ∧ told.length ≤ 1000 ∧ row.length ≤ 1000 ∧
  (o_look_told size most told = .error k ∨ (o_look_told size most told = .ok .none ∧ o_look_row row = .error k)) ∧ E k n
theorem r_number_of (T : Tx K mg ec wa CB) : Rd P w K mg base "number_of" 3 ["size", "most", "told", "row"] (spD K (ekOf ec) false 4 F_number_of) := by
  refine T.number_of.ok sc_number_of (r := 7) rfl rfl (fun f cdv A outer s H E hr => ?_)
  have tk := takes_of (X := cxOf (L2.CX P w) P w K mg base N_number_of "number_of" (defScope s_number_of) f cdv A outer s H E) (E := E) rfl rfl rfl rfl
  refine ⟨_, _, (pss_cons (ps_expr (pe_callD (r_look_told T) (hr.mono (by decide)) rfl (pass_in tk) (pa_cons (pv 0) (pa_cons (pv 1) (pa_cons (pv 2) pa_nil))))) (pss_cons (ps_expr (pe_callD (r_look_row T) (hr.mono (by decide)) rfl (pass_in tk) (pa_cons (pv 3) pa_nil))) pss_never)), (dst_seq (dst_drop (dt_callP (da_cons dt_var (da_cons dt_var (da_cons dt_var da_nil))))) (dst_seq (dst_drop (dt_callP (da_cons dt_var da_nil))) dst_never)), ?_⟩
  intro ds Qd Ed n hl hF
  obtain ⟨a, b, told, row, k, rfl, hlen, hlen2, he, h⟩ := hF
  unfold eFs
  walk_at "wb"
  refine ⟨rfl, a, b, told, rfl, hlen, ?_⟩
  rcases he with he | ⟨he, he2⟩
  · rw [he]; exact h
  · rw [he]
    exact ⟨rfl, row, rfl, hlen2, by rw [he2]; exact h⟩
def F_may : List D → W D := fun ds _ E n => ∃ (size most : Int) (told : List Fact) (p : Int) (k : Kd), ds = [.int size, .int most, eFs told, .int p] ∧ told.length ≤ 1000 ∧ (o_look_told size most told = .error k ∨ (o_look_told size most told = .ok .none ∧ ¬ (0 ≤ p ∧ p < size) ∧ k = .stretch)) ∧ E k n
theorem r_may (T : Tx K mg ec wa CB) : Rd P w K mg base "may" 3 ["size", "most", "told", "place"] (spD K (ekOf ec) false 4 F_may) := by
  refine T.may.ok sc_may (r := 2) rfl rfl (fun f cdv A outer s H E hr => ?_)
  have tk := takes_of (X := cxOf (L2.CX P w) P w K mg base N_may "may" (defScope s_may) f cdv A outer s H E) (E := E) rfl rfl rfl rfl
  refine ⟨_, _, (pss_cons (ps_expr (pe_callD (r_look_told T) (hr.mono (by decide)) rfl (pass_in tk) (pa_cons (pv 0) (pa_cons (pv 1) (pa_cons (pv 2) pa_nil))))) (pss_cons (ps_if (pt_not (pt_chain op_le op_lt pe_int (pv 3) (pv 0))) (pss_one (ps_raiseD T.x_BadStretch rfl tk rfl)) pss_nil) pss_never)), (dst_seq (dst_drop (dt_callP (da_cons dt_var (da_cons dt_var (da_cons dt_var da_nil))))) (dst_seq (dst_if (db_not (db_test (dt_chain dr_le dr_lt dt_int dt_var dt_var))) dst_rz dst_next) dst_never)), ?_⟩
  intro ds Qd Ed n hl hF
  obtain ⟨a, b, told, x0, k, rfl, hlen, he, h⟩ := hF
  unfold eFs
  walk_at "wb"
  refine ⟨rfl, a, b, told, rfl, hlen, ?_⟩
  rcases he with he | ⟨he, hp, rfl⟩
  · rw [he]; exact h
  · rw [he]
    walk_at "wo"
    by_cases c1 : 0 ≤ x0
    · rw [decide_eq_true c1, decide_eq_false (show ¬ x0 < a by omega)]
      walk_at "wb"
      exact h
    · rw [decide_eq_false c1]
      walk_at "wb"
      exact h
def F_sure : List D → W D := fun ds _ E n => ∃ (size most : Int) (told : List Fact) (k : Kd), ds = [.int size, .int most, eFs told] ∧ told.length ≤ 1000 ∧ o_look_told size most told = .error k ∧ E k n
theorem r_sure (T : Tx K mg ec wa CB) : Rd P w K mg base "sure" 3 ["size", "most", "told"] (spD K (ekOf ec) false 3 F_sure) := by
  refine T.sure.ok sc_sure (r := 4) rfl rfl (fun f cdv A outer s H E hr => ?_)
  have tk := takes_of (X := cxOf (L2.CX P w) P w K mg base N_sure "sure" (defScope s_sure) f cdv A outer s H E) (E := E) rfl rfl rfl rfl
  refine ⟨_, _, (pss_cons (ps_expr (pe_callD (r_look_told T) (hr.mono (by decide)) rfl (pass_in tk) (pa_cons (pv 0) (pa_cons (pv 1) (pa_cons (pv 2) pa_nil))))) pss_never), (dst_seq (dst_drop (dt_callP (da_cons dt_var (da_cons dt_var (da_cons dt_var da_nil))))) dst_never), ?_⟩
  intro ds Qd Ed n hl hF
  obtain ⟨a, b, told, k, rfl, hlen, he, h⟩ := hF
  unfold eFs
  walk_at "wb"
  refine ⟨rfl, a, b, told, rfl, hlen, ?_⟩
  rw [he]; exact h
-- no piece: parts
-- no piece: has_row
def F_clash : List D → W D := fun ds _ E n => ∃ (size most : Int) (told : List Fact) (k : Kd), ds = [.int size, .int most, eFs told] ∧ told.length ≤ 1000 ∧ o_look_told size most told = .error k ∧ E k n
theorem r_clash (T : Tx K mg ec wa CB) : Rd P w K mg base "clash" 3 ["size", "most", "told"] (spD K (ekOf ec) false 3 F_clash) := by
  refine T.clash.ok sc_clash (r := 3) rfl rfl (fun f cdv A outer s H E hr => ?_)
  have tk := takes_of (X := cxOf (L2.CX P w) P w K mg base N_clash "clash" (defScope s_clash) f cdv A outer s H E) (E := E) rfl rfl rfl rfl
  refine ⟨_, _, (pss_cons (ps_expr (pe_callD (r_look_told T) (hr.mono (by decide)) rfl (pass_in tk) (pa_cons (pv 0) (pa_cons (pv 1) (pa_cons (pv 2) pa_nil))))) pss_never), (dst_seq (dst_drop (dt_callP (da_cons dt_var (da_cons dt_var (da_cons dt_var da_nil))))) dst_never), ?_⟩
  intro ds Qd Ed n hl hF
  obtain ⟨a, b, told, k, rfl, hlen, he, h⟩ := hF
  unfold eFs
  walk_at "wb"
  refine ⟨rfl, a, b, told, rfl, hlen, ?_⟩
  rw [he]; exact h
def F_is_clash : List D → W D := fun ds _ E n => ∃ (size most : Int) (told : List Fact) (x0 : D) (k : Kd), ds = [.int size, .int most, eFs told, x0] ∧ told.length ≤ 1000 ∧ o_look_told size most told = .error k ∧ E k n
theorem r_is_clash (T : Tx K mg ec wa CB) : Rd P w K mg base "is_clash" 3 ["size", "most", "told", "some"] (spD K (ekOf ec) false 4 F_is_clash) := by
  refine T.is_clash.ok sc_is_clash (r := 2) rfl rfl (fun f cdv A outer s H E hr => ?_)
  have tk := takes_of (X := cxOf (L2.CX P w) P w K mg base N_is_clash "is_clash" (defScope s_is_clash) f cdv A outer s H E) (E := E) rfl rfl rfl rfl
  refine ⟨_, _, (pss_cons (ps_expr (pe_callD (r_look_told T) (hr.mono (by decide)) rfl (pass_in tk) (pa_cons (pv 0) (pa_cons (pv 1) (pa_cons (pv 2) pa_nil))))) pss_never), (dst_seq (dst_drop (dt_callP (da_cons dt_var (da_cons dt_var (da_cons dt_var da_nil))))) dst_never), ?_⟩
  intro ds Qd Ed n hl hF
  obtain ⟨a, b, told, x0, k, rfl, hlen, he, h⟩ := hF
  unfold eFs
  walk_at "wb"
  refine ⟨rfl, a, b, told, rfl, hlen, ?_⟩
  rw [he]; exact h
def F_left_out : List D → W D := fun ds _ E n => ∃ (size most : Int) (told : List Fact) (k : Kd), ds = [.int size, .int most, eFs told] ∧ told.length ≤ 1000 ∧ o_look_told size most told = .error k ∧ E k n
theorem r_left_out (T : Tx K mg ec wa CB) : Rd P w K mg base "left_out" 3 ["size", "most", "told"] (spD K (ekOf ec) false 3 F_left_out) := by
  refine T.left_out.ok sc_left_out (r := 3) rfl rfl (fun f cdv A outer s H E hr => ?_)
  have tk := takes_of (X := cxOf (L2.CX P w) P w K mg base N_left_out "left_out" (defScope s_left_out) f cdv A outer s H E) (E := E) rfl rfl rfl rfl
  refine ⟨_, _, (pss_cons (ps_expr (pe_callD (r_look_told T) (hr.mono (by decide)) rfl (pass_in tk) (pa_cons (pv 0) (pa_cons (pv 1) (pa_cons (pv 2) pa_nil))))) pss_never), (dst_seq (dst_drop (dt_callP (da_cons dt_var (da_cons dt_var (da_cons dt_var da_nil))))) dst_never), ?_⟩
  intro ds Qd Ed n hl hF
  obtain ⟨a, b, told, k, rfl, hlen, he, h⟩ := hF
  unfold eFs
  walk_at "wb"
  refine ⟨rfl, a, b, told, rfl, hlen, ?_⟩
  rw [he]; exact h
def F_least_cost : List D → W D := fun ds _ E n => ∃ (size most : Int) (told : List Fact) (k : Kd), ds = [.int size, .int most, eFs told] ∧ told.length ≤ 1000 ∧ o_look_told size most told = .error k ∧ E k n
theorem r_least_cost (T : Tx K mg ec wa CB) : Rd P w K mg base "least_cost" 3 ["size", "most", "told"] (spD K (ekOf ec) false 3 F_least_cost) := by
  refine T.least_cost.ok sc_least_cost (r := 0) rfl rfl (fun f cdv A outer s H E hr => ?_)
  have tk := takes_of (X := cxOf (L2.CX P w) P w K mg base N_least_cost "least_cost" (defScope s_least_cost) f cdv A outer s H E) (E := E) rfl rfl rfl rfl
  refine ⟨_, _, (pss_cons (ps_expr (pe_callD (r_look_told T) (hr.mono (by decide)) rfl (pass_in tk) (pa_cons (pv 0) (pa_cons (pv 1) (pa_cons (pv 2) pa_nil))))) pss_never), (dst_seq (dst_drop (dt_callP (da_cons dt_var (da_cons dt_var (da_cons dt_var da_nil))))) dst_never), ?_⟩
  intro ds Qd Ed n hl hF
  obtain ⟨a, b, told, k, rfl, hlen, he, h⟩ := hF
  unfold eFs
  walk_at "wb"
  refine ⟨rfl, a, b, told, rfl, hlen, ?_⟩
  rw [he]; exact h
def F_mended : List D → W D := fun ds _ E n => ∃ (size most : Int) (told : List Fact) (k : Kd), ds = [.int size, .int most, eFs told] ∧ told.length ≤ 1000 ∧ o_look_told size most told = .error k ∧ E k n
theorem r_mended (T : Tx K mg ec wa CB) : Rd P w K mg base "mended" 3 ["size", "most", "told"] (spD K (ekOf ec) false 3 F_mended) := by
  refine T.mended.ok sc_mended (r := 6) rfl rfl (fun f cdv A outer s H E hr => ?_)
  have tk := takes_of (X := cxOf (L2.CX P w) P w K mg base N_mended "mended" (defScope s_mended) f cdv A outer s H E) (E := E) rfl rfl rfl rfl
  refine ⟨_, _, (pss_cons (ps_expr (pe_callD (r_look_told T) (hr.mono (by decide)) rfl (pass_in tk) (pa_cons (pv 0) (pa_cons (pv 1) (pa_cons (pv 2) pa_nil))))) pss_never), (dst_seq (dst_drop (dt_callP (da_cons dt_var (da_cons dt_var (da_cons dt_var da_nil))))) dst_never), ?_⟩
  intro ds Qd Ed n hl hF
  obtain ⟨a, b, told, k, rfl, hlen, he, h⟩ := hF
  unfold eFs
  walk_at "wb"
  refine ⟨rfl, a, b, told, rfl, hlen, ?_⟩
  rw [he]; exact h
def F_first_row : List D → W D := fun ds _ E n => ∃ (size most : Int) (told : List Fact) (k : Kd), ds = [.int size, .int most, eFs told] ∧ told.length ≤ 1000 ∧ o_look_told size most told = .error k ∧ E k n
theorem r_first_row (T : Tx K mg ec wa CB) : Rd P w K mg base "first_row" 3 ["size", "most", "told"] (spD K (ekOf ec) false 3 F_first_row) := by
  refine T.first_row.ok sc_first_row (r := 1) rfl rfl (fun f cdv A outer s H E hr => ?_)
  have tk := takes_of (X := cxOf (L2.CX P w) P w K mg base N_first_row "first_row" (defScope s_first_row) f cdv A outer s H E) (E := E) rfl rfl rfl rfl
  refine ⟨_, _, (pss_cons (ps_expr (pe_callD (r_look_told T) (hr.mono (by decide)) rfl (pass_in tk) (pa_cons (pv 0) (pa_cons (pv 1) (pa_cons (pv 2) pa_nil))))) pss_never), (dst_seq (dst_drop (dt_callP (da_cons dt_var (da_cons dt_var (da_cons dt_var da_nil))))) dst_never), ?_⟩
  intro ds Qd Ed n hl hF
  obtain ⟨a, b, told, k, rfl, hlen, he, h⟩ := hF
  unfold eFs
  walk_at "wb"
  refine ⟨rfl, a, b, told, rfl, hlen, ?_⟩
  rw [he]; exact h
def o_look_fact (size most : Int) (told : List Fact) (f : Fact) : Except Kd D := match o_look_told size most told with
  | .error k => .error k
  | .ok _ => if isF size most f = true then .ok .none else .error .told
def F_look_fact : List D → W D := fun ds Q E n => ∃ (size most : Int) (told : List Fact) (f : Fact), ds = [.int size, .int most, eFs told, eF f] ∧ told.length ≤ 1000 ∧ out (o_look_fact size most told f) Q E n
theorem r_look_fact (T : Tx K mg ec wa CB) : Rd P w K mg base "look_fact" 3 ["size", "most", "told", "fact"] (spD K (ekOf ec) false 4 F_look_fact) := by
  refine T.look_fact.ok sc_look_fact (r := 0) rfl rfl (fun f cdv A outer s H E hr => ?_)
  have tk := takes_of (X := cxOf (L2.CX P w) P w K mg base N_look_fact "look_fact" (defScope s_look_fact) f cdv A outer s H E) (E := E) rfl rfl rfl rfl
  refine ⟨_, _, (pss_cons (ps_expr (pe_callD (r_look_told T) (hr.mono (by decide)) rfl (pass_in tk) (pa_cons (pv 0) (pa_cons (pv 1) (pa_cons (pv 2) pa_nil))))) (pss_one (ps_if (pt_not (pt_truth (pe_callD (r_is_fact T) (hr.mono (by decide)) rfl (pass_in tk) (pa_cons (pv 0) (pa_cons (pv 1) (pa_cons (pv 3) pa_nil)))) (by intro _; rfl))) (pss_one (ps_raiseD T.x_BadTold rfl tk rfl)) pss_nil))), (dst_seq (dst_drop (dt_callP (da_cons dt_var (da_cons dt_var (da_cons dt_var da_nil))))) (dst_if (db_not (db_tru (dt_callP (da_cons dt_var (da_cons dt_var (da_cons dt_var da_nil)))))) dst_rz dst_next)), ?_⟩
  intro ds Qd Ed n hl hF
  obtain ⟨a, b, told, f, rfl, hlen, h⟩ := hF
  unfold o_look_fact at h
  unfold eFs
  walk_at "wb"
  refine ⟨rfl, a, b, told, rfl, hlen, ?_⟩
  cases z : o_look_told a b told with
  | error k => rw [z] at h; exact h
  | ok d =>
    rw [z] at h
    walk_at "wo"
    refine ⟨rfl, a, b, f, rfl, ?_⟩
    walk_at "wb"
    walk_at "ws"
    refine ⟨fun q => ?_, fun q => ?_⟩
    · rw [if_neg (by rw [q]; exact Bool.false_ne_true)] at h; exact h
    · rw [if_pos q] at h; exact h
def F_worths : List D → W D := fun ds _ E n => ∃ (size most : Int) (told : List Fact) (word : Str) (first last : Int) (k : Kd), ds = [.int size, .int most, eFs told, .str word, .int first, .int last] ∧ told.length ≤ 1000 ∧ o_look_fact size most told ⟨word, first, last, 0⟩ = .error k ∧ E k n
theorem r_worths (T : Tx K mg ec wa CB) : Rd P w K mg base "worths" 4 ["size", "most", "told", "word", "first", "last"] (spD K (ekOf ec) false 6 F_worths) := by
  refine T.worths.ok sc_worths (r := 0) rfl rfl (fun f cdv A outer s H E hr => ?_)
  have tk := takes_of (X := cxOf (L2.CX P w) P w K mg base N_worths "worths" (defScope s_worths) f cdv A outer s H E) (E := E) rfl rfl rfl rfl
  refine ⟨_, _, (pss_cons (ps_expr (pe_callD (r_look_fact T) (hr.mono (by decide)) rfl (pass_in tk) (pa_cons (pv 0) (pa_cons (pv 1) (pa_cons (pv 2) (pa_cons (pe_tup (pa_cons (pv 3) (pa_cons (pv 4) (pa_cons (pv 5) (pa_cons pe_int pa_nil))))) pa_nil)))))) pss_never), (dst_seq (dst_drop (dt_callP (da_cons dt_var (da_cons dt_var (da_cons dt_var (da_cons (dt_tup (da_cons dt_var (da_cons dt_var (da_cons dt_var (da_cons dt_int da_nil))))) da_nil)))))) dst_never), ?_⟩
  intro ds Qd Ed n hl hF
  obtain ⟨a, b, told, word, first, last, k, rfl, hlen, he, h⟩ := hF
  unfold eFs
  walk_at "wb"
  refine ⟨by simp, rfl, a, b, told, ⟨word, first, last, 0⟩, rfl, hlen, ?_⟩
  rw [he]; exact h
-- no piece: may_worths
def F_follows : List D → W D := fun ds _ E n => ∃ (size most : Int) (told : List Fact) (f : Fact) (k : Kd), ds = [.int size, .int most, eFs told, eF f] ∧ told.length ≤ 1000 ∧ o_look_fact size most told f = .error k ∧ E k n
theorem r_follows (T : Tx K mg ec wa CB) : Rd P w K mg base "follows" 5 ["size", "most", "told", "fact"] (spD K (ekOf ec) false 4 F_follows) := by
  refine T.follows.ok sc_follows (r := 0) rfl rfl (fun f cdv A outer s H E hr => ?_)
  have tk := takes_of (X := cxOf (L2.CX P w) P w K mg base N_follows "follows" (defScope s_follows) f cdv A outer s H E) (E := E) rfl rfl rfl rfl
  refine ⟨_, _, (pss_cons (ps_expr (pe_callD (r_look_fact T) (hr.mono (by decide)) rfl (pass_in tk) (pa_cons (pv 0) (pa_cons (pv 1) (pa_cons (pv 2) (pa_cons (pv 3) pa_nil)))))) pss_never), (dst_seq (dst_drop (dt_callP (da_cons dt_var (da_cons dt_var (da_cons dt_var (da_cons dt_var da_nil)))))) dst_never), ?_⟩
  intro ds Qd Ed n hl hF
  obtain ⟨a, b, told, f, k, rfl, hlen, he, h⟩ := hF
  unfold eFs
  walk_at "wb"
  refine ⟨rfl, a, b, told, f, rfl, hlen, ?_⟩
  rw [he]; exact h
-- no piece: does_follow
def F_parting : List D → W D := fun ds _ E n => ∃ (size most : Int) (told : List Fact) (f : Fact) (k : Kd), ds = [.int size, .int most, eFs told, eF f] ∧ told.length ≤ 1000 ∧ o_look_fact size most told f = .error k ∧ E k n
theorem r_parting (T : Tx K mg ec wa CB) : Rd P w K mg base "parting" 4 ["size", "most", "told", "fact"] (spD K (ekOf ec) false 4 F_parting) := by
  refine T.parting.ok sc_parting (r := 3) rfl rfl (fun f cdv A outer s H E hr => ?_)
  have tk := takes_of (X := cxOf (L2.CX P w) P w K mg base N_parting "parting" (defScope s_parting) f cdv A outer s H E) (E := E) rfl rfl rfl rfl
  refine ⟨_, _, (pss_cons (ps_expr (pe_callD (r_look_fact T) (hr.mono (by decide)) rfl (pass_in tk) (pa_cons (pv 0) (pa_cons (pv 1) (pa_cons (pv 2) (pa_cons (pv 3) pa_nil)))))) pss_never), (dst_seq (dst_drop (dt_callP (da_cons dt_var (da_cons dt_var (da_cons dt_var (da_cons dt_var da_nil)))))) dst_never), ?_⟩
  intro ds Qd Ed n hl hF
  obtain ⟨a, b, told, f, k, rfl, hlen, he, h⟩ := hF
  unfold eFs
  walk_at "wb"
  refine ⟨rfl, a, b, told, f, rfl, hlen, ?_⟩
  rw [he]; exact h
def F_needless : List D → W D := fun ds _ E n => ∃ (size most : Int) (told : List Fact) (k : Kd), ds = [.int size, .int most, eFs told] ∧ told.length ≤ 1000 ∧ o_look_told size most told = .error k ∧ E k n
theorem r_needless (T : Tx K mg ec wa CB) : Rd P w K mg base "needless" 5 ["size", "most", "told"] (spD K (ekOf ec) false 3 F_needless) := by
  refine T.needless.ok sc_needless (r := 1) rfl rfl (fun f cdv A outer s H E hr => ?_)
  have tk := takes_of (X := cxOf (L2.CX P w) P w K mg base N_needless "needless" (defScope s_needless) f cdv A outer s H E) (E := E) rfl rfl rfl rfl
  refine ⟨_, _, (pss_cons (ps_expr (pe_callD (r_look_told T) (hr.mono (by decide)) rfl (pass_in tk) (pa_cons (pv 0) (pa_cons (pv 1) (pa_cons (pv 2) pa_nil))))) pss_never), (dst_seq (dst_drop (dt_callP (da_cons dt_var (da_cons dt_var (da_cons dt_var da_nil))))) dst_never), ?_⟩
  intro ds Qd Ed n hl hF
  obtain ⟨a, b, told, k, rfl, hlen, he, h⟩ := hF
  unfold eFs
  walk_at "wb"
  refine ⟨rfl, a, b, told, rfl, hlen, ?_⟩
  rw [he]; exact h
def F_lessened : List D → W D := fun ds _ E n => ∃ (size most : Int) (told : List Fact) (k : Kd), ds = [.int size, .int most, eFs told] ∧ told.length ≤ 1000 ∧ o_look_told size most told = .error k ∧ E k n
theorem r_lessened (T : Tx K mg ec wa CB) : Rd P w K mg base "lessened" 5 ["size", "most", "told"] (spD K (ekOf ec) false 3 F_lessened) := by
  refine T.lessened.ok sc_lessened (r := 2) rfl rfl (fun f cdv A outer s H E hr => ?_)
  have tk := takes_of (X := cxOf (L2.CX P w) P w K mg base N_lessened "lessened" (defScope s_lessened) f cdv A outer s H E) (E := E) rfl rfl rfl rfl
  refine ⟨_, _, (pss_cons (ps_expr (pe_callD (r_look_told T) (hr.mono (by decide)) rfl (pass_in tk) (pa_cons (pv 0) (pa_cons (pv 1) (pa_cons (pv 2) pa_nil))))) pss_never), (dst_seq (dst_drop (dt_callP (da_cons dt_var (da_cons dt_var (da_cons dt_var da_nil))))) dst_never), ?_⟩
  intro ds Qd Ed n hl hF
  obtain ⟨a, b, told, k, rfl, hlen, he, h⟩ := hF
  unfold eFs
  walk_at "wb"
  refine ⟨rfl, a, b, told, rfl, hlen, ?_⟩
  rw [he]; exact h
def F_are_alike : List D → W D := fun ds _ E n => ∃ (size most : Int) (told other : List Fact) (k : Kd), ds = [.int size, .int most, eFs told, eFs other] ∧ told.length ≤ 1000 ∧ other.length ≤ 1000 ∧
  (o_look_told size most told = .error k ∨ (o_look_told size most told = .ok .none ∧ o_look_told size most other = .error k)) ∧ E k n
theorem r_are_alike (T : Tx K mg ec wa CB) : Rd P w K mg base "are_alike" 5 ["size", "most", "one", "other"] (spD K (ekOf ec) false 4 F_are_alike) := by
  refine T.are_alike.ok sc_are_alike (r := 1) rfl rfl (fun f cdv A outer s H E hr => ?_)
  have tk := takes_of (X := cxOf (L2.CX P w) P w K mg base N_are_alike "are_alike" (defScope s_are_alike) f cdv A outer s H E) (E := E) rfl rfl rfl rfl
  refine ⟨_, _, (pss_cons (ps_expr (pe_callD (r_look_told T) (hr.mono (by decide)) rfl (pass_in tk) (pa_cons (pv 0) (pa_cons (pv 1) (pa_cons (pv 2) pa_nil))))) (pss_cons (ps_expr (pe_callD (r_look_told T) (hr.mono (by decide)) rfl (pass_in tk) (pa_cons (pv 0) (pa_cons (pv 1) (pa_cons (pv 3) pa_nil))))) pss_never)), (dst_seq (dst_drop (dt_callP (da_cons dt_var (da_cons dt_var (da_cons dt_var da_nil))))) (dst_seq (dst_drop (dt_callP (da_cons dt_var (da_cons dt_var (da_cons dt_var da_nil))))) dst_never)), ?_⟩
  intro ds Qd Ed n hl hF
  obtain ⟨a, b, told, other, k, rfl, hlen, hlen2, he, h⟩ := hF
  unfold eFs
  walk_at "wb"
  refine ⟨rfl, a, b, told, rfl, hlen, ?_⟩
  rcases he with he | ⟨he, he2⟩
  · rw [he]; exact h
  · rw [he]
    exact ⟨rfl, a, b, other, rfl, hlen2, by rw [he2]; exact h⟩
def F_first_apart : List D → W D := fun ds _ E n => ∃ (size most : Int) (told other : List Fact) (k : Kd), ds = [.int size, .int most, eFs told, eFs other] ∧ told.length ≤ 1000 ∧ other.length ≤ 1000 ∧
  (o_look_told size most told = .error k ∨ (o_look_told size most told = .ok .none ∧ o_look_told size most other = .error k)) ∧ E k n
theorem r_first_apart (T : Tx K mg ec wa CB) : Rd P w K mg base "first_apart" 5 ["size", "most", "one", "other"] (spD K (ekOf ec) false 4 F_first_apart) := by
  refine T.first_apart.ok sc_first_apart (r := 3) rfl rfl (fun f cdv A outer s H E hr => ?_)
  have tk := takes_of (X := cxOf (L2.CX P w) P w K mg base N_first_apart "first_apart" (defScope s_first_apart) f cdv A outer s H E) (E := E) rfl rfl rfl rfl
  refine ⟨_, _, (pss_cons (ps_expr (pe_callD (r_look_told T) (hr.mono (by decide)) rfl (pass_in tk) (pa_cons (pv 0) (pa_cons (pv 1) (pa_cons (pv 2) pa_nil))))) (pss_cons (ps_expr (pe_callD (r_look_told T) (hr.mono (by decide)) rfl (pass_in tk) (pa_cons (pv 0) (pa_cons (pv 1) (pa_cons (pv 3) pa_nil))))) pss_never)), (dst_seq (dst_drop (dt_callP (da_cons dt_var (da_cons dt_var (da_cons dt_var da_nil))))) (dst_seq (dst_drop (dt_callP (da_cons dt_var (da_cons dt_var (da_cons dt_var da_nil))))) dst_never)), ?_⟩
  intro ds Qd Ed n hl hF
  obtain ⟨a, b, told, other, k, rfl, hlen, hlen2, he, h⟩ := hF
  unfold eFs
  walk_at "wb"
  refine ⟨rfl, a, b, told, rfl, hlen, ?_⟩
  rcases he with he | ⟨he, he2⟩
  · rw [he]; exact h
  · rw [he]
    exact ⟨rfl, a, b, other, rfl, hlen2, by rw [he2]; exact h⟩
-- no piece: row_without
def F_written : List D → W D := fun ds _ E n => ∃ (size most : Int) (told : List Fact) (k : Kd), ds = [.int size, .int most, eFs told] ∧ told.length ≤ 1000 ∧ o_look_told size most told = .error k ∧ E k n
theorem r_written (T : Tx K mg ec wa CB) : Rd P w K mg base "written" 3 ["size", "most", "told"] (spD K (ekOf ec) false 3 F_written) := by
  refine T.written.ok sc_written (r := 5) rfl rfl (fun f cdv A outer s H E hr => ?_)
  have tk := takes_of (X := cxOf (L2.CX P w) P w K mg base N_written "written" (defScope s_written) f cdv A outer s H E) (E := E) rfl rfl rfl rfl
  refine ⟨_, _, (pss_cons (ps_expr (pe_callD (r_look_told T) (hr.mono (by decide)) rfl (pass_in tk) (pa_cons (pv 0) (pa_cons (pv 1) (pa_cons (pv 2) pa_nil))))) pss_never), (dst_seq (dst_drop (dt_callP (da_cons dt_var (da_cons dt_var (da_cons dt_var da_nil))))) dst_never), ?_⟩
  intro ds Qd Ed n hl hF
  obtain ⟨a, b, told, k, rfl, hlen, he, h⟩ := hF
  unfold eFs
  walk_at "wb"
  refine ⟨rfl, a, b, told, rfl, hlen, ?_⟩
  rw [he]; exact h
/-- an item of the script: any int -/
def spCell (K : PySem.W.Frag) : Sp := fun vs H Q _ => ∃ (a : Addr) (ns : List Int) (k : Int), vs = [.ref a, .int k] ∧ SqL K H a (ns.map V.int) ∧ ns.length ≤ 63 ∧ ∀ i, Q (.int i) H
theorem r_law_cell (T : Tx K mg ec wa CB) : Rd P w K mg base "_law_cell" 1 ["_law_script", "_law_k"] (spCell K) := by
  obtain ⟨f, fd, Fn, hm, hb⟩ := T.law_cell
  refine ⟨f, fd, Fn.okX sc_law_cell (fun vs H Q E h => by obtain ⟨_, _, _, rfl, _⟩ := h; rfl) (fun cdv A outer s H vs Q E hr h => ?_), hm, Fn.kp, hb⟩
  obtain ⟨a, ns, k, rfl, hS, hl, hQ⟩ := h
  refine ⟨_, pss_cons (ps_if (pt_truth (pv 0) (by intro _; rfl)) (pss_one (ps_ret (pe_ix ix_list (pv 0) (pe_op op_mod (pv 1) (pe_callB call_len (by rfl) T.b_len PySem.boot_len (pa_cons (pv 0) pa_nil))) (fun _ _ => rfl)))) pss_nil) (pss_one (ps_ret pe_int)), ?_⟩
  refine ⟨_, rfl, _, .inl ⟨_, hS, rfl⟩, ?_⟩
  cases ns with
  | nil => exact iteF (hQ 0)
  | cons n ns =>
    refine iteT ⟨_, rfl, _, rfl, _, rfl, _, _, rfl, .inl ⟨_, hS, rfl⟩, _, _, rfl, rfl, ?_, ?_⟩
    · show (0 : Int) < _
      rw [List.length_map, List.length_cons]; omega
    · have h0 : 0 ≤ k % (((n :: ns).map V.int).length : Int) := Int.emod_nonneg _ (by rw [List.length_map, List.length_cons]; omega)
      have h1 : k % (((n :: ns).map V.int).length : Int) < (((n :: ns).map V.int).length : Int) := Int.emod_lt_of_pos _ (by rw [List.length_map, List.length_cons]; omega)
      obtain ⟨j, hj⟩ : ∃ j : Nat, k % (((n :: ns).map V.int).length : Int) = j := ⟨_, (Int.toNat_of_nonneg h0).symm⟩
      rw [hj] at h1
      have hlt : j < ((n :: ns).map V.int).length := by omega
      refine ⟨_, _, _, _, rfl, rfl, hS, (by rw [hj]; exact atI_nat (List.getElem?_eq_getElem hlt)), ?_⟩
      rw [List.getElem_map]
      exact hQ _
def spMix (K : PySem.W.Frag) : Sp := fun vs H Q _ => ∃ (a : Addr) (ns : List Int) (k : Int), vs = [.ref a, .int k] ∧ SqL K H a (ns.map V.int) ∧ ns.length ≤ 63 ∧ ∀ i, 0 ≤ i → Q (.int i) H
theorem r_law_mix (T : Tx K mg ec wa CB) : Rd P w K mg base "_law_mix" 2 ["_law_script", "_law_k"] (spMix K) := by
  obtain ⟨f, fd, Fn, hm, hb⟩ := T.law_mix
  refine ⟨f, fd, Fn.okX sc_law_mix (fun vs H Q E h => by obtain ⟨_, _, _, rfl, _⟩ := h; rfl) (fun cdv A outer s H vs Q E hr h => ?_), hm, Fn.kp, hb⟩
  obtain ⟨a, ns, k, rfl, hS, hl, hQ⟩ := h
  have tk := takes_of (X := cxOf (L2.CX P w) P w K mg base N_law_mix "_law_mix" (defScope s_law_mix) f cdv A outer s H E) (E := E) rfl rfl rfl rfl
  refine ⟨_, pss_cons (ps_set (i := 2) sc_law_mix.nd rfl (Or.inl rfl) (pe_op op_mod (pe_op op_add (pe_callD (EX := fun _ => E) (r_law_cell T) (hr.mono (by decide)) rfl (pass_in tk) (pa_cons (pv 0) (pa_cons (pv 1) pa_nil))) (pe_op op_mul pe_int (pe_op op_add (pv 1) pe_int))) pe_int))
    (pss_cons (ps_set (i := 2) sc_law_mix.nd rfl (Or.inl rfl) (pe_op op_mod (pe_op op_pow (pv 2) pe_int) pe_int))
    (pss_one (ps_ret (pe_op op_mod (pe_op op_add (pe_op op_mul (pe_op op_fdiv (pv 2) pe_int) pe_int) (pv 2)) pe_int)))), ?_⟩
  refine ⟨_, rfl, _, rfl, a, ns, k, rfl, hS, hl, fun i => ?_⟩
  refine ⟨_, rfl, _, _, rfl, rfl, _, _, rfl, rfl, .inl ⟨by decide, by decide⟩, _, _, rfl, rfl, _, _, rfl, rfl, (by show (0 : Int) < 4294967291; decide), ?_⟩
  generalize hx : (i + 104729 * (k + 1)) % 4294967291 = x
  have x0 : 0 ≤ x := by rw [← hx]; exact Int.emod_nonneg _ (by decide)
  have x1 : x < 4294967291 := by rw [← hx]; exact Int.emod_lt_of_pos _ (by decide)
  refine ⟨_, rfl, _, _, rfl, rfl, ⟨by decide, by decide, by omega⟩, _, _, rfl, rfl, (by show (0 : Int) < 4294967279; decide), ?_⟩
  generalize x ^ Int.toNat 5 % 4294967279 = y
  refine ⟨_, rfl, _, _, rfl, rfl, ⟨by decide, by decide⟩, _, _, rfl, rfl, .inr ⟨by decide, by decide⟩, _, rfl, _, _, rfl, rfl, _, _, rfl, rfl, (by show (0 : Int) < 4294967231; decide), ?_⟩
  exact hQ _ (Int.emod_nonneg _ (by decide))
/-- the next draw: any number from 0 on, below many -/
def F_law_draw : List D → W D := fun ds Q _ n => ∃ m : Int, ds = [.int m] ∧ 0 < m ∧ n < 900000 ∧ ∀ d, 0 ≤ d → d < m → Q (.int d) (n + 1)
theorem r_law_draw (T : Tx K mg ec wa CB) : Rd P w K mg base "_law_draw" 3 ["_law_script", "_law_town", "_law_many"] (spD K (ekOf ec) true 1 F_law_draw) := by
  obtain ⟨f, fd, Fn, hm, hb⟩ := T.law_draw
  refine ⟨f, fd, Fn.okX sc_law_draw (fun vs H Q E h => spD_len vs H Q E h) (fun cdv A outer s H vs Q E hr h => ?_), hm, Fn.kp, hb⟩
  obtain ⟨Pc, Tn, n, us, ds, Qd, Ed, hT, hl, rfl, hthere, htw, r1, hF, hQ, hE⟩ := h
  obtain ⟨m, rfl, hm0, hn, hq⟩ := hF
  cases Tn with
  | none => cases hT
  | some p =>
    obtain ⟨sa, ta⟩ := p
    cases r1 with
    | cons r rr =>
      cases r
      cases rr
      obtain ⟨hP, hH, ns, hS, hlen⟩ := htw.ok _ rfl
      have tk := takes_of (X := cxOf (L2.CX P w) P w K mg base N_law_draw "_law_draw" (defScope s_law_draw) f cdv A outer s H E) (E := E) rfl rfl rfl rfl
      refine ⟨_, pss_cons (ps_expr (pe_bm PySem.F.plainAttrs_list PySem.F.slot_list_append PySem.F.type_list_append mt_append (pv 1) (pa_cons pe_int pa_nil)))
        (pss_one (ps_ret (pe_op op_mod (pe_op op_fdiv (pe_callD (EX := fun _ => E) (r_law_mix T) (hr.mono (by decide)) rfl (pass_in tk) (pa_cons (pv 0) (pa_cons (pe_callB call_len (by rfl) T.b_len PySem.boot_len (pa_cons (pv 1) pa_nil)) pa_nil))) pe_int) (pv 2)))), ?_⟩
      refine ⟨_, rfl, .inl ⟨rfl, _, .inl (.inl hH)⟩, _, _, _, rfl, rfl, hH, ?_, ?_⟩
      · rw [List.length_replicate, sizeLine_eq]; omega
      have hrep : List.replicate n (V.int 0) ++ [V.int 0] = List.replicate (n + 1) (V.int 0) := by rw [List.replicate_succ']
      rw [hrep]
      have keep : Keep (some (sa, ta)) H (upd H ta (.lst (List.replicate (n + 1) (V.int 0)))) := fun a o hne e => by
        rw [upd_ne (hne _ rfl)]; exact e
      have hS' : SqL K (hide Pc (upd H ta (.lst (List.replicate (n + 1) (V.int 0))))) sa (ns.map V.int) := (keep.view htw).seq hS
      refine ⟨_, rfl, _, rfl, _, _, rfl, .inl ⟨_, .inl (.inl upd_same), rfl⟩, _, ns, _, rfl, hide_le.seq hS', hlen, fun i hi => ?_⟩
      refine ⟨_, _, rfl, rfl, ⟨by decide, by decide⟩, _, rfl, _, _, rfl, rfl, hm0, ?_⟩
      exact hQ _ (n + 1) _ _ (hq _ (Int.emod_nonneg _ (by omega)) (Int.emod_lt_of_pos _ hm0)) ⟨keep, ⟨fun q hq' => by
        cases hq'
        exact ⟨hP, upd_same, ns, hS', hlen⟩⟩⟩ (.int _)
/-- a drawn item of a list -/
def F_law_pick : List D → W D := fun ds Q _ n => ∃ xs : List D, ds = [.list xs] ∧ xs ≠ [] ∧ xs.length ≤ 1000000 ∧ n < 900000 ∧ ∀ x ∈ xs, Q x (n + 1)
theorem r_law_pick (T : Tx K mg ec wa CB) : Rd P w K mg base "_law_pick" 4 ["_law_script", "_law_town", "_law_some"] (spD K (ekOf ec) true 1 F_law_pick) := by
  refine T.law_pick.ok sc_law_pick (r := 0) rfl rfl (fun f cdv A outer s H E hr => ?_)
  have tk := takes_of (X := cxOf (L2.CX P w) P w K mg base N_law_pick "_law_pick" (defScope s_law_pick) f cdv A outer s H E) (E := E) rfl rfl rfl rfl
  refine ⟨_, _, (pss_one (ps_ret (pe_ix ix_seq (pv 2) (pe_callD (r_law_draw T) (hr.mono (by decide)) rfl (pass_in tk) (pa_cons (pv 0) (pa_cons (pv 1) (pa_cons (pe_callB call_len (by rfl) T.b_len PySem.boot_len (pa_cons (pv 2) pa_nil)) pa_nil)))) (fun _ _ => rfl)))), (dst_ret (dt_op dr_ix dt_var (dt_callT (da_cons (dt_cb dc_len (da_cons dt_var da_nil)) da_nil)))), ?_⟩
  intro ds Qd Ed n hl hF
  obtain ⟨xs, rfl, hne, hlen, hn, hQ⟩ := hF
  walk_at "wb"
  refine ⟨rfl, _, rfl, ?_, hn, fun d h0 h1 => ?_⟩
  · have := List.length_pos_iff.mpr hne; omega
  · obtain ⟨j, rfl⟩ := Int.eq_ofNat_of_zero_le h0
    have hj : j < xs.length := by omega
    exact ⟨_, atI_nat (List.getElem?_eq_getElem hj), hQ _ (List.getElem_mem hj)⟩
theorem r_law_refusal (T : Tx K mg ec wa CB) : Rd P w K mg base "_law_refusal" 1 ["_law_caught"] (spRef K ec) := by
  obtain ⟨f, fd, Fn, hm, hb⟩ := T.law_refusal
  refine ⟨f, fd, Fn.okX sc_law_refusal (fun vs H Q E h => by obtain ⟨_, _, rfl, _⟩ := h; rfl) (fun cdv A outer s H vs Q E hr h => ?_), hm, Fn.kp, hb⟩
  obtain ⟨a, j, rfl, hH, hQ⟩ := h
  have isi := fun {X : Cx} {v : V} {e : Expr} (hx : PE X e (tC v)) => hx
  refine ⟨_, pss_cons (ps_if (pt_cmpR op_isN (pv 0) pe_non (nomark _)) (pss_one (ps_ret (pe_tup (pa_cons pe_str pa_nil)))) pss_nil)
    (pss_cons (ps_set (i := 1) sc_law_refusal.nd rfl (Or.inl rfl) (pe_lst (pa_cons (pe_callB call_isX (by rfl) T.b_isinstance (by decide +kernel) (pa_cons (pv 0) (pa_cons (pe_glob (v := .ref (ec .row)) rfl T.x_BadRow.m rfl) pa_nil)))
      (pa_cons (pe_callB call_isX (by rfl) T.b_isinstance (by decide +kernel) (pa_cons (pv 0) (pa_cons (pe_glob (v := .ref (ec .stretch)) rfl T.x_BadStretch.m rfl) pa_nil)))
      (pa_cons (pe_callB call_isX (by rfl) T.b_isinstance (by decide +kernel) (pa_cons (pv 0) (pa_cons (pe_glob (v := .ref (ec .size)) rfl T.x_BadSize.m rfl) pa_nil))) pa_nil)))))
    (pss_cons (ps_set (i := 1) sc_law_refusal.nd rfl (Or.inl rfl) (pe_op op_cat (pv 1) (pe_lst (pa_cons (pe_callB call_isX (by rfl) T.b_isinstance (by decide +kernel) (pa_cons (pv 0) (pa_cons (pe_glob (v := .ref (ec .told)) rfl T.x_BadTold.m rfl) pa_nil)))
      (pa_cons (pe_callB call_isX (by rfl) T.b_isinstance (by decide +kernel) (pa_cons (pv 0) (pa_cons (pe_glob (v := .ref (ec .norow)) rfl T.x_NoRow.m rfl) pa_nil)))
      (pa_cons (pe_callB call_isX (by rfl) T.b_isinstance (by decide +kernel) (pa_cons (pv 0) (pa_cons (pe_glob (v := .ref (ec .number)) rfl T.x_BadNumber.m rfl) pa_nil))) pa_nil))))))
    (pss_cons (ps_expr (pe_bm PySem.F.plainAttrs_list PySem.F.slot_list_append PySem.F.type_list_append mt_append (pv 1) (pa_cons (pe_callB call_isX (by rfl) T.b_isinstance (by decide +kernel) (pa_cons (pv 0) (pa_cons (pe_glob (v := .ref (ec .text)) rfl T.x_BadText.m rfl) pa_nil))) pa_nil)))
    (pss_cons (ps_if (PW.pt (pw_or (pt_cmpR op_ne (pe_bm PySem.F.plainAttrs_list PySem.F.slot_list_count PySem.F.type_list_count mt_countF (pv 1) (pa_cons pe_bl pa_nil)) pe_int (nomark _))
      (pw_or1 (pt_not (pt_truth (pe_callB call_isX (by rfl) T.b_isinstance (by decide +kernel) (pa_cons (pv 0) (pa_cons (pe_bltn (v := .ty "ValueError") (by rfl) T.b_ValueError (by decide +kernel) rfl) pa_nil))) (by intro _; rfl)))))) (pss_one (ps_ret (pe_tup (pa_cons pe_str pa_nil)))) pss_nil)
    (pss_cons (ps_set (i := 2) sc_law_refusal.nd rfl (Or.inl rfl) (pe_lst (pa_cons pe_str (pa_cons pe_str (pa_cons pe_str (pa_cons pe_str (pa_cons pe_str (pa_cons pe_str (pa_cons pe_str pa_nil)))))))))
    (pss_one (ps_ret (pe_tup (pa_cons pe_str (pa_cons (pe_ix ix_list (pv 2) (pe_bm PySem.F.plainAttrs_list PySem.F.slot_list_index PySem.F.type_list_index mt_index (pv 1) (pa_cons pe_bl pa_nil)) (fun _ _ => rfl)) pa_nil)))))))))), ?_⟩
  -- if caught is None
  refine ⟨_, rfl, rfl, _, rfl, iteF ?_⟩
  -- the first three
  refine isi_ok T.xt rfl hH (isi_ok T.xt rfl hH (isi_ok T.xt rfl hH ⟨by show 3 ≤ sizeLine; decide, fun p1 n1 => ?_⟩))
  have e1 : ∀ {o : HO}, upd H p1 o a = some (Exv (.ref (ec j)) a) := fun {o} => by rw [upd_ne (ne_of_none hH n1)]; exact hH
  refine ⟨_, rfl, ?_⟩
  refine isi_ok T.xt rfl e1 (isi_ok T.xt rfl e1 (isi_ok T.xt rfl e1 ⟨by show 3 ≤ sizeLine; decide, fun p2 n2 => ?_⟩))
  have e2 : ∀ {o : HO}, upd (upd H p1 (.lst [.bl (decide (j = .row)), .bl (decide (j = .stretch)), .bl (decide (j = .size))])) p2 o a = some (Exv (.ref (ec j)) a) := fun {o} => by rw [upd_ne (ne_of_none e1 n2)]; exact e1
  have p12 : p1 ≠ p2 := ne_of_none upd_same n2
  refine ⟨_, _, _, _, rfl, rfl, by rw [upd_ne p12]; exact upd_same, upd_same, by show 3 + 3 ≤ sizeLine; decide, fun p3 n3 => ?_⟩
  have e3 : ∀ {o : HO}, upd (upd (upd H p1 (.lst [.bl (decide (j = .row)), .bl (decide (j = .stretch)), .bl (decide (j = .size))])) p2 (.lst [.bl (decide (j = .told)), .bl (decide (j = .norow)), .bl (decide (j = .number))])) p3 o a = some (Exv (.ref (ec j)) a) := fun {o} => by rw [upd_ne (ne_of_none e2 n3)]; exact e2
  -- append
  refine ⟨_, rfl, .inl ⟨rfl, _, .inl (.inl upd_same)⟩, ?_⟩
  refine isi_ok T.xt rfl e3 ⟨p3, _, _, rfl, rfl, upd_same, by show 6 < sizeLine; decide, ?_⟩
  rw [upd_upd]
  -- count
  refine ⟨_, rfl, .inl ⟨rfl, _, .inl (.inl upd_same)⟩, ⟨p3, _, _, rfl, rfl, .inl (.inl upd_same), rfl, rfl, ?_⟩⟩
  have hc : (([V.bl (decide (j = .row)), .bl (decide (j = .stretch)), .bl (decide (j = .size))] ++ [V.bl (decide (j = .told)), .bl (decide (j = .norow)), .bl (decide (j = .number))] ++ [V.bl (decide (j = .text))]).countP fun z => eqV z (.bl true)) = 1 := by
    cases j <;> rfl
  rw [hc]
  refine ⟨rfl, _, rfl, iteNS rfl ?_⟩
  refine isi_okV T.xt rfl e3 ⟨true, rfl, iteF ?_⟩
  refine ⟨by show 7 ≤ sizeLine; decide, fun p4 n4 => ?_⟩
  have p34 : p3 ≠ p4 := ne_of_none upd_same n4
  refine ⟨_, rfl, _, rfl, .inl ⟨rfl, _, .inl (.inl (by rw [upd_ne p34]; exact upd_same))⟩, ?_⟩
  have sm : ∀ {o o5 : HO}, Same H (upd (upd (upd (upd H p1 (.lst [.bl (decide (j = .row)), .bl (decide (j = .stretch)), .bl (decide (j = .size))])) p2 (.lst [.bl (decide (j = .told)), .bl (decide (j = .norow)), .bl (decide (j = .number))])) p3 o) p4 o5) := by
    intro o o5 b u hb
    have h1 := same_new (o := .lst [.bl (decide (j = .row)), .bl (decide (j = .stretch)), .bl (decide (j = .size))]) n1 b u hb
    have h2 := same_new (o := .lst [.bl (decide (j = .told)), .bl (decide (j = .norow)), .bl (decide (j = .number))]) n2 b u h1
    have h3 := same_new (o := o) n3 b u h2
    have n4' : upd (upd (upd H p1 (.lst [.bl (decide (j = .row)), .bl (decide (j = .stretch)), .bl (decide (j = .size))])) p2 (.lst [.bl (decide (j = .told)), .bl (decide (j = .norow)), .bl (decide (j = .number))])) p3 o p4 = none := by
      rw [upd_ne (Ne.symm p34)]
      rw [upd_ne (Ne.symm p34)] at n4
      exact n4
    exact same_new (o := o5) n4' b u h3
  have hi : ∃ i : Nat, (∃ z, ([V.bl (decide (j = .row)), .bl (decide (j = .stretch)), .bl (decide (j = .size))] ++ [V.bl (decide (j = .told)), .bl (decide (j = .norow)), .bl (decide (j = .number))] ++ [V.bl (decide (j = .text))])[i]? = some z ∧ eqV z (.bl true) = true) ∧
      (∀ (m : Nat) (z' : V), m < i → ([V.bl (decide (j = .row)), .bl (decide (j = .stretch)), .bl (decide (j = .size))] ++ [V.bl (decide (j = .told)), .bl (decide (j = .norow)), .bl (decide (j = .number))] ++ [V.bl (decide (j = .text))])[m]? = some z' → eqV z' (.bl true) = false) ∧
      [V.str "row", .str "stretch", .str "size", .str "told", .str "no row", .str "number", .str "text"][i]? = some (.str (Str.ofString (kdWord j))) := by
    cases j
    · exact ⟨0, ⟨_, rfl, rfl⟩, fun m z' h => by omega, rfl⟩
    · exact ⟨1, ⟨_, rfl, rfl⟩, fun m z' h e => by match m, h with | 0, _ => cases e; rfl, rfl⟩
    · exact ⟨2, ⟨_, rfl, rfl⟩, fun m z' h e => by match m, h with | 0, _ | 1, _ => cases e; rfl, rfl⟩
    · exact ⟨3, ⟨_, rfl, rfl⟩, fun m z' h e => by match m, h with | 0, _ | 1, _ | 2, _ => cases e; rfl, rfl⟩
    · exact ⟨4, ⟨_, rfl, rfl⟩, fun m z' h e => by match m, h with | 0, _ | 1, _ | 2, _ | 3, _ => cases e; rfl, rfl⟩
    · exact ⟨5, ⟨_, rfl, rfl⟩, fun m z' h e => by match m, h with | 0, _ | 1, _ | 2, _ | 3, _ | 4, _ => cases e; rfl, rfl⟩
    · exact ⟨6, ⟨_, rfl, rfl⟩, fun m z' h e => by match m, h with | 0, _ | 1, _ | 2, _ | 3, _ | 4, _ | 5, _ => cases e; rfl, rfl⟩
  obtain ⟨i, ⟨z, hz1, hz2⟩, hno, hw⟩ := hi
  refine ⟨_, _, _, i, z, rfl, rfl, .inl (.inl (by rw [upd_ne p34]; exact upd_same)), rfl, rfl, hz1, hz2, hno, ?_⟩
  refine ⟨_, _, _, _, rfl, rfl, .inl (.inl upd_same), atI_nat hw, by show 2 ≤ sizeLine; decide, fun p5 n5 => ?_⟩
  refine hQ _ _ (fun b u hb => same_new n5 b u (sm b u hb)) fun Pc hP => .tup (.inl (.inl (hide_some.mpr ⟨fun q => ?_, upd_same⟩))) (.cons (.str _) (.cons (.str _) .nil))
  cases z : H p5 with
  | none => exact hP p5 q z
  | some u =>
    have e5 := n5.symm.trans (sm p5 u z)
    cases e5
/-- what is handed in with a kind -/
def eSome (size most : Int) (told : List Fact) (row : List Int) (f : Fact) (num : Int) : D := .list [.int size, .int most, eFs told, eR row, eF f, .int num]
/-- how a deed refuses -/
def refuses91 (kind : Nat) (size most : Int) (told : List Fact) (row : List Int) (f : Fact) (num : Int) (k : Kd) : Prop :=
  o_look_told size most told = .error k ∨ (o_look_told size most told = .ok .none ∧ (((kind = 0 ∨ kind = 3) ∧ o_look_row row = .error k) ∨ ((kind = 16 ∨ kind = 17 ∨ kind = 18 ∨ kind = 19) ∧ isF size most f = false ∧ o_look_told size most [f] = .error k ∧ k = .told) ∨ (kind = 5 ∧ ¬ (0 ≤ num ∧ num < size) ∧ k = .stretch)))
def F_law_one_b : List D → W D := fun ds _ E n => ∃ (kind : Nat) (size most : Int) (told : List Fact) (row : List Int) (f : Fact) (num : Int) (k : Kd), ds = [.int kind, eSome size most told row f num] ∧ 13 ≤ kind ∧ kind < 21 ∧ told.length ≤ 1000 ∧ row.length ≤ 1000 ∧ refuses91 kind size most told row f num k ∧ E k n
theorem r_law_one_b (T : Tx K mg ec wa CB) : Rd P w K mg base "_law_one_b" 6 ["_law_kind", "_law_some"] (spD K (ekOf ec) false 2 F_law_one_b) := by
  refine T.law_one_b.ok sc_law_one_b (r := 5) rfl rfl (fun f cdv A outer s H E hr => ?_)
  have tk := takes_of (X := cxOf (L2.CX P w) P w K mg base N_law_one_b "_law_one_b" (defScope s_law_one_b) f cdv A outer s H E) (E := E) rfl rfl rfl rfl
  refine ⟨_, _, (pss_cons (ps_set (i := 2) sc_law_one_b.nd rfl (Or.inl rfl) (pe_ix ix_seq (pv 1) pe_int (fun _ _ => rfl))) (pss_cons (ps_set (i := 3) sc_law_one_b.nd rfl (Or.inl rfl) (pe_ix ix_seq (pv 1) pe_int (fun _ _ => rfl))) (pss_cons (ps_set (i := 4) sc_law_one_b.nd rfl (Or.inl rfl) (pe_ix ix_seq (pv 1) pe_int (fun _ _ => rfl))) (pss_cons (ps_set (i := 5) sc_law_one_b.nd rfl (Or.inl rfl) (pe_ix ix_seq (pv 1) pe_int (fun _ _ => rfl))) (pss_cons (ps_set (i := 6) sc_law_one_b.nd rfl (Or.inl rfl) (pe_ix ix_seq (pv 1) pe_int (fun _ _ => rfl))) (pss_cons (ps_if (pt_cmpR (op_eqD hr.units) (pv 0) pe_int (nomark _)) (pss_one (ps_ret (pe_callD (r_worths T) (hr.mono (by decide)) rfl (pass_in tk) (pa_cons (pv 2) (pa_cons (pv 3) (pa_cons (pv 4) (pa_cons pe_str (pa_cons (pv 6) (pa_cons (pv 6) pa_nil))))))))) pss_nil) (pss_cons (ps_if (pt_cmpR (op_eqD hr.units) (pv 0) pe_int (nomark _)) (pss_one (ps_ret (pe_callD (r_needless T) (hr.mono (by decide)) rfl (pass_in tk) (pa_cons (pv 2) (pa_cons (pv 3) (pa_cons (pv 4) pa_nil)))))) pss_nil) (pss_cons (ps_if (pt_cmpR (op_eqD hr.units) (pv 0) pe_int (nomark _)) (pss_one (ps_ret (pe_callD (r_lessened T) (hr.mono (by decide)) rfl (pass_in tk) (pa_cons (pv 2) (pa_cons (pv 3) (pa_cons (pv 4) pa_nil)))))) pss_nil) (pss_cons (ps_if (pt_cmpR (op_eqD hr.units) (pv 0) pe_int (nomark _)) (pss_one (ps_ret (pe_callD (r_follows T) (hr.mono (by decide)) rfl (pass_in tk) (pa_cons (pv 2) (pa_cons (pv 3) (pa_cons (pv 4) (pa_cons (pv 5) pa_nil))))))) pss_nil) (pss_cons (ps_if (pt_cmpR (op_eqD hr.units) (pv 0) pe_int (nomark _)) (pss_one (ps_ret (pe_callD (r_are_alike T) (hr.mono (by decide)) rfl (pass_in tk) (pa_cons (pv 2) (pa_cons (pv 3) (pa_cons (pv 4) (pa_cons (pe_lst (pa_cons (pv 5) pa_nil)) pa_nil))))))) pss_nil) (pss_cons (ps_if (pt_cmpR (op_eqD hr.units) (pv 0) pe_int (nomark _)) (pss_one (ps_ret (pe_callD (r_parting T) (hr.mono (by decide)) rfl (pass_in tk) (pa_cons (pv 2) (pa_cons (pv 3) (pa_cons (pv 4) (pa_cons (pv 5) pa_nil))))))) pss_nil) (pss_cons (ps_if (pt_cmpR (op_eqD hr.units) (pv 0) pe_int (nomark _)) (pss_one (ps_ret (pe_callD (r_first_apart T) (hr.mono (by decide)) rfl (pass_in tk) (pa_cons (pv 2) (pa_cons (pv 3) (pa_cons (pv 4) (pa_cons (pe_lst (pa_cons (pv 5) pa_nil)) pa_nil))))))) pss_nil) (pss_cons (ps_if (pt_cmpR (op_eqD hr.units) (pv 0) pe_int (nomark _)) (pss_one (ps_ret (pe_callD (r_written T) (hr.mono (by decide)) rfl (pass_in tk) (pa_cons (pv 2) (pa_cons (pv 3) (pa_cons (pv 4) pa_nil)))))) pss_nil) (pss_one (ps_ret pe_non))))))))))))))), (dst_seq (dst_set (by decide) (dt_op dr_ix dt_var dt_int)) (dst_seq (dst_set (by decide) (dt_op dr_ix dt_var dt_int)) (dst_seq (dst_set (by decide) (dt_op dr_ix dt_var dt_int)) (dst_seq (dst_set (by decide) (dt_op dr_ix dt_var dt_int)) (dst_seq (dst_set (by decide) (dt_op dr_ix dt_var dt_int)) (dst_seq (dst_if (db_test (dt_op dr_eq dt_var dt_int)) (dst_ret (dt_callP (da_cons dt_var (da_cons dt_var (da_cons dt_var (da_cons dt_str (da_cons dt_var (da_cons dt_var da_nil)))))))) dst_next) (dst_seq (dst_if (db_test (dt_op dr_eq dt_var dt_int)) (dst_ret (dt_callP (da_cons dt_var (da_cons dt_var (da_cons dt_var da_nil))))) dst_next) (dst_seq (dst_if (db_test (dt_op dr_eq dt_var dt_int)) (dst_ret (dt_callP (da_cons dt_var (da_cons dt_var (da_cons dt_var da_nil))))) dst_next) (dst_seq (dst_if (db_test (dt_op dr_eq dt_var dt_int)) (dst_ret (dt_callP (da_cons dt_var (da_cons dt_var (da_cons dt_var (da_cons dt_var da_nil)))))) dst_next) (dst_seq (dst_if (db_test (dt_op dr_eq dt_var dt_int)) (dst_ret (dt_callP (da_cons dt_var (da_cons dt_var (da_cons dt_var (da_cons (df_lst (da_cons dt_var da_nil)).dt da_nil)))))) dst_next) (dst_seq (dst_if (db_test (dt_op dr_eq dt_var dt_int)) (dst_ret (dt_callP (da_cons dt_var (da_cons dt_var (da_cons dt_var (da_cons dt_var da_nil)))))) dst_next) (dst_seq (dst_if (db_test (dt_op dr_eq dt_var dt_int)) (dst_ret (dt_callP (da_cons dt_var (da_cons dt_var (da_cons dt_var (da_cons (df_lst (da_cons dt_var da_nil)).dt da_nil)))))) dst_next) (dst_seq (dst_if (db_test (dt_op dr_eq dt_var dt_int)) (dst_ret (dt_callP (da_cons dt_var (da_cons dt_var (da_cons dt_var da_nil))))) dst_next) (dst_ret dt_non)))))))))))))), ?_⟩
  intro ds Qd Ed n hl hF
  obtain ⟨kind, a, b, told, row, f, num, k, rfl, hk0, hk, hlen, hlen2, hr, h⟩ := hF
  unfold eSome eFs eF
  walk_at "w1"
  walk_at "wn"
  refine ⟨_, atI_nat (j := 0) rfl, ?_⟩
  walk_at "wn"
  refine ⟨_, atI_nat (j := 1) rfl, ?_⟩
  walk_at "wn"
  refine ⟨_, atI_nat (j := 2) rfl, ?_⟩
  walk_at "wn"
  refine ⟨_, atI_nat (j := 4) rfl, ?_⟩
  walk_at "wn"
  refine ⟨_, atI_nat (j := 5) rfl, ?_⟩
  unfold refuses91 at hr
  have hT : ∀ g : Fact, o_look_told a b told = .error k → o_look_fact a b told g = .error k := fun g e => by unfold o_look_fact; rw [e]
  have hA : kind ≠ 16 → kind ≠ 17 → kind ≠ 18 → kind ≠ 19 → o_look_told a b told = .error k := fun q1 q2 q3 q4 => by
    rcases hr with hr | ⟨_, ⟨q, _⟩ | ⟨q, _⟩ | ⟨q, _⟩⟩
    · exact hr
    all_goals omega
  have hB : o_look_told a b told = .error k ∨ o_look_told a b told = .ok .none ∧ isF a b f = false ∧ o_look_told a b [f] = .error k ∧ k = .told ∨ (kind ≠ 16 ∧ kind ≠ 17 ∧ kind ≠ 18 ∧ kind ≠ 19) := by
    rcases hr with hr | ⟨z, ⟨q, _⟩ | ⟨q, hz⟩ | ⟨q, _⟩⟩
    · exact .inl hr
    · exact .inr (.inr (by omega))
    · exact .inr (.inl ⟨z, hz⟩)
    · exact .inr (.inr (by omega))
  have hF : ¬ (kind ≠ 16 ∧ kind ≠ 17 ∧ kind ≠ 18 ∧ kind ≠ 19) → o_look_fact a b told f = .error k := fun q => by
    rcases hB with e | ⟨z, z1, _, rfl⟩ | e
    · exact hT _ e
    · unfold o_look_fact; rw [z]; show (if isF a b f = true then _ else _) = _; rw [if_neg (by rw [z1]; exact Bool.false_ne_true)]
    · exact (q e).elim
  have hO : ¬ (kind ≠ 16 ∧ kind ≠ 17 ∧ kind ≠ 18 ∧ kind ≠ 19) → o_look_told a b told = .error k ∨ (o_look_told a b told = .ok .none ∧ o_look_told a b [f] = .error k) := fun q => by
    rcases hB with e | ⟨z, _, z2, _⟩ | e
    · exact .inl e
    · exact .inr ⟨z, z2⟩
    · exact (q e).elim
  clear hr hB
  match kind, hk0, hk with
  | 13, _, _ => iterate 1 refine ⟨rfl, rfl, ?_⟩
                exact ⟨rfl, a, b, told, _, num, num, k, rfl, hlen, hT _ (hA (by omega) (by omega) (by omega) (by omega)), h⟩
  | 14, _, _ => iterate 2 refine ⟨rfl, rfl, ?_⟩
                exact ⟨rfl, a, b, told, k, rfl, hlen, hA (by omega) (by omega) (by omega) (by omega), h⟩
  | 15, _, _ => iterate 3 refine ⟨rfl, rfl, ?_⟩
                exact ⟨rfl, a, b, told, k, rfl, hlen, hA (by omega) (by omega) (by omega) (by omega), h⟩
  | 16, _, _ => iterate 4 refine ⟨rfl, rfl, ?_⟩
                exact ⟨rfl, a, b, told, f, k, rfl, hlen, hF (by omega), h⟩
  | 17, _, _ => iterate 5 refine ⟨rfl, rfl, ?_⟩
                exact ⟨by show 1 ≤ 100000; decide, rfl, a, b, told, [f], k, rfl, hlen, by simp, hO (by omega), h⟩
  | 18, _, _ => iterate 6 refine ⟨rfl, rfl, ?_⟩
                exact ⟨rfl, a, b, told, f, k, rfl, hlen, hF (by omega), h⟩
  | 19, _, _ => iterate 7 refine ⟨rfl, rfl, ?_⟩
                exact ⟨by show 1 ≤ 100000; decide, rfl, a, b, told, [f], k, rfl, hlen, by simp, hO (by omega), h⟩
  | 20, _, _ => iterate 8 refine ⟨rfl, rfl, ?_⟩
                exact ⟨rfl, a, b, told, k, rfl, hlen, hA (by omega) (by omega) (by omega) (by omega), h⟩
  | k + 21, _, q => omega
def F_law_one : List D → W D := fun ds _ E n => ∃ (kind : Nat) (size most : Int) (told : List Fact) (row : List Int) (f : Fact) (num : Int) (k : Kd), ds = [.int kind, eSome size most told row f num] ∧ kind < 21 ∧ told.length ≤ 1000 ∧ row.length ≤ 1000 ∧ refuses91 kind size most told row f num k ∧ E k n
theorem r_law_one (T : Tx K mg ec wa CB) : Rd P w K mg base "_law_one" 7 ["_law_kind", "_law_some"] (spD K (ekOf ec) false 2 F_law_one) := by
  refine T.law_one.ok sc_law_one (r := 5) rfl rfl (fun f cdv A outer s H E hr => ?_)
  have tk := takes_of (X := cxOf (L2.CX P w) P w K mg base N_law_one "_law_one" (defScope s_law_one) f cdv A outer s H E) (E := E) rfl rfl rfl rfl
  refine ⟨_, _, (pss_cons (ps_set (i := 2) sc_law_one.nd rfl (Or.inl rfl) (pe_ix ix_seq (pv 1) pe_int (fun _ _ => rfl))) (pss_cons (ps_set (i := 3) sc_law_one.nd rfl (Or.inl rfl) (pe_ix ix_seq (pv 1) pe_int (fun _ _ => rfl))) (pss_cons (ps_set (i := 4) sc_law_one.nd rfl (Or.inl rfl) (pe_ix ix_seq (pv 1) pe_int (fun _ _ => rfl))) (pss_cons (ps_set (i := 5) sc_law_one.nd rfl (Or.inl rfl) (pe_ix ix_seq (pv 1) pe_int (fun _ _ => rfl))) (pss_cons (ps_set (i := 6) sc_law_one.nd rfl (Or.inl rfl) (pe_ix ix_seq (pv 1) pe_int (fun _ _ => rfl))) (pss_cons (ps_if (pt_cmpR (op_eqD hr.units) (pv 0) pe_int (nomark _)) (pss_one (ps_ret (pe_callD (r_broken T) (hr.mono (by decide)) rfl (pass_in tk) (pa_cons (pv 2) (pa_cons (pv 3) (pa_cons (pv 4) (pa_cons (pv 5) pa_nil))))))) pss_nil) (pss_cons (ps_if (pt_cmpR (op_eqD hr.units) (pv 0) pe_int (nomark _)) (pss_one (ps_ret (pe_callD (r_bounds T) (hr.mono (by decide)) rfl (pass_in tk) (pa_cons (pv 2) (pa_cons (pv 3) (pa_cons (pv 4) pa_nil)))))) pss_nil) (pss_cons (ps_if (pt_cmpR (op_eqD hr.units) (pv 0) pe_int (nomark _)) (pss_one (ps_ret (pe_callD (r_how_many T) (hr.mono (by decide)) rfl (pass_in tk) (pa_cons (pv 2) (pa_cons (pv 3) (pa_cons (pv 4) pa_nil)))))) pss_nil) (pss_cons (ps_if (pt_cmpR (op_eqD hr.units) (pv 0) pe_int (nomark _)) (pss_one (ps_ret (pe_callD (r_number_of T) (hr.mono (by decide)) rfl (pass_in tk) (pa_cons (pv 2) (pa_cons (pv 3) (pa_cons (pv 4) (pa_cons (pv 5) pa_nil))))))) pss_nil) (pss_cons (ps_if (pt_cmpR (op_eqD hr.units) (pv 0) pe_int (nomark _)) (pss_one (ps_ret (pe_callD (r_row_at T) (hr.mono (by decide)) rfl (pass_in tk) (pa_cons (pv 2) (pa_cons (pv 3) (pa_cons (pv 4) (pa_cons (pv 6) pa_nil))))))) pss_nil) (pss_cons (ps_if (pt_cmpR (op_eqD hr.units) (pv 0) pe_int (nomark _)) (pss_one (ps_ret (pe_callD (r_may T) (hr.mono (by decide)) rfl (pass_in tk) (pa_cons (pv 2) (pa_cons (pv 3) (pa_cons (pv 4) (pa_cons (pv 6) pa_nil))))))) pss_nil) (pss_cons (ps_if (pt_cmpR (op_eqD hr.units) (pv 0) pe_int (nomark _)) (pss_one (ps_ret (pe_callD (r_sure T) (hr.mono (by decide)) rfl (pass_in tk) (pa_cons (pv 2) (pa_cons (pv 3) (pa_cons (pv 4) pa_nil)))))) pss_nil) (pss_cons (ps_if (pt_cmpR (op_eqD hr.units) (pv 0) pe_int (nomark _)) (pss_one (ps_ret (pe_callD (r_clash T) (hr.mono (by decide)) rfl (pass_in tk) (pa_cons (pv 2) (pa_cons (pv 3) (pa_cons (pv 4) pa_nil)))))) pss_nil) (pss_cons (ps_if (pt_cmpR (op_eqD hr.units) (pv 0) pe_int (nomark _)) (pss_one (ps_ret (pe_callD (r_is_clash T) (hr.mono (by decide)) rfl (pass_in tk) (pa_cons (pv 2) (pa_cons (pv 3) (pa_cons (pv 4) (pa_cons (pe_lst (pa_cons pe_int pa_nil)) pa_nil))))))) pss_nil) (pss_cons (ps_if (pt_cmpR (op_eqD hr.units) (pv 0) pe_int (nomark _)) (pss_one (ps_ret (pe_callD (r_left_out T) (hr.mono (by decide)) rfl (pass_in tk) (pa_cons (pv 2) (pa_cons (pv 3) (pa_cons (pv 4) pa_nil)))))) pss_nil) (pss_cons (ps_if (pt_cmpR (op_eqD hr.units) (pv 0) pe_int (nomark _)) (pss_one (ps_ret (pe_callD (r_first_row T) (hr.mono (by decide)) rfl (pass_in tk) (pa_cons (pv 2) (pa_cons (pv 3) (pa_cons (pv 4) pa_nil)))))) pss_nil) (pss_cons (ps_if (pt_cmpR (op_eqD hr.units) (pv 0) pe_int (nomark _)) (pss_one (ps_ret (pe_callD (r_mended T) (hr.mono (by decide)) rfl (pass_in tk) (pa_cons (pv 2) (pa_cons (pv 3) (pa_cons (pv 4) pa_nil)))))) pss_nil) (pss_cons (ps_if (pt_cmpR (op_eqD hr.units) (pv 0) pe_int (nomark _)) (pss_one (ps_ret (pe_callD (r_least_cost T) (hr.mono (by decide)) rfl (pass_in tk) (pa_cons (pv 2) (pa_cons (pv 3) (pa_cons (pv 4) pa_nil)))))) pss_nil) (pss_one (ps_ret (pe_callD (r_law_one_b T) (hr.mono (by decide)) rfl (pass_in tk) (pa_cons (pv 0) (pa_cons (pv 1) pa_nil))))))))))))))))))))))), (dst_seq (dst_set (by decide) (dt_op dr_ix dt_var dt_int)) (dst_seq (dst_set (by decide) (dt_op dr_ix dt_var dt_int)) (dst_seq (dst_set (by decide) (dt_op dr_ix dt_var dt_int)) (dst_seq (dst_set (by decide) (dt_op dr_ix dt_var dt_int)) (dst_seq (dst_set (by decide) (dt_op dr_ix dt_var dt_int)) (dst_seq (dst_if (db_test (dt_op dr_eq dt_var dt_int)) (dst_ret (dt_callP (da_cons dt_var (da_cons dt_var (da_cons dt_var (da_cons dt_var da_nil)))))) dst_next) (dst_seq (dst_if (db_test (dt_op dr_eq dt_var dt_int)) (dst_ret (dt_callP (da_cons dt_var (da_cons dt_var (da_cons dt_var da_nil))))) dst_next) (dst_seq (dst_if (db_test (dt_op dr_eq dt_var dt_int)) (dst_ret (dt_callP (da_cons dt_var (da_cons dt_var (da_cons dt_var da_nil))))) dst_next) (dst_seq (dst_if (db_test (dt_op dr_eq dt_var dt_int)) (dst_ret (dt_callP (da_cons dt_var (da_cons dt_var (da_cons dt_var (da_cons dt_var da_nil)))))) dst_next) (dst_seq (dst_if (db_test (dt_op dr_eq dt_var dt_int)) (dst_ret (dt_callP (da_cons dt_var (da_cons dt_var (da_cons dt_var (da_cons dt_var da_nil)))))) dst_next) (dst_seq (dst_if (db_test (dt_op dr_eq dt_var dt_int)) (dst_ret (dt_callP (da_cons dt_var (da_cons dt_var (da_cons dt_var (da_cons dt_var da_nil)))))) dst_next) (dst_seq (dst_if (db_test (dt_op dr_eq dt_var dt_int)) (dst_ret (dt_callP (da_cons dt_var (da_cons dt_var (da_cons dt_var da_nil))))) dst_next) (dst_seq (dst_if (db_test (dt_op dr_eq dt_var dt_int)) (dst_ret (dt_callP (da_cons dt_var (da_cons dt_var (da_cons dt_var da_nil))))) dst_next) (dst_seq (dst_if (db_test (dt_op dr_eq dt_var dt_int)) (dst_ret (dt_callP (da_cons dt_var (da_cons dt_var (da_cons dt_var (da_cons (df_lst (da_cons dt_int da_nil)).dt da_nil)))))) dst_next) (dst_seq (dst_if (db_test (dt_op dr_eq dt_var dt_int)) (dst_ret (dt_callP (da_cons dt_var (da_cons dt_var (da_cons dt_var da_nil))))) dst_next) (dst_seq (dst_if (db_test (dt_op dr_eq dt_var dt_int)) (dst_ret (dt_callP (da_cons dt_var (da_cons dt_var (da_cons dt_var da_nil))))) dst_next) (dst_seq (dst_if (db_test (dt_op dr_eq dt_var dt_int)) (dst_ret (dt_callP (da_cons dt_var (da_cons dt_var (da_cons dt_var da_nil))))) dst_next) (dst_seq (dst_if (db_test (dt_op dr_eq dt_var dt_int)) (dst_ret (dt_callP (da_cons dt_var (da_cons dt_var (da_cons dt_var da_nil))))) dst_next) (dst_ret (dt_callP (da_cons dt_var (da_cons dt_var da_nil)))))))))))))))))))))), ?_⟩
  intro ds Qd Ed n hl hF
  obtain ⟨kind, a, b, told, row, f, num, k, rfl, hk, hlen, hlen2, hr, h⟩ := hF
  have hbk : 13 ≤ kind → F_law_one_b [.int kind, eSome a b told row f num] (fun d _ => Qd d n) (fun k _ => Ed k n) 0 := fun q => ⟨kind, a, b, told, row, f, num, k, rfl, q, hk, hlen, hlen2, hr, h⟩
  unfold eSome eFs eF at hbk ⊢
  walk_at "w1"
  walk_at "wn"
  refine ⟨_, atI_nat (j := 0) rfl, ?_⟩
  walk_at "wn"
  refine ⟨_, atI_nat (j := 1) rfl, ?_⟩
  walk_at "wn"
  refine ⟨_, atI_nat (j := 2) rfl, ?_⟩
  walk_at "wn"
  refine ⟨_, atI_nat (j := 3) rfl, ?_⟩
  walk_at "wn"
  refine ⟨_, atI_nat (j := 5) rfl, ?_⟩
  unfold refuses91 at hr
  have out_err' : ∀ {o : Except Kd D} {Q : D → Nat → Prop} {E : Kd → Nat → Prop}, o = .error k → E k 0 → out o Q E 0 := fun e h => by rw [e]; exact h
  have hA : kind < 13 → kind ≠ 0 → kind ≠ 3 → kind ≠ 5 → o_look_told a b told = .error k := fun q0 q1 q2 q3 => by
    rcases hr with hr | ⟨_, ⟨q, _⟩ | ⟨q, _⟩ | ⟨q, _⟩⟩
    · exact hr
    all_goals omega
  have hR : kind = 0 ∨ kind = 3 → o_look_told a b told = .error k ∨ (o_look_told a b told = .ok .none ∧ o_look_row row = .error k) := fun q0 => by
    rcases hr with hr | ⟨z, ⟨q, z2⟩ | ⟨q, _⟩ | ⟨q, _⟩⟩
    · exact .inl hr
    · exact .inr ⟨z, z2⟩
    all_goals omega
  have hM : kind = 5 → o_look_told a b told = .error k ∨ (o_look_told a b told = .ok .none ∧ ¬ (0 ≤ num ∧ num < a) ∧ k = .stretch) := fun q0 => by
    rcases hr with hr | ⟨z, ⟨q, z2⟩ | ⟨q, _⟩ | ⟨q, z2⟩⟩
    · exact .inl hr
    · omega
    · omega
    · exact .inr ⟨z, z2⟩
  have hB : kind = 0 → o_broken a b told row = .error k := fun q => by
    unfold o_broken
    rcases hR (.inl q) with e | ⟨e, e2⟩
    · rw [e]
    · rw [e]
      unfold o_look_row at e2
      split at e2
      · cases e2
      · next g => cases e2; show (if rowOk row = true then _ else _) = _; rw [if_neg g]
  clear hr
  by_cases hk13 : 13 ≤ kind
  · have ne : ∀ j : Int, j < 13 → ∀ {q : D → Prop}, q (.bool false) → eqD (.int kind) (.int j) q := fun j hj q hq => ⟨rfl, rfl, by rw [eqv_int, decide_eq_false (by omega)]; exact hq⟩
    walk_at "wn"
    refine ne 0 (by decide) ?_
    walk_at "w1"
    walk_at "wn"
    refine ne 1 (by decide) ?_
    walk_at "w1"
    walk_at "wn"
    refine ne 2 (by decide) ?_
    walk_at "w1"
    walk_at "wn"
    refine ne 3 (by decide) ?_
    walk_at "w1"
    walk_at "wn"
    refine ne 4 (by decide) ?_
    walk_at "w1"
    walk_at "wn"
    refine ne 5 (by decide) ?_
    walk_at "w1"
    walk_at "wn"
    refine ne 6 (by decide) ?_
    walk_at "w1"
    walk_at "wn"
    refine ne 7 (by decide) ?_
    walk_at "w1"
    walk_at "wn"
    refine ne 8 (by decide) ?_
    walk_at "w1"
    walk_at "wn"
    refine ne 9 (by decide) ?_
    walk_at "w1"
    walk_at "wn"
    refine ne 10 (by decide) ?_
    walk_at "w1"
    walk_at "wn"
    refine ne 11 (by decide) ?_
    walk_at "w1"
    walk_at "wn"
    refine ne 12 (by decide) ?_
    walk_at "w1"
    exact ⟨rfl, hbk hk13⟩
  clear hbk hk
  match kind, hk13 with
  | 0, _ => iterate 1 refine ⟨rfl, rfl, ?_⟩
            exact ⟨rfl, a, b, told, row, rfl, hlen, hlen2, out_err' (hB rfl) h⟩
  | 1, _ => iterate 2 refine ⟨rfl, rfl, ?_⟩
            exact ⟨rfl, a, b, told, rfl, hlen, out_err' (by unfold o_bounds; rw [hA (by omega) (by omega) (by omega) (by omega)]) h⟩
  | 2, _ => iterate 3 refine ⟨rfl, rfl, ?_⟩
            exact ⟨rfl, a, b, told, k, rfl, hlen, hA (by omega) (by omega) (by omega) (by omega), h⟩
  | 3, _ => iterate 4 refine ⟨rfl, rfl, ?_⟩
            exact ⟨rfl, a, b, told, row, k, rfl, hlen, hlen2, hR (.inr rfl), h⟩
  | 4, _ => iterate 5 refine ⟨rfl, rfl, ?_⟩
            exact ⟨rfl, a, b, told, _, k, rfl, hlen, hA (by omega) (by omega) (by omega) (by omega), h⟩
  | 5, _ => iterate 6 refine ⟨rfl, rfl, ?_⟩
            exact ⟨rfl, a, b, told, num, k, rfl, hlen, hM rfl, h⟩
  | 6, _ => iterate 7 refine ⟨rfl, rfl, ?_⟩
            exact ⟨rfl, a, b, told, k, rfl, hlen, hA (by omega) (by omega) (by omega) (by omega), h⟩
  | 7, _ => iterate 8 refine ⟨rfl, rfl, ?_⟩
            exact ⟨rfl, a, b, told, k, rfl, hlen, hA (by omega) (by omega) (by omega) (by omega), h⟩
  | 8, _ => iterate 9 refine ⟨rfl, rfl, ?_⟩
            exact ⟨by show 1 ≤ 100000; decide, rfl, a, b, told, _, k, rfl, hlen, hA (by omega) (by omega) (by omega) (by omega), h⟩
  | 9, _ => iterate 10 refine ⟨rfl, rfl, ?_⟩
            exact ⟨rfl, a, b, told, k, rfl, hlen, hA (by omega) (by omega) (by omega) (by omega), h⟩
  | 10, _ => iterate 11 refine ⟨rfl, rfl, ?_⟩
             exact ⟨rfl, a, b, told, k, rfl, hlen, hA (by omega) (by omega) (by omega) (by omega), h⟩
  | 11, _ => iterate 12 refine ⟨rfl, rfl, ?_⟩
             exact ⟨rfl, a, b, told, k, rfl, hlen, hA (by omega) (by omega) (by omega) (by omega), h⟩
  | 12, _ => iterate 13 refine ⟨rfl, rfl, ?_⟩
             exact ⟨rfl, a, b, told, k, rfl, hlen, hA (by omega) (by omega) (by omega) (by omega), h⟩
  | k + 13, q => omega
def F_law_told : List D → W D := fun ds Q _ n => ∃ (kind : Nat) (size most : Int) (told : List Fact) (row : List Int) (f : Fact) (num : Int) (k : Kd), ds = [.int kind, eSome size most told row f num] ∧ kind < 21 ∧ told.length ≤ 1000 ∧ row.length ≤ 1000 ∧ refuses91 kind size most told row f num k ∧ Q (eRef k) n
theorem r_law_told (T : Tx K mg ec wa CB) : Rd P w K mg base "_law_told" 8 ["_law_kind", "_law_some"] (spD K (ekOf ec) false 2 F_law_told) := by
  refine T.law_told.ok sc_law_told (r := 3) rfl rfl (fun f cdv A outer s H E hr => ?_)
  have tk := takes_of (X := cxOf (L2.CX P w) P w K mg base N_law_told "_law_told" (defScope s_law_told) f cdv A outer s H E) (E := E) rfl rfl rfl rfl
  refine ⟨_, _, (pss_cons (ps_set (i := 2) sc_law_told.nd rfl (Or.inl rfl) pe_non) (pss_cons (ps_set (i := 3) sc_law_told.nd rfl (Or.inl rfl) pe_non) (pss_cons (ps_try_keep (i := 4) (j := 2) rfl rfl sc_law_told.nd rfl rfl rfl rfl ⟨rfl, rfl, .inl T.x_BackError⟩ tk rfl rfl rfl (fun _ => rfl) (fun W pn xe tk2 _ => (pss_one (ps_set (i := 3) sc_law_told.nd rfl (Or.inl rfl) (pe_callD (r_law_one T) (hr.mono (by decide)) rfl (pass_in tk2) (pa_cons (pv 0) (pa_cons (pv 1) pa_nil))))))) (pss_one (ps_ret (pe_ifExp (pt_cmpR op_isN (pv 2) pe_non (nomark _)) (pe_tup (pa_cons pe_str (pa_cons (pv 3) pa_nil))) (pe_callD (r_law_refusal T) (hr.mono (by decide)) rfl (pass_in tk) (pa_cons (pv 2) pa_nil)))))))), (dst_told (i := 4) (c := 2) (f := 3) (l := 5) (by decide) (by decide) T.xt.exm (fun W => (dst_set (by decide) (dt_callP (da_cons dt_var (da_cons dt_var da_nil))))) (dt_tup (da_cons dt_str (da_cons dt_var da_nil)))), ?_⟩
  intro ds Qd Ed n hl hF
  obtain ⟨kind, a, b, told, row, f, num, k, rfl, hk, hlen, hlen2, hr, h⟩ := hF
  walk_at "wb"
  exact ⟨rfl, rfl, kind, a, b, told, row, f, num, k, rfl, hk, hlen, hlen2, hr, h⟩
end
end WB
set_option Elab.async false
set_option linter.all false
set_option maxRecDepth 100000
set_option maxHeartbeats 4000000
namespace WB
open PySem PySem.Spec L2
local macro_rules | `(tactic| walk_at "wb") => `(tactic| first | simp (config := { dsimp := false }) only [cond_app, seqF, wbind, wret, wop, getV, ini, opn, Bool.cond_true, Bool.cond_false, cond_true, cond_false, List.map_cons, List.map_nil, List.cons_append, List.nil_append, List.replicate_succ, List.replicate_zero, List.append_nil, List.getElem?_cons_zero, List.getElem?_cons_succ, asBool, asList, asInt, addD, intD, intD0, lenD, truD, ixD, slD, isNo, isNoD, isNotNoD, negD, rng1D, rng2D, listD, tupD, wipeR, eR, eRs, getO, frz, mulD, List.set_cons_zero, List.set_cons_succ, tg1] | skip)
local macro_rules | `(tactic| walk_at "ws") => `(tactic| first | simp only [cond_prop, decide_eq_true_eq, decide_eq_false_iff_not, Bool.not_eq_true', Bool.not_eq_false', Bool.and_eq_true, Bool.and_eq_false_iff, Bool.or_eq_true, Bool.or_eq_false_iff, len_ints, List.length_map, true_implies, false_implies, and_true, true_and, reduceCtorEq, Bool.not_true, Bool.not_false, forall_const, Bool.false_eq_true, Bool.true_eq_false] | skip)
local macro_rules | `(tactic| walk_at "wo") => `(tactic| first | simp only [out_ok, out_err] | skip)
local macro_rules | `(tactic| walk_at "w1") => `(tactic| first | simp (config := { dsimp := false }) only [cond_app, wbind, wret, wop, getV, ini, opn, Bool.cond_true, Bool.cond_false, cond_true, cond_false, List.map_cons, List.map_nil, List.cons_append, List.nil_append, List.replicate_succ, List.replicate_zero, List.append_nil, List.getElem?_cons_zero, List.getElem?_cons_succ, asBool, asList, asInt, addD, intD, intD0, lenD, truD, ixD, slD, isNo, isNoD, isNotNoD, negD, rng1D, rng2D, listD, tupD, wipeR, eR, eRs, getO, frz, mulD, List.set_cons_zero, List.set_cons_succ, tg1] | skip)
local macro_rules | `(tactic| walk_at "wn") => `(tactic| (refine seqI ?_; first | simp (config := { dsimp := false }) only [cond_app, wbind, wret, wop, getV, ini, opn, Bool.cond_true, Bool.cond_false, cond_true, cond_false, List.map_cons, List.map_nil, List.cons_append, List.nil_append, List.replicate_succ, List.replicate_zero, List.append_nil, List.getElem?_cons_zero, List.getElem?_cons_succ, asBool, asList, asInt, addD, intD, intD0, lenD, truD, ixD, slD, isNo, isNoD, isNotNoD, negD, rng1D, rng2D, listD, tupD, wipeR, eR, eRs, getO, frz, mulD, List.set_cons_zero, List.set_cons_succ, tg1] | skip))
section
variable {P : Program} {w : World} {K : PySem.W.Frag} {mg : Str → Option Value} {base : Heap} {ec : Kd → Addr} {wa CB : Addr}
theorem o_lt_told {size most : Int} {told : List Fact} (h1 : sizesOk size most = true) (h2 : toldOk size most told = false) : o_look_told size most told = .error .told := by
  unfold o_look_told; rw [if_pos h1, if_neg (by rw [h2]; exact Bool.false_ne_true)]
theorem o_lt_size {size most : Int} {told : List Fact} (h1 : sizesOk size most = false) : o_look_told size most told = .error .size := by
  unfold o_look_told; rw [if_neg (by rw [h1]; exact Bool.false_ne_true)]
theorem o_lt_ok {size most : Int} {told : List Fact} (h1 : sizesOk size most = true) (h2 : toldOk size most told = true) : o_look_told size most told = .ok .none := by
  unfold o_look_told; rw [if_pos h1, if_pos h2]
theorem toldOk_bad {size most : Int} {told : List Fact} {f : Fact} (h : f ∈ told) (hf : isF size most f = false) : toldOk size most told = false := by
  unfold toldOk
  rw [Bool.and_eq_false_iff]
  refine .inr (Bool.eq_false_iff.mpr fun q => ?_)
  have := List.all_eq_true.mp q f h
  rw [hf] at this; cases this
theorem isF_bad {size most : Int} {f : Fact} (h : ¬ (0 ≤ f.first ∧ f.first ≤ f.last ∧ f.last < size ∧ 0 ≤ f.worth ∧ f.worth ≤ most)) : isF size most f = false := by
  unfold isF; rw [decide_eq_false h, Bool.and_false]
theorem law_fn (T : Tx K mg ec wa CB) {f : Addr} {fd : FuncData} (Fn : Fun K "law" "law" s_law f fd) : FnOk P w K mg base (L2.CX P w) 9 f fd ["_law_script"] (spLaw K) := by
  refine law_ok (ek := ekOf ec) Fn sc_law (r := 10) rfl rfl (fun cdv A outer s H E hr => ?_)
  have tk := takes_of (X := cxOf (L2.CX P w) P w K mg base N_law "law" (defScope s_law) f cdv A outer s H E) (E := E) rfl rfl rfl rfl
  refine ⟨ps_set (i := 1) sc_law.nd rfl (Or.inl rfl) (pe_lst pa_nil), _, _, (pss_cons (ps_set (i := 2) sc_law.nd rfl (Or.inl rfl) (pe_op op_addG pe_int (pe_callD (r_law_draw T) (hr.mono (by decide)) rfl (pass_in tk) (pa_cons (pv 0) (pa_cons (pv 1) (pa_cons pe_int pa_nil)))))) (pss_cons (ps_set (i := 3) sc_law.nd rfl (Or.inl rfl) (pe_callD (r_law_draw T) (hr.mono (by decide)) rfl (pass_in tk) (pa_cons (pv 0) (pa_cons (pv 1) (pa_cons pe_int pa_nil))))) (pss_cons (ps_set (i := 4) sc_law.nd rfl (Or.inl rfl) (pe_callD (r_law_pick T) (hr.mono (by decide)) rfl (pass_in tk) (pa_cons (pv 0) (pa_cons (pv 1) (pa_cons (pe_lst (pa_cons (pe_tup (pa_cons pe_int (pa_cons (pv 3) pa_nil))) (pa_cons (pe_tup (pa_cons pe_int (pa_cons (pv 3) pa_nil))) (pa_cons (pe_tup (pa_cons (pv 2) (pa_cons (pe_un un_neg pe_int) pa_nil))) (pa_cons (pe_tup (pa_cons (pv 2) (pa_cons pe_int pa_nil))) (pa_cons (pe_tup (pa_cons (pe_un un_neg pe_int) (pa_cons pe_int pa_nil))) pa_nil)))))) pa_nil))))) (pss_cons (ps_set (i := 5) sc_law.nd rfl (Or.inl rfl) (pe_callD (r_law_pick T) (hr.mono (by decide)) rfl (pass_in tk) (pa_cons (pv 0) (pa_cons (pv 1) (pa_cons (pe_lst (pa_cons (pe_tup (pa_cons pe_str (pa_cons pe_int (pa_cons (pv 2) (pa_cons pe_int pa_nil))))) (pa_cons (pe_tup (pa_cons pe_str (pa_cons (pe_un un_neg pe_int) (pa_cons pe_int (pa_cons pe_int pa_nil))))) (pa_cons (pe_tup (pa_cons pe_str (pa_cons pe_int (pa_cons pe_int (pa_cons pe_int pa_nil))))) pa_nil)))) pa_nil))))) (pss_cons (ps_set (i := 5) sc_law.nd rfl (Or.inl rfl) (pe_callD (r_law_pick T) (hr.mono (by decide)) rfl (pass_in tk) (pa_cons (pv 0) (pa_cons (pv 1) (pa_cons (pe_lst (pa_cons (pv 5) (pa_cons (pe_tup (pa_cons pe_str (pa_cons pe_int (pa_cons pe_int (pa_cons (pe_op op_addG (pv 3) pe_int) pa_nil))))) (pa_cons (pe_tup (pa_cons pe_str (pa_cons pe_int (pa_cons pe_int (pa_cons (pe_un un_neg pe_int) pa_nil))))) pa_nil)))) pa_nil))))) (pss_cons (ps_set (i := 6) sc_law.nd rfl (Or.inl rfl) (pe_tup (pa_cons pe_str (pa_cons pe_int (pa_cons (pe_op op_sub (pv 2) pe_int) (pa_cons pe_int pa_nil)))))) (pss_cons (ps_set (i := 7) sc_law.nd rfl (Or.inl rfl) (pe_callD (r_law_pick T) (hr.mono (by decide)) rfl (pass_in tk) (pa_cons (pv 0) (pa_cons (pv 1) (pa_cons (pe_lst (pa_cons (pe_lst (pa_cons (pv 5) pa_nil)) (pa_cons (pe_lst (pa_cons (pv 6) (pa_cons (pv 5) pa_nil))) (pa_cons (pe_lst (pa_cons (pv 5) (pa_cons (pv 6) pa_nil))) (pa_cons (pe_op op_mulG (pe_lst (pa_cons (pv 6) pa_nil)) pe_int) pa_nil))))) pa_nil))))) (pss_cons (ps_set (i := 8) sc_law.nd rfl (Or.inl rfl) (pe_callD (r_law_pick T) (hr.mono (by decide)) rfl (pass_in tk) (pa_cons (pv 0) (pa_cons (pv 1) (pa_cons (pe_lst (pa_cons (pe_lst pa_nil) (pa_cons (pe_lst (pa_cons pe_int pa_nil)) (pa_cons (pe_lst (pa_cons (pe_un un_neg pe_int) pa_nil)) (pa_cons (pe_op op_mulG (pe_lst (pa_cons pe_int pa_nil)) pe_int) pa_nil))))) pa_nil))))) (pss_cons (ps_set (i := 9) sc_law.nd rfl (Or.inl rfl) (pe_callD (r_law_pick T) (hr.mono (by decide)) rfl (pass_in tk) (pa_cons (pv 0) (pa_cons (pv 1) (pa_cons (pe_lst (pa_cons (pe_un un_neg pe_int) (pa_cons pe_int pa_nil))) pa_nil))))) (pss_cons (ps_for (passes_of rfl) rfl (pi_range1 rfl T.b_range (pa_cons pe_int pa_nil)) (pg_name (i := 10) sc_law.nd rfl (Or.inl rfl)) (pss_cons (ps_if (pt_cmpR (op_neD hr.units) (pe_callD (r_law_told T) (hr.mono (by decide)) rfl (pass_in tk) (pa_cons (pv 10) (pa_cons (pe_lst (pa_cons (pe_ix ix_seq (pv 4) pe_int (fun _ _ => rfl)) (pa_cons (pe_ix ix_seq (pv 4) pe_int (fun _ _ => rfl)) (pa_cons (pv 7) (pa_cons (pv 8) (pa_cons (pv 5) (pa_cons (pv 9) pa_nil))))))) pa_nil))) (pe_tup (pa_cons pe_str (pa_cons pe_str pa_nil))) (nomark _)) (pss_one (ps_ret pe_bl)) pss_nil) (pss_one (ps_if (pt_cmpR (op_neD hr.units) (pe_callD (r_law_told T) (hr.mono (by decide)) rfl (pass_in tk) (pa_cons (pv 10) (pa_cons (pe_lst (pa_cons (pv 2) (pa_cons (pv 3) (pa_cons (pv 7) (pa_cons (pv 8) (pa_cons (pv 5) (pa_cons (pv 9) pa_nil))))))) pa_nil))) (pe_tup (pa_cons pe_str (pa_cons pe_str pa_nil))) (nomark _)) (pss_one (ps_ret pe_bl)) pss_nil)))) (pss_cons (ps_set (i := 11) sc_law.nd rfl (Or.inr rfl) (pe_lst (pa_cons (pv 2) (pa_cons (pv 3) (pa_cons (pe_lst (pa_cons (pv 6) pa_nil)) (pa_cons (pv 8) (pa_cons (pv 5) (pa_cons (pv 9) pa_nil)))))))) (pss_cons (ps_if (pt_cmpR (op_neD hr.units) (pe_lc (own := [("_law_kind", 10)]) rfl sc_law.nd (pi_tup (pe_tup (pa_cons pe_int (pa_cons pe_int pa_nil)))) (blkOk_by (N := N_law) (sc := defScope s_law) (by decide +kernel)) (fun _ _ _ _ _ => (pg_name (i := 10) sc_law.nd rfl (Or.inl rfl))) (fun _ _ _ _ _ => pts_nil) (fun _ _ _ _ _ => (pe_callD (r_law_told T) (hr.mono (by decide)) rfl pass_blk (pa_cons (pv 10) (pa_cons (pv 11) pa_nil))))) (pe_op op_mulG (pe_lst (pa_cons (pe_tup (pa_cons pe_str (pa_cons pe_str pa_nil))) pa_nil)) pe_int) (nomark _)) (pss_one (ps_ret pe_bl)) pss_nil) (pss_cons (ps_if (pt_cmpR (op_neD hr.units) (pe_lc (own := [("_law_kind", 10)]) rfl sc_law.nd (pi_tup (pe_tup (pa_cons pe_int (pa_cons pe_int (pa_cons pe_int (pa_cons pe_int pa_nil)))))) (blkOk_by (N := N_law) (sc := defScope s_law) (by decide +kernel)) (fun _ _ _ _ _ => (pg_name (i := 10) sc_law.nd rfl (Or.inl rfl))) (fun _ _ _ _ _ => pts_nil) (fun _ _ _ _ _ => (pe_callD (r_law_told T) (hr.mono (by decide)) rfl pass_blk (pa_cons (pv 10) (pa_cons (pv 11) pa_nil))))) (pe_op op_mulG (pe_lst (pa_cons (pe_tup (pa_cons pe_str (pa_cons pe_str pa_nil))) pa_nil)) pe_int) (nomark _)) (pss_one (ps_ret pe_bl)) pss_nil) (pss_one (ps_ret (pe_cmpR (op_eqD hr.units) (pe_callD (r_law_told T) (hr.mono (by decide)) rfl (pass_in tk) (pa_cons pe_int (pa_cons (pv 11) pa_nil))) (pe_tup (pa_cons pe_str (pa_cons pe_str pa_nil))) (nomark _))))))))))))))))), (dst_seq (dst_set (by decide) (dt_op dr_add dt_int (dt_callT (da_cons dt_int da_nil)))) (dst_seq (dst_set (by decide) (dt_callT (da_cons dt_int da_nil))) (dst_seq (dst_set (by decide) (dt_callT (da_cons (df_lst (da_cons (dt_tup (da_cons dt_int (da_cons dt_var da_nil))) (da_cons (dt_tup (da_cons dt_int (da_cons dt_var da_nil))) (da_cons (dt_tup (da_cons dt_var (da_cons (dt_un du_neg dt_int) da_nil))) (da_cons (dt_tup (da_cons dt_var (da_cons dt_int da_nil))) (da_cons (dt_tup (da_cons (dt_un du_neg dt_int) (da_cons dt_int da_nil))) da_nil)))))).dt da_nil))) (dst_seq (dst_set (by decide) (dt_callT (da_cons (df_lst (da_cons (dt_tup (da_cons dt_str (da_cons dt_int (da_cons dt_var (da_cons dt_int da_nil))))) (da_cons (dt_tup (da_cons dt_str (da_cons (dt_un du_neg dt_int) (da_cons dt_int (da_cons dt_int da_nil))))) (da_cons (dt_tup (da_cons dt_str (da_cons dt_int (da_cons dt_int (da_cons dt_int da_nil))))) da_nil)))).dt da_nil))) (dst_seq (dst_set (by decide) (dt_callT (da_cons (df_lst (da_cons dt_var (da_cons (dt_tup (da_cons dt_str (da_cons dt_int (da_cons dt_int (da_cons (dt_op dr_add dt_var dt_int) da_nil))))) (da_cons (dt_tup (da_cons dt_str (da_cons dt_int (da_cons dt_int (da_cons (dt_un du_neg dt_int) da_nil))))) da_nil)))).dt da_nil))) (dst_seq (dst_set (by decide) (dt_tup (da_cons dt_str (da_cons dt_int (da_cons (dt_op dr_sub dt_var dt_int) (da_cons dt_int da_nil)))))) (dst_seq (dst_set (by decide) (dt_callT (da_cons (df_lst (da_cons (df_lst (da_cons dt_var da_nil)).dt (da_cons (df_lst (da_cons dt_var (da_cons dt_var da_nil))).dt (da_cons (df_lst (da_cons dt_var (da_cons dt_var da_nil))).dt (da_cons (dt_op dr_mul (df_lst (da_cons dt_var da_nil)).dt dt_int) da_nil))))).dt da_nil))) (dst_seq (dst_set (by decide) (dt_callT (da_cons (df_lst (da_cons (df_lst da_nil).dt (da_cons (df_lst (da_cons dt_int da_nil)).dt (da_cons (df_lst (da_cons (dt_un du_neg dt_int) da_nil)).dt (da_cons (dt_op dr_mul (df_lst (da_cons dt_int da_nil)).dt dt_int) da_nil))))).dt da_nil))) (dst_seq (dst_set (by decide) (dt_callT (da_cons (df_lst (da_cons (dt_un du_neg dt_int) (da_cons dt_int da_nil))).dt da_nil))) (dst_seq (dst_forO (dio_rng1 (da_cons dt_int da_nil)) (dgs_name (by decide)) (dst_seq (dst_if (db_test (dt_op dr_ne (dt_callP (da_cons dt_var (da_cons (df_lst (da_cons (dt_op dr_ix dt_var dt_int) (da_cons (dt_op dr_ix dt_var dt_int) (da_cons dt_var (da_cons dt_var (da_cons dt_var (da_cons dt_var da_nil))))))).dt da_nil))) (dt_tup (da_cons dt_str (da_cons dt_str da_nil))))) (dst_ret dt_bl) dst_next) (dst_if (db_test (dt_op dr_ne (dt_callP (da_cons dt_var (da_cons (df_lst (da_cons dt_var (da_cons dt_var (da_cons dt_var (da_cons dt_var (da_cons dt_var (da_cons dt_var da_nil))))))).dt da_nil))) (dt_tup (da_cons dt_str (da_cons dt_str da_nil))))) (dst_ret dt_bl) dst_next))) (dst_seq (dst_set (by decide) (df_lst (da_cons dt_var (da_cons dt_var (da_cons (df_lst (da_cons dt_var da_nil)).dt (da_cons dt_var (da_cons dt_var (da_cons dt_var da_nil))))))).dt) (dst_seq (dst_if (db_test (dt_op dr_ne (df_lc (di_tup (dt_tup (da_cons dt_int (da_cons dt_int da_nil)))) (dg_name (by decide)) db_yes (dt_callP (da_cons dt_var (da_cons dt_var da_nil))) (by decide)).dt (dt_op dr_mul (df_lst (da_cons (dt_tup (da_cons dt_str (da_cons dt_str da_nil))) da_nil)).dt dt_int))) (dst_ret dt_bl) dst_next) (dst_seq (dst_if (db_test (dt_op dr_ne (df_lc (di_tup (dt_tup (da_cons dt_int (da_cons dt_int (da_cons dt_int (da_cons dt_int da_nil)))))) (dg_name (by decide)) db_yes (dt_callP (da_cons dt_var (da_cons dt_var da_nil))) (by decide)).dt (dt_op dr_mul (df_lst (da_cons (dt_tup (da_cons dt_str (da_cons dt_str da_nil))) da_nil)).dt dt_int))) (dst_ret dt_bl) dst_next) (dst_ret (dt_op dr_eq (dt_callP (da_cons dt_int (da_cons dt_var da_nil))) (dt_tup (da_cons dt_str (da_cons dt_str da_nil)))))))))))))))))), ?_⟩
  walk_at "wn"
  refine ⟨rfl, 8, rfl, by omega, by omega, fun sz hs0 hs1 => ?_⟩
  walk_at "w1"
  walk_at "wn"
  refine ⟨rfl, 10, rfl, by omega, by omega, fun mo hm0 hm1 => ?_⟩
  walk_at "wn"
  refine ⟨by simp, by simp, by simp, by simp, by simp, by simp, rfl, _, rfl, by simp, by simp, by omega, fun x hx => ?_⟩
  have hx' : ∃ s m : Int, x = .tuple [.int s, .int m] ∧ sizesOk s m = false := by
    simp only [List.mem_cons, List.not_mem_nil, or_false] at hx
    rcases hx with rfl | rfl | rfl | rfl | rfl
    · exact ⟨0, mo, rfl, decide_eq_false (by omega)⟩
    · exact ⟨9, mo, rfl, decide_eq_false (by omega)⟩
    · exact ⟨1 + sz, -1, rfl, decide_eq_false (by omega)⟩
    · exact ⟨1 + sz, 10, rfl, decide_eq_false (by omega)⟩
    · exact ⟨-1, 10, rfl, decide_eq_false (by omega)⟩
  obtain ⟨xs, xm, rfl, hxs⟩ := hx'
  clear hx
  walk_at "wn"
  refine ⟨by simp, by simp, by simp, by simp, rfl, _, rfl, by simp, by simp, by omega, fun x hx => ?_⟩
  have hx' : ∃ o : Fact, x = eF o ∧ isF (1 + sz) mo o = false := by
    simp only [List.mem_cons, List.not_mem_nil, or_false] at hx
    rcases hx with rfl | rfl | rfl
    · exact ⟨⟨_, 0, 1 + sz, 0⟩, rfl, isF_bad (by show ¬ (_ ∧ _ ∧ 1 + sz < 1 + sz ∧ _); omega)⟩
    · exact ⟨⟨_, -1, 0, 0⟩, rfl, isF_bad (by show ¬ ((0 : Int) ≤ -1 ∧ _); omega)⟩
    · exact ⟨⟨_, 0, 0, 0⟩, rfl, rfl⟩
  obtain ⟨f0, rfl, hf0⟩ := hx'
  clear hx
  walk_at "wn"
  refine ⟨by simp, by simp, by simp, rfl, _, rfl, by simp, by simp, by omega, fun x hx => ?_⟩
  have hx' : ∃ o : Fact, x = eF o ∧ isF (1 + sz) mo o = false := by
    simp only [List.mem_cons, List.not_mem_nil, or_false] at hx
    rcases hx with rfl | rfl | rfl
    · exact ⟨f0, rfl, hf0⟩
    · exact ⟨⟨_, 0, 0, mo + 1⟩, rfl, isF_bad (by show ¬ (_ ∧ _ ∧ _ ∧ _ ∧ mo + 1 ≤ mo); omega)⟩
    · exact ⟨⟨_, 0, 0, -1⟩, rfl, isF_bad (by show ¬ (_ ∧ _ ∧ _ ∧ (0 : Int) ≤ -1 ∧ _); omega)⟩
  obtain ⟨fb, rfl, hfb⟩ := hx'
  clear hx
  walk_at "wn"
  refine ⟨by simp, ?_⟩
  have hS : sizesOk (1 + sz) mo = true := sizesOk_of (by omega)
  have hgood : isF (1 + sz) mo ⟨"least", 0, 1 + sz - 1, 0⟩ = true := by
    unfold isF
    rw [Bool.and_eq_true]
    exact ⟨rfl, decide_eq_true ⟨Int.le_refl _, (show (0 : Int) ≤ 1 + sz - 1 by omega), (show 1 + sz - 1 < 1 + sz by omega), Int.le_refl _, (show (0 : Int) ≤ mo by omega)⟩⟩
  walk_at "wn"
  refine ⟨by simp, by simp, by simp, by simp, by simp, by omega, by omega, by simp, rfl, _, rfl, by simp, by simp, by omega, fun x hx => ?_⟩
  have hx' : ∃ l : List Fact, x = .list (l.map eF) ∧ l.length ≤ 7 ∧ toldOk (1 + sz) mo l = false := by
    simp only [List.mem_cons, List.not_mem_nil, or_false] at hx
    rcases hx with rfl | rfl | rfl | rfl
    · exact ⟨[fb], rfl, by simp, toldOk_bad (f := fb) (by simp) hfb⟩
    · exact ⟨[⟨"least", 0, 1 + sz - 1, 0⟩, fb], rfl, by simp, toldOk_bad (f := fb) (by simp) hfb⟩
    · exact ⟨[fb, ⟨"least", 0, 1 + sz - 1, 0⟩], rfl, by simp, toldOk_bad (f := fb) (by simp) hfb⟩
    · refine ⟨List.replicate 7 ⟨"least", 0, 1 + sz - 1, 0⟩, rfl, by simp, ?_⟩
      unfold toldOk; rw [decide_eq_false (by simp), Bool.false_and]
  obtain ⟨told, rfl, hlt, htold⟩ := hx'
  clear hx
  walk_at "wn"
  refine ⟨by simp, by simp, by simp, by simp, by simp, by omega, by omega, by simp, rfl, _, rfl, by simp, by simp, by omega, fun x hx => ?_⟩
  have hx' : ∃ r : List Int, x = .list (r.map .int) ∧ r.length ≤ 9 ∧ rowOk r = false := by
    simp only [List.mem_cons, List.not_mem_nil, or_false] at hx
    rcases hx with rfl | rfl | rfl | rfl
    · exact ⟨[], rfl, by simp, rfl⟩
    · exact ⟨[10], rfl, by simp, rfl⟩
    · exact ⟨[-1], rfl, by simp, rfl⟩
    · exact ⟨List.replicate 9 0, rfl, by simp, rfl⟩
  obtain ⟨row, rfl, hrl, hrow⟩ := hx'
  clear hx
  walk_at "wn"
  refine ⟨by simp, rfl, _, rfl, by simp, by simp, by omega, fun x hx => ?_⟩
  have hx' : ∃ m : Int, x = .int m ∧ ¬ (0 ≤ m ∧ m < 1 + sz) := by
    simp only [List.mem_cons, List.not_mem_nil, or_false] at hx
    rcases hx with rfl | rfl
    · exact ⟨-1, rfl, by omega⟩
    · exact ⟨9, rfl, by omega⟩
  obtain ⟨num, rfl, hnum⟩ := hx'
  clear hx
  have hLr : o_look_row row = .error .row := by
    unfold o_look_row; rw [if_neg (by rw [hrow]; exact Bool.false_ne_true)]
  have hLg : o_look_told (1 + sz) mo [⟨"least", 0, 1 + sz - 1, 0⟩] = .ok .none := o_lt_ok hS (toldOk_of (by simp) fun f hf => by rw [List.mem_singleton.mp hf]; exact hgood)
  have hLb : o_look_told (1 + sz) mo [fb] = .error .told := o_lt_told hS (toldOk_bad (f := fb) (by simp) hfb)
  walk_at "wn"
  refine ⟨by omega, by omega, ?_⟩
  refine forL_rng (fun i ρ n => n = 0 + 1 + 1 + 1 + 1 + 1 + 1 + 1 + 1 ∧ ∃ s10, ρ = [.no, .no, .v (.int (1 + sz)), .v (.int mo), .v (.tuple [.int xs, .int xm]), .v (eF fb), .v (eF ⟨"least", 0, 1 + sz - 1, 0⟩), .v (.list (told.map eF)), .v (.list (row.map .int)), .v (.int num), s10, .no]) ⟨rfl, _, rfl⟩ ?_ ?_
  · rintro i ρ n N hi ⟨rfl, s10, rfl⟩ hN
    refine ⟨_, rfl, ?_⟩
    rw [Int.zero_add]
    walk_at "wn"
    refine ⟨_, atI_nat (j := 0) rfl, _, atI_nat (j := 1) rfl, by simp, rfl, i, xs, xm, told, row, fb, num, .size, rfl, hi, by omega, by omega, .inl (o_lt_size hxs), by simp, ?_⟩
    refine neD_refl (shp_eRef .size) ?_
    walk_at "w1"
    refine ⟨by simp, rfl, i, 1 + sz, mo, told, row, fb, num, .told, rfl, hi, by omega, by omega, .inl (o_lt_told hS htold), by simp, ?_⟩
    refine neD_refl (shp_eRef .told) ?_
    walk_at "w1"
    exact hN _ _ ⟨rfl, _, rfl⟩
  · rintro ρ n ⟨rfl, s10, rfl⟩
    walk_at "w1"
    walk_at "wn"
    refine ⟨by simp, by simp, ?_⟩
    walk_at "wn"
    refine ⟨by simp, (show _ ∧ _ from ⟨by simp, ?_⟩)⟩
    have e1 : [PyData.int 0, .int 3] = ([0, 3] : List Nat).map fun k : Nat => PyData.int (k : Int) := rfl
    rw [e1]
    refine lcL_m (fun _ : Nat => eRef .row) (fun k hk => ⟨_, rfl, fun Q E n h => ?_⟩) ?_
    · walk_at "w1"
      have hk : k = 0 ∨ k = 3 := by simpa using hk
      exact ⟨rfl, k, 1 + sz, mo, [⟨"least", 0, 1 + sz - 1, 0⟩], row, fb, num, .row, rfl, by omega, by simp, by omega, .inr ⟨hLg, .inl ⟨hk, hLr⟩⟩, h⟩
    refine ⟨by simp, by simp, by simp, by omega, by omega, ?_⟩
    refine neD_refl (k := 2) (shp_list fun d hd => by
      obtain ⟨_, _, rfl⟩ := List.mem_map.mp hd
      exact shp_eRef .row) ?_
    walk_at "w1"
    walk_at "wn"
    refine ⟨by simp, (show _ ∧ _ from ⟨by simp, ?_⟩)⟩
    have e1 : [PyData.int 16, .int 17, .int 18, .int 19] = ([16, 17, 18, 19] : List Nat).map fun k : Nat => PyData.int (k : Int) := rfl
    rw [e1]
    refine lcL_m (fun _ : Nat => eRef .told) (fun k hk => ⟨_, rfl, fun Q E n h => ?_⟩) ?_
    · walk_at "w1"
      have hk : k = 16 ∨ k = 17 ∨ k = 18 ∨ k = 19 := by simpa using hk
      exact ⟨rfl, k, 1 + sz, mo, [⟨"least", 0, 1 + sz - 1, 0⟩], row, fb, num, .told, rfl, by omega, by simp, by omega, .inr ⟨hLg, .inr (.inl ⟨hk, hfb, hLb, rfl⟩)⟩, h⟩
    refine ⟨by simp, by simp, by simp, by omega, by omega, ?_⟩
    refine neD_refl (k := 2) (shp_list fun d hd => by
      obtain ⟨_, _, rfl⟩ := List.mem_map.mp hd
      exact shp_eRef .told) ?_
    walk_at "w1"
    refine ⟨rfl, 5, 1 + sz, mo, [⟨"least", 0, 1 + sz - 1, 0⟩], row, fb, num, .stretch, rfl, by omega, by simp, by omega, .inr ⟨hLg, .inr (.inr ⟨rfl, hnum, rfl⟩)⟩, by simp, ?_⟩
    exact eqD_refl (shp_eRef .stretch) rfl
end
end WB
set_option Elab.async false
set_option linter.all false
set_option maxRecDepth 100000
set_option maxHeartbeats 4000000
namespace WB
open PySem PySem.Spec L2
def ecOf (C_row C_stretch C_size C_told C_norow C_number C_text : Addr) : Kd → Addr
  | .row => C_row
  | .stretch => C_stretch
  | .size => C_size
  | .told => C_told
  | .norow => C_norow
  | .number => C_number
  | .text => C_text
theorem all_mk {l : PySem.W.OpenLaw} {w : World} {K : PySem.W.Frag} {h : Heap} {mg : Str → Option Value} {fa CB wa C_row C_stretch C_size C_told C_norow C_number C_text f0 f1 f2 f3 f4 f5 f6 f7 f8 f9 f10 f11 f12 f13 f14 f15 f16 f17 f18 f19 f20 f21 f22 f23 f24 f25 f26 f27 f28 f29 f30 f31 f32 f33 f34 f35 f36 f37 f38 f39 f40 f41 f42 f43 f44 : Addr} (X : K.In h) (G : h.Ns mainGlobals mg) (hfa : mg "law" = some (.ref fa))
    {od0 an0 od1 an1 od2 an2 od3 an3 od4 an4 od5 an5 od6 an6 od7 an7 od8 an8 od9 an9 od10 an10 od11 an11 od12 an12 od13 an13 od14 an14 od15 an15 od16 an16 od17 an17 od18 an18 od19 an19 od20 an20 od21 an21 od22 an22 od23 an23 od24 an24 od25 an25 od26 an26 od27 an27 od28 an28 od29 an29 od30 an30 od31 an31 od32 an32 od33 an33 od34 an34 od35 an35 od36 an36 od37 an37 od38 an38 od39 an39 od40 an40 od41 an41 od42 an42 od43 an43 od44 an44 : Option Addr} {sl0 sl1 sl2 sl3 sl4 sl5 sl6 sl7 sl8 sl9 sl10 sl11 sl12 sl13 sl14 sl15 sl16 sl17 sl18 sl19 sl20 sl21 sl22 sl23 sl24 sl25 sl26 sl27 sl28 sl29 sl30 sl31 sl32 sl33 sl34 sl35 sl36 sl37 sl38 sl39 sl40 sl41 sl42 sl43 sl44 : Array (Option Value)} {oc0 kV0 dc0 pm0 cd0 ct0 oc1 kV1 dc1 pm1 cd1 ct1 oc2 kV2 dc2 pm2 cd2 ct2 oc3 kV3 dc3 pm3 cd3 ct3 oc4 kV4 dc4 pm4 cd4 ct4 oc5 kV5 dc5 pm5 cd5 ct5 oc6 kV6 dc6 pm6 cd6 ct6 oc7 kV7 dc7 pm7 cd7 ct7 oc8 kV8 dc8 pm8 cd8 ct8 oc9 kV9 dc9 pm9 cd9 ct9 oc10 kV10 dc10 pm10 cd10 ct10 oc11 kV11 dc11 pm11 cd11 ct11 oc12 kV12 dc12 pm12 cd12 ct12 oc13 kV13 dc13 pm13 cd13 ct13 oc14 kV14 dc14 pm14 cd14 ct14 oc15 kV15 dc15 pm15 cd15 ct15 oc16 kV16 dc16 pm16 cd16 ct16 oc17 kV17 dc17 pm17 cd17 ct17 oc18 kV18 dc18 pm18 cd18 ct18 oc19 kV19 dc19 pm19 cd19 ct19 oc20 kV20 dc20 pm20 cd20 ct20 oc21 kV21 dc21 pm21 cd21 ct21 oc22 kV22 dc22 pm22 cd22 ct22 oc23 kV23 dc23 pm23 cd23 ct23 oc24 kV24 dc24 pm24 cd24 ct24 oc25 kV25 dc25 pm25 cd25 ct25 oc26 kV26 dc26 pm26 cd26 ct26 oc27 kV27 dc27 pm27 cd27 ct27 oc28 kV28 dc28 pm28 cd28 ct28 oc29 kV29 dc29 pm29 cd29 ct29 oc30 kV30 dc30 pm30 cd30 ct30 oc31 kV31 dc31 pm31 cd31 ct31 oc32 kV32 dc32 pm32 cd32 ct32 oc33 kV33 dc33 pm33 cd33 ct33 oc34 kV34 dc34 pm34 cd34 ct34 oc35 kV35 dc35 pm35 cd35 ct35 oc36 kV36 dc36 pm36 cd36 ct36 oc37 kV37 dc37 pm37 cd37 ct37 oc38 kV38 dc38 pm38 cd38 ct38 oc39 kV39 dc39 pm39 cd39 ct39 oc40 kV40 dc40 pm40 cd40 ct40 oc41 kV41 dc41 pm41 cd41 ct41 oc42 kV42 dc42 pm42 cd42 ct42 oc43 kV43 dc43 pm43 cd43 ct43 oc44 kV44 dc44 pm44 cd44 ct44 : Value}
    {t_MOST_SIZE t_MOST_WORTH t_MOST_TOLD : Tok}
    {wd : Option Addr} {wt1 wt2 : Tok} {wn : Nat} {wsl : Array (Option Value)}
    (a0 : PySem.W.nsIn K mainGlobals "look_sizes" = some (some (.ref f0)))
    (l0 : K.lookup f0 = some ⟨oc0, od0, .func (PySem.W.fnOf "look_sizes" "look_sizes" (defArgs s_look_sizes) (defBody s_look_sizes) (defScope s_look_sizes) .none kV0 dc0 pm0 an0 cd0 ct0), sl0⟩)
    (c0 : PySem.W.codeIn K cd0 "look_sizes" = true)
    (k0 : PySem.W.keepIn K (.ref f0) = true)
    (a1 : PySem.W.nsIn K mainGlobals "look_row" = some (some (.ref f1)))
    (l1 : K.lookup f1 = some ⟨oc1, od1, .func (PySem.W.fnOf "look_row" "look_row" (defArgs s_look_row) (defBody s_look_row) (defScope s_look_row) .none kV1 dc1 pm1 an1 cd1 ct1), sl1⟩)
    (c1 : PySem.W.codeIn K cd1 "look_row" = true)
    (k1 : PySem.W.keepIn K (.ref f1) = true)
    (a2 : PySem.W.nsIn K mainGlobals "is_fact" = some (some (.ref f2)))
    (l2 : K.lookup f2 = some ⟨oc2, od2, .func (PySem.W.fnOf "is_fact" "is_fact" (defArgs s_is_fact) (defBody s_is_fact) (defScope s_is_fact) .none kV2 dc2 pm2 an2 cd2 ct2), sl2⟩)
    (c2 : PySem.W.codeIn K cd2 "is_fact" = true)
    (k2 : PySem.W.keepIn K (.ref f2) = true)
    (a3 : PySem.W.nsIn K mainGlobals "look_told" = some (some (.ref f3)))
    (l3 : K.lookup f3 = some ⟨oc3, od3, .func (PySem.W.fnOf "look_told" "look_told" (defArgs s_look_told) (defBody s_look_told) (defScope s_look_told) .none kV3 dc3 pm3 an3 cd3 ct3), sl3⟩)
    (c3 : PySem.W.codeIn K cd3 "look_told" = true)
    (k3 : PySem.W.keepIn K (.ref f3) = true)
    (a4 : PySem.W.nsIn K mainGlobals "worth_of" = some (some (.ref f4)))
    (l4 : K.lookup f4 = some ⟨oc4, od4, .func (PySem.W.fnOf "worth_of" "worth_of" (defArgs s_worth_of) (defBody s_worth_of) (defScope s_worth_of) .none kV4 dc4 pm4 an4 cd4 ct4), sl4⟩)
    (c4 : PySem.W.codeIn K cd4 "worth_of" = true)
    (k4 : PySem.W.keepIn K (.ref f4) = true)
    (a5 : PySem.W.nsIn K mainGlobals "keeps" = some (some (.ref f5)))
    (l5 : K.lookup f5 = some ⟨oc5, od5, .func (PySem.W.fnOf "keeps" "keeps" (defArgs s_keeps) (defBody s_keeps) (defScope s_keeps) .none kV5 dc5 pm5 an5 cd5 ct5), sl5⟩)
    (c5 : PySem.W.codeIn K cd5 "keeps" = true)
    (k5 : PySem.W.keepIn K (.ref f5) = true)
    (a6 : PySem.W.nsIn K mainGlobals "is_row_of" = some (some (.ref f6)))
    (l6 : K.lookup f6 = some ⟨oc6, od6, .func (PySem.W.fnOf "is_row_of" "is_row_of" (defArgs s_is_row_of) (defBody s_is_row_of) (defScope s_is_row_of) .none kV6 dc6 pm6 an6 cd6 ct6), sl6⟩)
    (c6 : PySem.W.codeIn K cd6 "is_row_of" = true)
    (k6 : PySem.W.keepIn K (.ref f6) = true)
    (a7 : PySem.W.nsIn K mainGlobals "broken" = some (some (.ref f7)))
    (l7 : K.lookup f7 = some ⟨oc7, od7, .func (PySem.W.fnOf "broken" "broken" (defArgs s_broken) (defBody s_broken) (defScope s_broken) .none kV7 dc7 pm7 an7 cd7 ct7), sl7⟩)
    (c7 : PySem.W.codeIn K cd7 "broken" = true)
    (k7 : PySem.W.keepIn K (.ref f7) = true)
    (a8 : PySem.W.nsIn K mainGlobals "bounds" = some (some (.ref f8)))
    (l8 : K.lookup f8 = some ⟨oc8, od8, .func (PySem.W.fnOf "bounds" "bounds" (defArgs s_bounds) (defBody s_bounds) (defScope s_bounds) .none kV8 dc8 pm8 an8 cd8 ct8), sl8⟩)
    (c8 : PySem.W.codeIn K cd8 "bounds" = true)
    (k8 : PySem.W.keepIn K (.ref f8) = true)
    (a9 : PySem.W.nsIn K mainGlobals "tally" = some (some (.ref f9)))
    (l9 : K.lookup f9 = some ⟨oc9, od9, .func (PySem.W.fnOf "tally" "tally" (defArgs s_tally) (defBody s_tally) (defScope s_tally) .none kV9 dc9 pm9 an9 cd9 ct9), sl9⟩)
    (c9 : PySem.W.codeIn K cd9 "tally" = true)
    (k9 : PySem.W.keepIn K (.ref f9) = true)
    (a10 : PySem.W.nsIn K mainGlobals "how_many" = some (some (.ref f10)))
    (l10 : K.lookup f10 = some ⟨oc10, od10, .func (PySem.W.fnOf "how_many" "how_many" (defArgs s_how_many) (defBody s_how_many) (defScope s_how_many) .none kV10 dc10 pm10 an10 cd10 ct10), sl10⟩)
    (c10 : PySem.W.codeIn K cd10 "how_many" = true)
    (k10 : PySem.W.keepIn K (.ref f10) = true)
    (a11 : PySem.W.nsIn K mainGlobals "row_at" = some (some (.ref f11)))
    (l11 : K.lookup f11 = some ⟨oc11, od11, .func (PySem.W.fnOf "row_at" "row_at" (defArgs s_row_at) (defBody s_row_at) (defScope s_row_at) .none kV11 dc11 pm11 an11 cd11 ct11), sl11⟩)
    (c11 : PySem.W.codeIn K cd11 "row_at" = true)
    (k11 : PySem.W.keepIn K (.ref f11) = true)
    (a12 : PySem.W.nsIn K mainGlobals "row_by" = some (some (.ref f12)))
    (l12 : K.lookup f12 = some ⟨oc12, od12, .func (PySem.W.fnOf "row_by" "row_by" (defArgs s_row_by) (defBody s_row_by) (defScope s_row_by) .none kV12 dc12 pm12 an12 cd12 ct12), sl12⟩)
    (c12 : PySem.W.codeIn K cd12 "row_by" = true)
    (k12 : PySem.W.keepIn K (.ref f12) = true)
    (a13 : PySem.W.nsIn K mainGlobals "number_of" = some (some (.ref f13)))
    (l13 : K.lookup f13 = some ⟨oc13, od13, .func (PySem.W.fnOf "number_of" "number_of" (defArgs s_number_of) (defBody s_number_of) (defScope s_number_of) .none kV13 dc13 pm13 an13 cd13 ct13), sl13⟩)
    (c13 : PySem.W.codeIn K cd13 "number_of" = true)
    (k13 : PySem.W.keepIn K (.ref f13) = true)
    (a14 : PySem.W.nsIn K mainGlobals "may" = some (some (.ref f14)))
    (l14 : K.lookup f14 = some ⟨oc14, od14, .func (PySem.W.fnOf "may" "may" (defArgs s_may) (defBody s_may) (defScope s_may) .none kV14 dc14 pm14 an14 cd14 ct14), sl14⟩)
    (c14 : PySem.W.codeIn K cd14 "may" = true)
    (k14 : PySem.W.keepIn K (.ref f14) = true)
    (a15 : PySem.W.nsIn K mainGlobals "sure" = some (some (.ref f15)))
    (l15 : K.lookup f15 = some ⟨oc15, od15, .func (PySem.W.fnOf "sure" "sure" (defArgs s_sure) (defBody s_sure) (defScope s_sure) .none kV15 dc15 pm15 an15 cd15 ct15), sl15⟩)
    (c15 : PySem.W.codeIn K cd15 "sure" = true)
    (k15 : PySem.W.keepIn K (.ref f15) = true)
    (a16 : PySem.W.nsIn K mainGlobals "parts" = some (some (.ref f16)))
    (l16 : K.lookup f16 = some ⟨oc16, od16, .func (PySem.W.fnOf "parts" "parts" (defArgs s_parts) (defBody s_parts) (defScope s_parts) .none kV16 dc16 pm16 an16 cd16 ct16), sl16⟩)
    (c16 : PySem.W.codeIn K cd16 "parts" = true)
    (k16 : PySem.W.keepIn K (.ref f16) = true)
    (a17 : PySem.W.nsIn K mainGlobals "has_row" = some (some (.ref f17)))
    (l17 : K.lookup f17 = some ⟨oc17, od17, .func (PySem.W.fnOf "has_row" "has_row" (defArgs s_has_row) (defBody s_has_row) (defScope s_has_row) .none kV17 dc17 pm17 an17 cd17 ct17), sl17⟩)
    (c17 : PySem.W.codeIn K cd17 "has_row" = true)
    (k17 : PySem.W.keepIn K (.ref f17) = true)
    (a18 : PySem.W.nsIn K mainGlobals "clash" = some (some (.ref f18)))
    (l18 : K.lookup f18 = some ⟨oc18, od18, .func (PySem.W.fnOf "clash" "clash" (defArgs s_clash) (defBody s_clash) (defScope s_clash) .none kV18 dc18 pm18 an18 cd18 ct18), sl18⟩)
    (c18 : PySem.W.codeIn K cd18 "clash" = true)
    (k18 : PySem.W.keepIn K (.ref f18) = true)
    (a19 : PySem.W.nsIn K mainGlobals "is_clash" = some (some (.ref f19)))
    (l19 : K.lookup f19 = some ⟨oc19, od19, .func (PySem.W.fnOf "is_clash" "is_clash" (defArgs s_is_clash) (defBody s_is_clash) (defScope s_is_clash) .none kV19 dc19 pm19 an19 cd19 ct19), sl19⟩)
    (c19 : PySem.W.codeIn K cd19 "is_clash" = true)
    (k19 : PySem.W.keepIn K (.ref f19) = true)
    (a20 : PySem.W.nsIn K mainGlobals "left_out" = some (some (.ref f20)))
    (l20 : K.lookup f20 = some ⟨oc20, od20, .func (PySem.W.fnOf "left_out" "left_out" (defArgs s_left_out) (defBody s_left_out) (defScope s_left_out) .none kV20 dc20 pm20 an20 cd20 ct20), sl20⟩)
    (c20 : PySem.W.codeIn K cd20 "left_out" = true)
    (k20 : PySem.W.keepIn K (.ref f20) = true)
    (a21 : PySem.W.nsIn K mainGlobals "least_cost" = some (some (.ref f21)))
    (l21 : K.lookup f21 = some ⟨oc21, od21, .func (PySem.W.fnOf "least_cost" "least_cost" (defArgs s_least_cost) (defBody s_least_cost) (defScope s_least_cost) .none kV21 dc21 pm21 an21 cd21 ct21), sl21⟩)
    (c21 : PySem.W.codeIn K cd21 "least_cost" = true)
    (k21 : PySem.W.keepIn K (.ref f21) = true)
    (a22 : PySem.W.nsIn K mainGlobals "mended" = some (some (.ref f22)))
    (l22 : K.lookup f22 = some ⟨oc22, od22, .func (PySem.W.fnOf "mended" "mended" (defArgs s_mended) (defBody s_mended) (defScope s_mended) .none kV22 dc22 pm22 an22 cd22 ct22), sl22⟩)
    (c22 : PySem.W.codeIn K cd22 "mended" = true)
    (k22 : PySem.W.keepIn K (.ref f22) = true)
    (a23 : PySem.W.nsIn K mainGlobals "first_row" = some (some (.ref f23)))
    (l23 : K.lookup f23 = some ⟨oc23, od23, .func (PySem.W.fnOf "first_row" "first_row" (defArgs s_first_row) (defBody s_first_row) (defScope s_first_row) .none kV23 dc23 pm23 an23 cd23 ct23), sl23⟩)
    (c23 : PySem.W.codeIn K cd23 "first_row" = true)
    (k23 : PySem.W.keepIn K (.ref f23) = true)
    (a24 : PySem.W.nsIn K mainGlobals "look_fact" = some (some (.ref f24)))
    (l24 : K.lookup f24 = some ⟨oc24, od24, .func (PySem.W.fnOf "look_fact" "look_fact" (defArgs s_look_fact) (defBody s_look_fact) (defScope s_look_fact) .none kV24 dc24 pm24 an24 cd24 ct24), sl24⟩)
    (c24 : PySem.W.codeIn K cd24 "look_fact" = true)
    (k24 : PySem.W.keepIn K (.ref f24) = true)
    (a25 : PySem.W.nsIn K mainGlobals "worths" = some (some (.ref f25)))
    (l25 : K.lookup f25 = some ⟨oc25, od25, .func (PySem.W.fnOf "worths" "worths" (defArgs s_worths) (defBody s_worths) (defScope s_worths) .none kV25 dc25 pm25 an25 cd25 ct25), sl25⟩)
    (c25 : PySem.W.codeIn K cd25 "worths" = true)
    (k25 : PySem.W.keepIn K (.ref f25) = true)
    (a26 : PySem.W.nsIn K mainGlobals "may_worths" = some (some (.ref f26)))
    (l26 : K.lookup f26 = some ⟨oc26, od26, .func (PySem.W.fnOf "may_worths" "may_worths" (defArgs s_may_worths) (defBody s_may_worths) (defScope s_may_worths) .none kV26 dc26 pm26 an26 cd26 ct26), sl26⟩)
    (c26 : PySem.W.codeIn K cd26 "may_worths" = true)
    (k26 : PySem.W.keepIn K (.ref f26) = true)
    (a27 : PySem.W.nsIn K mainGlobals "follows" = some (some (.ref f27)))
    (l27 : K.lookup f27 = some ⟨oc27, od27, .func (PySem.W.fnOf "follows" "follows" (defArgs s_follows) (defBody s_follows) (defScope s_follows) .none kV27 dc27 pm27 an27 cd27 ct27), sl27⟩)
    (c27 : PySem.W.codeIn K cd27 "follows" = true)
    (k27 : PySem.W.keepIn K (.ref f27) = true)
    (a28 : PySem.W.nsIn K mainGlobals "does_follow" = some (some (.ref f28)))
    (l28 : K.lookup f28 = some ⟨oc28, od28, .func (PySem.W.fnOf "does_follow" "does_follow" (defArgs s_does_follow) (defBody s_does_follow) (defScope s_does_follow) .none kV28 dc28 pm28 an28 cd28 ct28), sl28⟩)
    (c28 : PySem.W.codeIn K cd28 "does_follow" = true)
    (k28 : PySem.W.keepIn K (.ref f28) = true)
    (a29 : PySem.W.nsIn K mainGlobals "parting" = some (some (.ref f29)))
    (l29 : K.lookup f29 = some ⟨oc29, od29, .func (PySem.W.fnOf "parting" "parting" (defArgs s_parting) (defBody s_parting) (defScope s_parting) .none kV29 dc29 pm29 an29 cd29 ct29), sl29⟩)
    (c29 : PySem.W.codeIn K cd29 "parting" = true)
    (k29 : PySem.W.keepIn K (.ref f29) = true)
    (a30 : PySem.W.nsIn K mainGlobals "needless" = some (some (.ref f30)))
    (l30 : K.lookup f30 = some ⟨oc30, od30, .func (PySem.W.fnOf "needless" "needless" (defArgs s_needless) (defBody s_needless) (defScope s_needless) .none kV30 dc30 pm30 an30 cd30 ct30), sl30⟩)
    (c30 : PySem.W.codeIn K cd30 "needless" = true)
    (k30 : PySem.W.keepIn K (.ref f30) = true)
    (a31 : PySem.W.nsIn K mainGlobals "lessened" = some (some (.ref f31)))
    (l31 : K.lookup f31 = some ⟨oc31, od31, .func (PySem.W.fnOf "lessened" "lessened" (defArgs s_lessened) (defBody s_lessened) (defScope s_lessened) .none kV31 dc31 pm31 an31 cd31 ct31), sl31⟩)
    (c31 : PySem.W.codeIn K cd31 "lessened" = true)
    (k31 : PySem.W.keepIn K (.ref f31) = true)
    (a32 : PySem.W.nsIn K mainGlobals "are_alike" = some (some (.ref f32)))
    (l32 : K.lookup f32 = some ⟨oc32, od32, .func (PySem.W.fnOf "are_alike" "are_alike" (defArgs s_are_alike) (defBody s_are_alike) (defScope s_are_alike) .none kV32 dc32 pm32 an32 cd32 ct32), sl32⟩)
    (c32 : PySem.W.codeIn K cd32 "are_alike" = true)
    (k32 : PySem.W.keepIn K (.ref f32) = true)
    (a33 : PySem.W.nsIn K mainGlobals "first_apart" = some (some (.ref f33)))
    (l33 : K.lookup f33 = some ⟨oc33, od33, .func (PySem.W.fnOf "first_apart" "first_apart" (defArgs s_first_apart) (defBody s_first_apart) (defScope s_first_apart) .none kV33 dc33 pm33 an33 cd33 ct33), sl33⟩)
    (c33 : PySem.W.codeIn K cd33 "first_apart" = true)
    (k33 : PySem.W.keepIn K (.ref f33) = true)
    (a34 : PySem.W.nsIn K mainGlobals "row_without" = some (some (.ref f34)))
    (l34 : K.lookup f34 = some ⟨oc34, od34, .func (PySem.W.fnOf "row_without" "row_without" (defArgs s_row_without) (defBody s_row_without) (defScope s_row_without) .none kV34 dc34 pm34 an34 cd34 ct34), sl34⟩)
    (c34 : PySem.W.codeIn K cd34 "row_without" = true)
    (k34 : PySem.W.keepIn K (.ref f34) = true)
    (a35 : PySem.W.nsIn K mainGlobals "written" = some (some (.ref f35)))
    (l35 : K.lookup f35 = some ⟨oc35, od35, .func (PySem.W.fnOf "written" "written" (defArgs s_written) (defBody s_written) (defScope s_written) .none kV35 dc35 pm35 an35 cd35 ct35), sl35⟩)
    (c35 : PySem.W.codeIn K cd35 "written" = true)
    (k35 : PySem.W.keepIn K (.ref f35) = true)
    (a36 : PySem.W.nsIn K mainGlobals "_law_cell" = some (some (.ref f36)))
    (l36 : K.lookup f36 = some ⟨oc36, od36, .func (PySem.W.fnOf "_law_cell" "_law_cell" (defArgs s_law_cell) (defBody s_law_cell) (defScope s_law_cell) .none kV36 dc36 pm36 an36 cd36 ct36), sl36⟩)
    (c36 : PySem.W.codeIn K cd36 "_law_cell" = true)
    (k36 : PySem.W.keepIn K (.ref f36) = true)
    (a37 : PySem.W.nsIn K mainGlobals "_law_mix" = some (some (.ref f37)))
    (l37 : K.lookup f37 = some ⟨oc37, od37, .func (PySem.W.fnOf "_law_mix" "_law_mix" (defArgs s_law_mix) (defBody s_law_mix) (defScope s_law_mix) .none kV37 dc37 pm37 an37 cd37 ct37), sl37⟩)
    (c37 : PySem.W.codeIn K cd37 "_law_mix" = true)
    (k37 : PySem.W.keepIn K (.ref f37) = true)
    (a38 : PySem.W.nsIn K mainGlobals "_law_draw" = some (some (.ref f38)))
    (l38 : K.lookup f38 = some ⟨oc38, od38, .func (PySem.W.fnOf "_law_draw" "_law_draw" (defArgs s_law_draw) (defBody s_law_draw) (defScope s_law_draw) .none kV38 dc38 pm38 an38 cd38 ct38), sl38⟩)
    (c38 : PySem.W.codeIn K cd38 "_law_draw" = true)
    (k38 : PySem.W.keepIn K (.ref f38) = true)
    (a39 : PySem.W.nsIn K mainGlobals "_law_pick" = some (some (.ref f39)))
    (l39 : K.lookup f39 = some ⟨oc39, od39, .func (PySem.W.fnOf "_law_pick" "_law_pick" (defArgs s_law_pick) (defBody s_law_pick) (defScope s_law_pick) .none kV39 dc39 pm39 an39 cd39 ct39), sl39⟩)
    (c39 : PySem.W.codeIn K cd39 "_law_pick" = true)
    (k39 : PySem.W.keepIn K (.ref f39) = true)
    (a40 : PySem.W.nsIn K mainGlobals "_law_refusal" = some (some (.ref f40)))
    (l40 : K.lookup f40 = some ⟨oc40, od40, .func (PySem.W.fnOf "_law_refusal" "_law_refusal" (defArgs s_law_refusal) (defBody s_law_refusal) (defScope s_law_refusal) .none kV40 dc40 pm40 an40 cd40 ct40), sl40⟩)
    (c40 : PySem.W.codeIn K cd40 "_law_refusal" = true)
    (k40 : PySem.W.keepIn K (.ref f40) = true)
    (a41 : PySem.W.nsIn K mainGlobals "_law_one_b" = some (some (.ref f41)))
    (l41 : K.lookup f41 = some ⟨oc41, od41, .func (PySem.W.fnOf "_law_one_b" "_law_one_b" (defArgs s_law_one_b) (defBody s_law_one_b) (defScope s_law_one_b) .none kV41 dc41 pm41 an41 cd41 ct41), sl41⟩)
    (c41 : PySem.W.codeIn K cd41 "_law_one_b" = true)
    (k41 : PySem.W.keepIn K (.ref f41) = true)
    (a42 : PySem.W.nsIn K mainGlobals "_law_one" = some (some (.ref f42)))
    (l42 : K.lookup f42 = some ⟨oc42, od42, .func (PySem.W.fnOf "_law_one" "_law_one" (defArgs s_law_one) (defBody s_law_one) (defScope s_law_one) .none kV42 dc42 pm42 an42 cd42 ct42), sl42⟩)
    (c42 : PySem.W.codeIn K cd42 "_law_one" = true)
    (k42 : PySem.W.keepIn K (.ref f42) = true)
    (a43 : PySem.W.nsIn K mainGlobals "_law_told" = some (some (.ref f43)))
    (l43 : K.lookup f43 = some ⟨oc43, od43, .func (PySem.W.fnOf "_law_told" "_law_told" (defArgs s_law_told) (defBody s_law_told) (defScope s_law_told) .none kV43 dc43 pm43 an43 cd43 ct43), sl43⟩)
    (c43 : PySem.W.codeIn K cd43 "_law_told" = true)
    (k43 : PySem.W.keepIn K (.ref f43) = true)
    (a44 : PySem.W.nsIn K mainGlobals "law" = some (some (.ref f44)))
    (l44 : K.lookup f44 = some ⟨oc44, od44, .func (PySem.W.fnOf "law" "law" (defArgs s_law) (defBody s_law) (defScope s_law) .none kV44 dc44 pm44 an44 cd44 ct44), sl44⟩)
    (c44 : PySem.W.codeIn K cd44 "law" = true)
    (k44 : PySem.W.keepIn K (.ref f44) = true)
    (z_ValueError : PySem.W.nsIn K mainGlobals "ValueError" = some none)
    (z_all : PySem.W.nsIn K mainGlobals "all" = some none)
    (z_isinstance : PySem.W.nsIn K mainGlobals "isinstance" = some none)
    (z_len : PySem.W.nsIn K mainGlobals "len" = some none)
    (z_list : PySem.W.nsIn K mainGlobals "list" = some none)
    (z_max : PySem.W.nsIn K mainGlobals "max" = some none)
    (z_min : PySem.W.nsIn K mainGlobals "min" = some none)
    (z_range : PySem.W.nsIn K mainGlobals "range" = some none)
    (z_str : PySem.W.nsIn K mainGlobals "str" = some none)
    (xa_row : PySem.W.nsIn K mainGlobals "BadRow" = some (some (.ref C_row)))
    (xi_row : PySem.W.excIn K C_row [.type "ValueError", .type "Exception", .type "BaseException", .type "object"] "ValueError.__new__" = true)
    (xk_row : PySem.W.keepIn K (.ref C_row) = true)
    (xs_row : PySem.W.subIn K (.ref C_row) (.type "BaseException") = some true)
    (xt_row : PySem.W.typeIn K (.ref C_row) = some (.type "type"))
    (xa_stretch : PySem.W.nsIn K mainGlobals "BadStretch" = some (some (.ref C_stretch)))
    (xi_stretch : PySem.W.excIn K C_stretch [.type "ValueError", .type "Exception", .type "BaseException", .type "object"] "ValueError.__new__" = true)
    (xk_stretch : PySem.W.keepIn K (.ref C_stretch) = true)
    (xs_stretch : PySem.W.subIn K (.ref C_stretch) (.type "BaseException") = some true)
    (xt_stretch : PySem.W.typeIn K (.ref C_stretch) = some (.type "type"))
    (xa_size : PySem.W.nsIn K mainGlobals "BadSize" = some (some (.ref C_size)))
    (xi_size : PySem.W.excIn K C_size [.type "ValueError", .type "Exception", .type "BaseException", .type "object"] "ValueError.__new__" = true)
    (xk_size : PySem.W.keepIn K (.ref C_size) = true)
    (xs_size : PySem.W.subIn K (.ref C_size) (.type "BaseException") = some true)
    (xt_size : PySem.W.typeIn K (.ref C_size) = some (.type "type"))
    (xa_told : PySem.W.nsIn K mainGlobals "BadTold" = some (some (.ref C_told)))
    (xi_told : PySem.W.excIn K C_told [.type "ValueError", .type "Exception", .type "BaseException", .type "object"] "ValueError.__new__" = true)
    (xk_told : PySem.W.keepIn K (.ref C_told) = true)
    (xs_told : PySem.W.subIn K (.ref C_told) (.type "BaseException") = some true)
    (xt_told : PySem.W.typeIn K (.ref C_told) = some (.type "type"))
    (xa_norow : PySem.W.nsIn K mainGlobals "NoRow" = some (some (.ref C_norow)))
    (xi_norow : PySem.W.excIn K C_norow [.type "ValueError", .type "Exception", .type "BaseException", .type "object"] "ValueError.__new__" = true)
    (xk_norow : PySem.W.keepIn K (.ref C_norow) = true)
    (xs_norow : PySem.W.subIn K (.ref C_norow) (.type "BaseException") = some true)
    (xt_norow : PySem.W.typeIn K (.ref C_norow) = some (.type "type"))
    (xa_number : PySem.W.nsIn K mainGlobals "BadNumber" = some (some (.ref C_number)))
    (xi_number : PySem.W.excIn K C_number [.type "ValueError", .type "Exception", .type "BaseException", .type "object"] "ValueError.__new__" = true)
    (xk_number : PySem.W.keepIn K (.ref C_number) = true)
    (xs_number : PySem.W.subIn K (.ref C_number) (.type "BaseException") = some true)
    (xt_number : PySem.W.typeIn K (.ref C_number) = some (.type "type"))
    (xa_text : PySem.W.nsIn K mainGlobals "BadText" = some (some (.ref C_text)))
    (xi_text : PySem.W.excIn K C_text [.type "ValueError", .type "Exception", .type "BaseException", .type "object"] "ValueError.__new__" = true)
    (xk_text : PySem.W.keepIn K (.ref C_text) = true)
    (xs_text : PySem.W.subIn K (.ref C_text) (.type "BaseException") = some true)
    (xt_text : PySem.W.typeIn K (.ref C_text) = some (.type "type"))
    (xa_B : PySem.W.nsIn K mainGlobals "BackError" = some (some (.ref CB)))
    (bs : PySem.W.subIn K (.ref CB) (.type "BaseException") = some true)
    (bd : PySem.W.hasDictIn K CB = true)
    (bt : PySem.W.typeIn K (.ref CB) = some (.type "type"))
    (oc_n : PySem.W.specialIn K (.builtin "object.__class__") "__get__" = some (some (.builtin "getset_descriptor.__get__")))
    (oc_t : PySem.W.takesIn K (.builtin "object.__class__") = some true)
    (eg_row : PySem.W.findIn K (.ref C_row) "__getattribute__" = some (some (.builtin "BaseException.__getattribute__")))
    (ek_row : PySem.W.findIn K (.ref C_row) "__getattr__" = some none)
    (ed_row : PySem.W.hasDictIn K C_row = true)
    (ea_row : PySem.W.findIn K (.ref C_row) "__class__" = some (some (.builtin "object.__class__")))
    (em_row : PySem.W.mroIn K C_row (.type "object") = some true)
    (ev_row : PySem.W.subIn K (.ref C_row) (.type "ValueError") = some true)
    (ex_row : PySem.W.subIn K (.ref C_row) (.ref CB) = some true)
    (e_row_row : PySem.W.subIn K (.ref C_row) (.ref C_row) = some true)
    (e_row_stretch : PySem.W.subIn K (.ref C_row) (.ref C_stretch) = some false)
    (e_row_size : PySem.W.subIn K (.ref C_row) (.ref C_size) = some false)
    (e_row_told : PySem.W.subIn K (.ref C_row) (.ref C_told) = some false)
    (e_row_norow : PySem.W.subIn K (.ref C_row) (.ref C_norow) = some false)
    (e_row_number : PySem.W.subIn K (.ref C_row) (.ref C_number) = some false)
    (e_row_text : PySem.W.subIn K (.ref C_row) (.ref C_text) = some false)
    (eg_stretch : PySem.W.findIn K (.ref C_stretch) "__getattribute__" = some (some (.builtin "BaseException.__getattribute__")))
    (ek_stretch : PySem.W.findIn K (.ref C_stretch) "__getattr__" = some none)
    (ed_stretch : PySem.W.hasDictIn K C_stretch = true)
    (ea_stretch : PySem.W.findIn K (.ref C_stretch) "__class__" = some (some (.builtin "object.__class__")))
    (em_stretch : PySem.W.mroIn K C_stretch (.type "object") = some true)
    (ev_stretch : PySem.W.subIn K (.ref C_stretch) (.type "ValueError") = some true)
    (ex_stretch : PySem.W.subIn K (.ref C_stretch) (.ref CB) = some true)
    (e_stretch_row : PySem.W.subIn K (.ref C_stretch) (.ref C_row) = some false)
    (e_stretch_stretch : PySem.W.subIn K (.ref C_stretch) (.ref C_stretch) = some true)
    (e_stretch_size : PySem.W.subIn K (.ref C_stretch) (.ref C_size) = some false)
    (e_stretch_told : PySem.W.subIn K (.ref C_stretch) (.ref C_told) = some false)
    (e_stretch_norow : PySem.W.subIn K (.ref C_stretch) (.ref C_norow) = some false)
    (e_stretch_number : PySem.W.subIn K (.ref C_stretch) (.ref C_number) = some false)
    (e_stretch_text : PySem.W.subIn K (.ref C_stretch) (.ref C_text) = some false)
    (eg_size : PySem.W.findIn K (.ref C_size) "__getattribute__" = some (some (.builtin "BaseException.__getattribute__")))
    (ek_size : PySem.W.findIn K (.ref C_size) "__getattr__" = some none)
    (ed_size : PySem.W.hasDictIn K C_size = true)
    (ea_size : PySem.W.findIn K (.ref C_size) "__class__" = some (some (.builtin "object.__class__")))
    (em_size : PySem.W.mroIn K C_size (.type "object") = some true)
    (ev_size : PySem.W.subIn K (.ref C_size) (.type "ValueError") = some true)
    (ex_size : PySem.W.subIn K (.ref C_size) (.ref CB) = some true)
    (e_size_row : PySem.W.subIn K (.ref C_size) (.ref C_row) = some false)
    (e_size_stretch : PySem.W.subIn K (.ref C_size) (.ref C_stretch) = some false)
    (e_size_size : PySem.W.subIn K (.ref C_size) (.ref C_size) = some true)
    (e_size_told : PySem.W.subIn K (.ref C_size) (.ref C_told) = some false)
    (e_size_norow : PySem.W.subIn K (.ref C_size) (.ref C_norow) = some false)
    (e_size_number : PySem.W.subIn K (.ref C_size) (.ref C_number) = some false)
    (e_size_text : PySem.W.subIn K (.ref C_size) (.ref C_text) = some false)
    (eg_told : PySem.W.findIn K (.ref C_told) "__getattribute__" = some (some (.builtin "BaseException.__getattribute__")))
    (ek_told : PySem.W.findIn K (.ref C_told) "__getattr__" = some none)
    (ed_told : PySem.W.hasDictIn K C_told = true)
    (ea_told : PySem.W.findIn K (.ref C_told) "__class__" = some (some (.builtin "object.__class__")))
    (em_told : PySem.W.mroIn K C_told (.type "object") = some true)
    (ev_told : PySem.W.subIn K (.ref C_told) (.type "ValueError") = some true)
    (ex_told : PySem.W.subIn K (.ref C_told) (.ref CB) = some true)
    (e_told_row : PySem.W.subIn K (.ref C_told) (.ref C_row) = some false)
    (e_told_stretch : PySem.W.subIn K (.ref C_told) (.ref C_stretch) = some false)
    (e_told_size : PySem.W.subIn K (.ref C_told) (.ref C_size) = some false)
    (e_told_told : PySem.W.subIn K (.ref C_told) (.ref C_told) = some true)
    (e_told_norow : PySem.W.subIn K (.ref C_told) (.ref C_norow) = some false)
    (e_told_number : PySem.W.subIn K (.ref C_told) (.ref C_number) = some false)
    (e_told_text : PySem.W.subIn K (.ref C_told) (.ref C_text) = some false)
    (eg_norow : PySem.W.findIn K (.ref C_norow) "__getattribute__" = some (some (.builtin "BaseException.__getattribute__")))
    (ek_norow : PySem.W.findIn K (.ref C_norow) "__getattr__" = some none)
    (ed_norow : PySem.W.hasDictIn K C_norow = true)
    (ea_norow : PySem.W.findIn K (.ref C_norow) "__class__" = some (some (.builtin "object.__class__")))
    (em_norow : PySem.W.mroIn K C_norow (.type "object") = some true)
    (ev_norow : PySem.W.subIn K (.ref C_norow) (.type "ValueError") = some true)
    (ex_norow : PySem.W.subIn K (.ref C_norow) (.ref CB) = some true)
    (e_norow_row : PySem.W.subIn K (.ref C_norow) (.ref C_row) = some false)
    (e_norow_stretch : PySem.W.subIn K (.ref C_norow) (.ref C_stretch) = some false)
    (e_norow_size : PySem.W.subIn K (.ref C_norow) (.ref C_size) = some false)
    (e_norow_told : PySem.W.subIn K (.ref C_norow) (.ref C_told) = some false)
    (e_norow_norow : PySem.W.subIn K (.ref C_norow) (.ref C_norow) = some true)
    (e_norow_number : PySem.W.subIn K (.ref C_norow) (.ref C_number) = some false)
    (e_norow_text : PySem.W.subIn K (.ref C_norow) (.ref C_text) = some false)
    (eg_number : PySem.W.findIn K (.ref C_number) "__getattribute__" = some (some (.builtin "BaseException.__getattribute__")))
    (ek_number : PySem.W.findIn K (.ref C_number) "__getattr__" = some none)
    (ed_number : PySem.W.hasDictIn K C_number = true)
    (ea_number : PySem.W.findIn K (.ref C_number) "__class__" = some (some (.builtin "object.__class__")))
    (em_number : PySem.W.mroIn K C_number (.type "object") = some true)
    (ev_number : PySem.W.subIn K (.ref C_number) (.type "ValueError") = some true)
    (ex_number : PySem.W.subIn K (.ref C_number) (.ref CB) = some true)
    (e_number_row : PySem.W.subIn K (.ref C_number) (.ref C_row) = some false)
    (e_number_stretch : PySem.W.subIn K (.ref C_number) (.ref C_stretch) = some false)
    (e_number_size : PySem.W.subIn K (.ref C_number) (.ref C_size) = some false)
    (e_number_told : PySem.W.subIn K (.ref C_number) (.ref C_told) = some false)
    (e_number_norow : PySem.W.subIn K (.ref C_number) (.ref C_norow) = some false)
    (e_number_number : PySem.W.subIn K (.ref C_number) (.ref C_number) = some true)
    (e_number_text : PySem.W.subIn K (.ref C_number) (.ref C_text) = some false)
    (eg_text : PySem.W.findIn K (.ref C_text) "__getattribute__" = some (some (.builtin "BaseException.__getattribute__")))
    (ek_text : PySem.W.findIn K (.ref C_text) "__getattr__" = some none)
    (ed_text : PySem.W.hasDictIn K C_text = true)
    (ea_text : PySem.W.findIn K (.ref C_text) "__class__" = some (some (.builtin "object.__class__")))
    (em_text : PySem.W.mroIn K C_text (.type "object") = some true)
    (ev_text : PySem.W.subIn K (.ref C_text) (.type "ValueError") = some true)
    (ex_text : PySem.W.subIn K (.ref C_text) (.ref CB) = some true)
    (e_text_row : PySem.W.subIn K (.ref C_text) (.ref C_row) = some false)
    (e_text_stretch : PySem.W.subIn K (.ref C_text) (.ref C_stretch) = some false)
    (e_text_size : PySem.W.subIn K (.ref C_text) (.ref C_size) = some false)
    (e_text_told : PySem.W.subIn K (.ref C_text) (.ref C_told) = some false)
    (e_text_norow : PySem.W.subIn K (.ref C_text) (.ref C_norow) = some false)
    (e_text_number : PySem.W.subIn K (.ref C_text) (.ref C_number) = some false)
    (e_text_text : PySem.W.subIn K (.ref C_text) (.ref C_text) = some true)
    (v_MOST_SIZE : PySem.W.nsIn K mainGlobals "MOST_SIZE" = some (some (.int 8 t_MOST_SIZE)))
    (v_MOST_WORTH : PySem.W.nsIn K mainGlobals "MOST_WORTH" = some (some (.int 9 t_MOST_WORTH)))
    (v_MOST_TOLD : PySem.W.nsIn K mainGlobals "MOST_TOLD" = some (some (.int 6 t_MOST_TOLD)))
    (wa_ : PySem.W.nsIn K mainGlobals "WORDS" = some (some (.ref wa)))
    (wl_ : K.lookup wa = some ⟨.type "tuple", wd, .seq #[.str "greatest" wt1, .str "least" wt2] wn, wsl⟩)
    : ∃ fd : FuncData, (∀ (s : Shared) (v : Value), BindsTo s fd ⟨[v], []⟩ [("_law_script", v)]) ∧ ∀ base : Heap, K.In base → base.Ns mainGlobals mg → FnOk l.prog w K mg base (L2.CX l.prog w) 9 fa fd ["_law_script"] (spLaw K) := by
  have e := hfa.symm.trans (PySem.W.mg_of X G a44)
  cases e
  have T : Tx K mg (ecOf C_row C_stretch C_size C_told C_norow C_number C_text) wa CB := ⟨df_mk X G a0 l0 c0 k0 (fun _ _ _ _ _ _ us hl => match us, hl with | [_, _], _ => rfl),
    df_mk X G a1 l1 c1 k1 (fun _ _ _ _ _ _ us hl => match us, hl with | [_], _ => rfl),
    df_mk X G a2 l2 c2 k2 (fun _ _ _ _ _ _ us hl => match us, hl with | [_, _, _], _ => rfl),
    df_mk X G a3 l3 c3 k3 (fun _ _ _ _ _ _ us hl => match us, hl with | [_, _, _], _ => rfl),
    df_mk X G a4 l4 c4 k4 (fun _ _ _ _ _ _ us hl => match us, hl with | [_, _], _ => rfl),
    df_mk X G a5 l5 c5 k5 (fun _ _ _ _ _ _ us hl => match us, hl with | [_, _], _ => rfl),
    df_mk X G a6 l6 c6 k6 (fun _ _ _ _ _ _ us hl => match us, hl with | [_, _, _], _ => rfl),
    df_mk X G a7 l7 c7 k7 (fun _ _ _ _ _ _ us hl => match us, hl with | [_, _, _, _], _ => rfl),
    df_mk X G a8 l8 c8 k8 (fun _ _ _ _ _ _ us hl => match us, hl with | [_, _, _], _ => rfl),
    df_mk X G a9 l9 c9 k9 (fun _ _ _ _ _ _ us hl => match us, hl with | [_, _, _], _ => rfl),
    df_mk X G a10 l10 c10 k10 (fun _ _ _ _ _ _ us hl => match us, hl with | [_, _, _], _ => rfl),
    df_mk X G a11 l11 c11 k11 (fun _ _ _ _ _ _ us hl => match us, hl with | [_, _, _, _], _ => rfl),
    df_mk X G a12 l12 c12 k12 (fun _ _ _ _ _ _ us hl => match us, hl with | [_, _], _ => rfl),
    df_mk X G a13 l13 c13 k13 (fun _ _ _ _ _ _ us hl => match us, hl with | [_, _, _, _], _ => rfl),
    df_mk X G a14 l14 c14 k14 (fun _ _ _ _ _ _ us hl => match us, hl with | [_, _, _, _], _ => rfl),
    df_mk X G a15 l15 c15 k15 (fun _ _ _ _ _ _ us hl => match us, hl with | [_, _, _], _ => rfl),
    df_mk X G a16 l16 c16 k16 (fun _ _ _ _ _ _ us hl => match us, hl with | [_, _], _ => rfl),
    df_mk X G a17 l17 c17 k17 (fun _ _ _ _ _ _ us hl => match us, hl with | [_, _, _], _ => rfl),
    df_mk X G a18 l18 c18 k18 (fun _ _ _ _ _ _ us hl => match us, hl with | [_, _, _], _ => rfl),
    df_mk X G a19 l19 c19 k19 (fun _ _ _ _ _ _ us hl => match us, hl with | [_, _, _, _], _ => rfl),
    df_mk X G a20 l20 c20 k20 (fun _ _ _ _ _ _ us hl => match us, hl with | [_, _, _], _ => rfl),
    df_mk X G a21 l21 c21 k21 (fun _ _ _ _ _ _ us hl => match us, hl with | [_, _, _], _ => rfl),
    df_mk X G a22 l22 c22 k22 (fun _ _ _ _ _ _ us hl => match us, hl with | [_, _, _], _ => rfl),
    df_mk X G a23 l23 c23 k23 (fun _ _ _ _ _ _ us hl => match us, hl with | [_, _, _], _ => rfl),
    df_mk X G a24 l24 c24 k24 (fun _ _ _ _ _ _ us hl => match us, hl with | [_, _, _, _], _ => rfl),
    df_mk X G a25 l25 c25 k25 (fun _ _ _ _ _ _ us hl => match us, hl with | [_, _, _, _, _, _], _ => rfl),
    df_mk X G a26 l26 c26 k26 (fun _ _ _ _ _ _ us hl => match us, hl with | [_, _, _, _, _, _], _ => rfl),
    df_mk X G a27 l27 c27 k27 (fun _ _ _ _ _ _ us hl => match us, hl with | [_, _, _, _], _ => rfl),
    df_mk X G a28 l28 c28 k28 (fun _ _ _ _ _ _ us hl => match us, hl with | [_, _, _, _], _ => rfl),
    df_mk X G a29 l29 c29 k29 (fun _ _ _ _ _ _ us hl => match us, hl with | [_, _, _, _], _ => rfl),
    df_mk X G a30 l30 c30 k30 (fun _ _ _ _ _ _ us hl => match us, hl with | [_, _, _], _ => rfl),
    df_mk X G a31 l31 c31 k31 (fun _ _ _ _ _ _ us hl => match us, hl with | [_, _, _], _ => rfl),
    df_mk X G a32 l32 c32 k32 (fun _ _ _ _ _ _ us hl => match us, hl with | [_, _, _, _], _ => rfl),
    df_mk X G a33 l33 c33 k33 (fun _ _ _ _ _ _ us hl => match us, hl with | [_, _, _, _], _ => rfl),
    df_mk X G a34 l34 c34 k34 (fun _ _ _ _ _ _ us hl => match us, hl with | [_, _, _, _], _ => rfl),
    df_mk X G a35 l35 c35 k35 (fun _ _ _ _ _ _ us hl => match us, hl with | [_, _, _], _ => rfl),
    df_mk X G a36 l36 c36 k36 (fun _ _ _ _ _ _ us hl => match us, hl with | [_, _], _ => rfl),
    df_mk X G a37 l37 c37 k37 (fun _ _ _ _ _ _ us hl => match us, hl with | [_, _], _ => rfl),
    df_mk X G a38 l38 c38 k38 (fun _ _ _ _ _ _ us hl => match us, hl with | [_, _, _], _ => rfl),
    df_mk X G a39 l39 c39 k39 (fun _ _ _ _ _ _ us hl => match us, hl with | [_, _, _], _ => rfl),
    df_mk X G a40 l40 c40 k40 (fun _ _ _ _ _ _ us hl => match us, hl with | [_], _ => rfl),
    df_mk X G a41 l41 c41 k41 (fun _ _ _ _ _ _ us hl => match us, hl with | [_, _], _ => rfl),
    df_mk X G a42 l42 c42 k42 (fun _ _ _ _ _ _ us hl => match us, hl with | [_, _], _ => rfl),
    df_mk X G a43 l43 c43 k43 (fun _ _ _ _ _ _ us hl => match us, hl with | [_, _], _ => rfl),
    df_mk X G a44 l44 c44 k44 (fun _ _ _ _ _ _ us hl => match us, hl with | [_], _ => rfl),
    PySem.W.mg_none_of X G z_ValueError,
    PySem.W.mg_none_of X G z_all,
    PySem.W.mg_none_of X G z_isinstance,
    PySem.W.mg_none_of X G z_len,
    PySem.W.mg_none_of X G z_list,
    PySem.W.mg_none_of X G z_max,
    PySem.W.mg_none_of X G z_min,
    PySem.W.mg_none_of X G z_range,
    PySem.W.mg_none_of X G z_str,
    ⟨PySem.W.mg_of X G xa_row, rfl, xi_row, xk_row, xs_row, xt_row⟩,
    ⟨PySem.W.mg_of X G xa_stretch, rfl, xi_stretch, xk_stretch, xs_stretch, xt_stretch⟩,
    ⟨PySem.W.mg_of X G xa_size, rfl, xi_size, xk_size, xs_size, xt_size⟩,
    ⟨PySem.W.mg_of X G xa_told, rfl, xi_told, xk_told, xs_told, xt_told⟩,
    ⟨PySem.W.mg_of X G xa_norow, rfl, xi_norow, xk_norow, xs_norow, xt_norow⟩,
    ⟨PySem.W.mg_of X G xa_number, rfl, xi_number, xk_number, xs_number, xt_number⟩,
    ⟨PySem.W.mg_of X G xa_text, rfl, xi_text, xk_text, xs_text, xt_text⟩,
    PySem.W.mg_of X G xa_B,
    ⟨fun j => match j with | .row => ⟨eg_row, ek_row, xs_row, ed_row, ea_row, oc_n, oc_t, em_row⟩ | .stretch => ⟨eg_stretch, ek_stretch, xs_stretch, ed_stretch, ea_stretch, oc_n, oc_t, em_stretch⟩ | .size => ⟨eg_size, ek_size, xs_size, ed_size, ea_size, oc_n, oc_t, em_size⟩ | .told => ⟨eg_told, ek_told, xs_told, ed_told, ea_told, oc_n, oc_t, em_told⟩ | .norow => ⟨eg_norow, ek_norow, xs_norow, ed_norow, ea_norow, oc_n, oc_t, em_norow⟩ | .number => ⟨eg_number, ek_number, xs_number, ed_number, ea_number, oc_n, oc_t, em_number⟩ | .text => ⟨eg_text, ek_text, xs_text, ed_text, ea_text, oc_n, oc_t, em_text⟩, fun i j => match i, j with | .row, .row => kit_same | .row, .stretch => kit_other ed_stretch xt_stretch e_row_row e_row_stretch | .row, .size => kit_other ed_size xt_size e_row_row e_row_size | .row, .told => kit_other ed_told xt_told e_row_row e_row_told | .row, .norow => kit_other ed_norow xt_norow e_row_row e_row_norow | .row, .number => kit_other ed_number xt_number e_row_row e_row_number | .row, .text => kit_other ed_text xt_text e_row_row e_row_text | .stretch, .row => kit_other ed_row xt_row e_stretch_stretch e_stretch_row | .stretch, .stretch => kit_same | .stretch, .size => kit_other ed_size xt_size e_stretch_stretch e_stretch_size | .stretch, .told => kit_other ed_told xt_told e_stretch_stretch e_stretch_told | .stretch, .norow => kit_other ed_norow xt_norow e_stretch_stretch e_stretch_norow | .stretch, .number => kit_other ed_number xt_number e_stretch_stretch e_stretch_number | .stretch, .text => kit_other ed_text xt_text e_stretch_stretch e_stretch_text | .size, .row => kit_other ed_row xt_row e_size_size e_size_row | .size, .stretch => kit_other ed_stretch xt_stretch e_size_size e_size_stretch | .size, .size => kit_same | .size, .told => kit_other ed_told xt_told e_size_size e_size_told | .size, .norow => kit_other ed_norow xt_norow e_size_size e_size_norow | .size, .number => kit_other ed_number xt_number e_size_size e_size_number | .size, .text => kit_other ed_text xt_text e_size_size e_size_text | .told, .row => kit_other ed_row xt_row e_told_told e_told_row | .told, .stretch => kit_other ed_stretch xt_stretch e_told_told e_told_stretch | .told, .size => kit_other ed_size xt_size e_told_told e_told_size | .told, .told => kit_same | .told, .norow => kit_other ed_norow xt_norow e_told_told e_told_norow | .told, .number => kit_other ed_number xt_number e_told_told e_told_number | .told, .text => kit_other ed_text xt_text e_told_told e_told_text | .norow, .row => kit_other ed_row xt_row e_norow_norow e_norow_row | .norow, .stretch => kit_other ed_stretch xt_stretch e_norow_norow e_norow_stretch | .norow, .size => kit_other ed_size xt_size e_norow_norow e_norow_size | .norow, .told => kit_other ed_told xt_told e_norow_norow e_norow_told | .norow, .norow => kit_same | .norow, .number => kit_other ed_number xt_number e_norow_norow e_norow_number | .norow, .text => kit_other ed_text xt_text e_norow_norow e_norow_text | .number, .row => kit_other ed_row xt_row e_number_number e_number_row | .number, .stretch => kit_other ed_stretch xt_stretch e_number_number e_number_stretch | .number, .size => kit_other ed_size xt_size e_number_number e_number_size | .number, .told => kit_other ed_told xt_told e_number_number e_number_told | .number, .norow => kit_other ed_norow xt_norow e_number_number e_number_norow | .number, .number => kit_same | .number, .text => kit_other ed_text xt_text e_number_number e_number_text | .text, .row => kit_other ed_row xt_row e_text_text e_text_row | .text, .stretch => kit_other ed_stretch xt_stretch e_text_text e_text_stretch | .text, .size => kit_other ed_size xt_size e_text_text e_text_size | .text, .told => kit_other ed_told xt_told e_text_text e_text_told | .text, .norow => kit_other ed_norow xt_norow e_text_text e_text_norow | .text, .number => kit_other ed_number xt_number e_text_text e_text_number | .text, .text => kit_same, fun j => match j with | .row => kit_VE ev_row | .stretch => kit_VE ev_stretch | .size => kit_VE ev_size | .told => kit_VE ev_told | .norow => kit_VE ev_norow | .number => kit_VE ev_number | .text => kit_VE ev_text, fun j => match j with | .row => PySem.W.exm_ref bs bd bt ex_row | .stretch => PySem.W.exm_ref bs bd bt ex_stretch | .size => PySem.W.exm_ref bs bd bt ex_size | .told => PySem.W.exm_ref bs bd bt ex_told | .norow => PySem.W.exm_ref bs bd bt ex_norow | .number => PySem.W.exm_ref bs bd bt ex_number | .text => PySem.W.exm_ref bs bd bt ex_text⟩,
    ⟨_, PySem.W.mg_of X G v_MOST_SIZE⟩,
    ⟨_, PySem.W.mg_of X G v_MOST_WORTH⟩,
    ⟨_, PySem.W.mg_of X G v_MOST_TOLD⟩,
    ⟨PySem.W.mg_of X G wa_, words_rp wl_⟩⟩
  have F := fun_mk (st := s_law) l44 c44 k44
  exact ⟨_, fun s v => .of_eq rfl, fun base _ _ => law_fn T F⟩
theorem walk {l : PySem.W.OpenLaw} {q : Program} {loose : List Str} {XP : (Str → Option Value) → Heap → Prop} {YP : World → Heap → Prop} {d : DefRec} {K : Params → PySem.W.Frag} (hn : l.most = some 63) (hdf : d.params.defaults = [])
    (hY : ∀ (w : World) (h : Heap), YP w h → (K w.params).In h)
    (F : ∀ (w : World) (mg : Str → Option Value) (fa : Addr) (h : Heap), (K w.params).In h → h.Ns mainGlobals mg → mg d.name = some (.ref fa) →
      ∃ fd : FuncData, (∀ (s : Shared) (u : Value), BindsTo s fd ⟨[u], []⟩ [("_law_script", u)]) ∧ ∀ base : Heap, (K w.params).In base → base.Ns mainGlobals mg → FnOk l.prog w (K w.params) mg base (L2.CX l.prog w) 9 fa fd ["_law_script"] (spLaw (K w.params))) :
    PySem.W.WalkO q loose XP YP l.row.toRowW d [] (fun f vs => PySem.call f vs) :=
  L2.walk_of (n := 63) (k := 9) (x := "_law_script") (CX := fun w => L2.CX l.prog w) (sp := fun w => spLaw (K w.params)) hn (by decide) hdf ⟨rfl, by decide, by decide⟩ hY F (fun _ _ a ns hl _ hS => ⟨a, ns, rfl, hS, hl, fun _ => rfl⟩)
    fun _ _ _ _ _ z => by obtain ⟨_, _, _, _, _, _, _, _, _, _, _, _, z⟩ := z; exact z
end WB
open PySem PySem.W PyProof.Rows
set_option maxRecDepth 100000 in
set_option maxHeartbeats 0 in
theorem PySem.Challenge.cw_windowback_k91_whole_two_at_once_holds : PySem.Challenge.rw_windowback_k91_whole_two_at_once.Holds := by
  w_on; o_law; k_head; (case hw => w_witness2)
  k_fill
  refine WB.walk (l := PySem.Challenge.rw_windowback_k91_whole_two_at_once) rfl rfl (fun w h Y => PySem.W.kIn_of Y) ?F
  case F =>
    intro w mg fa h KX G hmg
    refine' WB.all_mk KX G hmg ?a0 ?l0 ?c0 ?k0 ?a1 ?l1 ?c1 ?k1 ?a2 ?l2 ?c2 ?k2 ?a3 ?l3 ?c3 ?k3 ?a4 ?l4 ?c4 ?k4 ?a5 ?l5 ?c5 ?k5 ?a6 ?l6 ?c6 ?k6 ?a7 ?l7 ?c7 ?k7 ?a8 ?l8 ?c8 ?k8 ?a9 ?l9 ?c9 ?k9 ?a10 ?l10 ?c10 ?k10 ?a11 ?l11 ?c11 ?k11 ?a12 ?l12 ?c12 ?k12 ?a13 ?l13 ?c13 ?k13 ?a14 ?l14 ?c14 ?k14 ?a15 ?l15 ?c15 ?k15 ?a16 ?l16 ?c16 ?k16 ?a17 ?l17 ?c17 ?k17 ?a18 ?l18 ?c18 ?k18 ?a19 ?l19 ?c19 ?k19 ?a20 ?l20 ?c20 ?k20 ?a21 ?l21 ?c21 ?k21 ?a22 ?l22 ?c22 ?k22 ?a23 ?l23 ?c23 ?k23 ?a24 ?l24 ?c24 ?k24 ?a25 ?l25 ?c25 ?k25 ?a26 ?l26 ?c26 ?k26 ?a27 ?l27 ?c27 ?k27 ?a28 ?l28 ?c28 ?k28 ?a29 ?l29 ?c29 ?k29 ?a30 ?l30 ?c30 ?k30 ?a31 ?l31 ?c31 ?k31 ?a32 ?l32 ?c32 ?k32 ?a33 ?l33 ?c33 ?k33 ?a34 ?l34 ?c34 ?k34 ?a35 ?l35 ?c35 ?k35 ?a36 ?l36 ?c36 ?k36 ?a37 ?l37 ?c37 ?k37 ?a38 ?l38 ?c38 ?k38 ?a39 ?l39 ?c39 ?k39 ?a40 ?l40 ?c40 ?k40 ?a41 ?l41 ?c41 ?k41 ?a42 ?l42 ?c42 ?k42 ?a43 ?l43 ?c43 ?k43 ?a44 ?l44 ?c44 ?k44 ?z_ValueError ?z_all ?z_isinstance ?z_len ?z_list ?z_max ?z_min ?z_range ?z_str ?xa_row ?xi_row ?xk_row ?xs_row ?xt_row ?xa_stretch ?xi_stretch ?xk_stretch ?xs_stretch ?xt_stretch ?xa_size ?xi_size ?xk_size ?xs_size ?xt_size ?xa_told ?xi_told ?xk_told ?xs_told ?xt_told ?xa_norow ?xi_norow ?xk_norow ?xs_norow ?xt_norow ?xa_number ?xi_number ?xk_number ?xs_number ?xt_number ?xa_text ?xi_text ?xk_text ?xs_text ?xt_text ?xa_B ?bs ?bd ?bt ?oc_n ?oc_t ?eg_row ?ek_row ?ed_row ?ea_row ?em_row ?ev_row ?ex_row ?e_row_row ?e_row_stretch ?e_row_size ?e_row_told ?e_row_norow ?e_row_number ?e_row_text ?eg_stretch ?ek_stretch ?ed_stretch ?ea_stretch ?em_stretch ?ev_stretch ?ex_stretch ?e_stretch_row ?e_stretch_stretch ?e_stretch_size ?e_stretch_told ?e_stretch_norow ?e_stretch_number ?e_stretch_text ?eg_size ?ek_size ?ed_size ?ea_size ?em_size ?ev_size ?ex_size ?e_size_row ?e_size_stretch ?e_size_size ?e_size_told ?e_size_norow ?e_size_number ?e_size_text ?eg_told ?ek_told ?ed_told ?ea_told ?em_told ?ev_told ?ex_told ?e_told_row ?e_told_stretch ?e_told_size ?e_told_told ?e_told_norow ?e_told_number ?e_told_text ?eg_norow ?ek_norow ?ed_norow ?ea_norow ?em_norow ?ev_norow ?ex_norow ?e_norow_row ?e_norow_stretch ?e_norow_size ?e_norow_told ?e_norow_norow ?e_norow_number ?e_norow_text ?eg_number ?ek_number ?ed_number ?ea_number ?em_number ?ev_number ?ex_number ?e_number_row ?e_number_stretch ?e_number_size ?e_number_told ?e_number_norow ?e_number_number ?e_number_text ?eg_text ?ek_text ?ed_text ?ea_text ?em_text ?ev_text ?ex_text ?e_text_row ?e_text_stretch ?e_text_size ?e_text_told ?e_text_norow ?e_text_number ?e_text_text ?v_MOST_SIZE ?v_MOST_WORTH ?v_MOST_TOLD ?wa_ ?wl_
    (case a0 => k_is)
    (case l0 => k_is)
    (case c0 => k_is)
    (case k0 => k_is)
    (case a1 => k_is)
    (case l1 => k_is)
    (case c1 => k_is)
    (case k1 => k_is)
    (case a2 => k_is)
    (case l2 => k_is)
    (case c2 => k_is)
    (case k2 => k_is)
    (case a3 => k_is)
    (case l3 => k_is)
    (case c3 => k_is)
    (case k3 => k_is)
    (case a4 => k_is)
    (case l4 => k_is)
    (case c4 => k_is)
    (case k4 => k_is)
    (case a5 => k_is)
    (case l5 => k_is)
    (case c5 => k_is)
    (case k5 => k_is)
    (case a6 => k_is)
    (case l6 => k_is)
    (case c6 => k_is)
    (case k6 => k_is)
    (case a7 => k_is)
    (case l7 => k_is)
    (case c7 => k_is)
    (case k7 => k_is)
    (case a8 => k_is)
    (case l8 => k_is)
    (case c8 => k_is)
    (case k8 => k_is)
    (case a9 => k_is)
    (case l9 => k_is)
    (case c9 => k_is)
    (case k9 => k_is)
    (case a10 => k_is)
    (case l10 => k_is)
    (case c10 => k_is)
    (case k10 => k_is)
    (case a11 => k_is)
    (case l11 => k_is)
    (case c11 => k_is)
    (case k11 => k_is)
    (case a12 => k_is)
    (case l12 => k_is)
    (case c12 => k_is)
    (case k12 => k_is)
    (case a13 => k_is)
    (case l13 => k_is)
    (case c13 => k_is)
    (case k13 => k_is)
    (case a14 => k_is)
    (case l14 => k_is)
    (case c14 => k_is)
    (case k14 => k_is)
    (case a15 => k_is)
    (case l15 => k_is)
    (case c15 => k_is)
    (case k15 => k_is)
    (case a16 => k_is)
    (case l16 => k_is)
    (case c16 => k_is)
    (case k16 => k_is)
    (case a17 => k_is)
    (case l17 => k_is)
    (case c17 => k_is)
    (case k17 => k_is)
    (case a18 => k_is)
    (case l18 => k_is)
    (case c18 => k_is)
    (case k18 => k_is)
    (case a19 => k_is)
    (case l19 => k_is)
    (case c19 => k_is)
    (case k19 => k_is)
    (case a20 => k_is)
    (case l20 => k_is)
    (case c20 => k_is)
    (case k20 => k_is)
    (case a21 => k_is)
    (case l21 => k_is)
    (case c21 => k_is)
    (case k21 => k_is)
    (case a22 => k_is)
    (case l22 => k_is)
    (case c22 => k_is)
    (case k22 => k_is)
    (case a23 => k_is)
    (case l23 => k_is)
    (case c23 => k_is)
    (case k23 => k_is)
    (case a24 => k_is)
    (case l24 => k_is)
    (case c24 => k_is)
    (case k24 => k_is)
    (case a25 => k_is)
    (case l25 => k_is)
    (case c25 => k_is)
    (case k25 => k_is)
    (case a26 => k_is)
    (case l26 => k_is)
    (case c26 => k_is)
    (case k26 => k_is)
    (case a27 => k_is)
    (case l27 => k_is)
    (case c27 => k_is)
    (case k27 => k_is)
    (case a28 => k_is)
    (case l28 => k_is)
    (case c28 => k_is)
    (case k28 => k_is)
    (case a29 => k_is)
    (case l29 => k_is)
    (case c29 => k_is)
    (case k29 => k_is)
    (case a30 => k_is)
    (case l30 => k_is)
    (case c30 => k_is)
    (case k30 => k_is)
    (case a31 => k_is)
    (case l31 => k_is)
    (case c31 => k_is)
    (case k31 => k_is)
    (case a32 => k_is)
    (case l32 => k_is)
    (case c32 => k_is)
    (case k32 => k_is)
    (case a33 => k_is)
    (case l33 => k_is)
    (case c33 => k_is)
    (case k33 => k_is)
    (case a34 => k_is)
    (case l34 => k_is)
    (case c34 => k_is)
    (case k34 => k_is)
    (case a35 => k_is)
    (case l35 => k_is)
    (case c35 => k_is)
    (case k35 => k_is)
    (case a36 => k_is)
    (case l36 => k_is)
    (case c36 => k_is)
    (case k36 => k_is)
    (case a37 => k_is)
    (case l37 => k_is)
    (case c37 => k_is)
    (case k37 => k_is)
    (case a38 => k_is)
    (case l38 => k_is)
    (case c38 => k_is)
    (case k38 => k_is)
    (case a39 => k_is)
    (case l39 => k_is)
    (case c39 => k_is)
    (case k39 => k_is)
    (case a40 => k_is)
    (case l40 => k_is)
    (case c40 => k_is)
    (case k40 => k_is)
    (case a41 => k_is)
    (case l41 => k_is)
    (case c41 => k_is)
    (case k41 => k_is)
    (case a42 => k_is)
    (case l42 => k_is)
    (case c42 => k_is)
    (case k42 => k_is)
    (case a43 => k_is)
    (case l43 => k_is)
    (case c43 => k_is)
    (case k43 => k_is)
    (case a44 => k_is)
    (case l44 => k_is)
    (case c44 => k_is)
    (case k44 => k_is)
    (case z_ValueError => k_is)
    (case z_all => k_is)
    (case z_isinstance => k_is)
    (case z_len => k_is)
    (case z_list => k_is)
    (case z_max => k_is)
    (case z_min => k_is)
    (case z_range => k_is)
    (case z_str => k_is)
    (case xa_row => k_is)
    (case xi_row => k_exc)
    (case xk_row => k_is)
    (case xs_row => k_is)
    (case xt_row => k_is)
    (case xa_stretch => k_is)
    (case xi_stretch => k_exc)
    (case xk_stretch => k_is)
    (case xs_stretch => k_is)
    (case xt_stretch => k_is)
    (case xa_size => k_is)
    (case xi_size => k_exc)
    (case xk_size => k_is)
    (case xs_size => k_is)
    (case xt_size => k_is)
    (case xa_told => k_is)
    (case xi_told => k_exc)
    (case xk_told => k_is)
    (case xs_told => k_is)
    (case xt_told => k_is)
    (case xa_norow => k_is)
    (case xi_norow => k_exc)
    (case xk_norow => k_is)
    (case xs_norow => k_is)
    (case xt_norow => k_is)
    (case xa_number => k_is)
    (case xi_number => k_exc)
    (case xk_number => k_is)
    (case xs_number => k_is)
    (case xt_number => k_is)
    (case xa_text => k_is)
    (case xi_text => k_exc)
    (case xk_text => k_is)
    (case xs_text => k_is)
    (case xt_text => k_is)
    (case xa_B => k_is)
    (case bs => k_is)
    (case bd => k_is)
    (case bt => k_is)
    (case oc_n => k_is)
    (case oc_t => k_is)
    (case eg_row => k_is)
    (case ek_row => k_is)
    (case ed_row => k_is)
    (case ea_row => k_is)
    (case em_row => k_is)
    (case ev_row => k_is)
    (case ex_row => k_is)
    (case e_row_row => k_is)
    (case e_row_stretch => k_is)
    (case e_row_size => k_is)
    (case e_row_told => k_is)
    (case e_row_norow => k_is)
    (case e_row_number => k_is)
    (case e_row_text => k_is)
    (case eg_stretch => k_is)
    (case ek_stretch => k_is)
    (case ed_stretch => k_is)
    (case ea_stretch => k_is)
    (case em_stretch => k_is)
    (case ev_stretch => k_is)
    (case ex_stretch => k_is)
    (case e_stretch_row => k_is)
    (case e_stretch_stretch => k_is)
    (case e_stretch_size => k_is)
    (case e_stretch_told => k_is)
    (case e_stretch_norow => k_is)
    (case e_stretch_number => k_is)
    (case e_stretch_text => k_is)
    (case eg_size => k_is)
    (case ek_size => k_is)
    (case ed_size => k_is)
    (case ea_size => k_is)
    (case em_size => k_is)
    (case ev_size => k_is)
    (case ex_size => k_is)
    (case e_size_row => k_is)
    (case e_size_stretch => k_is)
    (case e_size_size => k_is)
    (case e_size_told => k_is)
    (case e_size_norow => k_is)
    (case e_size_number => k_is)
    (case e_size_text => k_is)
    (case eg_told => k_is)
    (case ek_told => k_is)
    (case ed_told => k_is)
    (case ea_told => k_is)
    (case em_told => k_is)
    (case ev_told => k_is)
    (case ex_told => k_is)
    (case e_told_row => k_is)
    (case e_told_stretch => k_is)
    (case e_told_size => k_is)
    (case e_told_told => k_is)
    (case e_told_norow => k_is)
    (case e_told_number => k_is)
    (case e_told_text => k_is)
    (case eg_norow => k_is)
    (case ek_norow => k_is)
    (case ed_norow => k_is)
    (case ea_norow => k_is)
    (case em_norow => k_is)
    (case ev_norow => k_is)
    (case ex_norow => k_is)
    (case e_norow_row => k_is)
    (case e_norow_stretch => k_is)
    (case e_norow_size => k_is)
    (case e_norow_told => k_is)
    (case e_norow_norow => k_is)
    (case e_norow_number => k_is)
    (case e_norow_text => k_is)
    (case eg_number => k_is)
    (case ek_number => k_is)
    (case ed_number => k_is)
    (case ea_number => k_is)
    (case em_number => k_is)
    (case ev_number => k_is)
    (case ex_number => k_is)
    (case e_number_row => k_is)
    (case e_number_stretch => k_is)
    (case e_number_size => k_is)
    (case e_number_told => k_is)
    (case e_number_norow => k_is)
    (case e_number_number => k_is)
    (case e_number_text => k_is)
    (case eg_text => k_is)
    (case ek_text => k_is)
    (case ed_text => k_is)
    (case ea_text => k_is)
    (case em_text => k_is)
    (case ev_text => k_is)
    (case ex_text => k_is)
    (case e_text_row => k_is)
    (case e_text_stretch => k_is)
    (case e_text_size => k_is)
    (case e_text_told => k_is)
    (case e_text_norow => k_is)
    (case e_text_number => k_is)
    (case e_text_text => k_is)
    (case v_MOST_SIZE => k_is)
    (case v_MOST_WORTH => k_is)
    (case v_MOST_TOLD => k_is)
    (case wa_ => k_is)
    (case wl_ => k_is)
