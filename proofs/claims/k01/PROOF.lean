import PyProof.Rows.All
import Wide.All
import OpenK.AllK
import Wide.FinOn
import HandS.ForMost
import HandS.ForExc
import HandS.Deep
import HandS.Flow
import HandS.Style
import HandS.TupMul
import HandS.SortInts
import HandS.SetFor
import HandS.ListEq
import HandS.TupAny
import HandS.ExcIs
import HandS.ExcValue
import HandS.IsInst
import PySem.Challenge.RW_windowback_k01_whole_stretches
set_option Elab.async false
set_option linter.all false
set_option maxRecDepth 100000
set_option maxHeartbeats 2000000
/-! Part A: values as data, views of the heap, what a reading means over data. -/
namespace WB
open PySem PySem.Spec L2
abbrev D := PyData
inductive Kd | row | stretch | size | told | norow | number | text
  deriving DecidableEq
/-- a slot: nothing known, a value that stays, a list of one's own (it may be changed) -/
inductive Slot | no | v (d : D) | own (xs : List D)
abbrev Rho := List Slot
/-- what a piece of code does, by what is wanted behind it: of its value and the town's length; of a refusal -/
abbrev W (α : Type) := (α → Nat → Prop) → (Kd → Nat → Prop) → Nat → Prop
mutual
inductive Rp (K : PySem.W.Frag) (H : Hp) : V → D → Prop
  | non : Rp K H .non .none
  | bl (b : Bool) : Rp K H (.bl b) (.bool b)
  | int (i : Int) : Rp K H (.int i) (.int i)
  | str (x : Str) : Rp K H (.str x) (.str x)
  | lst {a : Addr} {xs : List V} {ds : List D} : H a = some (.lst xs) → RpAll K H xs ds → Rp K H (.ref a) (.list ds)
  | tup {a : Addr} {xs : List V} {ds : List D} : SqT K H a xs → RpAll K H xs ds → Rp K H (.ref a) (.tuple ds)
inductive RpAll (K : PySem.W.Frag) (H : Hp) : List V → List D → Prop
  | nil : RpAll K H [] []
  | cons {v : V} {vs : List V} {d : D} {ds : List D} : Rp K H v d → RpAll K H vs ds → RpAll K H (v :: vs) (d :: ds)
end
section
variable {K : PySem.W.Frag} {H H' : Hp}
theorem Rp.mono (e : Same H H') {v : V} {d : D} (h : Rp K H v d) : Rp K H' v d :=
  Rp.rec (motive_1 := fun v d _ => Rp K H' v d) (motive_2 := fun vs ds _ => RpAll K H' vs ds)
    .non (fun b => .bl b) (fun i => .int i) (fun x => .str x) (fun h _ r => .lst (e _ _ h) r)
    (fun {a xs ds} h _ r => .tup (by
      rcases h with (h | ⟨o, h⟩) | h
      · exact .inl (.inl (e _ _ h))
      · exact .inl (.inr ⟨o, e _ _ h⟩)
      · exact .inr h) r) .nil (fun _ _ a b => .cons a b) h
theorem seqT_mono (e : Same H H') {a : Addr} {xs : List V} (h : SqT K H a xs) : SqT K H' a xs := by
  rcases h with (h | ⟨o, h⟩) | h
  · exact .inl (.inl (e _ _ h))
  · exact .inl (.inr ⟨o, e _ _ h⟩)
  · exact .inr h
theorem RpAll.mono (e : Same H H') : ∀ {vs : List V} {ds : List D}, RpAll K H vs ds → RpAll K H' vs ds
  | _, _, .nil => .nil
  | _, _, .cons a b => .cons (a.mono e) (RpAll.mono e b)
theorem Rp.dp {v : V} {d : D} (h : Rp K H v d) : Dp K H v d :=
  Rp.rec (motive_1 := fun v d _ => Dp K H v d) (motive_2 := fun vs ds _ => DpAll K H vs ds)
    .non (fun b => .bl b) (fun i => .int i) (fun x => .str x) (fun h _ r => .lst (.inl (.inl h)) r)
    (fun h _ r => .tup h r) .nil (fun _ _ a b => .cons a b) h
theorem RpAll.dp : ∀ {vs : List V} {ds : List D}, RpAll K H vs ds → DpAll K H vs ds
  | _, _, .nil => .nil
  | _, _, .cons a b => .cons a.dp (RpAll.dp b)
theorem RpAll.length : ∀ {vs : List V} {ds : List D}, RpAll K H vs ds → vs.length = ds.length
  | _, _, .nil => rfl
  | _, _, .cons _ b => by rw [List.length_cons, List.length_cons, RpAll.length b]
theorem RpAll.get : ∀ {vs : List V} {ds : List D} {i : Nat} {d : D}, RpAll K H vs ds → ds[i]? = some d → ∃ v, vs[i]? = some v ∧ Rp K H v d
  | _, _, _, _, .nil, e => by simp at e
  | _, _, 0, _, .cons a _, e => by simp at e; subst e; exact ⟨_, rfl, a⟩
  | _, _, i + 1, d, .cons _ b, e => by
    obtain ⟨v, h1, h2⟩ := RpAll.get (i := i) (d := d) b (by simpa using e)
    exact ⟨v, by simpa using h1, h2⟩
theorem RpAll.get' : ∀ {vs : List V} {ds : List D} {i : Nat} {v : V}, RpAll K H vs ds → vs[i]? = some v → ∃ d, ds[i]? = some d ∧ Rp K H v d
  | _, _, _, _, .nil, e => by simp at e
  | _, _, 0, _, .cons a _, e => by simp at e; subst e; exact ⟨_, rfl, a⟩
  | _, _, i + 1, d, .cons _ b, e => by
    obtain ⟨v, h1, h2⟩ := RpAll.get' (i := i) (v := d) b (by simpa using e)
    exact ⟨v, by simpa using h1, h2⟩
theorem RpAll.append : ∀ {vs ws : List V} {ds es : List D}, RpAll K H vs ds → RpAll K H ws es → RpAll K H (vs ++ ws) (ds ++ es)
  | _, _, _, _, .nil, b => b
  | _, _, _, _, .cons a r, b => .cons a (RpAll.append r b)
theorem RpAll.take : ∀ {vs : List V} {ds : List D} (n : Nat), RpAll K H vs ds → RpAll K H (vs.take n) (ds.take n)
  | _, _, 0, _ => .nil
  | _, _, _ + 1, .nil => .nil
  | _, _, n + 1, .cons a b => .cons a (RpAll.take n b)
theorem RpAll.drop : ∀ {vs : List V} {ds : List D} (n : Nat), RpAll K H vs ds → RpAll K H (vs.drop n) (ds.drop n)
  | _, _, 0, h => h
  | _, _, _ + 1, .nil => .nil
  | _, _, n + 1, .cons _ b => RpAll.drop n b
theorem RpAll.set {v : V} {d : D} (h : Rp K H v d) : ∀ {vs : List V} {ds : List D} (n : Nat), RpAll K H vs ds → RpAll K H (vs.set n v) (ds.set n d)
  | _, _, _, .nil => .nil
  | _, _, 0, .cons _ b => .cons h b
  | _, _, n + 1, .cons a b => .cons a (RpAll.set h n b)
theorem RpAll.reverse : ∀ {vs : List V} {ds : List D}, RpAll K H vs ds → RpAll K H vs.reverse ds.reverse
  | _, _, .nil => .nil
  | _, _, .cons a b => by
    rw [List.reverse_cons, List.reverse_cons]
    exact (RpAll.reverse b).append (.cons a .nil)
theorem RpAll.eraseIdx : ∀ {vs : List V} {ds : List D} (n : Nat), RpAll K H vs ds → RpAll K H (vs.eraseIdx n) (ds.eraseIdx n)
  | _, _, _, .nil => .nil
  | _, _, 0, .cons _ b => b
  | _, _, n + 1, .cons a b => .cons a (RpAll.eraseIdx n b)
theorem RpAll.flat {vs : List V} {ds : List D} (h : RpAll K H vs ds) : ∀ n : Nat, RpAll K H (List.replicate n vs).flatten (List.replicate n ds).flatten
  | 0 => .nil
  | n + 1 => by
    rw [List.replicate_succ, List.replicate_succ, List.flatten_cons, List.flatten_cons]
    exact h.append (RpAll.flat h n)
theorem RpAll.ints : ∀ {vs : List V} {ns : List Int}, RpAll K H vs (ns.map PyData.int) → vs = ns.map V.int
  | _, [], .nil => rfl
  | _, n :: ns, .cons (.int _) b => by rw [List.map_cons, RpAll.ints b]
theorem RpAll.bls : ∀ {vs : List V} {ns : List Bool}, RpAll K H vs (ns.map PyData.bool) → vs = ns.map V.bl
  | _, [], .nil => rfl
  | _, n :: ns, .cons (.bl _) b => by rw [List.map_cons, RpAll.bls b]
theorem RpAll.strs : ∀ {vs : List V} {ns : List Str}, RpAll K H vs (ns.map PyData.str) → vs = ns.map V.str
  | _, [], .nil => rfl
  | _, n :: ns, .cons (.str _) b => by rw [List.map_cons, RpAll.strs b]
theorem RpAll.of_ints : ∀ {ns : List Int}, RpAll K H (ns.map V.int) (ns.map PyData.int)
  | [] => .nil
  | _ :: _ => .cons (.int _) RpAll.of_ints
theorem RpAll.of_strs : ∀ {ns : List Str}, RpAll K H (ns.map V.str) (ns.map PyData.str)
  | [] => .nil
  | _ :: _ => .cons (.str _) RpAll.of_strs
theorem Rp.non_iff {v : V} {d : D} (h : Rp K H v d) : decide (v = .non) = (match d with | .none => true | _ => false) := by
  cases h <;> simp
end
/-- None, a bool, an int, a text -/
def scD : D → Bool
  | .none => true
  | .bool _ => true
  | .int _ => true
  | .str _ => true
  | _ => false
theorem Rp.scal {K : PySem.W.Frag} {H H' : Hp} {v : V} {d : D} (h : Rp K H v d) (s : scD d = true) : Rp K H' v d := by
  cases h with
  | non => exact .non
  | bl b => exact .bl b
  | int i => exact .int i
  | str x => exact .str x
  | lst _ _ => cases s
  | tup _ _ => cases s
/-! ### views -/
open Classical in
noncomputable def hide (P : Addr → Prop) (H : Hp) : Hp := fun a => if P a then none else H a
theorem hide_some {P : Addr → Prop} {H : Hp} {a : Addr} {o : HO} : hide P H a = some o ↔ ¬ P a ∧ H a = some o := by
  unfold hide
  by_cases h : P a
  · rw [if_pos h]; exact ⟨fun q => (nomatch q), fun q => (q.1 h).elim⟩
  · rw [if_neg h]; exact ⟨fun q => ⟨h, q⟩, fun q => q.2⟩
theorem hide_le {P : Addr → Prop} {H : Hp} : Same (hide P H) H := fun _ _ h => (hide_some.mp h).2
theorem hide_mono {P P' : Addr → Prop} {H H' : Hp} (h : ∀ a o, ¬ P a → H a = some o → ¬ P' a ∧ H' a = some o) : Same (hide P H) (hide P' H') := fun a o e =>
  hide_some.mpr (h a o (hide_some.mp e).1 (hide_some.mp e).2)
theorem same_new {H : Hp} {p : Addr} {o : HO} (h : H p = none) : Same H (upd H p o) := fun a u e => by
  rw [upd_ne (ne_of_none e h)]; exact e
theorem hide_same {P : Addr → Prop} {H H' : Hp} (e : Same H H') : Same (hide P H) (hide P H') := hide_mono fun a o n q => ⟨n, e a o q⟩
/-- the script's and the town's addresses, where the code has them (slots 0 and 1) -/
abbrev Twn := Option (Addr × Addr)
structure TwOk (K : PySem.W.Frag) (T : Twn) (P : Addr → Prop) (n : Nat) (H : Hp) : Prop where
  ok : ∀ p, T = some p → P p.2 ∧ H p.2 = some (.lst (List.replicate n (.int 0))) ∧ ∃ ns : List Int, SqL K (hide P H) p.1 (ns.map V.int) ∧ ns.length ≤ 63
/-- all that was known stays, but for the town -/
def Keep (T : Twn) (H H' : Hp) : Prop := ∀ a o, (∀ p, T = some p → a ≠ p.2) → H a = some o → H' a = some o
structure Post (K : PySem.W.Frag) (P : Addr → Prop) (T : Twn) (H : Hp) (n' : Nat) (H' : Hp) : Prop where
  keep : Keep T H H'
  tw : TwOk K T P n' H'
structure St0 (K : PySem.W.Frag) (P : Addr → Prop) (T : Twn) (n : Nat) (H : Hp) (σ : L2.St) (ρ : Rho) : Prop where
  there : ∀ a, P a → H a ≠ none
  tw : TwOk K T P n H
  frame : ∀ p, T = some p → σ[0]? = some (some (.ref p.1)) ∧ σ[1]? = some (some (.ref p.2))
  len : σ.length = ρ.length
  val : ∀ (i : Nat) (d : D), ρ[i]? = some (Slot.v d) → ∃ v, σ[i]? = some (some v) ∧ Rp K (hide P H) v d
section
variable {K : PySem.W.Frag} {P : Addr → Prop} {T : Twn} {n n' n2 : Nat} {H H' H2 : Hp} {σ : L2.St} {ρ : Rho}
theorem Keep.refl (T : Twn) (H : Hp) : Keep T H H := fun _ _ _ h => h
theorem Keep.trans (a : Keep T H H') (b : Keep T H' H2) : Keep T H H2 := fun x o h q => b x o h (a x o h q)
theorem Keep.of (e : Same H H') : Keep T H H' := fun a o _ q => e a o q
theorem Keep.view (a : Keep T H H') (t : TwOk K T P n H) : Same (hide P H) (hide P H') := hide_mono fun x o hn q => ⟨hn, a x o (fun p hp e => hn (e ▸ (t.ok p hp).1)) q⟩
theorem TwOk.same (t : TwOk K T P n H) (e : Same H H') : TwOk K T P n H' := ⟨fun p hp => by
  obtain ⟨h1, h2, ns, h3, h4⟩ := t.ok p hp
  exact ⟨h1, e _ _ h2, ns, (hide_same e).seq h3, h4⟩⟩
theorem Post.refl (t : TwOk K T P n H) : Post K P T H n H := ⟨.refl T H, t⟩
theorem Post.same (t : TwOk K T P n H) (e : Same H H') : Post K P T H n H' := ⟨.of e, t.same e⟩
theorem Post.trans (a : Post K P T H n' H') (b : Post K P T H' n2 H2) : Post K P T H n2 H2 := ⟨a.keep.trans b.keep, b.tw⟩
theorem Post.view (a : Post K P T H n' H') (t : TwOk K T P n H) : Same (hide P H) (hide P H') := a.keep.view t
theorem Post.there (a : Post K P T H n' H') (h : ∀ a, P a → H a ≠ none) : ∀ a, P a → H' a ≠ none := fun x hx => by
  by_cases e : ∃ p, T = some p ∧ x = p.2
  · obtain ⟨p, hp, e⟩ := e
    rw [e, (a.tw.ok p hp).2.1]; exact fun z => nomatch z
  · cases q : H x with
    | none => exact (h x hx q).elim
    | some o => rw [a.keep x o (fun p hp z => e ⟨p, hp, z⟩) q]; exact fun z => nomatch z
theorem St0.step (s : St0 K P T n H σ ρ) (p : Post K P T H n' H') : St0 K P T n' H' σ ρ :=
  ⟨p.there s.there, p.tw, s.frame, s.len, fun i d h => by
    obtain ⟨v, h1, h2⟩ := s.val i d h
    exact ⟨v, h1, h2.mono (p.view s.tw)⟩⟩
theorem St0.nin (s : St0 K P T n H σ ρ) {p : Addr} (h : H p = none) : ¬ P p := fun q => s.there p q h
theorem St0.set (s : St0 K P T n H σ ρ) {i : Nat} {v : V} {d : D} (hi : T.isSome = true → 2 ≤ i) (h : Rp K (hide P H) v d) : St0 K P T n H (σ.set i (some v)) (ρ.set i (.v d)) := by
  refine ⟨s.there, s.tw, fun p hp => ?_, by rw [List.length_set, List.length_set]; exact s.len, fun j e hj => ?_⟩
  · obtain ⟨h0, h1⟩ := s.frame p hp
    have := hi (by rw [hp]; rfl)
    exact ⟨by rw [List.getElem?_set_ne (by omega)]; exact h0, by rw [List.getElem?_set_ne (by omega)]; exact h1⟩
  · by_cases e1 : i = j
    · subst e1
      rw [List.getElem?_set] at hj
      simp only [if_true] at hj
      split at hj
      · rename_i hl
        cases hj
        exact ⟨v, by rw [List.getElem?_set_self (by rw [s.len]; exact hl)], h⟩
      · cases hj
    · rw [List.getElem?_set_ne e1] at hj
      obtain ⟨w, h1, h2⟩ := s.val j e hj
      exact ⟨w, by rw [List.getElem?_set_ne e1]; exact h1, h2⟩
theorem St0.wipe (s : St0 K P T n H σ ρ) {i : Nat} (hi : T.isSome = true → 2 ≤ i) : St0 K P T n H (σ.set i none) (ρ.set i .no) := by
  refine ⟨s.there, s.tw, fun p hp => ?_, by rw [List.length_set, List.length_set]; exact s.len, fun j e hj => ?_⟩
  · obtain ⟨h0, h1⟩ := s.frame p hp
    have := hi (by rw [hp]; rfl)
    exact ⟨by rw [List.getElem?_set_ne (by omega)]; exact h0, by rw [List.getElem?_set_ne (by omega)]; exact h1⟩
  · by_cases e1 : i = j
    · subst e1
      rw [List.getElem?_set] at hj
      simp only [if_true] at hj
      split at hj <;> cases hj
    · rw [List.getElem?_set_ne e1] at hj
      obtain ⟨w, h1, h2⟩ := s.val j e hj
      exact ⟨w, by rw [List.getElem?_set_ne e1]; exact h1, h2⟩
end
/-! ### what an expression's reading means -/
abbrev EXT := L2.St → XK
/-- a reading t, from a state that is known as ρ, does what f says -/
def DT (K : PySem.W.Frag) (EX : EXT) (ek : Kd → Value) (tw : Bool) (t : TE) (f : Rho → W D) : Prop :=
  ∀ (P : Addr → Prop) (T : Twn) (n : Nat) (H : Hp) (σ : L2.St) (ρ : Rho) (Qd : D → Nat → Prop) (Ed : Kd → Nat → Prop) (Q : VK),
    T.isSome = tw → St0 K P T n H σ ρ → f ρ Qd Ed n → (∀ d n' v H', Qd d n' → Post K P T H n' H' → Rp K (hide P H') v d → Q v H') →
    (∀ k n' H', Ed k n' → Post K P T H n' H' → EX σ (ek k) none H') → t σ H Q
/-- a test -/
def DB (K : PySem.W.Frag) (EX : EXT) (ek : Kd → Value) (tw : Bool) (t : TT) (f : Rho → W Bool) : Prop :=
  ∀ (P : Addr → Prop) (T : Twn) (n : Nat) (H : Hp) (σ : L2.St) (ρ : Rho) (Qd : Bool → Nat → Prop) (Ed : Kd → Nat → Prop) (Q : Bool → Hp → Prop),
    T.isSome = tw → St0 K P T n H σ ρ → f ρ Qd Ed n → (∀ d n' H', Qd d n' → Post K P T H n' H' → Q d H') →
    (∀ k n' H', Ed k n' → Post K P T H n' H' → EX σ (ek k) none H') → t σ H Q
/-- arguments -/
def DA (K : PySem.W.Frag) (EX : EXT) (ek : Kd → Value) (tw : Bool) (t : TA) (f : Rho → W (List D)) : Prop :=
  ∀ (P : Addr → Prop) (T : Twn) (n : Nat) (H : Hp) (σ : L2.St) (ρ : Rho) (Qd : List D → Nat → Prop) (Ed : Kd → Nat → Prop) (Q : List V → Hp → Prop),
    T.isSome = tw → St0 K P T n H σ ρ → f ρ Qd Ed n → (∀ ds n' vs H', Qd ds n' → Post K P T H n' H' → RpAll K (hide P H') vs ds → Q vs H') →
    (∀ k n' H', Ed k n' → Post K P T H n' H' → EX σ (ek k) none H') → t σ H Q
/-- a slice's part -/
def DO (K : PySem.W.Frag) (EX : EXT) (ek : Kd → Value) (tw : Bool) (t : TO) (f : Rho → W (Option Int)) : Prop :=
  ∀ (P : Addr → Prop) (T : Twn) (n : Nat) (H : Hp) (σ : L2.St) (ρ : Rho) (Qd : Option Int → Nat → Prop) (Ed : Kd → Nat → Prop) (Q : Option Int → Hp → Prop),
    T.isSome = tw → St0 K P T n H σ ρ → f ρ Qd Ed n → (∀ d n' H', Qd d n' → Post K P T H n' H' → Q d H') →
    (∀ k n' H', Ed k n' → Post K P T H n' H' → EX σ (ek k) none H') → t σ H Q
/-- an expression that gives a NEW list -/
def DF (K : PySem.W.Frag) (EX : EXT) (ek : Kd → Value) (tw : Bool) (t : TE) (f : Rho → W (List D)) : Prop :=
  ∀ (P : Addr → Prop) (T : Twn) (n : Nat) (H : Hp) (σ : L2.St) (ρ : Rho) (Qd : List D → Nat → Prop) (Ed : Kd → Nat → Prop) (Q : VK),
    T.isSome = tw → St0 K P T n H σ ρ → f ρ Qd Ed n →
    (∀ ds n' p vs H', Qd ds n' → Post K P T H n' H' → H p = none → H' p = some (.lst vs) → RpAll K (hide (fun a => P a ∨ a = p) H') vs ds → Q (.ref p) H') →
    (∀ k n' H', Ed k n' → Post K P T H n' H' → EX σ (ek k) none H') → t σ H Q
/-! ### the wp's words -/
def wret {α : Type} (a : α) : W α := fun Q _ n => Q a n
def wbind {α β : Type} (m : W α) (f : α → W β) : W β := fun Q E n => m (fun a n1 => f a Q E n1) E n
/-- an operation on values, without the town and refusals -/
def wop {α : Type} (g : (α → Prop) → Prop) : W α := fun Q _ n => g fun a => Q a n
def getV (ρ : Rho) (i : Nat) : W D := fun Q _ n => match ρ[i]? with
  | some (Slot.v d) => Q d n
  | _ => False
section
variable {K : PySem.W.Frag} {EX : EXT} {ek : Kd → Value} {tw : Bool} {ta tb tc te : TE} {fa fb fc fe : Rho → W D} {t u : TT} {ft fu : Rho → W Bool} {tr : TA} {fr : Rho → W (List D)}
theorem DF.dt {f : Rho → W (List D)} (h : DF K EX ek tw te f) : DT K EX ek tw te (fun ρ Q E n => f ρ (fun ds n' => Q (.list ds) n') E n) := by
  intro P T n H σ ρ Qd Ed Q hT s hf hq he
  refine h P T n H σ ρ _ Ed Q hT s hf (fun ds n' p vs H' q po hn hp r => hq _ n' _ H' q po ?_) he
  have hnp : ¬ P p := s.nin hn
  exact .lst (hide_some.mpr ⟨hnp, hp⟩) (r.mono (hide_mono fun a o hn q => ⟨fun z => hn (.inl z), q⟩))
theorem dt_var {i : Nat} : DT K EX ek tw (tVar i) (fun ρ => getV ρ i) := by
  intro P T n H σ ρ Qd Ed Q _ s hf hq _
  unfold getV at hf
  split at hf
  · rename_i d hd
    obtain ⟨v, h1, h2⟩ := s.val i d hd
    exact ⟨v, h1, hq d n v H hf (.refl s.tw) h2⟩
  · exact hf.elim
theorem dt_const {v : V} {d : D} (h : ∀ H, Rp K H v d) : DT K EX ek tw (tC v) (fun _ => wret d) := by
  intro P T n H σ ρ Qd Ed Q _ s hf hq _
  exact hq d n v H hf (.refl s.tw) (h _)
theorem dt_int {i : Int} : DT K EX ek tw (tC (.int i)) (fun _ => wret (.int i)) := dt_const fun _ => .int i
theorem dt_str {x : Str} : DT K EX ek tw (tC (.str x)) (fun _ => wret (.str x)) := dt_const fun _ => .str x
theorem dt_bl {b : Bool} : DT K EX ek tw (tC (.bl b)) (fun _ => wret (.bool b)) := dt_const fun _ => .bl b
theorem dt_non : DT K EX ek tw (tC .non) (fun _ => wret .none) := dt_const fun _ => .non
theorem rp_tup {H : Hp} {a : Addr} {xs : List V} {ds : List D} (h : ∀ H, SqT K H a xs) (r : ∀ H, RpAll K H xs ds) : Rp K H (.ref a) (.tuple ds) := .tup (h H) (r H)
/-! ### operations of two values -/
/-- r does what g says -/
def DR (K : PySem.W.Frag) (r : R2) (g : D → D → (D → Prop) → Prop) : Prop :=
  ∀ (P : Addr → Prop) (H : Hp) (x y : V) (dx dy : D) (q : D → Prop) (Q : VK), (∀ a, P a → H a ≠ none) → Rp K (hide P H) x dx → Rp K (hide P H) y dy → g dx dy q →
    (∀ d v H', q d → Same H H' → Rp K (hide P H') v d → Q v H') → r x y H Q
theorem dt_op {r : R2} {g : D → D → (D → Prop) → Prop} (hr : DR K r g) (ha : DT K EX ek tw ta fa) (hb : DT K EX ek tw tb fb) :
    DT K EX ek tw (tOp r ta tb) (fun ρ => wbind (fa ρ) fun x => wbind (fb ρ) fun y => wop (g x y)) := by
  intro P T n H σ ρ Qd Ed Q hT s hf hq he
  refine ha P T n H σ ρ _ Ed _ hT s hf (fun x n1 vx H1 q1 p1 r1 => ?_) he
  refine hb P T n1 H1 σ ρ _ Ed _ hT (s.step p1) q1 (fun y n2 vy H2 q2 p2 r2 => ?_) (fun k n' H' a b => he k n' H' a (p1.trans b))
  have s2 := (s.step p1).step p2
  exact hr P H2 vx vy x y _ _ s2.there (r1.mono (p2.view (s.step p1).tw)) r2 q2 fun d v H3 q3 e r3 => hq d n2 v H3 q3 ((p1.trans p2).trans (.same s2.tw e)) r3
def DU (K : PySem.W.Frag) (r : V → Hp → VK → Prop) (g : D → (D → Prop) → Prop) : Prop :=
  ∀ (P : Addr → Prop) (H : Hp) (x : V) (dx : D) (q : D → Prop) (Q : VK), (∀ a, P a → H a ≠ none) → Rp K (hide P H) x dx → g dx q →
    (∀ d v H', q d → Same H H' → Rp K (hide P H') v d → Q v H') → r x H Q
theorem dt_un {r : V → Hp → VK → Prop} {g : D → (D → Prop) → Prop} (hr : DU K r g) (ha : DT K EX ek tw ta fa) :
    DT K EX ek tw (tUn r ta) (fun ρ => wbind (fa ρ) fun x => wop (g x)) := by
  intro P T n H σ ρ Qd Ed Q hT s hf hq he
  refine ha P T n H σ ρ _ Ed _ hT s hf (fun x n1 vx H1 q1 p1 r1 => ?_) he
  have s1 := s.step p1
  exact hr P H1 vx x _ _ s1.there r1 q1 fun d v H2 q2 e r2 => hq d n1 v H2 q2 (p1.trans (.same s1.tw e)) r2
/-- a call of a built-in by values -/
def DC (K : PySem.W.Frag) (r : List V → Hp → VK → Prop) (g : List D → (D → Prop) → Prop) : Prop :=
  ∀ (P : Addr → Prop) (H : Hp) (xs : List V) (ds : List D) (q : D → Prop) (Q : VK), (∀ a, P a → H a ≠ none) → RpAll K (hide P H) xs ds → g ds q →
    (∀ d v H', q d → Same H H' → Rp K (hide P H') v d → Q v H') → r xs H Q
theorem dt_cb {r : List V → Hp → VK → Prop} {g : List D → (D → Prop) → Prop} (hr : DC K r g) (ha : DA K EX ek tw tr fr) :
    DT K EX ek tw (tCB r tr) (fun ρ => wbind (fr ρ) fun xs => wop (g xs)) := by
  intro P T n H σ ρ Qd Ed Q hT s hf hq he
  refine ha P T n H σ ρ _ Ed _ hT s hf (fun x n1 vx H1 q1 p1 r1 => ?_) he
  have s1 := s.step p1
  exact hr P H1 vx x _ _ s1.there r1 q1 fun d v H2 q2 e r2 => hq d n1 v H2 q2 (p1.trans (.same s1.tw e)) r2
theorem da_nil : DA K EX ek tw tNil (fun _ => wret []) := by
  intro P T n H σ ρ Qd Ed Q _ s hf hq _
  exact hq [] n [] H hf (.refl s.tw) .nil
theorem da_cons (ha : DT K EX ek tw ta fa) (hr : DA K EX ek tw tr fr) : DA K EX ek tw (tCons ta tr) (fun ρ => wbind (fa ρ) fun x => wbind (fr ρ) fun xs => wret (x :: xs)) := by
  intro P T n H σ ρ Qd Ed Q hT s hf hq he
  refine ha P T n H σ ρ _ Ed _ hT s hf (fun x n1 vx H1 q1 p1 r1 => ?_) he
  refine hr P T n1 H1 σ ρ _ Ed _ hT (s.step p1) q1 (fun y n2 vy H2 q2 p2 r2 => ?_) (fun k n' H' a b => he k n' H' a (p1.trans b))
  exact hq _ n2 _ H2 q2 (p1.trans p2) (.cons (r1.mono (p2.view (s.step p1).tw)) r2)
theorem do_none : DO K EX ek tw tNoPart (fun _ => wret none) := by
  intro P T n H σ ρ Qd Ed Q _ s hf hq _
  exact hq none n H hf (.refl s.tw)
def asInt : D → (Int → Prop) → Prop
  | .int i, q => q i
  | _, _ => False
theorem do_some (ha : DT K EX ek tw ta fa) : DO K EX ek tw (tPart ta) (fun ρ => wbind (fa ρ) fun x => wop (fun q => asInt x fun i => q (some i))) := by
  intro P T n H σ ρ Qd Ed Q hT s hf hq he
  refine ha P T n H σ ρ _ Ed _ hT s hf (fun x n1 vx H1 q1 p1 r1 => ?_) he
  cases r1 with
  | int i => exact ⟨i, rfl, hq (some i) n1 H1 q1 p1⟩
  | _ => exact q1.elim
/-! ### tests -/
def asBool : D → (Bool → Prop) → Prop
  | .bool b, q => q b
  | _, _ => False
theorem db_test (ha : DT K EX ek tw ta fa) : DB K EX ek tw (tTest ta) (fun ρ => wbind (fa ρ) fun x => wop (asBool x)) := by
  intro P T n H σ ρ Qd Ed Q hT s hf hq he
  refine ha P T n H σ ρ _ Ed _ hT s hf (fun x n1 vx H1 q1 p1 r1 => ?_) he
  cases r1 with
  | bl b => exact ⟨b, rfl, hq b n1 H1 q1 p1⟩
  | _ => exact q1.elim
theorem db_B (ha : DT K EX ek tw ta fa) : DB K EX ek tw (tB ta) (fun ρ => wbind (fa ρ) fun x => wop (asBool x)) := db_test ha
/-- a value's truth -/
def truD : D → (Bool → Prop) → Prop
  | .none, q => q false
  | .bool b, q => q b
  | .int i, q => q (i != 0)
  | .list xs, q => q (!xs.isEmpty)
  | .tuple xs, q => q (!xs.isEmpty)
  | .str x, q => x.length ≤ sizeLine ∧ q ((x.length : Int) != 0)
  | _, _ => False
theorem isEmpty_rp {K : PySem.W.Frag} {H : Hp} {vs : List V} {ds : List D} (h : RpAll K H vs ds) : vs.isEmpty = ds.isEmpty := by cases h <;> rfl
theorem tru_rp {H : Hp} {P : Addr → Prop} {v : V} {d : D} {q : Bool → Prop} (r : Rp K (hide P H) v d) (h : truD d q) : ∃ k, TruV K v H k ∧ q k := by
  cases r with
  | non => exact ⟨false, rfl, h⟩
  | bl b => exact ⟨b, rfl, h⟩
  | int i => exact ⟨_, rfl, h⟩
  | str x => exact ⟨_, ⟨h.1, rfl⟩, h.2⟩
  | lst e r => exact ⟨_, .inl ⟨_, .inl (.inl (hide_le _ _ e)), rfl⟩, by rw [isEmpty_rp r]; exact h⟩
  | tup e r => exact ⟨_, .inr (.inl ⟨_, seqT_mono hide_le e, rfl⟩), by rw [isEmpty_rp r]; exact h⟩
theorem db_tru (ha : DT K EX ek tw ta fa) : DB K EX ek tw (fun σ H Q => ta σ H fun x H' => ∃ k, TruV K x H' k ∧ Q k H') (fun ρ => wbind (fa ρ) fun x => wop (truD x)) := by
  intro P T n H σ ρ Qd Ed Q hT s hf hq he
  refine ha P T n H σ ρ _ Ed _ hT s hf (fun x n1 vx H1 q1 p1 r1 => ?_) he
  obtain ⟨k, h1, h2⟩ := tru_rp r1 q1
  exact ⟨k, h1, hq k n1 H1 h2 p1⟩
theorem db_not (h : DB K EX ek tw t ft) : DB K EX ek tw (tNot t) (fun ρ => wbind (ft ρ) fun b => wret (!b)) := by
  intro P T n H σ ρ Qd Ed Q hT s hf hq he
  exact h P T n H σ ρ _ Ed _ hT s hf (fun b n1 H1 q1 p1 => hq _ n1 H1 q1 p1) he
theorem db_and (h : DB K EX ek tw t ft) (h2 : DB K EX ek tw u fu) : DB K EX ek tw (tAnd t u) (fun ρ => wbind (ft ρ) fun b => bif b then fu ρ else wret false) := by
  intro P T n H σ ρ Qd Ed Q hT s hf hq he
  refine h P T n H σ ρ _ Ed _ hT s hf (fun b n1 H1 q1 p1 => ?_) he
  cases b with
  | true => exact iteT (h2 P T n1 H1 σ ρ _ Ed _ hT (s.step p1) q1 (fun c n2 H2 q2 p2 => hq c n2 H2 q2 (p1.trans p2)) fun k n' H' a b => he k n' H' a (p1.trans b))
  | false => exact iteF (hq _ n1 H1 q1 p1)
theorem db_or (h : DB K EX ek tw t ft) (h2 : DB K EX ek tw u fu) : DB K EX ek tw (tOr t u) (fun ρ => wbind (ft ρ) fun b => bif b then wret true else fu ρ) := by
  intro P T n H σ ρ Qd Ed Q hT s hf hq he
  refine h P T n H σ ρ _ Ed _ hT s hf (fun b n1 H1 q1 p1 => ?_) he
  cases b with
  | false => exact iteF (h2 P T n1 H1 σ ρ _ Ed _ hT (s.step p1) q1 (fun c n2 H2 q2 p2 => hq c n2 H2 q2 (p1.trans p2)) fun k n' H' a b => he k n' H' a (p1.trans b))
  | true => exact iteT (hq _ n1 H1 q1 p1)
theorem db_yes : DB K EX ek tw tYes (fun _ => wret true) := by
  intro P T n H σ ρ Qd Ed Q _ s hf hq _
  exact hq true n H hf (.refl s.tw)
theorem dt_if (h : DB K EX ek tw t ft) (ha : DT K EX ek tw ta fa) (hb : DT K EX ek tw tb fb) : DT K EX ek tw (tIf t ta tb) (fun ρ => wbind (ft ρ) fun b => bif b then fa ρ else fb ρ) := by
  intro P T n H σ ρ Qd Ed Q hT s hf hq he
  refine h P T n H σ ρ _ Ed _ hT s hf (fun b n1 H1 q1 p1 => ?_) he
  cases b with
  | true => exact iteT (ha P T n1 H1 σ ρ _ Ed _ hT (s.step p1) q1 (fun c n2 v H2 q2 p2 r2 => hq c n2 v H2 q2 (p1.trans p2) r2) fun k n' H' a b => he k n' H' a (p1.trans b))
  | false => exact iteF (hb P T n1 H1 σ ρ _ Ed _ hT (s.step p1) q1 (fun c n2 v H2 q2 p2 r2 => hq c n2 v H2 q2 (p1.trans p2) r2) fun k n' H' a b => he k n' H' a (p1.trans b))
theorem dt_andV (ha : DT K EX ek tw ta fa) (hb : DT K EX ek tw tb fb) : DT K EX ek tw (tAndV ta tb) (fun ρ => wbind (fa ρ) fun x => wbind (wop (asBool x)) fun b => bif b then fb ρ else wret (.bool false)) := by
  intro P T n H σ ρ Qd Ed Q hT s hf hq he
  refine ha P T n H σ ρ _ Ed _ hT s hf (fun x n1 vx H1 q1 p1 r1 => ?_) he
  cases r1 with
  | bl b =>
    refine ⟨b, rfl, ?_⟩
    cases b with
    | true => exact iteT (hb P T n1 H1 σ ρ _ Ed _ hT (s.step p1) q1 (fun c n2 v H2 q2 p2 r2 => hq c n2 v H2 q2 (p1.trans p2) r2) fun k n' H' a b => he k n' H' a (p1.trans b))
    | false => exact iteF (hq _ n1 _ H1 q1 p1 (.bl false))
  | _ => exact q1.elim
theorem dt_orV (ha : DT K EX ek tw ta fa) (hb : DT K EX ek tw tb fb) : DT K EX ek tw (tOrV ta tb) (fun ρ => wbind (fa ρ) fun x => wbind (wop (asBool x)) fun b => bif b then wret (.bool true) else fb ρ) := by
  intro P T n H σ ρ Qd Ed Q hT s hf hq he
  refine ha P T n H σ ρ _ Ed _ hT s hf (fun x n1 vx H1 q1 p1 r1 => ?_) he
  cases r1 with
  | bl b =>
    refine ⟨b, rfl, ?_⟩
    cases b with
    | false => exact iteF (hb P T n1 H1 σ ρ _ Ed _ hT (s.step p1) q1 (fun c n2 v H2 q2 p2 r2 => hq c n2 v H2 q2 (p1.trans p2) r2) fun k n' H' a b => he k n' H' a (p1.trans b))
    | true => exact iteT (hq _ n1 _ H1 q1 p1 (.bl true))
  | _ => exact q1.elim
theorem dt_notV (ha : DT K EX ek tw ta fa) : DT K EX ek tw (tNotV ta) (fun ρ => wbind (fa ρ) fun x => wbind (wop (asBool x)) fun b => wret (.bool (!b))) := by
  intro P T n H σ ρ Qd Ed Q hT s hf hq he
  refine ha P T n H σ ρ _ Ed _ hT s hf (fun x n1 vx H1 q1 p1 r1 => ?_) he
  cases r1 with
  | bl b => exact ⟨b, rfl, hq _ n1 _ H1 q1 p1 (.bl _)⟩
  | _ => exact q1.elim
/-- a < b < c -/
theorem dt_chain {r r' : R2} {g g' : D → D → (D → Prop) → Prop} (hr : DR K r g) (hr' : DR K r' g') (ha : DT K EX ek tw ta fa) (hb : DT K EX ek tw tb fb) (hc : DT K EX ek tw tc fc) :
    DT K EX ek tw (tChain r r' ta tb tc) (fun ρ => wbind (fa ρ) fun x => wbind (fb ρ) fun y => wbind (wop (g x y)) fun z => wbind (wop (asBool z)) fun b => bif b then wbind (fc ρ) fun w => wop (g' y w) else wret (.bool false)) := by
  intro P T n H σ ρ Qd Ed Q hT s hf hq he
  refine ha P T n H σ ρ _ Ed _ hT s hf (fun x n1 vx H1 q1 p1 r1 => ?_) he
  refine hb P T n1 H1 σ ρ _ Ed _ hT (s.step p1) q1 (fun y n2 vy H2 q2 p2 r2 => ?_) (fun k n' H' a b => he k n' H' a (p1.trans b))
  have s2 := (s.step p1).step p2
  refine hr P H2 vx vy x y _ _ s2.there (r1.mono (p2.view (s.step p1).tw)) r2 q2 fun z vz H3 q3 e r3 => ?_
  have p3 : Post K P T H n2 H3 := (p1.trans p2).trans (.same s2.tw e)
  cases r3 with
  | bl b =>
    refine ⟨b, rfl, ?_⟩
    cases b with
    | false => exact iteF (hq _ n2 _ H3 q3 p3 (.bl false))
    | true =>
      refine iteT (hc P T n2 H3 σ ρ _ Ed _ hT (s.step p3) q3 (fun c n4 vc H4 q4 p4 r4 => ?_) fun k n' H' a b => he k n' H' a (p3.trans b))
      have s4 := (s.step p3).step p4
      exact hr' P H4 vy vc y c _ _ s4.there ((r2.mono (hide_same e)).mono (p4.view (s.step p3).tw)) r4 q4 fun d v H5 q5 e5 r5 => hq d n4 v H5 q5 ((p3.trans p4).trans (.same s4.tw e5)) r5
  | _ => exact q3.elim
/-! ### displays -/
theorem dt_tup (h : DA K EX ek tw tr fr) : DT K EX ek tw (tTup tr) (fun ρ => wbind (fr ρ) fun xs => wop fun q => xs.length ≤ 100000 ∧ q (.tuple xs)) := by
  intro P T n H σ ρ Qd Ed Q hT s hf hq he
  refine h P T n H σ ρ _ Ed _ hT s hf (fun xs n1 vs H1 q1 p1 r1 => ?_) he
  have s1 := s.step p1
  refine ⟨by rw [r1.length, sizeLine_eq]; have := q1.1; omega, fun p hp => ?_⟩
  have e := same_new (o := .tup vs) hp
  exact hq _ n1 _ _ q1.2 (p1.trans (.same s1.tw e)) (.tup (.inl (.inl (hide_some.mpr ⟨s1.nin hp, upd_same⟩))) (r1.mono (hide_same e)))
theorem df_lst (h : DA K EX ek tw tr fr) : DF K EX ek tw (tLst tr) (fun ρ => wbind (fr ρ) fun xs => wop fun q => xs.length ≤ 100000 ∧ q xs) := by
  intro P T n H σ ρ Qd Ed Q hT s hf hq he
  refine h P T n H σ ρ _ Ed _ hT s hf (fun xs n1 vs H1 q1 p1 r1 => ?_) he
  have s1 := s.step p1
  refine ⟨by rw [r1.length, sizeLine_eq]; have := q1.1; omega, fun p hp => ?_⟩
  have e := same_new (o := .lst vs) hp
  have hn : H p = none := by
    cases z : H p with
    | none => rfl
    | some o =>
      by_cases w : ∃ b, T = some b ∧ p = b.2
      · obtain ⟨b, hb, rfl⟩ := w
        rw [(s1.tw.ok b hb).2.1] at hp; cases hp
      · rw [p1.keep p o (fun b hb q => w ⟨b, hb, q⟩) z] at hp; cases hp
  refine hq _ n1 p vs _ q1.2 (p1.trans (.same s1.tw e)) hn upd_same (r1.mono (hide_mono fun a o na q => ⟨fun z => ?_, e a o q⟩))
  rcases z with z | z
  · exact na z
  · rw [z, hp] at q; cases q
theorem St0.back {P : Addr → Prop} {T : Twn} {n n' : Nat} {H H' : Hp} {σ : L2.St} {ρ : Rho} (s : St0 K P T n H σ ρ) (p1 : Post K P T H n' H') {p : Addr} (hp : H' p = none) : H p = none := by
  cases z : H p with
  | none => rfl
  | some o =>
    by_cases w : ∃ b, T = some b ∧ p = b.2
    · obtain ⟨b, hb, rfl⟩ := w
      rw [(p1.tw.ok b hb).2.1] at hp; cases hp
    · rw [p1.keep p o (fun b hb q => w ⟨b, hb, q⟩) z] at hp; cases hp
end
end WB
set_option Elab.async false
set_option linter.all false
set_option maxRecDepth 100000
set_option maxHeartbeats 2000000
/-! Part B: operators, built-ins, slices, walks, comprehensions over data. -/
namespace WB
open PySem PySem.Spec L2
/-! ### operators -/
section
variable {X : Cx}
abbrev rAddI : R2 := rI0 fun i j => .int (i + j)
abbrev rAddS : R2 := fun x y H Q => ∃ i j, x = .str i ∧ y = .str j ∧ i.length + j.length ≤ sizeLine ∧ Q (.str (i ++ j)) H
def rAddG (K : PySem.W.Frag) : R2 := fun x y H Q => rAddI x y H Q ∨ (rCat x y H Q ∨ (rCatA K x y H Q ∨ rAddS x y H Q))
theorem op_addG : OpR X (binaryOp .Add) (rAddG X.K) := op_add.or (op_cat.or (op_catA.or op_add_str))
def rMulG (K : PySem.W.Frag) : R2 := fun x y H Q => (rI CMul fun i j => .int (i * j)) x y H Q ∨ rRep x y H Q
theorem op_mulG : OpR X (binaryOp .Mult) (rMulG X.K) := op_mul.or op_rep
end
section
variable {K : PySem.W.Frag}
theorem df_new {P : Addr → Prop} {H : Hp} (hP : ∀ a, P a → H a ≠ none) {p : Addr} {o : HO} (hp : H p = none) : hide P (upd H p o) p = some o := hide_some.mpr ⟨fun q => hP p q hp, upd_same⟩
theorem new_l {P : Addr → Prop} {H : Hp} {q : D → Prop} {Q : VK} {p : Addr} {vs : List V} {ds : List D} (hP : ∀ a, P a → H a ≠ none) (hQ : ∀ d v H', q d → Same H H' → Rp K (hide P H') v d → Q v H') (hp : H p = none) (hg : q (.list ds)) (r : RpAll K (hide P H) vs ds) : Q (.ref p) (upd H p (.lst vs)) :=
  hQ _ _ _ hg (same_new hp) (.lst (df_new hP hp) (r.mono (hide_same (same_new hp))))
theorem new_t {P : Addr → Prop} {H : Hp} {q : D → Prop} {Q : VK} {p : Addr} {vs : List V} {ds : List D} (hP : ∀ a, P a → H a ≠ none) (hQ : ∀ d v H', q d → Same H H' → Rp K (hide P H') v d → Q v H') (hp : H p = none) (hg : q (.tuple ds)) (r : RpAll K (hide P H) vs ds) : Q (.ref p) (upd H p (.tup vs)) :=
  hQ _ _ _ hg (same_new hp) (.tup (.inl (.inl (df_new hP hp))) (r.mono (hide_same (same_new hp))))
/-- the new list's own place is hidden -/
theorem new_f {P : Addr → Prop} {H : Hp} {p : Addr} {o : HO} {vs : List V} {ds : List D} (hp : H p = none) (r : RpAll K (hide P H) vs ds) : RpAll K (hide (fun a => P a ∨ a = p) (upd H p o)) vs ds :=
  r.mono (hide_mono fun a u na q => ⟨fun z => z.elim na fun w => (by rw [w, hp] at q; cases q), same_new hp a u q⟩)
def addD : D → D → (D → Prop) → Prop
  | .int a, .int b, q => q (.int (a + b))
  | .list a, .list b, q => a.length + b.length ≤ 1000000 ∧ q (.list (a ++ b))
  | .tuple a, .tuple b, q => a.length + b.length ≤ 1000000 ∧ q (.tuple (a ++ b))
  | .str a, .str b, q => a.length + b.length ≤ 1000000 ∧ q (.str (a ++ b))
  | _, _, _ => False
theorem line6 {n : Nat} (h : n ≤ 1000000) : n ≤ sizeLine := by rw [sizeLine_eq]; omega
theorem dr_add : DR K (rAddG K) addD := by
  intro P H x y dx dy q Q hP rx ry hg hQ
  cases rx with
  | int i =>
    cases ry with
    | int j => exact .inl ⟨i, j, rfl, rfl, hQ _ _ H hg (fun _ _ e => e) (.int _)⟩
    | _ => exact hg.elim
  | str a =>
    cases ry with
    | str b => exact .inr (.inr (.inr ⟨a, b, rfl, rfl, line6 hg.1, hQ _ _ H hg.2 (fun _ _ e => e) (.str _)⟩))
    | _ => exact hg.elim
  | lst e1 r1 =>
    cases ry with
    | lst e2 r2 =>
      refine .inr (.inl ⟨_, _, _, _, rfl, rfl, hide_le _ _ e1, hide_le _ _ e2, ?_, fun p hp => ?_⟩)
      · rw [r1.length, r2.length]; exact line6 hg.1
      · exact new_l hP hQ hp hg.2 (r1.append r2)
    | _ => exact hg.elim
  | tup e1 r1 =>
    cases ry with
    | tup e2 r2 =>
      refine .inr (.inr (.inl ⟨_, _, _, _, rfl, rfl, seqT_mono hide_le e1, seqT_mono hide_le e2, ?_, fun ne => ?_, fun _ ne => ?_, fun _ _ p hp => ?_⟩))
      · rw [r1.length, r2.length]; exact line6 hg.1
      · subst ne
        cases r1
        exact hQ _ _ H hg.2 (fun _ _ e => e) (.tup e2 r2)
      · subst ne
        cases r2
        refine hQ _ _ H hg.2 (fun _ _ e => e) ?_
        rw [List.append_nil]
        exact .tup e1 r1
      · exact new_t hP hQ hp hg.2 (r1.append r2)
    | _ => exact hg.elim
  | _ => exact hg.elim
def mulD : D → D → (D → Prop) → Prop
  | .int a, .int b, q => CMul a b ∧ q (.int (a * b))
  | .list a, .int b, q => a.length * b.toNat ≤ 1000000 ∧ -1000000 ≤ b ∧ b ≤ 1000000 ∧ q (.list (List.replicate b.toNat a).flatten)
  | _, _, _ => False
theorem dr_mul : DR K (rMulG K) mulD := by
  intro P H x y dx dy q Q hP rx ry hg hQ
  cases rx with
  | int i =>
    cases ry with
    | int j => exact .inl ⟨i, j, rfl, rfl, hg.1, hQ _ _ H hg.2 (fun _ _ e => e) (.int _)⟩
    | _ => exact hg.elim
  | lst e1 r1 =>
    cases ry with
    | int j =>
      refine .inr ⟨_, _, _, rfl, rfl, hide_le _ _ e1, ?_, ?_, ?_, fun p hp => ?_⟩
      · have := hg.2.1; omega
      · have := hg.2.2.1; omega
      · rw [r1.length]; exact line6 hg.1
      · exact new_l hP hQ hp hg.2.2.2 (r1.flat _)
    | _ => exact hg.elim
  | _ => exact hg.elim
/-- two ints, under a condition -/
def intD (C : Int → Int → Prop) (g : Int → Int → D) : D → D → (D → Prop) → Prop
  | .int a, .int b, q => C a b ∧ q (g a b)
  | _, _, _ => False
def intD0 (g : Int → Int → D) : D → D → (D → Prop) → Prop
  | .int a, .int b, q => q (g a b)
  | _, _, _ => False
theorem dr_I {C : Int → Int → Prop} {g : Int → Int → V} {g' : Int → Int → D} (h : ∀ H i j, Rp K H (g i j) (g' i j)) : DR K (rI C g) (intD C g') := by
  intro P H x y dx dy q Q hP rx ry hg hQ
  cases rx with
  | int i =>
    cases ry with
    | int j => exact ⟨i, j, rfl, rfl, hg.1, hQ _ _ H hg.2 (fun _ _ e => e) (h _ _ _)⟩
    | _ => exact hg.elim
  | _ => exact hg.elim
theorem dr_I0 {g : Int → Int → V} {g' : Int → Int → D} (h : ∀ H i j, Rp K H (g i j) (g' i j)) : DR K (rI0 g) (intD0 g') := by
  intro P H x y dx dy q Q hP rx ry hg hQ
  cases rx with
  | int i =>
    cases ry with
    | int j => exact ⟨i, j, rfl, rfl, hQ _ _ H hg (fun _ _ e => e) (h _ _ _)⟩
    | _ => exact hg.elim
  | _ => exact hg.elim
theorem dr_sub : DR K (rI0 fun i j => .int (i - j)) (intD0 fun i j => .int (i - j)) := dr_I0 fun _ _ _ => .int _
theorem dr_fdiv : DR K (rI CDiv fun i j => .int (i / j)) (intD CDiv fun i j => .int (i / j)) := dr_I fun _ _ _ => .int _
theorem dr_mod : DR K (rI (fun _ j => 0 < j) fun i j => .int (i % j)) (intD (fun _ j => 0 < j) fun i j => .int (i % j)) := dr_I fun _ _ _ => .int _
theorem dr_pow : DR K (rI CPow fun i j => .int (i ^ j.toNat)) (intD CPow fun i j => .int (i ^ j.toNat)) := dr_I fun _ _ _ => .int _
theorem dr_lt : DR K (rI0 fun i j => .bl (decide (i < j))) (intD0 fun i j => .bool (decide (i < j))) := dr_I0 fun _ _ _ => .bl _
theorem dr_le : DR K (rI0 fun i j => .bl (decide (i ≤ j))) (intD0 fun i j => .bool (decide (i ≤ j))) := dr_I0 fun _ _ _ => .bl _
theorem dr_gt : DR K (rI0 fun i j => .bl (decide (j < i))) (intD0 fun i j => .bool (decide (j < i))) := dr_I0 fun _ _ _ => .bl _
theorem dr_ge : DR K (rI0 fun i j => .bl (decide (j ≤ i))) (intD0 fun i j => .bool (decide (j ≤ i))) := dr_I0 fun _ _ _ => .bl _
/-- == and != of data -/
def eqD : D → D → (D → Prop) → Prop := fun x y q => SeqAt.shaped x = true ∧ SeqAt.shaped y = true ∧ q (.bool (PyData.eqv x y))
def neD : D → D → (D → Prop) → Prop := fun x y q => SeqAt.shaped x = true ∧ SeqAt.shaped y = true ∧ q (.bool (!PyData.eqv x y))
theorem dr_eq : DR K (rEqD K) eqD := fun P H x y dx dy q Q _ rx ry hg hQ =>
  ⟨dx, dy, (rx.mono hide_le).dp, (ry.mono hide_le).dp, hg.1, hg.2.1, hQ _ _ H hg.2.2 (fun _ _ e => e) (.bl _)⟩
theorem dr_ne : DR K (rNeD K) neD := fun P H x y dx dy q Q _ rx ry hg hQ =>
  ⟨dx, dy, (rx.mono hide_le).dp, (ry.mono hide_le).dp, hg.1, hg.2.1, hQ _ _ H hg.2.2 (fun _ _ e => e) (.bl _)⟩
abbrev rIsNo : R2 := fun x y H Q => y = .non ∧ Q (.bl (decide (x = .non))) H
abbrev rIsNotNo : R2 := fun x y H Q => y = .non ∧ Q (.bl (!decide (x = .non))) H
def isNo : D → Bool
  | .none => true
  | _ => false
def isNoD : D → D → (D → Prop) → Prop := fun x y q => y = .none ∧ q (.bool (isNo x))
def isNotNoD : D → D → (D → Prop) → Prop := fun x y q => y = .none ∧ q (.bool (!isNo x))
theorem dec_no {H : Hp} {v : V} {d : D} (h : Rp K H v d) : decide (v = .non) = isNo d := by cases h <;> simp [isNo]
theorem dr_is : DR K rIsNo isNoD := fun P H x y dx dy q Q _ rx ry hg hQ => by
  obtain ⟨e, hg⟩ := hg
  subst e
  cases ry
  exact ⟨rfl, by rw [dec_no rx]; exact hQ _ _ H hg (fun _ _ e => e) (.bl _)⟩
theorem dr_isnot : DR K rIsNotNo isNotNoD := fun P H x y dx dy q Q _ rx ry hg hQ => by
  obtain ⟨e, hg⟩ := hg
  subst e
  cases ry
  exact ⟨rfl, by rw [dec_no rx]; exact hQ _ _ H hg (fun _ _ e => e) (.bl _)⟩
/-! in, not in -/
abbrev rInSg : R2 := fun x y H Q => ∃ (c : Nat) (z : Str), x = .str ⟨#[c]⟩ ∧ y = .str z ∧ Q (.bl (decide (c ∈ z.cps.toList))) H
abbrev rNotInSg : R2 := fun x y H Q => ∃ (c : Nat) (z : Str), x = .str ⟨#[c]⟩ ∧ y = .str z ∧ Q (.bl (!decide (c ∈ z.cps.toList))) H
def rInG (K : PySem.W.Frag) : R2 := fun x y H Q => rInD K x y H Q ∨ (rIn K false x y H Q ∨ rInSg x y H Q)
def rNotInG (K : PySem.W.Frag) : R2 := fun x y H Q => rNotInD K x y H Q ∨ (rIn K true x y H Q ∨ rNotInSg x y H Q)
theorem op_inG {X : Cx} (hu : X.A.units + 65 < cLine) : OpR X (compareOp .In) (rInG X.K) := (op_inD hu).or (op_in_seq.or op_in_sign)
theorem op_notInG {X : Cx} (hu : X.A.units + 65 < cLine) : OpR X (compareOp .NotIn) (rNotInG X.K) := (op_notInD hu).or (op_notIn_seq.or op_notIn_sign)
/-- a text is among texts -/
def strsOf : List D → Option (List Str)
  | [] => some []
  | .str x :: ds => (strsOf ds).map (x :: ·)
  | _ :: _ => none
def inD : D → D → (Bool → Prop) → Prop
  | x, .list ds, q => SeqAt.shaped x = true ∧ SeqAt.shaped (.list ds) = true ∧ q (ds.any fun z => PyData.eqv z x)
  | .str x, .tuple ds, q => ∃ xs, strsOf ds = some xs ∧ q (xs.any fun z => z == x)
  | .str x, .str z, q => ∃ c, x = ⟨#[c]⟩ ∧ q (decide (c ∈ z.cps.toList))
  | _, _, _ => False
theorem strsOf_map : ∀ {ds : List D} {xs : List Str}, strsOf ds = some xs → ds = xs.map PyData.str
  | [], _, h => by cases h; rfl
  | .str x :: ds, xs, h => by
    unfold strsOf at h
    cases e : strsOf ds with
    | none => rw [e] at h; cases h
    | some ys => rw [e] at h; cases h; rw [strsOf_map e]; rfl
  | .none :: _, _, h => by cases h
  | .bool _ :: _, _, h => by cases h
  | .int _ :: _, _, h => by cases h
  | .list _ :: _, _, h => by cases h
  | .tuple _ :: _, _, h => by cases h
  | .dict _ :: _, _, h => by cases h
theorem all_flat_str (xs : List Str) : (xs.map V.str).all flatV = true := by
  rw [List.all_map]; exact List.all_eq_true.mpr fun _ _ => rfl
theorem inV_str (x : Str) (xs : List Str) : inV (.str x) (xs.map V.str) = xs.any fun z => z == x := by
  unfold inV; rw [List.any_map]; rfl
theorem in_core {P : Addr → Prop} {H : Hp} {x y : V} {dx dy : D} {q : Bool → Prop} (rx : Rp K (hide P H) x dx) (ry : Rp K (hide P H) y dy) (hg : inD dx dy q) :
    ∃ b, q b ∧ ((∃ ds, dy = .list ds ∧ SeqAt.shaped dx = true ∧ SeqAt.shaped (.list ds) = true ∧ b = (ds.any fun z => PyData.eqv z dx)) ∨
      (∃ p xs, y = .ref p ∧ SqT K H p xs ∧ flatV x = true ∧ xs.all flatV = true ∧ b = inV x xs) ∨ (∃ c z, x = .str ⟨#[c]⟩ ∧ y = .str z ∧ b = decide (c ∈ z.cps.toList))) := by
  cases ry with
  | lst e2 r2 =>
    rename_i ds
    have h : SeqAt.shaped dx = true ∧ SeqAt.shaped (.list ds) = true ∧ q (ds.any fun z => PyData.eqv z dx) := by cases dx <;> exact hg
    exact ⟨_, h.2.2, .inl ⟨_, rfl, h.1, h.2.1, rfl⟩⟩
  | tup e2 r2 =>
    cases rx with
    | str x =>
      obtain ⟨xs, h1, h2⟩ := hg
      have := strsOf_map h1
      subst this
      have := r2.strs
      subst this
      exact ⟨_, h2, .inr (.inl ⟨_, _, rfl, seqT_mono hide_le e2, rfl, all_flat_str _, (inV_str _ _).symm⟩)⟩
    | _ => exact hg.elim
  | str z =>
    cases rx with
    | str x =>
      obtain ⟨c, h1, h2⟩ := hg
      subst h1
      exact ⟨_, h2, .inr (.inr ⟨_, _, rfl, rfl, rfl⟩)⟩
    | _ => exact hg.elim
  | _ => cases dx <;> exact hg.elim
theorem dr_in : DR K (rInG K) (fun x y q => inD x y fun b => q (.bool b)) := by
  intro P H x y dx dy q Q hP rx ry hg hQ
  obtain ⟨b, hb, h | h | h⟩ := in_core rx ry hg
  · obtain ⟨ds, rfl, s1, s2, rfl⟩ := h
    exact .inl ⟨dx, ds, (rx.mono hide_le).dp, (ry.mono hide_le).dp, s1, s2, hQ _ _ H hb (fun _ _ e => e) (.bl _)⟩
  · obtain ⟨p, xs, rfl, h1, h2, h3, rfl⟩ := h
    exact .inr (.inl ⟨p, xs, rfl, .inr h1, h2, h3, hQ _ _ H hb (fun _ _ e => e) (.bl _)⟩)
  · obtain ⟨c, z, rfl, rfl, rfl⟩ := h
    exact .inr (.inr ⟨c, z, rfl, rfl, hQ _ _ H hb (fun _ _ e => e) (.bl _)⟩)
theorem dr_notIn : DR K (rNotInG K) (fun x y q => inD x y fun b => q (.bool (!b))) := by
  intro P H x y dx dy q Q hP rx ry hg hQ
  obtain ⟨b, hb, h | h | h⟩ := in_core rx ry hg
  · obtain ⟨ds, rfl, s1, s2, rfl⟩ := h
    exact .inl ⟨dx, ds, (rx.mono hide_le).dp, (ry.mono hide_le).dp, s1, s2, hQ _ _ H hb (fun _ _ e => e) (.bl _)⟩
  · obtain ⟨p, xs, rfl, h1, h2, h3, rfl⟩ := h
    exact .inr (.inl ⟨p, xs, rfl, .inr h1, h2, h3, hQ _ _ H hb (fun _ _ e => e) (.bl _)⟩)
  · obtain ⟨c, z, rfl, rfl, rfl⟩ := h
    exact .inr (.inr ⟨c, z, rfl, rfl, hQ _ _ H hb (fun _ _ e => e) (.bl _)⟩)
/-! places -/
theorem atI_rp {H : Hp} {xs : List V} {ds : List D} (r : RpAll K H xs ds) {i : Int} {d : D} (h : atI ds i = some d) : ∃ v, atI xs i = some v ∧ Rp K H v d := by
  unfold atI at h ⊢
  rw [r.length]
  cases e : ixN ds.length i with
  | none => rw [e] at h; cases h
  | some j =>
    rw [e] at h
    exact r.get (i := j) h
def ixD : D → D → (D → Prop) → Prop
  | .list ds, .int i, q => ∃ d, atI ds i = some d ∧ q d
  | .tuple ds, .int i, q => ∃ d, atI ds i = some d ∧ q d
  | .str z, .int i, q => z.length ≤ 1000000 ∧ ∃ c, atI z.cps.toList i = some c ∧ q (.str ⟨#[c]⟩)
  | _, _, _ => False
theorem dr_ix : DR K (rIx K) ixD := by
  intro P H x y dx dy q Q hP rx ry hg hQ
  cases rx with
  | lst e1 r1 =>
    cases ry with
    | int i =>
      obtain ⟨d, h1, h2⟩ := hg
      obtain ⟨v, h3, h4⟩ := atI_rp r1 h1
      exact .inl ⟨_, _, i, v, rfl, rfl, .inl (.inl (hide_le _ _ e1)), h3, hQ _ _ H h2 (fun _ _ e => e) h4⟩
    | _ => exact hg.elim
  | tup e1 r1 =>
    cases ry with
    | int i =>
      obtain ⟨d, h1, h2⟩ := hg
      obtain ⟨v, h3, h4⟩ := atI_rp r1 h1
      exact .inr (.inl ⟨_, _, i, v, rfl, rfl, seqT_mono hide_le e1, h3, hQ _ _ H h2 (fun _ _ e => e) h4⟩)
    | _ => exact hg.elim
  | str z =>
    cases ry with
    | int i =>
      obtain ⟨h0, c, h1, h2⟩ := hg
      exact .inr (.inr ⟨z, i, c, rfl, rfl, line6 h0, h1, hQ _ _ H h2 (fun _ _ e => e) (.str _)⟩)
    | _ => exact hg.elim
  | _ => exact hg.elim
/-! -x -/
def negD : D → (D → Prop) → Prop
  | .int i, q => q (.int (-i))
  | _, _ => False
theorem du_neg : DU K (rU fun i => .int (-i)) negD := by
  intro P H x dx q Q hP rx hg hQ
  cases rx with
  | int i => exact ⟨i, rfl, hQ _ _ H hg (fun _ _ e => e) (.int _)⟩
  | _ => exact hg.elim
/-! slices -/
def cutG {α : Type} (xs : List α) (lo hi : Option Int) : List α := (xs.drop (HT.sIx xs.length 0 lo)).take (HT.sIx xs.length xs.length hi - HT.sIx xs.length 0 lo)
theorem cut_rp {H : Hp} {xs : List V} {ds : List D} (r : RpAll K H xs ds) (lo hi : Option Int) : RpAll K H (cutV xs lo hi) (cutG ds lo hi) := by
  unfold cutV cutG
  rw [r.length]
  exact (r.drop _).take _
theorem cut_whole {α : Type} {xs : List α} {lo hi : Option Int} (h : HT.sIx xs.length 0 lo = 0 ∧ HT.sIx xs.length xs.length hi = xs.length) : cutG xs lo hi = xs := by
  unfold cutG
  rw [h.1, h.2, List.drop_zero, Nat.sub_zero, List.take_length]
def rSlG (K : PySem.W.Frag) : V → Option Int → Option Int → Hp → VK → Prop := fun x lo hi H Q => rSlL K x lo hi H Q ∨ (rSlA K x lo hi H Q ∨ rSlS x lo hi H Q)
theorem sl_G {X : Cx} : SlR X (rSlG X.K) := sl_list.or (sl_tupA.or sl_str)
def slD : D → Option Int → Option Int → (D → Prop) → Prop
  | .list ds, lo, hi, q => q (.list (cutG ds lo hi))
  | .tuple ds, lo, hi, q => q (.tuple (cutG ds lo hi))
  | .str z, lo, hi, q => z.length ≤ 1000000 ∧ q (.str (cutS z lo hi))
  | _, _, _, _ => False
theorem ds_sl {P : Addr → Prop} {H : Hp} {x : V} {dx : D} {lo hi : Option Int} {q : D → Prop} {Q : VK} (hP : ∀ a, P a → H a ≠ none) (rx : Rp K (hide P H) x dx) (hg : slD dx lo hi q)
    (hQ : ∀ d v H', q d → Same H H' → Rp K (hide P H') v d → Q v H') : rSlG K x lo hi H Q := by
  cases rx with
  | lst e1 r1 =>
    refine .inl ⟨_, _, rfl, .inl (.inl (hide_le _ _ e1)), fun p hp => new_l hP hQ hp hg (cut_rp r1 lo hi)⟩
  | tup e1 r1 =>
    refine .inr (.inl ⟨_, _, rfl, seqT_mono hide_le e1, fun hw => ?_, fun _ p hp => ?_⟩)
    · rw [r1.length] at hw
      have hg : q _ := hg
      rw [cut_whole hw] at hg
      exact hQ _ _ H hg (fun _ _ e => e) (.tup e1 r1)
    · exact new_t hP hQ hp hg (cut_rp r1 lo hi)
  | str z => exact .inr (.inr ⟨z, rfl, line6 hg.1, hQ _ _ H hg.2 (fun _ _ e => e) (.str _)⟩)
  | _ => exact hg.elim
end
section
variable {K : PySem.W.Frag} {EX : EXT} {ek : Kd → Value} {tw : Bool} {ta tb tc te : TE} {fa fb fc fe : Rho → W D} {t u : TT} {ft fu : Rho → W Bool} {tr : TA} {fr : Rho → W (List D)} {tl th : TO} {fl fh : Rho → W (Option Int)}
theorem dt_slice (ha : DT K EX ek tw ta fa) (hl : DO K EX ek tw tl fl) (hh : DO K EX ek tw th fh) :
    DT K EX ek tw (tSl (rSlG K) ta tl th) (fun ρ => wbind (fa ρ) fun x => wbind (fl ρ) fun l => wbind (fh ρ) fun h => wop (slD x l h)) := by
  intro P T n H σ ρ Qd Ed Q hT s hf hq he
  refine ha P T n H σ ρ _ Ed _ hT s hf (fun x n1 vx H1 q1 p1 r1 => ?_) he
  refine hl P T n1 H1 σ ρ _ Ed _ hT (s.step p1) q1 (fun l n2 H2 q2 p2 => ?_) (fun k n' H' a b => he k n' H' a (p1.trans b))
  have p12 := p1.trans p2
  refine hh P T n2 H2 σ ρ _ Ed _ hT (s.step p12) q2 (fun h n3 H3 q3 p3 => ?_) (fun k n' H' a b => he k n' H' a (p12.trans b))
  have p13 := p12.trans p3
  have s3 := s.step p13
  exact ds_sl s3.there (r1.mono ((p2.trans p3).view (s.step p1).tw)) q3 fun d v H' q e r => hq d n3 v H' q (p13.trans (.same s3.tw e)) r
/-- xs[::-1] -/
def revD : D → (List D → Prop) → Prop
  | .list ds, q => q ds.reverse
  | _, _ => False
theorem df_rev (ha : DT K EX ek tw ta fa) : DF K EX ek tw (tRevL K ta) (fun ρ => wbind (fa ρ) fun x => wop (revD x)) := by
  intro P T n H σ ρ Qd Ed Q hT s hf hq he
  refine ha P T n H σ ρ _ Ed _ hT s hf (fun x n1 vx H1 q1 p1 r1 => ?_) he
  have s1 := s.step p1
  cases r1 with
  | lst e1 r1 =>
    refine ⟨_, _, rfl, .inl (.inl (hide_le _ _ e1)), fun p hp => ?_⟩
    exact hq _ n1 p _ _ q1 (p1.trans (.same s1.tw (same_new hp))) (s.back p1 hp) upd_same (new_f hp r1.reverse)
  | _ => exact q1.elim
end
end WB
set_option Elab.async false
set_option linter.all false
set_option maxRecDepth 100000
set_option maxHeartbeats 2000000
/-! Part C: built-ins, walks, comprehensions, calls by contract. -/
namespace WB
open PySem PySem.Spec L2
section
variable {K : PySem.W.Frag}
/-! ### built-ins -/
abbrev rLen (K : PySem.W.Frag) : List V → Hp → VK → Prop := fun xs H Q => ∃ x n, xs = [x] ∧ LenV K x H n ∧ Q (.int n) H
def lenD : List D → (D → Prop) → Prop
  | [.list ds], q => q (.int ds.length)
  | [.tuple ds], q => q (.int ds.length)
  | [.str z], q => z.length ≤ 1000000 ∧ q (.int z.length)
  | _, _ => False
theorem dc_len : DC K (rLen K) lenD := by
  intro P H xs ds q Q hP r hg hQ
  cases r with
  | nil => exact hg.elim
  | cons r rr =>
    cases rr with
    | cons _ _ => cases r <;> exact hg.elim
    | nil =>
      cases r with
      | lst e r => exact ⟨_, _, rfl, .inl ⟨_, .inl (.inl (hide_le _ _ e)), rfl⟩, by rw [r.length]; exact hQ _ _ H hg (fun _ _ e => e) (.int _)⟩
      | tup e r => exact ⟨_, _, rfl, .inr ⟨_, seqT_mono hide_le e, rfl⟩, by rw [r.length]; exact hQ _ _ H hg (fun _ _ e => e) (.int _)⟩
      | str z => exact ⟨_, _, rfl, ⟨line6 hg.1, rfl⟩, hQ _ _ H hg.2 (fun _ _ e => e) (.int _)⟩
      | _ => exact hg.elim
theorem one_list {P : Addr → Prop} {H : Hp} {xs : List V} {ds : List D} (r : RpAll K (hide P H) xs [.list ds]) : ∃ a vs, xs = [.ref a] ∧ H a = some (.lst vs) ∧ RpAll K (hide P H) vs ds := by
  cases r with
  | cons r rr =>
    cases rr
    cases r with
    | lst e r => exact ⟨_, _, rfl, hide_le _ _ e, r⟩
def sumD : List D → (D → Prop) → Prop := fun xs q => ∃ ns : List Int, xs = [.list (ns.map .int)] ∧ q (.int ns.sum)
theorem dc_sum : DC K (rSum K) sumD := by
  intro P H xs ds q Q hP r hg hQ
  obtain ⟨ns, rfl, hg⟩ := hg
  obtain ⟨a, vs, rfl, e, r⟩ := one_list r
  rw [r.ints] at e
  exact ⟨a, ns, rfl, .inl (.inl e), hQ _ _ H hg (fun _ _ e => e) (.int _)⟩
def allD : List D → (D → Prop) → Prop := fun xs q => ∃ bs : List Bool, xs = [.list (bs.map .bool)] ∧ q (.bool (bs.all id))
theorem dc_all : DC K (rAll K) allD := by
  intro P H xs ds q Q hP r hg hQ
  obtain ⟨ns, rfl, hg⟩ := hg
  obtain ⟨a, vs, rfl, e, r⟩ := one_list r
  rw [r.bls] at e
  exact ⟨a, ns, rfl, .inl (.inl e), hQ _ _ H hg (fun _ _ e => e) (.bl _)⟩
def anyD : List D → (D → Prop) → Prop := fun xs q => ∃ bs : List Bool, xs = [.list (bs.map .bool)] ∧ q (.bool (bs.any id))
theorem dc_any : DC K (rAny K) anyD := by
  intro P H xs ds q Q hP r hg hQ
  obtain ⟨ns, rfl, hg⟩ := hg
  obtain ⟨a, vs, rfl, e, r⟩ := one_list r
  rw [r.bls] at e
  exact ⟨a, ns, rfl, .inl (.inl e), hQ _ _ H hg (fun _ _ e => e) (.bl _)⟩
/-- max, min: of a list of ints; of two ints -/
abbrev rMax2' : List V → Hp → VK → Prop := fun xs H Q => ∃ i j, xs = [.int i, .int j] ∧ Q (.int (if j > i then j else i)) H
abbrev rMin2' : List V → Hp → VK → Prop := fun xs H Q => ∃ i j, xs = [.int i, .int j] ∧ Q (.int (if j < i then j else i)) H
def rMaxG (K : PySem.W.Frag) : List V → Hp → VK → Prop := fun xs H Q => rMax K xs H Q ∨ rMax2' xs H Q
def rMinG (K : PySem.W.Frag) : List V → Hp → VK → Prop := fun xs H Q => rMin K xs H Q ∨ rMin2' xs H Q
theorem call_maxG {X : Cx} (hc : X.calm = true) : CallR X (.builtin "max") (rMaxG X.K) := (cr_max hc).or (call_max2 hc)
theorem call_minG {X : Cx} (hc : X.calm = true) : CallR X (.builtin "min") (rMinG X.K) := (cr_min hc).or (call_min2 hc)
def maxD : List D → (D → Prop) → Prop := fun xs q => (∃ ns : List Int, xs = [.list (ns.map .int)] ∧ ns ≠ [] ∧ ∀ m, m ∈ ns → (∀ y, y ∈ ns → y ≤ m) → q (.int m)) ∨ ∃ i j, xs = [.int i, .int j] ∧ q (.int (max i j))
def minD : List D → (D → Prop) → Prop := fun xs q => (∃ ns : List Int, xs = [.list (ns.map .int)] ∧ ns ≠ [] ∧ ∀ m, m ∈ ns → (∀ y, y ∈ ns → m ≤ y) → q (.int m)) ∨ ∃ i j, xs = [.int i, .int j] ∧ q (.int (min i j))
theorem len_pos {α : Type} {l : List α} (h : l ≠ []) : 0 < l.length := List.length_pos_iff.mpr h
theorem dc_max : DC K (rMaxG K) maxD := by
  intro P H xs ds q Q hP r hg hQ
  rcases hg with ⟨ns, rfl, hne, hg⟩ | ⟨i, j, rfl, hg⟩
  · obtain ⟨a, vs, rfl, e, r⟩ := one_list r
    rw [r.ints] at e
    exact .inl ⟨a, ns, rfl, .inl (.inl e), len_pos hne, fun m h1 h2 => hQ _ _ H (hg m h1 h2) (fun _ _ e => e) (.int _)⟩
  · cases r with
    | cons r rr =>
      cases r
      cases rr with
      | cons r rr =>
        cases r
        cases rr
        refine .inr ⟨i, j, rfl, ?_⟩
        have : (if j > i then j else i) = max i j := by omega
        rw [this]
        exact hQ _ _ H hg (fun _ _ e => e) (.int _)
theorem dc_min : DC K (rMinG K) minD := by
  intro P H xs ds q Q hP r hg hQ
  rcases hg with ⟨ns, rfl, hne, hg⟩ | ⟨i, j, rfl, hg⟩
  · obtain ⟨a, vs, rfl, e, r⟩ := one_list r
    rw [r.ints] at e
    exact .inl ⟨a, ns, rfl, .inl (.inl e), len_pos hne, fun m h1 h2 => hQ _ _ H (hg m h1 h2) (fun _ _ e => e) (.int _)⟩
  · cases r with
    | cons r rr =>
      cases r
      cases rr with
      | cons r rr =>
        cases r
        cases rr
        refine .inr ⟨i, j, rfl, ?_⟩
        have : (if j < i then j else i) = min i j := by omega
        rw [this]
        exact hQ _ _ H hg (fun _ _ e => e) (.int _)
abbrev rAbs : List V → Hp → VK → Prop := fun xs H Q => ∃ i, xs = [.int i] ∧ Q (.int (if i < 0 then -i else i)) H
def absD : List D → (D → Prop) → Prop := fun xs q => ∃ i : Int, xs = [.int i] ∧ q (.int (i.natAbs : Int))
theorem dc_abs : DC K rAbs absD := by
  intro P H xs ds q Q hP r hg hQ
  obtain ⟨i, rfl, hg⟩ := hg
  cases r with
  | cons r rr =>
    cases r
    cases rr
    refine ⟨i, rfl, ?_⟩
    have : (if i < 0 then -i else i) = (i.natAbs : Int) := by omega
    rw [this]
    exact hQ _ _ H hg (fun _ _ e => e) (.int _)
abbrev rInt1 : List V → Hp → VK → Prop := fun xs H Q => (∃ i, xs = [.int i] ∧ Q (.int i) H) ∨ ∃ k, xs = [.bl k] ∧ Q (.int (if k then 1 else 0)) H
def int1D : List D → (D → Prop) → Prop
  | [.int i], q => q (.int i)
  | [.bool b], q => q (.int (if b then 1 else 0))
  | _, _ => False
theorem dc_int1 : DC K rInt1 int1D := by
  intro P H xs ds q Q hP r hg hQ
  cases r with
  | nil => exact hg.elim
  | cons r rr =>
    cases rr with
    | cons _ _ => cases r <;> exact hg.elim
    | nil =>
      cases r with
      | int i => exact .inl ⟨i, rfl, hQ _ _ H hg (fun _ _ e => e) (.int _)⟩
      | bl b => exact .inr ⟨b, rfl, hQ _ _ H hg (fun _ _ e => e) (.int _)⟩
      | _ => exact hg.elim
abbrev rStrI : List V → Hp → VK → Prop := fun xs H Q => ∃ i, xs = [.int i] ∧ i.natAbs.log2 < 1920 ∧ Q (.str (toString i)) H
def strD : List D → (D → Prop) → Prop := fun xs q => ∃ i : Int, xs = [.int i] ∧ i.natAbs < 1000000 ∧ q (.str (toString i))
theorem dc_str : DC K rStrI strD := by
  intro P H xs ds q Q hP r hg hQ
  obtain ⟨i, rfl, hl, hg⟩ := hg
  cases r with
  | cons r rr =>
    cases r
    cases rr
    refine ⟨i, rfl, ?_, hQ _ _ H hg (fun _ _ e => e) (.str _)⟩
    by_cases h0 : i.natAbs = 0
    · rw [h0]; decide
    · have h1 : 2 ^ i.natAbs.log2 ≤ i.natAbs := Nat.log2_self_le h0
      have h2 : ¬ 1920 ≤ i.natAbs.log2 := fun q => by
        have := Nat.pow_le_pow_right (show 0 < 2 by decide) (Nat.le_trans (by decide : 20 ≤ 1920) q)
        omega
      omega
/-- tuple(x) -/
def tupD : List D → (D → Prop) → Prop
  | [.list ds], q => q (.tuple ds)
  | [.tuple ds], q => q (.tuple ds)
  | _, _ => False
abbrev rTupO (K : PySem.W.Frag) : List V → Hp → VK → Prop := fun xs H Q => ∃ p ys, xs = [.ref p] ∧ ((SqL K H p ys ∧ ∀ l, H l = none → Q (.ref l) (upd H l (.tup ys))) ∨ (SqT K H p ys ∧ Q (.ref p) H))
theorem dc_tuple : DC K (rTupO K) tupD := by
  intro P H xs ds q Q hP r hg hQ
  cases r with
  | nil => exact hg.elim
  | cons r rr =>
    cases rr with
    | cons _ _ => cases r <;> exact hg.elim
    | nil =>
      cases r with
      | lst e r => exact ⟨_, _, rfl, .inl ⟨.inl (.inl (hide_le _ _ e)), fun l hl => new_t hP hQ hl hg r⟩⟩
      | tup e r => exact ⟨_, _, rfl, .inr ⟨seqT_mono hide_le e, hQ _ _ H hg (fun _ _ e => e) (.tup e r)⟩⟩
      | _ => exact hg.elim
end
section
variable {K : PySem.W.Frag} {EX : EXT} {ek : Kd → Value} {tw : Bool} {ta tb tc te : TE} {fa fb fc fe : Rho → W D} {t u : TT} {ft fu : Rho → W Bool} {tr : TA} {fr : Rho → W (List D)} {tl th : TO} {fl fh : Rho → W (Option Int)}
/-- a built-in that gives a new list -/
def DCF (K : PySem.W.Frag) (r : List V → Hp → VK → Prop) (g : List D → (List D → Prop) → Prop) : Prop :=
  ∀ (P : Addr → Prop) (H : Hp) (xs : List V) (ds : List D) (q : List D → Prop) (Q : VK), (∀ a, P a → H a ≠ none) → RpAll K (hide P H) xs ds → g ds q →
    (∀ ds p vs, q ds → H p = none → RpAll K (hide P H) vs ds → Q (.ref p) (upd H p (.lst vs))) → r xs H Q
theorem df_cb {r : List V → Hp → VK → Prop} {g : List D → (List D → Prop) → Prop} (hr : DCF K r g) (ha : DA K EX ek tw tr fr) :
    DF K EX ek tw (tCB r tr) (fun ρ => wbind (fr ρ) fun xs => wop (g xs)) := by
  intro P T n H σ ρ Qd Ed Q hT s hf hq he
  refine ha P T n H σ ρ _ Ed _ hT s hf (fun x n1 vx H1 q1 p1 r1 => ?_) he
  have s1 := s.step p1
  refine hr P H1 vx x _ _ s1.there r1 q1 fun ds p vs q2 hp r2 => ?_
  exact hq ds n1 p vs _ q2 (p1.trans (.same s1.tw (same_new hp))) (s.back p1 hp) upd_same (new_f hp r2)
abbrev rListO (K : PySem.W.Frag) : List V → Hp → VK → Prop := fun xs H Q => ∃ p ys, xs = [.ref p] ∧ (SqL K H p ys ∨ SqT K H p ys) ∧ ∀ l, H l = none → Q (.ref l) (upd H l (.lst ys))
def listD : List D → (List D → Prop) → Prop
  | [.list ds], q => q ds
  | [.tuple ds], q => q ds
  | _, _ => False
theorem dcf_list : DCF K (rListO K) listD := by
  intro P H xs ds q Q hP r hg hQ
  cases r with
  | nil => exact hg.elim
  | cons r rr =>
    cases rr with
    | cons _ _ => cases r <;> exact hg.elim
    | nil =>
      cases r with
      | lst e r => exact ⟨_, _, rfl, .inl (.inl (.inl (hide_le _ _ e))), fun l hl => hQ _ _ _ hg hl r⟩
      | tup e r => exact ⟨_, _, rfl, .inr (seqT_mono hide_le e), fun l hl => hQ _ _ _ hg hl r⟩
      | _ => exact hg.elim
/-- sorted ints -/
def sortD : List D → (List D → Prop) → Prop := fun xs q => ∃ ns : List Int, xs = [.list (ns.map .int)] ∧ ∀ ns' : List Int, ns'.Perm ns → ns'.Pairwise (· ≤ ·) → q (ns'.map .int)
theorem dcf_sorted : DCF K (rSortedI K) sortD := by
  intro P H xs ds q Q hP r hg hQ
  obtain ⟨ns, rfl, hg⟩ := hg
  obtain ⟨a, vs, rfl, e, r⟩ := one_list r
  rw [r.ints] at e
  exact ⟨a, ns, rfl, .inl (.inl e), fun ns' p h1 h2 hp => hQ _ p _ (hg ns' h1 h2) hp .of_ints⟩
/-- list + list, a slice of a list: new ones -/
def asList : D → (List D → Prop) → Prop
  | .list ds, q => q ds
  | _, _ => False
theorem df_add (ha : DT K EX ek tw ta fa) (hb : DT K EX ek tw tb fb) :
    DF K EX ek tw (tOp (rAddG K) ta tb) (fun ρ => wbind (fa ρ) fun x => wbind (fb ρ) fun y => wop fun q => asList x fun a => asList y fun b => a.length + b.length ≤ 1000000 ∧ q (a ++ b)) := by
  intro P T n H σ ρ Qd Ed Q hT s hf hq he
  refine ha P T n H σ ρ _ Ed _ hT s hf (fun x n1 vx H1 q1 p1 r1 => ?_) he
  refine hb P T n1 H1 σ ρ _ Ed _ hT (s.step p1) q1 (fun y n2 vy H2 q2 p2 r2 => ?_) (fun k n' H' a b => he k n' H' a (p1.trans b))
  have s2 := (s.step p1).step p2
  have r1' := r1.mono (p2.view (s.step p1).tw)
  cases r1' with
  | lst e1 s1 =>
    cases r2 with
    | lst e2 r2 =>
      refine .inr (.inl ⟨_, _, _, _, rfl, rfl, hide_le _ _ e1, hide_le _ _ e2, ?_, fun p hp => ?_⟩)
      · rw [s1.length, r2.length]; exact line6 q2.1
      · exact hq _ n2 p _ _ q2.2 ((p1.trans p2).trans (.same s2.tw (same_new hp))) (s.back (p1.trans p2) hp) upd_same (new_f hp (s1.append r2))
    | _ => exact q2.elim
  | _ => exact q2.elim
theorem df_mul (ha : DT K EX ek tw ta fa) (hb : DT K EX ek tw tb fb) :
    DF K EX ek tw (tOp (rMulG K) ta tb) (fun ρ => wbind (fa ρ) fun x => wbind (fb ρ) fun y => wop fun q => asList x fun a => asInt y fun b => a.length * b.toNat ≤ 1000000 ∧ -1000000 ≤ b ∧ b ≤ 1000000 ∧ q (List.replicate b.toNat a).flatten) := by
  intro P T n H σ ρ Qd Ed Q hT s hf hq he
  refine ha P T n H σ ρ _ Ed _ hT s hf (fun x n1 vx H1 q1 p1 r1 => ?_) he
  refine hb P T n1 H1 σ ρ _ Ed _ hT (s.step p1) q1 (fun y n2 vy H2 q2 p2 r2 => ?_) (fun k n' H' a b => he k n' H' a (p1.trans b))
  have s2 := (s.step p1).step p2
  have r1' := r1.mono (p2.view (s.step p1).tw)
  cases r1' with
  | lst e1 s1 =>
    cases r2 with
    | int j =>
      refine .inr ⟨_, _, _, rfl, rfl, hide_le _ _ e1, ?_, ?_, ?_, fun p hp => ?_⟩
      · have := q2.2.1; omega
      · have := q2.2.2.1; omega
      · rw [s1.length]; exact line6 q2.1
      · exact hq _ n2 p _ _ q2.2.2.2 ((p1.trans p2).trans (.same s2.tw (same_new hp))) (s.back (p1.trans p2) hp) upd_same (new_f hp (s1.flat _))
    | _ => exact q2.elim
  | _ => exact q2.elim
theorem df_slice (ha : DT K EX ek tw ta fa) (hl : DO K EX ek tw tl fl) (hh : DO K EX ek tw th fh) :
    DF K EX ek tw (tSl (rSlG K) ta tl th) (fun ρ => wbind (fa ρ) fun x => wbind (fl ρ) fun l => wbind (fh ρ) fun h => wop fun q => asList x fun ds => q (cutG ds l h)) := by
  intro P T n H σ ρ Qd Ed Q hT s hf hq he
  refine ha P T n H σ ρ _ Ed _ hT s hf (fun x n1 vx H1 q1 p1 r1 => ?_) he
  refine hl P T n1 H1 σ ρ _ Ed _ hT (s.step p1) q1 (fun l n2 H2 q2 p2 => ?_) (fun k n' H' a b => he k n' H' a (p1.trans b))
  have p12 := p1.trans p2
  refine hh P T n2 H2 σ ρ _ Ed _ hT (s.step p12) q2 (fun h n3 H3 q3 p3 => ?_) (fun k n' H' a b => he k n' H' a (p12.trans b))
  have p13 := p12.trans p3
  have s3 := s.step p13
  have r1' := r1.mono ((p2.trans p3).view (s.step p1).tw)
  cases r1' with
  | lst e1 s1 =>
    exact .inl ⟨_, _, rfl, .inl (.inl (hide_le _ _ e1)), fun p hp => hq _ n3 p _ _ q3 (p13.trans (.same s3.tw (same_new hp))) (s.back p13 hp) upd_same (new_f hp (cut_rp s1 l h))⟩
  | _ => exact q3.elim
/-! ### methods by values -/
/-- xs.index(y) -/
def indexD : D → D → (D → Prop) → Prop := fun x y q => ∃ ds j z, x = .list ds ∧ SeqAt.shaped (.list ds) = true ∧ SeqAt.shaped y = true ∧ ds[j]? = some z ∧ PyData.eqv z y = true ∧
  (∀ (m : Nat) (z' : D), m < j → ds[m]? = some z' → PyData.eqv z' y = false) ∧ q (.int (j : Nat))
theorem dt_index (ha : DT K EX ek tw ta fa) (hb : DT K EX ek tw tb fb) :
    DT K EX ek tw (tBM K "list" (rIndexD K) ta (tCons tb tNil)) (fun ρ => wbind (fa ρ) fun x => wbind (wop (asList x)) fun ds => wbind (fb ρ) fun y => wop (indexD (.list ds) y)) := by
  intro P T n H σ ρ Qd Ed Q hT s hf hq he
  refine ha P T n H σ ρ _ Ed _ hT s hf (fun x n1 vx H1 q1 p1 r1 => ?_) he
  cases r1 with
  | lst e1 r1 =>
    refine ⟨.inl ⟨rfl, _, .inl (.inl (hide_le _ _ e1))⟩, ?_⟩
    refine hb P T n1 H1 σ ρ _ Ed _ hT (s.step p1) q1 (fun y n2 vy H2 q2 p2 r2 => ?_) (fun k n' H' a b => he k n' H' a (p1.trans b))
    obtain ⟨ds, j, z, e, h1, h2, h3, h4, h5, h6⟩ := q2
    cases e
    have v := p2.view (s.step p1).tw
    exact ⟨_, vy, y, _, j, z, rfl, rfl, ((Rp.lst e1 r1).mono v |>.mono hide_le).dp, (r2.mono hide_le).dp, h1, h2, h3, h4, h5, hq _ n2 _ H2 h6 (p1.trans p2) (.int _)⟩
  | _ => exact q1.elim
/-- xs.count(k) of ints -/
theorem dt_count (ha : DT K EX ek tw ta fa) (hb : DT K EX ek tw tb fb) :
    DT K EX ek tw (tBM K "list" (rCntI K) ta (tCons tb tNil)) (fun ρ => wbind (fa ρ) fun x => wbind (wop (asList x)) fun ds => wbind (fb ρ) fun y => wop fun q => ∃ (ns : List Int) (k : Int), ds = ns.map .int ∧ y = .int k ∧ q (.int (ns.count k : Nat))) := by
  intro P T n H σ ρ Qd Ed Q hT s hf hq he
  refine ha P T n H σ ρ _ Ed _ hT s hf (fun x n1 vx H1 q1 p1 r1 => ?_) he
  cases r1 with
  | lst e1 r1 =>
    refine ⟨.inl ⟨rfl, _, .inl (.inl (hide_le _ _ e1))⟩, ?_⟩
    refine hb P T n1 H1 σ ρ _ Ed _ hT (s.step p1) q1 (fun y n2 vy H2 q2 p2 r2 => ?_) (fun k n' H' a b => he k n' H' a (p1.trans b))
    obtain ⟨ns, k, rfl, rfl, h6⟩ := q2
    have v := p2.view (s.step p1).tw
    have e2 := v _ _ e1
    rw [r1.ints] at e2
    cases r2
    exact ⟨_, ns, k, rfl, rfl, .inl (.inl (hide_le _ _ e2)), hq _ n2 _ H2 h6 (p1.trans p2) (.int _)⟩
  | _ => exact q1.elim
end
end WB
set_option Elab.async false
set_option linter.all false
set_option maxRecDepth 100000
set_option maxHeartbeats 2000000
/-! Part D: walks, comprehensions, calls by contract. -/
namespace WB
open PySem PySem.Spec L2
/-! ### walks -/
/-- what J walks: the data ds, while the view Hv stands -/
structure Walks (K : PySem.W.Frag) (Hv : Hp) (J : It) (ds : List D) : Prop where
  stop : ∀ H', Same Hv H' → J.stop ds.length H'
  go : ∀ H', Same Hv H' → ∀ i, i < ds.length → J.go i H'
  yld : ∀ H', Same Hv H' → ∀ i, i < ds.length → ∀ x H3, J.yld i H' x H3 → H3 = H' ∧ ∃ d, ds[i]? = some d ∧ Rp K Hv x d
def DI (K : PySem.W.Frag) (EX : EXT) (ek : Kd → Value) (tw : Bool) (wi : TI) (f : Rho → W (List D)) : Prop :=
  ∀ (P : Addr → Prop) (T : Twn) (n : Nat) (H : Hp) (σ : L2.St) (ρ : Rho) (Qd : List D → Nat → Prop) (Ed : Kd → Nat → Prop) (R : It → Hp → Prop),
    T.isSome = tw → St0 K P T n H σ ρ → f ρ Qd Ed n → (∀ ds n' J H', Qd ds n' → Post K P T H n' H' → Walks K (hide P H') J ds → R J H') →
    (∀ k n' H', Ed k n' → Post K P T H n' H' → EX σ (ek k) none H') → wi σ H R
def asTup : D → (List D → Prop) → Prop
  | .tuple ds, q => q ds
  | _, _ => False
def rngD (lo : Int) (n : Nat) : List D := (List.range n).map fun i : Nat => .int (lo + (i : Int))
theorem rngD_len (lo : Int) (n : Nat) : (rngD lo n).length = n := by unfold rngD; rw [List.length_map, List.length_range]
theorem rngD_get (lo : Int) (n i : Nat) (h : i < n) : (rngD lo n)[i]? = some (.int (lo + (i : Int))) := by
  unfold rngD
  rw [List.getElem?_map, List.getElem?_range h]; rfl
section
variable {K : PySem.W.Frag} {EX : EXT} {ek : Kd → Value} {tw : Bool} {ta tb tc te : TE} {fa fb fc fe : Rho → W D} {t u : TT} {ft fu : Rho → W Bool} {tr : TA} {fr : Rho → W (List D)}
theorem sqL_view {Hv H' : Hp} {a : Addr} {xs : List V} (e : Same Hv H') (h : Hv a = some (.lst xs)) : SqL K H' a xs := .inl (.inl (e _ _ h))
theorem di_list (ha : DT K EX ek tw ta fa) : DI K EX ek tw (iList K ta) (fun ρ => wbind (fa ρ) fun x => wop (asList x)) := by
  intro P T n H σ ρ Qd Ed R hT s hf hq he
  refine ha P T n H σ ρ _ Ed _ hT s hf (fun x n1 vx H1 q1 p1 r1 => ?_) he
  cases r1 with
  | lst e1 rr =>
    refine ⟨_, rfl, ⟨_, .inl (.inl (hide_le _ _ e1))⟩, hq _ n1 _ H1 q1 p1 ⟨fun H' e => ⟨_, sqL_view e e1, by rw [rr.length]; exact Nat.le_refl _⟩, fun H' e i hi => ?_, fun H' e i hi x H3 y => ?_⟩⟩
    · obtain ⟨v, h1, _⟩ := rr.get (List.getElem?_eq_getElem hi)
      exact ⟨_, v, sqL_view e e1, h1⟩
    · obtain ⟨y1, y2⟩ := y
      obtain ⟨d, h1, h2⟩ := rr.get' (y2 _ (sqL_view e e1))
      exact ⟨y1, d, h1, h2⟩
  | _ => exact q1.elim
theorem di_tup (ha : DT K EX ek tw ta fa) : DI K EX ek tw (iTup K ta) (fun ρ => wbind (fa ρ) fun x => wop (asTup x)) := by
  intro P T n H σ ρ Qd Ed R hT s hf hq he
  refine ha P T n H σ ρ _ Ed _ hT s hf (fun x n1 vx H1 q1 p1 r1 => ?_) he
  cases r1 with
  | tup e1 rr =>
    refine ⟨_, rfl, ⟨_, seqT_mono hide_le e1⟩, hq _ n1 _ H1 q1 p1 ⟨fun H' e => ⟨_, seqT_mono e e1, by rw [rr.length]; exact Nat.le_refl _⟩, fun H' e i hi => ?_, fun H' e i hi x H3 y => ?_⟩⟩
    · obtain ⟨v, h1, _⟩ := rr.get (List.getElem?_eq_getElem hi)
      exact ⟨_, v, seqT_mono e e1, h1⟩
    · obtain ⟨y1, y2⟩ := y
      obtain ⟨d, h1, h2⟩ := rr.get' (y2 _ (seqT_mono e e1))
      exact ⟨y1, d, h1, h2⟩
  | _ => exact q1.elim
theorem walks_rng {Hv : Hp} {lo : Int} {n : Nat} : Walks K Hv (Itr lo n) (rngD lo n) :=
  ⟨fun _ _ => by show n ≤ _; rw [rngD_len]; exact Nat.le_refl _, fun _ _ i hi => by rw [rngD_len] at hi; exact hi, fun _ _ i hi x H3 y => by
    rw [rngD_len] at hi
    obtain ⟨y1, y2⟩ := y
    subst y2
    exact ⟨y1, _, rngD_get lo n i hi, .int _⟩⟩
def rng1D : List D → (List D → Prop) → Prop
  | [.int j], q => -1000000 ≤ j ∧ j ≤ 1000000 ∧ q (rngD 0 j.toNat)
  | _, _ => False
def rng2D : List D → (List D → Prop) → Prop
  | [.int i, .int j], q => -1000000 ≤ i ∧ i ≤ 1000000 ∧ -1000000 ≤ j ∧ j ≤ 1000000 ∧ q (rngD i (j - i).toNat)
  | _, _ => False
theorem di_rng1 (ha : DA K EX ek tw tr fr) : DI K EX ek tw (iRng1 tr) (fun ρ => wbind (fr ρ) fun xs => wop (rng1D xs)) := by
  intro P T n H σ ρ Qd Ed R hT s hf hq he
  refine ha P T n H σ ρ _ Ed _ hT s hf (fun xs n1 vs H1 q1 p1 r1 => ?_) he
  cases r1 with
  | nil => exact q1.elim
  | cons r rr =>
    cases rr with
    | cons _ _ => cases r <;> exact q1.elim
    | nil =>
      cases r with
      | int j =>
        obtain ⟨h1, h2, h3⟩ := q1
        exact ⟨j, rfl, by omega, by omega, hq _ n1 _ H1 h3 p1 walks_rng⟩
      | _ => exact q1.elim
theorem di_rng2 (ha : DA K EX ek tw tr fr) : DI K EX ek tw (iRng2 tr) (fun ρ => wbind (fr ρ) fun xs => wop (rng2D xs)) := by
  intro P T n H σ ρ Qd Ed R hT s hf hq he
  refine ha P T n H σ ρ _ Ed _ hT s hf (fun xs n1 vs H1 q1 p1 r1 => ?_) he
  cases r1 with
  | nil => exact q1.elim
  | cons r rr =>
    cases rr with
    | nil => cases r <;> exact q1.elim
    | cons r2 rr =>
      cases rr with
      | cons _ _ => cases r <;> cases r2 <;> exact q1.elim
      | nil =>
        cases r with
        | int i =>
          cases r2 with
          | int j =>
            obtain ⟨h1, h2, h3, h4, h5⟩ := q1
            exact ⟨i, j, rfl, ⟨by omega, by omega, by omega, by omega⟩, hq _ n1 _ H1 h5 p1 walks_rng⟩
          | _ => exact q1.elim
        | _ => cases r2 <;> exact q1.elim
/-! ### targets -/
/-- what a target does with an item -/
abbrev Tgt := D → Rho → Option Rho
def tg1 (i : Nat) : Tgt := fun d ρ => some (ρ.set i (.v d))
def setAll : Rho → List Nat → List D → Option Rho
  | ρ, [], [] => some ρ
  | ρ, i :: is, d :: ds => setAll (ρ.set i (.v d)) is ds
  | _, _, _ => none
def tgT (is : List Nat) : Tgt := fun d ρ => match d with
  | .tuple ds => setAll ρ is ds
  | _ => none
inductive GTs : TGs → List Nat → Prop
  | nil : GTs gNil []
  | cons {i : Nat} {is : List Nat} {u : TGs} : GTs u is → GTs (gCons (gName i) u) (i :: is)
theorem wipe_get (σ : L2.St) : ∀ (vs : List Nat) (j : Nat), (wipe σ vs)[j]? = if j ∈ vs then (σ[j]?).map (fun _ => none) else σ[j]?
  | [], j => by simp [wipe]
  | v :: vs, j => by
    show ((wipe σ vs).set v none)[j]? = _
    have ih := wipe_get σ vs j
    by_cases e : v = j
    · subst e
      rw [List.getElem?_set]
      simp only [if_true, List.mem_cons, true_or, wipe_length]
      by_cases h : v < σ.length
      · rw [if_pos h, List.getElem?_eq_getElem h]; rfl
      · rw [if_neg h, List.getElem?_eq_none (by omega)]; rfl
    · rw [List.getElem?_set_ne e, ih]
      have : (j ∈ v :: vs) ↔ j ∈ vs := by
        rw [List.mem_cons]
        exact ⟨fun q => q.resolve_left fun z => e z.symm, .inr⟩
      by_cases h : j ∈ vs
      · rw [if_pos h, if_pos (this.mpr h)]
      · rw [if_neg h, if_neg fun q => h (this.mp q)]
/-- alike but for the slots vs -/
theorem wipe_ext {σ σ' : L2.St} {vs : List Nat} (hl : σ'.length = σ.length) (h : ∀ j, j ∉ vs → σ'[j]? = σ[j]?) : wipe σ' vs = wipe σ vs := by
  apply List.ext_getElem?
  intro j
  rw [wipe_get, wipe_get]
  by_cases e : j ∈ vs
  · rw [if_pos e, if_pos e]
    by_cases q : j < σ.length
    · rw [List.getElem?_eq_getElem q, List.getElem?_eq_getElem (by omega)]; rfl
    · rw [List.getElem?_eq_none (by omega), List.getElem?_eq_none (by omega)]
  · rw [if_neg e, if_neg e]; exact h j e
def wipeR (ρ : Rho) : List Nat → Rho
  | [] => ρ
  | v :: vs => (wipeR ρ vs).set v .no
theorem St0.wipes {P : Addr → Prop} {T : Twn} {n : Nat} {H : Hp} {σ : L2.St} {ρ : Rho} (s : St0 K P T n H σ ρ) : ∀ {vs : List Nat}, (T.isSome = true → ∀ i ∈ vs, 2 ≤ i) → St0 K P T n H (L2.wipe σ vs) (wipeR ρ vs)
  | [], _ => s
  | v :: vs, h => (St0.wipes s fun a i hi => h a i (List.mem_cons_of_mem _ hi)).wipe fun a => h a v List.mem_cons_self
/-- a target's reading does what tg says, at the slots vs -/
def DG (K : PySem.W.Frag) (tw : Bool) (g : TG) (tg : Tgt) (vs : List Nat) : Prop :=
  ∀ (P : Addr → Prop) (T : Twn) (n : Nat) (H : Hp) (σ : L2.St) (ρ ρ' : Rho) (x : V) (d : D) (Q : L2.St → Hp → Prop), T.isSome = tw → St0 K P T n H σ ρ → Rp K (hide P H) x d → tg d ρ = some ρ' →
    (∀ σ', St0 K P T n H σ' ρ' → σ'.length = σ.length → (∀ j, j ∉ vs → σ'[j]? = σ[j]?) → Q σ' H) → g x σ H Q
theorem dg_name {i : Nat} (hi : tw = true → 2 ≤ i) : DG K tw (gName i) (tg1 i) [i] := by
  intro P T n H σ ρ ρ' x d Q hT s r e hQ
  cases e
  exact hQ _ (s.set (fun h => hi (hT ▸ h)) r) (List.length_set ..) fun j hj => List.getElem?_set_ne (by simpa using Ne.symm (by simpa using hj))
theorem gs_ok {P : Addr → Prop} {T : Twn} {n : Nat} {H : Hp} : ∀ {t : TGs} {is : List Nat}, GTs t is → ∀ {σ : L2.St} {ρ ρ' : Rho} {xs : List V} {ds : List D} {Q : L2.St → Hp → Prop}, (T.isSome = true → ∀ i ∈ is, 2 ≤ i) → St0 K P T n H σ ρ → RpAll K (hide P H) xs ds →
    setAll ρ is ds = some ρ' → (∀ σ', St0 K P T n H σ' ρ' → σ'.length = σ.length → (∀ j, j ∉ is → σ'[j]? = σ[j]?) → Q σ' H) → t xs σ H Q
  | _, _, .nil, σ, ρ, ρ', xs, ds, Q, _, s, r, e, hQ => by
    cases r with
    | nil => cases e; exact ⟨rfl, hQ _ s rfl fun _ _ => rfl⟩
    | cons _ _ => cases e
  | _, _, .cons g, σ, ρ, ρ', xs, ds, Q, hi, s, r, e, hQ => by
    cases r with
    | nil => cases e
    | cons r rr =>
      refine ⟨_, _, rfl, ?_⟩
      refine gs_ok g (fun a i hm => hi a i (List.mem_cons_of_mem _ hm)) (s.set (fun a => hi a _ List.mem_cons_self) r) rr e fun σ' s' hl hs => hQ σ' s' (hl.trans (List.length_set ..)) fun j hj => ?_
      rw [List.mem_cons, not_or] at hj
      rw [hs j hj.2, List.getElem?_set_ne (Ne.symm hj.1)]
theorem setAll_len : ∀ {is : List Nat} {ρ ρ' : Rho} {ds : List D}, setAll ρ is ds = some ρ' → ds.length = is.length
  | [], _, _, [], _ => rfl
  | [], _, _, _ :: _, h => by cases h
  | _ :: _, _, _, [], h => by cases h
  | _ :: is, _, _, _ :: ds, h => by
    show ds.length + 1 = is.length + 1
    rw [setAll_len (is := is) (ds := ds) h]
theorem dg_tup {t : TGs} {is : List Nat} {k : Nat} (g : GTs t is) (hk : is.length = k) (hi : tw = true → ∀ i ∈ is, 2 ≤ i) : DG K tw (gTup K k t) (tgT is) is := by
  intro P T n H σ ρ ρ' x d Q hT s r e hQ
  cases r with
  | tup e1 rr =>
    have e : setAll ρ is _ = some ρ' := e
    refine ⟨_, _, rfl, seqT_mono hide_le e1, by rw [rr.length, setAll_len e, hk], ?_⟩
    exact gs_ok g (fun h => hi (hT ▸ h)) s rr e hQ
  | _ => cases e
/-! ### comprehensions -/
abbrev EX0 : EXT := fun _ _ _ _ => False
abbrev NoE : Kd → Nat → Prop := fun _ _ => False
def lcL (tg : Tgt) (ft : Rho → W Bool) (fe : Rho → W D) (ρ : Rho) : List D → (List D → Nat → Prop) → Nat → Prop
  | [], Q, n => Q [] n
  | d :: ds, Q, n => ∃ ρ', tg d ρ = some ρ' ∧ ft ρ' (fun b n1 => cond b (fe ρ' (fun y n2 => lcL tg ft fe ρ ds (fun ys => Q (y :: ys)) n2) NoE n1) (lcL tg ft fe ρ ds Q n1)) NoE n
theorem df_lc {wi : TI} {fi : Rho → W (List D)} {g : TG} {tg : Tgt} {vs : List Nat} (hi : DI K EX ek tw wi fi) (hg : DG K tw g tg vs) (ht : DB K EX0 ek tw t ft) (he : DT K EX0 ek tw te fe) (hv : tw = true → ∀ i ∈ vs, 2 ≤ i) :
    DF K EX ek tw (tLc wi g t te vs) (fun ρ Q E n => fi ρ (fun ds n1 => ds.length ≤ 1000000 ∧ lcL tg ft fe (wipeR ρ vs) ds Q n1) E n) := by
  intro P T n H σ ρ Qd Ed Q hT s hf hq hE
  refine hi P T n H σ ρ _ Ed _ hT s hf (fun ds n1 J H1 q1 p1 wk => ?_) hE
  intro Dn hD
  have s1 := s.step p1
  have hnP : ¬ P Dn := s1.nin hD
  have hvT : T.isSome = true → ∀ i ∈ vs, 2 ≤ i := fun h => hv (hT ▸ h)
  -- W
  refine ⟨fun i m H2 => m = ds.length - i ∧ i ≤ ds.length ∧ ∃ n2 acc dacc, Post K P T H1 n2 H2 ∧ H2 Dn = some (.lst acc) ∧ dacc.length ≤ i ∧ RpAll K (hide (fun a => P a ∨ a = Dn) H2) acc dacc ∧
    lcL tg ft fe (wipeR ρ vs) (ds.drop i) (fun ys => Qd (dacc ++ ys)) n2, ⟨_, rfl, Nat.zero_le _, n1, [], [], .same s1.tw (same_new hD), upd_same, Nat.le_refl _, .nil, ?_⟩, ?_⟩
  · rw [List.drop_zero]
    exact q1.2
  rintro i m H2 ⟨rfl, hi', n2, acc, dacc, p2, hH2, hlen, racc, hl⟩
  have view2 : Same (hide P H1) H2 := fun a o e => hide_le _ _ (p2.view s1.tw a o e)
  by_cases hlt : i < ds.length
  · refine .inr ⟨wk.go H2 view2 i hlt, fun H' => ds.length - (i + 1) = ds.length - (i + 1) ∧ i + 1 ≤ ds.length ∧ ∃ n2 acc dacc, Post K P T H1 n2 H' ∧ H' Dn = some (.lst acc) ∧ dacc.length ≤ i + 1 ∧ RpAll K (hide (fun a => P a ∨ a = Dn) H') acc dacc ∧
      lcL tg ft fe (wipeR ρ vs) (ds.drop (i + 1)) (fun ys => Qd (dacc ++ ys)) n2, fun H' z => ⟨ds.length - (i + 1), by omega, z⟩, fun x H3 y => ?_⟩
    obtain ⟨e3, d, hd, rd⟩ := wk.yld H2 view2 i hlt x H3 y
    subst e3
    have hdrop : ds.drop i = d :: ds.drop (i + 1) := by
      rw [List.drop_eq_getElem_cons hlt]
      rw [List.getElem?_eq_getElem hlt] at hd
      cases hd; rfl
    rw [hdrop] at hl
    obtain ⟨ρ', hρ, hl⟩ := hl
    -- the state within the block: the new list is hidden
    have hP' : ∀ a, (P a ∨ a = Dn) → H3 a ≠ none := fun a h => by
      rcases h with h | h
      · exact p2.there s1.there a h
      · rw [h, hH2]; exact fun z => nomatch z
    have tw3 : ∀ {n' : Nat} {H' : Hp}, TwOk K T P n' H' → H1 Dn = none → (∀ p, T = some p → p.2 ≠ Dn) → Same (hide P H1) H' → TwOk K T (fun a => P a ∨ a = Dn) n' H' := fun {n' H'} w _ hne sv => ⟨fun p hp => by
      obtain ⟨h1, h2, ns, h3, h4⟩ := w.ok p hp
      obtain ⟨_, _, ns1, h31, h41⟩ := s1.tw.ok p hp
      refine ⟨.inl h1, h2, ns1, ?_, h41⟩
      refine Same.seq (fun a o e => ?_) h31
      have e' := hide_some.mp e
      refine hide_some.mpr ⟨fun z => ?_, sv a o e⟩
      rcases z with z | z
      · exact e'.1 z
      · rw [z, hD] at e'; cases e'.2⟩
    have hTne : ∀ p, T = some p → p.2 ≠ Dn := fun p hp z => by
      have := (s1.tw.ok p hp).2.1
      rw [z, hD] at this; cases this
    have viewP : Same (hide P H1) (hide (fun a => P a ∨ a = Dn) H3) := hide_mono fun a o hn e => ⟨fun z => z.elim hn fun w => (by rw [w, hD] at e; cases e), view2 a o (hide_some.mpr ⟨hn, e⟩)⟩
    have sw := s1.wipes hvT
    have s3 : St0 K (fun a => P a ∨ a = Dn) T n2 H3 (wipe σ vs) (wipeR ρ vs) :=
      ⟨hP', tw3 p2.tw hD hTne view2, sw.frame, sw.len, fun i d h => by
        obtain ⟨v, h1, h2⟩ := sw.val i d h
        exact ⟨v, h1, h2.mono viewP⟩⟩
    refine hg _ T n2 H3 _ _ ρ' x d _ hT s3 (rd.mono viewP) hρ fun σ2 s4 hl4 hs4 => ⟨?_, ?_⟩
    · refine (wipe_ext (by rw [hl4, wipe_length]) fun j hj => ?_)
      rw [hs4 j hj, wipe_get, if_neg hj]
    refine ht _ T n2 H3 σ2 ρ' _ NoE _ hT s4 hl (fun b n4 H4 q4 p4 => ?_) (fun _ _ _ z _ => z)
    -- what is known behind a piece
    have fin : ∀ {n' : Nat} {H' : Hp}, Post K (fun a => P a ∨ a = Dn) T H3 n' H' → Post K P T H1 n' H' ∧ H' Dn = some (.lst acc) ∧ RpAll K (hide (fun a => P a ∨ a = Dn) H') acc dacc := fun {n' H'} p => by
      have k : Keep T H3 H' := p.keep
      refine ⟨⟨p2.keep.trans k, ⟨fun q hq => ?_⟩⟩, k _ _ (fun q hq z => hTne q hq z.symm) hH2, racc.mono (p.view s4.tw)⟩
      obtain ⟨h1, h2, ns, h3, h4⟩ := p.tw.ok q hq
      refine ⟨(s1.tw.ok q hq).1, h2, ns, ?_, h4⟩
      exact Same.seq (hide_mono fun a o hn e => ⟨fun z => hn (.inl z), e⟩) h3
    cases b with
    | false =>
      refine iteF ?_
      obtain ⟨f1, f2, f3⟩ := fin p4
      exact ⟨rfl, hlt, n4, acc, dacc, f1, f2, by omega, f3, q4⟩
    | true =>
      refine iteT ?_
      refine he _ T n4 H4 σ2 ρ' _ NoE _ hT (s4.step p4) q4 (fun y n5 v5 H5 q5 p5 r5 => ?_) (fun _ _ _ z _ => z)
      have p45 := p4.trans p5
      obtain ⟨f1, f2, f3⟩ := fin p45
      refine ⟨acc, f2, ?_, rfl, hlt, n5, acc ++ [v5], dacc ++ [y], ?_, upd_same, by rw [List.length_append]; simp; omega, ?_, ?_⟩
      · rw [f3.length, sizeLine_eq]
        have := q1.1
        omega
      · refine ⟨fun a o hn e => ?_, ⟨fun p hp => ?_⟩⟩
        · rw [upd_ne (ne_of_none e hD)]; exact f1.keep a o hn e
        · obtain ⟨h1, h2, ns, h3, h4⟩ := f1.tw.ok p hp
          obtain ⟨_, _, ns1, h31, h41⟩ := s1.tw.ok p hp
          refine ⟨h1, by rw [upd_ne (hTne p hp)]; exact h2, ns1, ?_, h41⟩
          refine Same.seq (fun a o e => ?_) h31
          have e' := hide_some.mp e
          refine hide_some.mpr ⟨e'.1, ?_⟩
          rw [upd_ne (ne_of_none e'.2 hD)]
          exact hide_le _ _ (f1.view s1.tw a o e)
      · have sv : Same (hide (fun a => P a ∨ a = Dn) H5) (hide (fun a => P a ∨ a = Dn) (upd H5 Dn (.lst (acc ++ [v5])))) := hide_mono fun a o hn e => ⟨hn, by rw [upd_ne fun z => hn (.inr z)]; exact e⟩
        exact (f3.mono sv).append (.cons (r5.mono sv) .nil)
      · have : (fun ys => Qd (dacc ++ [y] ++ ys)) = fun ys => Qd (dacc ++ (y :: ys)) := by
          funext ys; rw [List.append_assoc]; rfl
        rw [this]
        exact q5
  · have e : i = ds.length := by omega
    subst e
    refine .inl ⟨wk.stop H2 view2, ?_⟩
    rw [List.drop_length] at hl
    have hl : Qd (dacc ++ []) n2 := hl
    rw [List.append_nil] at hl
    exact hq dacc n2 Dn acc H2 hl (p1.trans p2) (s.back p1 hD) hH2 racc
/-! ### contracts -/
/-- the script and the town ahead of the values -/
def argsOf : Twn → List V → List V
  | some p, us => .ref p.1 :: .ref p.2 :: us
  | none, us => us
/-- f does what F says: of values; with tw: the script and the town ahead of them -/
def spD (K : PySem.W.Frag) (ek : Kd → Value) (tw : Bool) (m : Nat) (F : List D → W D) : Sp := fun vs H Q E =>
  ∃ (P : Addr → Prop) (T : Twn) (n : Nat) (us : List V) (ds : List D) (Qd : D → Nat → Prop) (Ed : Kd → Nat → Prop),
    T.isSome = tw ∧ ds.length = m ∧ vs = argsOf T us ∧ (∀ a, P a → H a ≠ none) ∧ TwOk K T P n H ∧ RpAll K (hide P H) us ds ∧ F ds Qd Ed n ∧
    (∀ d n' v H', Qd d n' → Post K P T H n' H' → Rp K (hide P H') v d → Q v H') ∧ ∀ k n' H', Ed k n' → Post K P T H n' H' → E (ek k) none H'
theorem dt_callP {m : Nat} {F : List D → W D} (ha : DA K EX ek tw tr fr) :
    DT K EX ek tw (tCallS (spD K ek false m F) EX tr) (fun ρ => wbind (fr ρ) fun ds => fun Q E n => ds.length = m ∧ F ds (fun d _ => Q d n) (fun k _ => E k n) 0) := by
  intro P T n H σ ρ Qd Ed Q hT s hf hq he
  refine ha P T n H σ ρ _ Ed _ hT s hf (fun ds n1 vs H1 q1 p1 r1 => ?_) he
  have s1 := s.step p1
  refine ⟨P, none, 0, vs, ds, fun d _ => Qd d n1, fun k _ => Ed k n1, rfl, q1.1, rfl, s1.there, ⟨fun _ z => nomatch z⟩, r1, q1.2, fun d n' v H' q2 p2 r2 => ?_, fun k n' H' q2 p2 => ?_⟩
  all_goals
    have sm : Same H1 H' := fun a o e => p2.keep a o (fun _ z => nomatch z) e
    have p12 : Post K P T H n1 H' := p1.trans (.same s1.tw sm)
  · exact hq d n1 v H' q2 p12 r2
  · exact he k n1 H' q2 p12
theorem dt_callT {m : Nat} {F : List D → W D} (ha : DA K EX ek true tr fr) :
    DT K EX ek true (tCallS (spD K ek true m F) EX (tCons (tVar 0) (tCons (tVar 1) tr))) (fun ρ => wbind (fr ρ) fun ds => fun Q E n => ds.length = m ∧ F ds Q E n) := by
  intro P T n H σ ρ Qd Ed Q hT s hf hq he
  cases T with
  | none => cases hT
  | some p =>
    obtain ⟨h0, h1⟩ := s.frame p rfl
    refine ⟨_, h0, _, h1, ?_⟩
    refine ha P (some p) n H σ ρ _ Ed _ rfl s hf (fun ds n1 vs H1 q1 p1 r1 => ?_) he
    have s1 := s.step p1
    exact ⟨P, some p, n1, vs, ds, Qd, Ed, rfl, q1.1, rfl, s1.there, s1.tw, r1, q1.2, fun d n' v H' q2 p2 r2 => hq d n' v H' q2 (p1.trans p2) r2, fun k n' H' q2 p2 => he k n' H' q2 (p1.trans p2)⟩
theorem spD_len {m : Nat} {F : List D → W D} : ∀ vs H Q E, spD K ek tw m F vs H Q E → vs.length = m + (bif tw then 2 else 0) := by
  intro vs H Q E h
  obtain ⟨P, T, n, us, ds, Qd, Ed, hT, hl, rfl, _, _, r, _⟩ := h
  have := r.length
  cases T with
  | none => cases hT; show us.length = m + 0; omega
  | some p => cases hT; show us.length + 1 + 1 = m + 2; omega
end
end WB
set_option Elab.async false
set_option linter.all false
set_option maxRecDepth 100000
set_option maxHeartbeats 2000000
/-! Part E: statements over data; defs by their bodies. -/
namespace WB
open PySem PySem.Spec L2
/-! ### states with lists of one's own -/
def Mm (T : Twn) (ρ : Rho) (ps : Nat → Addr) (a : Addr) : Prop := (∃ (i : Nat) (xs : List D), ρ[i]? = some (Slot.own xs) ∧ a = ps i) ∨ ∃ p, T = some p ∧ a = p.2
def Pp (P0 : Addr → Prop) (T : Twn) (ρ : Rho) (ps : Nat → Addr) (a : Addr) : Prop := P0 a ∨ Mm T ρ ps a
def Po (P0 : Addr → Prop) (T : Twn) (a : Addr) : Prop := P0 a ∨ ∃ p, T = some p ∧ a = p.2
/-- own lists as values -/
def opn (ρ : Rho) : Rho := ρ.map fun s => match s with
  | .own xs => .v (.list xs)
  | s => s
structure SRx (K : PySem.W.Frag) (B : Hp) (P0 : Addr → Prop) (T : Twn) (n : Nat) (H : Hp) (σ : L2.St) (ρ : Rho) (ps : Nat → Addr) : Prop where
  base : ∀ a o, B a = some o → ¬ Mm T ρ ps a ∧ H a = some o
  own : ∀ (i : Nat) (xs : List D), ρ[i]? = some (Slot.own xs) → σ[i]? = some (some (.ref (ps i))) ∧ ¬ P0 (ps i) ∧ (∀ p, T = some p → ps i ≠ p.2) ∧ ∃ vs, H (ps i) = some (.lst vs) ∧ RpAll K (hide (Pp P0 T ρ ps) H) vs xs
  inj : ∀ (i j : Nat) (xs ys : List D), ρ[i]? = some (Slot.own xs) → ρ[j]? = some (Slot.own ys) → ps i = ps j → i = j
  lo : T.isSome = true → ∀ (i : Nat) (xs : List D), ρ[i]? = some (Slot.own xs) → 2 ≤ i
  st : St0 K (Pp P0 T ρ ps) T n H σ ρ
def SR (K : PySem.W.Frag) (B : Hp) (P0 : Addr → Prop) (T : Twn) (n : Nat) (H : Hp) (σ : L2.St) (ρ : Rho) : Prop := ∃ ps, SRx K B P0 T n H σ ρ ps
structure FinOk (K : PySem.W.Frag) (B : Hp) (P0 : Addr → Prop) (T : Twn) (n : Nat) (H : Hp) : Prop where
  base : ∀ a o, B a = some o → (∀ p, T = some p → a ≠ p.2) → H a = some o
  tw : TwOk K T (Po P0 T) n H
  there : ∀ a, Po P0 T a → H a ≠ none
structure Sk where
  nx : Rho → Nat → Prop
  rt : D → Nat → Prop
  er : Kd → Nat → Prop := fun _ _ => False
  bk : Rho → Nat → Prop := fun _ _ => False
  ct : Rho → Nat → Prop := fun _ _ => False
structure Lk (K : PySem.W.Frag) (EX : EXT) (ek : Kd → Value) (B : Hp) (P0 : Addr → Prop) (T : Twn) (k : Sk) (E : Ends) : Prop where
  nx : ∀ ρ n σ H, k.nx ρ n → SR K B P0 T n H σ ρ → E.nx σ H
  bk : ∀ ρ n σ H, k.bk ρ n → SR K B P0 T n H σ ρ → E.bk σ H
  ct : ∀ ρ n σ H, k.ct ρ n → SR K B P0 T n H σ ρ → E.ct σ H
  rt : ∀ d n v H, k.rt d n → FinOk K B P0 T n H → Rp K (hide (Po P0 T) H) v d → E.rt v H
  er : ∀ e n σ H, k.er e n → FinOk K B P0 T n H → EX σ (ek e) none H
/-- a statement's reading t does what f says -/
def DSt (K : PySem.W.Frag) (EX : EXT) (ek : Kd → Value) (tw : Bool) (t : TS) (f : Rho → Sk → Nat → Prop) : Prop :=
  ∀ (B : Hp) (P0 : Addr → Prop) (T : Twn) (n : Nat) (H : Hp) (σ : L2.St) (ρ : Rho) (k : Sk) (E : Ends), T.isSome = tw → SR K B P0 T n H σ ρ → f ρ k n → Lk K EX ek B P0 T k E → t E σ H
section
variable {K : PySem.W.Frag} {B B' : Hp} {P0 : Addr → Prop} {T : Twn} {n n' : Nat} {H H' : Hp} {σ : L2.St} {ρ : Rho} {ps : Nat → Addr}
theorem Mm.tw {p : Addr × Addr} (h : T = some p) : Mm T ρ ps p.2 := .inr ⟨p, h, rfl⟩
/-- the town and the views, after a step -/
theorem SRx.step (s : SRx K B P0 T n H σ ρ ps) (k : Keep T H H') (tw : ∀ p, T = some p → H' p.2 = some (.lst (List.replicate n' (.int 0)))) : SRx K B P0 T n' H' σ ρ ps := by
  have vw : Same (hide (Pp P0 T ρ ps) H) (hide (Pp P0 T ρ ps) H') := k.view s.st.tw
  have tw' : TwOk K T (Pp P0 T ρ ps) n' H' := ⟨fun p hp => by
    obtain ⟨h1, h2, ns, h3, h4⟩ := s.st.tw.ok p hp
    exact ⟨h1, tw p hp, ns, vw.seq h3, h4⟩⟩
  refine ⟨fun a o e => ?_, fun i xs e => ?_, s.inj, s.lo, s.st.step ⟨k, tw'⟩⟩
  · obtain ⟨h1, h2⟩ := s.base a o e
    exact ⟨h1, k a o (fun p hp z => h1 (z ▸ Mm.tw hp)) h2⟩
  · obtain ⟨h1, h2, h3, vs, h4, h5⟩ := s.own i xs e
    exact ⟨h1, h2, h3, vs, k _ _ (fun p hp => h3 p hp) h4, h5.mono vw⟩
theorem SRx.post (s : SRx K B P0 T n H σ ρ ps) {P : Addr → Prop} (p : Post K P T H n' H') : SRx K B P0 T n' H' σ ρ ps := s.step p.keep fun q hq => (p.tw.ok q hq).2.1
theorem SRx.weak (s : SRx K B' P0 T n H σ ρ ps) (h : Same B B') : SRx K B P0 T n H σ ρ ps := ⟨fun a o e => s.base a o (h a o e), s.own, s.inj, s.lo, s.st⟩
theorem po_le : ∀ a, Po P0 T a → Pp P0 T ρ ps a := fun a h => h.imp id fun z => .inr z
theorem SRx.opn_st (s : SRx K B P0 T n H σ ρ ps) : St0 K (Po P0 T) T n H σ (opn ρ) := by
  have vw : Same (hide (Pp P0 T ρ ps) H) (hide (Po P0 T) H) := hide_mono fun a o hn e => ⟨fun z => hn (po_le a z), e⟩
  refine ⟨fun a h => s.st.there a (po_le a h), ⟨fun p hp => ?_⟩, s.st.frame, by unfold opn; rw [List.length_map]; exact s.st.len, fun i d h => ?_⟩
  · obtain ⟨_, h2, ns, h3, h4⟩ := s.st.tw.ok p hp
    exact ⟨.inr ⟨p, hp, rfl⟩, h2, ns, vw.seq h3, h4⟩
  · unfold opn at h
    rw [List.getElem?_map] at h
    cases e : ρ[i]? with
    | none => rw [e] at h; cases h
    | some sl =>
      rw [e] at h
      cases sl with
      | no => cases h
      | v d' =>
        cases h
        obtain ⟨v, h1, h2⟩ := s.st.val i _ e
        exact ⟨v, h1, h2.mono vw⟩
      | own xs =>
        cases h
        obtain ⟨h1, h2, h3, vs, h4, h5⟩ := s.own i xs e
        refine ⟨_, h1, .lst (hide_some.mpr ⟨fun z => ?_, h4⟩) (h5.mono vw)⟩
        rcases z with z | ⟨p, hp, z⟩
        · exact h2 z
        · exact h3 p hp z
theorem SRx.fin (s : SRx K B P0 T n H σ ρ ps) : FinOk K B P0 T n H := ⟨fun a o e _ => (s.base a o e).2, s.opn_st.tw, s.opn_st.there⟩
theorem FinOk.weak (s : FinOk K B' P0 T n H) (h : Same B B') : FinOk K B P0 T n H := ⟨fun a o e hn => s.base a o (h a o e) hn, s.tw, s.there⟩
theorem FinOk.step (s : FinOk K B P0 T n H) (p : Post K (Po P0 T) T H n' H') : FinOk K B P0 T n' H' := ⟨fun a o e hn => p.keep a o hn (s.base a o e hn), p.tw, p.there s.there⟩
theorem get_set {α : Type} {l : List α} {i j : Nat} {a b : α} (h : (l.set i a)[j]? = some b) : (j = i ∧ b = a ∧ i < l.length) ∨ (j ≠ i ∧ l[j]? = some b) := by
  by_cases e : i = j
  · subst e
    rw [List.getElem?_set] at h
    simp only [if_true] at h
    split at h
    · rename_i hl
      cases h; exact .inl ⟨rfl, rfl, hl⟩
    · cases h
  · rw [List.getElem?_set_ne e] at h; exact .inr ⟨Ne.symm e, h⟩
/-- a slot is given a value that is known in the view behind -/
theorem SRx.put (s : SRx K B P0 T n H σ ρ ps) {i : Nat} {x : V} {d : D} (hi : T.isSome = true → 2 ≤ i) (r : Rp K (hide (Pp P0 T (ρ.set i (.v d)) ps) H) x d) : SRx K B P0 T n H (σ.set i (some x)) (ρ.set i (.v d)) ps := by
  have mle : ∀ a, Mm T (ρ.set i (.v d)) ps a → Mm T ρ ps a := fun a h => by
    rcases h with ⟨j, xs, e, z⟩ | h
    · rcases get_set e with ⟨_, e, _⟩ | ⟨_, e⟩
      · cases e
      · exact .inl ⟨j, xs, e, z⟩
    · exact .inr h
  have ple : ∀ a, Pp P0 T (ρ.set i (.v d)) ps a → Pp P0 T ρ ps a := fun a h => h.imp id (mle a)
  have vw : Same (hide (Pp P0 T ρ ps) H) (hide (Pp P0 T (ρ.set i (.v d)) ps) H) := hide_mono fun a o hn e => ⟨fun z => hn (ple a z), e⟩
  refine ⟨fun a o e => ⟨fun z => (s.base a o e).1 (mle a z), (s.base a o e).2⟩, fun j xs e => ?_, fun j l xs ys e1 e2 => ?_, fun hT j xs e => ?_, ?_⟩
  · rcases get_set e with ⟨_, e, _⟩ | ⟨hne, e⟩
    · cases e
    · obtain ⟨h1, h2, h3, vs, h4, h5⟩ := s.own j xs e
      exact ⟨by rw [List.getElem?_set_ne (Ne.symm hne)]; exact h1, h2, h3, vs, h4, h5.mono vw⟩
  · rcases get_set e1 with ⟨_, e, _⟩ | ⟨_, e1⟩
    · cases e
    · rcases get_set e2 with ⟨_, e, _⟩ | ⟨_, e2⟩
      · cases e
      · exact s.inj j l xs ys e1 e2
  · rcases get_set e with ⟨_, e, _⟩ | ⟨_, e⟩
    · cases e
    · exact s.lo hT j xs e
  · have s0 : St0 K (Pp P0 T (ρ.set i (.v d)) ps) T n H σ ρ := by
      refine ⟨fun a h => s.st.there a (ple a h), ⟨fun p hp => ?_⟩, s.st.frame, s.st.len, fun j e h => ?_⟩
      · obtain ⟨_, h2, ns, h3, h4⟩ := s.st.tw.ok p hp
        exact ⟨.inr (.inr ⟨p, hp, rfl⟩), h2, ns, vw.seq h3, h4⟩
      · obtain ⟨v, h1, h2⟩ := s.st.val j e h
        exact ⟨v, h1, h2.mono vw⟩
    exact s0.set hi r
theorem pp_set {i : Nat} {d : D} : ∀ a, Pp P0 T (ρ.set i (.v d)) ps a → Pp P0 T ρ ps a := fun a h => by
  rcases h with h | ⟨j, xs, e, z⟩ | h
  · exact .inl h
  · rcases get_set e with ⟨_, e, _⟩ | ⟨_, e⟩
    · cases e
    · exact .inr (.inl ⟨j, xs, e, z⟩)
  · exact .inr (.inr h)
theorem SRx.set (s : SRx K B P0 T n H σ ρ ps) {i : Nat} {x : V} {d : D} (hi : T.isSome = true → 2 ≤ i) (r : Rp K (hide (Pp P0 T ρ ps) H) x d) : SRx K B P0 T n H (σ.set i (some x)) (ρ.set i (.v d)) ps :=
  s.put hi (r.mono (hide_mono fun a o hn e => ⟨fun z => hn (pp_set a z), e⟩))
/-- a list of one's own is known from now on as a value -/
theorem SRx.freeze (s : SRx K B P0 T n H σ ρ ps) {i : Nat} {xs : List D} (e : ρ[i]? = some (Slot.own xs)) : SRx K B P0 T n H σ (ρ.set i (.v (.list xs))) ps := by
  obtain ⟨h1, h2, h3, vs, h4, h5⟩ := s.own i xs e
  have hr : Rp K (hide (Pp P0 T (ρ.set i (.v (.list xs))) ps) H) (.ref (ps i)) (.list xs) := by
    refine .lst (hide_some.mpr ⟨fun z => ?_, h4⟩) (h5.mono (hide_mono fun a o hn e => ⟨fun z => hn (pp_set a z), e⟩))
    rcases z with z | ⟨j, ys, e', z⟩ | ⟨p, hp, z⟩
    · exact h2 z
    · rcases get_set e' with ⟨_, e', _⟩ | ⟨hne, e'⟩
      · cases e'
      · exact hne (s.inj i j xs ys e e' z).symm
    · exact h3 p hp z
  have hi : T.isSome = true → 2 ≤ i := fun hT => s.lo hT i xs e
  have := s.put (x := .ref (ps i)) hi hr
  have e2 : σ.set i (some (.ref (ps i))) = σ := by
    apply List.ext_getElem?
    intro j
    by_cases q : i = j
    · subst q
      obtain ⟨hl, _⟩ := List.getElem?_eq_some_iff.mp h1
      rw [List.getElem?_set_self hl, h1]
    · rw [List.getElem?_set_ne q]
  rw [e2] at this
  exact this
/-- a new list becomes a list of one's own -/
theorem SRx.fresh (s : SRx K B P0 T n H σ ρ ps) (pk : Keep T H H') (tw : ∀ p, T = some p → H' p.2 = some (.lst (List.replicate n' (.int 0)))) {i : Nat} {p : Addr} {vs : List V} {xs : List D} (hi : T.isSome = true → 2 ≤ i) (hl : i < ρ.length) (hp : H p = none) (h4 : H' p = some (.lst vs))
    (r : RpAll K (hide (fun a => Pp P0 T ρ ps a ∨ a = p) H') vs xs) : SRx K B P0 T n' H' (σ.set i (some (.ref p))) (ρ.set i (.own xs)) (fun j => if j = i then p else ps j) := by
  have s' := s.step pk tw
  have hps : ∀ (j : Nat) (ys : List D), ρ[j]? = some (Slot.own ys) → ps j ≠ p := fun j ys e z => by
    obtain ⟨_, _, _, vs, h, _⟩ := s.own j ys e
    rw [z, hp] at h; cases h
  have hP0 : ¬ P0 p := fun z => s.st.there p (.inl z) hp
  have hT : ∀ q, T = some q → p ≠ q.2 := fun q hq z => by
    have := (s.st.tw.ok q hq).2.1
    rw [← z, hp] at this; cases this
  have mle : ∀ a, Mm T (ρ.set i (.own xs)) (fun j => if j = i then p else ps j) a → Mm T ρ ps a ∨ a = p := fun a h => by
    rcases h with ⟨j, ys, e, z⟩ | h
    · rcases get_set e with ⟨rfl, _, _⟩ | ⟨hne, e⟩
      · dsimp only at z
        rw [if_pos rfl] at z; exact .inr z
      · dsimp only at z
        rw [if_neg hne] at z; exact .inl (.inl ⟨j, ys, e, z⟩)
    · exact .inl (.inr h)
  have ple : ∀ a, Pp P0 T (ρ.set i (.own xs)) (fun j => if j = i then p else ps j) a → Pp P0 T ρ ps a ∨ a = p := fun a h => by
    rcases h with h | h
    · exact .inl (.inl h)
    · exact (mle a h).imp .inr id
  -- what stood ahead is seen behind
  have vw : Same (hide (Pp P0 T ρ ps) H) (hide (Pp P0 T (ρ.set i (.own xs)) (fun j => if j = i then p else ps j)) H') := hide_mono fun a o hn e =>
    ⟨fun z => (ple a z).elim hn fun w => (by rw [w, hp] at e; cases e), pk a o (fun q hq z => hn (z ▸ .inr (Mm.tw hq))) e⟩
  have vw2 : Same (hide (fun a => Pp P0 T ρ ps a ∨ a = p) H') (hide (Pp P0 T (ρ.set i (.own xs)) (fun j => if j = i then p else ps j)) H') := hide_mono fun a o hn e => ⟨fun z => hn (ple a z), e⟩
  refine ⟨fun a o e => ⟨fun z => ?_, (s'.base a o e).2⟩, fun j ys e => ?_, fun j l xs ys e1 e2 z => ?_, fun ht j ys e => ?_, ?_⟩
  · rcases mle a z with z | z
    · exact (s'.base a o e).1 z
    · have := (s.base a o e).2
      rw [z, hp] at this; cases this
  · rcases get_set e with ⟨rfl, e, _⟩ | ⟨hne, e⟩
    · cases e
      refine ⟨?_, ?_, ?_, vs, ?_, r.mono vw2⟩
      · rw [List.getElem?_set_self (by rw [s.st.len]; exact hl), if_pos rfl]
      · rw [if_pos rfl]; exact hP0
      · rw [if_pos rfl]; exact hT
      · rw [if_pos rfl]; exact h4
    · obtain ⟨h1, h2, h3, ws, h4', h5⟩ := s.own j ys e
      rw [if_neg hne]
      refine ⟨by rw [List.getElem?_set_ne (Ne.symm hne)]; exact h1, h2, h3, ws, pk _ _ (fun q hq => h3 q hq) h4', h5.mono vw⟩
  · rcases get_set e1 with ⟨rfl, _, _⟩ | ⟨n1, f1⟩
    · rcases get_set e2 with ⟨rfl, _, _⟩ | ⟨n2, f2⟩
      · rfl
      · rw [if_pos rfl, if_neg n2] at z
        exact (hps _ _ f2 z.symm).elim
    · rcases get_set e2 with ⟨rfl, _, _⟩ | ⟨n2, f2⟩
      · rw [if_pos rfl, if_neg n1] at z
        exact (hps _ _ f1 z).elim
      · rw [if_neg n1, if_neg n2] at z
        exact s.inj _ _ _ _ f1 f2 z
  · rcases get_set e with ⟨rfl, _, _⟩ | ⟨_, e⟩
    · exact hi ht
    · exact s.lo ht j ys e
  · refine ⟨fun a h => ?_, ⟨fun q hq => ?_⟩, fun q hq => ?_, by rw [List.length_set, List.length_set]; exact s.st.len, fun j d e => ?_⟩
    · rcases ple a h with h | h
      · exact s'.st.there a h
      · rw [h, h4]; exact fun z => nomatch z
    · obtain ⟨_, _, ns, h3, h5⟩ := s.st.tw.ok q hq
      exact ⟨.inr (.inr ⟨q, hq, rfl⟩), tw q hq, ns, vw.seq h3, h5⟩
    · obtain ⟨f0, f1⟩ := s.st.frame q hq
      have := hi (by rw [hq]; rfl)
      exact ⟨by rw [List.getElem?_set_ne (by omega)]; exact f0, by rw [List.getElem?_set_ne (by omega)]; exact f1⟩
    · rcases get_set e with ⟨_, e, _⟩ | ⟨hne, e⟩
      · cases e
      · obtain ⟨v, h1, h2⟩ := s.st.val j d e
        exact ⟨v, by rw [List.getElem?_set_ne (Ne.symm hne)]; exact h1, h2.mono vw⟩
/-- a list of one's own changes -/
theorem SRx.chg (s : SRx K B P0 T n H σ ρ ps) {i : Nat} {xs ys : List D} {ws : List V} (e : ρ[i]? = some (Slot.own xs)) (r : RpAll K (hide (Pp P0 T ρ ps) H) ws ys) : SRx K B P0 T n (upd H (ps i) (.lst ws)) σ (ρ.set i (.own ys)) ps := by
  obtain ⟨g1, g2, g3, vs, g4, g5⟩ := s.own i xs e
  have hil : i < ρ.length := (List.getElem?_eq_some_iff.mp e).1
  have meq : ∀ a, Mm T (ρ.set i (.own ys)) ps a ↔ Mm T ρ ps a := fun a => by
    constructor
    · intro h
      rcases h with ⟨j, zs, e', z⟩ | h
      · rcases get_set e' with ⟨rfl, _, _⟩ | ⟨_, e'⟩
        · exact .inl ⟨_, xs, e, z⟩
        · exact .inl ⟨j, zs, e', z⟩
      · exact .inr h
    · intro h
      rcases h with ⟨j, zs, e', z⟩ | h
      · by_cases q : i = j
        · subst q; exact .inl ⟨i, ys, by rw [List.getElem?_set_self hil], z⟩
        · exact .inl ⟨j, zs, by rw [List.getElem?_set_ne q]; exact e', z⟩
      · exact .inr h
  have peq : ∀ a, Pp P0 T (ρ.set i (.own ys)) ps a ↔ Pp P0 T ρ ps a := fun a => by
    unfold Pp; rw [meq a]
  have hin : Pp P0 T ρ ps (ps i) := .inr (.inl ⟨i, xs, e, rfl⟩)
  have vw : Same (hide (Pp P0 T ρ ps) H) (hide (Pp P0 T (ρ.set i (.own ys)) ps) (upd H (ps i) (.lst ws))) := hide_mono fun a o hn e' =>
    ⟨fun z => hn ((peq a).mp z), by rw [upd_ne fun z : a = ps i => hn (by rw [z]; exact hin)]; exact e'⟩
  refine ⟨fun a o e' => ⟨fun z => (s.base a o e').1 ((meq a).mp z), ?_⟩, fun j zs e' => ?_, fun j l as bs e1 e2 z => ?_, fun hT j zs e' => ?_, ?_⟩
  · rw [upd_ne fun z => (s.base a o e').1 (.inl ⟨i, xs, e, z⟩)]
    exact (s.base a o e').2
  · rcases get_set e' with ⟨rfl, e', _⟩ | ⟨hne, e'⟩
    · cases e'
      exact ⟨g1, g2, g3, ws, upd_same, r.mono vw⟩
    · obtain ⟨h1, h2, h3, us, h4, h5⟩ := s.own j zs e'
      exact ⟨h1, h2, h3, us, by rw [upd_ne fun z => hne (s.inj j i _ _ e' e z)]; exact h4, h5.mono vw⟩
  · have back : ∀ (j : Nat) (as : List D), (ρ.set i (.own ys))[j]? = some (Slot.own as) → ∃ bs, ρ[j]? = some (Slot.own bs) := fun j as h => by
      rcases get_set h with ⟨rfl, _, _⟩ | ⟨_, h⟩
      · exact ⟨_, e⟩
      · exact ⟨_, h⟩
    obtain ⟨_, e1⟩ := back j as e1
    obtain ⟨_, e2⟩ := back l bs e2
    exact s.inj j l _ _ e1 e2 z
  · rcases get_set e' with ⟨rfl, _, _⟩ | ⟨_, e'⟩
    · exact s.lo hT _ xs e
    · exact s.lo hT j zs e'
  · refine ⟨fun a h => ?_, ⟨fun q hq => ?_⟩, s.st.frame, by rw [List.length_set]; exact s.st.len, fun j d e' => ?_⟩
    · by_cases q : a = ps i
      · rw [q, upd_same]; exact fun z => nomatch z
      · rw [upd_ne q]; exact s.st.there a ((peq a).mp h)
    · obtain ⟨_, h2, ns, h3, h5⟩ := s.st.tw.ok q hq
      exact ⟨.inr (.inr ⟨q, hq, rfl⟩), by rw [upd_ne fun z => g3 q hq z.symm]; exact h2, ns, vw.seq h3, h5⟩
    · rcases get_set e' with ⟨_, e', _⟩ | ⟨_, e'⟩
      · cases e'
      · obtain ⟨v, h1, h2⟩ := s.st.val j d e'
        exact ⟨v, h1, h2.mono vw⟩
end
end WB
set_option Elab.async false
set_option linter.all false
set_option maxRecDepth 100000
set_option maxHeartbeats 2000000
/-! Part F: rules for statements; defs. -/
namespace WB
open PySem PySem.Spec L2
section
variable {K : PySem.W.Frag} {EX : EXT} {ek : Kd → Value} {tw : Bool} {ta tb tc te : TE} {fa fb fc fe : Rho → W D} {t u : TS} {c : TT} {ft fu : Rho → Sk → Nat → Prop} {gc : Rho → W Bool} {tr : TA} {fr : Rho → W (List D)}
  {B : Hp} {P0 : Addr → Prop} {T : Twn} {n n' : Nat} {H H' : Hp} {σ : L2.St} {ρ : Rho} {ps : Nat → Addr} {k : Sk} {E : Ends}
theorem FinOk.of_post (s : SRx K B P0 T n H σ ρ ps) {P : Addr → Prop} (p : Post K P T H n' H') : FinOk K B P0 T n' H' := (s.post p).fin
theorem two_of (h : tw = true → 2 ≤ i) (hT : T.isSome = tw) : T.isSome = true → 2 ≤ i := fun q => h (hT ▸ q)
theorem dst_next : DSt K EX ek tw tNext (fun ρ k n => k.nx ρ n) := fun _ _ _ _ _ _ _ _ _ _ s hf L => L.nx _ _ _ _ hf s
theorem dst_brk : DSt K EX ek tw tBreak (fun ρ k n => k.bk ρ n) := fun _ _ _ _ _ _ _ _ _ _ s hf L => L.bk _ _ _ _ hf s
theorem dst_cont : DSt K EX ek tw tCont (fun ρ k n => k.ct ρ n) := fun _ _ _ _ _ _ _ _ _ _ s hf L => L.ct _ _ _ _ hf s
theorem dst_seq (h1 : DSt K EX ek tw t ft) (h2 : DSt K EX ek tw u fu) : DSt K EX ek tw (tSeq t u) (fun ρ k n => ft ρ { k with nx := fun ρ' n' => fu ρ' k n' } n) := by
  intro B P0 T n H σ ρ k E hT s hf L
  exact h1 B P0 T n H σ ρ _ _ hT s hf ⟨fun ρ' n' σ' H' q s' => h2 B P0 T n' H' σ' ρ' k E hT s' q L, L.bk, L.ct, L.rt, L.er⟩
theorem dst_if (hc : DB K EX ek tw c gc) (h1 : DSt K EX ek tw t ft) (h2 : DSt K EX ek tw u fu) :
    DSt K EX ek tw (tIfS c t u) (fun ρ k n => gc (opn ρ) (fun b n' => cond b (ft ρ k n') (fu ρ k n')) k.er n) := by
  intro B P0 T n H σ ρ k E hT s hf L
  obtain ⟨ps, s⟩ := s
  refine hc _ T n H σ _ _ _ _ hT s.opn_st hf (fun b n' H' q p => ?_) fun e n' H' q p => L.er e n' _ H' q (.of_post s p)
  cases b with
  | true => exact iteT (h1 B P0 T n' H' σ ρ k E hT ⟨ps, s.post p⟩ q L)
  | false => exact iteF (h2 B P0 T n' H' σ ρ k E hT ⟨ps, s.post p⟩ q L)
theorem dst_ret (h : DT K EX ek tw te fe) : DSt K EX ek tw (tRet te) (fun ρ k n => fe (opn ρ) k.rt k.er n) := by
  intro B P0 T n H σ ρ k E hT s hf L
  obtain ⟨ps, s⟩ := s
  exact h _ T n H σ _ _ _ _ hT s.opn_st hf (fun d n' v H' q p r => L.rt d n' v H' q (.of_post s p) r) fun e n' H' q p => L.er e n' _ H' q (.of_post s p)
theorem dst_retN : DSt K EX ek tw tRetN (fun _ k n => k.rt .none n) := by
  intro B P0 T n H σ ρ k E hT s hf L
  obtain ⟨ps, s⟩ := s
  exact L.rt _ n _ H hf s.fin .non
theorem dst_drop (h : DT K EX ek tw te fe) : DSt K EX ek tw (tDrop te) (fun ρ k n => fe (opn ρ) (fun _ n' => k.nx ρ n') k.er n) := by
  intro B P0 T n H σ ρ k E hT s hf L
  obtain ⟨ps, s⟩ := s
  exact h _ T n H σ _ _ _ _ hT s.opn_st hf (fun d n' v H' q p r => L.nx ρ n' σ H' q ⟨ps, s.post p⟩) fun e n' H' q p => L.er e n' _ H' q (.of_post s p)
/-- x = e; e doesn't read lists of one's own -/
theorem dst_set {i : Nat} (hi : tw = true → 2 ≤ i) (h : DT K EX ek tw te fe) : DSt K EX ek tw (tAsg te (gName i)) (fun ρ k n => fe ρ (fun d n' => k.nx (ρ.set i (.v d)) n') k.er n) := by
  intro B P0 T n H σ ρ k E hT s hf L
  obtain ⟨ps, s⟩ := s
  exact h _ T n H σ _ _ _ _ hT s.st hf (fun d n' v H' q p r => L.nx _ n' _ H' q ⟨ps, (s.post p).set (two_of hi hT) r⟩) fun e n' H' q p => L.er e n' _ H' q (.of_post s p)
/-- x = e; what e gives is no list -/
theorem dst_setO {i : Nat} (hi : tw = true → 2 ≤ i) (h : DT K EX ek tw te fe) : DSt K EX ek tw (tAsg te (gName i)) (fun ρ k n => fe (opn ρ) (fun d n' => scD d = true ∧ k.nx (ρ.set i (.v d)) n') k.er n) := by
  intro B P0 T n H σ ρ k E hT s hf L
  obtain ⟨ps, s⟩ := s
  exact h _ T n H σ _ _ _ _ hT s.opn_st hf (fun d n' v H' q p r => L.nx _ n' _ H' q.2 ⟨ps, (s.post p).set (two_of hi hT) (r.scal q.1)⟩) fun e n' H' q p => L.er e n' _ H' q (.of_post s p)
/-- x = [..]: a list of one's own -/
theorem dst_own {i : Nat} {ff : Rho → W (List D)} (hi : tw = true → 2 ≤ i) (h : DF K EX ek tw te ff) : DSt K EX ek tw (tAsg te (gName i)) (fun ρ k n => i < ρ.length ∧ ff ρ (fun ds n' => k.nx (ρ.set i (.own ds)) n') k.er n) := by
  intro B P0 T n H σ ρ k E hT s hf L
  obtain ⟨ps, s⟩ := s
  exact h _ T n H σ _ _ _ _ hT s.st hf.2 (fun ds n' p vs H' q po hp hq r => L.nx _ n' _ H' q ⟨_, s.fresh po.keep (fun q hq => (po.tw.ok q hq).2.1) (two_of hi hT) hf.1 hp hq r⟩) fun e n' H' q p => L.er e n' _ H' q (.of_post s p)
/-- a list of one's own becomes a value -/
def frz (i : Nat) (ρ : Rho) : Rho := match ρ[i]? with
  | some (.own xs) => ρ.set i (.v (.list xs))
  | _ => ρ
theorem dst_frz (i : Nat) (h : DSt K EX ek tw t ft) : DSt K EX ek tw t (fun ρ k n => ft (frz i ρ) k n) := by
  intro B P0 T n H σ ρ k E hT s hf L
  refine h B P0 T n H σ _ k E hT ?_ hf L
  unfold frz
  split
  · rename_i xs e
    obtain ⟨ps, s⟩ := s
    exact ⟨ps, s.freeze e⟩
  · exact s
/-- a, b = e -/
theorem sr_gs : ∀ {tg : TGs} {is : List Nat}, GTs tg is → ∀ {σ : L2.St} {ρ ρ' : Rho} {xs : List V} {ds : List D} {Q : L2.St → Hp → Prop}, (T.isSome = true → ∀ i ∈ is, 2 ≤ i) → SRx K B P0 T n H σ ρ ps → RpAll K (hide (Pp P0 T ρ ps) H) xs ds →
    setAll ρ is ds = some ρ' → (∀ σ', SRx K B P0 T n H σ' ρ' ps → Q σ' H) → tg xs σ H Q
  | _, _, .nil, σ, ρ, ρ', xs, ds, Q, _, s, r, e, hQ => by
    cases r with
    | nil => cases e; exact ⟨rfl, hQ _ s⟩
    | cons _ _ => cases e
  | _, _, .cons g, σ, ρ, ρ', xs, ds, Q, hi, s, r, e, hQ => by
    cases r with
    | nil => cases e
    | cons r rr =>
      refine ⟨_, _, rfl, ?_⟩
      exact sr_gs g (fun a i hm => hi a i (List.mem_cons_of_mem _ hm)) (s.set (fun a => hi a _ List.mem_cons_self) r) (rr.mono (hide_mono fun a o hn e => ⟨fun z => hn (pp_set a z), e⟩)) e hQ
/-- a statement's target -/
def DGs (K : PySem.W.Frag) (tw : Bool) (g : TG) (tg : Tgt) : Prop :=
  ∀ (B : Hp) (P0 : Addr → Prop) (T : Twn) (n : Nat) (H : Hp) (σ : L2.St) (ρ ρ' : Rho) (ps : Nat → Addr) (x : V) (d : D) (Q : L2.St → Hp → Prop), T.isSome = tw → SRx K B P0 T n H σ ρ ps → Rp K (hide (Pp P0 T ρ ps) H) x d → tg d ρ = some ρ' →
    (∀ σ', SRx K B P0 T n H σ' ρ' ps → Q σ' H) → g x σ H Q
theorem dgs_name {i : Nat} (hi : tw = true → 2 ≤ i) : DGs K tw (gName i) (tg1 i) := by
  intro B P0 T n H σ ρ ρ' ps x d Q hT s r e hQ
  cases e
  exact hQ _ (s.set (two_of hi hT) r)
theorem dgs_tup {g : TGs} {is : List Nat} {m : Nat} (hg : GTs g is) (hk : is.length = m) (hi : tw = true → ∀ i ∈ is, 2 ≤ i) : DGs K tw (gTup K m g) (tgT is) := by
  intro B P0 T n H σ ρ ρ' ps x d Q hT s r e hQ
  cases r with
  | tup e1 rr =>
    have e : setAll ρ is _ = some ρ' := e
    refine ⟨_, _, rfl, seqT_mono hide_le e1, by rw [rr.length, setAll_len e, hk], ?_⟩
    exact sr_gs hg (fun h => hi (hT ▸ h)) s rr e hQ
  | _ => cases e
theorem dst_asg {g : TG} {tg : Tgt} (hg : DGs K tw g tg) (h : DT K EX ek tw te fe) : DSt K EX ek tw (tAsg te g) (fun ρ k n => fe ρ (fun d n' => ∃ ρ', tg d ρ = some ρ' ∧ k.nx ρ' n') k.er n) := by
  intro B P0 T n H σ ρ k E hT s hf L
  obtain ⟨ps, s⟩ := s
  refine h _ T n H σ _ _ _ _ hT s.st hf (fun d n' v H' q p r => ?_) fun e n' H' q p => L.er e n' _ H' q (.of_post s p)
  obtain ⟨ρ', e, q⟩ := q
  exact hg B P0 T n' H' σ ρ ρ' ps v d _ hT (s.post p) r e fun σ' s' => L.nx _ _ _ _ q ⟨ps, s'⟩
/-! changes of lists of one's own -/
def getO (ρ : Rho) (i : Nat) (q : List D → Prop) : Prop := match ρ[i]? with
  | some (.own xs) => q xs
  | _ => False
theorem getO_ok {i : Nat} {q : List D → Prop} (h : getO ρ i q) : ∃ xs, ρ[i]? = some (Slot.own xs) ∧ q xs := by
  unfold getO at h
  split at h
  · rename_i xs e
    exact ⟨xs, e, h⟩
  · exact h.elim
theorem dst_app {i : Nat} (h : DT K EX ek tw te fe) : DSt K EX ek tw (tDrop (tBM K "list" rAppend (tVar i) (tCons te tNil))) (fun ρ k n => getO ρ i fun xs => fe ρ (fun d n' => xs.length < 1000000 ∧ k.nx (ρ.set i (.own (xs ++ [d]))) n') k.er n) := by
  intro B P0 T n H σ ρ k E hT s hf L
  obtain ⟨ps, s⟩ := s
  obtain ⟨xs, e, hf⟩ := getO_ok hf
  obtain ⟨g1, g2, g3, vs, g4, g5⟩ := s.own i xs e
  refine ⟨_, g1, .inl ⟨rfl, _, .inl (.inl g4)⟩, ?_⟩
  refine h _ T n H σ _ _ _ _ hT s.st hf (fun d n' v H' q p r => ?_) fun e n' H' q p => L.er e n' _ H' q (.of_post s p)
  have s' := s.post p
  obtain ⟨_, _, _, vs', g4', g5'⟩ := s'.own i xs e
  refine ⟨_, vs', v, rfl, rfl, g4', by rw [g5'.length, sizeLine_eq]; have := q.1; omega, L.nx _ _ _ _ q.2 ⟨ps, s'.chg e (g5'.append (.cons r .nil))⟩⟩
theorem dst_appO {i : Nat} (h : DT K EX ek tw te fe) : DSt K EX ek tw (tDrop (tBM K "list" rAppend (tVar i) (tCons te tNil))) (fun ρ k n => getO ρ i fun xs => fe (opn ρ) (fun d n' => scD d = true ∧ xs.length < 1000000 ∧ k.nx (ρ.set i (.own (xs ++ [d]))) n') k.er n) := by
  intro B P0 T n H σ ρ k E hT s hf L
  obtain ⟨ps, s⟩ := s
  obtain ⟨xs, e, hf⟩ := getO_ok hf
  obtain ⟨g1, g2, g3, vs, g4, g5⟩ := s.own i xs e
  refine ⟨_, g1, .inl ⟨rfl, _, .inl (.inl g4)⟩, ?_⟩
  refine h _ T n H σ _ _ _ _ hT s.opn_st hf (fun d n' v H' q p r => ?_) fun e n' H' q p => L.er e n' _ H' q (.of_post s p)
  have s' := s.post p
  obtain ⟨_, _, _, vs', g4', g5'⟩ := s'.own i xs e
  refine ⟨_, vs', v, rfl, rfl, g4', by rw [g5'.length, sizeLine_eq]; have := q.2.1; omega, L.nx _ _ _ _ q.2.2 ⟨ps, s'.chg e (g5'.append (.cons (r.scal q.1) .nil))⟩⟩
theorem dst_ext {i : Nat} (h : DT K EX ek tw te fe) : DSt K EX ek tw (tDrop (tBM K "list" rExtend (tVar i) (tCons te tNil))) (fun ρ k n => getO ρ i fun xs => fe ρ (fun d n' => asList d fun ds => xs.length + ds.length ≤ 1000000 ∧ k.nx (ρ.set i (.own (xs ++ ds))) n') k.er n) := by
  intro B P0 T n H σ ρ k E hT s hf L
  obtain ⟨ps, s⟩ := s
  obtain ⟨xs, e, hf⟩ := getO_ok hf
  obtain ⟨g1, g2, g3, vs, g4, g5⟩ := s.own i xs e
  refine ⟨_, g1, .inl ⟨rfl, _, .inl (.inl g4)⟩, ?_⟩
  refine h _ T n H σ _ _ _ _ hT s.st hf (fun d n' v H' q p r => ?_) fun e n' H' q p => L.er e n' _ H' q (.of_post s p)
  have s' := s.post p
  obtain ⟨_, _, _, vs', g4', g5'⟩ := s'.own i xs e
  cases r with
  | lst e1 rr =>
    refine ⟨_, _, vs', _, rfl, rfl, g4', hide_le _ _ e1, ?_, L.nx _ _ _ _ q.2 ⟨ps, s'.chg e (g5'.append rr)⟩⟩
    rw [g5'.length, rr.length]; exact line6 q.1
  | _ => exact q.elim
abbrev rInsert : V → List V → Hp → VK → Prop := fun x vs H Q => ∃ (l : Addr) (xs : List V) (i : Int) (y : V), x = .ref l ∧ vs = [.int i, y] ∧ H l = some (.lst xs) ∧ xs.length < sizeLine ∧ 0 ≤ i ∧ i < 2 ^ 63 ∧
    Q .non (upd H l (.lst (xs.take i.toNat ++ [y] ++ xs.drop i.toNat)))
theorem dst_ins {i : Nat} (ha : DT K EX ek tw ta fa) (h : DT K EX ek tw te fe) : DSt K EX ek tw (tDrop (tBM K "list" rInsert (tVar i) (tCons ta (tCons te tNil)))) (fun ρ k n => getO ρ i fun xs => fa (opn ρ) (fun a n1 => asInt a fun j => fe ρ (fun d n' => xs.length < 1000000 ∧ 0 ≤ j ∧ j ≤ 1000000 ∧ k.nx (ρ.set i (.own (xs.take j.toNat ++ [d] ++ xs.drop j.toNat))) n') k.er n1) k.er n) := by
  intro B P0 T n H σ ρ k E hT s hf L
  obtain ⟨ps, s⟩ := s
  obtain ⟨xs, e, hf⟩ := getO_ok hf
  obtain ⟨g1, g2, g3, vs, g4, g5⟩ := s.own i xs e
  refine ⟨_, g1, .inl ⟨rfl, _, .inl (.inl g4)⟩, ?_⟩
  refine ha _ T n H σ _ _ _ _ hT s.opn_st hf (fun a n1 va H1 q1 p1 r1 => ?_) fun e n' H' q p => L.er e n' _ H' q (.of_post s p)
  have s1 := s.post p1
  cases r1 with
  | int j =>
    refine h _ T n1 H1 σ _ _ _ _ hT s1.st q1 (fun d n' v H' q p r => ?_) fun e n' H' q p => L.er e n' _ H' q (.of_post s1 p)
    have s' := s1.post p
    obtain ⟨_, _, _, vs', g4', g5'⟩ := s'.own i xs e
    refine ⟨_, vs', j, v, rfl, rfl, g4', by rw [g5'.length, sizeLine_eq]; have := q.1; omega, q.2.1, by have := q.2.2.1; omega, L.nx _ _ _ _ q.2.2.2 ⟨ps, s'.chg e (((g5'.take _).append (.cons r .nil)).append (g5'.drop _))⟩⟩
  | _ => exact q1.elim
theorem dst_pop {i : Nat} (ha : DT K EX ek tw ta fa) : DSt K EX ek tw (tDrop (tBM K "list" rPopAt (tVar i) (tCons ta tNil))) (fun ρ k n => getO ρ i fun xs => fa (opn ρ) (fun a n1 => asInt a fun j => 0 ≤ j ∧ j < xs.length ∧ xs.length < 1000000 ∧ k.nx (ρ.set i (.own (xs.eraseIdx j.toNat))) n1) k.er n) := by
  intro B P0 T n H σ ρ k E hT s hf L
  obtain ⟨ps, s⟩ := s
  obtain ⟨xs, e, hf⟩ := getO_ok hf
  obtain ⟨g1, g2, g3, vs, g4, g5⟩ := s.own i xs e
  refine ⟨_, g1, .inl ⟨rfl, _, .inl (.inl g4)⟩, ?_⟩
  refine ha _ T n H σ _ _ _ _ hT s.opn_st hf (fun a n1 va H1 q1 p1 r1 => ?_) fun e n' H' q p => L.er e n' _ H' q (.of_post s p)
  have s' := s.post p1
  cases r1 with
  | int j =>
    obtain ⟨_, _, _, vs', g4', g5'⟩ := s'.own i xs e
    obtain ⟨h0, h1, h2, h3⟩ := q1
    have hj : j.toNat < vs'.length := by rw [g5'.length]; omega
    have hs : seqIndex? j vs'.length = some j.toNat := (ixN_seq (n := vs'.length) (i := j) (j := j.toNat) (by unfold ixN; rw [if_pos h0, if_pos (by rw [g5'.length]; exact h1)])).1
    exact ⟨_, vs', j, j.toNat, vs'[j.toNat], rfl, rfl, g4', by omega, by omega, hs, List.getElem?_eq_getElem hj, L.nx _ _ _ _ h3 ⟨ps, s'.chg e (g5'.eraseIdx _)⟩⟩
  | _ => exact q1.elim
theorem ixN_lt {m j : Nat} {i : Int} (h : ixN m i = some j) : j < m := (ixN_seq h).2.1
theorem dst_sub {i : Nat} (he : DT K EX ek tw te fe) (ha : DT K EX ek tw ta fa) : DSt K EX ek tw (tAsg te (gSub (tVar i) ta rSetL)) (fun ρ k n => fe ρ (fun d n1 => getO ρ i fun xs => fa (opn ρ) (fun a n2 => asInt a fun z => ∃ j, ixN xs.length z = some j ∧ k.nx (ρ.set i (.own (xs.set j d))) n2) k.er n1) k.er n) := by
  intro B P0 T n H σ ρ k E hT s hf L
  obtain ⟨ps, s⟩ := s
  refine he _ T n H σ _ _ _ _ hT s.st hf (fun d n1 v H1 q1 p1 r1 => ?_) fun e n' H' q p => L.er e n' _ H' q (.of_post s p)
  have s1 := s.post p1
  obtain ⟨xs, e, q1⟩ := getO_ok q1
  obtain ⟨g1, g2, g3, vs, g4, g5⟩ := s1.own i xs e
  refine ⟨_, g1, ?_⟩
  refine ha _ T n1 H1 σ _ _ _ _ hT s1.opn_st q1 (fun a n2 va H2 q2 p2 r2 => ?_) fun e n' H' q p => L.er e n' _ H' q (.of_post s1 p)
  have s2 := s1.post p2
  cases r2 with
  | int z =>
    obtain ⟨j, hj, q2⟩ := q2
    obtain ⟨_, _, _, vs', g4', g5'⟩ := s2.own i xs e
    have vw : Same (hide (Pp P0 T ρ ps) H1) (hide (Pp P0 T ρ ps) H2) := p2.keep.view s1.st.tw
    exact ⟨_, vs', z, j, rfl, rfl, g4', by rw [g5'.length]; exact hj, L.nx _ _ _ _ q2 ⟨ps, s2.chg e (g5'.set (r1.mono vw) j)⟩⟩
  | _ => exact q2.elim
theorem dst_subO {i : Nat} (he : DT K EX ek tw te fe) (ha : DT K EX ek tw ta fa) : DSt K EX ek tw (tAsg te (gSub (tVar i) ta rSetL)) (fun ρ k n => fe (opn ρ) (fun d n1 => scD d = true ∧ getO ρ i fun xs => fa (opn ρ) (fun a n2 => asInt a fun z => ∃ j, ixN xs.length z = some j ∧ k.nx (ρ.set i (.own (xs.set j d))) n2) k.er n1) k.er n) := by
  intro B P0 T n H σ ρ k E hT s hf L
  obtain ⟨ps, s⟩ := s
  refine he _ T n H σ _ _ _ _ hT s.opn_st hf (fun d n1 v H1 q1 p1 r1 => ?_) fun e n' H' q p => L.er e n' _ H' q (.of_post s p)
  have s1 := s.post p1
  obtain ⟨sc, q1⟩ := q1
  obtain ⟨xs, e, q1⟩ := getO_ok q1
  obtain ⟨g1, g2, g3, vs, g4, g5⟩ := s1.own i xs e
  refine ⟨_, g1, ?_⟩
  refine ha _ T n1 H1 σ _ _ _ _ hT s1.opn_st q1 (fun a n2 va H2 q2 p2 r2 => ?_) fun e n' H' q p => L.er e n' _ H' q (.of_post s1 p)
  have s2 := s1.post p2
  cases r2 with
  | int z =>
    obtain ⟨j, hj, q2⟩ := q2
    obtain ⟨_, _, _, vs', g4', g5'⟩ := s2.own i xs e
    exact ⟨_, vs', z, j, rfl, rfl, g4', by rw [g5'.length]; exact hj, L.nx _ _ _ _ q2 ⟨ps, s2.chg e (g5'.set (r1.scal sc) j)⟩⟩
  | _ => exact q2.elim
/-! ### loops -/
def forL (tg : Tgt) (fb : Rho → Sk → Nat → Prop) : List D → Rho → Sk → Nat → Prop
  | [], ρ, k, n => k.nx ρ n
  | d :: ds, ρ, k, n => ∃ ρ1, tg d ρ = some ρ1 ∧ fb ρ1 { k with nx := fun ρ' n' => forL tg fb ds ρ' k n', ct := fun ρ' n' => forL tg fb ds ρ' k n', bk := k.nx } n
/-- walks that lean on no view -/
def DIo (K : PySem.W.Frag) (EX : EXT) (ek : Kd → Value) (tw : Bool) (wi : TI) (f : Rho → W (List D)) : Prop :=
  ∀ (P : Addr → Prop) (T : Twn) (n : Nat) (H : Hp) (σ : L2.St) (ρ : Rho) (Qd : List D → Nat → Prop) (Ed : Kd → Nat → Prop) (R : It → Hp → Prop),
    T.isSome = tw → St0 K P T n H σ ρ → f ρ Qd Ed n → (∀ ds n' J H', Qd ds n' → Post K P T H n' H' → (∀ Hv, Walks K Hv J ds) → R J H') →
    (∀ k n' H', Ed k n' → Post K P T H n' H' → EX σ (ek k) none H') → wi σ H R
theorem dio_rng1 (ha : DA K EX ek tw tr fr) : DIo K EX ek tw (iRng1 tr) (fun ρ => wbind (fr ρ) fun xs => wop (rng1D xs)) := by
  intro P T n H σ ρ Qd Ed R hT s hf hq he
  refine ha P T n H σ ρ _ Ed _ hT s hf (fun xs n1 vs H1 q1 p1 r1 => ?_) he
  cases r1 with
  | nil => exact q1.elim
  | cons r rr =>
    cases rr with
    | cons _ _ => cases r <;> exact q1.elim
    | nil =>
      cases r with
      | int j =>
        obtain ⟨h1, h2, h3⟩ := q1
        exact ⟨j, rfl, by omega, by omega, hq _ n1 _ H1 h3 p1 fun _ => walks_rng⟩
      | _ => exact q1.elim
theorem dio_rng2 (ha : DA K EX ek tw tr fr) : DIo K EX ek tw (iRng2 tr) (fun ρ => wbind (fr ρ) fun xs => wop (rng2D xs)) := by
  intro P T n H σ ρ Qd Ed R hT s hf hq he
  refine ha P T n H σ ρ _ Ed _ hT s hf (fun xs n1 vs H1 q1 p1 r1 => ?_) he
  cases r1 with
  | nil => exact q1.elim
  | cons r rr =>
    cases rr with
    | nil => cases r <;> exact q1.elim
    | cons r2 rr =>
      cases rr with
      | cons _ _ => cases r <;> cases r2 <;> exact q1.elim
      | nil =>
        cases r with
        | int i =>
          cases r2 with
          | int j =>
            obtain ⟨h1, h2, h3, h4, h5⟩ := q1
            exact ⟨i, j, rfl, ⟨by omega, by omega, by omega, by omega⟩, hq _ n1 _ H1 h5 p1 fun _ => walks_rng⟩
          | _ => exact q1.elim
        | _ => cases r2 <;> exact q1.elim
theorem Lk.weak {B' : Hp} (L : Lk K EX ek B P0 T k E) (h : Same B B') : Lk K EX ek B' P0 T k E :=
  ⟨fun ρ n σ H q ⟨ps, s⟩ => L.nx ρ n σ H q ⟨ps, s.weak h⟩, fun ρ n σ H q ⟨ps, s⟩ => L.bk ρ n σ H q ⟨ps, s.weak h⟩, fun ρ n σ H q ⟨ps, s⟩ => L.ct ρ n σ H q ⟨ps, s.weak h⟩,
   fun d n v H q f r => L.rt d n v H q (f.weak h) r, fun e n σ H q f => L.er e n σ H q (f.weak h)⟩
/-- the loop proper -/
theorem for_core {g : TG} {tg : Tgt} {J : It} {ds : List D} (hT : T.isSome = tw) (hg : DGs K tw g tg) (hb : DSt K EX ek tw t ft) (s : SRx K B P0 T n H σ ρ ps) (wk : Walks K (hide (Pp P0 T ρ ps) H) J ds) (hf : forL tg ft ds ρ k n) (L : Lk K EX ek B P0 T k E) :
    ∃ W : Nat → Nat → L2.St → Hp → Prop, (∃ m, W 0 m σ H) ∧ ∀ i m σ H, W i m σ H →
      (J.stop i H ∧ E.nx σ H) ∨ (J.go i H ∧ ∃ N : L2.St → Hp → Prop, (∀ σ' H', N σ' H' → ∃ m', m' < m ∧ W (i + 1) m' σ' H') ∧ ∀ x H', J.yld i H x H' → g x σ H' fun σ2 H2 => t { E with nx := N, ct := N, bk := E.nx } σ2 H2) := by
  have hB : Same B (hide (Mm T ρ ps) H) := fun a o e => hide_some.mpr (s.base a o e)
  have s0 : SRx K (hide (Mm T ρ ps) H) P0 T n H σ ρ ps := ⟨fun a o e => hide_some.mp e, s.own, s.inj, s.lo, s.st⟩
  refine ⟨fun i m σ' H' => m = ds.length - i ∧ i ≤ ds.length ∧ ∃ ρ' n', SR K (hide (Mm T ρ ps) H) P0 T n' H' σ' ρ' ∧ forL tg ft (ds.drop i) ρ' k n', ⟨_, rfl, Nat.zero_le _, ρ, n, ⟨ps, s0⟩, hf⟩, ?_⟩
  rintro i m σ3 H3 ⟨rfl, hi, ρ3, n3, ⟨ps3, s3⟩, hl⟩
  have vw : Same (hide (Pp P0 T ρ ps) H) (hide (Pp P0 T ρ3 ps3) H3) := hide_mono fun a o hn e => by
    obtain ⟨h1, h2⟩ := s3.base a o (hide_some.mpr ⟨fun z => hn (.inr z), e⟩)
    exact ⟨fun z => z.elim (fun z => hn (.inl z)) h1, h2⟩
  have vw' : Same (hide (Pp P0 T ρ ps) H) H3 := fun a o e => hide_le _ _ (vw a o e)
  by_cases hlt : i < ds.length
  · refine .inr ⟨wk.go H3 vw' i hlt, fun σ' H' => ds.length - (i + 1) = ds.length - (i + 1) ∧ i + 1 ≤ ds.length ∧ ∃ ρ' n', SR K (hide (Mm T ρ ps) H) P0 T n' H' σ' ρ' ∧ forL tg ft (ds.drop (i + 1)) ρ' k n', fun σ' H' z => ⟨ds.length - (i + 1), by omega, z⟩, fun x H4 y => ?_⟩
    obtain ⟨e4, d, hd, rd⟩ := wk.yld H3 vw' i hlt x H4 y
    subst e4
    have hdrop : ds.drop i = d :: ds.drop (i + 1) := by
      rw [List.drop_eq_getElem_cons hlt]
      rw [List.getElem?_eq_getElem hlt] at hd
      cases hd; rfl
    rw [hdrop] at hl
    obtain ⟨ρ1, e1, hl⟩ := hl
    refine hg _ P0 T n3 H4 σ3 ρ3 ρ1 ps3 x d _ hT s3 (rd.mono vw) e1 fun σ' s' => ?_
    have L' := L.weak hB
    exact hb _ P0 T n3 H4 σ' ρ1 _ _ hT ⟨ps3, s'⟩ hl ⟨fun ρ' n' σ' H' q s => ⟨rfl, hlt, ρ', n', s, q⟩, L'.nx, fun ρ' n' σ' H' q s => ⟨rfl, hlt, ρ', n', s, q⟩, L'.rt, L'.er⟩
  · have e : i = ds.length := by omega
    subst e
    rw [List.drop_length] at hl
    exact .inl ⟨wk.stop H3 vw', (L.weak hB).nx ρ3 n3 σ3 H3 hl ⟨ps3, s3⟩⟩
theorem dst_for {wi : TI} {fi : Rho → W (List D)} {g : TG} {tg : Tgt} (hi : DI K EX ek tw wi fi) (hg : DGs K tw g tg) (hb : DSt K EX ek tw t ft) :
    DSt K EX ek tw (tFor wi g t) (fun ρ k n => fi ρ (fun ds n' => forL tg ft ds ρ k n') k.er n) := by
  intro B P0 T n H σ ρ k E hT s hf L
  obtain ⟨ps, s⟩ := s
  exact hi _ T n H σ ρ _ _ _ hT s.st hf (fun ds n' J H' q p wk => for_core hT hg hb (s.post p) wk q L) fun e n' H' q p => L.er e n' _ H' q (.of_post s p)
theorem dst_forO {wi : TI} {fi : Rho → W (List D)} {g : TG} {tg : Tgt} (hi : DIo K EX ek tw wi fi) (hg : DGs K tw g tg) (hb : DSt K EX ek tw t ft) :
    DSt K EX ek tw (tFor wi g t) (fun ρ k n => fi (opn ρ) (fun ds n' => forL tg ft ds ρ k n') k.er n) := by
  intro B P0 T n H σ ρ k E hT s hf L
  obtain ⟨ps, s⟩ := s
  exact hi _ T n H σ _ _ _ _ hT s.opn_st hf (fun ds n' J H' q p wk => for_core hT hg hb (s.post p) (wk _) q L) fun e n' H' q p => L.er e n' _ H' q (.of_post s p)
/-- while: by fuel -/
def whF (gc : Rho → W Bool) (ft : Rho → Sk → Nat → Prop) : Nat → Rho → Sk → Nat → Prop
  | 0, _, _, _ => False
  | m + 1, ρ, k, n => gc (opn ρ) (fun b n' => cond b (ft ρ { k with nx := fun ρ' n' => whF gc ft m ρ' k n', ct := fun ρ' n' => whF gc ft m ρ' k n', bk := k.nx } n') (k.nx ρ n')) k.er n
theorem dst_while (hc : DB K EX ek tw c gc) (hb : DSt K EX ek tw t ft) : DSt K EX ek tw (tWhile c t) (fun ρ k n => ∃ m, whF gc ft m ρ k n) := by
  intro B P0 T n H σ ρ k E hT s hf L
  obtain ⟨m, hf⟩ := hf
  refine ⟨fun m σ H => ∃ ρ n, SR K B P0 T n H σ ρ ∧ whF gc ft m ρ k n, ⟨m, ρ, n, s, hf⟩, ?_⟩
  rintro m σ1 H1 ⟨ρ1, n1, ⟨ps1, s1⟩, hf⟩
  cases m with
  | zero => exact hf.elim
  | succ m =>
    refine hc _ T n1 H1 σ1 _ _ _ _ hT s1.opn_st hf (fun b n' H' q p => ?_) fun e n' H' q p => L.er e n' _ H' q (.of_post s1 p)
    have s' := s1.post p
    cases b with
    | true =>
      refine iteT ⟨fun σ H => ∃ ρ n, SR K B P0 T n H σ ρ ∧ whF gc ft m ρ k n, fun σ' H' z => ⟨m, Nat.lt_succ_self _, z⟩, ?_⟩
      exact hb B P0 T n' H' σ1 ρ1 _ _ hT ⟨ps1, s'⟩ q ⟨fun ρ' n' σ' H' q s => ⟨ρ', n', s, q⟩, L.nx, fun ρ' n' σ' H' q s => ⟨ρ', n', s, q⟩, L.rt, L.er⟩
    | false => exact iteF (L.nx ρ1 n' σ1 H' q ⟨ps1, s'⟩)
/-! ### raise -/
theorem dst_raise {cls : Value} {j : Kd} (hE : ek j = cls) (E0 : XK) (hEX : EX = fun _ => E0) : DSt K EX ek tw (fun _ σ H => (fun (_ : L2.St) (H : Hp) (Q : XK) => Q cls none H) σ H fun c d H' => E0 c d H') (fun _ k n => k.er j n) := by
  intro B P0 T n H σ ρ k E hT s hf L
  obtain ⟨ps, s⟩ := s
  have := L.er j n σ H hf s.fin
  rw [hEX, hE] at this
  exact this
end
/-! ### defs -/
/-- the slots at a def's entry -/
def ini (tw : Bool) (ds : List D) (r : Nat) : Rho := (bif tw then [Slot.no, Slot.no] else []) ++ ds.map Slot.v ++ List.replicate r Slot.no
section
variable {P : Program} {w : World} {K : PySem.W.Frag} {mg : Str → Option Value} {base : Heap} {ek : Kd → Value} {tw : Bool}
theorem ini_v {tw : Bool} {ds : List D} {r i : Nat} {d : D} (h : (ini tw ds r)[i]? = some (Slot.v d)) : ∃ j, i = j + (bif tw then 2 else 0) ∧ ds[j]? = some d := by
  have core : ∀ {i : Nat}, (ds.map Slot.v ++ List.replicate r Slot.no)[i]? = some (Slot.v d) → ds[i]? = some d := fun {i} h => by
    by_cases hl : i < ds.length
    · rw [List.getElem?_append_left (by rw [List.length_map]; exact hl), List.getElem?_map] at h
      cases e : ds[i]? with
      | none => rw [e] at h; cases h
      | some x => rw [e] at h; cases h; rfl
    · rw [List.getElem?_append_right (by rw [List.length_map]; omega)] at h
      rw [List.getElem?_replicate] at h
      split at h <;> cases h
  cases tw with
  | false => exact ⟨i, rfl, core h⟩
  | true =>
    match i with
    | 0 => cases h
    | 1 => cases h
    | i + 2 => exact ⟨i, rfl, core h⟩
theorem ini_own {tw : Bool} {ds : List D} {r i : Nat} {xs : List D} (h : (ini tw ds r)[i]? = some (Slot.own xs)) : False := by
  have hm := List.mem_of_getElem? h
  unfold ini at hm
  rw [List.mem_append, List.mem_append] at hm
  rcases hm with (hm | hm) | hm
  · cases tw
    · cases hm
    · simp at hm
  · obtain ⟨x, _, e⟩ := List.mem_map.mp hm
    cases e
  · have := List.eq_of_mem_replicate hm
    cases this
theorem start_get {N : List Str} {vs : List V} {i : Nat} {v : V} (h : vs[i]? = some v) : (L2.start N vs)[i]? = some (some v) := by
  unfold L2.start
  obtain ⟨hl, e⟩ := List.getElem?_eq_some_iff.mp h
  rw [List.getElem?_append_left (by rw [List.length_map]; exact hl), List.getElem?_map, h]
  rfl
theorem Fun.okD {x qual : Str} {st : Stmt} {f : Addr} {fd : FuncData} {N ps : List Str} {k m r : Nat} {F : List D → W D} (Fn : Fun K x qual st f fd) (S : FnScope N ps (defScope st)) (hps : ps.length = m + (bif tw then 2 else 0)) (hr : N.length = ps.length + r)
    (body : ∀ (cdv : Value) (A : Around) (outer : List Env) (s : Shared) (H : Hp) (E : XK), Room k (A.deeper (PyProof.Rows.envOfC qual (defScope st) s.heap.objs.size f cdv)) →
      ∃ t fs, PSs (cxOf (L2.CX P w) P w K mg base N qual (defScope st) f cdv A outer s H E) (defBody st) t ∧ DSt K (fun _ => E) ek tw t fs ∧
        ∀ (ds : List D) (Qd : D → Nat → Prop) (Ed : Kd → Nat → Prop) (n : Nat), ds.length = m → F ds Qd Ed n → fs (ini tw ds r) { nx := fun _ n' => Qd .none n', rt := Qd, er := Ed } n) :
    FnOk P w K mg base (L2.CX P w) (k + 1) f fd ps (spD K ek tw m F) := by
  refine Fn.okX S (fun vs H Q E h => by rw [spD_len vs H Q E h, hps]) (fun cdv A outer s H vs Q E hroom h => ?_)
  obtain ⟨t, fs, h1, h2, h3⟩ := body cdv A outer s H E hroom
  refine ⟨t, h1, ?_⟩
  obtain ⟨Pc, T, n, us, ds, Qd, Ed, hT, hl, rfl, hthere, htw, r1, hF, hQ, hE⟩ := h
  have husl := r1.length
  have ep : ∀ a, Pp Pc T (ini tw ds r) (fun _ => 0) a → Pc a ∨ ∃ p, T = some p ∧ a = p.2 := fun a h => by
    rcases h with h | ⟨i, xs, e, _⟩ | h
    · exact .inl h
    · exact (ini_own e).elim
    · exact .inr h
  have ep' : ∀ a, Pp Pc T (ini tw ds r) (fun _ => 0) a → Pc a := fun a h => (ep a h).elim id fun ⟨p, hp, e⟩ => e ▸ (htw.ok p hp).1
  have vw : Same (hide Pc H) (hide (Pp Pc T (ini tw ds r) (fun _ => 0)) H) := hide_mono fun a o hn e => ⟨fun z => hn (ep' a z), e⟩
  have vwo : ∀ {H'}, Same (hide (Po Pc T) H') (hide Pc H') := fun {H'} => hide_mono fun a o hn e => ⟨fun z => hn (.inl z), e⟩
  have s0 : SRx K (hide (fun a => ∃ p, T = some p ∧ a = p.2) H) Pc T n H (L2.start N (argsOf T us)) (ini tw ds r) (fun _ => 0) := by
    refine ⟨fun a o e => ?_, fun i xs e => (ini_own e).elim, fun i j xs ys e => (ini_own e).elim, fun _ i xs e => (ini_own e).elim, fun a h => hthere a (ep' a h), ⟨fun p hp => ?_⟩, fun p hp => ?_, ?_, fun i d h => ?_⟩
    · obtain ⟨h1, h2⟩ := hide_some.mp e
      refine ⟨fun z => ?_, h2⟩
      rcases z with ⟨i, xs, e, _⟩ | z
      · exact ini_own e
      · exact h1 z
    · obtain ⟨h1, h2, ns, h3, h4⟩ := htw.ok p hp
      exact ⟨.inl h1, h2, ns, vw.seq h3, h4⟩
    · subst hp
      exact ⟨rfl, rfl⟩
    · unfold L2.start ini
      cases T with
      | none => cases hT; simp [argsOf] at hps ⊢; omega
      | some p => cases hT; simp [argsOf] at hps ⊢; omega
    · obtain ⟨j, rfl, hj⟩ := ini_v h
      obtain ⟨v, h1, h2⟩ := r1.get hj
      refine ⟨v, start_get ?_, h2.mono vw⟩
      cases T with
      | none => cases hT; exact h1
      | some p => cases hT; exact h1
  refine h2 _ Pc T n H _ _ _ _ hT ⟨_, s0⟩ (h3 ds Qd Ed n hl hF) ⟨fun ρ' n' σ' H' q s => ?_, fun _ _ _ _ q => q.elim, fun _ _ _ _ q => q.elim, fun d n' v H' q fo rr => ?_, fun e n' σ' H' q fo => ?_⟩
  · obtain ⟨ps', s'⟩ := s
    have fo := s'.fin
    refine hQ _ n' _ H' q ⟨fun a o hn e => fo.base a o (hide_some.mpr ⟨fun ⟨p, hp, z⟩ => hn p hp z, e⟩) hn, ⟨fun p hp => ?_⟩⟩ .non
    obtain ⟨h1, h2, ns, h3, h4⟩ := fo.tw.ok p hp
    exact ⟨(htw.ok p hp).1, h2, ns, vwo.seq h3, h4⟩
  · refine hQ d n' v H' q ⟨fun a o hn e => fo.base a o (hide_some.mpr ⟨fun ⟨p, hp, z⟩ => hn p hp z, e⟩) hn, ⟨fun p hp => ?_⟩⟩ (rr.mono vwo)
    obtain ⟨h1, h2, ns, h3, h4⟩ := fo.tw.ok p hp
    exact ⟨(htw.ok p hp).1, h2, ns, vwo.seq h3, h4⟩
  · refine hE e n' H' q ⟨fun a o hn e => fo.base a o (hide_some.mpr ⟨fun ⟨p, hp, z⟩ => hn p hp z, e⟩) hn, ⟨fun p hp => ?_⟩⟩
    obtain ⟨h1, h2, ns, h3, h4⟩ := fo.tw.ok p hp
    exact ⟨(htw.ok p hp).1, h2, ns, vwo.seq h3, h4⟩
end
end WB
set_option Elab.async false
set_option linter.all false
set_option maxRecDepth 100000
set_option maxHeartbeats 2000000
/-! Part G: defs by name, raise, an exception that is caught and kept, isinstance of it. -/
namespace WB
open PySem PySem.Spec L2
/-! ### defs as the top has left them -/
/-- the def x of the text stands in the module under its name -/
def Df (K : PySem.W.Frag) (mg : Str → Option Value) (x : Str) (st : Stmt) (ps : List Str) : Prop :=
  ∃ f fd, Fun K x x st f fd ∧ mg x = some (.ref f) ∧ Binds K fd ps []
/-- .. and keeps its promise -/
def Rd (P : Program) (w : World) (K : PySem.W.Frag) (mg : Str → Option Value) (base : Heap) (x : Str) (k : Nat) (ps : List Str) (sp : Sp) : Prop :=
  ∃ f fd, FnOk P w K mg base (L2.CX P w) k f fd ps sp ∧ mg x = some (.ref f) ∧ PySem.W.keepIn K (.ref f) = true ∧ Binds K fd ps []
theorem df_mk {K : PySem.W.Frag} {h : Heap} {mg : Str → Option Value} {x : Str} {st : Stmt} {ps : List Str} {f : Addr} {oc : Value} {od an : Option Addr} {osl : Array (Option Value)} {kV doc pm cdv ct : Value} (X : K.In h) (G : h.Ns mainGlobals mg)
    (a : PySem.W.nsIn K mainGlobals x = some (some (.ref f))) (l : K.lookup f = some ⟨oc, od, .func (PySem.W.fnOf x x (defArgs st) (defBody st) (defScope st) .none kV doc pm an cdv ct), osl⟩) (c : PySem.W.codeIn K cdv x = true) (k : PySem.W.keepIn K (.ref f) = true)
    (b : ∀ (kV doc pm : Value) (an : Option Addr) (cdv ct : Value) (us : List Value), us.length = ps.length → bindArgs (PySem.W.fnOf x x (defArgs st) (defBody st) (defScope st) .none kV doc pm an cdv ct) ⟨us, []⟩ = pure (ps.zip us)) : Df K mg x st ps :=
  ⟨f, _, fun_mk l c k, PySem.W.mg_of X G a, (fun_mk l c k).binds b⟩
section
variable {P : Program} {w : World} {K : PySem.W.Frag} {mg : Str → Option Value} {base : Heap} {ek : Kd → Value} {tw : Bool}
theorem Df.ok {x : Str} {st : Stmt} {N ps : List Str} {k m r : Nat} {F : List D → W D} (d : Df K mg x st ps) (S : FnScope N ps (defScope st)) (hps : ps.length = m + (bif tw then 2 else 0)) (hr : N.length = ps.length + r)
    (body : ∀ (f : Addr) (cdv : Value) (A : Around) (outer : List Env) (s : Shared) (H : Hp) (E : XK), Room k (A.deeper (PyProof.Rows.envOfC x (defScope st) s.heap.objs.size f cdv)) →
      ∃ t fs, PSs (cxOf (L2.CX P w) P w K mg base N x (defScope st) f cdv A outer s H E) (defBody st) t ∧ DSt K (fun _ => E) ek tw t fs ∧
        ∀ (ds : List D) (Qd : D → Nat → Prop) (Ed : Kd → Nat → Prop) (n : Nat), ds.length = m → F ds Qd Ed n → fs (ini tw ds r) { nx := fun _ n' => Qd .none n', rt := Qd, er := Ed } n) :
    Rd P w K mg base x (k + 1) ps (spD K ek tw m F) := by
  obtain ⟨f, fd, Fn, hm, hb⟩ := d
  exact ⟨f, fd, Fun.okD Fn S hps hr (fun cdv A outer s H E hr => body f cdv A outer s H E hr), hm, Fn.kp, hb⟩
theorem Rd.imp {x : Str} {k : Nat} {ps : List Str} {sp sp' : Sp} (r : Rd P w K mg base x k ps sp) (h : ∀ vs H Q E, sp' vs H Q E → sp vs H Q E) : Rd P w K mg base x k ps sp' := by
  obtain ⟨f, fd, F, a, b, c⟩ := r
  exact ⟨f, fd, F.imp h, a, b, c⟩
/-- a call by name -/
theorem pe_callD {X : Cx} {x : Str} {k : Nat} {ps : List Str} {sp : Sp} {EX : EXT} {p pos : Pos} {e : Expr} {es : List Expr} {t : TA} (R : Rd X.prog X.w X.K X.mg X.base x k ps sp) (hr : Room k X.A) (hg : Gl X x) (hx : ∀ σ, PassesAt (L2.CX X.prog X.w) X σ (EX σ))
    (ha : PA X (e :: es) t) (hdb : (x == ("__debug__" : Str)) = false := by decide) (he : starEach (e :: es) X.env = (false, eval e X.env) :: starEach es X.env := by rfl) (hpl : (backTo pos (starEach es X.env)).any (·.1) = false := by rfl) :
    PE X (.Call (.Name x p) (e :: es) [] pos) (tCallS sp EX t) := by
  obtain ⟨f, fd, F, hm, hk, hb⟩ := R
  exact pe_callS F hr hg hm hk hb hx ha hdb he hpl
theorem pass_in {X : Cx} {W : WX} (tk : Takes X W) : ∀ σ, PassesAt (L2.CX X.prog X.w) X σ (WE W σ) := fun σ => passAt tk σ
theorem pass_blk {X : Cx} : ∀ σ : L2.St, PassesAt (L2.CX X.prog X.w) X σ (EX0 σ) := fun σ => fun pins H s e s' I c => passL pins σ H s e s' I c
theorem hr65 {k : Nat} {A : Around} (r : Room k A) : A.units + 65 < cLine := by have := r.un; omega
/-! ### raise -/
/-- the refusal class x of kind j -/
structure ExcK (K : PySem.W.Frag) (mg : Str → Option Value) (ek : Kd → Value) (j : Kd) (x : Str) (C : Addr) : Prop where
  m : mg x = some (.ref C)
  e : ek j = .ref C
  xi : PySem.W.excIn K C [.type "ValueError", .type "Exception", .type "BaseException", .type "object"] "ValueError.__new__" = true
  kp : PySem.W.keepIn K (.ref C) = true
  sb : PySem.W.subIn K (.ref C) (.type "BaseException") = some true
  ty : PySem.W.typeIn K (.ref C) = some (.type "type")
def tRz (E : XK) (v : Value) : TS := fun _ _ H => E v none H
theorem ps_raiseD {X : Cx} {E : XK} {x m : Str} {C : Addr} {jj : Kd} {p p2 pos pos2 : Pos} {j : Nat} (R : ExcK X.K X.mg ek jj x C) (hc : X.calm = true) (tk : Takes X (fun cls d _ H => E cls d H)) (hg : Gl X x) (hdb : (x == ("__debug__" : Str)) = false := by decide) :
    PS X (.Raise (some (.Call (.Name x p) [.Constant (.str m) j p2] [] pos)) none pos2) (tRz E (ek jj)) := by
  have := ps_raise (pos := pos2) hc tk (pmk_own (p := p) (p2 := p2) (pos := pos) (m := m) (j := j) PySem.F.excBase_ValueError R.xi R.m R.kp (raises_own R.sb R.ty) hg hdb)
  rw [R.e]
  exact this
theorem dst_rz {E : XK} {j : Kd} : DSt K (fun _ => E) ek tw (tRz E (ek j)) (fun _ k n => k.er j n) := by
  intro B P0 T n H σ ρ k Ds hT s hf L
  obtain ⟨ps, s⟩ := s
  exact L.er j n σ H hf s.fin
end
/-! ### an exception that was caught, as a value -/
/-- an exception object of the class cls stands at a -/
def Exv (cls : Value) (a : Addr) : HO := .ext fun h => ∃ (oe : Obj) (vs : Array Value), h.get? a = some oe ∧ oe.cls = cls ∧ oe.dict = none ∧ oe.data = .fields vs
theorem track_exc {X : Cx} {pins : List (Addr × Obj)} {σ : L2.St} {H : Hp} {s : Shared} {a : Addr} {oe : Obj} {vs : Array Value} {cls : Value} (J : Inv X pins σ H s) (e : s.heap.get? a = some oe) (h1 : oe.cls = cls) (h2 : oe.dict = none) (h3 : oe.data = .fields vs) (na : H a = none)
    (n0 : X.s_0.heap.get? a = none) (nL : a ≠ X.env.locals) (np : ∀ p ∈ X.pn ++ pins, p.1 ≠ a) : Inv X pins σ (upd H a (Exv cls a)) s := by
  have ne : ∀ b, H b = none → b ≠ a → upd H a (Exv cls a) b = none := fun b h q => by rw [upd_ne q]; exact h
  have ok : ObjOk X.prog X.w (upd H a (Exv cls a)) s.heap a (Exv cls a) := ⟨⟨oe, vs, e, h1, h2, h3⟩, ⟨oe, e⟩, fun _ _ ⟨o, v, q, r⟩ k => ⟨o, v, k o q, r⟩⟩
  refine ⟨J.ok, J.os, J.bare, ⟨J.base.keep, J.base.slot, fun b o q n hx => ne b (J.base.free b o q n hx) fun z => ?_, J.base.there, fun b xs q => ?_, fun b o u q => ?_, fun b q r => ?_⟩, J.loc, J.cell, ne _ J.free (Ne.symm nL), fun x c q => ne _ (J.freeC x c q) fun z => ?_, fun p hp => ?_, J.hok.laidN (fun _ _ q => q) na ok, J.len⟩
  · rw [z, n0] at q; cases q
  · have := J.base.tups b xs q
    rw [upd_ne (ne_of_none this na)]; exact this
  · have := J.base.frzs b o u q
    rw [upd_ne (ne_of_none this na)]; exact this
  · obtain ⟨m, this⟩ := J.base.tbls b q r
    exact ⟨m, by rw [upd_ne (ne_of_none this na)]; exact this⟩
  · obtain ⟨v, o, ho, hd⟩ := J.cell x c q
    rw [z, e] at ho
    cases ho
    rw [h3] at hd; cases hd
  · obtain ⟨p1, p2, p3⟩ := J.pin p hp
    exact ⟨p1, ne _ p2 (np p hp), p3⟩
/-- what is wished of an exception that «except B as n: y = n» meets: i is n's slot, j is y's -/
def wKeep (K : PySem.W.Frag) (c : Value) (i j l : Nat) (Wout : WX) (Dn : Ends) : WX := fun cls d σ H =>
  ∃ b, PySem.W.exmOne K cls c = some b ∧ (b = true → d = none ∧ ∀ a, H a = none → σ.length = l → Dn.nx (((σ.set i (some (.ref a))).set j (some (.ref a))).set i none) (upd H a (Exv cls a))) ∧ (b = false → Wout cls d σ H)
def tTry (K : PySem.W.Frag) (c : Value) (i j l : Nat) (Wout : WX) (tb : WX → TS) : TS := fun Dn σ H => tb (wKeep K c i j l Wout Dn) Dn σ H
section
variable {X : Cx} {i j : Nat} {n x y : Str} {c : Value} {np pe pa pn2 py pos pos' : Pos} {body : List Stmt} {tb : WX → TS} {Wout : WX}
theorem ps_try_keep (hs : X.stack = X.env :: X.outer) (hf : X.env.frame = some X.env.locals) (hN : X.N.Nodup) (hi : X.N[i]? = some n) (hj : X.N[j]? = some y) (hln : X.env.kindOf n = some .local) (hly : X.env.kindOf y = some .local) (hc : Names X x c) (tk : Takes X Wout)
    (hd1 : (n == ("__debug__" : Str)) = false) (hd2 : (n == ("__classdict__" : Str)) = false) (hex : X.ex = [])
    (hsw : ∀ env, swapsWith (.Name n pn2) (some (.Name y py)) pa.line env = pure false)
    (hb : ∀ (W : WX) (pn : List (Addr × Obj)) (xe : Value → Shared → Prop), Takes (X.tr pn xe) W → PassesOwn (model X.prog X.w) X.A X.env xe → PSs (X.tr pn xe) body (tb W)) :
    PS X (.Try body [.ExceptHandler (some (.Name x np)) (some n) [.Assign [.Name y py] (.Name n pn2) pa] pos'] [] [] pos) (tTry X.K c i j X.N.length Wout tb) := by
  constructor
  intro pins s σ H Dn I h
  have xok := I.ok
  have frs1 : X.A.frames = some (X.env :: X.outer) := by rw [xok.frames, hs]
  have lcn : Loc X.env.scope n := .inl hln
  have lcy : Loc X.env.scope y := .inl hly
  refine wpAny_Try_except ?_
  have body_ok := (hb (wKeep X.K c i j X.N.length Wout Dn) (X.pn ++ pins) (fun ev t1 => wpAny (model X.prog X.w) X.A (noteFrame ev X.env) (fun _ t2 => wpAny (model X.prog X.w) X.A (setFlight ev none) (fun _ t3 =>
    wpAny (model X.prog X.w) X.A (handleBy ev X.env [.ExceptHandler (some (.Name x np)) (some n) [.Assign [.Name y py] (.Name n pn2) pa] pos']) (SP X pins Dn) X.xe t3) X.xe t2) X.xe t1) ?tk PassesOwn.looking).run [] s σ H Dn (I.toTry _) h
  case tk =>
    rintro u t0 ⟨a, G, sI, pns, σ1, H1, cls, d, rfl, JJ, ground, ups, sky, na, oseq, gens, b, hb1, hy, hno⟩
    have J : Inv X pins σ1 H1 sI := JJ.ofTry xok
    have sk : Sky G (X.env :: X.outer) a (Zc cls d) X.env.locals t0.heap := hs ▸ sky
    show wpAny (model X.prog X.w) X.A (noteFrame (.ref a) X.env) _ _ _
    refine Sky.land Zc.steady frs1 hf sk fun h1 fl1 up1 => ?_
    have J1 : Inv X pins σ1 H1 { t0 with heap := h1 } := J.landed ground fl1.1 (ups.trans up1) oseq gens
    obtain ⟨oe1, vs1, he1, hz1, hv1⟩ := fl1.there
    have noframe : a ∉ frs (X.env :: X.outer) := fun hm => by
      obtain ⟨_, o', e', hnf⟩ := fl1.2.2.1.mem hm
      exact hnf vs1 (by rw [he1] at e'; cases e'; exact hv1)
    have aL : a ≠ X.env.locals := fun z => noframe (List.mem_filterMap.mpr ⟨X.env, List.mem_cons_self, by rw [hf, z]⟩)
    have aF : a ∉ X.fs := fun hm => by
      obtain ⟨ev, hev, q⟩ := List.mem_filterMap.mp hm
      exact noframe (List.mem_filterMap.mpr ⟨ev, List.mem_cons_of_mem _ hev, q⟩)
    have aG : G.get? a = none := fl1.2.1
    have a0 : X.s_0.heap.get? a = none := by
      cases q : X.s_0.heap.get? a with
      | none => rfl
      | some o =>
        obtain ⟨o', q'⟩ := J.base.there a o q (by rw [hex]; exact fun z => nomatch z)
        have := ground a o' q' (by rw [hs]; exact noframe)
        rw [aG] at this; cases this
    have apin : ∀ p ∈ X.pn ++ pins, p.1 ≠ a := fun p hp z => by
      obtain ⟨q1, _, q3, q4, _⟩ := J.pin p hp
      have : p.1 ∉ frs X.stack := by
        rw [hs]
        intro hm
        rw [z] at hm
        exact noframe hm
      have := ground p.1 p.2 q1 this
      rw [z, aG] at this; cases this
    have S1 := J1.suite he1 hv1 na aL aF
    refine wpAny_handleBy_cons (codeAny_handlers_test ?_) (by intro q; cases q)
    have tyA : PySem.W.Looks (model X.prog X.w) h1 (typeOf (.ref a)) cls := fun A1 Q1 E1 s1 k q => wpAny_typeOf_ref (k _ _ he1) (by rw [hz1.1]; exact q)
    have exm := PySem.W.exm_one (M := model X.prog X.w) (J1.kIn) tyA hb1
    have name_ok : ∀ {Q : Value → Shared → Prop} {E : Value → Shared → Prop}, Q c { t0 with heap := h1 } → wpAny (model X.prog X.w) (X.A.mark (some (.ref a))) (eval (.Name x np) X.env) Q E { t0 with heap := h1 } := by
      intro Q E q
      obtain ⟨hg, hdbg, hm | ⟨hm, hv, hnn⟩⟩ := hc
      · exact ld_glob (X := X.suite a ((a, oe1) :: (X.pn ++ pins))) S1 hg hm q hdbg
      · exact ld_blt (X := X.suite a ((a, oe1) :: (X.pn ++ pins))) S1 hg hm hv q hnn hdbg
    refine name_ok (exm.here ?_)
    cases b with
    | true =>
      obtain ⟨dn, hy⟩ := hy rfl
      refine codeAny_handlers_suite_as ?_
      refine HandSPX.lands_againZ fl1 fun h2 fl2 up2 => ?_
      have J2 : Inv X pins σ1 H1 { t0 with heap := h2 } := J.landed ground fl2.1 ((ups.trans up1).trans up2) oseq gens
      obtain ⟨oe2, vs2, he2, hz2, hv2⟩ := fl2.there
      have S2 := J2.suite he2 hv2 na aL aF
      refine store_ok (X := X.suite a ((a, oe2) :: (X.pn ++ pins))) (v := .ref a) S2 hN hi lcn rfl (fun t3 S3 => ?_) (.inr hln)
      have asg : PSs (X.suite a ((a, oe2) :: (X.pn ++ pins))) [.Assign [.Name y py] (.Name n pn2) pa] (tAsg (tVar i) (gName j)) :=
        pss_one (ps_set (X := X.suite a ((a, oe2) :: (X.pn ++ pins))) hN hj lcy (pe_var hi (.inl hln) hd1 hd2) (hsw _) (.inr hly))
      have hil : i < (σ1.set i (some (V.ref a))).length := by
        rw [List.length_set, J2.len]
        exact (List.getElem?_eq_some_iff.mp hi).1
      refine wpAny_mono (asg.run [] t3 _ H1 { nx := fun σ6 H6 => σ6 = (σ1.set i (some (.ref a))).set j (some (.ref a)) ∧ H6 = H1, rt := fun _ _ => False } S3 ⟨.ref a, ?_, rfl, rfl⟩) (fun f t4 hsp => ?_) (fun _ _ z => False.elim z)
      · rw [List.getElem?_set_self (by rw [List.length_set] at hil; exact hil)]
      cases f with
      | next =>
        obtain ⟨σ6, H6, S6, rfl, rfl⟩ := hsp
        have pin6 := (S6.pin (a, oe2) (List.mem_append_left _ List.mem_cons_self)).1
        have J6 := S6.unsuite xok
        have J7 := track_exc (cls := cls) J6 pin6 hz2.1 (by rw [hz2.2]; exact dn) hv2 na a0 aL apin
        exact gone_ok J7 hN hi hln fun t5 J8 => ⟨_, _, J8, hy a na J.len⟩
      | brk => obtain ⟨_, _, _, z⟩ := hsp; exact z.elim
      | cont => obtain ⟨_, _, _, z⟩ := hsp; exact z.elim
      | ret u => obtain ⟨_, _, _, _, _, z⟩ := hsp; exact z.elim
    | false =>
      show wpAny _ X.A (handleBy (.ref a) X.env []) _ _ _
      refine wpAny_handleBy_nil ?_
      obtain ⟨_, _, _, ob, ws, tr, otr, ts, q1, q2, q3, q4, q5⟩ := id fl1
      unfold PySem.passOn
      refine wpAny_bind (wpAny_field q1 q3 q4 ?_)
      rw [if_neg (show ¬ ((Value.ref tr == Value.none) = true) from by simp)]
      have on : wpAny (model X.prog X.w) X.A (setFlight (.ref a) X.env.frame) (fun _ t4 => wpAny (model X.prog X.w) X.A (throw (.ref a) : Sem Flow) (SP X pins Dn) X.xe t4) X.xe { t0 with heap := h1 } := by
        rw [hf]
        refine HandSPX.setFlight_upZ fl1 fun h2 held up2 => wpAny_throw (tk _ _ ?_)
        exact ⟨a, G, sI, pins, σ1, H1, cls, d, rfl, J, ground, (ups.trans up1).trans up2, .inr (.inr (by rw [hs]; exact held)), na, oseq, gens, hno rfl⟩
      first
        | exact wpAny_bind (wpAny_pure (wpAny_bind on))
        | exact wpAny_bind on
  refine wpAny_mono body_ok (fun f t1 hsp => ?_) fun _ _ he => he
  cases f with
  | next => obtain ⟨σ1, H1, J, q⟩ := hsp; exact wpAny_execs_nil ⟨σ1, H1, J.ofTry xok, q⟩
  | brk => obtain ⟨σ1, H1, J, q⟩ := hsp; exact ⟨σ1, H1, J.ofTry xok, q⟩
  | cont => obtain ⟨σ1, H1, J, q⟩ := hsp; exact ⟨σ1, H1, J.ofTry xok, q⟩
  | ret u => obtain ⟨v, σ1, H1, J, r, q⟩ := hsp; exact ⟨v, σ1, H1, J.ofTry xok, r, q⟩
/-- isinstance(e, c) of such a value; c a class of one's own or a built-in one -/
def rIsX (K : PySem.W.Frag) : List V → Hp → VK → Prop := fun xs H Q => ∃ (a E : Addr) (cv : V) (cw : Value) (b : Bool), xs = [.ref a, cv] ∧ H a = some (Exv (.ref E) a) ∧ ExcC K E ∧ (∀ u, RelV cv u → u = cw) ∧ PySem.W.kitOne K (.ref E) cw = some b ∧ Q (.bl b) H
theorem call_isX {X : Cx} : CallR X (.builtin "isinstance") (rIsX X.K) := by
  intro pins s σ H xs us Q I r h
  obtain ⟨a, E, cv, cw, b, rfl, hH, C, hcv, e, q⟩ := h
  cases r with
  | cons rx rr =>
    cases rr with
    | cons rt rr =>
      cases rr
      cases rx
      have ec := hcv _ rt
      subst ec
      obtain ⟨⟨oe, vs, g1, g2, g3, g4⟩, _⟩ := I.hok a _ hH
      have J : PySem.W.InstAt s.heap a oe E none := by
        obtain ⟨oc, od, oda, osl⟩ := oe
        dsimp only at g2 g3 g4
        subst g2 g3 g4
        exact ⟨g1, rfl, rfl, trivial⟩
      exact PySem.W.kia_one (PySem.W.handS_kitx_exc C.hg C.hk C.hs C.hd C.ha C.hn C.ht C.hm) I.kIn J e (fun z => nomatch z) fun tk => ⟨.bl b, H, I.kept (t' := tk) fun _ _ z => z, rfl, q⟩
end
end WB
set_option Elab.async false
set_option linter.all false
set_option maxRecDepth 100000
set_option maxHeartbeats 2000000
/-! Part H: three comparisons in a chain; names of the module; a context's facts. -/
namespace WB
open PySem PySem.Spec L2
/-- a op b op c op d -/
def tChain3 (r r' r'' : R2) (ta tb tc td : TE) : TE := fun σ H Q => ta σ H fun x H1 => tb σ H1 fun y H2 => r x y H2 fun z H3 => ∃ k, z = .bl k ∧
  (if k = true then tc σ H3 fun u H4 => r' y u H4 fun z' H5 => ∃ k', z' = .bl k' ∧ (if k' = true then td σ H5 fun v H6 => r'' u v H6 Q else Q (.bl false) H5) else Q (.bl false) H3)
section
variable {X : Cx} {a b c d : Expr} {ta tb tc td : TE} {pos : Pos} {op op' op'' : CmpOp} {r r' r'' : R2}
theorem pe_chain3 (h1 : OpR X (compareOp op) r) (h2 : OpR X (compareOp op') r') (h3 : OpR X (compareOp op'') r'') (ha : PE X a ta) (hb : PE X b tb) (hc : PE X c tc) (hd : PE X d td)
    (hm : lastMarks [op, op', op''] [b, c, d] = false := by with_unfolding_all rfl) : PE X (.Compare a [op, op', op''] [b, c, d] pos) (tChain3 r r' r'' ta tb tc td) := by
  constructor
  intro pins s σ H Q I h
  refine PyProof.Rows.Compare_chain (thn (ha.run pins s σ H _ I h) fun v s1 ⟨x, H1, I1, r1, q1⟩ => PyProof.Rows.chain_link (thn (hb.run pins s1 σ H1 _ I1 q1) fun u s2 ⟨y, H2, I2, r2, q2⟩ =>
    thn (h1 pins s2 σ H2 x y v u _ I2 r1 r2 q2) fun e s3 ⟨z, H3, I3, r3, k, ez, q3⟩ => ?_)) hm
  subst ez
  cases r3
  refine wpAny_truthy_bool ?_
  cases k with
  | false => exact PyProof.Rows.ite_ff ⟨.bl false, H3, I3, rfl, q3⟩
  | true =>
    refine PyProof.Rows.ite_tt (PyProof.Rows.chain_link (thn (hc.run pins s3 σ H3 _ I3 q3) fun w s4 ⟨y2, H4, I4, r4, q4⟩ => thn (h2 pins s4 σ H4 y y2 u w _ I4 r2 r4 q4) fun e s5 ⟨z2, H5, I5, r5, k2, ez2, q5⟩ => ?_))
    subst ez2
    cases r5
    refine wpAny_truthy_bool ?_
    cases k2 with
    | false => exact PyProof.Rows.ite_ff ⟨.bl false, H5, I5, rfl, q5⟩
    | true => exact PyProof.Rows.ite_tt (PyProof.Rows.chain_last (thn (hd.run pins s5 σ H5 _ I5 q5) fun w2 s6 ⟨y3, H6, I6, r6, q6⟩ => h3 pins s6 σ H6 y2 y3 w w2 Q I6 r4 r6 q6))
theorem pt_chain3 (h1 : OpR X (compareOp op) r) (h2 : OpR X (compareOp op') r') (h3 : OpR X (compareOp op'') r'') (ha : PE X a ta) (hb : PE X b tb) (hc : PE X c tc) (hd : PE X d td)
    (hm : lastMarks [op, op', op''] [b, c, d] = false := by with_unfolding_all rfl) : PT X (.Compare a [op, op', op''] [b, c, d] pos) (tTest (tChain3 r r' r'' ta tb tc td)) := by
  constructor
  intro pins s σ H Q I h
  refine PyProof.Rows.isTrue_chain (thn (ha.run pins s σ H _ I h) fun v s1 ⟨x, H1, I1, r1, q1⟩ => PyProof.Rows.test_link (thn (hb.run pins s1 σ H1 _ I1 q1) fun u s2 ⟨y, H2, I2, r2, q2⟩ =>
    thn (h1 pins s2 σ H2 x y v u _ I2 r1 r2 q2) fun e s3 ⟨z, H3, I3, r3, k, ez, q3⟩ => ?_)) hm
  subst ez
  cases r3
  refine wpAny_truthy_bool ?_
  cases k with
  | false =>
    obtain ⟨k', e', q'⟩ := q3
    cases e'
    exact PyProof.Rows.ite_ff ⟨H3, I3, q'⟩
  | true =>
    refine PyProof.Rows.ite_tt (PyProof.Rows.test_link (thn (hc.run pins s3 σ H3 _ I3 q3) fun w s4 ⟨y2, H4, I4, r4, q4⟩ => thn (h2 pins s4 σ H4 y y2 u w _ I4 r2 r4 q4) fun e s5 ⟨z2, H5, I5, r5, k2, ez2, q5⟩ => ?_))
    subst ez2
    cases r5
    refine wpAny_truthy_bool ?_
    cases k2 with
    | false =>
      obtain ⟨k', e', q'⟩ := q5
      cases e'
      exact PyProof.Rows.ite_ff ⟨H5, I5, q'⟩
    | true =>
      refine PyProof.Rows.ite_tt (PyProof.Rows.test_last (thn (hd.run pins s5 σ H5 _ I5 q5) fun w2 s6 ⟨y3, H6, I6, r6, q6⟩ => thn (h3 pins s6 σ H6 y2 y3 w w2 _ I6 r4 r6 q6) fun e s7 ⟨z3, H7, I7, r7, k3, ez3, q7⟩ => ?_))
      subst ez3
      cases r7
      exact wpAny_truthy_bool ⟨H7, I7, q7⟩
theorem pe_globI {x : Str} {i : Int} (h : ∃ t, X.mg x = some (.int i t)) (hg : Gl X x) (hd : (x == ("__debug__" : Str)) = false := by decide) : PE X (.Name x pos) (tC (.int i)) := by
  obtain ⟨t, h⟩ := h
  exact pe_glob hg h ⟨t, rfl⟩ hd
end
section
variable {K : PySem.W.Frag} {EX : EXT} {ek : Kd → Value} {tw : Bool} {ta tb tc td : TE} {fa fb fc fd : Rho → W D}
theorem dt_chain3 {r r' r'' : R2} {g g' g'' : D → D → (D → Prop) → Prop} (hr : DR K r g) (hr' : DR K r' g') (hr'' : DR K r'' g'') (ha : DT K EX ek tw ta fa) (hb : DT K EX ek tw tb fb) (hc : DT K EX ek tw tc fc) (hd : DT K EX ek tw td fd) :
    DT K EX ek tw (tChain3 r r' r'' ta tb tc td) (fun ρ => wbind (fa ρ) fun x => wbind (fb ρ) fun y => wbind (wop (g x y)) fun z => wbind (wop (asBool z)) fun b => bif b then
      (wbind (fc ρ) fun u => wbind (wop (g' y u)) fun z' => wbind (wop (asBool z')) fun b' => bif b' then (wbind (fd ρ) fun v => wop (g'' u v)) else wret (.bool false)) else wret (.bool false)) := by
  intro P T n H σ ρ Qd Ed Q hT s hf hq he
  refine ha P T n H σ ρ _ Ed _ hT s hf (fun x n1 vx H1 q1 p1 r1 => ?_) he
  refine hb P T n1 H1 σ ρ _ Ed _ hT (s.step p1) q1 (fun y n2 vy H2 q2 p2 r2 => ?_) (fun k n' H' a b => he k n' H' a (p1.trans b))
  have s2 := (s.step p1).step p2
  refine hr P H2 vx vy x y _ _ s2.there (r1.mono (p2.view (s.step p1).tw)) r2 q2 fun z vz H3 q3 e r3 => ?_
  have p3 : Post K P T H n2 H3 := (p1.trans p2).trans (.same s2.tw e)
  cases r3 with
  | bl b =>
    refine ⟨b, rfl, ?_⟩
    cases b with
    | false => exact iteF (hq _ n2 _ H3 q3 p3 (.bl false))
    | true =>
      refine iteT (hc P T n2 H3 σ ρ _ Ed _ hT (s.step p3) q3 (fun u n4 vu H4 q4 p4 r4 => ?_) fun k n' H' a b => he k n' H' a (p3.trans b))
      have s4 := (s.step p3).step p4
      refine hr' P H4 vy vu y u _ _ s4.there ((r2.mono (hide_same e)).mono (p4.view (s.step p3).tw)) r4 q4 fun z' vz' H5 q5 e5 r5 => ?_
      have p5 : Post K P T H n4 H5 := (p3.trans p4).trans (.same s4.tw e5)
      cases r5 with
      | bl b' =>
        refine ⟨b', rfl, ?_⟩
        cases b' with
        | false => exact iteF (hq _ n4 _ H5 q5 p5 (.bl false))
        | true =>
          refine iteT (hd P T n4 H5 σ ρ _ Ed _ hT (s.step p5) q5 (fun v n6 vv H6 q6 p6 r6 => ?_) fun k n' H' a b => he k n' H' a (p5.trans b))
          have s6 := (s.step p5).step p6
          exact hr'' P H6 vu vv u v _ _ s6.there ((r4.mono (hide_same e5)).mono (p6.view (s.step p5).tw)) r6 q6 fun d vd H7 q7 e7 r7 => hq d n6 vd H7 q7 ((p5.trans p6).trans (.same s6.tw e7)) r7
      | _ => exact q5.elim
  | _ => exact q3.elim
end
end WB
set_option Elab.async false
set_option linter.all false
set_option maxRecDepth 100000
set_option maxHeartbeats 2000000
/-! Part I: data in Lean's own kinds; folds of walks. -/
namespace WB
open PySem PySem.Spec L2
def ekOf (ec : Kd → Addr) : Kd → Value := fun j => .ref (ec j)
/-- a row, a list of rows -/
def eR (r : List Int) : D := .list (r.map .int)
def eRs (rs : List (List Int)) : D := .list (rs.map eR)
/-- m does a, and nothing else -/
def Does {α : Type} (m : W α) (a : α) : Prop := ∀ (Q : α → Nat → Prop) (E : Kd → Nat → Prop) (n : Nat), Q a n → m Q E n
/-! ### comprehensions over data -/
theorem lcL_fm {α : Type} {tg : Tgt} {ft : Rho → W Bool} {fe : Rho → W D} {ρ : Rho} {enc : α → D} (p : α → Bool) (g : α → D) : ∀ {xs : List α} {Q : List D → Nat → Prop} {n : Nat},
    (∀ x ∈ xs, ∃ ρ', tg (enc x) ρ = some ρ' ∧ Does (ft ρ') (p x) ∧ (p x = true → Does (fe ρ') (g x))) → Q ((xs.filter p).map g) n → lcL tg ft fe ρ (xs.map enc) Q n
  | [], _, _, _, h => h
  | x :: xs, Q, n, hx, h => by
    obtain ⟨ρ', e, ht, hg⟩ := hx x List.mem_cons_self
    refine ⟨ρ', e, ht _ _ _ ?_⟩
    cases hp : p x with
    | true =>
      refine hg hp _ _ _ ?_
      refine lcL_fm p g (fun y hy => hx y (List.mem_cons_of_mem _ hy)) ?_
      rw [List.filter_cons_of_pos hp] at h
      exact h
    | false =>
      refine lcL_fm p g (fun y hy => hx y (List.mem_cons_of_mem _ hy)) ?_
      rw [List.filter_cons_of_neg (by rw [hp]; exact Bool.false_ne_true)] at h
      exact h
theorem lcL_m {α : Type} {tg : Tgt} {fe : Rho → W D} {ρ : Rho} {enc : α → D} (g : α → D) {xs : List α} {Q : List D → Nat → Prop} {n : Nat}
    (hx : ∀ x ∈ xs, ∃ ρ', tg (enc x) ρ = some ρ' ∧ Does (fe ρ') (g x)) (h : Q (xs.map g) n) : lcL tg (fun _ => wret true) fe ρ (xs.map enc) Q n := by
  refine lcL_fm (fun _ => true) g (fun x hx' => ?_) (by rw [List.filter_eq_self.mpr fun _ _ => rfl]; exact h)
  obtain ⟨ρ', e, hg⟩ := hx x hx'
  exact ⟨ρ', e, fun Q E n h => h, fun _ => hg⟩
/-- over a range -/
theorem rngD_map (lo : Int) (n : Nat) : rngD lo n = (List.range n).map fun i : Nat => PyData.int (lo + (i : Int)) := rfl
/-! ### the town's draws -/
def isRow (m : Int) (L : Nat) (r : List Int) : Prop := r.length = L ∧ ∀ x ∈ r, 0 ≤ x ∧ x < m
theorem lcL_draw {tg : Tgt} {fe : Rho → W D} {ρ : Rho} (m : Int) : ∀ {ds : List D} {Q : List D → Nat → Prop} {n : Nat},
    (∀ d ∈ ds, ∃ ρ', tg d ρ = some ρ' ∧ ∀ (Q : D → Nat → Prop) (n : Nat), n < 900000 → (∀ d, 0 ≤ d → d < m → Q (.int d) (n + 1)) → fe ρ' Q NoE n) → n + ds.length < 900000 →
    (∀ r, isRow m ds.length r → Q (r.map .int) (n + ds.length)) → lcL tg (fun _ => wret true) fe ρ ds Q n
  | [], Q, n, _, _, h => h [] ⟨rfl, fun _ z => nomatch z⟩
  | d :: ds, Q, n, hx, hn, h => by
    obtain ⟨ρ', e, hg⟩ := hx d List.mem_cons_self
    rw [List.length_cons] at hn
    refine ⟨ρ', e, hg _ n (by omega) fun y h0 h1 => ?_⟩
    refine lcL_draw m (fun y hy => hx y (List.mem_cons_of_mem _ hy)) (by omega) fun r hr => ?_
    have := h (y :: r) ⟨by rw [List.length_cons, List.length_cons, hr.1], fun x hx => by
      rcases List.mem_cons.mp hx with rfl | hx
      · exact ⟨h0, h1⟩
      · exact hr.2 x hx⟩
    rw [List.length_cons] at this
    have e2 : n + 1 + ds.length = n + (ds.length + 1) := by omega
    rw [e2]
    exact this
/-! ### equality of data -/
mutual
/-- no bools within -/
def nob : D → Bool
  | .none => true
  | .bool _ => false
  | .int _ => true
  | .str _ => true
  | .list ds => nobs ds
  | .tuple ds => nobs ds
  | .dict _ => false
def nobs : List D → Bool
  | [] => true
  | d :: ds => nob d && nobs ds
end
mutual
theorem eqv_iff : ∀ {d e : D}, nob d = true → nob e = true → (PyData.eqv d e = true ↔ d = e)
  | .none, .none, _, _ => by simp [PyData.eqv]
  | .int i, .int j, _, _ => by simp [PyData.eqv]
  | .str i, .str j, _, _ => by simp [PyData.eqv]
  | .list xs, .list ys, h1, h2 => by
    have := eqvs_iff (xs := xs) (ys := ys) (by simpa [nob] using h1) (by simpa [nob] using h2)
    simp [PyData.eqv, this]
  | .tuple xs, .tuple ys, h1, h2 => by
    have := eqvs_iff (xs := xs) (ys := ys) (by simpa [nob] using h1) (by simpa [nob] using h2)
    simp [PyData.eqv, this]
  | .bool _, _, h1, _ => by simp [nob] at h1
  | .dict _, _, h1, _ => by simp [nob] at h1
  | _, .bool _, _, h2 => by simp [nob] at h2
  | _, .dict _, _, h2 => by simp [nob] at h2
  | .none, .int _, _, _ => by simp [PyData.eqv]
  | .none, .str _, _, _ => by simp [PyData.eqv]
  | .none, .list _, _, _ => by simp [PyData.eqv]
  | .none, .tuple _, _, _ => by simp [PyData.eqv]
  | .int _, .none, _, _ => by simp [PyData.eqv]
  | .int _, .str _, _, _ => by simp [PyData.eqv]
  | .int _, .list _, _, _ => by simp [PyData.eqv]
  | .int _, .tuple _, _, _ => by simp [PyData.eqv]
  | .str _, .none, _, _ => by simp [PyData.eqv]
  | .str _, .int _, _, _ => by simp [PyData.eqv]
  | .str _, .list _, _, _ => by simp [PyData.eqv]
  | .str _, .tuple _, _, _ => by simp [PyData.eqv]
  | .list _, .none, _, _ => by simp [PyData.eqv]
  | .list _, .int _, _, _ => by simp [PyData.eqv]
  | .list _, .str _, _, _ => by simp [PyData.eqv]
  | .list _, .tuple _, _, _ => by simp [PyData.eqv]
  | .tuple _, .none, _, _ => by simp [PyData.eqv]
  | .tuple _, .int _, _, _ => by simp [PyData.eqv]
  | .tuple _, .str _, _, _ => by simp [PyData.eqv]
  | .tuple _, .list _, _, _ => by simp [PyData.eqv]
theorem eqvs_iff : ∀ {xs ys : List D}, nobs xs = true → nobs ys = true → (PyData.eqvAll xs ys = true ↔ xs = ys)
  | [], [], _, _ => by simp [PyData.eqvAll]
  | [], _ :: _, _, _ => by simp [PyData.eqvAll]
  | _ :: _, [], _, _ => by simp [PyData.eqvAll]
  | x :: xs, y :: ys, h1, h2 => by
    have h1 : nob x = true ∧ nobs xs = true := by simpa [nobs] using h1
    have h2 : nob y = true ∧ nobs ys = true := by simpa [nobs] using h2
    have a := eqv_iff h1.1 h2.1
    have b := eqvs_iff h1.2 h2.2
    simp [PyData.eqvAll, a, b]
end
theorem eqv_dec {d e : D} (h1 : nob d = true) (h2 : nob e = true) {p : Prop} [Decidable p] (h : d = e ↔ p) : PyData.eqv d e = decide p := by
  have := eqv_iff h1 h2
  by_cases q : p
  · rw [decide_eq_true q]; exact this.mpr (h.mpr q)
  · rw [decide_eq_false q]
    cases z : PyData.eqv d e with
    | false => rfl
    | true => exact (q (h.mp (this.mp z))).elim
/-- of a depth up to k, no dict, texts as they should be -/
def shp (k : Nat) (d : D) : Prop := d.canLay0 = true ∧ d.depth ≤ k
theorem shp.mono {k l : Nat} {d : D} (h : shp k d) (q : k ≤ l) : shp l d := ⟨h.1, Nat.le_trans h.2 q⟩
theorem shp.ok {k : Nat} {d : D} (h : shp k d) (q : k ≤ 64 := by decide) : SeqAt.shaped d = true := by
  show (d.canLay0 && decide (d.depth ≤ 64)) = true
  rw [h.1, decide_eq_true (Nat.le_trans h.2 q)]
  rfl
theorem shp_int (i : Int) {k : Nat} : shp k (.int i) := ⟨rfl, Nat.zero_le _⟩
theorem shp_non {k : Nat} : shp k .none := ⟨rfl, Nat.zero_le _⟩
theorem shp_bool (b : Bool) {k : Nat} : shp k (.bool b) := ⟨rfl, Nat.zero_le _⟩
theorem shp_all {k : Nat} : ∀ {ds : List D}, (∀ d ∈ ds, shp k d) → PyData.canLayAll0 ds = true ∧ PyData.depthAll ds ≤ k
  | [], _ => ⟨by simp [PyData.canLayAll0], by simp [PyData.depthAll]⟩
  | d :: ds, h => by
    have a := h d List.mem_cons_self
    have b := shp_all (ds := ds) fun e he => h e (List.mem_cons_of_mem _ he)
    refine ⟨by simp [PyData.canLayAll0, a.1, b.1], ?_⟩
    simp only [PyData.depthAll]
    have := a.2
    have := b.2
    omega
theorem shp_list {k : Nat} {ds : List D} (h : ∀ d ∈ ds, shp k d) : shp (k + 1) (.list ds) := by
  have := shp_all h
  exact ⟨by simpa [PyData.canLay0] using this.1, by simp only [PyData.depth]; omega⟩
theorem shp_tup {k : Nat} {ds : List D} (h : ∀ d ∈ ds, shp k d) : shp (k + 1) (.tuple ds) := by
  have := shp_all h
  exact ⟨by simpa [PyData.canLay0] using this.1, by simp only [PyData.depth]; omega⟩
theorem shp_eR (r : List Int) : shp 1 (eR r) := shp_list fun d hd => by
  obtain ⟨i, _, rfl⟩ := List.mem_map.mp hd
  exact shp_int i
theorem shp_eRs (rs : List (List Int)) : shp 2 (eRs rs) := shp_list fun d hd => by
  obtain ⟨i, _, rfl⟩ := List.mem_map.mp hd
  exact shp_eR i
theorem nobs_map {α : Type} {enc : α → D} : ∀ {xs : List α}, (∀ x ∈ xs, nob (enc x) = true) → nobs (xs.map enc) = true
  | [], _ => by simp [nobs]
  | x :: xs, h => by
    rw [List.map_cons]
    simp [nobs, h x List.mem_cons_self, nobs_map fun y hy => h y (List.mem_cons_of_mem _ hy)]
theorem nob_eR (r : List Int) : nob (eR r) = true := by
  have := nobs_map (enc := PyData.int) (xs := r) fun _ _ => by simp [nob]
  simpa [eR, nob] using this
theorem nob_eRs (rs : List (List Int)) : nob (eRs rs) = true := by
  have := nobs_map (enc := eR) (xs := rs) fun _ _ => nob_eR _
  simpa [eRs, nob] using this
theorem map_inj {α : Type} {enc : α → D} (hi : ∀ x y, enc x = enc y → x = y) : ∀ {xs ys : List α}, xs.map enc = ys.map enc → xs = ys
  | [], [], _ => rfl
  | [], _ :: _, h => by cases h
  | _ :: _, [], h => by cases h
  | x :: xs, y :: ys, h => by
    rw [List.map_cons, List.map_cons] at h
    injection h with h1 h2
    rw [hi _ _ h1, map_inj hi h2]
theorem eR_inj {r s : List Int} (h : eR r = eR s) : r = s := by
  unfold eR at h
  injection h with h
  exact map_inj (enc := PyData.int) (fun x y h => by injection h) h
theorem eRs_inj {r s : List (List Int)} (h : eRs r = eRs s) : r = s := by
  unfold eRs at h
  injection h with h
  exact map_inj (enc := eR) (fun x y h => eR_inj h) h
theorem eqv_eR (r s : List Int) : PyData.eqv (eR r) (eR s) = decide (r = s) := eqv_dec (nob_eR r) (nob_eR s) ⟨eR_inj, fun h => h ▸ rfl⟩
theorem eqv_int (i j : Int) : PyData.eqv (.int i) (.int j) = decide (i = j) := by
  simp only [PyData.eqv]
  by_cases h : i = j
  · subst h; simp
  · rw [decide_eq_false h]; simpa using h
/-! ### places -/
theorem atI_map {α β : Type} (f : α → β) (xs : List α) (i : Int) : atI (xs.map f) i = (atI xs i).map f := by
  unfold atI
  rw [List.length_map]
  cases ixN xs.length i with
  | none => rfl
  | some j => simp
theorem atI_getD {xs : List Int} {i : Int} (h0 : 0 ≤ i) (h1 : i < xs.length) : atI xs i = some (xs.getD i.toNat 0) := by
  unfold atI ixN
  rw [if_pos h0, if_pos h1]
  show xs[i.toNat]? = _
  rw [List.getElem?_eq_getElem (by omega), List.getD_eq_getElem?_getD, List.getElem?_eq_getElem (by omega)]
  rfl
end WB
namespace WB
open PySem PySem.Spec L2
theorem cond_app {α : Type} {b : Bool} {m m' : W α} {Q : α → Nat → Prop} {E : Kd → Nat → Prop} {n : Nat} : (bif b then m else m') Q E n = (bif b then m Q E n else m' Q E n) := by cases b <;> rfl
theorem cond_prop {b : Bool} {p q : Prop} : (bif b then p else q) ↔ ((b = true → p) ∧ (b = false → q)) := by cases b <;> simp
theorem len_ints (r : List Int) : (List.map PyData.int r).length = r.length := List.length_map ..
theorem Does.cond {α : Type} {b : Bool} {m m' : W α} {a a' : α} (h1 : b = true → Does m a) (h2 : b = false → Does m' a') : Does (bif b then m else m') (bif b then a else a') := by
  cases b with
  | true => exact h1 rfl
  | false => exact h2 rfl
end WB
namespace WB
open PySem PySem.Spec L2
/-! ### loops by an invariant -/
theorem forL_core {α : Type} {tg : Tgt} {fb : Rho → Sk → Nat → Prop} {enc : α → D} {k : Sk} (I : Nat → Rho → Nat → Prop) : ∀ (xs ys : List α) (i : Nat), i + ys.length = xs.length → (∀ j, ys[j]? = xs[i + j]?) →
    (∀ i x ρ n (N : Rho → Nat → Prop), xs[i]? = some x → I i ρ n → (∀ ρ' n', I (i + 1) ρ' n' → N ρ' n') → ∃ ρ1, tg (enc x) ρ = some ρ1 ∧ fb ρ1 { k with nx := N, ct := N, bk := k.nx } n) →
    (∀ ρ n, I xs.length ρ n → k.nx ρ n) → ∀ ρ n, I i ρ n → forL tg fb (ys.map enc) ρ k n
  | xs, [], i, hl, _, _, he, ρ, n, h => by
    have : i = xs.length := by simpa using hl
    subst this
    exact he ρ n h
  | xs, y :: ys, i, hl, hg, hs, he, ρ, n, h => by
    have h0 := hg 0
    simp at h0
    obtain ⟨ρ1, e, q⟩ := hs i y ρ n (fun ρ' n' => forL tg fb (ys.map enc) ρ' k n') h0.symm h fun ρ' n' h' =>
      forL_core I xs ys (i + 1) (by rw [List.length_cons] at hl; omega) (fun j => by
        have := hg (j + 1)
        simp at this
        rw [this, show i + (j + 1) = i + 1 + j from by omega]) hs he ρ' n' h'
    exact ⟨ρ1, e, q⟩
theorem forL_inv {α : Type} {tg : Tgt} {fb : Rho → Sk → Nat → Prop} {enc : α → D} {k : Sk} (I : Nat → Rho → Nat → Prop) {xs : List α} {ρ : Rho} {n : Nat} (h0 : I 0 ρ n)
    (hs : ∀ i x ρ n (N : Rho → Nat → Prop), xs[i]? = some x → I i ρ n → (∀ ρ' n', I (i + 1) ρ' n' → N ρ' n') → ∃ ρ1, tg (enc x) ρ = some ρ1 ∧ fb ρ1 { k with nx := N, ct := N, bk := k.nx } n)
    (he : ∀ ρ n, I xs.length ρ n → k.nx ρ n) : forL tg fb (xs.map enc) ρ k n :=
  forL_core I xs xs 0 (by simp) (fun j => by simp) hs he ρ n h0
/-- over range(lo, hi) -/
theorem forL_rng {tg : Tgt} {fb : Rho → Sk → Nat → Prop} {lo : Int} {m : Nat} {k : Sk} (I : Nat → Rho → Nat → Prop) {ρ : Rho} {n : Nat} (h0 : I 0 ρ n)
    (hs : ∀ (i : Nat) ρ n (N : Rho → Nat → Prop), i < m → I i ρ n → (∀ ρ' n', I (i + 1) ρ' n' → N ρ' n') → ∃ ρ1, tg (.int (lo + (i : Int))) ρ = some ρ1 ∧ fb ρ1 { k with nx := N, ct := N, bk := k.nx } n)
    (he : ∀ ρ n, I m ρ n → k.nx ρ n) : forL tg fb (rngD lo m) ρ k n := by
  rw [rngD_map]
  refine forL_inv (xs := List.range m) (enc := fun i : Nat => PyData.int (lo + (i : Int))) I h0 (fun i x ρ n N hx => ?_) (by rw [List.length_range]; exact he)
  obtain ⟨hlt, e⟩ := List.getElem?_eq_some_iff.mp hx
  rw [List.getElem_range] at e
  rw [List.length_range] at hlt
  subst e
  exact hs i ρ n N hlt
theorem whF_inv {gc : Rho → W Bool} {ft : Rho → Sk → Nat → Prop} {k : Sk} (I : Nat → Rho → Nat → Prop)
    (hs : ∀ m ρ n (N : Rho → Nat → Prop), I m ρ n → (∀ m' ρ' n', m' < m → I m' ρ' n' → N ρ' n') → gc (opn ρ) (fun c n' => cond c (ft ρ { k with nx := N, ct := N, bk := k.nx } n') (k.nx ρ n')) k.er n) {m : Nat} {ρ : Rho} {n : Nat} (h : I m ρ n) :
    ∃ M, whF gc ft M ρ k n := by
  have core : ∀ M m ρ n, m < M → I m ρ n → whF gc ft M ρ k n := by
    intro M
    induction M with
    | zero => intro m ρ n h; omega
    | succ M ih => exact fun m ρ n hm hi => hs m ρ n _ hi fun m' ρ' n' hlt hi' => ih m' ρ' n' (by omega) hi'
  exact ⟨m + 1, core _ m ρ n (Nat.lt_succ_self _) h⟩
end WB
namespace WB
open PySem PySem.Spec L2
/-- a while by an invariant and what holds behind it -/
theorem whF_post {gc : Rho → W Bool} {ft : Rho → Sk → Nat → Prop} {k : Sk} (I : Nat → Rho → Nat → Prop) (post : Rho → Nat → Prop) {m : Nat} {ρ : Rho} {n : Nat} (h : I m ρ n)
    (hs : ∀ m ρ n (N X : Rho → Nat → Prop), I m ρ n → (∀ m' ρ' n', m' < m → I m' ρ' n' → N ρ' n') → (∀ ρ' n', post ρ' n' → X ρ' n') → gc (opn ρ) (fun c n' => cond c (ft ρ { k with nx := N, ct := N, bk := X } n') (X ρ n')) k.er n)
    (he : ∀ ρ n, post ρ n → k.nx ρ n) : ∃ M, whF gc ft M ρ k n :=
  whF_inv I (fun m ρ n N hi hN => hs m ρ n N k.nx hi hN he) h
end WB
set_option Elab.async false
set_option linter.all false
set_option maxRecDepth 100000
set_option maxHeartbeats 2000000
/-! Part K: a def that tells a refusal as data: try, keep, ask which. -/
namespace WB
open PySem PySem.Spec L2
/-- the kinds' words -/
def kdWord : Kd → String
  | .row => "row" | .stretch => "stretch" | .size => "size" | .told => "told" | .norow => "no row" | .number => "number" | .text => "text"
def eRef (j : Kd) : D := .tuple [.str "refused", .str (Str.ofString (kdWord j))]
/-- the refusal's teller: handed a caught refusal of kind j it tells eRef j -/
def spRef (K : PySem.W.Frag) (ec : Kd → Addr) : Sp := fun vs H Q _ => ∃ (a : Addr) (j : Kd), vs = [.ref a] ∧ H a = some (Exv (.ref (ec j)) a) ∧ ∀ v H', Same H H' → (∀ (P : Addr → Prop), (∀ b, P b → H b ≠ none) → Rp K (hide P H') v (eRef j)) → Q v H'
section
variable {K : PySem.W.Frag} {EX : EXT} {ec : Kd → Addr} {E : XK} {tb : WX → TS} {fb : Rho → Sk → Nat → Prop} {te : TE} {fe : Rho → W D} {i c f l : Nat} {CB : Value} {Wout : WX}
/-- c: the caught one's slot; f: the found one's; i: the clause's name's -/
def tTold (K : PySem.W.Frag) (ec : Kd → Addr) (CB : Value) (i c f l : Nat) (tb : WX → TS) (te : TE) (Wout : WX) (EX : EXT) : TS :=
  tSeq (tAsg (tC .non) (gName c)) (tSeq (tAsg (tC .non) (gName f)) (tSeq (tTry K CB i c l Wout tb)
    (tRet (tIf (tTest (tOp rIsNo (tVar c) (tC .non))) te (tCallS (spRef K ec) EX (tCons (tVar c) tNil))))))
theorem dst_told (hci : c ≠ i) (hcl : c < l) (hex : ∀ j, PySem.W.exmOne K (ekOf ec j) CB = some true) (hb : ∀ W : WX, DSt K (WE W) (ekOf ec) false (tb W) fb) (he : DT K EX (ekOf ec) false te fe) :
    DSt K EX (ekOf ec) false (tTold K ec CB i c f l tb te Wout EX) (fun ρ k n => ρ.length = l ∧
      fb ((ρ.set c (.v .none)).set f (.v .none)) { nx := fun ρ' n' => getV ρ' c (fun d _ => d = .none) (fun _ _ => False) n' ∧ fe (opn ρ') k.rt k.er n', rt := fun _ _ => False, er := fun j n' => k.rt (eRef j) n' } n) := by
  intro B P0 T n H σ ρ k Ds hT s hf L
  obtain ⟨ps, s⟩ := s
  obtain ⟨hl, hf⟩ := hf
  have T0 : T = none := by
    cases T with
    | none => rfl
    | some p => cases hT
  subst T0
  have two : ∀ i : Nat, ((none : Twn).isSome = true → 2 ≤ i) := fun _ h => nomatch h
  have s1 := (s.set (i := c) (x := .non) (two _) .non).set (i := f) (x := .non) (two _) .non
  show tb (wKeep K CB i c l Wout _) _ _ H
  refine hb _ B P0 none n H _ _ _ _ rfl ⟨ps, s1⟩ hf ⟨fun ρ' n' σ' H' q s' => ?_, fun _ _ _ _ q => q.elim, fun _ _ _ _ q => q.elim, fun _ _ _ _ q => q.elim, fun j n' σ' H' q fo => ?_⟩
  · obtain ⟨ps', s'⟩ := s'
    obtain ⟨q1, q2⟩ := q
    unfold getV at q1
    split at q1
    · rename_i d hd
      subst q1
      obtain ⟨v, h1, h2⟩ := s'.st.val c _ hd
      cases h2
      refine ⟨_, h1, rfl, true, rfl, iteT ?_⟩
      exact he _ none n' H' σ' _ _ _ _ rfl s'.opn_st q2 (fun d n2 v H2 q p r => L.rt d n2 v H2 q (.of_post s' p) r) fun e n2 H2 q p => L.er e n2 _ H2 q (.of_post s' p)
    · exact q1.elim
  · refine ⟨true, hex j, fun _ => ⟨rfl, fun a na hlen => ?_⟩, fun z => nomatch z⟩
    have e1 : (((σ'.set i (some (V.ref a))).set c (some (.ref a))).set i none)[c]? = some (some (.ref a)) := by
      rw [List.getElem?_set_ne (Ne.symm hci), List.getElem?_set_self (by rw [List.length_set, hlen]; exact hcl)]
    refine (show tRet (tIf (tTest (tOp rIsNo (tVar c) (tC .non))) te (tCallS (spRef K ec) EX (tCons (tVar c) tNil))) Ds _ _ from ?_)
    refine ⟨_, e1, rfl, false, rfl, iteF ?_⟩
    refine ⟨_, e1, a, j, rfl, upd_same, fun v H2 sm r => ?_⟩
    have sm' : Same H' H2 := fun b o e => sm b o (same_new na b o e)
    have th : ∀ b, Po P0 none b → H2 b ≠ none := fun b hb => by
      cases z : H' b with
      | none => exact (fo.there b hb z).elim
      | some o => rw [sm' b o z]; exact fun z => nomatch z
    refine L.rt _ n' v H2 q ⟨fun b o e hn => sm' b o (fo.base b o e hn), ⟨fun p hp => nomatch hp⟩, th⟩ (r _ fun b hb => ?_)
    cases z : H' b with
    | none => exact (fo.there b hb z).elim
    | some o => rw [same_new na b o z]; exact fun z => nomatch z
end
end WB
set_option Elab.async false
set_option linter.all false
set_option maxRecDepth 100000
set_option maxHeartbeats 2000000
/-! Part L: count of flat things; asking which refusal; the law's start and end. -/
namespace WB
open PySem PySem.Spec L2
/-! ### xs.count(y), flat -/
def rCntF (K : PySem.W.Frag) : V → List V → Hp → VK → Prop := fun x xs H Q => ∃ (p : Addr) (ys : List V) (y : V), x = .ref p ∧ xs = [y] ∧ SqL K H p ys ∧ flatV y = true ∧ ys.all flatV = true ∧ Q (.int ((ys.countP fun z => eqV z y : Nat) : Int)) H
theorem countP_eqU {x : V} : ∀ {xs : List V} {us : List Value}, Vals xs us → xs.all flatV = true → us.countP (eqU x) = xs.countP fun y => eqV y x
  | _, _, .nil, _ => rfl
  | y :: xs, u :: us, .cons r t, f => by
    rw [List.all_cons, Bool.and_eq_true] at f
    rw [List.countP_cons, List.countP_cons, countP_eqU t f.2, eqU_of r f.1]
theorem mt_countF {X : Cx} : MtR X "list.count" (rCntF X.K) := by
  intro pins s σ H x xs v us Q I rx rxs h
  obtain ⟨p, ys, y, rfl, rfl, hs, fy, fa, q⟩ := h
  cases rx
  obtain ⟨u, rfl, ru⟩ := rxs.one
  obtain ⟨its, rv, ⟨⟨cls, dd, data, sl⟩, n, ho, hc, hdn, hd⟩, hlen⟩ := I.list hs
  simp only at hc hd
  subst hc hd
  refine call_meets PySem.F.slot_list_count ⟨_, ho, rfl⟩ PySem.F.entry_list_count (PySem.F.args_list_count_2 _ _)
    (SeqAt.list_countAt p its.toArray n dd sl u (eqU y)) ⟨ho, fun z hz => mem_eqAt ru fy rv fa z (by simpa using hz), ?_⟩
  have ec : its.toArray.toList.countP (eqU y) = ys.countP fun z => eqV z y := by
    rw [List.toList_toArray]; exact countP_eqU rv fa
  refine ⟨.int ((ys.countP fun z => eqV z y : Nat) : Int), H, I.tok _, ⟨s.toks, ?_⟩, q⟩
  show Value.int ((its.toArray.toList.countP (eqU y) : Nat) : Int) s.toks = _
  rw [ec]
/-! ### which refusal -/
structure ExcT (K : PySem.W.Frag) (ec : Kd → Addr) (CB : Addr) : Prop where
  cls : ∀ j, ExcC K (ec j)
  kit : ∀ i j, PySem.W.kitOne K (.ref (ec i)) (.ref (ec j)) = some (decide (i = j))
  kitV : ∀ i, PySem.W.kitOne K (.ref (ec i)) (.type "ValueError") = some true
  exm : ∀ j, PySem.W.exmOne K (.ref (ec j)) (.ref CB) = some true
section
variable {X : Cx} {K : PySem.W.Frag} {ec : Kd → Addr} {CB : Addr}
/-- isinstance(caught, X), the caught one in slot 0 -/
def tIsi (K : PySem.W.Frag) (v : V) : TE := tCB (rIsX K) (tCons (tVar 0) (tCons (tC v) tNil))
theorem isi_ok {σ : L2.St} {H : Hp} {Q : VK} {a : Addr} {i j : Kd} (T : ExcT K ec CB) (h0 : σ[0]? = some (some (.ref a))) (hH : H a = some (Exv (.ref (ec i)) a)) (h : Q (.bl (decide (i = j))) H) : tIsi K (.ref (ec j)) σ H Q :=
  ⟨_, h0, a, ec i, .ref (ec j), _, _, rfl, hH, T.cls i, fun u r => r, T.kit i j, h⟩
theorem isi_okV {σ : L2.St} {H : Hp} {Q : VK} {a : Addr} {i : Kd} (T : ExcT K ec CB) (h0 : σ[0]? = some (some (.ref a))) (hH : H a = some (Exv (.ref (ec i)) a)) (h : Q (.bl true) H) : tIsi K (.ty "ValueError") σ H Q :=
  ⟨_, h0, a, ec i, .ty "ValueError", _, _, rfl, hH, T.cls i, fun u r => r, T.kitV i, h⟩
end
/-! ### the law's own start: a town of its own -/
/-- the promise of a law: a list of at most 63 ints is handed in, True comes out -/
def spLaw (K : PySem.W.Frag) : Sp := fun vs H Q _ => ∃ (a : Addr) (ns : List Int), vs = [.ref a] ∧ SqL K H a (ns.map V.int) ∧ ns.length ≤ 63 ∧ ∀ H', Q (.bl true) H'
theorem SqL.not_new {K : PySem.W.Frag} {H : Hp} {a p : Addr} {xs : List V} {o : HO} (h : SqL K H a xs) (hp : H p = none) : SqL K (hide (fun b => b = p) (upd H p o)) a xs := by
  refine Same.seq (fun b u e => ?_) h
  have ne : b ≠ p := ne_of_none e hp
  exact hide_some.mpr ⟨ne, by rw [upd_ne ne]; exact e⟩
section
variable {P : Program} {w : World} {K : PySem.W.Frag} {mg : Str → Option Value} {base : Heap} {ek : Kd → Value}
/-- a law: its first statement makes the town (slot 1), the rest runs with the script and the town -/
theorem law_ok {x : Str} {st s0 : Stmt} {rest : List Stmt} {N : List Str} {k r : Nat} {f : Addr} {fd : FuncData} (Fn : Fun K x x st f fd) (S : FnScope N ["_law_script"] (defScope st)) (hr : N.length = r + 2) (hb : defBody st = s0 :: rest)
    (body : ∀ (cdv : Value) (A : Around) (outer : List Env) (s : Shared) (H : Hp) (E : XK), Room k (A.deeper (PyProof.Rows.envOfC x (defScope st) s.heap.objs.size f cdv)) →
      PS (cxOf (L2.CX P w) P w K mg base N x (defScope st) f cdv A outer s H E) s0 (tAsg (tLst tNil) (gName 1)) ∧
      ∃ t fs, PSs (cxOf (L2.CX P w) P w K mg base N x (defScope st) f cdv A outer s H E) rest t ∧ DSt K (fun _ => E) ek true t fs ∧
        fs (ini true [] r) { nx := fun _ _ => False, rt := fun d _ => d = .bool true, er := fun _ _ => False } 0) :
    FnOk P w K mg base (L2.CX P w) (k + 1) f fd ["_law_script"] (spLaw K) := by
  refine Fn.okX S (fun vs H Q E h => by obtain ⟨a, ns, rfl, _⟩ := h; rfl) (fun cdv A outer s H vs Q E hroom h => ?_)
  obtain ⟨h0, t, fs, h1, h2, h3⟩ := body cdv A outer s H E hroom
  rw [hb]
  refine ⟨_, pss_cons h0 h1, ?_⟩
  obtain ⟨a, ns, rfl, hS, hlen, hQ⟩ := h
  refine ⟨Nat.zero_le _, fun p hp => ?_⟩
  have hst : (L2.start N [V.ref a]).set 1 (some (.ref p)) = some (.ref a) :: some (.ref p) :: List.replicate r none := by
    unfold L2.start
    rw [hr]
    show some (V.ref a) :: ((List.replicate (r + 2 - 1) none).set 0 (some (V.ref p))) = _
    rw [show r + 2 - 1 = r + 1 from by omega, List.replicate_succ]
    rfl
  refine (show t _ ((L2.start N [V.ref a]).set 1 (some (.ref p))) (upd H p (.lst [])) from ?_)
  rw [hst]
  have ep : ∀ b, Pp (fun b => b = p) (some (a, p)) (ini true [] r) (fun _ => 0) b → b = p := fun b h => by
    rcases h with h | ⟨i, xs, e, _⟩ | ⟨q, hq, e⟩
    · exact h
    · exact (ini_own e).elim
    · cases hq; exact e
  have vw : Same (hide (fun b => b = p) (upd H p (.lst []))) (hide (Pp (fun b => b = p) (some (a, p)) (ini true [] r) (fun _ => 0)) (upd H p (.lst []))) := hide_mono fun b o hn e => ⟨fun z => hn (ep b z), e⟩
  have s0 : SRx K H (fun b => b = p) (some (a, p)) 0 (upd H p (.lst [])) (some (.ref a) :: some (.ref p) :: List.replicate r none) (ini true [] r) (fun _ => 0) := by
    refine ⟨fun b o e => ⟨fun z => ?_, by rw [upd_ne (ne_of_none e hp)]; exact e⟩, fun i xs e => (ini_own e).elim, fun i j xs ys e => (ini_own e).elim, fun _ i xs e => (ini_own e).elim, fun b h => ?_, ⟨fun q hq => ?_⟩, fun q hq => ?_, ?_, fun i d h => ?_⟩
    · rcases z with ⟨i, xs, e', _⟩ | ⟨q, hq, z⟩
      · exact ini_own e'
      · cases hq; rw [z, hp] at e; cases e
    · rw [ep b h, upd_same]; exact fun z => nomatch z
    · cases hq
      exact ⟨.inl rfl, upd_same, ns, vw.seq (SqL.not_new hS hp), hlen⟩
    · cases hq; exact ⟨rfl, rfl⟩
    · unfold ini; simp
    · obtain ⟨j, _, hj⟩ := ini_v h
      cases hj
  exact h2 H _ (some (a, p)) 0 _ _ _ _ _ rfl ⟨_, s0⟩ h3 ⟨fun _ _ _ _ q => q.elim, fun _ _ _ _ q => q.elim, fun _ _ _ _ q => q.elim, fun d n v H' q fo rr => by
    subst q
    cases rr
    exact hQ H', fun _ _ _ _ q => q.elim⟩
end
end WB
set_option Elab.async false
set_option linter.all false
set_option maxRecDepth 100000
set_option maxHeartbeats 2000000
/-! Part M: plain lists: greatest, least, stretches; outcomes. -/
namespace WB
open PySem PySem.Spec L2
/-- an outcome: a value or a refusal -/
def out (o : Except Kd D) : W D := fun Q E n => match o with
  | .ok d => Q d n
  | .error k => E k n
theorem out_ok {d : D} {Q : D → Nat → Prop} {E : Kd → Nat → Prop} {n : Nat} : out (.ok d) Q E n = Q d n := rfl
theorem out_err {k : Kd} {Q : D → Nat → Prop} {E : Kd → Nat → Prop} {n : Nat} : out (.error k) Q E n = E k n := rfl
def toD : Except Kd D → D
  | .ok d => d
  | .error k => eRef k
/-- the greatest, the least of a list -/
def mxL : List Int → Int
  | [] => 0
  | [x] => x
  | x :: y :: r => max x (mxL (y :: r))
def mnL : List Int → Int
  | [] => 0
  | [x] => x
  | x :: y :: r => min x (mnL (y :: r))
theorem mxL_mem : ∀ {l : List Int}, l ≠ [] → mxL l ∈ l ∧ ∀ y ∈ l, y ≤ mxL l
  | [], h => (h rfl).elim
  | [x], _ => ⟨List.mem_singleton.mpr rfl, fun y hy => by rw [List.mem_singleton.mp hy]; exact Int.le_refl _⟩
  | x :: y :: r, _ => by
    obtain ⟨h1, h2⟩ := mxL_mem (l := y :: r) (by simp)
    refine ⟨?_, fun z hz => ?_⟩
    · show max x (mxL (y :: r)) ∈ _
      by_cases q : x ≤ mxL (y :: r)
      · rw [Int.max_eq_right q]; exact List.mem_cons_of_mem _ h1
      · rw [Int.max_eq_left (by omega)]; exact List.mem_cons_self
    · show z ≤ max x (mxL (y :: r))
      rcases List.mem_cons.mp hz with rfl | hz
      · omega
      · have := h2 z hz; omega
theorem mnL_mem : ∀ {l : List Int}, l ≠ [] → mnL l ∈ l ∧ ∀ y ∈ l, mnL l ≤ y
  | [], h => (h rfl).elim
  | [x], _ => ⟨List.mem_singleton.mpr rfl, fun y hy => by rw [List.mem_singleton.mp hy]; exact Int.le_refl _⟩
  | x :: y :: r, _ => by
    obtain ⟨h1, h2⟩ := mnL_mem (l := y :: r) (by simp)
    refine ⟨?_, fun z hz => ?_⟩
    · show min x (mnL (y :: r)) ∈ _
      by_cases q : x ≤ mnL (y :: r)
      · rw [Int.min_eq_left q]; exact List.mem_cons_self
      · rw [Int.min_eq_right (by omega)]; exact List.mem_cons_of_mem _ h1
    · show min x (mnL (y :: r)) ≤ z
      rcases List.mem_cons.mp hz with rfl | hz
      · omega
      · have := h2 z hz; omega
theorem mxL_of {l : List Int} {m : Int} (h1 : m ∈ l) (h2 : ∀ y ∈ l, y ≤ m) : m = mxL l := by
  obtain ⟨a, b⟩ := mxL_mem (l := l) (fun e => by rw [e] at h1; cases h1)
  have := b m h1; have := h2 _ a; omega
theorem mnL_of {l : List Int} {m : Int} (h1 : m ∈ l) (h2 : ∀ y ∈ l, m ≤ y) : m = mnL l := by
  obtain ⟨a, b⟩ := mnL_mem (l := l) (fun e => by rw [e] at h1; cases h1)
  have := b m h1; have := h2 _ a; omega
theorem maxD_ints {ns : List Int} {q : D → Prop} (h : ns ≠ []) (hq : q (.int (mxL ns))) : maxD [.list (ns.map .int)] q := .inl ⟨ns, rfl, h, fun m h1 h2 => mxL_of h1 h2 ▸ hq⟩
theorem minD_ints {ns : List Int} {q : D → Prop} (h : ns ≠ []) (hq : q (.int (mnL ns))) : minD [.list (ns.map .int)] q := .inl ⟨ns, rfl, h, fun m h1 h2 => mnL_of h1 h2 ▸ hq⟩
theorem cutG_map {α β : Type} (f : α → β) (xs : List α) (lo hi : Option Int) : cutG (xs.map f) lo hi = (cutG xs lo hi).map f := by
  unfold cutG
  rw [List.length_map, List.map_take, List.map_drop]
/-- the stretch from f to l -/
def sl (row : List Int) (f l : Int) : List Int := cutG row (some f) (some (l + 1))
theorem sIx_pos (n d : Nat) {i : Int} (h0 : 0 ≤ i) (h1 : i ≤ n) : HT.sIx n d (some i) = i.toNat := by
  obtain ⟨k, rfl⟩ := Int.eq_ofNat_of_zero_le h0
  rw [HT.sIx_nat]
  omega
theorem cut_nat {α : Type} (xs : List α) {f l : Int} (h0 : 0 ≤ f) (h1 : f ≤ l) (h2 : l ≤ xs.length) : cutG xs (some f) (some l) = (xs.drop f.toNat).take (l - f).toNat := by
  unfold cutG
  rw [sIx_pos _ _ h0 (by omega), sIx_pos _ _ (by omega) h2]
  congr 1
  omega
theorem sl_eq {row : List Int} {f l : Int} (h0 : 0 ≤ f) (h1 : f ≤ l) (h2 : l < row.length) : sl row f l = (row.drop f.toNat).take (l + 1 - f).toNat := cut_nat row h0 (by omega) (by omega)
theorem sl_ne {row : List Int} {f l : Int} (h0 : 0 ≤ f) (h1 : f ≤ l) (h2 : l < row.length) : sl row f l ≠ [] := by
  rw [sl_eq h0 h1 h2]
  refine List.ne_nil_of_length_pos ?_
  rw [List.length_take, List.length_drop]
  omega
end WB
namespace WB
open PySem PySem.Spec L2
theorem atI_neg1 {α : Type} (xs : List α) : atI xs (-1) = xs.getLast? := by
  unfold atI ixN
  rw [if_neg (by decide)]
  by_cases h : xs = []
  · subst h; rfl
  · have hl := List.length_pos_iff.mpr h
    rw [if_pos (by omega), List.getLast?_eq_getElem?]
    show xs[(-1 + (xs.length : Int)).toNat]? = _
    congr 1
    omega
theorem atI_0 {α : Type} (xs : List α) : atI xs 0 = xs.head? := by
  cases xs with
  | nil => rfl
  | cons x r => exact atI_nat (j := 0) rfl
theorem sorted_last {ns ns' : List Int} (hp : ns'.Perm ns) (hs : ns'.Pairwise (· ≤ ·)) (hne : ns ≠ []) : atI (ns'.map PyData.int) (-1) = some (.int (mxL ns)) := by
  have hne' : ns' ≠ [] := fun e => hne (by rw [e] at hp; exact hp.symm.eq_nil)
  rw [atI_map, atI_neg1, List.getLast?_eq_some_getLast hne']
  have h1 : ns'.getLast hne' ∈ ns := hp.mem_iff.mp (List.getLast_mem hne')
  have h2 : ∀ y ∈ ns, y ≤ ns'.getLast hne' := fun y hy => by
    have hy' := hp.mem_iff.mpr hy
    have e : ns'.dropLast ++ [ns'.getLast hne'] = ns' := List.dropLast_concat_getLast hne'
    rw [← e] at hs hy'
    rw [List.pairwise_append] at hs
    rcases List.mem_append.mp hy' with h | h
    · exact hs.2.2 y h _ (List.mem_singleton.mpr rfl)
    · rw [List.mem_singleton.mp h]; exact Int.le_refl _
  rw [← mxL_of h1 h2]; rfl
theorem sorted_first {ns ns' : List Int} (hp : ns'.Perm ns) (hs : ns'.Pairwise (· ≤ ·)) (hne : ns ≠ []) : atI (ns'.map PyData.int) 0 = some (.int (mnL ns)) := by
  cases ns' with
  | nil => exact (hne hp.symm.eq_nil).elim
  | cons x r =>
    rw [List.pairwise_cons] at hs
    have h1 : x ∈ ns := hp.mem_iff.mp List.mem_cons_self
    have h2 : ∀ y ∈ ns, x ≤ y := fun y hy => by
      rcases List.mem_cons.mp (hp.mem_iff.mpr hy) with rfl | h
      · exact Int.le_refl _
      · exact hs.1 y h
    rw [← mnL_of h1 h2, atI_0]; rfl
theorem eqv_nil {α : Type} (f : α → D) (xs : List α) : PyData.eqv (.list (xs.map f)) (.list []) = xs.isEmpty := by
  cases xs with
  | nil => simp [PyData.eqv, PyData.eqvAll]
  | cons x r => simp [PyData.eqv, PyData.eqvAll]
theorem shp_ints (r : List Int) : shp 1 (.list (r.map .int)) := shp_eR r
theorem shp_nil {k : Nat} : shp (k + 1) (.list []) := shp_list fun _ h => nomatch h
end WB
namespace WB
open PySem PySem.Spec L2
theorem out_toD {o : Except Kd D} {Q : D → Nat → Prop} {n m : Nat} (h : Q (toD o) n) : out o (fun d _ => True ∧ Q d n) (fun k _ => Q (eRef k) n) m := by
  cases o with
  | ok d => exact ⟨trivial, h⟩
  | error k => exact h
end WB
namespace WB
open PySem PySem.Spec L2
theorem shp_str {x : Str} {k : Nat} (h : PyData.strOk x = true) : shp k (.str x) := ⟨by simpa [PyData.canLay0] using h, Nat.zero_le _⟩
theorem shp_pair {k : Nat} {a b : D} (ha : shp k a) (hb : shp k b) : shp (k + 1) (.tuple [a, b]) := shp_tup fun d hd => by
  rcases List.mem_cons.mp hd with rfl | hd
  · exact ha
  · rw [List.mem_singleton.mp hd]; exact hb
theorem shp_eRef (j : Kd) : shp 1 (eRef j) := shp_pair (shp_str (by decide +kernel)) (shp_str (by cases j <;> decide +kernel))
theorem nob_eRef (j : Kd) : nob (eRef j) = true := by simp [eRef, nob, nobs]
theorem eqv_refl' {k : Nat} {d : D} (h : shp k d) : PyData.eqv d d = true := SeqAt.eqv_refl d h.1
theorem eqD_refl {k : Nat} {d : D} {q : D → Prop} (h : shp k d) (hq : q (.bool true)) (hk : k ≤ 64 := by decide) : eqD d d q := ⟨h.ok hk, h.ok hk, by rw [eqv_refl' h]; exact hq⟩
theorem neD_refl {k : Nat} {d : D} {q : D → Prop} (h : shp k d) (hq : q (.bool false)) (hk : k ≤ 64 := by decide) : neD d d q := ⟨h.ok hk, h.ok hk, by rw [eqv_refl' h]; exact hq⟩
end WB
namespace WB
open PySem PySem.Spec L2
theorem cut_to {α : Type} (xs : List α) (k : Nat) : cutG xs none (some (k : Int)) = xs.take k := by
  unfold cutG
  rw [HT.sIx_none, List.drop_zero, Nat.sub_zero, HT.sIx_nat]
  by_cases h : k ≤ xs.length
  · rw [Nat.min_eq_left h]
  · rw [Nat.min_eq_right (by omega), List.take_of_length_le (Nat.le_refl _), List.take_of_length_le (by omega)]
theorem cut_from {α : Type} (xs : List α) (k : Nat) : cutG xs (some (k : Int)) none = xs.drop k := by
  unfold cutG
  rw [HT.sIx_none, HT.sIx_nat]
  by_cases h : k ≤ xs.length
  · rw [Nat.min_eq_left h, List.take_of_length_le (by rw [List.length_drop]; omega)]
  · rw [Nat.min_eq_right (by omega), Nat.sub_self, List.take_zero, List.drop_of_length_le (by omega)]
theorem shp_eqs {k : Nat} {d : D} {n : Nat} (h : shp k d) : shp (k + 1) (.list (List.replicate n d)) := shp_list fun e he => by rw [List.eq_of_mem_replicate he]; exact h
end WB
namespace WB
open PySem PySem.Spec L2
theorem words_rp {K : PySem.W.Frag} {wa : Addr} {wd : Option Addr} {wt1 wt2 : Tok} {wn : Nat} {wsl : Array (Option Value)} (h : K.lookup wa = some ⟨.type "tuple", wd, .seq #[.str "greatest" wt1, .str "least" wt2] wn, wsl⟩) (H : Hp) :
    Rp K H (.ref wa) (.tuple [.str "greatest", .str "least"]) :=
  .tup (xs := [.str "greatest", .str "least"]) (.inr ⟨_, _, _, h, rfl, rfl, (by show 2 ≤ sizeLine; decide), .cons ⟨_, rfl⟩ (.cons ⟨_, rfl⟩ .nil)⟩) (.cons (.str _) (.cons (.str _) .nil))
end WB
namespace WB
open PySem PySem.Spec L2
theorem kit_same {K : PySem.W.Frag} {C : Addr} : PySem.W.kitOne K (.ref C) (.ref C) = some true := by
  show (if (Value.ref C == Value.ref C) = true then some true else _) = some true
  rw [if_pos (beq_self_eq_true _)]
theorem kit_other {K : PySem.W.Frag} {E C : Addr} (hd : PySem.W.hasDictIn K C = true) (ht : PySem.W.typeIn K (.ref C) = some (.type "type")) (h0 : PySem.W.subIn K (.ref E) (.ref E) = some true) (hs : PySem.W.subIn K (.ref E) (.ref C) = some false) : PySem.W.kitOne K (.ref E) (.ref C) = some false := by
  have ne : ¬ (Value.ref E == Value.ref C) = true := fun q => by
    have e : E = C := Value.ref.inj (beq_iff_eq.mp q)
    subst e
    rw [h0] at hs; cases hs
  show (if (Value.ref E == Value.ref C) = true then some true else PySem.W.kitCls K (.ref E) (.ref C)) = some false
  rw [if_neg ne]
  show (if ((PySem.W.clsIn K C).isSome && PySem.W.typeIn K (.ref C) == some (.type "type")) = true then PySem.W.subIn K (.ref E) (.ref C) else none) = some false
  have e : ((PySem.W.clsIn K C).isSome && PySem.W.typeIn K (.ref C) == some (.type "type")) = true := by
    unfold PySem.W.hasDictIn at hd
    rw [ht]
    cases z : PySem.W.clsIn K C with
    | none => rw [z] at hd; cases hd
    | some c => rfl
  rw [if_pos e]; exact hs
theorem kit_VE {K : PySem.W.Frag} {E : Addr} (hs : PySem.W.subIn K (.ref E) (.type "ValueError") = some true) : PySem.W.kitOne K (.ref E) (.type "ValueError") = some true := by
  show (if (Value.ref E == Value.type "ValueError") = true then some true else PySem.W.kitCls K (.ref E) (.type "ValueError")) = some true
  rw [if_neg (by simp)]
  show (if PySem.W.kitMeta "ValueError" = true then PySem.W.subIn K (.ref E) (.type "ValueError") else none) = some true
  rw [if_pos (by decide +kernel)]; exact hs
end WB
set_option Elab.async false
set_option linter.all false
set_option maxRecDepth 100000
set_option maxHeartbeats 4000000
namespace WB
open PySem PySem.Spec L2
def top (i : Nat) : Stmt := PySem.Challenge.pw_windowback_k01_whole_stretches.main.body.getD i (.Pass ⟨0, 0, 0, 0⟩)
abbrev s_look_row : Stmt := top 12
abbrev N_look_row : List Str := ["row", "worth"]
theorem sc_look_row : FnScope N_look_row ["row"] (defScope s_look_row) := ⟨rfl, rfl, rfl, by decide +kernel, rfl, by decide +kernel, by decide +kernel⟩
abbrev s_look_stretch : Stmt := top 13
abbrev N_look_stretch : List Str := ["row", "first", "last"]
theorem sc_look_stretch : FnScope N_look_stretch ["row", "first", "last"] (defScope s_look_stretch) := ⟨rfl, rfl, rfl, by decide +kernel, rfl, by decide +kernel, by decide +kernel⟩
abbrev s_greatest : Stmt := top 14
abbrev N_greatest : List Str := ["row", "first", "last"]
theorem sc_greatest : FnScope N_greatest ["row", "first", "last"] (defScope s_greatest) := ⟨rfl, rfl, rfl, by decide +kernel, rfl, by decide +kernel, by decide +kernel⟩
abbrev s_least : Stmt := top 15
abbrev N_least : List Str := ["row", "first", "last"]
theorem sc_least : FnScope N_least ["row", "first", "last"] (defScope s_least) := ⟨rfl, rfl, rfl, by decide +kernel, rfl, by decide +kernel, by decide +kernel⟩
abbrev s_look_width : Stmt := top 16
abbrev N_look_width : List Str := ["row", "width"]
theorem sc_look_width : FnScope N_look_width ["row", "width"] (defScope s_look_width) := ⟨rfl, rfl, rfl, by decide +kernel, rfl, by decide +kernel, by decide +kernel⟩
abbrev s_greatest_by : Stmt := top 17
abbrev N_greatest_by : List Str := ["row", "width", "k"]
theorem sc_greatest_by : FnScope N_greatest_by ["row", "width"] (defScope s_greatest_by) := ⟨rfl, rfl, rfl, by decide +kernel, rfl, by decide +kernel, by decide +kernel⟩
abbrev s_least_by : Stmt := top 18
abbrev N_least_by : List Str := ["row", "width", "k"]
theorem sc_least_by : FnScope N_least_by ["row", "width"] (defScope s_least_by) := ⟨rfl, rfl, rfl, by decide +kernel, rfl, by decide +kernel, by decide +kernel⟩
abbrev s_reach : Stmt := top 19
abbrev N_reach : List Str := ["row", "place", "first", "last"]
theorem sc_reach : FnScope N_reach ["row", "place"] (defScope s_reach) := ⟨rfl, rfl, rfl, by decide +kernel, rfl, by decide +kernel, by decide +kernel⟩
abbrev s_law_cell : Stmt := top 21
abbrev N_law_cell : List Str := ["_law_script", "_law_k"]
theorem sc_law_cell : FnScope N_law_cell ["_law_script", "_law_k"] (defScope s_law_cell) := ⟨rfl, rfl, rfl, by decide +kernel, rfl, by decide +kernel, by decide +kernel⟩
abbrev s_law_mix : Stmt := top 22
abbrev N_law_mix : List Str := ["_law_script", "_law_k", "_law_number"]
theorem sc_law_mix : FnScope N_law_mix ["_law_script", "_law_k"] (defScope s_law_mix) := ⟨rfl, rfl, rfl, by decide +kernel, rfl, by decide +kernel, by decide +kernel⟩
abbrev s_law_draw : Stmt := top 23
abbrev N_law_draw : List Str := ["_law_script", "_law_town", "_law_many"]
theorem sc_law_draw : FnScope N_law_draw ["_law_script", "_law_town", "_law_many"] (defScope s_law_draw) := ⟨rfl, rfl, rfl, by decide +kernel, rfl, by decide +kernel, by decide +kernel⟩
abbrev s_law_pick : Stmt := top 24
abbrev N_law_pick : List Str := ["_law_script", "_law_town", "_law_some"]
theorem sc_law_pick : FnScope N_law_pick ["_law_script", "_law_town", "_law_some"] (defScope s_law_pick) := ⟨rfl, rfl, rfl, by decide +kernel, rfl, by decide +kernel, by decide +kernel⟩
abbrev s_law_refusal : Stmt := top 25
abbrev N_law_refusal : List Str := ["_law_caught", "_law_kinds", "_law_words"]
theorem sc_law_refusal : FnScope N_law_refusal ["_law_caught"] (defScope s_law_refusal) := ⟨rfl, rfl, rfl, by decide +kernel, rfl, by decide +kernel, by decide +kernel⟩
abbrev s_law_row : Stmt := top 26
abbrev N_law_row : List Str := ["_law_script", "_law_town", "_law_most", "_law_worth", "_law_k"]
theorem sc_law_row : FnScope N_law_row ["_law_script", "_law_town", "_law_most", "_law_worth"] (defScope s_law_row) := ⟨rfl, rfl, rfl, by decide +kernel, rfl, by decide +kernel, by decide +kernel⟩
abbrev s_law_told : Stmt := top 27
abbrev N_law_told : List Str := ["_law_kind", "_law_row_here", "_law_one", "_law_other", "_law_caught", "_law_found", "e"]
theorem sc_law_told : FnScope N_law_told ["_law_kind", "_law_row_here", "_law_one", "_law_other"] (defScope s_law_told) := ⟨rfl, rfl, rfl, by decide +kernel, rfl, by decide +kernel, by decide +kernel⟩
abbrev s_law_due : Stmt := top 28
abbrev N_law_due : List Str := ["_law_kind", "_law_row_here", "_law_one", "_law_other", "_law_size", "_law_ahead", "_law_behind", "_law_k"]
theorem sc_law_due : FnScope N_law_due ["_law_kind", "_law_row_here", "_law_one", "_law_other"] (defScope s_law_due) := ⟨rfl, rfl, rfl, by decide +kernel, rfl, by decide +kernel, by decide +kernel⟩
abbrev s_law : Stmt := top 29
abbrev N_law : List Str := ["_law_script", "_law_town", "_law_row_here", "_law_given", "_law_k", "_law_bad", "_law_wrong", "_law_one", "_law_other", "_law_kind", "_law_due_here"]
theorem sc_law : FnScope N_law ["_law_script"] (defScope s_law) := ⟨rfl, rfl, rfl, by decide +kernel, rfl, by decide +kernel, by decide +kernel⟩
structure Tx (K : PySem.W.Frag) (mg : Str → Option Value) (ec : Kd → Addr) (wa CB : Addr) : Prop where
  look_row : Df K mg "look_row" s_look_row ["row"]
  look_stretch : Df K mg "look_stretch" s_look_stretch ["row", "first", "last"]
  greatest : Df K mg "greatest" s_greatest ["row", "first", "last"]
  least : Df K mg "least" s_least ["row", "first", "last"]
  look_width : Df K mg "look_width" s_look_width ["row", "width"]
  greatest_by : Df K mg "greatest_by" s_greatest_by ["row", "width"]
  least_by : Df K mg "least_by" s_least_by ["row", "width"]
  reach : Df K mg "reach" s_reach ["row", "place"]
  law_cell : Df K mg "_law_cell" s_law_cell ["_law_script", "_law_k"]
  law_mix : Df K mg "_law_mix" s_law_mix ["_law_script", "_law_k"]
  law_draw : Df K mg "_law_draw" s_law_draw ["_law_script", "_law_town", "_law_many"]
  law_pick : Df K mg "_law_pick" s_law_pick ["_law_script", "_law_town", "_law_some"]
  law_refusal : Df K mg "_law_refusal" s_law_refusal ["_law_caught"]
  law_row : Df K mg "_law_row" s_law_row ["_law_script", "_law_town", "_law_most", "_law_worth"]
  law_told : Df K mg "_law_told" s_law_told ["_law_kind", "_law_row_here", "_law_one", "_law_other"]
  law_due : Df K mg "_law_due" s_law_due ["_law_kind", "_law_row_here", "_law_one", "_law_other"]
  law : Df K mg "law" s_law ["_law_script"]
  b_ValueError : mg "ValueError" = none
  b_all : mg "all" = none
  b_int : mg "int" = none
  b_isinstance : mg "isinstance" = none
  b_len : mg "len" = none
  b_list : mg "list" = none
  b_max : mg "max" = none
  b_min : mg "min" = none
  b_range : mg "range" = none
  b_sorted : mg "sorted" = none
  x_BadRow : ExcK K mg (ekOf ec) .row "BadRow" (ec .row)
  x_BadStretch : ExcK K mg (ekOf ec) .stretch "BadStretch" (ec .stretch)
  x_BadSize : ExcK K mg (ekOf ec) .size "BadSize" (ec .size)
  x_BadTold : ExcK K mg (ekOf ec) .told "BadTold" (ec .told)
  x_NoRow : ExcK K mg (ekOf ec) .norow "NoRow" (ec .norow)
  x_BadNumber : ExcK K mg (ekOf ec) .number "BadNumber" (ec .number)
  x_BadText : ExcK K mg (ekOf ec) .text "BadText" (ec .text)
  x_BackError : mg "BackError" = some (.ref CB)
  xt : ExcT K ec CB
  c_MOST_SIZE : ∃ t, mg "MOST_SIZE" = some (.int 8 t)
  c_MOST_WORTH : ∃ t, mg "MOST_WORTH" = some (.int 9 t)
end WB
set_option Elab.async false
set_option linter.all false
set_option maxRecDepth 100000
set_option maxHeartbeats 4000000
namespace WB
open PySem PySem.Spec L2
local macro_rules | `(tactic| walk_at "wb") => `(tactic| first | simp only [cond_app, wbind, wret, wop, getV, ini, opn, Bool.cond_true, Bool.cond_false, cond_true, cond_false, List.map_cons, List.map_nil, List.cons_append, List.nil_append, List.replicate_succ, List.replicate_zero, List.append_nil, List.getElem?_cons_zero, List.getElem?_cons_succ, asBool, asList, asInt, addD, intD, intD0, lenD, truD, ixD, slD, isNo, isNoD, isNotNoD, negD, rng1D, rng2D, listD, tupD, wipeR, eR, eRs, getO, frz, mulD, List.set_cons_zero, List.set_cons_succ, tg1] | skip)
local macro_rules | `(tactic| walk_at "ws") => `(tactic| first | simp only [cond_prop, decide_eq_true_eq, decide_eq_false_iff_not, Bool.not_eq_true', Bool.not_eq_false', Bool.and_eq_true, Bool.and_eq_false_iff, Bool.or_eq_true, Bool.or_eq_false_iff, len_ints, List.length_map, true_implies, false_implies, and_true, true_and, reduceCtorEq, Bool.not_true, Bool.not_false, forall_const, Bool.false_eq_true, Bool.true_eq_false] | skip)
local macro_rules | `(tactic| walk_at "wo") => `(tactic| first | simp only [out_ok, out_err] | skip)
section
variable {P : Program} {w : World} {K : PySem.W.Frag} {mg : Str → Option Value} {base : Heap} {ec : Kd → Addr} {wa CB : Addr}
def rowOk (row : List Int) : Bool := decide (1 ≤ row.length ∧ row.length ≤ 8) && row.all fun x => decide (0 ≤ x ∧ x ≤ 9)
def o_look_row (row : List Int) : Except Kd D := if rowOk row = true then .ok .none else .error .row
def F_look_row : List D → W D := fun ds Q E n => ∃ row : List Int, ds = [eR row] ∧ row.length ≤ 1000 ∧ out (o_look_row row) Q E n
theorem r_look_row (T : Tx K mg ec wa CB) : Rd P w K mg base "look_row" 1 ["row"] (spD K (ekOf ec) false 1 F_look_row) := by
  refine T.look_row.ok sc_look_row (r := 1) rfl rfl (fun f cdv A outer s H E hr => ?_)
  have tk := takes_of (X := cxOf (L2.CX P w) P w K mg base N_look_row "look_row" (defScope s_look_row) f cdv A outer s H E) (E := E) rfl rfl rfl rfl
  refine ⟨_, _, (pss_one (ps_if (PW.pt (pw_or (pt_not (pt_chain op_le op_le pe_int (pe_callB call_len (by rfl) T.b_len PySem.boot_len (pa_cons (pv 0) pa_nil)) (pe_globI T.c_MOST_SIZE rfl))) (pw_or1 (pt_not (pt_truth (pe_callB (cr_all rfl) (by rfl) T.b_all (by decide +kernel) (pa_cons (pe_lc (own := [("worth", 1)]) rfl sc_look_row.nd (pi_list (pv 0)) (blkOk_by (N := N_look_row) (sc := defScope s_look_row) (by decide +kernel)) (fun _ _ _ _ _ => (pg_name (i := 1) sc_look_row.nd rfl (Or.inl rfl))) (fun _ _ _ _ _ => pts_nil) (fun _ _ _ _ _ => (pe_chain op_le op_le pe_int (pv 1) (pe_globI T.c_MOST_WORTH rfl)))) pa_nil)) (by intro _; rfl)))))) (pss_one (ps_raiseD T.x_BadRow rfl tk rfl)) pss_nil)), (dst_if (db_or (db_not (db_test (dt_chain dr_le dr_le dt_int (dt_cb dc_len (da_cons dt_var da_nil)) dt_int))) (db_not (db_tru (dt_cb dc_all (da_cons (df_lc (di_list dt_var) (dg_name (by decide)) db_yes (dt_chain dr_le dr_le dt_int dt_var dt_int) (by decide)).dt da_nil))))) dst_rz dst_next), ?_⟩
  intro ds Qd Ed n hl hF
  obtain ⟨row, rfl, hlen, h⟩ := hF
  have h1 : rowOk row = true → Qd .none n := fun q => by rw [o_look_row, if_pos q] at h; exact h
  have h2 : rowOk row = false → Ed .row n := fun q => by rw [o_look_row, if_neg (by rw [q]; exact Bool.false_ne_true)] at h; exact h
  walk_at "wb"
  walk_at "ws"
  refine ⟨fun a => ⟨fun b => h2 (by unfold rowOk; rw [decide_eq_false (by omega)]; rfl), fun b => ⟨by omega, ?_⟩⟩, fun a => h2 (by unfold rowOk; rw [decide_eq_false (by omega)]; rfl)⟩
  refine lcL_m (fun x => .bool (decide (0 ≤ x ∧ x ≤ 9))) (fun x _ => ⟨_, rfl, fun Q E n h => ?_⟩) ⟨row.map fun x => decide (0 ≤ x ∧ x ≤ 9), by rw [List.map_map]; rfl, ?_⟩
  · walk_at "wb"
    walk_at "ws"
    refine ⟨fun a => ?_, fun a => ?_⟩
    · have e : decide (0 ≤ x ∧ x ≤ 9) = decide (x ≤ 9) := by simp [a]
      rw [e] at h; exact h
    · have e : decide (0 ≤ x ∧ x ≤ 9) = false := by simp [a]
      rw [e] at h; exact h
  · have e : ((row.map fun x => decide (0 ≤ x ∧ x ≤ 9)).all id) = row.all fun x => decide (0 ≤ x ∧ x ≤ 9) := by rw [List.all_map]; rfl
    rw [e]
    walk_at "wb"
    walk_at "ws"
    refine ⟨fun z => h2 (by unfold rowOk; rw [z, Bool.and_false]), fun z => h1 (by unfold rowOk; rw [z, decide_eq_true (by omega)]; rfl)⟩
def o_look_stretch (row : List Int) (f l : Int) : Except Kd D := if rowOk row = true then (if 0 ≤ f ∧ f ≤ l ∧ l < row.length then .ok .none else .error .stretch) else .error .row
def F_look_stretch : List D → W D := fun ds Q E n => ∃ (row : List Int) (f l : Int), ds = [eR row, .int f, .int l] ∧ row.length ≤ 1000 ∧ out (o_look_stretch row f l) Q E n
theorem r_look_stretch (T : Tx K mg ec wa CB) : Rd P w K mg base "look_stretch" 2 ["row", "first", "last"] (spD K (ekOf ec) false 3 F_look_stretch) := by
  refine T.look_stretch.ok sc_look_stretch (r := 0) rfl rfl (fun f cdv A outer s H E hr => ?_)
  have tk := takes_of (X := cxOf (L2.CX P w) P w K mg base N_look_stretch "look_stretch" (defScope s_look_stretch) f cdv A outer s H E) (E := E) rfl rfl rfl rfl
  refine ⟨_, _, (pss_cons (ps_expr (pe_callD (r_look_row T) (hr.mono (by decide)) rfl (pass_in tk) (pa_cons (pv 0) pa_nil))) (pss_one (ps_if (pt_not (pt_chain3 op_le op_le op_lt pe_int (pv 1) (pv 2) (pe_callB call_len (by rfl) T.b_len PySem.boot_len (pa_cons (pv 0) pa_nil)))) (pss_one (ps_raiseD T.x_BadStretch rfl tk rfl)) pss_nil))), (dst_seq (dst_drop (dt_callP (da_cons dt_var da_nil))) (dst_if (db_not (db_test (dt_chain3 dr_le dr_le dr_lt dt_int dt_var dt_var (dt_cb dc_len (da_cons dt_var da_nil))))) dst_rz dst_next)), ?_⟩
  intro ds Qd Ed n hl hF
  obtain ⟨row, a, b, rfl, hlen, h⟩ := hF
  unfold o_look_stretch at h
  walk_at "wb"
  refine ⟨rfl, row, rfl, hlen, ?_⟩
  unfold o_look_row
  by_cases hr : rowOk row = true
  · rw [if_pos hr] at h ⊢
    simp only [out_ok, out_err]
    walk_at "ws"
    by_cases q : 0 ≤ a ∧ a ≤ b ∧ b < row.length
    · rw [if_pos q] at h
      exact ⟨fun _ => ⟨fun _ => ⟨fun z => absurd q.2.2 z, fun _ => h⟩, fun z => absurd q.2.1 z⟩, fun z => absurd q.1 z⟩
    · rw [if_neg q] at h
      exact ⟨fun x => ⟨fun y => ⟨fun _ => h, fun z => absurd ⟨x, y, z⟩ q⟩, fun _ => h⟩, fun _ => h⟩
  · rw [if_neg hr] at h ⊢
    exact h
def o_greatest (row : List Int) (f l : Int) : Except Kd D := if rowOk row = true then (if 0 ≤ f ∧ f ≤ l ∧ l < row.length then .ok (.int (mxL (sl row f l))) else .error .stretch) else .error .row
def F_greatest : List D → W D := fun ds Q E n => ∃ (row : List Int) (f l : Int), ds = [eR row, .int f, .int l] ∧ row.length ≤ 1000 ∧ out (o_greatest row f l) Q E n
theorem r_greatest (T : Tx K mg ec wa CB) : Rd P w K mg base "greatest" 3 ["row", "first", "last"] (spD K (ekOf ec) false 3 F_greatest) := by
  refine T.greatest.ok sc_greatest (r := 0) rfl rfl (fun f cdv A outer s H E hr => ?_)
  have tk := takes_of (X := cxOf (L2.CX P w) P w K mg base N_greatest "greatest" (defScope s_greatest) f cdv A outer s H E) (E := E) rfl rfl rfl rfl
  refine ⟨_, _, (pss_cons (ps_expr (pe_callD (r_look_stretch T) (hr.mono (by decide)) rfl (pass_in tk) (pa_cons (pv 0) (pa_cons (pv 1) (pa_cons (pv 2) pa_nil))))) (pss_one (ps_ret (pe_callB (call_maxG rfl) (by rfl) T.b_max (by decide +kernel) (pa_cons (pe_slice sl_G (pv 0) (po_some (pv 1)) (po_some (pe_op op_addG (pv 2) pe_int))) pa_nil))))), (dst_seq (dst_drop (dt_callP (da_cons dt_var (da_cons dt_var (da_cons dt_var da_nil))))) (dst_ret (dt_cb dc_max (da_cons (dt_slice dt_var (do_some dt_var) (do_some (dt_op dr_add dt_var dt_int))) da_nil)))), ?_⟩
  intro ds Qd Ed n hl hF
  obtain ⟨row, a, b, rfl, hlen, h⟩ := hF
  unfold o_greatest at h
  walk_at "wb"
  refine ⟨rfl, row, a, b, rfl, hlen, ?_⟩
  unfold o_look_stretch
  by_cases hr : rowOk row = true
  · rw [if_pos hr] at h ⊢
    by_cases q : 0 ≤ a ∧ a ≤ b ∧ b < row.length
    · rw [if_pos q] at h ⊢
      walk_at "wo"
      rw [cutG_map]
      exact maxD_ints (sl_ne q.1 q.2.1 q.2.2) h
    · rw [if_neg q] at h ⊢
      exact h
  · rw [if_neg hr] at h ⊢
    exact h
def o_least (row : List Int) (f l : Int) : Except Kd D := if rowOk row = true then (if 0 ≤ f ∧ f ≤ l ∧ l < row.length then .ok (.int (mnL (sl row f l))) else .error .stretch) else .error .row
def F_least : List D → W D := fun ds Q E n => ∃ (row : List Int) (f l : Int), ds = [eR row, .int f, .int l] ∧ row.length ≤ 1000 ∧ out (o_least row f l) Q E n
theorem r_least (T : Tx K mg ec wa CB) : Rd P w K mg base "least" 3 ["row", "first", "last"] (spD K (ekOf ec) false 3 F_least) := by
  refine T.least.ok sc_least (r := 0) rfl rfl (fun f cdv A outer s H E hr => ?_)
  have tk := takes_of (X := cxOf (L2.CX P w) P w K mg base N_least "least" (defScope s_least) f cdv A outer s H E) (E := E) rfl rfl rfl rfl
  refine ⟨_, _, (pss_cons (ps_expr (pe_callD (r_look_stretch T) (hr.mono (by decide)) rfl (pass_in tk) (pa_cons (pv 0) (pa_cons (pv 1) (pa_cons (pv 2) pa_nil))))) (pss_one (ps_ret (pe_callB (call_minG rfl) (by rfl) T.b_min (by decide +kernel) (pa_cons (pe_slice sl_G (pv 0) (po_some (pv 1)) (po_some (pe_op op_addG (pv 2) pe_int))) pa_nil))))), (dst_seq (dst_drop (dt_callP (da_cons dt_var (da_cons dt_var (da_cons dt_var da_nil))))) (dst_ret (dt_cb dc_min (da_cons (dt_slice dt_var (do_some dt_var) (do_some (dt_op dr_add dt_var dt_int))) da_nil)))), ?_⟩
  intro ds Qd Ed n hl hF
  obtain ⟨row, a, b, rfl, hlen, h⟩ := hF
  unfold o_least at h
  walk_at "wb"
  refine ⟨rfl, row, a, b, rfl, hlen, ?_⟩
  unfold o_look_stretch
  by_cases hr : rowOk row = true
  · rw [if_pos hr] at h ⊢
    by_cases q : 0 ≤ a ∧ a ≤ b ∧ b < row.length
    · rw [if_pos q] at h ⊢
      walk_at "wo"
      rw [cutG_map]
      exact minD_ints (sl_ne q.1 q.2.1 q.2.2) h
    · rw [if_neg q] at h ⊢
      exact h
  · rw [if_neg hr] at h ⊢
    exact h
def o_look_width (row : List Int) (w : Int) : Except Kd D := if rowOk row = true then (if 1 ≤ w ∧ w ≤ row.length then .ok .none else .error .stretch) else .error .row
def F_look_width : List D → W D := fun ds Q E n => ∃ (row : List Int) (w : Int), ds = [eR row, .int w] ∧ row.length ≤ 1000 ∧ out (o_look_width row w) Q E n
theorem r_look_width (T : Tx K mg ec wa CB) : Rd P w K mg base "look_width" 2 ["row", "width"] (spD K (ekOf ec) false 2 F_look_width) := by
  refine T.look_width.ok sc_look_width (r := 0) rfl rfl (fun f cdv A outer s H E hr => ?_)
  have tk := takes_of (X := cxOf (L2.CX P w) P w K mg base N_look_width "look_width" (defScope s_look_width) f cdv A outer s H E) (E := E) rfl rfl rfl rfl
  refine ⟨_, _, (pss_cons (ps_expr (pe_callD (r_look_row T) (hr.mono (by decide)) rfl (pass_in tk) (pa_cons (pv 0) pa_nil))) (pss_one (ps_if (pt_not (pt_chain op_le op_le pe_int (pv 1) (pe_callB call_len (by rfl) T.b_len PySem.boot_len (pa_cons (pv 0) pa_nil)))) (pss_one (ps_raiseD T.x_BadStretch rfl tk rfl)) pss_nil))), (dst_seq (dst_drop (dt_callP (da_cons dt_var da_nil))) (dst_if (db_not (db_test (dt_chain dr_le dr_le dt_int dt_var (dt_cb dc_len (da_cons dt_var da_nil))))) dst_rz dst_next)), ?_⟩
  intro ds Qd Ed n hl hF
  obtain ⟨row, a, rfl, hlen, h⟩ := hF
  unfold o_look_width at h
  walk_at "wb"
  refine ⟨rfl, row, rfl, hlen, ?_⟩
  unfold o_look_row
  by_cases hr : rowOk row = true
  · rw [if_pos hr] at h ⊢
    walk_at "wo"
    walk_at "ws"
    by_cases q : 1 ≤ a ∧ a ≤ row.length
    · rw [if_pos q] at h
      exact ⟨fun _ => ⟨fun z => absurd q.2 z, fun _ => h⟩, fun z => absurd q.1 z⟩
    · rw [if_neg q] at h
      exact ⟨fun x => ⟨fun _ => h, fun z => absurd ⟨x, z⟩ q⟩, fun _ => h⟩
  · rw [if_neg hr] at h ⊢
    exact h
/-- all windows' greatest worths -/
def by_greatest (row : List Int) (w : Int) : List Int := (List.range (row.length - w + 1).toNat).map fun k : Nat => mxL (cutG row (some (k : Int)) (some ((k : Int) + w)))
def o_greatest_by (row : List Int) (w : Int) : Except Kd D := if rowOk row = true then (if 1 ≤ w ∧ w ≤ row.length then .ok (eR (by_greatest row w)) else .error .stretch) else .error .row
def F_greatest_by : List D → W D := fun ds Q E n => ∃ (row : List Int) (w : Int), ds = [eR row, .int w] ∧ row.length ≤ 1000 ∧ out (o_greatest_by row w) Q E n
theorem r_greatest_by (T : Tx K mg ec wa CB) : Rd P w K mg base "greatest_by" 3 ["row", "width"] (spD K (ekOf ec) false 2 F_greatest_by) := by
  refine T.greatest_by.ok sc_greatest_by (r := 1) rfl rfl (fun f cdv A outer s H E hr => ?_)
  have tk := takes_of (X := cxOf (L2.CX P w) P w K mg base N_greatest_by "greatest_by" (defScope s_greatest_by) f cdv A outer s H E) (E := E) rfl rfl rfl rfl
  refine ⟨_, _, (pss_cons (ps_expr (pe_callD (r_look_width T) (hr.mono (by decide)) rfl (pass_in tk) (pa_cons (pv 0) (pa_cons (pv 1) pa_nil)))) (pss_one (ps_ret (pe_lc (own := [("k", 2)]) rfl sc_greatest_by.nd (pi_range1 rfl T.b_range (pa_cons (pe_op op_addG (pe_op op_sub (pe_callB call_len (by rfl) T.b_len PySem.boot_len (pa_cons (pv 0) pa_nil)) (pv 1)) pe_int) pa_nil)) (blkOk_by (N := N_greatest_by) (sc := defScope s_greatest_by) (by decide +kernel)) (fun _ _ _ _ _ => (pg_name (i := 2) sc_greatest_by.nd rfl (Or.inl rfl))) (fun _ _ _ _ _ => pts_nil) (fun _ _ _ _ _ => (pe_callB (call_maxG rfl) (by rfl) T.b_max (by decide +kernel) (pa_cons (pe_slice sl_G (pv 0) (po_some (pv 2)) (po_some (pe_op op_addG (pv 2) (pv 1)))) pa_nil))))))), (dst_seq (dst_drop (dt_callP (da_cons dt_var (da_cons dt_var da_nil)))) (dst_ret (df_lc (di_rng1 (da_cons (dt_op dr_add (dt_op dr_sub (dt_cb dc_len (da_cons dt_var da_nil)) dt_var) dt_int) da_nil)) (dg_name (by decide)) db_yes (dt_cb dc_max (da_cons (dt_slice dt_var (do_some dt_var) (do_some (dt_op dr_add dt_var dt_var))) da_nil)) (by decide)).dt)), ?_⟩
  intro ds Qd Ed n hl hF
  obtain ⟨row, a, rfl, hlen, h⟩ := hF
  unfold o_greatest_by at h
  walk_at "wb"
  refine ⟨rfl, row, a, rfl, hlen, ?_⟩
  unfold o_look_width
  by_cases hr : rowOk row = true
  · rw [if_pos hr] at h ⊢
    by_cases q : 1 ≤ a ∧ a ≤ row.length
    · rw [if_pos q] at h ⊢
      walk_at "wo"
      walk_at "ws"
      refine ⟨by omega, by omega, by rw [rngD_len]; omega, ?_⟩
      rw [rngD_map]
      refine lcL_m (fun k : Nat => .int (mxL (cutG row (some (k : Int)) (some ((k : Int) + a))))) (fun k hk => ⟨_, rfl, fun Q E n h => ?_⟩) (by
        unfold eR by_greatest at h
        rw [List.map_map] at h
        exact h)
      walk_at "wb"
      rw [cutG_map]
      rw [List.mem_range] at hk
      rw [Int.zero_add]
      refine maxD_ints ?_ h
      rw [cut_nat row (by omega) (by omega) (by omega)]
      refine List.ne_nil_of_length_pos ?_
      rw [List.length_take, List.length_drop]
      omega
    · rw [if_neg q] at h ⊢
      exact h
  · rw [if_neg hr] at h ⊢
    exact h
/-- all windows' least worths -/
def by_least (row : List Int) (w : Int) : List Int := (List.range (row.length - w + 1).toNat).map fun k : Nat => mnL (cutG row (some (k : Int)) (some ((k : Int) + w)))
def o_least_by (row : List Int) (w : Int) : Except Kd D := if rowOk row = true then (if 1 ≤ w ∧ w ≤ row.length then .ok (eR (by_least row w)) else .error .stretch) else .error .row
def F_least_by : List D → W D := fun ds Q E n => ∃ (row : List Int) (w : Int), ds = [eR row, .int w] ∧ row.length ≤ 1000 ∧ out (o_least_by row w) Q E n
theorem r_least_by (T : Tx K mg ec wa CB) : Rd P w K mg base "least_by" 3 ["row", "width"] (spD K (ekOf ec) false 2 F_least_by) := by
  refine T.least_by.ok sc_least_by (r := 1) rfl rfl (fun f cdv A outer s H E hr => ?_)
  have tk := takes_of (X := cxOf (L2.CX P w) P w K mg base N_least_by "least_by" (defScope s_least_by) f cdv A outer s H E) (E := E) rfl rfl rfl rfl
  refine ⟨_, _, (pss_cons (ps_expr (pe_callD (r_look_width T) (hr.mono (by decide)) rfl (pass_in tk) (pa_cons (pv 0) (pa_cons (pv 1) pa_nil)))) (pss_one (ps_ret (pe_lc (own := [("k", 2)]) rfl sc_least_by.nd (pi_range1 rfl T.b_range (pa_cons (pe_op op_addG (pe_op op_sub (pe_callB call_len (by rfl) T.b_len PySem.boot_len (pa_cons (pv 0) pa_nil)) (pv 1)) pe_int) pa_nil)) (blkOk_by (N := N_least_by) (sc := defScope s_least_by) (by decide +kernel)) (fun _ _ _ _ _ => (pg_name (i := 2) sc_least_by.nd rfl (Or.inl rfl))) (fun _ _ _ _ _ => pts_nil) (fun _ _ _ _ _ => (pe_callB (call_minG rfl) (by rfl) T.b_min (by decide +kernel) (pa_cons (pe_slice sl_G (pv 0) (po_some (pv 2)) (po_some (pe_op op_addG (pv 2) (pv 1)))) pa_nil))))))), (dst_seq (dst_drop (dt_callP (da_cons dt_var (da_cons dt_var da_nil)))) (dst_ret (df_lc (di_rng1 (da_cons (dt_op dr_add (dt_op dr_sub (dt_cb dc_len (da_cons dt_var da_nil)) dt_var) dt_int) da_nil)) (dg_name (by decide)) db_yes (dt_cb dc_min (da_cons (dt_slice dt_var (do_some dt_var) (do_some (dt_op dr_add dt_var dt_var))) da_nil)) (by decide)).dt)), ?_⟩
  intro ds Qd Ed n hl hF
  obtain ⟨row, a, rfl, hlen, h⟩ := hF
  unfold o_least_by at h
  walk_at "wb"
  refine ⟨rfl, row, a, rfl, hlen, ?_⟩
  unfold o_look_width
  by_cases hr : rowOk row = true
  · rw [if_pos hr] at h ⊢
    by_cases q : 1 ≤ a ∧ a ≤ row.length
    · rw [if_pos q] at h ⊢
      walk_at "wo"
      walk_at "ws"
      refine ⟨by omega, by omega, by rw [rngD_len]; omega, ?_⟩
      rw [rngD_map]
      refine lcL_m (fun k : Nat => .int (mnL (cutG row (some (k : Int)) (some ((k : Int) + a))))) (fun k hk => ⟨_, rfl, fun Q E n h => ?_⟩) (by
        unfold eR by_least at h
        rw [List.map_map] at h
        exact h)
      walk_at "wb"
      rw [cutG_map]
      rw [List.mem_range] at hk
      rw [Int.zero_add]
      refine minD_ints ?_ h
      rw [cut_nat row (by omega) (by omega) (by omega)]
      refine List.ne_nil_of_length_pos ?_
      rw [List.length_take, List.length_drop]
      omega
    · rw [if_neg q] at h ⊢
      exact h
  · rw [if_neg hr] at h ⊢
    exact h
/-- how many items of a list, from its start, are not above v -/
def upto (v : Int) (l : List Int) : Nat := (l.takeWhile fun x => decide (x ≤ v)).length
def reachL (row : List Int) (p : Nat) : Int := ((p - upto (row.getD p 0) (row.take p).reverse : Nat) : Int)
def reachR (row : List Int) (p : Nat) : Int := ((p + upto (row.getD p 0) (row.drop (p + 1)) : Nat) : Int)
def o_reach (row : List Int) (p : Int) : Except Kd D := if rowOk row = true then (if 0 ≤ p ∧ p < row.length then .ok (.tuple [.int (reachL row p.toNat), .int (reachR row p.toNat)]) else .error .stretch) else .error .row
def F_reach : List D → W D := fun ds Q E n => ∃ (row : List Int) (p : Int), ds = [eR row, .int p] ∧ row.length ≤ 1000 ∧ out (o_reach row p) Q E n
theorem upto_cons (v x : Int) (l : List Int) : upto v (x :: l) = if x ≤ v then upto v l + 1 else 0 := by
  unfold upto
  by_cases h : x ≤ v
  · rw [List.takeWhile_cons_of_pos (by simpa using h), if_pos h, List.length_cons]
  · rw [List.takeWhile_cons_of_neg (by simpa using h), if_neg h]; rfl
theorem take_succ_rev (row : List Int) {f : Nat} (h : f < row.length) : (row.take (f + 1)).reverse = row.getD f 0 :: (row.take f).reverse := by
  rw [List.take_succ_eq_append_getElem h, List.reverse_append, List.getD_eq_getElem?_getD, List.getElem?_eq_getElem h]
  rfl
theorem drop_getD (row : List Int) {f : Nat} (h : f < row.length) : row.drop f = row.getD f 0 :: row.drop (f + 1) := by
  rw [List.drop_eq_getElem_cons h, List.getD_eq_getElem?_getD, List.getElem?_eq_getElem h]
  rfl
theorem atI_row {row : List Int} {f : Nat} (h : f < row.length) : atI (row.map PyData.int) (f : Int) = some (.int (row.getD f 0)) := by
  rw [atI_map, atI_nat (List.getElem?_eq_getElem h), List.getD_eq_getElem?_getD, List.getElem?_eq_getElem h]
  rfl
theorem r_reach (T : Tx K mg ec wa CB) : Rd P w K mg base "reach" 3 ["row", "place"] (spD K (ekOf ec) false 2 F_reach) := by
  refine T.reach.ok sc_reach (r := 2) rfl rfl (fun f cdv A outer s H E hr => ?_)
  have tk := takes_of (X := cxOf (L2.CX P w) P w K mg base N_reach "reach" (defScope s_reach) f cdv A outer s H E) (E := E) rfl rfl rfl rfl
  refine ⟨_, _, (pss_cons (ps_expr (pe_callD (r_look_stretch T) (hr.mono (by decide)) rfl (pass_in tk) (pa_cons (pv 0) (pa_cons (pv 1) (pa_cons (pv 1) pa_nil))))) (pss_cons (ps_set (i := 2) sc_reach.nd rfl (Or.inl rfl) (pv 1)) (pss_cons (ps_while (passes_of rfl) (PW.pt (pw_and (pt_cmpR op_gt (pv 2) pe_int (nomark _)) (pw_and1 (pt_cmpR op_le (pe_ix ix_seq (pv 0) (pe_op op_sub (pv 2) pe_int) (fun _ _ => rfl)) (pe_ix ix_seq (pv 0) (pv 1) (fun _ _ => rfl)) (nomark _))))) (pss_one (ps_set (i := 2) sc_reach.nd rfl (Or.inl rfl) (pe_op op_sub (pv 2) pe_int)))) (pss_cons (ps_set (i := 3) sc_reach.nd rfl (Or.inl rfl) (pv 1)) (pss_cons (ps_while (passes_of rfl) (PW.pt (pw_and (pt_cmpR op_lt (pe_op op_addG (pv 3) pe_int) (pe_callB call_len (by rfl) T.b_len PySem.boot_len (pa_cons (pv 0) pa_nil)) (nomark _)) (pw_and1 (pt_cmpR op_le (pe_ix ix_seq (pv 0) (pe_op op_addG (pv 3) pe_int) (fun _ _ => rfl)) (pe_ix ix_seq (pv 0) (pv 1) (fun _ _ => rfl)) (nomark _))))) (pss_one (ps_set (i := 3) sc_reach.nd rfl (Or.inl rfl) (pe_op op_addG (pv 3) pe_int)))) (pss_one (ps_ret (pe_tup (pa_cons (pv 2) (pa_cons (pv 3) pa_nil)))))))))), (dst_seq (dst_drop (dt_callP (da_cons dt_var (da_cons dt_var (da_cons dt_var da_nil))))) (dst_seq (dst_set (by decide) dt_var) (dst_seq (dst_while (db_and (db_test (dt_op dr_gt dt_var dt_int)) (db_test (dt_op dr_le (dt_op dr_ix dt_var (dt_op dr_sub dt_var dt_int)) (dt_op dr_ix dt_var dt_var)))) (dst_set (by decide) (dt_op dr_sub dt_var dt_int))) (dst_seq (dst_set (by decide) dt_var) (dst_seq (dst_while (db_and (db_test (dt_op dr_lt (dt_op dr_add dt_var dt_int) (dt_cb dc_len (da_cons dt_var da_nil)))) (db_test (dt_op dr_le (dt_op dr_ix dt_var (dt_op dr_add dt_var dt_int)) (dt_op dr_ix dt_var dt_var)))) (dst_set (by decide) (dt_op dr_add dt_var dt_int))) (dst_ret (dt_tup (da_cons dt_var (da_cons dt_var da_nil))))))))), ?_⟩
  intro ds Qd Ed n hl hF
  obtain ⟨row, p, rfl, hlen, h⟩ := hF
  unfold o_reach at h
  walk_at "wb"
  refine ⟨rfl, row, p, p, rfl, hlen, ?_⟩
  unfold o_look_stretch
  by_cases hr : rowOk row = true
  · rw [if_pos hr] at h ⊢
    by_cases q : 0 ≤ p ∧ p < row.length
    · rw [if_pos q] at h
      rw [if_pos ⟨q.1, Int.le_refl _, q.2⟩]
      obtain ⟨p, rfl⟩ := Int.eq_ofNat_of_zero_le q.1
      have hp : p < row.length := by omega
      rw [Int.toNat_natCast] at h
      walk_at "wo"
      refine whF_post (fun m ρ n' => n' = n ∧ m ≤ p ∧ ρ = [.v (.list (row.map .int)), .v (.int p), .v (.int m), .no] ∧ m - upto (row.getD p 0) (row.take m).reverse = p - upto (row.getD p 0) (row.take p).reverse)
        (fun ρ n' => n' = n ∧ ρ = [.v (.list (row.map .int)), .v (.int p), .v (.int (reachL row p)), .no]) (m := p) ⟨rfl, Nat.le_refl _, rfl, rfl⟩ ?_ ?_
      · rintro m ρ n' N X ⟨rfl, hm, rfl, hu⟩ hN hX
        walk_at "wb"
        walk_at "ws"
        refine ⟨fun h0 => ?_, fun h0 => hX _ _ ⟨rfl, ?_⟩⟩
        · obtain ⟨m, rfl⟩ : ∃ j, m = j + 1 := ⟨m - 1, by omega⟩
          have hm' : m < row.length := by omega
          rw [take_succ_rev row hm', upto_cons] at hu
          refine ⟨_, (by rw [show ((m + 1 : Nat) : Int) - 1 = (m : Nat) from by omega]; exact atI_row hm'), ⟨_, atI_row hp, ?_⟩⟩
          walk_at "wb"
          walk_at "ws"
          refine ⟨fun h1 => ?_, fun h1 => hX _ _ ⟨rfl, ?_⟩⟩
          · rw [show ((m + 1 : Nat) : Int) - 1 = (m : Nat) from by omega]
            refine hN m _ _ (by omega) ⟨rfl, by omega, rfl, ?_⟩
            rw [if_pos h1] at hu
            omega
          · rw [if_neg h1] at hu
            unfold reachL
            rw [← hu, Nat.sub_zero]
        · have : m = 0 := by omega
          subst this
          unfold reachL
          rw [← hu, Nat.zero_sub]
      · rintro ρ n' ⟨rfl, rfl⟩
        walk_at "wb"
        refine whF_post (fun m ρ n'' => n'' = n' ∧ ∃ f, m = row.length - f ∧ p ≤ f ∧ f < row.length ∧ ρ = [.v (.list (row.map .int)), .v (.int p), .v (.int (reachL row p)), .v (.int f)] ∧ f + upto (row.getD p 0) (row.drop (f + 1)) = p + upto (row.getD p 0) (row.drop (p + 1)))
          (fun ρ n'' => n'' = n' ∧ ρ = [.v (.list (row.map .int)), .v (.int p), .v (.int (reachL row p)), .v (.int (reachR row p))]) (m := row.length - p) ⟨rfl, p, rfl, Nat.le_refl _, hp, rfl, rfl⟩ ?_ ?_
        · rintro m ρ n2 N X ⟨rfl, f, rfl, hpf, hf, rfl, hu⟩ hN hX
          walk_at "wb"
          walk_at "ws"
          refine ⟨fun h0 => ?_, fun h0 => hX _ _ ⟨rfl, ?_⟩⟩
          · have hf' : f + 1 < row.length := by omega
            rw [drop_getD row hf', upto_cons] at hu
            refine ⟨_, (by rw [show (f : Int) + 1 = ((f + 1 : Nat) : Int) from by omega]; exact atI_row hf'), ⟨_, atI_row hp, ?_⟩⟩
            walk_at "wb"
            walk_at "ws"
            refine ⟨fun h1 => ?_, fun h1 => hX _ _ ⟨rfl, ?_⟩⟩
            · rw [show (f : Int) + 1 = ((f + 1 : Nat) : Int) from by omega]
              refine hN (row.length - (f + 1)) _ _ (by omega) ⟨rfl, f + 1, rfl, by omega, by omega, rfl, ?_⟩
              rw [if_pos h1] at hu
              omega
            · rw [if_neg h1] at hu
              unfold reachR
              rw [← hu, Nat.add_zero]
          · have e : row.drop (f + 1) = [] := List.drop_of_length_le (by omega)
            rw [e] at hu
            have : upto (row.getD p 0) [] = 0 := rfl
            rw [this, Nat.add_zero] at hu
            unfold reachR
            rw [← hu]
        · rintro ρ n2 ⟨rfl, rfl⟩
          walk_at "wb"
          exact ⟨by simp, h⟩
    · rw [if_neg q] at h
      rw [if_neg (fun z => q ⟨z.1, z.2.2⟩)]
      exact h
  · rw [if_neg hr] at h ⊢
    exact h
/-- an item of the script: any int -/
def spCell (K : PySem.W.Frag) : Sp := fun vs H Q _ => ∃ (a : Addr) (ns : List Int) (k : Int), vs = [.ref a, .int k] ∧ SqL K H a (ns.map V.int) ∧ ns.length ≤ 63 ∧ ∀ i, Q (.int i) H
theorem r_law_cell (T : Tx K mg ec wa CB) : Rd P w K mg base "_law_cell" 1 ["_law_script", "_law_k"] (spCell K) := by
  obtain ⟨f, fd, Fn, hm, hb⟩ := T.law_cell
  refine ⟨f, fd, Fn.okX sc_law_cell (fun vs H Q E h => by obtain ⟨_, _, _, rfl, _⟩ := h; rfl) (fun cdv A outer s H vs Q E hr h => ?_), hm, Fn.kp, hb⟩
  obtain ⟨a, ns, k, rfl, hS, hl, hQ⟩ := h
  refine ⟨_, pss_cons (ps_if (pt_truth (pv 0) (by intro _; rfl)) (pss_one (ps_ret (pe_ix ix_list (pv 0) (pe_op op_mod (pv 1) (pe_callB call_len (by rfl) T.b_len PySem.boot_len (pa_cons (pv 0) pa_nil))) (fun _ _ => rfl)))) pss_nil) (pss_one (ps_ret pe_int)), ?_⟩
  refine ⟨_, rfl, _, .inl ⟨_, hS, rfl⟩, ?_⟩
  cases ns with
  | nil => exact iteF (hQ 0)
  | cons n ns =>
    refine iteT ⟨_, rfl, _, rfl, _, rfl, _, _, rfl, .inl ⟨_, hS, rfl⟩, _, _, rfl, rfl, ?_, ?_⟩
    · show (0 : Int) < _
      rw [List.length_map, List.length_cons]; omega
    · have h0 : 0 ≤ k % (((n :: ns).map V.int).length : Int) := Int.emod_nonneg _ (by rw [List.length_map, List.length_cons]; omega)
      have h1 : k % (((n :: ns).map V.int).length : Int) < (((n :: ns).map V.int).length : Int) := Int.emod_lt_of_pos _ (by rw [List.length_map, List.length_cons]; omega)
      obtain ⟨j, hj⟩ : ∃ j : Nat, k % (((n :: ns).map V.int).length : Int) = j := ⟨_, (Int.toNat_of_nonneg h0).symm⟩
      rw [hj] at h1
      have hlt : j < ((n :: ns).map V.int).length := by omega
      refine ⟨_, _, _, _, rfl, rfl, hS, (by rw [hj]; exact atI_nat (List.getElem?_eq_getElem hlt)), ?_⟩
      rw [List.getElem_map]
      exact hQ _
def spMix (K : PySem.W.Frag) : Sp := fun vs H Q _ => ∃ (a : Addr) (ns : List Int) (k : Int), vs = [.ref a, .int k] ∧ SqL K H a (ns.map V.int) ∧ ns.length ≤ 63 ∧ ∀ i, 0 ≤ i → Q (.int i) H
theorem r_law_mix (T : Tx K mg ec wa CB) : Rd P w K mg base "_law_mix" 2 ["_law_script", "_law_k"] (spMix K) := by
  obtain ⟨f, fd, Fn, hm, hb⟩ := T.law_mix
  refine ⟨f, fd, Fn.okX sc_law_mix (fun vs H Q E h => by obtain ⟨_, _, _, rfl, _⟩ := h; rfl) (fun cdv A outer s H vs Q E hr h => ?_), hm, Fn.kp, hb⟩
  obtain ⟨a, ns, k, rfl, hS, hl, hQ⟩ := h
  have tk := takes_of (X := cxOf (L2.CX P w) P w K mg base N_law_mix "_law_mix" (defScope s_law_mix) f cdv A outer s H E) (E := E) rfl rfl rfl rfl
  refine ⟨_, pss_cons (ps_set (i := 2) sc_law_mix.nd rfl (Or.inl rfl) (pe_op op_mod (pe_op op_add (pe_callD (EX := fun _ => E) (r_law_cell T) (hr.mono (by decide)) rfl (pass_in tk) (pa_cons (pv 0) (pa_cons (pv 1) pa_nil))) (pe_op op_mul pe_int (pe_op op_add (pv 1) pe_int))) pe_int))
    (pss_cons (ps_set (i := 2) sc_law_mix.nd rfl (Or.inl rfl) (pe_op op_mod (pe_op op_pow (pv 2) pe_int) pe_int))
    (pss_one (ps_ret (pe_op op_mod (pe_op op_add (pe_op op_mul (pe_op op_fdiv (pv 2) pe_int) pe_int) (pv 2)) pe_int)))), ?_⟩
  refine ⟨_, rfl, _, rfl, a, ns, k, rfl, hS, hl, fun i => ?_⟩
  refine ⟨_, rfl, _, _, rfl, rfl, _, _, rfl, rfl, .inl ⟨by decide, by decide⟩, _, _, rfl, rfl, _, _, rfl, rfl, (by show (0 : Int) < 4294967291; decide), ?_⟩
  generalize hx : (i + 104729 * (k + 1)) % 4294967291 = x
  have x0 : 0 ≤ x := by rw [← hx]; exact Int.emod_nonneg _ (by decide)
  have x1 : x < 4294967291 := by rw [← hx]; exact Int.emod_lt_of_pos _ (by decide)
  refine ⟨_, rfl, _, _, rfl, rfl, ⟨by decide, by decide, by omega⟩, _, _, rfl, rfl, (by show (0 : Int) < 4294967279; decide), ?_⟩
  generalize x ^ Int.toNat 5 % 4294967279 = y
  refine ⟨_, rfl, _, _, rfl, rfl, ⟨by decide, by decide⟩, _, _, rfl, rfl, .inr ⟨by decide, by decide⟩, _, rfl, _, _, rfl, rfl, _, _, rfl, rfl, (by show (0 : Int) < 4294967231; decide), ?_⟩
  exact hQ _ (Int.emod_nonneg _ (by decide))
/-- the next draw: any number from 0 on, below many -/
def F_law_draw : List D → W D := fun ds Q _ n => ∃ m : Int, ds = [.int m] ∧ 0 < m ∧ n < 900000 ∧ ∀ d, 0 ≤ d → d < m → Q (.int d) (n + 1)
theorem r_law_draw (T : Tx K mg ec wa CB) : Rd P w K mg base "_law_draw" 3 ["_law_script", "_law_town", "_law_many"] (spD K (ekOf ec) true 1 F_law_draw) := by
  obtain ⟨f, fd, Fn, hm, hb⟩ := T.law_draw
  refine ⟨f, fd, Fn.okX sc_law_draw (fun vs H Q E h => spD_len vs H Q E h) (fun cdv A outer s H vs Q E hr h => ?_), hm, Fn.kp, hb⟩
  obtain ⟨Pc, Tn, n, us, ds, Qd, Ed, hT, hl, rfl, hthere, htw, r1, hF, hQ, hE⟩ := h
  obtain ⟨m, rfl, hm0, hn, hq⟩ := hF
  cases Tn with
  | none => cases hT
  | some p =>
    obtain ⟨sa, ta⟩ := p
    cases r1 with
    | cons r rr =>
      cases r
      cases rr
      obtain ⟨hP, hH, ns, hS, hlen⟩ := htw.ok _ rfl
      have tk := takes_of (X := cxOf (L2.CX P w) P w K mg base N_law_draw "_law_draw" (defScope s_law_draw) f cdv A outer s H E) (E := E) rfl rfl rfl rfl
      refine ⟨_, pss_cons (ps_expr (pe_bm PySem.F.plainAttrs_list PySem.F.slot_list_append PySem.F.type_list_append mt_append (pv 1) (pa_cons pe_int pa_nil)))
        (pss_one (ps_ret (pe_op op_mod (pe_op op_fdiv (pe_callD (EX := fun _ => E) (r_law_mix T) (hr.mono (by decide)) rfl (pass_in tk) (pa_cons (pv 0) (pa_cons (pe_callB call_len (by rfl) T.b_len PySem.boot_len (pa_cons (pv 1) pa_nil)) pa_nil))) pe_int) (pv 2)))), ?_⟩
      refine ⟨_, rfl, .inl ⟨rfl, _, .inl (.inl hH)⟩, _, _, _, rfl, rfl, hH, ?_, ?_⟩
      · rw [List.length_replicate, sizeLine_eq]; omega
      have hrep : List.replicate n (V.int 0) ++ [V.int 0] = List.replicate (n + 1) (V.int 0) := by rw [List.replicate_succ']
      rw [hrep]
      have keep : Keep (some (sa, ta)) H (upd H ta (.lst (List.replicate (n + 1) (V.int 0)))) := fun a o hne e => by
        rw [upd_ne (hne _ rfl)]; exact e
      have hS' : SqL K (hide Pc (upd H ta (.lst (List.replicate (n + 1) (V.int 0))))) sa (ns.map V.int) := (keep.view htw).seq hS
      refine ⟨_, rfl, _, rfl, _, _, rfl, .inl ⟨_, .inl (.inl upd_same), rfl⟩, _, ns, _, rfl, hide_le.seq hS', hlen, fun i hi => ?_⟩
      refine ⟨_, _, rfl, rfl, ⟨by decide, by decide⟩, _, rfl, _, _, rfl, rfl, hm0, ?_⟩
      exact hQ _ (n + 1) _ _ (hq _ (Int.emod_nonneg _ (by omega)) (Int.emod_lt_of_pos _ hm0)) ⟨keep, ⟨fun q hq' => by
        cases hq'
        exact ⟨hP, upd_same, ns, hS', hlen⟩⟩⟩ (.int _)
/-- a drawn item of a list -/
def F_law_pick : List D → W D := fun ds Q _ n => ∃ xs : List D, ds = [.list xs] ∧ xs ≠ [] ∧ xs.length ≤ 1000000 ∧ n < 900000 ∧ ∀ x ∈ xs, Q x (n + 1)
theorem r_law_pick (T : Tx K mg ec wa CB) : Rd P w K mg base "_law_pick" 4 ["_law_script", "_law_town", "_law_some"] (spD K (ekOf ec) true 1 F_law_pick) := by
  refine T.law_pick.ok sc_law_pick (r := 0) rfl rfl (fun f cdv A outer s H E hr => ?_)
  have tk := takes_of (X := cxOf (L2.CX P w) P w K mg base N_law_pick "_law_pick" (defScope s_law_pick) f cdv A outer s H E) (E := E) rfl rfl rfl rfl
  refine ⟨_, _, (pss_one (ps_ret (pe_ix ix_seq (pv 2) (pe_callD (r_law_draw T) (hr.mono (by decide)) rfl (pass_in tk) (pa_cons (pv 0) (pa_cons (pv 1) (pa_cons (pe_callB call_len (by rfl) T.b_len PySem.boot_len (pa_cons (pv 2) pa_nil)) pa_nil)))) (fun _ _ => rfl)))), (dst_ret (dt_op dr_ix dt_var (dt_callT (da_cons (dt_cb dc_len (da_cons dt_var da_nil)) da_nil)))), ?_⟩
  intro ds Qd Ed n hl hF
  obtain ⟨xs, rfl, hne, hlen, hn, hQ⟩ := hF
  walk_at "wb"
  refine ⟨rfl, _, rfl, ?_, hn, fun d h0 h1 => ?_⟩
  · have := List.length_pos_iff.mpr hne; omega
  · obtain ⟨j, rfl⟩ := Int.eq_ofNat_of_zero_le h0
    have hj : j < xs.length := by omega
    exact ⟨_, atI_nat (List.getElem?_eq_getElem hj), hQ _ (List.getElem_mem hj)⟩
theorem r_law_refusal (T : Tx K mg ec wa CB) : Rd P w K mg base "_law_refusal" 1 ["_law_caught"] (spRef K ec) := by
  obtain ⟨f, fd, Fn, hm, hb⟩ := T.law_refusal
  refine ⟨f, fd, Fn.okX sc_law_refusal (fun vs H Q E h => by obtain ⟨_, _, rfl, _⟩ := h; rfl) (fun cdv A outer s H vs Q E hr h => ?_), hm, Fn.kp, hb⟩
  obtain ⟨a, j, rfl, hH, hQ⟩ := h
  have isi := fun {X : Cx} {v : V} {e : Expr} (hx : PE X e (tC v)) => hx
  refine ⟨_, pss_cons (ps_if (pt_cmpR op_isN (pv 0) pe_non (nomark _)) (pss_one (ps_ret (pe_tup (pa_cons pe_str pa_nil)))) pss_nil)
    (pss_cons (ps_set (i := 1) sc_law_refusal.nd rfl (Or.inl rfl) (pe_lst (pa_cons (pe_callB call_isX (by rfl) T.b_isinstance (by decide +kernel) (pa_cons (pv 0) (pa_cons (pe_glob (v := .ref (ec .row)) rfl T.x_BadRow.m rfl) pa_nil)))
      (pa_cons (pe_callB call_isX (by rfl) T.b_isinstance (by decide +kernel) (pa_cons (pv 0) (pa_cons (pe_glob (v := .ref (ec .stretch)) rfl T.x_BadStretch.m rfl) pa_nil)))
      (pa_cons (pe_callB call_isX (by rfl) T.b_isinstance (by decide +kernel) (pa_cons (pv 0) (pa_cons (pe_glob (v := .ref (ec .size)) rfl T.x_BadSize.m rfl) pa_nil))) pa_nil)))))
    (pss_cons (ps_set (i := 1) sc_law_refusal.nd rfl (Or.inl rfl) (pe_op op_cat (pv 1) (pe_lst (pa_cons (pe_callB call_isX (by rfl) T.b_isinstance (by decide +kernel) (pa_cons (pv 0) (pa_cons (pe_glob (v := .ref (ec .told)) rfl T.x_BadTold.m rfl) pa_nil)))
      (pa_cons (pe_callB call_isX (by rfl) T.b_isinstance (by decide +kernel) (pa_cons (pv 0) (pa_cons (pe_glob (v := .ref (ec .norow)) rfl T.x_NoRow.m rfl) pa_nil)))
      (pa_cons (pe_callB call_isX (by rfl) T.b_isinstance (by decide +kernel) (pa_cons (pv 0) (pa_cons (pe_glob (v := .ref (ec .number)) rfl T.x_BadNumber.m rfl) pa_nil))) pa_nil))))))
    (pss_cons (ps_expr (pe_bm PySem.F.plainAttrs_list PySem.F.slot_list_append PySem.F.type_list_append mt_append (pv 1) (pa_cons (pe_callB call_isX (by rfl) T.b_isinstance (by decide +kernel) (pa_cons (pv 0) (pa_cons (pe_glob (v := .ref (ec .text)) rfl T.x_BadText.m rfl) pa_nil))) pa_nil)))
    (pss_cons (ps_if (PW.pt (pw_or (pt_cmpR op_ne (pe_bm PySem.F.plainAttrs_list PySem.F.slot_list_count PySem.F.type_list_count mt_countF (pv 1) (pa_cons pe_bl pa_nil)) pe_int (nomark _))
      (pw_or1 (pt_not (pt_truth (pe_callB call_isX (by rfl) T.b_isinstance (by decide +kernel) (pa_cons (pv 0) (pa_cons (pe_bltn (v := .ty "ValueError") (by rfl) T.b_ValueError (by decide +kernel) rfl) pa_nil))) (by intro _; rfl)))))) (pss_one (ps_ret (pe_tup (pa_cons pe_str pa_nil)))) pss_nil)
    (pss_cons (ps_set (i := 2) sc_law_refusal.nd rfl (Or.inl rfl) (pe_lst (pa_cons pe_str (pa_cons pe_str (pa_cons pe_str (pa_cons pe_str (pa_cons pe_str (pa_cons pe_str (pa_cons pe_str pa_nil)))))))))
    (pss_one (ps_ret (pe_tup (pa_cons pe_str (pa_cons (pe_ix ix_list (pv 2) (pe_bm PySem.F.plainAttrs_list PySem.F.slot_list_index PySem.F.type_list_index mt_index (pv 1) (pa_cons pe_bl pa_nil)) (fun _ _ => rfl)) pa_nil)))))))))), ?_⟩
  -- if caught is None
  refine ⟨_, rfl, rfl, _, rfl, iteF ?_⟩
  -- the first three
  refine isi_ok T.xt rfl hH (isi_ok T.xt rfl hH (isi_ok T.xt rfl hH ⟨by show 3 ≤ sizeLine; decide, fun p1 n1 => ?_⟩))
  have e1 : ∀ {o : HO}, upd H p1 o a = some (Exv (.ref (ec j)) a) := fun {o} => by rw [upd_ne (ne_of_none hH n1)]; exact hH
  refine ⟨_, rfl, ?_⟩
  refine isi_ok T.xt rfl e1 (isi_ok T.xt rfl e1 (isi_ok T.xt rfl e1 ⟨by show 3 ≤ sizeLine; decide, fun p2 n2 => ?_⟩))
  have e2 : ∀ {o : HO}, upd (upd H p1 (.lst [.bl (decide (j = .row)), .bl (decide (j = .stretch)), .bl (decide (j = .size))])) p2 o a = some (Exv (.ref (ec j)) a) := fun {o} => by rw [upd_ne (ne_of_none e1 n2)]; exact e1
  have p12 : p1 ≠ p2 := ne_of_none upd_same n2
  refine ⟨_, _, _, _, rfl, rfl, by rw [upd_ne p12]; exact upd_same, upd_same, by show 3 + 3 ≤ sizeLine; decide, fun p3 n3 => ?_⟩
  have e3 : ∀ {o : HO}, upd (upd (upd H p1 (.lst [.bl (decide (j = .row)), .bl (decide (j = .stretch)), .bl (decide (j = .size))])) p2 (.lst [.bl (decide (j = .told)), .bl (decide (j = .norow)), .bl (decide (j = .number))])) p3 o a = some (Exv (.ref (ec j)) a) := fun {o} => by rw [upd_ne (ne_of_none e2 n3)]; exact e2
  -- append
  refine ⟨_, rfl, .inl ⟨rfl, _, .inl (.inl upd_same)⟩, ?_⟩
  refine isi_ok T.xt rfl e3 ⟨p3, _, _, rfl, rfl, upd_same, by show 6 < sizeLine; decide, ?_⟩
  rw [upd_upd]
  -- count
  refine ⟨_, rfl, .inl ⟨rfl, _, .inl (.inl upd_same)⟩, ⟨p3, _, _, rfl, rfl, .inl (.inl upd_same), rfl, rfl, ?_⟩⟩
  have hc : (([V.bl (decide (j = .row)), .bl (decide (j = .stretch)), .bl (decide (j = .size))] ++ [V.bl (decide (j = .told)), .bl (decide (j = .norow)), .bl (decide (j = .number))] ++ [V.bl (decide (j = .text))]).countP fun z => eqV z (.bl true)) = 1 := by
    cases j <;> rfl
  rw [hc]
  refine ⟨rfl, _, rfl, iteNS rfl ?_⟩
  refine isi_okV T.xt rfl e3 ⟨true, rfl, iteF ?_⟩
  refine ⟨by show 7 ≤ sizeLine; decide, fun p4 n4 => ?_⟩
  have p34 : p3 ≠ p4 := ne_of_none upd_same n4
  refine ⟨_, rfl, _, rfl, .inl ⟨rfl, _, .inl (.inl (by rw [upd_ne p34]; exact upd_same))⟩, ?_⟩
  have sm : ∀ {o o5 : HO}, Same H (upd (upd (upd (upd H p1 (.lst [.bl (decide (j = .row)), .bl (decide (j = .stretch)), .bl (decide (j = .size))])) p2 (.lst [.bl (decide (j = .told)), .bl (decide (j = .norow)), .bl (decide (j = .number))])) p3 o) p4 o5) := by
    intro o o5 b u hb
    have h1 := same_new (o := .lst [.bl (decide (j = .row)), .bl (decide (j = .stretch)), .bl (decide (j = .size))]) n1 b u hb
    have h2 := same_new (o := .lst [.bl (decide (j = .told)), .bl (decide (j = .norow)), .bl (decide (j = .number))]) n2 b u h1
    have h3 := same_new (o := o) n3 b u h2
    have n4' : upd (upd (upd H p1 (.lst [.bl (decide (j = .row)), .bl (decide (j = .stretch)), .bl (decide (j = .size))])) p2 (.lst [.bl (decide (j = .told)), .bl (decide (j = .norow)), .bl (decide (j = .number))])) p3 o p4 = none := by
      rw [upd_ne (Ne.symm p34)]
      rw [upd_ne (Ne.symm p34)] at n4
      exact n4
    exact same_new (o := o5) n4' b u h3
  have hi : ∃ i : Nat, (∃ z, ([V.bl (decide (j = .row)), .bl (decide (j = .stretch)), .bl (decide (j = .size))] ++ [V.bl (decide (j = .told)), .bl (decide (j = .norow)), .bl (decide (j = .number))] ++ [V.bl (decide (j = .text))])[i]? = some z ∧ eqV z (.bl true) = true) ∧
      (∀ (m : Nat) (z' : V), m < i → ([V.bl (decide (j = .row)), .bl (decide (j = .stretch)), .bl (decide (j = .size))] ++ [V.bl (decide (j = .told)), .bl (decide (j = .norow)), .bl (decide (j = .number))] ++ [V.bl (decide (j = .text))])[m]? = some z' → eqV z' (.bl true) = false) ∧
      [V.str "row", .str "stretch", .str "size", .str "told", .str "no row", .str "number", .str "text"][i]? = some (.str (Str.ofString (kdWord j))) := by
    cases j
    · exact ⟨0, ⟨_, rfl, rfl⟩, fun m z' h => by omega, rfl⟩
    · exact ⟨1, ⟨_, rfl, rfl⟩, fun m z' h e => by match m, h with | 0, _ => cases e; rfl, rfl⟩
    · exact ⟨2, ⟨_, rfl, rfl⟩, fun m z' h e => by match m, h with | 0, _ | 1, _ => cases e; rfl, rfl⟩
    · exact ⟨3, ⟨_, rfl, rfl⟩, fun m z' h e => by match m, h with | 0, _ | 1, _ | 2, _ => cases e; rfl, rfl⟩
    · exact ⟨4, ⟨_, rfl, rfl⟩, fun m z' h e => by match m, h with | 0, _ | 1, _ | 2, _ | 3, _ => cases e; rfl, rfl⟩
    · exact ⟨5, ⟨_, rfl, rfl⟩, fun m z' h e => by match m, h with | 0, _ | 1, _ | 2, _ | 3, _ | 4, _ => cases e; rfl, rfl⟩
    · exact ⟨6, ⟨_, rfl, rfl⟩, fun m z' h e => by match m, h with | 0, _ | 1, _ | 2, _ | 3, _ | 4, _ | 5, _ => cases e; rfl, rfl⟩
  obtain ⟨i, ⟨z, hz1, hz2⟩, hno, hw⟩ := hi
  refine ⟨_, _, _, i, z, rfl, rfl, .inl (.inl (by rw [upd_ne p34]; exact upd_same)), rfl, rfl, hz1, hz2, hno, ?_⟩
  refine ⟨_, _, _, _, rfl, rfl, .inl (.inl upd_same), atI_nat hw, by show 2 ≤ sizeLine; decide, fun p5 n5 => ?_⟩
  refine hQ _ _ (fun b u hb => same_new n5 b u (sm b u hb)) fun Pc hP => .tup (.inl (.inl (hide_some.mpr ⟨fun q => ?_, upd_same⟩))) (.cons (.str _) (.cons (.str _) .nil))
  cases z : H p5 with
  | none => exact hP p5 q z
  | some u =>
    have e5 := n5.symm.trans (sm p5 u z)
    cases e5
/-- a drawn row -/
def F_law_row : List D → W D := fun ds Q _ n => ∃ m w : Int, ds = [.int m, .int w] ∧ 0 < m ∧ m ≤ 100 ∧ 0 ≤ w ∧ n < 800000 ∧ ∀ (L : Nat) (r : List Int), 1 ≤ L → (L : Int) ≤ m → isRow (w + 1) L r → Q (eR r) (n + 1 + L)
theorem r_law_row (T : Tx K mg ec wa CB) : Rd P w K mg base "_law_row" 4 ["_law_script", "_law_town", "_law_most", "_law_worth"] (spD K (ekOf ec) true 2 F_law_row) := by
  refine T.law_row.ok sc_law_row (r := 1) rfl rfl (fun f cdv A outer s H E hr => ?_)
  have tk := takes_of (X := cxOf (L2.CX P w) P w K mg base N_law_row "_law_row" (defScope s_law_row) f cdv A outer s H E) (E := E) rfl rfl rfl rfl
  refine ⟨_, _, (pss_one (ps_ret (pe_lc (own := [("_law_k", 4)]) rfl sc_law_row.nd (pi_range1 rfl T.b_range (pa_cons (pe_op op_addG pe_int (pe_callD (r_law_draw T) (hr.mono (by decide)) rfl (pass_in tk) (pa_cons (pv 0) (pa_cons (pv 1) (pa_cons (pv 2) pa_nil))))) pa_nil)) (blkOk_by (N := N_law_row) (sc := defScope s_law_row) (by decide +kernel)) (fun _ _ _ _ _ => (pg_name (i := 4) sc_law_row.nd rfl (Or.inl rfl))) (fun _ _ _ _ _ => pts_nil) (fun _ _ _ _ _ => (pe_callD (r_law_draw T) (hr.mono (by decide)) rfl pass_blk (pa_cons (pv 0) (pa_cons (pv 1) (pa_cons (pe_op op_addG (pv 3) pe_int) pa_nil)))))))), (dst_ret (df_lc (di_rng1 (da_cons (dt_op dr_add dt_int (dt_callT (da_cons dt_var da_nil))) da_nil)) (dg_name (by decide)) db_yes (dt_callT (da_cons (dt_op dr_add dt_var dt_int) da_nil)) (by decide)).dt), ?_⟩
  intro ds Qd Ed n hl hF
  obtain ⟨m, w, rfl, hm, hm2, hw, hn, hQ⟩ := hF
  walk_at "wb"
  refine ⟨rfl, m, rfl, hm, by omega, fun d h0 h1 => ?_⟩
  refine ⟨by omega, by omega, by rw [rngD_len]; omega, ?_⟩
  refine lcL_draw (w + 1) (fun d hd => ⟨_, rfl, fun Q n hn h => ?_⟩) (by rw [rngD_len]; omega) fun r hr => ?_
  · walk_at "wb"
    exact ⟨rfl, _, rfl, by omega, hn, h⟩
  · rw [rngD_len] at hr ⊢
    exact hQ _ r (by omega) (by omega) hr
def o_told1 (kind : Nat) (row : List Int) (one other : Int) : Except Kd D := match kind with
  | 0 => o_greatest row one other
  | 1 => o_least row one other
  | 2 => o_greatest_by row other
  | 3 => o_least_by row other
  | _ => o_reach row one
def F_law_told : List D → W D := fun ds Q _ n => ∃ (k : Nat) (row : List Int) (one other : Int), ds = [.int k, eR row, .int one, .int other] ∧ k < 5 ∧ row.length ≤ 1000 ∧ Q (toD (o_told1 k row one other)) n
theorem r_law_told (T : Tx K mg ec wa CB) : Rd P w K mg base "_law_told" 4 ["_law_kind", "_law_row_here", "_law_one", "_law_other"] (spD K (ekOf ec) false 4 F_law_told) := by
  refine T.law_told.ok sc_law_told (r := 3) rfl rfl (fun f cdv A outer s H E hr => ?_)
  have tk := takes_of (X := cxOf (L2.CX P w) P w K mg base N_law_told "_law_told" (defScope s_law_told) f cdv A outer s H E) (E := E) rfl rfl rfl rfl
  refine ⟨_, _, (pss_cons (ps_set (i := 4) sc_law_told.nd rfl (Or.inl rfl) pe_non) (pss_cons (ps_set (i := 5) sc_law_told.nd rfl (Or.inl rfl) pe_non) (pss_cons (ps_try_keep (i := 6) (j := 4) rfl rfl sc_law_told.nd rfl rfl rfl rfl ⟨rfl, rfl, .inl T.x_BackError⟩ tk rfl rfl rfl (fun _ => rfl) (fun W pn xe tk2 _ => (pss_one (ps_if (pt_cmpR op_lt (pv 0) pe_int (nomark _)) (pss_one (ps_set (i := 5) sc_law_told.nd rfl (Or.inl rfl) (pe_ifExp (pt_cmpR (op_eqD hr.units) (pv 0) pe_int (nomark _)) (pe_callD (r_greatest T) (hr.mono (by decide)) rfl (pass_in tk2) (pa_cons (pv 1) (pa_cons (pv 2) (pa_cons (pv 3) pa_nil)))) (pe_callD (r_least T) (hr.mono (by decide)) rfl (pass_in tk2) (pa_cons (pv 1) (pa_cons (pv 2) (pa_cons (pv 3) pa_nil))))))) (pss_one (ps_if (pt_cmpR op_lt (pv 0) pe_int (nomark _)) (pss_one (ps_set (i := 5) sc_law_told.nd rfl (Or.inl rfl) (pe_ifExp (pt_cmpR (op_eqD hr.units) (pv 0) pe_int (nomark _)) (pe_callD (r_greatest_by T) (hr.mono (by decide)) rfl (pass_in tk2) (pa_cons (pv 1) (pa_cons (pv 3) pa_nil))) (pe_callD (r_least_by T) (hr.mono (by decide)) rfl (pass_in tk2) (pa_cons (pv 1) (pa_cons (pv 3) pa_nil)))))) (pss_one (ps_set (i := 5) sc_law_told.nd rfl (Or.inl rfl) (pe_callD (r_reach T) (hr.mono (by decide)) rfl (pass_in tk2) (pa_cons (pv 1) (pa_cons (pv 2) pa_nil))))))))))) (pss_one (ps_ret (pe_ifExp (pt_cmpR op_isN (pv 4) pe_non (nomark _)) (pv 5) (pe_callD (r_law_refusal T) (hr.mono (by decide)) rfl (pass_in tk) (pa_cons (pv 4) pa_nil)))))))), (dst_told (i := 6) (c := 4) (f := 5) (l := 7) (by decide) (by decide) T.xt.exm (fun W => (dst_if (db_test (dt_op dr_lt dt_var dt_int)) (dst_set (by decide) (dt_if (db_test (dt_op dr_eq dt_var dt_int)) (dt_callP (da_cons dt_var (da_cons dt_var (da_cons dt_var da_nil)))) (dt_callP (da_cons dt_var (da_cons dt_var (da_cons dt_var da_nil)))))) (dst_if (db_test (dt_op dr_lt dt_var dt_int)) (dst_set (by decide) (dt_if (db_test (dt_op dr_eq dt_var dt_int)) (dt_callP (da_cons dt_var (da_cons dt_var da_nil))) (dt_callP (da_cons dt_var (da_cons dt_var da_nil))))) (dst_set (by decide) (dt_callP (da_cons dt_var (da_cons dt_var da_nil))))))) dt_var), ?_⟩
  intro ds Qd Ed n hl hF
  obtain ⟨k, row, one, other, rfl, hk, hlen, hQ⟩ := hF
  walk_at "wb"
  refine ⟨rfl, ?_⟩
  match k, hk with
  | 0, _ => exact ⟨rfl, rfl, rfl, row, one, other, rfl, hlen, out_toD hQ⟩
  | 1, _ => exact ⟨rfl, rfl, rfl, row, one, other, rfl, hlen, out_toD hQ⟩
  | 2, _ => exact ⟨rfl, rfl, rfl, row, other, rfl, hlen, out_toD hQ⟩
  | 3, _ => exact ⟨rfl, rfl, rfl, row, other, rfl, hlen, out_toD hQ⟩
  | 4, _ => exact ⟨rfl, row, one, rfl, hlen, out_toD hQ⟩
  | k + 5, h => omega
def due1 (kind : Nat) (row : List Int) (one other : Int) : D := match kind with
  | 0 => toD (o_greatest row one other)
  | 1 => toD (o_least row one other)
  | 2 => toD (o_greatest_by row other)
  | 3 => toD (o_least_by row other)
  | _ => toD (o_reach row one)
def F_law_due : List D → W D := fun ds Q _ n => ∃ (k : Nat) (row : List Int) (one other : Int), ds = [.int k, eR row, .int one, .int other] ∧ k < 5 ∧ rowOk row = true ∧ Q (due1 k row one other) n
theorem rowOk_len {row : List Int} (h : rowOk row = true) : 1 ≤ row.length ∧ row.length ≤ 8 := by
  unfold rowOk at h
  rw [Bool.and_eq_true] at h
  exact of_decide_eq_true h.1
theorem ahead_eq (row : List Int) (v : Int) : ∀ p, p ≤ row.length → p - upto v (row.take p).reverse = (((List.range p).filter fun k => decide (v < row.getD k 0)).getLast?).elim 0 (· + 1)
  | 0, _ => by simp
  | p + 1, h => by
    have ih := ahead_eq row v p (by omega)
    rw [take_succ_rev row (by omega), upto_cons, List.range_succ, List.filter_append]
    have hu : upto v (row.take p).reverse ≤ p := by
      unfold upto
      refine Nat.le_trans (List.Sublist.length_le (List.takeWhile_sublist _)) ?_
      rw [List.length_reverse, List.length_take]; omega
    by_cases q : row.getD p 0 ≤ v
    · have e : [p].filter (fun k => decide (v < row.getD k 0)) = [] := by
        rw [List.filter_cons_of_neg (by simpa using q)]; rfl
      rw [if_pos q, e, List.append_nil, ← ih]
      omega
    · have e : [p].filter (fun k => decide (v < row.getD k 0)) = [p] := by
        rw [List.filter_cons_of_pos (by simpa using q)]; rfl
      rw [if_neg q, e, List.getLast?_append]
      simp
theorem behind_eq (v : Int) : ∀ (l : List Int) (f : Nat) (get : Nat → Int), (∀ i, i < l.length → get (f + i) = l.getD i 0) → f + upto v l = (((List.range l.length).filter fun i => decide (v < get (f + i))).head?).elim (f + l.length) (f + ·)
  | [], f, get, _ => by simp [upto]
  | x :: l, f, get, h => by
    have ih := behind_eq v l (f + 1) get fun i hi => by
      have := h (i + 1) (by simp; omega)
      rw [show f + 1 + i = f + (i + 1) from by omega, this]
      simp
    have h0 := h 0 (by simp)
    rw [upto_cons, List.length_cons, List.range_succ_eq_map]
    have h0' : get f = x := by simpa using h0
    by_cases q : x ≤ v
    · rw [if_pos q, List.filter_cons_of_neg (by rw [Nat.add_zero, h0']; simpa using q), List.filter_map, List.head?_map]
      have e : ((fun i => decide (v < get (f + i))) ∘ Nat.succ) = fun i => decide (v < get (f + 1 + i)) := by
        funext i
        show decide (v < get (f + (i + 1))) = _
        rw [show f + (i + 1) = f + 1 + i from by omega]
      rw [e]
      cases z : ((List.range l.length).filter fun i => decide (v < get (f + 1 + i))).head? with
      | none => rw [z] at ih; simp at ih ⊢; omega
      | some y => rw [z] at ih; simp at ih ⊢; omega
    · rw [if_neg q, List.filter_cons_of_pos (by rw [Nat.add_zero, h0']; simpa using q)]
      simp
theorem r_law_due (T : Tx K mg ec wa CB) : Rd P w K mg base "_law_due" 1 ["_law_kind", "_law_row_here", "_law_one", "_law_other"] (spD K (ekOf ec) false 4 F_law_due) := by
  refine T.law_due.ok sc_law_due (r := 4) rfl rfl (fun f cdv A outer s H E hr => ?_)
  have tk := takes_of (X := cxOf (L2.CX P w) P w K mg base N_law_due "_law_due" (defScope s_law_due) f cdv A outer s H E) (E := E) rfl rfl rfl rfl
  refine ⟨_, _, (pss_cons (ps_set (i := 4) sc_law_due.nd rfl (Or.inl rfl) (pe_callB call_len (by rfl) T.b_len PySem.boot_len (pa_cons (pv 1) pa_nil))) (pss_cons (ps_if (pt_cmpR op_lt (pv 0) pe_int (nomark _)) (pss_cons (ps_if (PW.pt (pw_or (pt_cmpR op_lt (pv 2) pe_int (nomark _)) (pw_or (pt_cmpR op_gt (pv 2) (pv 3) (nomark _)) (pw_or1 (pt_cmpR op_ge (pv 3) (pv 4) (nomark _)))))) (pss_one (ps_ret (pe_tup (pa_cons pe_str (pa_cons pe_str pa_nil))))) pss_nil) (pss_one (ps_ret (pe_ix ix_seq (pe_callB cr_sortedI (by rfl) T.b_sorted (by decide +kernel) (pa_cons (pe_slice sl_G (pv 1) (po_some (pv 2)) (po_some (pe_op op_addG (pv 3) pe_int))) pa_nil)) (pe_op op_sub pe_int (pe_callTy call_int1 (by rfl) T.b_int (by decide +kernel) (pa_cons (pe_cmpR (op_eqD hr.units) (pv 0) pe_int (nomark _)) pa_nil))) (fun _ _ => rfl))))) pss_nil) (pss_cons (ps_if (pt_cmpR op_lt (pv 0) pe_int (nomark _)) (pss_cons (ps_if (PW.pt (pw_or (pt_cmpR op_lt (pv 3) pe_int (nomark _)) (pw_or1 (pt_cmpR op_gt (pv 3) (pv 4) (nomark _))))) (pss_one (ps_ret (pe_tup (pa_cons pe_str (pa_cons pe_str pa_nil))))) pss_nil) (pss_one (ps_ret (pe_lc (own := [("_law_k", 7)]) rfl sc_law_due.nd (pi_range1 rfl T.b_range (pa_cons (pe_op op_addG (pe_op op_sub (pv 4) (pv 3)) pe_int) pa_nil)) (blkOk_by (N := N_law_due) (sc := defScope s_law_due) (by decide +kernel)) (fun _ _ _ _ _ => (pg_name (i := 7) sc_law_due.nd rfl (Or.inl rfl))) (fun _ _ _ _ _ => pts_nil) (fun _ _ _ _ _ => (pe_ix ix_seq (pe_callB cr_sortedI (by rfl) T.b_sorted (by decide +kernel) (pa_cons (pe_slice sl_G (pv 1) (po_some (pv 7)) (po_some (pe_op op_addG (pv 7) (pv 3)))) pa_nil)) (pe_op op_sub pe_int (pe_callTy call_int1 (by rfl) T.b_int (by decide +kernel) (pa_cons (pe_cmpR (op_eqD hr.units) (pv 0) pe_int (nomark _)) pa_nil))) (fun _ _ => rfl))))))) pss_nil) (pss_cons (ps_if (PW.pt (pw_or (pt_cmpR op_lt (pv 2) pe_int (nomark _)) (pw_or1 (pt_cmpR op_ge (pv 2) (pv 4) (nomark _))))) (pss_one (ps_ret (pe_tup (pa_cons pe_str (pa_cons pe_str pa_nil))))) pss_nil) (pss_cons (ps_setLc (i := 5) (g := _) (own := [("_law_k", 7)]) rfl sc_law_due.nd rfl rfl (sw_true rfl rfl rfl (by decide +kernel)) (pi_range1 rfl T.b_range (pa_cons (pv 2) pa_nil)) (blkOk_by (N := N_law_due) (sc := defScope s_law_due) (by decide +kernel)) (fun _ _ _ _ _ => (pg_name (i := 7) sc_law_due.nd rfl (Or.inl rfl))) (fun _ _ _ _ _ => (pts_one (pt_cmpR op_gt (pe_ix ix_seq (pv 1) (pv 7) (fun _ _ => rfl)) (pe_ix ix_seq (pv 1) (pv 2) (fun _ _ => rfl)) (nomark _)))) (fun _ _ _ _ _ => (pv 7))) (pss_cons (ps_setLc (i := 6) (g := _) (own := [("_law_k", 7)]) rfl sc_law_due.nd rfl rfl (sw_true rfl rfl rfl (by decide +kernel)) (pi_range2 rfl T.b_range (pa_cons (pv 2) (pa_cons (pv 4) pa_nil))) (blkOk_by (N := N_law_due) (sc := defScope s_law_due) (by decide +kernel)) (fun _ _ _ _ _ => (pg_name (i := 7) sc_law_due.nd rfl (Or.inl rfl))) (fun _ _ _ _ _ => (pts_one (pt_cmpR op_gt (pe_ix ix_seq (pv 1) (pv 7) (fun _ _ => rfl)) (pe_ix ix_seq (pv 1) (pv 2) (fun _ _ => rfl)) (nomark _)))) (fun _ _ _ _ _ => (pv 7))) (pss_one (ps_ret (pe_tup (pa_cons (pe_ifExp (pt_cmpR (op_neD hr.units) (pv 5) (pe_lst pa_nil) (nomark _)) (pe_op op_addG (pe_ix ix_seq (pv 5) (pe_un un_neg pe_int) (fun _ _ => rfl)) pe_int) pe_int) (pa_cons (pe_ifExp (pt_cmpR (op_neD hr.units) (pv 6) (pe_lst pa_nil) (nomark _)) (pe_op op_sub (pe_ix ix_seq (pv 6) pe_int (fun _ _ => rfl)) pe_int) (pe_op op_sub (pv 4) pe_int)) pa_nil))))))))))), (dst_seq (dst_set (by decide) (dt_cb dc_len (da_cons dt_var da_nil))) (dst_seq (dst_if (db_test (dt_op dr_lt dt_var dt_int)) (dst_seq (dst_if (db_or (db_test (dt_op dr_lt dt_var dt_int)) (db_or (db_test (dt_op dr_gt dt_var dt_var)) (db_test (dt_op dr_ge dt_var dt_var)))) (dst_ret (dt_tup (da_cons dt_str (da_cons dt_str da_nil)))) dst_next) (dst_ret (dt_op dr_ix (df_cb dcf_sorted (da_cons (dt_slice dt_var (do_some dt_var) (do_some (dt_op dr_add dt_var dt_int))) da_nil)).dt (dt_op dr_sub dt_int (dt_cb dc_int1 (da_cons (dt_op dr_eq dt_var dt_int) da_nil)))))) dst_next) (dst_seq (dst_if (db_test (dt_op dr_lt dt_var dt_int)) (dst_seq (dst_if (db_or (db_test (dt_op dr_lt dt_var dt_int)) (db_test (dt_op dr_gt dt_var dt_var))) (dst_ret (dt_tup (da_cons dt_str (da_cons dt_str da_nil)))) dst_next) (dst_ret (df_lc (di_rng1 (da_cons (dt_op dr_add (dt_op dr_sub dt_var dt_var) dt_int) da_nil)) (dg_name (by decide)) db_yes (dt_op dr_ix (df_cb dcf_sorted (da_cons (dt_slice dt_var (do_some dt_var) (do_some (dt_op dr_add dt_var dt_var))) da_nil)).dt (dt_op dr_sub dt_int (dt_cb dc_int1 (da_cons (dt_op dr_eq dt_var dt_int) da_nil)))) (by decide)).dt)) dst_next) (dst_seq (dst_if (db_or (db_test (dt_op dr_lt dt_var dt_int)) (db_test (dt_op dr_ge dt_var dt_var))) (dst_ret (dt_tup (da_cons dt_str (da_cons dt_str da_nil)))) dst_next) (dst_seq (dst_set (by decide) (df_lc (di_rng1 (da_cons dt_var da_nil)) (dg_name (by decide)) (db_test (dt_op dr_gt (dt_op dr_ix dt_var dt_var) (dt_op dr_ix dt_var dt_var))) dt_var (by decide)).dt) (dst_seq (dst_set (by decide) (df_lc (di_rng2 (da_cons dt_var (da_cons dt_var da_nil))) (dg_name (by decide)) (db_test (dt_op dr_gt (dt_op dr_ix dt_var dt_var) (dt_op dr_ix dt_var dt_var))) dt_var (by decide)).dt) (dst_ret (dt_tup (da_cons (dt_if (db_test (dt_op dr_ne dt_var (df_lst da_nil).dt)) (dt_op dr_add (dt_op dr_ix dt_var (dt_un du_neg dt_int)) dt_int) dt_int) (da_cons (dt_if (db_test (dt_op dr_ne dt_var (df_lst da_nil).dt)) (dt_op dr_sub (dt_op dr_ix dt_var dt_int) dt_int) (dt_op dr_sub dt_var dt_int)) da_nil)))))))))), ?_⟩
  intro ds Qd Ed n hl hF
  obtain ⟨k, row, one, other, rfl, hk, hr, hQ⟩ := hF
  obtain ⟨hl1, hl2⟩ := rowOk_len hr
  have ref : toD (.error .stretch) = .tuple [.str "refused", .str "stretch"] := rfl
  walk_at "wb"
  walk_at "ws"
  refine ⟨fun k2 => ?_, fun k2 => ⟨fun k4 => ?_, fun k4 => ?_⟩⟩
  · -- greatest, least
    have due : ∀ (q : 0 ≤ one ∧ one ≤ other ∧ other < row.length), due1 k row one other = .int (if k = 0 then mxL (sl row one other) else mnL (sl row one other)) := fun q => by
      match k, k2 with
      | 0, _ => show toD (o_greatest row one other) = _; rw [o_greatest, if_pos hr, if_pos q, if_pos rfl]; rfl
      | 1, _ => show toD (o_least row one other) = _; rw [o_least, if_pos hr, if_pos q, if_neg (by decide)]; rfl
      | k + 2, h => omega
    have dueN : ∀ (q : ¬ (0 ≤ one ∧ one ≤ other ∧ other < row.length)), due1 k row one other = .tuple [.str "refused", .str "stretch"] := fun q => by
      match k, k2 with
      | 0, _ => show toD (o_greatest row one other) = _; rw [o_greatest, if_pos hr, if_neg q]; rfl
      | 1, _ => show toD (o_least row one other) = _; rw [o_least, if_pos hr, if_neg q]; rfl
      | k + 2, h => omega
    refine ⟨fun a => ?_, fun a => ⟨fun b => ?_, fun b => ⟨fun c => ?_, fun c => ?_⟩⟩⟩
    · rw [dueN (by omega)] at hQ; exact ⟨by simp, hQ⟩
    · rw [dueN (by omega)] at hQ; exact ⟨by simp, hQ⟩
    · rw [dueN (by omega)] at hQ; exact ⟨by simp, hQ⟩
    · have q : 0 ≤ one ∧ one ≤ other ∧ other < row.length := by omega
      rw [due q] at hQ
      rw [cutG_map]
      refine ⟨sl row one other, rfl, fun ns' hp hs => ⟨(shp_int (k := 0) _).ok, (shp_int (k := 0) _).ok, ?_⟩⟩
      rw [eqv_int]
      walk_at "wb"
      by_cases k0 : k = 0
      · subst k0
        rw [if_pos rfl] at hQ
        exact ⟨_, sorted_last hp hs (sl_ne q.1 q.2.1 q.2.2), hQ⟩
      · rw [if_neg k0] at hQ
        have e : decide ((k : Int) = 0) = false := decide_eq_false (by omega)
        rw [e]
        exact ⟨_, sorted_first hp hs (sl_ne q.1 q.2.1 q.2.2), hQ⟩
  · -- all windows
    have k2' : k = 2 ∨ k = 3 := by omega
    have due : ∀ (q : 1 ≤ other ∧ other ≤ row.length), due1 k row one other = eR ((List.range (row.length - other + 1).toNat).map fun i : Nat => if k = 2 then mxL (cutG row (some (i : Int)) (some ((i : Int) + other))) else mnL (cutG row (some (i : Int)) (some ((i : Int) + other)))) := fun q => by
      rcases k2' with rfl | rfl
      · show toD (o_greatest_by row other) = _; rw [o_greatest_by, if_pos hr, if_pos q]; rfl
      · show toD (o_least_by row other) = _; rw [o_least_by, if_pos hr, if_pos q]; rfl
    have dueN : ∀ (q : ¬ (1 ≤ other ∧ other ≤ row.length)), due1 k row one other = .tuple [.str "refused", .str "stretch"] := fun q => by
      rcases k2' with rfl | rfl
      · show toD (o_greatest_by row other) = _; rw [o_greatest_by, if_pos hr, if_neg q]; rfl
      · show toD (o_least_by row other) = _; rw [o_least_by, if_pos hr, if_neg q]; rfl
    refine ⟨fun a => ?_, fun a => ⟨fun b => ?_, fun b => ?_⟩⟩
    · rw [dueN (by omega)] at hQ; exact ⟨by simp, hQ⟩
    · rw [dueN (by omega)] at hQ; exact ⟨by simp, hQ⟩
    · rw [due (by omega)] at hQ
      refine ⟨by omega, by omega, by rw [rngD_len]; omega, ?_⟩
      rw [rngD_map]
      refine lcL_m (fun i : Nat => .int (if k = 2 then mxL (cutG row (some (i : Int)) (some ((i : Int) + other))) else mnL (cutG row (some (i : Int)) (some ((i : Int) + other))))) (fun i hi => ⟨_, rfl, fun Q E n h => ?_⟩) (by
        unfold eR at hQ
        rw [List.map_map] at hQ
        exact hQ)
      walk_at "wb"
      rw [cutG_map, Int.zero_add]
      rw [List.mem_range] at hi
      have ne : cutG row (some (i : Int)) (some ((i : Int) + other)) ≠ [] := by
        rw [cut_nat row (by omega) (by omega) (by omega)]
        refine List.ne_nil_of_length_pos ?_
        rw [List.length_take, List.length_drop]
        omega
      refine ⟨_, rfl, fun ns' hp hs => ⟨(shp_int (k := 0) _).ok, (shp_int (k := 0) _).ok, ?_⟩⟩
      rw [eqv_int]
      walk_at "wb"
      rcases k2' with rfl | rfl
      · exact ⟨_, sorted_last hp hs ne, h⟩
      · exact ⟨_, sorted_first hp hs ne, h⟩
  · -- reach
    have hk4 : k = 4 := by omega
    subst hk4
    have dueN : ∀ (q : ¬ (0 ≤ one ∧ one < row.length)), due1 4 row one other = .tuple [.str "refused", .str "stretch"] := fun q => by
      show toD (o_reach row one) = _; rw [o_reach, if_pos hr, if_neg q]; rfl
    refine ⟨fun a => ?_, fun a => ⟨fun b => ?_, fun b => ?_⟩⟩
    · rw [dueN (by omega)] at hQ; exact ⟨by simp, hQ⟩
    · rw [dueN (by omega)] at hQ; exact ⟨by simp, hQ⟩
    · obtain ⟨p, rfl⟩ := Int.eq_ofNat_of_zero_le (show 0 ≤ one by omega)
      have hp : p < row.length := by omega
      have due : due1 4 row p other = .tuple [.int (reachL row p), .int (reachR row p)] := by
        show toD (o_reach row p) = _; rw [o_reach, if_pos hr, if_pos (by omega)]; rfl
      rw [due] at hQ
      have tst : ∀ (i : Nat), i < row.length → ∀ (r1 : Slot) (r2 r3 : Slot), Does ((fun ρ : Rho =>
          wbind (wbind (wbind (wbind (getV ρ 1) fun x => wbind (getV ρ 7) fun y => wop (ixD x y)) fun x =>
              wbind (wbind (getV ρ 1) fun x => wbind (getV ρ 2) fun y => wop (ixD x y)) fun y =>
                wop (intD0 (fun i j => PyData.bool (decide (j < i))) x y)) fun x => wop (asBool x)) wret)
          [Slot.v (.int (4 : Nat)), .v (.list (row.map .int)), .v (.int p), .v (.int other), r1, r2, r3, .v (.int i)]) (decide (row.getD p 0 < row.getD i 0)) := by
        intro i hi r1 r2 r3 Q E n h
        walk_at "wb"
        exact ⟨_, atI_row hi, _, atI_row hp, h⟩
      refine ⟨by omega, by omega, by rw [rngD_len]; omega, ?_⟩
      rw [rngD_map]
      refine lcL_fm (fun i : Nat => decide (row.getD p 0 < row.getD i 0)) (fun i : Nat => .int (i : Int)) (fun i hi => ⟨_, rfl, fun Q E n h => ?_, fun _ Q E n h => ?_⟩) ?_
      · rw [List.mem_range] at hi
        rw [Int.zero_add]
        exact tst i (by omega) _ _ _ Q E n h
      · rw [Int.zero_add]; exact h
      refine ⟨by omega, by omega, by omega, by omega, by rw [rngD_len]; omega, ?_⟩
      rw [rngD_map]
      refine lcL_fm (fun i : Nat => decide (row.getD p 0 < row.getD (p + i) 0)) (fun i : Nat => .int ((p + i : Nat) : Int)) (fun i hi => ⟨_, rfl, fun Q E n h => ?_, fun _ Q E n h => ?_⟩) ?_
      · rw [List.mem_range] at hi
        rw [show (p : Int) + (i : Int) = ((p + i : Nat) : Int) from by omega]
        exact tst (p + i) (by omega) _ _ _ Q E n h
      · rw [show (p : Int) + (i : Int) = ((p + i : Nat) : Int) from by omega]; exact h
      have A := ahead_eq row (row.getD p 0) p (by omega)
      have Bh := behind_eq (row.getD p 0) (row.drop p) p (fun i => row.getD i 0) fun i hi => by
        rw [List.getD_eq_getElem?_getD, List.getD_eq_getElem?_getD, List.getElem?_drop]
      have eqL : reachL row p = ((p - upto (row.getD p 0) (row.take p).reverse : Nat) : Int) := rfl
      have eqR : reachR row p = ((p + upto (row.getD p 0) (row.drop (p + 1)) : Nat) : Int) := rfl
      have hup : upto (row.getD p 0) (row.drop p) = upto (row.getD p 0) (row.drop (p + 1)) + 1 := by
        rw [drop_getD row hp, upto_cons, if_pos (Int.le_refl _)]
      rw [List.length_drop] at Bh
      have eN : ((row.length : Int) - (p : Int)).toNat = row.length - p := by omega
      have eN2 : ((p : Int)).toNat = p := by omega
      rw [eN, eN2]
      generalize hF : (List.range p).filter (fun i => decide (row.getD p 0 < row.getD i 0)) = F at A ⊢
      generalize hG : (List.range (row.length - p)).filter (fun i => decide (row.getD p 0 < row.getD (p + i) 0)) = G at Bh ⊢
      have sF : SeqAt.shaped (.list (F.map fun i : Nat => PyData.int (i : Int))) = true := (shp_list (k := 0) fun d hd => by obtain ⟨i, _, rfl⟩ := List.mem_map.mp hd; exact shp_int _).ok
      have sG : SeqAt.shaped (.list (G.map fun i : Nat => PyData.int ((p + i : Nat) : Int))) = true := (shp_list (k := 0) fun d hd => by obtain ⟨i, _, rfl⟩ := List.mem_map.mp hd; exact shp_int _).ok
      have s0 : SeqAt.shaped (.list []) = true := (shp_nil (k := 0)).ok
      refine ⟨by simp, sF, s0, ?_⟩
      rw [eqv_nil]
      have gN : G = [] → reachR row p = (row.length : Int) - 1 := fun z => by
        subst z
        simp only [List.head?_nil, Option.elim_none] at Bh
        rw [eqR]; omega
      have gC : ∀ g G', G = g :: G' → reachR row p = ((p + g : Nat) : Int) - 1 := fun g G' z => by
        subst z
        simp only [List.head?_cons, Option.elim_some] at Bh
        rw [eqR]; omega
      cases F with
      | nil =>
        have L0 : reachL row p = 0 := by rw [eqL, A]; rfl
        rw [L0] at hQ
        walk_at "wb"
        walk_at "ws"
        refine ⟨fun z => by simp at z, fun _ => ⟨by simp, sG, s0, ?_⟩⟩
        rw [eqv_nil]
        cases G with
        | nil =>
          rw [gN rfl] at hQ
          exact ⟨fun z => by simp at z, fun _ => ⟨by simp, hQ⟩⟩
        | cons g G =>
          rw [gC g G rfl] at hQ
          exact ⟨fun _ => ⟨_, atI_0 _, by simp, hQ⟩, fun z => by simp at z⟩
      | cons y r =>
        have hx : (y :: r).getLast? = some ((y :: r).getLast (by simp)) := List.getLast?_eq_some_getLast (by simp)
        generalize (y :: r).getLast (by simp) = x at hx
        rw [hx] at A
        have L0 : reachL row p = (x : Int) + 1 := by rw [eqL, A]; simp
        rw [L0] at hQ
        walk_at "wb"
        walk_at "ws"
        refine ⟨fun _ => ⟨.int x, by rw [atI_neg1]; show ((y :: r).map fun i : Nat => PyData.int (i : Int)).getLast? = _; rw [List.getLast?_map, hx]; rfl, ?_⟩, fun z => by simp at z⟩
        walk_at "wb"
        refine ⟨by simp, sG, s0, ?_⟩
        rw [eqv_nil]
        cases G with
        | nil =>
          rw [gN rfl] at hQ
          exact ⟨fun z => by simp at z, fun _ => ⟨by simp, hQ⟩⟩
        | cons g G =>
          rw [gC g G rfl] at hQ
          exact ⟨fun _ => ⟨_, atI_0 _, by simp, hQ⟩, fun z => by simp at z⟩
end
end WB
set_option Elab.async false
set_option linter.all false
set_option maxRecDepth 100000
set_option maxHeartbeats 4000000
namespace WB
open PySem PySem.Spec L2
local macro_rules | `(tactic| walk_at "wb") => `(tactic| first | simp only [cond_app, wbind, wret, wop, getV, ini, opn, Bool.cond_true, Bool.cond_false, cond_true, cond_false, List.map_cons, List.map_nil, List.cons_append, List.nil_append, List.replicate_succ, List.replicate_zero, List.append_nil, List.getElem?_cons_zero, List.getElem?_cons_succ, asBool, asList, asInt, addD, intD, intD0, lenD, truD, ixD, slD, isNo, isNoD, isNotNoD, negD, rng1D, rng2D, listD, tupD, wipeR, eR, eRs, getO, frz, mulD, List.set_cons_zero, List.set_cons_succ, tg1] | skip)
local macro_rules | `(tactic| walk_at "ws") => `(tactic| first | simp only [cond_prop, decide_eq_true_eq, decide_eq_false_iff_not, Bool.not_eq_true', Bool.not_eq_false', Bool.and_eq_true, Bool.and_eq_false_iff, Bool.or_eq_true, Bool.or_eq_false_iff, len_ints, List.length_map, true_implies, false_implies, and_true, true_and, reduceCtorEq, Bool.not_true, Bool.not_false, forall_const, Bool.false_eq_true, Bool.true_eq_false] | skip)
local macro_rules | `(tactic| walk_at "wo") => `(tactic| first | simp only [out_ok, out_err] | skip)
section
variable {P : Program} {w : World} {K : PySem.W.Frag} {mg : Str → Option Value} {base : Heap} {ec : Kd → Addr} {wa CB : Addr}
theorem told_eq1 {k : Nat} {row : List Int} {a b : Int} : toD (o_told1 k row a b) = due1 k row a b := by
  match k with
  | 0 => rfl
  | 1 => rfl
  | 2 => rfl
  | 3 => rfl
  | k + 4 => rfl
theorem shp_due1 (k : Nat) (row : List Int) (a b : Int) : shp 1 (due1 k row a b) := by
  rw [← told_eq1]
  match k with
  | 0 =>
    show shp 1 (toD (o_greatest row a b))
    unfold o_greatest
    split
    · split
      · exact shp_int _
      · exact shp_eRef _
    · exact shp_eRef _
  | 1 =>
    show shp 1 (toD (o_least row a b))
    unfold o_least
    split
    · split
      · exact shp_int _
      · exact shp_eRef _
    · exact shp_eRef _
  | 2 =>
    show shp 1 (toD (o_greatest_by row b))
    unfold o_greatest_by
    split
    · split
      · exact shp_eR _
      · exact shp_eRef _
    · exact shp_eRef _
  | 3 =>
    show shp 1 (toD (o_least_by row b))
    unfold o_least_by
    split
    · split
      · exact shp_eR _
      · exact shp_eRef _
    · exact shp_eRef _
  | k + 4 =>
    show shp 1 (toD (o_reach row a))
    unfold o_reach
    split
    · split
      · exact shp_tup fun d hd => by
          rcases List.mem_cons.mp hd with rfl | hd
          · exact shp_int _
          · rw [List.mem_singleton.mp hd]; exact shp_int _
      · exact shp_eRef _
    · exact shp_eRef _
theorem isRow_ok {m : Int} {L : Nat} {r : List Int} (h : isRow m L r) (hm : m ≤ 10) (h1 : 1 ≤ L) (h2 : L ≤ 8) : rowOk r = true := by
  unfold rowOk
  rw [decide_eq_true ⟨by rw [h.1]; exact h1, by rw [h.1]; exact h2⟩, Bool.true_and]
  exact List.all_eq_true.mpr fun x hx => by
    have := h.2 x hx
    exact decide_eq_true (by omega)
theorem told_bad1 {k : Nat} (hk : k < 5) {row : List Int} (h : rowOk row = false) : toD (o_told1 k row (-1) (-1)) = eRef .row := by
  have hn : ¬ rowOk row = true := by rw [h]; exact Bool.false_ne_true
  match k, hk with
  | 0, _ => show toD (o_greatest row _ _) = _; rw [o_greatest, if_neg hn]; rfl
  | 1, _ => show toD (o_least row _ _) = _; rw [o_least, if_neg hn]; rfl
  | 2, _ => show toD (o_greatest_by row _) = _; rw [o_greatest_by, if_neg hn]; rfl
  | 3, _ => show toD (o_least_by row _) = _; rw [o_least_by, if_neg hn]; rfl
  | 4, _ => show toD (o_reach row _) = _; rw [o_reach, if_neg hn]; rfl
  | k + 5, h => omega
theorem law_fn (T : Tx K mg ec wa CB) {f : Addr} {fd : FuncData} (Fn : Fun K "law" "law" s_law f fd) : FnOk P w K mg base (L2.CX P w) 5 f fd ["_law_script"] (spLaw K) := by
  refine law_ok (ek := ekOf ec) Fn sc_law (r := 9) rfl rfl (fun cdv A outer s H E hr => ?_)
  have tk := takes_of (X := cxOf (L2.CX P w) P w K mg base N_law "law" (defScope s_law) f cdv A outer s H E) (E := E) rfl rfl rfl rfl
  refine ⟨ps_set (i := 1) sc_law.nd rfl (Or.inl rfl) (pe_lst pa_nil), _, _, (pss_cons (ps_set (i := 2) sc_law.nd rfl (Or.inl rfl) (pe_callD (r_law_row T) (hr.mono (by decide)) rfl (pass_in tk) (pa_cons (pv 0) (pa_cons (pv 1) (pa_cons pe_int (pa_cons (pe_callD (r_law_pick T) (hr.mono (by decide)) rfl (pass_in tk) (pa_cons (pv 0) (pa_cons (pv 1) (pa_cons (pe_lst (pa_cons pe_int (pa_cons pe_int (pa_cons pe_int pa_nil)))) pa_nil)))) pa_nil)))))) (pss_cons (ps_set (i := 3) sc_law.nd rfl (Or.inl rfl) (pe_callTy call_list_of (by rfl) T.b_list (by decide +kernel) (pa_cons (pv 2) pa_nil))) (pss_cons (ps_for (passes_of rfl) rfl (pi_range1 rfl T.b_range (pa_cons pe_int pa_nil)) (pg_name (i := 4) sc_law.nd rfl (Or.inl rfl)) (pss_cons (ps_set (i := 7) sc_law.nd rfl (Or.inl rfl) (pe_op op_sub (pe_callD (r_law_draw T) (hr.mono (by decide)) rfl (pass_in tk) (pa_cons (pv 0) (pa_cons (pv 1) (pa_cons pe_int pa_nil)))) pe_int)) (pss_cons (ps_set (i := 8) sc_law.nd rfl (Or.inl rfl) (pe_op op_sub (pe_callD (r_law_draw T) (hr.mono (by decide)) rfl (pass_in tk) (pa_cons (pv 0) (pa_cons (pv 1) (pa_cons pe_int pa_nil)))) pe_int)) (pss_one (ps_for (passes_of rfl) rfl (pi_range1 rfl T.b_range (pa_cons pe_int pa_nil)) (pg_name (i := 9) sc_law.nd rfl (Or.inl rfl)) (pss_cons (ps_set (i := 10) sc_law.nd rfl (Or.inl rfl) (pe_callD (r_law_due T) (hr.mono (by decide)) rfl (pass_in tk) (pa_cons (pv 9) (pa_cons (pv 2) (pa_cons (pv 7) (pa_cons (pv 8) pa_nil)))))) (pss_one (ps_if (PW.pt (pw_or (pt_cmpR (op_neD hr.units) (pe_callD (r_law_told T) (hr.mono (by decide)) rfl (pass_in tk) (pa_cons (pv 9) (pa_cons (pv 2) (pa_cons (pv 7) (pa_cons (pv 8) pa_nil))))) (pv 10) (nomark _)) (pw_or1 (pt_cmpR (op_neD hr.units) (pv 2) (pv 3) (nomark _))))) (pss_one (ps_ret pe_bl)) pss_nil)))))))) (pss_cons (ps_set (i := 5) sc_law.nd rfl (Or.inl rfl) (pe_slice sl_G (pv 2) po_none (po_some pe_int))) (pss_cons (ps_expr (pe_bm PySem.F.plainAttrs_list PySem.F.slot_list_insert PySem.F.type_list_insert mt_insert (pv 5) (pa_cons (pe_callD (r_law_draw T) (hr.mono (by decide)) rfl (pass_in tk) (pa_cons (pv 0) (pa_cons (pv 1) (pa_cons (pe_op op_addG (pe_callB call_len (by rfl) T.b_len PySem.boot_len (pa_cons (pv 5) pa_nil)) pe_int) pa_nil)))) (pa_cons (pe_callD (r_law_pick T) (hr.mono (by decide)) rfl (pass_in tk) (pa_cons (pv 0) (pa_cons (pv 1) (pa_cons (pe_lst (pa_cons (pe_un un_neg pe_int) (pa_cons pe_int pa_nil))) pa_nil)))) pa_nil)))) (pss_cons (ps_for (passes_of rfl) rfl (pi_list (pe_lst (pa_cons (pv 5) (pa_cons (pe_lst pa_nil) (pa_cons (pe_op op_mulG (pe_lst (pa_cons pe_int pa_nil)) pe_int) pa_nil))))) (pg_name (i := 6) sc_law.nd rfl (Or.inr rfl)) (pss_one (ps_if (pt_cmpR (op_neD hr.units) (pe_lc (own := [("_law_kind", 9)]) rfl sc_law.nd (pi_range1 rfl T.b_range (pa_cons pe_int pa_nil)) (blkOk_by (N := N_law) (sc := defScope s_law) (by decide +kernel)) (fun _ _ _ _ _ => (pg_name (i := 9) sc_law.nd rfl (Or.inl rfl))) (fun _ _ _ _ _ => pts_nil) (fun _ _ _ _ _ => (pe_callD (r_law_told T) (hr.mono (by decide)) rfl pass_blk (pa_cons (pv 9) (pa_cons (pv 6) (pa_cons (pe_un un_neg pe_int) (pa_cons (pe_un un_neg pe_int) pa_nil))))))) (pe_op op_mulG (pe_lst (pa_cons (pe_tup (pa_cons pe_str (pa_cons pe_str pa_nil))) pa_nil)) pe_int) (nomark _)) (pss_one (ps_ret pe_bl)) pss_nil))) (pss_one (ps_ret (pe_and (pe_cmpR (op_eqD hr.units) (pe_callD (r_law_told T) (hr.mono (by decide)) rfl (pass_in tk) (pa_cons pe_int (pa_cons (pe_op op_mulG (pe_lst (pa_cons pe_int pa_nil)) pe_int) (pa_cons pe_int (pa_cons pe_int pa_nil))))) pe_int (nomark _)) (pe_one (pe_cmpR (op_eqD hr.units) (pe_callD (r_law_told T) (hr.mono (by decide)) rfl (pass_in tk) (pa_cons pe_int (pa_cons (pe_op op_mulG (pe_lst (pa_cons pe_int pa_nil)) pe_int) (pa_cons pe_int (pa_cons pe_int pa_nil))))) (pe_lst (pa_cons pe_int pa_nil)) (nomark _)))))))))))), (dst_seq (dst_set (by decide) (dt_callT (da_cons dt_int (da_cons (dt_callT (da_cons (df_lst (da_cons dt_int (da_cons dt_int (da_cons dt_int da_nil)))).dt da_nil)) da_nil)))) (dst_seq (dst_set (by decide) (df_cb dcf_list (da_cons dt_var da_nil)).dt) (dst_seq (dst_forO (dio_rng1 (da_cons dt_int da_nil)) (dgs_name (by decide)) (dst_seq (dst_set (by decide) (dt_op dr_sub (dt_callT (da_cons dt_int da_nil)) dt_int)) (dst_seq (dst_set (by decide) (dt_op dr_sub (dt_callT (da_cons dt_int da_nil)) dt_int)) (dst_forO (dio_rng1 (da_cons dt_int da_nil)) (dgs_name (by decide)) (dst_seq (dst_set (by decide) (dt_callP (da_cons dt_var (da_cons dt_var (da_cons dt_var (da_cons dt_var da_nil)))))) (dst_if (db_or (db_test (dt_op dr_ne (dt_callP (da_cons dt_var (da_cons dt_var (da_cons dt_var (da_cons dt_var da_nil))))) dt_var)) (db_test (dt_op dr_ne dt_var dt_var))) (dst_ret dt_bl) dst_next)))))) (dst_seq (dst_own (by decide) (df_slice dt_var do_none (do_some dt_int))) (dst_seq (dst_ins (dt_callT (da_cons (dt_op dr_add (dt_cb dc_len (da_cons dt_var da_nil)) dt_int) da_nil)) (dt_callT (da_cons (df_lst (da_cons (dt_un du_neg dt_int) (da_cons dt_int da_nil))).dt da_nil))) (dst_seq (dst_frz 5 (dst_for (di_list (df_lst (da_cons dt_var (da_cons (df_lst da_nil).dt (da_cons (dt_op dr_mul (df_lst (da_cons dt_int da_nil)).dt dt_int) da_nil)))).dt) (dgs_name (by decide)) (dst_if (db_test (dt_op dr_ne (df_lc (di_rng1 (da_cons dt_int da_nil)) (dg_name (by decide)) db_yes (dt_callP (da_cons dt_var (da_cons dt_var (da_cons (dt_un du_neg dt_int) (da_cons (dt_un du_neg dt_int) da_nil))))) (by decide)).dt (dt_op dr_mul (df_lst (da_cons (dt_tup (da_cons dt_str (da_cons dt_str da_nil))) da_nil)).dt dt_int))) (dst_ret dt_bl) dst_next))) (dst_ret (dt_andV (dt_op dr_eq (dt_callP (da_cons dt_int (da_cons (dt_op dr_mul (df_lst (da_cons dt_int da_nil)).dt dt_int) (da_cons dt_int (da_cons dt_int da_nil))))) dt_int) (dt_op dr_eq (dt_callP (da_cons dt_int (da_cons (dt_op dr_mul (df_lst (da_cons dt_int da_nil)).dt dt_int) (da_cons dt_int (da_cons dt_int da_nil))))) (df_lst (da_cons dt_int da_nil)).dt))))))))), ?_⟩
  walk_at "wb"
  refine ⟨by simp, rfl, _, rfl, by simp, by simp, by omega, fun a ha => ?_⟩
  have hw : ∃ w : Int, a = .int w ∧ 0 ≤ w ∧ w ≤ 9 := by
    simp only [List.mem_cons, List.not_mem_nil, or_false] at ha
    rcases ha with rfl | rfl | rfl
    · exact ⟨9, rfl, by omega, by omega⟩
    · exact ⟨3, rfl, by omega, by omega⟩
    · exact ⟨1, rfl, by omega, by omega⟩
  obtain ⟨w, rfl, hw0, hw1⟩ := hw
  refine ⟨rfl, 8, w, rfl, by omega, by omega, hw0, by omega, fun L row hL1 hL2 hrow => ?_⟩
  have hok : rowOk row = true := isRow_ok hrow (by omega) hL1 (by omega)
  have hlen : row.length ≤ 8 := by rw [hrow.1]; omega
  walk_at "wb"
  refine ⟨by omega, by omega, ?_⟩
  refine forL_rng (fun i ρ n => n ≤ 10 + 2 * i ∧ ∃ a4 a5 a6 a7 a8 a9 a10, ρ = [.no, .no, .v (eR row), .v (eR row), a4, a5, a6, a7, a8, a9, a10]) ⟨by omega, _, _, _, _, _, _, _, rfl⟩ ?_ ?_
  · rintro i ρ n N hi ⟨hn, a4, a5, a6, a7, a8, a9, a10, rfl⟩ hN
    refine ⟨_, rfl, ?_⟩
    walk_at "wb"
    refine ⟨rfl, 11, rfl, by omega, by omega, fun one h0 h1 => ?_⟩
    walk_at "wb"
    refine ⟨rfl, 11, rfl, by omega, by omega, fun other h2 h3 => ?_⟩
    walk_at "wb"
    refine ⟨by omega, by omega, ?_⟩
    refine forL_rng (fun j ρ n' => n' ≤ 12 + 2 * i ∧ ∃ b4 b5 b6 b9 b10, ρ = [.no, .no, .v (eR row), .v (eR row), b4, b5, b6, .v (.int (one - 1)), .v (.int (other - 1)), b9, b10]) ⟨by omega, _, _, _, _, _, rfl⟩ ?_ ?_
    · rintro j ρ n' N' hj ⟨hn', b4, b5, b6, b9, b10, rfl⟩ hN'
      refine ⟨_, rfl, ?_⟩
      walk_at "wb"
      rw [Int.zero_add]
      refine ⟨rfl, j, row, one - 1, other - 1, rfl, hj, hok, ?_⟩
      walk_at "wb"
      refine ⟨rfl, j, row, one - 1, other - 1, rfl, hj, by omega, ?_⟩
      rw [told_eq1]
      refine neD_refl (shp_due1 _ _ _ _) ?_
      walk_at "wb"
      refine neD_refl (shp_eR row) ?_
      walk_at "wb"
      exact hN' _ _ ⟨hn', _, _, _, _, _, rfl⟩
    · rintro ρ n' ⟨hn', b4, b5, b6, b9, b10, rfl⟩
      exact hN _ _ ⟨by omega, _, _, _, _, _, _, _, rfl⟩
  · rintro ρ n ⟨hn, a4, a5, a6, a7, a8, a9, a10, rfl⟩
    walk_at "wb"
    have ecut : cutG (row.map PyData.int) none (some 7) = (row.take 7).map PyData.int := by
      rw [cutG_map]
      exact congrArg _ (cut_to row 7)
    rw [ecut]
    refine ⟨by simp, rfl, _, rfl, by omega, by omega, fun j0 hj0 hj1 => ⟨by simp, rfl, _, rfl, by simp, by simp, by omega, fun x hx => ?_⟩⟩
    have hx' : ∃ y : Int, x = .int y ∧ (y = -1 ∨ y = 10) := by
      simp only [List.mem_cons, List.not_mem_nil, or_false] at hx
      rcases hx with rfl | rfl
      · exact ⟨-1, rfl, .inl rfl⟩
      · exact ⟨10, rfl, .inr rfl⟩
    obtain ⟨y, rfl, hy⟩ := hx'
    have hl7 : (row.take 7).length ≤ 7 := by rw [List.length_take]; omega
    refine ⟨by rw [List.length_map]; omega, hj0, by rw [List.length_map] at hj1; omega, ?_⟩
    have ebad : ((row.take 7).map PyData.int).take j0.toNat ++ [.int y] ++ ((row.take 7).map PyData.int).drop j0.toNat = ((row.take 7).take j0.toNat ++ [y] ++ (row.take 7).drop j0.toNat).map PyData.int := by
      simp
    rw [ebad]
    generalize hbad : (row.take 7).take j0.toNat ++ [y] ++ (row.take 7).drop j0.toNat = bad
    have bad0 : rowOk bad = false := by
      unfold rowOk
      have : (bad.all fun x => decide (0 ≤ x ∧ x ≤ 9)) = false := by
        rw [← hbad, List.all_append, List.all_append]
        have : ([y].all fun x => decide (0 ≤ x ∧ x ≤ 9)) = false := by
          rcases hy with rfl | rfl <;> rfl
        rw [this, Bool.and_false, Bool.false_and]
      rw [this, Bool.and_false]
    have bad1 : bad.length ≤ 1000 := by
      rw [← hbad, List.length_append, List.length_append, List.length_take, List.length_drop]
      simp; omega
    walk_at "wb"
    refine ⟨by simp, by simp, by simp, by omega, by omega, by simp, ?_⟩
    refine forL_inv (xs := [bad, [], List.replicate 9 0]) (enc := eR) (fun i ρ n => ∃ c2 c3 c4 c5 c6 c7 c8 c9 c10, ρ = [.no, .no, c2, c3, c4, c5, c6, c7, c8, c9, c10]) ⟨_, _, _, _, _, _, _, _, _, rfl⟩ ?_ ?_
    · rintro i wr ρ n1 N hwr ⟨c2, c3, c4, c5, c6, c7, c8, c9, c10, rfl⟩ hN
      have hw : rowOk wr = false ∧ wr.length ≤ 1000 := by
        match i, hwr with
        | 0, h => cases h; exact ⟨bad0, bad1⟩
        | 1, h => cases h; exact ⟨rfl, by simp⟩
        | 2, h => cases h; exact ⟨rfl, by simp⟩
      refine ⟨_, rfl, ?_⟩
      walk_at "wb"
      refine ⟨by omega, by omega, by rw [rngD_len]; decide, ?_⟩
      rw [rngD_map]
      refine lcL_m (fun _ : Nat => eRef .row) (fun i hi => ⟨_, rfl, fun Q E n h => ?_⟩) ?_
      · walk_at "wb"
        rw [List.mem_range] at hi
        have hi : i < 5 := hi
        refine ⟨rfl, i, wr, -1, -1, by rw [Int.zero_add]; rfl, hi, hw.2, ?_⟩
        rw [told_bad1 hi hw.1]
        exact h
      · refine ⟨by simp, by simp, by simp, by omega, by omega, ?_⟩
        refine (show neD (.list (List.replicate 5 (eRef .row))) (.list (List.replicate 5 (eRef .row))) _ from neD_refl (shp_eqs (shp_eRef _)) ?_)
        walk_at "wb"
        exact hN _ _ ⟨_, _, _, _, _, _, _, _, _, rfl⟩
    · rintro ρ n1 ⟨c2, c3, c4, c5, c6, c7, c8, c9, c10, rfl⟩
      walk_at "wb"
      refine ⟨by simp, by simp, by omega, by omega, rfl, 0, List.replicate 8 9, 0, 7, rfl, by omega, by simp, ?_⟩
      have e1 : toD (o_told1 0 (List.replicate 8 9) 0 7) = .int 9 := by rfl
      rw [e1]
      refine eqD_refl (shp_int (k := 0) _) ?_
      walk_at "wb"
      refine ⟨by simp, by simp, by omega, by omega, rfl, 2, List.replicate 8 0, 0, 8, rfl, by omega, by simp, ?_⟩
      have e2 : toD (o_told1 2 (List.replicate 8 0) 0 8) = eR [0] := by rfl
      rw [e2]
      walk_at "wb"
      refine ⟨by simp, eqD_refl (shp_eR [0]) rfl⟩
end
end WB
set_option Elab.async false
set_option linter.all false
set_option maxRecDepth 100000
set_option maxHeartbeats 4000000
namespace WB
open PySem PySem.Spec L2
def ecOf (C_row C_stretch C_size C_told C_norow C_number C_text : Addr) : Kd → Addr
  | .row => C_row
  | .stretch => C_stretch
  | .size => C_size
  | .told => C_told
  | .norow => C_norow
  | .number => C_number
  | .text => C_text
theorem all_mk {l : PySem.W.OpenLaw} {w : World} {K : PySem.W.Frag} {h : Heap} {mg : Str → Option Value} {fa CB wa C_row C_stretch C_size C_told C_norow C_number C_text f0 f1 f2 f3 f4 f5 f6 f7 f8 f9 f10 f11 f12 f13 f14 f15 f16 : Addr} (X : K.In h) (G : h.Ns mainGlobals mg) (hfa : mg "law" = some (.ref fa))
    {od0 an0 od1 an1 od2 an2 od3 an3 od4 an4 od5 an5 od6 an6 od7 an7 od8 an8 od9 an9 od10 an10 od11 an11 od12 an12 od13 an13 od14 an14 od15 an15 od16 an16 : Option Addr} {sl0 sl1 sl2 sl3 sl4 sl5 sl6 sl7 sl8 sl9 sl10 sl11 sl12 sl13 sl14 sl15 sl16 : Array (Option Value)} {oc0 kV0 dc0 pm0 cd0 ct0 oc1 kV1 dc1 pm1 cd1 ct1 oc2 kV2 dc2 pm2 cd2 ct2 oc3 kV3 dc3 pm3 cd3 ct3 oc4 kV4 dc4 pm4 cd4 ct4 oc5 kV5 dc5 pm5 cd5 ct5 oc6 kV6 dc6 pm6 cd6 ct6 oc7 kV7 dc7 pm7 cd7 ct7 oc8 kV8 dc8 pm8 cd8 ct8 oc9 kV9 dc9 pm9 cd9 ct9 oc10 kV10 dc10 pm10 cd10 ct10 oc11 kV11 dc11 pm11 cd11 ct11 oc12 kV12 dc12 pm12 cd12 ct12 oc13 kV13 dc13 pm13 cd13 ct13 oc14 kV14 dc14 pm14 cd14 ct14 oc15 kV15 dc15 pm15 cd15 ct15 oc16 kV16 dc16 pm16 cd16 ct16 : Value}
    {t_MOST_SIZE t_MOST_WORTH : Tok}
    (a0 : PySem.W.nsIn K mainGlobals "look_row" = some (some (.ref f0)))
    (l0 : K.lookup f0 = some ⟨oc0, od0, .func (PySem.W.fnOf "look_row" "look_row" (defArgs s_look_row) (defBody s_look_row) (defScope s_look_row) .none kV0 dc0 pm0 an0 cd0 ct0), sl0⟩)
    (c0 : PySem.W.codeIn K cd0 "look_row" = true)
    (k0 : PySem.W.keepIn K (.ref f0) = true)
    (a1 : PySem.W.nsIn K mainGlobals "look_stretch" = some (some (.ref f1)))
    (l1 : K.lookup f1 = some ⟨oc1, od1, .func (PySem.W.fnOf "look_stretch" "look_stretch" (defArgs s_look_stretch) (defBody s_look_stretch) (defScope s_look_stretch) .none kV1 dc1 pm1 an1 cd1 ct1), sl1⟩)
    (c1 : PySem.W.codeIn K cd1 "look_stretch" = true)
    (k1 : PySem.W.keepIn K (.ref f1) = true)
    (a2 : PySem.W.nsIn K mainGlobals "greatest" = some (some (.ref f2)))
    (l2 : K.lookup f2 = some ⟨oc2, od2, .func (PySem.W.fnOf "greatest" "greatest" (defArgs s_greatest) (defBody s_greatest) (defScope s_greatest) .none kV2 dc2 pm2 an2 cd2 ct2), sl2⟩)
    (c2 : PySem.W.codeIn K cd2 "greatest" = true)
    (k2 : PySem.W.keepIn K (.ref f2) = true)
    (a3 : PySem.W.nsIn K mainGlobals "least" = some (some (.ref f3)))
    (l3 : K.lookup f3 = some ⟨oc3, od3, .func (PySem.W.fnOf "least" "least" (defArgs s_least) (defBody s_least) (defScope s_least) .none kV3 dc3 pm3 an3 cd3 ct3), sl3⟩)
    (c3 : PySem.W.codeIn K cd3 "least" = true)
    (k3 : PySem.W.keepIn K (.ref f3) = true)
    (a4 : PySem.W.nsIn K mainGlobals "look_width" = some (some (.ref f4)))
    (l4 : K.lookup f4 = some ⟨oc4, od4, .func (PySem.W.fnOf "look_width" "look_width" (defArgs s_look_width) (defBody s_look_width) (defScope s_look_width) .none kV4 dc4 pm4 an4 cd4 ct4), sl4⟩)
    (c4 : PySem.W.codeIn K cd4 "look_width" = true)
    (k4 : PySem.W.keepIn K (.ref f4) = true)
    (a5 : PySem.W.nsIn K mainGlobals "greatest_by" = some (some (.ref f5)))
    (l5 : K.lookup f5 = some ⟨oc5, od5, .func (PySem.W.fnOf "greatest_by" "greatest_by" (defArgs s_greatest_by) (defBody s_greatest_by) (defScope s_greatest_by) .none kV5 dc5 pm5 an5 cd5 ct5), sl5⟩)
    (c5 : PySem.W.codeIn K cd5 "greatest_by" = true)
    (k5 : PySem.W.keepIn K (.ref f5) = true)
    (a6 : PySem.W.nsIn K mainGlobals "least_by" = some (some (.ref f6)))
    (l6 : K.lookup f6 = some ⟨oc6, od6, .func (PySem.W.fnOf "least_by" "least_by" (defArgs s_least_by) (defBody s_least_by) (defScope s_least_by) .none kV6 dc6 pm6 an6 cd6 ct6), sl6⟩)
    (c6 : PySem.W.codeIn K cd6 "least_by" = true)
    (k6 : PySem.W.keepIn K (.ref f6) = true)
    (a7 : PySem.W.nsIn K mainGlobals "reach" = some (some (.ref f7)))
    (l7 : K.lookup f7 = some ⟨oc7, od7, .func (PySem.W.fnOf "reach" "reach" (defArgs s_reach) (defBody s_reach) (defScope s_reach) .none kV7 dc7 pm7 an7 cd7 ct7), sl7⟩)
    (c7 : PySem.W.codeIn K cd7 "reach" = true)
    (k7 : PySem.W.keepIn K (.ref f7) = true)
    (a8 : PySem.W.nsIn K mainGlobals "_law_cell" = some (some (.ref f8)))
    (l8 : K.lookup f8 = some ⟨oc8, od8, .func (PySem.W.fnOf "_law_cell" "_law_cell" (defArgs s_law_cell) (defBody s_law_cell) (defScope s_law_cell) .none kV8 dc8 pm8 an8 cd8 ct8), sl8⟩)
    (c8 : PySem.W.codeIn K cd8 "_law_cell" = true)
    (k8 : PySem.W.keepIn K (.ref f8) = true)
    (a9 : PySem.W.nsIn K mainGlobals "_law_mix" = some (some (.ref f9)))
    (l9 : K.lookup f9 = some ⟨oc9, od9, .func (PySem.W.fnOf "_law_mix" "_law_mix" (defArgs s_law_mix) (defBody s_law_mix) (defScope s_law_mix) .none kV9 dc9 pm9 an9 cd9 ct9), sl9⟩)
    (c9 : PySem.W.codeIn K cd9 "_law_mix" = true)
    (k9 : PySem.W.keepIn K (.ref f9) = true)
    (a10 : PySem.W.nsIn K mainGlobals "_law_draw" = some (some (.ref f10)))
    (l10 : K.lookup f10 = some ⟨oc10, od10, .func (PySem.W.fnOf "_law_draw" "_law_draw" (defArgs s_law_draw) (defBody s_law_draw) (defScope s_law_draw) .none kV10 dc10 pm10 an10 cd10 ct10), sl10⟩)
    (c10 : PySem.W.codeIn K cd10 "_law_draw" = true)
    (k10 : PySem.W.keepIn K (.ref f10) = true)
    (a11 : PySem.W.nsIn K mainGlobals "_law_pick" = some (some (.ref f11)))
    (l11 : K.lookup f11 = some ⟨oc11, od11, .func (PySem.W.fnOf "_law_pick" "_law_pick" (defArgs s_law_pick) (defBody s_law_pick) (defScope s_law_pick) .none kV11 dc11 pm11 an11 cd11 ct11), sl11⟩)
    (c11 : PySem.W.codeIn K cd11 "_law_pick" = true)
    (k11 : PySem.W.keepIn K (.ref f11) = true)
    (a12 : PySem.W.nsIn K mainGlobals "_law_refusal" = some (some (.ref f12)))
    (l12 : K.lookup f12 = some ⟨oc12, od12, .func (PySem.W.fnOf "_law_refusal" "_law_refusal" (defArgs s_law_refusal) (defBody s_law_refusal) (defScope s_law_refusal) .none kV12 dc12 pm12 an12 cd12 ct12), sl12⟩)
    (c12 : PySem.W.codeIn K cd12 "_law_refusal" = true)
    (k12 : PySem.W.keepIn K (.ref f12) = true)
    (a13 : PySem.W.nsIn K mainGlobals "_law_row" = some (some (.ref f13)))
    (l13 : K.lookup f13 = some ⟨oc13, od13, .func (PySem.W.fnOf "_law_row" "_law_row" (defArgs s_law_row) (defBody s_law_row) (defScope s_law_row) .none kV13 dc13 pm13 an13 cd13 ct13), sl13⟩)
    (c13 : PySem.W.codeIn K cd13 "_law_row" = true)
    (k13 : PySem.W.keepIn K (.ref f13) = true)
    (a14 : PySem.W.nsIn K mainGlobals "_law_told" = some (some (.ref f14)))
    (l14 : K.lookup f14 = some ⟨oc14, od14, .func (PySem.W.fnOf "_law_told" "_law_told" (defArgs s_law_told) (defBody s_law_told) (defScope s_law_told) .none kV14 dc14 pm14 an14 cd14 ct14), sl14⟩)
    (c14 : PySem.W.codeIn K cd14 "_law_told" = true)
    (k14 : PySem.W.keepIn K (.ref f14) = true)
    (a15 : PySem.W.nsIn K mainGlobals "_law_due" = some (some (.ref f15)))
    (l15 : K.lookup f15 = some ⟨oc15, od15, .func (PySem.W.fnOf "_law_due" "_law_due" (defArgs s_law_due) (defBody s_law_due) (defScope s_law_due) .none kV15 dc15 pm15 an15 cd15 ct15), sl15⟩)
    (c15 : PySem.W.codeIn K cd15 "_law_due" = true)
    (k15 : PySem.W.keepIn K (.ref f15) = true)
    (a16 : PySem.W.nsIn K mainGlobals "law" = some (some (.ref f16)))
    (l16 : K.lookup f16 = some ⟨oc16, od16, .func (PySem.W.fnOf "law" "law" (defArgs s_law) (defBody s_law) (defScope s_law) .none kV16 dc16 pm16 an16 cd16 ct16), sl16⟩)
    (c16 : PySem.W.codeIn K cd16 "law" = true)
    (k16 : PySem.W.keepIn K (.ref f16) = true)
    (z_ValueError : PySem.W.nsIn K mainGlobals "ValueError" = some none)
    (z_all : PySem.W.nsIn K mainGlobals "all" = some none)
    (z_int : PySem.W.nsIn K mainGlobals "int" = some none)
    (z_isinstance : PySem.W.nsIn K mainGlobals "isinstance" = some none)
    (z_len : PySem.W.nsIn K mainGlobals "len" = some none)
    (z_list : PySem.W.nsIn K mainGlobals "list" = some none)
    (z_max : PySem.W.nsIn K mainGlobals "max" = some none)
    (z_min : PySem.W.nsIn K mainGlobals "min" = some none)
    (z_range : PySem.W.nsIn K mainGlobals "range" = some none)
    (z_sorted : PySem.W.nsIn K mainGlobals "sorted" = some none)
    (xa_row : PySem.W.nsIn K mainGlobals "BadRow" = some (some (.ref C_row)))
    (xi_row : PySem.W.excIn K C_row [.type "ValueError", .type "Exception", .type "BaseException", .type "object"] "ValueError.__new__" = true)
    (xk_row : PySem.W.keepIn K (.ref C_row) = true)
    (xs_row : PySem.W.subIn K (.ref C_row) (.type "BaseException") = some true)
    (xt_row : PySem.W.typeIn K (.ref C_row) = some (.type "type"))
    (xa_stretch : PySem.W.nsIn K mainGlobals "BadStretch" = some (some (.ref C_stretch)))
    (xi_stretch : PySem.W.excIn K C_stretch [.type "ValueError", .type "Exception", .type "BaseException", .type "object"] "ValueError.__new__" = true)
    (xk_stretch : PySem.W.keepIn K (.ref C_stretch) = true)
    (xs_stretch : PySem.W.subIn K (.ref C_stretch) (.type "BaseException") = some true)
    (xt_stretch : PySem.W.typeIn K (.ref C_stretch) = some (.type "type"))
    (xa_size : PySem.W.nsIn K mainGlobals "BadSize" = some (some (.ref C_size)))
    (xi_size : PySem.W.excIn K C_size [.type "ValueError", .type "Exception", .type "BaseException", .type "object"] "ValueError.__new__" = true)
    (xk_size : PySem.W.keepIn K (.ref C_size) = true)
    (xs_size : PySem.W.subIn K (.ref C_size) (.type "BaseException") = some true)
    (xt_size : PySem.W.typeIn K (.ref C_size) = some (.type "type"))
    (xa_told : PySem.W.nsIn K mainGlobals "BadTold" = some (some (.ref C_told)))
    (xi_told : PySem.W.excIn K C_told [.type "ValueError", .type "Exception", .type "BaseException", .type "object"] "ValueError.__new__" = true)
    (xk_told : PySem.W.keepIn K (.ref C_told) = true)
    (xs_told : PySem.W.subIn K (.ref C_told) (.type "BaseException") = some true)
    (xt_told : PySem.W.typeIn K (.ref C_told) = some (.type "type"))
    (xa_norow : PySem.W.nsIn K mainGlobals "NoRow" = some (some (.ref C_norow)))
    (xi_norow : PySem.W.excIn K C_norow [.type "ValueError", .type "Exception", .type "BaseException", .type "object"] "ValueError.__new__" = true)
    (xk_norow : PySem.W.keepIn K (.ref C_norow) = true)
    (xs_norow : PySem.W.subIn K (.ref C_norow) (.type "BaseException") = some true)
    (xt_norow : PySem.W.typeIn K (.ref C_norow) = some (.type "type"))
    (xa_number : PySem.W.nsIn K mainGlobals "BadNumber" = some (some (.ref C_number)))
    (xi_number : PySem.W.excIn K C_number [.type "ValueError", .type "Exception", .type "BaseException", .type "object"] "ValueError.__new__" = true)
    (xk_number : PySem.W.keepIn K (.ref C_number) = true)
    (xs_number : PySem.W.subIn K (.ref C_number) (.type "BaseException") = some true)
    (xt_number : PySem.W.typeIn K (.ref C_number) = some (.type "type"))
    (xa_text : PySem.W.nsIn K mainGlobals "BadText" = some (some (.ref C_text)))
    (xi_text : PySem.W.excIn K C_text [.type "ValueError", .type "Exception", .type "BaseException", .type "object"] "ValueError.__new__" = true)
    (xk_text : PySem.W.keepIn K (.ref C_text) = true)
    (xs_text : PySem.W.subIn K (.ref C_text) (.type "BaseException") = some true)
    (xt_text : PySem.W.typeIn K (.ref C_text) = some (.type "type"))
    (xa_B : PySem.W.nsIn K mainGlobals "BackError" = some (some (.ref CB)))
    (bs : PySem.W.subIn K (.ref CB) (.type "BaseException") = some true)
    (bd : PySem.W.hasDictIn K CB = true)
    (bt : PySem.W.typeIn K (.ref CB) = some (.type "type"))
    (oc_n : PySem.W.specialIn K (.builtin "object.__class__") "__get__" = some (some (.builtin "getset_descriptor.__get__")))
    (oc_t : PySem.W.takesIn K (.builtin "object.__class__") = some true)
    (eg_row : PySem.W.findIn K (.ref C_row) "__getattribute__" = some (some (.builtin "BaseException.__getattribute__")))
    (ek_row : PySem.W.findIn K (.ref C_row) "__getattr__" = some none)
    (ed_row : PySem.W.hasDictIn K C_row = true)
    (ea_row : PySem.W.findIn K (.ref C_row) "__class__" = some (some (.builtin "object.__class__")))
    (em_row : PySem.W.mroIn K C_row (.type "object") = some true)
    (ev_row : PySem.W.subIn K (.ref C_row) (.type "ValueError") = some true)
    (ex_row : PySem.W.subIn K (.ref C_row) (.ref CB) = some true)
    (e_row_row : PySem.W.subIn K (.ref C_row) (.ref C_row) = some true)
    (e_row_stretch : PySem.W.subIn K (.ref C_row) (.ref C_stretch) = some false)
    (e_row_size : PySem.W.subIn K (.ref C_row) (.ref C_size) = some false)
    (e_row_told : PySem.W.subIn K (.ref C_row) (.ref C_told) = some false)
    (e_row_norow : PySem.W.subIn K (.ref C_row) (.ref C_norow) = some false)
    (e_row_number : PySem.W.subIn K (.ref C_row) (.ref C_number) = some false)
    (e_row_text : PySem.W.subIn K (.ref C_row) (.ref C_text) = some false)
    (eg_stretch : PySem.W.findIn K (.ref C_stretch) "__getattribute__" = some (some (.builtin "BaseException.__getattribute__")))
    (ek_stretch : PySem.W.findIn K (.ref C_stretch) "__getattr__" = some none)
    (ed_stretch : PySem.W.hasDictIn K C_stretch = true)
    (ea_stretch : PySem.W.findIn K (.ref C_stretch) "__class__" = some (some (.builtin "object.__class__")))
    (em_stretch : PySem.W.mroIn K C_stretch (.type "object") = some true)
    (ev_stretch : PySem.W.subIn K (.ref C_stretch) (.type "ValueError") = some true)
    (ex_stretch : PySem.W.subIn K (.ref C_stretch) (.ref CB) = some true)
    (e_stretch_row : PySem.W.subIn K (.ref C_stretch) (.ref C_row) = some false)
    (e_stretch_stretch : PySem.W.subIn K (.ref C_stretch) (.ref C_stretch) = some true)
    (e_stretch_size : PySem.W.subIn K (.ref C_stretch) (.ref C_size) = some false)
    (e_stretch_told : PySem.W.subIn K (.ref C_stretch) (.ref C_told) = some false)
    (e_stretch_norow : PySem.W.subIn K (.ref C_stretch) (.ref C_norow) = some false)
    (e_stretch_number : PySem.W.subIn K (.ref C_stretch) (.ref C_number) = some false)
    (e_stretch_text : PySem.W.subIn K (.ref C_stretch) (.ref C_text) = some false)
    (eg_size : PySem.W.findIn K (.ref C_size) "__getattribute__" = some (some (.builtin "BaseException.__getattribute__")))
    (ek_size : PySem.W.findIn K (.ref C_size) "__getattr__" = some none)
    (ed_size : PySem.W.hasDictIn K C_size = true)
    (ea_size : PySem.W.findIn K (.ref C_size) "__class__" = some (some (.builtin "object.__class__")))
    (em_size : PySem.W.mroIn K C_size (.type "object") = some true)
    (ev_size : PySem.W.subIn K (.ref C_size) (.type "ValueError") = some true)
    (ex_size : PySem.W.subIn K (.ref C_size) (.ref CB) = some true)
    (e_size_row : PySem.W.subIn K (.ref C_size) (.ref C_row) = some false)
    (e_size_stretch : PySem.W.subIn K (.ref C_size) (.ref C_stretch) = some false)
    (e_size_size : PySem.W.subIn K (.ref C_size) (.ref C_size) = some true)
    (e_size_told : PySem.W.subIn K (.ref C_size) (.ref C_told) = some false)
    (e_size_norow : PySem.W.subIn K (.ref C_size) (.ref C_norow) = some false)
    (e_size_number : PySem.W.subIn K (.ref C_size) (.ref C_number) = some false)
    (e_size_text : PySem.W.subIn K (.ref C_size) (.ref C_text) = some false)
    (eg_told : PySem.W.findIn K (.ref C_told) "__getattribute__" = some (some (.builtin "BaseException.__getattribute__")))
    (ek_told : PySem.W.findIn K (.ref C_told) "__getattr__" = some none)
    (ed_told : PySem.W.hasDictIn K C_told = true)
    (ea_told : PySem.W.findIn K (.ref C_told) "__class__" = some (some (.builtin "object.__class__")))
    (em_told : PySem.W.mroIn K C_told (.type "object") = some true)
    (ev_told : PySem.W.subIn K (.ref C_told) (.type "ValueError") = some true)
    (ex_told : PySem.W.subIn K (.ref C_told) (.ref CB) = some true)
    (e_told_row : PySem.W.subIn K (.ref C_told) (.ref C_row) = some false)
    (e_told_stretch : PySem.W.subIn K (.ref C_told) (.ref C_stretch) = some false)
    (e_told_size : PySem.W.subIn K (.ref C_told) (.ref C_size) = some false)
    (e_told_told : PySem.W.subIn K (.ref C_told) (.ref C_told) = some true)
    (e_told_norow : PySem.W.subIn K (.ref C_told) (.ref C_norow) = some false)
    (e_told_number : PySem.W.subIn K (.ref C_told) (.ref C_number) = some false)
    (e_told_text : PySem.W.subIn K (.ref C_told) (.ref C_text) = some false)
    (eg_norow : PySem.W.findIn K (.ref C_norow) "__getattribute__" = some (some (.builtin "BaseException.__getattribute__")))
    (ek_norow : PySem.W.findIn K (.ref C_norow) "__getattr__" = some none)
    (ed_norow : PySem.W.hasDictIn K C_norow = true)
    (ea_norow : PySem.W.findIn K (.ref C_norow) "__class__" = some (some (.builtin "object.__class__")))
    (em_norow : PySem.W.mroIn K C_norow (.type "object") = some true)
    (ev_norow : PySem.W.subIn K (.ref C_norow) (.type "ValueError") = some true)
    (ex_norow : PySem.W.subIn K (.ref C_norow) (.ref CB) = some true)
    (e_norow_row : PySem.W.subIn K (.ref C_norow) (.ref C_row) = some false)
    (e_norow_stretch : PySem.W.subIn K (.ref C_norow) (.ref C_stretch) = some false)
    (e_norow_size : PySem.W.subIn K (.ref C_norow) (.ref C_size) = some false)
    (e_norow_told : PySem.W.subIn K (.ref C_norow) (.ref C_told) = some false)
    (e_norow_norow : PySem.W.subIn K (.ref C_norow) (.ref C_norow) = some true)
    (e_norow_number : PySem.W.subIn K (.ref C_norow) (.ref C_number) = some false)
    (e_norow_text : PySem.W.subIn K (.ref C_norow) (.ref C_text) = some false)
    (eg_number : PySem.W.findIn K (.ref C_number) "__getattribute__" = some (some (.builtin "BaseException.__getattribute__")))
    (ek_number : PySem.W.findIn K (.ref C_number) "__getattr__" = some none)
    (ed_number : PySem.W.hasDictIn K C_number = true)
    (ea_number : PySem.W.findIn K (.ref C_number) "__class__" = some (some (.builtin "object.__class__")))
    (em_number : PySem.W.mroIn K C_number (.type "object") = some true)
    (ev_number : PySem.W.subIn K (.ref C_number) (.type "ValueError") = some true)
    (ex_number : PySem.W.subIn K (.ref C_number) (.ref CB) = some true)
    (e_number_row : PySem.W.subIn K (.ref C_number) (.ref C_row) = some false)
    (e_number_stretch : PySem.W.subIn K (.ref C_number) (.ref C_stretch) = some false)
    (e_number_size : PySem.W.subIn K (.ref C_number) (.ref C_size) = some false)
    (e_number_told : PySem.W.subIn K (.ref C_number) (.ref C_told) = some false)
    (e_number_norow : PySem.W.subIn K (.ref C_number) (.ref C_norow) = some false)
    (e_number_number : PySem.W.subIn K (.ref C_number) (.ref C_number) = some true)
    (e_number_text : PySem.W.subIn K (.ref C_number) (.ref C_text) = some false)
    (eg_text : PySem.W.findIn K (.ref C_text) "__getattribute__" = some (some (.builtin "BaseException.__getattribute__")))
    (ek_text : PySem.W.findIn K (.ref C_text) "__getattr__" = some none)
    (ed_text : PySem.W.hasDictIn K C_text = true)
    (ea_text : PySem.W.findIn K (.ref C_text) "__class__" = some (some (.builtin "object.__class__")))
    (em_text : PySem.W.mroIn K C_text (.type "object") = some true)
    (ev_text : PySem.W.subIn K (.ref C_text) (.type "ValueError") = some true)
    (ex_text : PySem.W.subIn K (.ref C_text) (.ref CB) = some true)
    (e_text_row : PySem.W.subIn K (.ref C_text) (.ref C_row) = some false)
    (e_text_stretch : PySem.W.subIn K (.ref C_text) (.ref C_stretch) = some false)
    (e_text_size : PySem.W.subIn K (.ref C_text) (.ref C_size) = some false)
    (e_text_told : PySem.W.subIn K (.ref C_text) (.ref C_told) = some false)
    (e_text_norow : PySem.W.subIn K (.ref C_text) (.ref C_norow) = some false)
    (e_text_number : PySem.W.subIn K (.ref C_text) (.ref C_number) = some false)
    (e_text_text : PySem.W.subIn K (.ref C_text) (.ref C_text) = some true)
    (v_MOST_SIZE : PySem.W.nsIn K mainGlobals "MOST_SIZE" = some (some (.int 8 t_MOST_SIZE)))
    (v_MOST_WORTH : PySem.W.nsIn K mainGlobals "MOST_WORTH" = some (some (.int 9 t_MOST_WORTH)))
    : ∃ fd : FuncData, (∀ (s : Shared) (v : Value), BindsTo s fd ⟨[v], []⟩ [("_law_script", v)]) ∧ ∀ base : Heap, K.In base → base.Ns mainGlobals mg → FnOk l.prog w K mg base (L2.CX l.prog w) 5 fa fd ["_law_script"] (spLaw K) := by
  have e := hfa.symm.trans (PySem.W.mg_of X G a16)
  cases e
  have T : Tx K mg (ecOf C_row C_stretch C_size C_told C_norow C_number C_text) wa CB := ⟨df_mk X G a0 l0 c0 k0 (fun _ _ _ _ _ _ us hl => match us, hl with | [_], _ => rfl),
    df_mk X G a1 l1 c1 k1 (fun _ _ _ _ _ _ us hl => match us, hl with | [_, _, _], _ => rfl),
    df_mk X G a2 l2 c2 k2 (fun _ _ _ _ _ _ us hl => match us, hl with | [_, _, _], _ => rfl),
    df_mk X G a3 l3 c3 k3 (fun _ _ _ _ _ _ us hl => match us, hl with | [_, _, _], _ => rfl),
    df_mk X G a4 l4 c4 k4 (fun _ _ _ _ _ _ us hl => match us, hl with | [_, _], _ => rfl),
    df_mk X G a5 l5 c5 k5 (fun _ _ _ _ _ _ us hl => match us, hl with | [_, _], _ => rfl),
    df_mk X G a6 l6 c6 k6 (fun _ _ _ _ _ _ us hl => match us, hl with | [_, _], _ => rfl),
    df_mk X G a7 l7 c7 k7 (fun _ _ _ _ _ _ us hl => match us, hl with | [_, _], _ => rfl),
    df_mk X G a8 l8 c8 k8 (fun _ _ _ _ _ _ us hl => match us, hl with | [_, _], _ => rfl),
    df_mk X G a9 l9 c9 k9 (fun _ _ _ _ _ _ us hl => match us, hl with | [_, _], _ => rfl),
    df_mk X G a10 l10 c10 k10 (fun _ _ _ _ _ _ us hl => match us, hl with | [_, _, _], _ => rfl),
    df_mk X G a11 l11 c11 k11 (fun _ _ _ _ _ _ us hl => match us, hl with | [_, _, _], _ => rfl),
    df_mk X G a12 l12 c12 k12 (fun _ _ _ _ _ _ us hl => match us, hl with | [_], _ => rfl),
    df_mk X G a13 l13 c13 k13 (fun _ _ _ _ _ _ us hl => match us, hl with | [_, _, _, _], _ => rfl),
    df_mk X G a14 l14 c14 k14 (fun _ _ _ _ _ _ us hl => match us, hl with | [_, _, _, _], _ => rfl),
    df_mk X G a15 l15 c15 k15 (fun _ _ _ _ _ _ us hl => match us, hl with | [_, _, _, _], _ => rfl),
    df_mk X G a16 l16 c16 k16 (fun _ _ _ _ _ _ us hl => match us, hl with | [_], _ => rfl),
    PySem.W.mg_none_of X G z_ValueError,
    PySem.W.mg_none_of X G z_all,
    PySem.W.mg_none_of X G z_int,
    PySem.W.mg_none_of X G z_isinstance,
    PySem.W.mg_none_of X G z_len,
    PySem.W.mg_none_of X G z_list,
    PySem.W.mg_none_of X G z_max,
    PySem.W.mg_none_of X G z_min,
    PySem.W.mg_none_of X G z_range,
    PySem.W.mg_none_of X G z_sorted,
    ⟨PySem.W.mg_of X G xa_row, rfl, xi_row, xk_row, xs_row, xt_row⟩,
    ⟨PySem.W.mg_of X G xa_stretch, rfl, xi_stretch, xk_stretch, xs_stretch, xt_stretch⟩,
    ⟨PySem.W.mg_of X G xa_size, rfl, xi_size, xk_size, xs_size, xt_size⟩,
    ⟨PySem.W.mg_of X G xa_told, rfl, xi_told, xk_told, xs_told, xt_told⟩,
    ⟨PySem.W.mg_of X G xa_norow, rfl, xi_norow, xk_norow, xs_norow, xt_norow⟩,
    ⟨PySem.W.mg_of X G xa_number, rfl, xi_number, xk_number, xs_number, xt_number⟩,
    ⟨PySem.W.mg_of X G xa_text, rfl, xi_text, xk_text, xs_text, xt_text⟩,
    PySem.W.mg_of X G xa_B,
    ⟨fun j => match j with | .row => ⟨eg_row, ek_row, xs_row, ed_row, ea_row, oc_n, oc_t, em_row⟩ | .stretch => ⟨eg_stretch, ek_stretch, xs_stretch, ed_stretch, ea_stretch, oc_n, oc_t, em_stretch⟩ | .size => ⟨eg_size, ek_size, xs_size, ed_size, ea_size, oc_n, oc_t, em_size⟩ | .told => ⟨eg_told, ek_told, xs_told, ed_told, ea_told, oc_n, oc_t, em_told⟩ | .norow => ⟨eg_norow, ek_norow, xs_norow, ed_norow, ea_norow, oc_n, oc_t, em_norow⟩ | .number => ⟨eg_number, ek_number, xs_number, ed_number, ea_number, oc_n, oc_t, em_number⟩ | .text => ⟨eg_text, ek_text, xs_text, ed_text, ea_text, oc_n, oc_t, em_text⟩, fun i j => match i, j with | .row, .row => kit_same | .row, .stretch => kit_other ed_stretch xt_stretch e_row_row e_row_stretch | .row, .size => kit_other ed_size xt_size e_row_row e_row_size | .row, .told => kit_other ed_told xt_told e_row_row e_row_told | .row, .norow => kit_other ed_norow xt_norow e_row_row e_row_norow | .row, .number => kit_other ed_number xt_number e_row_row e_row_number | .row, .text => kit_other ed_text xt_text e_row_row e_row_text | .stretch, .row => kit_other ed_row xt_row e_stretch_stretch e_stretch_row | .stretch, .stretch => kit_same | .stretch, .size => kit_other ed_size xt_size e_stretch_stretch e_stretch_size | .stretch, .told => kit_other ed_told xt_told e_stretch_stretch e_stretch_told | .stretch, .norow => kit_other ed_norow xt_norow e_stretch_stretch e_stretch_norow | .stretch, .number => kit_other ed_number xt_number e_stretch_stretch e_stretch_number | .stretch, .text => kit_other ed_text xt_text e_stretch_stretch e_stretch_text | .size, .row => kit_other ed_row xt_row e_size_size e_size_row | .size, .stretch => kit_other ed_stretch xt_stretch e_size_size e_size_stretch | .size, .size => kit_same | .size, .told => kit_other ed_told xt_told e_size_size e_size_told | .size, .norow => kit_other ed_norow xt_norow e_size_size e_size_norow | .size, .number => kit_other ed_number xt_number e_size_size e_size_number | .size, .text => kit_other ed_text xt_text e_size_size e_size_text | .told, .row => kit_other ed_row xt_row e_told_told e_told_row | .told, .stretch => kit_other ed_stretch xt_stretch e_told_told e_told_stretch | .told, .size => kit_other ed_size xt_size e_told_told e_told_size | .told, .told => kit_same | .told, .norow => kit_other ed_norow xt_norow e_told_told e_told_norow | .told, .number => kit_other ed_number xt_number e_told_told e_told_number | .told, .text => kit_other ed_text xt_text e_told_told e_told_text | .norow, .row => kit_other ed_row xt_row e_norow_norow e_norow_row | .norow, .stretch => kit_other ed_stretch xt_stretch e_norow_norow e_norow_stretch | .norow, .size => kit_other ed_size xt_size e_norow_norow e_norow_size | .norow, .told => kit_other ed_told xt_told e_norow_norow e_norow_told | .norow, .norow => kit_same | .norow, .number => kit_other ed_number xt_number e_norow_norow e_norow_number | .norow, .text => kit_other ed_text xt_text e_norow_norow e_norow_text | .number, .row => kit_other ed_row xt_row e_number_number e_number_row | .number, .stretch => kit_other ed_stretch xt_stretch e_number_number e_number_stretch | .number, .size => kit_other ed_size xt_size e_number_number e_number_size | .number, .told => kit_other ed_told xt_told e_number_number e_number_told | .number, .norow => kit_other ed_norow xt_norow e_number_number e_number_norow | .number, .number => kit_same | .number, .text => kit_other ed_text xt_text e_number_number e_number_text | .text, .row => kit_other ed_row xt_row e_text_text e_text_row | .text, .stretch => kit_other ed_stretch xt_stretch e_text_text e_text_stretch | .text, .size => kit_other ed_size xt_size e_text_text e_text_size | .text, .told => kit_other ed_told xt_told e_text_text e_text_told | .text, .norow => kit_other ed_norow xt_norow e_text_text e_text_norow | .text, .number => kit_other ed_number xt_number e_text_text e_text_number | .text, .text => kit_same, fun j => match j with | .row => kit_VE ev_row | .stretch => kit_VE ev_stretch | .size => kit_VE ev_size | .told => kit_VE ev_told | .norow => kit_VE ev_norow | .number => kit_VE ev_number | .text => kit_VE ev_text, fun j => match j with | .row => PySem.W.exm_ref bs bd bt ex_row | .stretch => PySem.W.exm_ref bs bd bt ex_stretch | .size => PySem.W.exm_ref bs bd bt ex_size | .told => PySem.W.exm_ref bs bd bt ex_told | .norow => PySem.W.exm_ref bs bd bt ex_norow | .number => PySem.W.exm_ref bs bd bt ex_number | .text => PySem.W.exm_ref bs bd bt ex_text⟩,
    ⟨_, PySem.W.mg_of X G v_MOST_SIZE⟩,
    ⟨_, PySem.W.mg_of X G v_MOST_WORTH⟩⟩
  have F := fun_mk (st := s_law) l16 c16 k16
  exact ⟨_, fun s v => .of_eq rfl, fun base _ _ => law_fn T F⟩
theorem walk {l : PySem.W.OpenLaw} {q : Program} {loose : List Str} {XP : (Str → Option Value) → Heap → Prop} {YP : World → Heap → Prop} {d : DefRec} {K : Params → PySem.W.Frag} (hn : l.most = some 63) (hdf : d.params.defaults = [])
    (hY : ∀ (w : World) (h : Heap), YP w h → (K w.params).In h)
    (F : ∀ (w : World) (mg : Str → Option Value) (fa : Addr) (h : Heap), (K w.params).In h → h.Ns mainGlobals mg → mg d.name = some (.ref fa) →
      ∃ fd : FuncData, (∀ (s : Shared) (u : Value), BindsTo s fd ⟨[u], []⟩ [("_law_script", u)]) ∧ ∀ base : Heap, (K w.params).In base → base.Ns mainGlobals mg → FnOk l.prog w (K w.params) mg base (L2.CX l.prog w) 5 fa fd ["_law_script"] (spLaw (K w.params))) :
    PySem.W.WalkO q loose XP YP l.row.toRowW d [] (fun f vs => PySem.call f vs) :=
  L2.walk_of (n := 63) (k := 5) (x := "_law_script") (CX := fun w => L2.CX l.prog w) (sp := fun w => spLaw (K w.params)) hn (by decide) hdf ⟨rfl, by decide, by decide⟩ hY F (fun _ _ a ns hl _ hS => ⟨a, ns, rfl, hS, hl, fun _ => rfl⟩)
    fun _ _ _ _ _ z => by obtain ⟨_, _, _, _, _, _, _, _, _, _, _, _, z⟩ := z; exact z
end WB
open PySem PySem.W PyProof.Rows
set_option maxRecDepth 100000 in
set_option maxHeartbeats 0 in
theorem PySem.Challenge.cw_windowback_k01_whole_stretches_holds : PySem.Challenge.rw_windowback_k01_whole_stretches.Holds := by
  w_on; o_law; k_head; (case hw => w_witness2)
  k_fill
  refine WB.walk (l := PySem.Challenge.rw_windowback_k01_whole_stretches) rfl rfl (fun w h Y => PySem.W.kIn_of Y) ?F
  case F =>
    intro w mg fa h KX G hmg
    refine' WB.all_mk (wa := 0) KX G hmg ?a0 ?l0 ?c0 ?k0 ?a1 ?l1 ?c1 ?k1 ?a2 ?l2 ?c2 ?k2 ?a3 ?l3 ?c3 ?k3 ?a4 ?l4 ?c4 ?k4 ?a5 ?l5 ?c5 ?k5 ?a6 ?l6 ?c6 ?k6 ?a7 ?l7 ?c7 ?k7 ?a8 ?l8 ?c8 ?k8 ?a9 ?l9 ?c9 ?k9 ?a10 ?l10 ?c10 ?k10 ?a11 ?l11 ?c11 ?k11 ?a12 ?l12 ?c12 ?k12 ?a13 ?l13 ?c13 ?k13 ?a14 ?l14 ?c14 ?k14 ?a15 ?l15 ?c15 ?k15 ?a16 ?l16 ?c16 ?k16 ?z_ValueError ?z_all ?z_int ?z_isinstance ?z_len ?z_list ?z_max ?z_min ?z_range ?z_sorted ?xa_row ?xi_row ?xk_row ?xs_row ?xt_row ?xa_stretch ?xi_stretch ?xk_stretch ?xs_stretch ?xt_stretch ?xa_size ?xi_size ?xk_size ?xs_size ?xt_size ?xa_told ?xi_told ?xk_told ?xs_told ?xt_told ?xa_norow ?xi_norow ?xk_norow ?xs_norow ?xt_norow ?xa_number ?xi_number ?xk_number ?xs_number ?xt_number ?xa_text ?xi_text ?xk_text ?xs_text ?xt_text ?xa_B ?bs ?bd ?bt ?oc_n ?oc_t ?eg_row ?ek_row ?ed_row ?ea_row ?em_row ?ev_row ?ex_row ?e_row_row ?e_row_stretch ?e_row_size ?e_row_told ?e_row_norow ?e_row_number ?e_row_text ?eg_stretch ?ek_stretch ?ed_stretch ?ea_stretch ?em_stretch ?ev_stretch ?ex_stretch ?e_stretch_row ?e_stretch_stretch ?e_stretch_size ?e_stretch_told ?e_stretch_norow ?e_stretch_number ?e_stretch_text ?eg_size ?ek_size ?ed_size ?ea_size ?em_size ?ev_size ?ex_size ?e_size_row ?e_size_stretch ?e_size_size ?e_size_told ?e_size_norow ?e_size_number ?e_size_text ?eg_told ?ek_told ?ed_told ?ea_told ?em_told ?ev_told ?ex_told ?e_told_row ?e_told_stretch ?e_told_size ?e_told_told ?e_told_norow ?e_told_number ?e_told_text ?eg_norow ?ek_norow ?ed_norow ?ea_norow ?em_norow ?ev_norow ?ex_norow ?e_norow_row ?e_norow_stretch ?e_norow_size ?e_norow_told ?e_norow_norow ?e_norow_number ?e_norow_text ?eg_number ?ek_number ?ed_number ?ea_number ?em_number ?ev_number ?ex_number ?e_number_row ?e_number_stretch ?e_number_size ?e_number_told ?e_number_norow ?e_number_number ?e_number_text ?eg_text ?ek_text ?ed_text ?ea_text ?em_text ?ev_text ?ex_text ?e_text_row ?e_text_stretch ?e_text_size ?e_text_told ?e_text_norow ?e_text_number ?e_text_text ?v_MOST_SIZE ?v_MOST_WORTH
    (case a0 => k_is)
    (case l0 => k_is)
    (case c0 => k_is)
    (case k0 => k_is)
    (case a1 => k_is)
    (case l1 => k_is)
    (case c1 => k_is)
    (case k1 => k_is)
    (case a2 => k_is)
    (case l2 => k_is)
    (case c2 => k_is)
    (case k2 => k_is)
    (case a3 => k_is)
    (case l3 => k_is)
    (case c3 => k_is)
    (case k3 => k_is)
    (case a4 => k_is)
    (case l4 => k_is)
    (case c4 => k_is)
    (case k4 => k_is)
    (case a5 => k_is)
    (case l5 => k_is)
    (case c5 => k_is)
    (case k5 => k_is)
    (case a6 => k_is)
    (case l6 => k_is)
    (case c6 => k_is)
    (case k6 => k_is)
    (case a7 => k_is)
    (case l7 => k_is)
    (case c7 => k_is)
    (case k7 => k_is)
    (case a8 => k_is)
    (case l8 => k_is)
    (case c8 => k_is)
    (case k8 => k_is)
    (case a9 => k_is)
    (case l9 => k_is)
    (case c9 => k_is)
    (case k9 => k_is)
    (case a10 => k_is)
    (case l10 => k_is)
    (case c10 => k_is)
    (case k10 => k_is)
    (case a11 => k_is)
    (case l11 => k_is)
    (case c11 => k_is)
    (case k11 => k_is)
    (case a12 => k_is)
    (case l12 => k_is)
    (case c12 => k_is)
    (case k12 => k_is)
    (case a13 => k_is)
    (case l13 => k_is)
    (case c13 => k_is)
    (case k13 => k_is)
    (case a14 => k_is)
    (case l14 => k_is)
    (case c14 => k_is)
    (case k14 => k_is)
    (case a15 => k_is)
    (case l15 => k_is)
    (case c15 => k_is)
    (case k15 => k_is)
    (case a16 => k_is)
    (case l16 => k_is)
    (case c16 => k_is)
    (case k16 => k_is)
    (case z_ValueError => k_is)
    (case z_all => k_is)
    (case z_int => k_is)
    (case z_isinstance => k_is)
    (case z_len => k_is)
    (case z_list => k_is)
    (case z_max => k_is)
    (case z_min => k_is)
    (case z_range => k_is)
    (case z_sorted => k_is)
    (case xa_row => k_is)
    (case xi_row => k_exc)
    (case xk_row => k_is)
    (case xs_row => k_is)
    (case xt_row => k_is)
    (case xa_stretch => k_is)
    (case xi_stretch => k_exc)
    (case xk_stretch => k_is)
    (case xs_stretch => k_is)
    (case xt_stretch => k_is)
    (case xa_size => k_is)
    (case xi_size => k_exc)
    (case xk_size => k_is)
    (case xs_size => k_is)
    (case xt_size => k_is)
    (case xa_told => k_is)
    (case xi_told => k_exc)
    (case xk_told => k_is)
    (case xs_told => k_is)
    (case xt_told => k_is)
    (case xa_norow => k_is)
    (case xi_norow => k_exc)
    (case xk_norow => k_is)
    (case xs_norow => k_is)
    (case xt_norow => k_is)
    (case xa_number => k_is)
    (case xi_number => k_exc)
    (case xk_number => k_is)
    (case xs_number => k_is)
    (case xt_number => k_is)
    (case xa_text => k_is)
    (case xi_text => k_exc)
    (case xk_text => k_is)
    (case xs_text => k_is)
    (case xt_text => k_is)
    (case xa_B => k_is)
    (case bs => k_is)
    (case bd => k_is)
    (case bt => k_is)
    (case oc_n => k_is)
    (case oc_t => k_is)
    (case eg_row => k_is)
    (case ek_row => k_is)
    (case ed_row => k_is)
    (case ea_row => k_is)
    (case em_row => k_is)
    (case ev_row => k_is)
    (case ex_row => k_is)
    (case e_row_row => k_is)
    (case e_row_stretch => k_is)
    (case e_row_size => k_is)
    (case e_row_told => k_is)
    (case e_row_norow => k_is)
    (case e_row_number => k_is)
    (case e_row_text => k_is)
    (case eg_stretch => k_is)
    (case ek_stretch => k_is)
    (case ed_stretch => k_is)
    (case ea_stretch => k_is)
    (case em_stretch => k_is)
    (case ev_stretch => k_is)
    (case ex_stretch => k_is)
    (case e_stretch_row => k_is)
    (case e_stretch_stretch => k_is)
    (case e_stretch_size => k_is)
    (case e_stretch_told => k_is)
    (case e_stretch_norow => k_is)
    (case e_stretch_number => k_is)
    (case e_stretch_text => k_is)
    (case eg_size => k_is)
    (case ek_size => k_is)
    (case ed_size => k_is)
    (case ea_size => k_is)
    (case em_size => k_is)
    (case ev_size => k_is)
    (case ex_size => k_is)
    (case e_size_row => k_is)
    (case e_size_stretch => k_is)
    (case e_size_size => k_is)
    (case e_size_told => k_is)
    (case e_size_norow => k_is)
    (case e_size_number => k_is)
    (case e_size_text => k_is)
    (case eg_told => k_is)
    (case ek_told => k_is)
    (case ed_told => k_is)
    (case ea_told => k_is)
    (case em_told => k_is)
    (case ev_told => k_is)
    (case ex_told => k_is)
    (case e_told_row => k_is)
    (case e_told_stretch => k_is)
    (case e_told_size => k_is)
    (case e_told_told => k_is)
    (case e_told_norow => k_is)
    (case e_told_number => k_is)
    (case e_told_text => k_is)
    (case eg_norow => k_is)
    (case ek_norow => k_is)
    (case ed_norow => k_is)
    (case ea_norow => k_is)
    (case em_norow => k_is)
    (case ev_norow => k_is)
    (case ex_norow => k_is)
    (case e_norow_row => k_is)
    (case e_norow_stretch => k_is)
    (case e_norow_size => k_is)
    (case e_norow_told => k_is)
    (case e_norow_norow => k_is)
    (case e_norow_number => k_is)
    (case e_norow_text => k_is)
    (case eg_number => k_is)
    (case ek_number => k_is)
    (case ed_number => k_is)
    (case ea_number => k_is)
    (case em_number => k_is)
    (case ev_number => k_is)
    (case ex_number => k_is)
    (case e_number_row => k_is)
    (case e_number_stretch => k_is)
    (case e_number_size => k_is)
    (case e_number_told => k_is)
    (case e_number_norow => k_is)
    (case e_number_number => k_is)
    (case e_number_text => k_is)
    (case eg_text => k_is)
    (case ek_text => k_is)
    (case ed_text => k_is)
    (case ea_text => k_is)
    (case em_text => k_is)
    (case ev_text => k_is)
    (case ex_text => k_is)
    (case e_text_row => k_is)
    (case e_text_stretch => k_is)
    (case e_text_size => k_is)
    (case e_text_told => k_is)
    (case e_text_norow => k_is)
    (case e_text_number => k_is)
    (case e_text_text => k_is)
    (case v_MOST_SIZE => k_is)
    (case v_MOST_WORTH => k_is)
