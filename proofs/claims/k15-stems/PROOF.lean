import PyProof.Rows.All
import HandS.ForMost
import HandS.Flow
import HandS.Style
import HandS.Wide
import HandS.IsInst
import HandS.Walk
import HandS.Flt
import HandS.Conv
import HandS.TupAny
import HandS.Deep
import HandS.SortInts
import PySem.Challenge.RW_bouquetstied_k15_whole_stems_spread
set_option Elab.async false
set_option linter.all false
set_option maxRecDepth 100000
namespace Z
open PySem PySem.Spec L2

/-! ### values by their content -/
inductive D where
  | non | bl (b : Bool) | int (i : Int) | str (s : Str)
  | tup (xs : List D) | lst (xs : List D) | scr (ns : List Int)
  | dic (kvs : List D) | set (xs : List D)
  deriving Inhabited

/-- a tuple, a list of the written part -/
def KTup (K : PySem.W.Frag) (a : Addr) (vs : List V) : Prop :=
  ∃ (o : Obj) (its : Array Value) (n : Nat), K.lookup a = some o ∧ o.cls = .type "tuple" ∧ o.data = .seq its n ∧ its.size ≤ sizeLine ∧ Vals vs its.toList
def KLst (K : PySem.W.Frag) (a : Addr) (xs : List V) : Prop :=
  ∃ (o : Obj) (its : Array Value) (n : Nat), K.lookup a = some o ∧ o.cls = .type "list" ∧ o.dict = none ∧ o.data = .seq its n ∧ its.size ≤ sizeLine ∧ Vals xs its.toList

abbrev AS := Addr → Prop
def AS.or (A B : AS) : AS := fun a => A a ∨ B a
def AS.one (p : Addr) : AS := fun a => a = p

mutual
/-- d lies at v in H, touching nothing of B -/
def Rp (K : PySem.W.Frag) (H : Hp) (B : AS) : D → V → Prop
  | .non, v => v = .non
  | .bl b, v => v = .bl b
  | .int i, v => v = .int i
  | .str s, v => v = .str s
  | .tup ds, v => ∃ a vs, v = .ref a ∧ ((H a = some (.tup vs) ∧ ¬ B a) ∨ KTup K a vs) ∧ RpL K H B ds vs
  | .lst ds, v => ∃ a vs, v = .ref a ∧ (H a = some (.lst vs) ∧ ¬ B a) ∧ RpL K H B ds vs
  | .scr ns, v => ∃ a, v = .ref a ∧ ((∃ o, H a = some (.frz o (.lst (ns.map V.int))) ∧ ¬ B a) ∨ KLst K a (ns.map V.int))
  | .dic _, _ => False
  | .set _, _ => False
def RpL (K : PySem.W.Frag) (H : Hp) (B : AS) : List D → List V → Prop
  | [], vs => vs = []
  | d :: ds, vs => ∃ v r, vs = v :: r ∧ Rp K H B d v ∧ RpL K H B ds r
end

/-- what lies outside B stays, and lies outside B' -/
def Kp (H : Hp) (B : AS) (H' : Hp) (B' : AS) : Prop := ∀ a o, H a = some o → ¬ B a → H' a = some o ∧ ¬ B' a

section
variable {K : PySem.W.Frag} {H H' H'' : Hp} {B B' B'' : AS}
theorem Kp.refl : Kp H B H B := fun _ _ h n => ⟨h, n⟩
theorem Kp.trans (p : Kp H B H' B') (q : Kp H' B' H'' B'') : Kp H B H'' B'' := fun a o h n => let ⟨h1, n1⟩ := p a o h n; q a o h1 n1
theorem Kp.less (h : ∀ a, B' a → B a) : Kp H B H B' := fun a _ e n => ⟨e, fun z => n (h a z)⟩
mutual
theorem Rp.kp (k : Kp H B H' B') : ∀ (d : D) (v : V), Rp K H B d v → Rp K H' B' d v
  | .non, _, h => h
  | .bl _, _, h => h
  | .int _, _, h => h
  | .str _, _, h => h
  | .tup ds, v, h => by
    obtain ⟨a, vs, e, h1, h2⟩ := h
    exact ⟨a, vs, e, h1.imp (fun z => k a _ z.1 z.2) id, RpL.kp k ds vs h2⟩
  | .lst ds, v, h => by
    obtain ⟨a, vs, e, h1, h2⟩ := h
    exact ⟨a, vs, e, k a _ h1.1 h1.2, RpL.kp k ds vs h2⟩
  | .scr ns, v, h => by
    obtain ⟨a, e, h1⟩ := h
    exact ⟨a, e, h1.imp (fun ⟨o, z⟩ => ⟨o, k a _ z.1 z.2⟩) id⟩
  | .dic _, _, h => h
  | .set _, _, h => h
theorem RpL.kp (k : Kp H B H' B') : ∀ (ds : List D) (vs : List V), RpL K H B ds vs → RpL K H' B' ds vs
  | [], _, h => h
  | d :: ds, vs, h => by
    obtain ⟨v, r, e, h1, h2⟩ := h
    exact ⟨v, r, e, Rp.kp k d v h1, RpL.kp k ds r h2⟩
end
theorem RpL.len : ∀ {ds : List D} {vs : List V}, RpL K H B ds vs → vs.length = ds.length
  | [], _, h => by rw [show _ = [] from h]; rfl
  | d :: ds, vs, h => by
    obtain ⟨v, r, e, _, h2⟩ := h
    rw [e, List.length_cons, List.length_cons, RpL.len h2]
theorem RpL.app : ∀ {ds es : List D} {vs ws : List V}, RpL K H B ds vs → RpL K H B es ws → RpL K H B (ds ++ es) (vs ++ ws)
  | [], _, _, _, h, h' => by rw [show _ = [] from h]; exact h'
  | d :: ds, es, vs, ws, h, h' => by
    obtain ⟨v, r, e, h1, h2⟩ := h
    rw [e]
    exact ⟨v, r ++ ws, rfl, h1, RpL.app h2 h'⟩
theorem RpL.one {d : D} {v : V} (h : Rp K H B d v) : RpL K H B [d] [v] := ⟨v, [], rfl, h, rfl⟩
theorem RpL.get : ∀ {ds : List D} {vs : List V} {i : Nat} {d : D}, RpL K H B ds vs → ds[i]? = some d → ∃ v, vs[i]? = some v ∧ Rp K H B d v
  | [], _, _, _, _, e => by simp at e
  | x :: ds, vs, 0, d, h, e => by
    obtain ⟨v, r, e1, h1, h2⟩ := h
    simp at e
    subst e
    exact ⟨v, by rw [e1]; rfl, h1⟩
  | x :: ds, vs, i + 1, d, h, e => by
    obtain ⟨v, r, e1, h1, h2⟩ := h
    obtain ⟨w, e2, h3⟩ := RpL.get (i := i) h2 (by simpa using e)
    exact ⟨w, by rw [e1]; simpa using e2, h3⟩
theorem RpL.get' : ∀ {ds : List D} {vs : List V} {i : Nat} {v : V}, RpL K H B ds vs → vs[i]? = some v → ∃ d, ds[i]? = some d ∧ Rp K H B d v := fun {ds vs i v} h e => by
  have hl := h.len
  obtain ⟨hi, e'⟩ := List.getElem?_eq_some_iff.mp e
  have hd : ds[i]? = some (ds[i]'(by omega)) := List.getElem?_eq_getElem (by omega)
  obtain ⟨w, e1, h1⟩ := h.get hd
  rw [e] at e1
  cases e1
  exact ⟨_, hd, h1⟩
theorem RpL.set : ∀ {ds : List D} {vs : List V} {d : D} {v : V} (i : Nat), RpL K H B ds vs → Rp K H B d v → RpL K H B (ds.set i d) (vs.set i v)
  | [], _, _, _, _, h, _ => by rw [show _ = [] from h]; exact rfl
  | x :: ds, vs, d, v, 0, h, hd => by
    obtain ⟨w, r, e1, h1, h2⟩ := h
    rw [e1]
    exact ⟨v, r, rfl, hd, h2⟩
  | x :: ds, vs, d, v, i + 1, h, hd => by
    obtain ⟨w, r, e1, h1, h2⟩ := h
    rw [e1]
    exact ⟨w, r.set i v, rfl, h1, RpL.set i h2 hd⟩
theorem RpL.take : ∀ {ds : List D} {vs : List V} (n : Nat), RpL K H B ds vs → RpL K H B (ds.take n) (vs.take n)
  | [], _, n, h => by rw [show _ = [] from h]; simp; exact rfl
  | x :: ds, vs, 0, h => by simp; exact rfl
  | x :: ds, vs, n + 1, h => by
    obtain ⟨w, r, e1, h1, h2⟩ := h
    rw [e1]
    exact ⟨w, r.take n, rfl, h1, RpL.take n h2⟩
theorem RpL.drop : ∀ {ds : List D} {vs : List V} (n : Nat), RpL K H B ds vs → RpL K H B (ds.drop n) (vs.drop n)
  | [], _, n, h => by rw [show _ = [] from h]; simp; exact rfl
  | x :: ds, vs, 0, h => by simpa using h
  | x :: ds, vs, n + 1, h => by
    obtain ⟨w, r, e1, h1, h2⟩ := h
    rw [e1]
    exact RpL.drop n h2
theorem RpL.eraseIdx : ∀ {ds : List D} {vs : List V} (n : Nat), RpL K H B ds vs → RpL K H B (ds.eraseIdx n) (vs.eraseIdx n)
  | [], _, n, h => by rw [show _ = [] from h]; simp; exact rfl
  | x :: ds, vs, 0, h => by
    obtain ⟨w, r, e1, h1, h2⟩ := h
    rw [e1]
    exact h2
  | x :: ds, vs, n + 1, h => by
    obtain ⟨w, r, e1, h1, h2⟩ := h
    rw [e1]
    exact ⟨w, r.eraseIdx n, rfl, h1, RpL.eraseIdx n h2⟩
theorem RpL.rev {ds : List D} {vs : List V} (h : RpL K H B ds vs) : RpL K H B ds.reverse vs.reverse := by
  induction ds generalizing vs with
  | nil => rw [show _ = [] from h]; exact rfl
  | cons d ds ih =>
    obtain ⟨w, r, e1, h1, h2⟩ := h
    rw [e1, List.reverse_cons, List.reverse_cons]
    exact (ih h2).app (RpL.one h1)
theorem RpL.rep {ds : List D} {vs : List V} (h : RpL K H B ds vs) : ∀ k : Nat, RpL K H B (List.replicate k ds).flatten (List.replicate k vs).flatten
  | 0 => by simp; exact rfl
  | k + 1 => by
    rw [List.replicate_succ, List.replicate_succ, List.flatten_cons, List.flatten_cons]
    exact h.app (RpL.rep h k)
/-- scalars: one value each -/
theorem Rp.int {i : Int} {v : V} (h : Rp K H B (.int i) v) : v = .int i := h
theorem RpL.ints : ∀ {ns : List Int} {vs : List V}, RpL K H B (ns.map D.int) vs → vs = ns.map V.int
  | [], _, h => h
  | n :: ns, vs, h => by
    obtain ⟨v, r, e, h1, h2⟩ := h
    rw [e, show v = .int n from h1, RpL.ints h2]
    rfl
theorem RpL.of_ints : ∀ {ns : List Int}, RpL K H B (ns.map D.int) (ns.map V.int)
  | [] => rfl
  | n :: ns => ⟨.int n, ns.map V.int, rfl, rfl, RpL.of_ints⟩
theorem RpL.bls : ∀ {ns : List Bool} {vs : List V}, RpL K H B (ns.map D.bl) vs → vs = ns.map V.bl
  | [], _, h => h
  | n :: ns, vs, h => by
    obtain ⟨v, r, e, h1, h2⟩ := h
    rw [e, show v = .bl n from h1, RpL.bls h2]
    rfl
end

/-! ### the slots -/
inductive Slot where
  | no | val (d : D) | own (d : D)
  deriving Inhabited
abbrev Env := List Slot
/-- what a slot owns lies at a -/
def OwnR (K : PySem.W.Frag) (H : Hp) (B : AS) (d : D) (a : Addr) : Prop :=
  match d with
  | .lst ds => ∃ vs, H a = some (.lst vs) ∧ RpL K H B ds vs
  | _ => False
/-- the addresses that slots own -/
def pr (γ : Env) (σ : St) : AS := fun a => ∃ (i : Nat) (d : D), γ[i]? = some (.own d) ∧ σ[i]? = some (some (.ref a))

/-- a slot behind a store; slot 0 never comes to own what is new -/
def nsl : Nat → Bool → D → Slot
  | _ + 1, true, d => .own d
  | _, _, d => .val d
theorem OwnR.there {K : PySem.W.Frag} {H : Hp} {B : AS} {d : D} {a : Addr} (h : OwnR K H B d a) : H a ≠ none := by
  cases d with
  | lst ds => obtain ⟨vs, e, _⟩ := h; rw [e]; simp
  | _ => exact h.elim
theorem OwnR.kp {K : PySem.W.Frag} {H H' : Hp} {B B' : AS} {d : D} {a : Addr} (h : OwnR K H B d a) (k : Kp H B H' B') (e : H' a = H a) : OwnR K H' B' d a := by
  cases d with
  | lst ds => obtain ⟨vs, e1, h1⟩ := h; exact ⟨vs, by rw [e, e1], h1.kp k⟩
  | _ => exact h.elim
/-- what is owned by nobody any more is a value -/
theorem OwnR.rp {K : PySem.W.Frag} {H : Hp} {B B' : AS} {d : D} {a : Addr} (h : OwnR K H B d a) (m : ∀ b, B' b → B b) (n : ¬ B' a) : Rp K H B' d (.ref a) := by
  cases d with
  | lst ds => obtain ⟨vs, e, h1⟩ := h; exact ⟨a, vs, rfl, ⟨e, n⟩, h1.kp (.less m)⟩
  | _ => exact h.elim

structure SR (K : PySem.W.Frag) (H0 : Hp) (I0 A : AS) (γ : Env) (σ : St) (H : Hp) : Prop where
  len : σ.length = γ.length
  val : ∀ (i : Nat) (d : D), γ[i]? = some (.val d) → ∃ v, σ[i]? = some (some v) ∧ Rp K H (A.or (pr γ σ)) d v
  own : ∀ (i : Nat) (d : D), γ[i]? = some (.own d) → ∃ a, σ[i]? = some (some (.ref a)) ∧ OwnR K H (A.or (pr γ σ)) d a ∧ ¬ A a ∧ (H0 a = none ∨ I0 a)
  inj : ∀ (i j : Nat) (d e : D) (a : Addr), γ[i]? = some (.own d) → γ[j]? = some (.own e) → σ[i]? = some (some (.ref a)) → σ[j]? = some (some (.ref a)) → i = j
  ext : ∀ a o, H0 a = some o → ¬ I0 a → H a = some o
  dom : ∀ a, A a → H a ≠ none
  io : ∀ (d : D) (a : Addr), γ[0]? = some (.own d) → σ[0]? = some (some (.ref a)) → I0 a

/-- a step of a def's body: what no slot owns stays; what is owned behind it was so, or is new -/
structure Stp (γ : Env) (σ : St) (H : Hp) (γ' : Env) (σ' : St) (H' : Hp) : Prop where
  keep : ∀ a o, H a = some o → ¬ pr γ σ a → H' a = some o
  prv : ∀ a, pr γ' σ' a → pr γ σ a ∨ H a = none
  trk : ∀ a, H a ≠ none → H' a ≠ none

section
variable {K : PySem.W.Frag} {H0 H H' H'' : Hp} {I0 A A' B : AS} {γ γ' γ'' : Env} {σ σ' σ'' : St}
theorem Stp.refl : Stp γ σ H γ σ H := ⟨fun _ _ h _ => h, fun _ h => .inl h, fun _ h => h⟩
theorem Stp.trans (p : Stp γ σ H γ' σ' H') (q : Stp γ' σ' H' γ'' σ'' H'') : Stp γ σ H γ'' σ'' H'' := by
  refine ⟨fun a o h n => q.keep a o (p.keep a o h n) fun z => ?_, fun a z => ?_, fun a h => q.trk a (p.trk a h)⟩
  · rcases p.prv a z with z | z
    · exact n z
    · rw [h] at z; cases z
  · rcases q.prv a z with z | z
    · exact p.prv a z
    · refine .inr ?_
      cases e : H a with
      | none => rfl
      | some o => exact absurd z (p.trk a (by rw [e]; simp))
theorem Stp.kp (p : Stp γ σ H γ' σ' H') : Kp H (A.or (pr γ σ)) H' (A.or (pr γ' σ')) := fun a o h n => by
  refine ⟨p.keep a o h fun z => n (.inr z), fun z => ?_⟩
  rcases z with z | z
  · exact n (.inl z)
  · rcases p.prv a z with z | z
    · exact n (.inr z)
    · rw [h] at z; cases z
theorem SR.prA (S : SR K H0 I0 A γ σ H) : ∀ a, pr γ σ a → ¬ A a ∧ H a ≠ none ∧ (H0 a = none ∨ I0 a) := fun a ⟨i, d, h1, h2⟩ => by
  obtain ⟨b, e, h3, h4, h5⟩ := S.own i d h1
  rw [h2] at e
  cases e
  exact ⟨h4, h3.there, h5⟩
/-- the heap has grown -/
theorem SR.same (S : SR K H0 I0 A γ σ H) (s : Same H H') : SR K H0 I0 A γ σ H' := by
  have k : Kp H (A.or (pr γ σ)) H' (A.or (pr γ σ)) := fun a o h n => ⟨s a o h, n⟩
  refine ⟨S.len, fun i d h => ?_, fun i d h => ?_, S.inj, fun a o h n => s a o (S.ext a o h n), fun a h z => ?_, S.io⟩
  · obtain ⟨v, e, r⟩ := S.val i d h
    exact ⟨v, e, r.kp k⟩
  · obtain ⟨a, e, r, n⟩ := S.own i d h
    refine ⟨a, e, r.kp k ?_, n⟩
    cases q : H a with
    | none => exact absurd q r.there
    | some o => exact s a o q
  · cases q : H a with
    | none => exact S.dom a h q
    | some o => rw [s a o q] at z; cases z
/-- more is to be left alone: what is new -/
theorem SR.more (S : SR K H0 I0 A γ σ H) (s : Same H H') (n : ∀ a, B a → H a = none) (t : ∀ a, B a → H' a ≠ none) : SR K H0 I0 (A.or B) γ σ H' := by
  have k : Kp H (A.or (pr γ σ)) H' ((A.or B).or (pr γ σ)) := fun a o h m => ⟨s a o h, fun z => by
    rcases z with (z | z) | z
    · exact m (.inl z)
    · rw [n a z] at h; cases h
    · exact m (.inr z)⟩
  refine ⟨S.len, fun i d h => ?_, fun i d h => ?_, S.inj, fun a o h n => s a o (S.ext a o h n), fun a h z => ?_, S.io⟩
  · obtain ⟨v, e, r⟩ := S.val i d h
    exact ⟨v, e, r.kp k⟩
  · obtain ⟨a, e, r, m, m2⟩ := S.own i d h
    refine ⟨a, e, r.kp k ?_, fun z => ?_, m2⟩
    · cases q : H a with
      | none => exact absurd q r.there
      | some o => exact s a o q
    · rcases z with z | z
      · exact m z
      · exact r.there (n a z)
  · rcases h with h | h
    · cases q : H a with
      | none => exact S.dom a h q
      | some o => rw [s a o q] at z; cases z
    · exact t a h z
theorem SR.less (S : SR K H0 I0 (A.or B) γ σ H) : SR K H0 I0 A γ σ H := by
  have k : Kp H ((A.or B).or (pr γ σ)) H (A.or (pr γ σ)) := .less fun a z => z.imp .inl id
  refine ⟨S.len, fun i d h => ?_, fun i d h => ?_, S.inj, S.ext, fun a h => S.dom a (.inl h), S.io⟩
  · obtain ⟨v, e, r⟩ := S.val i d h
    exact ⟨v, e, r.kp k⟩
  · obtain ⟨a, e, r, m, m2⟩ := S.own i d h
    exact ⟨a, e, r.kp k rfl, fun z => m (.inl z), m2⟩
theorem Stp.same (s : Same H H') : Stp γ σ H γ σ H' := ⟨fun a o h _ => s a o h, fun _ h => .inl h, fun a h z => by
  cases q : H a with
  | none => exact h q
  | some o => rw [s a o q] at z; cases z⟩
/-- slots forgotten, frozen -/
def weakS : Slot → Slot → Prop
  | .no, _ => True
  | .val d, .val e => d = e
  | .val d, .own e => d = e
  | .own d, .own e => d = e
  | _, _ => False
theorem pr_weak (l : γ'.length = γ.length) (w : ∀ (i : Nat) (x y : Slot), γ'[i]? = some x → γ[i]? = some y → weakS x y) : ∀ a, pr γ' σ a → pr γ σ a := fun a ⟨i, d, h1, h2⟩ => by
  have hi : i < γ.length := by have := (List.getElem?_eq_some_iff.mp h1).1; omega
  have h3 := w i _ _ h1 (List.getElem?_eq_getElem hi)
  refine ⟨i, d, ?_, h2⟩
  rw [List.getElem?_eq_getElem hi]
  revert h3
  cases γ[i] with
  | no => intro h; exact h.elim
  | val e => intro h; exact h.elim
  | own e => intro h; rw [show d = e from h]
theorem SR.weak (S : SR K H0 I0 A γ σ H) (l : γ'.length = γ.length) (w : ∀ (i : Nat) (x y : Slot), γ'[i]? = some x → γ[i]? = some y → weakS x y) : SR K H0 I0 A γ' σ H := by
  have m := pr_weak (σ := σ) l w
  have k : Kp H (A.or (pr γ σ)) H (A.or (pr γ' σ)) := .less fun a z => z.imp id (m a)
  have get : ∀ (i : Nat) (x : Slot), γ'[i]? = some x → ∃ y, γ[i]? = some y ∧ weakS x y := fun i x h => by
    have hi : i < γ.length := by have := (List.getElem?_eq_some_iff.mp h).1; omega
    exact ⟨γ[i], List.getElem?_eq_getElem hi, w i _ _ h (List.getElem?_eq_getElem hi)⟩
  have own : ∀ (i : Nat) (d : D), γ'[i]? = some (.own d) → γ[i]? = some (.own d) := fun i d h => by
    obtain ⟨y, e, q⟩ := get i _ h
    cases y with
    | no => exact q.elim
    | val _ => exact q.elim
    | own e' => rw [e, show d = e' from q]
  refine ⟨S.len.trans l.symm, fun i d h => ?_, fun i d h => ?_, fun i j d e a h1 h2 => S.inj i j d e a (own i d h1) (own j e h2), S.ext, S.dom, fun d a h1 h2 => S.io d a (own 0 d h1) h2⟩
  · obtain ⟨y, e, q⟩ := get i _ h
    cases y with
    | no => exact q.elim
    | val e' =>
      obtain ⟨v, e1, r⟩ := S.val i e' e
      rw [show d = e' from q]
      exact ⟨v, e1, r.kp k⟩
    | own e' =>
      obtain ⟨a, e1, r, n, _⟩ := S.own i e' e
      rw [show d = e' from q]
      refine ⟨.ref a, e1, r.rp (fun b z => z.imp id (m b)) fun z => ?_⟩
      rcases z with z | ⟨j, f, z1, z2⟩
      · exact n z
      · have ej := S.inj i j e' f a e (own j f z1) e1 z2
        subst ej
        rw [h] at z1
        cases z1
  · obtain ⟨a, e1, r, n⟩ := S.own i d (own i d h)
    exact ⟨a, e1, r.kp k rfl, n⟩
theorem Stp.weak (l : γ'.length = γ.length) (w : ∀ (i : Nat) (x y : Slot), γ'[i]? = some x → γ[i]? = some y → weakS x y) : Stp γ σ H γ' σ H :=
  ⟨fun _ _ h _ => h, fun a z => .inl (pr_weak l w a z), fun _ h => h⟩
theorem Stp.none (p : Stp γ σ H γ' σ' H') {a : Addr} (h : H' a = none) : H a = none := by
  cases q : H a with
  | none => rfl
  | some o => exact absurd h (p.trk a (by rw [q]; simp))
/-- the values by slot may change where nothing is told -/
theorem pr_chg (h : ∀ (i : Nat) (d : D), γ[i]? = some (.own d) → σ'[i]? = σ[i]?) : ∀ a, pr γ σ' a → pr γ σ a := fun a ⟨i, d, h1, h2⟩ => ⟨i, d, h1, by rw [← h i d h1]; exact h2⟩
theorem SR.chg (S : SR K H0 I0 A γ σ H) (l : σ'.length = σ.length) (h : ∀ (i : Nat) (x : Slot), γ[i]? = some x → x ≠ .no → σ'[i]? = σ[i]?) : SR K H0 I0 A γ σ' H := by
  have own : ∀ (i : Nat) (d : D), γ[i]? = some (.own d) → σ'[i]? = σ[i]? := fun i d e => h i _ e (by simp)
  have m := pr_chg (γ := γ) (σ := σ) (σ' := σ') own
  have k : Kp H (A.or (pr γ σ)) H (A.or (pr γ σ')) := .less fun a z => z.imp id (m a)
  refine ⟨l.trans S.len, fun i d e => ?_, fun i d e => ?_, fun i j d e a h1 h2 h3 h4 => S.inj i j d e a h1 h2 (by rw [← own i d h1]; exact h3) (by rw [← own j e h2]; exact h4), S.ext, S.dom, fun d a h1 h2 => S.io d a h1 (by rw [← own 0 d h1]; exact h2)⟩
  · obtain ⟨v, e1, r⟩ := S.val i d e
    exact ⟨v, by rw [h i _ e (by simp)]; exact e1, r.kp k⟩
  · obtain ⟨a, e1, r, n⟩ := S.own i d e
    exact ⟨a, by rw [own i d e]; exact e1, r.kp k rfl, n⟩
theorem SR.congr (S : SR K H0 I0 A γ σ H) (h : ∀ a, A' a ↔ A a) : SR K H0 I0 A' γ σ H := by
  have k : Kp H (A.or (pr γ σ)) H (A'.or (pr γ σ)) := .less fun a z => z.imp (h a).1 id
  refine ⟨S.len, fun i d e => ?_, fun i d e => ?_, S.inj, S.ext, fun a z => S.dom a ((h a).1 z), S.io⟩
  · obtain ⟨v, e1, r⟩ := S.val i d e
    exact ⟨v, e1, r.kp k⟩
  · obtain ⟨a, e1, r, n, n2⟩ := S.own i d e
    exact ⟨a, e1, r.kp k rfl, fun z => n ((h a).1 z), n2⟩
theorem get_set {α : Type} {l : List α} {i j : Nat} {x y : α} (h : (l.set i x)[j]? = some y) : (j = i ∧ y = x) ∨ (j ≠ i ∧ l[j]? = some y) := by
  by_cases e : i = j
  · subst e
    by_cases hi : i < l.length
    · rw [List.getElem?_set_self hi] at h
      exact .inl ⟨rfl, (Option.some.inj h).symm⟩
    · rw [List.getElem?_eq_none (by simpa using hi)] at h
      cases h
  · rw [List.getElem?_set_ne e] at h
    exact .inr ⟨fun z => e z.symm, h⟩
theorem pr_setVal {i : Nat} {d : D} {v : V} : ∀ a, pr (γ.set i (.val d)) (σ.set i (some v)) a → pr γ σ a := fun a ⟨j, e, h1, h2⟩ => by
  rcases get_set h1 with ⟨_, z⟩ | ⟨z, h1⟩
  · cases z
  · rcases get_set h2 with ⟨z2, _⟩ | ⟨_, h2⟩
    · exact absurd z2 z
    · exact ⟨j, e, h1, h2⟩
/-- a slot takes a value -/
theorem SR.setVal (S : SR K H0 I0 A γ σ H) {i : Nat} {d : D} {v : V} (r : Rp K H (A.or (pr γ σ)) d v) : SR K H0 I0 A (γ.set i (.val d)) (σ.set i (some v)) H := by
  have m := pr_setVal (γ := γ) (σ := σ) (i := i) (d := d) (v := v)
  have k : Kp H (A.or (pr γ σ)) H (A.or (pr (γ.set i (.val d)) (σ.set i (some v)))) := .less fun a z => z.imp id (m a)
  have at_ : ∀ (j : Nat) (x : Slot), (γ.set i (.val d))[j]? = some x → (j = i ∧ x = .val d) ∨ (j ≠ i ∧ γ[j]? = some x ∧ (σ.set i (some v))[j]? = σ[j]?) := fun j x h => by
    rcases get_set h with ⟨e, z⟩ | ⟨e, z⟩
    · exact .inl ⟨e, z⟩
    · exact .inr ⟨e, z, List.getElem?_set_ne (fun q => e q.symm)⟩
  refine ⟨by simp [S.len], fun j e h => ?_, fun j e h => ?_, fun j l e f a h1 h2 h3 h4 => ?_, S.ext, S.dom, fun e a h1 h2 => ?_⟩
  · rcases at_ j _ h with ⟨rfl, z⟩ | ⟨_, z, z2⟩
    · cases z
      have hj : j < (γ.set j (.val d)).length := (List.getElem?_eq_some_iff.mp h).1
      have hj : j < σ.length := by rw [S.len]; simpa using hj
      exact ⟨v, List.getElem?_set_self hj, r.kp k⟩
    · obtain ⟨w, e1, r1⟩ := S.val j e z
      exact ⟨w, by rw [z2]; exact e1, r1.kp k⟩
  · rcases at_ j _ h with ⟨_, z⟩ | ⟨_, z, z2⟩
    · cases z
    · obtain ⟨a, e1, r1, n⟩ := S.own j e z
      exact ⟨a, by rw [z2]; exact e1, r1.kp k rfl, n⟩
  · rcases at_ j _ h1 with ⟨_, z⟩ | ⟨_, z, z2⟩
    · cases z
    · rcases at_ l _ h2 with ⟨_, y⟩ | ⟨_, y, y2⟩
      · cases y
      · rw [z2] at h3
        rw [y2] at h4
        exact S.inj j l e f a z y h3 h4
  · rcases at_ 0 _ h1 with ⟨_, z⟩ | ⟨_, z, z2⟩
    · cases z
    · exact S.io e a z (by rw [← z2]; exact h2)
theorem pr_setOwn {i : Nat} {d : D} {b : Addr} : ∀ a, pr (γ.set i (.own d)) (σ.set i (some (.ref b))) a → pr γ σ a ∨ a = b := fun a ⟨j, e, h1, h2⟩ => by
  rcases get_set h1 with ⟨z, z0⟩ | ⟨z, h1⟩
  · rcases get_set h2 with ⟨_, z1⟩ | ⟨z2, _⟩
    · cases z1; exact .inr rfl
    · exact absurd z z2
  · rcases get_set h2 with ⟨z2, _⟩ | ⟨_, h2⟩
    · exact absurd z2 z
    · exact .inl ⟨j, e, h1, h2⟩
/-- a slot takes a new object -/
theorem SR.setOwn {b : Addr} (S : SR K H0 I0 (A.or (AS.one b)) γ σ H) {i : Nat} {d : D} (r : OwnR K H ((A.or (AS.one b)).or (pr γ σ)) d b) (n : ¬ A b) (n0 : H0 b = none ∨ I0 b) (i0 : i ≠ 0) : SR K H0 I0 A (γ.set i (.own d)) (σ.set i (some (.ref b))) H := by
  have m := pr_setOwn (γ := γ) (σ := σ) (i := i) (d := d) (b := b)
  have k : Kp H ((A.or (AS.one b)).or (pr γ σ)) H (A.or (pr (γ.set i (.own d)) (σ.set i (some (.ref b))))) := .less fun a z => by
    rcases z with z | z
    · exact .inl (.inl z)
    · rcases m a z with z | z
      · exact .inr z
      · exact .inl (.inr z)
  have at_ : ∀ (j : Nat) (x : Slot), (γ.set i (.own d))[j]? = some x → (j = i ∧ x = .own d) ∨ (j ≠ i ∧ γ[j]? = some x ∧ (σ.set i (some (.ref b)))[j]? = σ[j]?) := fun j x h => by
    rcases get_set h with ⟨e, z⟩ | ⟨e, z⟩
    · exact .inl ⟨e, z⟩
    · exact .inr ⟨e, z, List.getElem?_set_ne (fun q => e q.symm)⟩
  have self : ∀ {j : Nat}, (γ.set j (.own d))[j]? = some (.own d) → (σ.set j (some (.ref b)))[j]? = some (some (.ref b)) := fun {j} h => by
    have hj : j < (γ.set j (.own d)).length := (List.getElem?_eq_some_iff.mp h).1
    exact List.getElem?_set_self (by rw [S.len]; simpa using hj)
  have nb : ∀ (j : Nat) (e : D), γ[j]? = some (.own e) → σ[j]? ≠ some (some (.ref b)) := fun j e h1 h2 => by
    obtain ⟨a, e1, _, z, _⟩ := S.own j e h1
    rw [h2] at e1
    cases e1
    exact z (.inr rfl)
  refine ⟨by simp [S.len], fun j e h => ?_, fun j e h => ?_, fun j l e f a h1 h2 h3 h4 => ?_, S.ext, fun a h => S.dom a (.inl h), fun e a h1 h2 => ?_⟩
  · rcases at_ j _ h with ⟨_, z⟩ | ⟨_, z, z2⟩
    · cases z
    · obtain ⟨w, e1, r1⟩ := S.val j e z
      exact ⟨w, by rw [z2]; exact e1, r1.kp k⟩
  · rcases at_ j _ h with ⟨rfl, z⟩ | ⟨_, z, z2⟩
    · cases z
      exact ⟨b, self h, r.kp k rfl, n, n0⟩
    · obtain ⟨a, e1, r1, n1, n2⟩ := S.own j e z
      exact ⟨a, by rw [z2]; exact e1, r1.kp k rfl, fun q => n1 (.inl q), n2⟩
  · rcases at_ j _ h1 with ⟨rfl, z⟩ | ⟨_, z, z2⟩
    · cases z
      rw [self h1] at h3
      cases h3
      rcases at_ l _ h2 with ⟨rfl, y⟩ | ⟨_, y, y2⟩
      · rfl
      · rw [y2] at h4
        exact absurd h4 (nb l f y)
    · rw [z2] at h3
      rcases at_ l _ h2 with ⟨rfl, y⟩ | ⟨_, y, y2⟩
      · cases y
        rw [self h2] at h4
        cases h4
        exact absurd h3 (nb j e z)
      · rw [y2] at h4
        exact S.inj j l e f a z y h3 h4
  · rcases at_ 0 _ h1 with ⟨z, _⟩ | ⟨_, z, z2⟩
    · exact absurd z.symm i0
    · exact S.io e a z (by rw [← z2]; exact h2)
end
end Z
namespace Z
open PySem PySem.Spec L2

/-! ### the small language -/
inductive Bi where
  | len | int | list | tuple | sum | min | max | all | any | abs | min2 | max2 | min3 | max3 | sorted
  deriving DecidableEq, Repr
inductive Ty where
  | int | bool | str | tuple | list | dict
  deriving DecidableEq, Repr
def Ty.nm : Ty → String
  | .int => "int" | .bool => "bool" | .str => "str" | .tuple => "tuple" | .list => "list" | .dict => "dict"
inductive Tg where
  | nm (i : Nat) | nil | cons (a r : Tg) | tup (n : Nat) (r : Tg)
  deriving DecidableEq, Repr

inductive Ex where
  | var (i : Nat) | brw (i : Nat) | cst (c : D) | gcst (x : Str) (c : D)
  | bin (p : Operator) (a b : Ex) | neg (a : Ex)
  | cmp (p : CmpOp) (a b : Ex) | chn (p q : CmpOp) (a b c : Ex)
  | idx (a i : Ex) | slc (a lo hi : Ex) | rev (a : Ex)
  | land (a b : Ex) | lor (a b : Ex) | ite (c a b : Ex)
  | tr (a : Ex) | ccmp (p : CmpOp) (a b : Ex) | cchn (p q : CmpOp) (a b c : Ex) | cand (a b : Ex) | cor (a b : Ex) | cnot (a : Ex) | vnot (c : Ex)
  | tup (as : Ex) | lst (as : Ex)
  | bi (f : Bi) (as : Ex) | isi (T : Ty) (a : Ex)
  | call (k : Nat) (as : Ex) | callm (k i : Nat) (as : Ex)
  | lc (own : List Nat) (t : Tg) (it c e : Ex)
  | pop (i : Nat) | popAt (i : Nat) (a : Ex)
  | lrg (tu : Bool) (a : Ex) | lrg2 (tu : Bool) (a b : Ex)
  | rng1 (a : Ex) | rng2 (a b : Ex) | seq (a : Ex) | enum (a : Ex) | zip (a b : Ex)
  | nil | cons (a r : Ex)
  deriving Inhabited

inductive Sm where
  | asg (i : Nat) (e : Ex) | asl (i : Nat) (e : Ex) | par (sw : Bool) (is : List Nat) (as : Ex) | unp (t : Tg) (e : Ex)
  | aug (i : Nat) (p : Operator) (e : Ex)
  | six (i : Nat) (k e : Ex) | app (i : Nat) (e : Ex) | ext (i : Nat) (e : Ex)
  | drop (e : Ex) | iff (c : Ex) (a b : Sm) | whl (c : Ex) (b : Sm) (w : List Nat)
  | foR (t : Tg) (it : Ex) (b : Sm) (w : List Nat)
  | ret (e : Ex) | reto (i : Nat) | retn | brk | cnt | pass
  | nil | cons (a r : Sm)
  deriving Inhabited

/-! ### values -/
mutual
def py : D → PyData
  | .non => .none | .bl b => .bool b | .int i => .int i | .str s => .str s
  | .tup xs => .tuple (pyL xs) | .lst xs => .list (pyL xs)
  | .scr _ => .none | .dic _ => .none | .set _ => .none
def pyL : List D → List PyData
  | [] => []
  | x :: xs => py x :: pyL xs
end
mutual
/-- what can be compared: n deep at most -/
def shp : Nat → D → Bool
  | _, .non => true | _, .bl _ => true | _, .int _ => true
  | _, .str s => PyData.strOk s
  | n + 1, .tup xs => shpL n xs
  | n + 1, .lst xs => shpL n xs
  | _, _ => false
def shpL : Nat → List D → Bool
  | _, [] => true
  | n, x :: xs => shp n x && shpL n xs
end
def eqD (a b : D) : Bool := PyData.eqv (py a) (py b)

def truD : D → Option Bool
  | .non => some false | .bl b => some b | .int i => some (i != 0)
  | .str s => if s.length ≤ sizeLine then some ((s.length : Int) != 0) else none
  | .tup xs => some (!xs.isEmpty) | .lst xs => some (!xs.isEmpty)
  | _ => none

def MulOk (i j : Int) : Prop := ((-(2 ^ 64) < i ∧ i < 2 ^ 64) ∨ (-(2 ^ 64) < j ∧ j < 2 ^ 64)) ∨ i.natAbs.log2 + j.natAbs.log2 < 1000000
instance (i j : Int) : Decidable (MulOk i j) := by unfold MulOk; infer_instance
def DivOk (j : Int) : Prop := 0 < j ∧ (j < 1073741824 ∨ j.natAbs.log2 < 9000)
instance (j : Int) : Decidable (DivOk j) := by unfold DivOk; infer_instance
def PowOk (i j : Int) : Prop := 0 ≤ j ∧ j ≤ 1000000 ∧ i.natAbs < 2 ^ 64
instance (i j : Int) : Decidable (PowOk i j) := by unfold PowOk; infer_instance
def RepOk (n : Nat) (k : Int) : Prop := -(2 ^ 63) ≤ k ∧ k < 2 ^ 63 ∧ n * k.toNat ≤ sizeLine
instance (n : Nat) (k : Int) : Decidable (RepOk n k) := by unfold RepOk; infer_instance

abbrev Rs := Option (D × Bool)
def b2i (b : Bool) : Int := if b then 1 else 0

def opBin : Operator → D → D → Rs
  | .Add, .int i, .int j => some (.int (i + j), false)
  | .Add, .str a, .str b => if a.length + b.length ≤ sizeLine then some (.str (a ++ b), false) else none
  | .Add, .lst a, .lst b => if a.length + b.length ≤ sizeLine then some (.lst (a ++ b), true) else none
  | .Add, .tup a, .tup b => if a.length + b.length ≤ sizeLine then some (.tup (a ++ b), false) else none
  | .Sub, .int i, .int j => some (.int (i - j), false)
  | .Mult, .int i, .int j => if MulOk i j then some (.int (i * j), false) else none
  | .Mult, .lst a, .int k => if RepOk a.length k then some (.lst (List.replicate k.toNat a).flatten, true) else none
  | .FloorDiv, .int i, .int j => if DivOk j then some (.int (i / j), false) else none
  | .Mod, .int i, .int j => if 0 < j then some (.int (i % j), false) else none
  | .Pow, .int i, .int j => if PowOk i j then some (.int (i ^ j.toNat), false) else none
  | _, _, _ => none

/-- an order of ints, of texts -/
def ltS (a b : Str) : Bool := decide (a.cps.toList < b.cps.toList)
def opCmp : CmpOp → D → D → Option Bool
  | .Eq, a, b => if shp 60 a && shp 60 b then some (eqD a b) else none
  | .NotEq, a, b => if shp 60 a && shp 60 b then some (!eqD a b) else none
  | .Lt, .int i, .int j => some (decide (i < j))
  | .LtE, .int i, .int j => some (decide (i ≤ j))
  | .Gt, .int i, .int j => some (decide (j < i))
  | .GtE, .int i, .int j => some (decide (j ≤ i))
  | .Lt, .str i, .str j => some (ltS i j)
  | .Is, .non, .non => some true
  | .Is, .bl _, .non => some false
  | .Is, .int _, .non => some false
  | .Is, .str _, .non => some false
  | .Is, .tup _, .non => some false
  | .Is, .lst _, .non => some false
  | .IsNot, .non, .non => some false
  | .IsNot, .bl _, .non => some true
  | .IsNot, .int _, .non => some true
  | .IsNot, .str _, .non => some true
  | .IsNot, .tup _, .non => some true
  | .IsNot, .lst _, .non => some true
  | .Is, .bl a, .bl b => some (decide (a = b))
  | .IsNot, .bl a, .bl b => some (!decide (a = b))
  | .In, a, .lst xs => if shp 60 a && shpL 59 xs then some (xs.any fun z => eqD z a) else none
  | .NotIn, a, .lst xs => if shp 60 a && shpL 59 xs then some (!xs.any fun z => eqD z a) else none
  | _, _, _ => none

/-- an item's place -/
def ixI (n : Nat) (i : Int) : Option Nat := ixN n i
def opIdx : D → D → Option D
  | .lst xs, .int i => atI xs i
  | .tup xs, .int i => atI xs i
  | .str s, .int i => if s.length ≤ sizeLine then (atI s.cps.toList i).map fun c => .str ⟨#[c]⟩ else none
  | _, _ => none
def cutD {α : Type} (xs : List α) (lo hi : Option Int) : List α := (xs.drop (HT.sIx xs.length 0 lo)).take (HT.sIx xs.length xs.length hi - HT.sIx xs.length 0 lo)
def opSlc (a : D) (lo hi : Option Int) : Rs :=
  match a with
  | .lst xs => some (.lst (cutD xs lo hi), true)
  | .tup xs => some (.tup (cutD xs lo hi), false)
  | .scr ns => some (.lst ((cutD ns lo hi).map .int), true)
  | _ => none

def intsOf : List D → Option (List Int)
  | [] => some []
  | .int i :: r => (intsOf r).map (i :: ·)
  | _ => none
def blsOf : List D → Option (List Bool)
  | [] => some []
  | .bl i :: r => (blsOf r).map (i :: ·)
  | _ => none
def maxI : Int → List Int → Int
  | m, [] => m
  | m, x :: r => maxI (if m < x then x else m) r
def minI : Int → List Int → Int
  | m, [] => m
  | m, x :: r => minI (if x < m then x else m) r
def insI (x : Int) : List Int → List Int
  | [] => [x]
  | y :: r => if x < y then x :: y :: r else y :: insI x r
def sortI : List Int → List Int
  | [] => []
  | x :: r => insI x (sortI r)

def minL : List Int → Option Int
  | [] => none
  | n :: ns => some (minI n ns)
def maxL : List Int → Option Int
  | [] => none
  | n :: ns => some (maxI n ns)
def opLen : List D → Rs
  | [.lst xs] => some (.int xs.length, false)
  | [.tup xs] => some (.int xs.length, false)
  | [.str s] => if s.length ≤ sizeLine then some (.int s.length, false) else none
  | [.scr ns] => some (.int ns.length, false)
  | _ => none
def opInt : List D → Rs
  | [.int i] => some (.int i, false)
  | [.bl b] => some (.int (b2i b), false)
  | _ => none
def opList : List D → Rs
  | [.lst xs] => some (.lst xs, true)
  | [.tup xs] => some (.lst xs, true)
  | _ => none
def opTuple : List D → Rs
  | [.lst xs] => some (.tup xs, false)
  | [.tup xs] => some (.tup xs, false)
  | _ => none
def opSum : List D → Rs
  | [.lst xs] => (intsOf xs).map fun ns => (.int ns.sum, false)
  | _ => none
def opMin : List D → Rs
  | [.lst xs] => ((intsOf xs).bind minL).map fun n => (.int n, false)
  | _ => none
def opMax : List D → Rs
  | [.lst xs] => ((intsOf xs).bind maxL).map fun n => (.int n, false)
  | _ => none
def opAll : List D → Rs
  | [.lst xs] => (blsOf xs).map fun bs => (.bl (bs.all id), false)
  | _ => none
def opAny : List D → Rs
  | [.lst xs] => (blsOf xs).map fun bs => (.bl (bs.any id), false)
  | _ => none
def opAbs : List D → Rs
  | [.int i] => some (.int (if i < 0 then -i else i), false)
  | _ => none
def opMin2 : List D → Rs
  | [.int i, .int j] => some (.int (if j < i then j else i), false)
  | _ => none
def opMax2 : List D → Rs
  | [.int i, .int j] => some (.int (if j > i then j else i), false)
  | _ => none
def opMin3 : List D → Rs
  | [.int i, .int j, .int k] => some (.int (let m := if j < i then j else i; if k < m then k else m), false)
  | _ => none
def opMax3 : List D → Rs
  | [.int i, .int j, .int k] => some (.int (let m := if i < j then j else i; if m < k then k else m), false)
  | _ => none
def opSorted : List D → Rs
  | [.lst xs] => (intsOf xs).map fun ns => (.lst ((sortI ns).map .int), true)
  | _ => none
def opBi : Bi → List D → Rs
  | .len => opLen | .int => opInt | .list => opList | .tuple => opTuple | .sum => opSum | .min => opMin | .max => opMax
  | .all => opAll | .any => opAny | .abs => opAbs | .min2 => opMin2 | .max2 => opMax2 | .min3 => opMin3 | .max3 => opMax3 | .sorted => opSorted

def tyD : D → String
  | .non => "NoneType" | .bl _ => "bool" | .int _ => "int" | .str _ => "str"
  | .tup _ => "tuple" | .lst _ => "list" | .scr _ => "list" | .dic _ => "dict" | .set _ => "set"
def isiD (T : Ty) (d : D) : Option Bool :=
  match d with
  | .non => some false
  | .bl _ => some (match T with | .bool => true | .int => true | _ => false)
  | .int _ => some (match T with | .int => true | _ => false)
  | .str _ => some (match T with | .str => true | _ => false)
  | .tup _ => some (match T with | .tuple => true | _ => false)
  | .lst _ => some (match T with | .list => true | _ => false)
  | .scr _ => none | .dic _ => none | .set _ => none

/-! ### running -/
structure Tab where
  fn : Nat → List D → Rs
  io : Nat → D → List D → Option (D × D)

mutual
def beqD : D → D → Bool
  | .non, .non => true
  | .bl a, .bl b => a == b
  | .int a, .int b => a == b
  | .str a, .str b => decide (a = b)
  | .tup a, .tup b => beqL a b
  | .lst a, .lst b => beqL a b
  | _, _ => false
def beqL : List D → List D → Bool
  | [], [] => true
  | a :: r, b :: q => beqD a b && beqL r q
  | _, _ => false
end
mutual
theorem eq_of_beqD : ∀ (a b : D), beqD a b = true → a = b
  | .non, .non, _ => rfl
  | .bl a, .bl b, h => by simp [beqD] at h; rw [h]
  | .int a, .int b, h => by simp [beqD] at h; rw [h]
  | .str a, .str b, h => by simp [beqD] at h; rw [h]
  | .tup a, .tup b, h => by simp [beqD] at h; rw [eq_of_beqL a b h]
  | .lst a, .lst b, h => by simp [beqD] at h; rw [eq_of_beqL a b h]
  | .non, .bl _, h | .non, .int _, h | .non, .str _, h | .non, .tup _, h | .non, .lst _, h | .non, .scr _, h | .non, .dic _, h | .non, .set _, h => by simp [beqD] at h
  | .bl _, .non, h | .bl _, .int _, h | .bl _, .str _, h | .bl _, .tup _, h | .bl _, .lst _, h | .bl _, .scr _, h | .bl _, .dic _, h | .bl _, .set _, h => by simp [beqD] at h
  | .int _, .non, h | .int _, .bl _, h | .int _, .str _, h | .int _, .tup _, h | .int _, .lst _, h | .int _, .scr _, h | .int _, .dic _, h | .int _, .set _, h => by simp [beqD] at h
  | .str _, .non, h | .str _, .bl _, h | .str _, .int _, h | .str _, .tup _, h | .str _, .lst _, h | .str _, .scr _, h | .str _, .dic _, h | .str _, .set _, h => by simp [beqD] at h
  | .tup _, .non, h | .tup _, .bl _, h | .tup _, .int _, h | .tup _, .str _, h | .tup _, .lst _, h | .tup _, .scr _, h | .tup _, .dic _, h | .tup _, .set _, h => by simp [beqD] at h
  | .lst _, .non, h | .lst _, .bl _, h | .lst _, .int _, h | .lst _, .str _, h | .lst _, .tup _, h | .lst _, .scr _, h | .lst _, .dic _, h | .lst _, .set _, h => by simp [beqD] at h
  | .scr _, b, h => by cases b <;> simp [beqD] at h
  | .dic _, b, h => by cases b <;> simp [beqD] at h
  | .set _, b, h => by cases b <;> simp [beqD] at h
theorem eq_of_beqL : ∀ (a b : List D), beqL a b = true → a = b
  | [], [], _ => rfl
  | a :: r, b :: q, h => by
    simp only [beqL, Bool.and_eq_true] at h
    rw [eq_of_beqD a b h.1, eq_of_beqL r q h.2]
  | [], _ :: _, h => by simp [beqL] at h
  | _ :: _, [], h => by simp [beqL] at h
end
inductive Opd where
  | v (d : D) | s (i : Nat)
def resolve (γ : Env) : Opd → Option D
  | .v d => some d
  | .s i => match γ[i]? with
    | some (.own d) => some d
    | _ => none
def resolves (γ : Env) : List Opd → Option (List D)
  | [] => some []
  | o :: r => do
    let d ← resolve γ o
    let ds ← resolves γ r
    pure (d :: ds)
abbrev EM (α : Type) := Env → Option (α × Env)
def evVar (i : Nat) : EM (D × Bool) := fun γ => match γ[i]? with
  | some (.val d) => some ((d, false), γ)
  | some (.own d) => some ((d, false), γ.set i (.val d))
  | _ => none
/-- an operand: a borrowed slot stays a slot -/
def opd (a : Ex) (r : EM (D × Bool)) : EM Opd := fun γ => match a with
  | .brw i => match γ[i]? with
    | some (.own _) => some (.s i, γ)
    | some (.val d) => some (.v d, γ)
    | _ => none
  | _ => match r γ with
    | some ((d, _), γ') => some (.v d, γ')
    | none => none
/-- a part of a slice -/
def part (a : Ex) (r : EM (D × Bool)) : EM (Option Int) := fun γ => match a with
  | .nil => some (none, γ)
  | _ => match r γ with
    | some ((.int i, _), γ') => some (some i, γ')
    | _ => none
def ret2 (f : D → D → Rs) (a b : Opd) : EM (D × Bool) := fun γ => match resolve γ a, resolve γ b with
  | some x, some y => (f x y).map fun r => (r, γ)
  | _, _ => none
def wipeE (γ : Env) : List Nat → Env
  | [] => γ
  | i :: r => (wipeE γ r).set i .no
/-- no slot of these owns -/
def noOwn (γ : Env) (l : List Nat) : Bool := l.all fun i => match γ[i]? with
  | some (.own _) => false
  | _ => true
def restoreE (γ0 : Env) (l : List Nat) (γ : Env) : Env := l.foldr (fun i γ => γ.set i (γ0.getD i .no)) γ

mutual
def bindT : Tg → D → Env → Option Env
  | .nm i, d, γ => some (γ.set i (.val d))
  | .tup n r, d, γ => match d with
    | .tup ds => if ds.length = n then bindL r ds γ else none
    | _ => none
  | _, _, _ => none
def bindL : Tg → List D → Env → Option Env
  | .nil, [], γ => some γ
  | .cons a r, d :: ds, γ => match bindT a d γ with
    | some γ' => bindL r ds γ'
    | none => none
  | _, _, _ => none
end

/-- the items walked by a comprehension -/
def lcRun (f : D → EM (Option D)) : List D → List D → EM (List D)
  | [], acc, γ => some (acc, γ)
  | x :: r, acc, γ => match f x γ with
    | some (some y, γ') => if acc.length < sizeLine then lcRun f r (acc ++ [y]) γ' else none
    | some (none, γ') => lcRun f r acc γ'
    | none => none

def rangeD (lo : Int) (n : Nat) : List D := (List.range n).map fun (k : Nat) => .int (lo + (k : Int))
def rngOk (i : Int) : Prop := -(2 ^ 62) ≤ i ∧ i < 2 ^ 62
instance (i : Int) : Decidable (rngOk i) := by unfold rngOk; infer_instance
def rgD (tu : Bool) (i j : Int) : Rs := if rngOk i ∧ rngOk j ∧ (j - i).toNat ≤ sizeLine then some (if tu then (.tup (rangeD i (j - i).toNat), false) else (.lst (rangeD i (j - i).toNat), true)) else none
def itemsD : D → Option (List D)
  | .lst xs => some xs
  | .tup xs => some xs
  | _ => none

mutual
def evE (Φ : Tab) : Ex → EM (D × Bool)
  | .var i, γ => evVar i γ
  | .cst c, γ => some ((c, false), γ)
  | .gcst _ c, γ => some ((c, false), γ)
  | .bin p a b, γ => match opd a (evE Φ a) γ with
    | some (x, γ1) => match opd b (evE Φ b) γ1 with
      | some (y, γ2) => ret2 (opBin p) x y γ2
      | none => none
    | none => none
  | .neg a, γ => match evE Φ a γ with
    | some ((.int i, _), γ1) => some ((.int (-i), false), γ1)
    | _ => none
  | .cmp p a b, γ => match opd a (evE Φ a) γ with
    | some (x, γ1) => match opd b (evE Φ b) γ1 with
      | some (y, γ2) => ret2 (fun x y => (opCmp p x y).map fun k => (.bl k, false)) x y γ2
      | none => none
    | none => none
  | .chn p q a b c, γ => match evE Φ a γ with
    | some ((x, _), γ1) => match evE Φ b γ1 with
      | some ((y, _), γ2) => match opCmp p x y with
        | some true => match evE Φ c γ2 with
          | some ((z, _), γ3) => (opCmp q y z).map fun k => ((.bl k, false), γ3)
          | none => none
        | some false => some ((.bl false, false), γ2)
        | none => none
      | none => none
    | none => none
  | .idx a b, γ => match opd a (evE Φ a) γ with
    | some (x, γ1) => match opd b (evE Φ b) γ1 with
      | some (y, γ2) => ret2 (fun x y => (opIdx x y).map fun d => (d, false)) x y γ2
      | none => none
    | none => none
  | .slc a lo hi, γ => match opd a (evE Φ a) γ with
    | some (x, γ1) => match part lo (evE Φ lo) γ1 with
      | some (l, γ2) => match part hi (evE Φ hi) γ2 with
        | some (h, γ3) => match resolve γ3 x with
          | some d => (opSlc d l h).map fun r => (r, γ3)
          | none => none
        | none => none
      | none => none
    | none => none
  | .rev a, γ => match opd a (evE Φ a) γ with
    | some (x, γ1) => match resolve γ1 x with
      | some (.lst xs) => some ((.lst xs.reverse, true), γ1)
      | _ => none
    | none => none
  | .land a b, γ => match evE Φ a γ with
    | some ((x, _), γ1) => match truD x with
      | some true => (evE Φ b γ1).map fun r => ((r.1.1, false), r.2)
      | some false => some ((x, false), γ1)
      | none => none
    | none => none
  | .lor a b, γ => match evE Φ a γ with
    | some ((x, _), γ1) => match truD x with
      | some true => some ((x, false), γ1)
      | some false => (evE Φ b γ1).map fun r => ((r.1.1, false), r.2)
      | none => none
    | none => none
  | .ite c a b, γ => match evC Φ c γ with
    | some (true, γ1) => evE Φ a γ1
    | some (false, γ1) => evE Φ b γ1
    | none => none
  | .vnot a, γ => match opd a (evE Φ a) γ with
    | some (x, γ1) => match resolve γ1 x with
      | some d => (truD d).map fun k => ((.bl (!k), false), γ1)
      | none => none
    | none => none
  | .tup as, γ => match evS Φ as γ with
    | some (ds, γ1) => if ds.length ≤ sizeLine then some ((.tup (ds.map (·.1)), false), γ1) else none
    | none => none
  | .lst as, γ => match evS Φ as γ with
    | some (ds, γ1) => if ds.length ≤ sizeLine then some ((.lst (ds.map (·.1)), true), γ1) else none
    | none => none
  | .bi f as, γ => match evBs Φ as γ with
    | some (os, γ1) => match resolves γ1 os with
      | some ds => (opBi f ds).map fun r => (r, γ1)
      | none => none
    | none => none
  | .isi T a, γ => match opd a (evE Φ a) γ with
    | some (x, γ1) => match resolve γ1 x with
      | some d => (isiD T d).map fun k => ((.bl k, false), γ1)
      | none => none
    | none => none
  | .call k as, γ => match evS Φ as γ with
    | some (ds, γ1) => (Φ.fn k (ds.map (·.1))).map fun r => (r, γ1)
    | none => none
  | .callm k i as, γ => match γ[i]? with
    | some (.own _) => match evS Φ as γ with
      | some (ds, γ1) => match γ1[i]? with
        | some (.own d) => match Φ.io k d (ds.map (·.1)) with
          | some (r, d') => some ((r, false), γ1.set i (.own d'))
          | none => none
        | _ => none
      | none => none
    | _ => none
  | .lc own t it c e, γ => match evI Φ it γ with
    | some (xs, γ1) =>
      if noOwn γ1 own then
        match lcRun (fun x γ => match bindT t x γ with
          | some γ2 => match evC Φ c γ2 with
            | some (true, γ3) => match evE Φ e γ3 with
              | some ((y, _), γ4) => some (some y, wipeE γ4 own)
              | none => none
            | some (false, γ3) => some (none, wipeE γ3 own)
            | none => none
          | none => none) xs [] (wipeE γ1 own) with
        | some (ys, γ2) => some ((.lst ys, true), restoreE γ1 own γ2)
        | none => none
      else none
    | none => none
  | .lrg tu a, γ => match evE Φ a γ with
    | some ((.int j, _), γ1) => (rgD tu 0 j).map fun r => (r, γ1)
    | _ => none
  | .lrg2 tu a b, γ => match evE Φ a γ with
    | some ((.int i, _), γ1) => match evE Φ b γ1 with
      | some ((.int j, _), γ2) => (rgD tu i j).map fun r => (r, γ2)
      | _ => none
    | _ => none
  | .pop i, γ => match γ[i]? with
    | some (.own (.lst xs)) => match xs[xs.length - 1]? with
      | some y => some ((y, false), γ.set i (.own (.lst xs.dropLast)))
      | none => none
    | _ => none
  | .popAt i a, γ => match γ[i]? with
    | some (.own (.lst _)) => match evE Φ a γ with
      | some ((.int k, _), γ1) => match γ1[i]? with
        | some (.own (.lst xs)) => if -(2 ^ 63) ≤ k ∧ k < 2 ^ 63 then match ixN xs.length k with
          | some j => match xs[j]? with
            | some y => some ((y, false), γ1.set i (.own (.lst (xs.eraseIdx j))))
            | none => none
          | none => none
          else none
        | _ => none
      | _ => none
    | _ => none
  | _, _ => none
/-- a condition -/
def evC (Φ : Tab) : Ex → EM Bool
  | .tr a, γ => match opd a (evE Φ a) γ with
    | some (x, γ1) => match resolve γ1 x with
      | some d => (truD d).map fun k => (k, γ1)
      | none => none
    | none => none
  | .ccmp p a b, γ => match opd a (evE Φ a) γ with
    | some (x, γ1) => match opd b (evE Φ b) γ1 with
      | some (y, γ2) => match resolve γ2 x, resolve γ2 y with
        | some d, some e => (opCmp p d e).map fun k => (k, γ2)
        | _, _ => none
      | none => none
    | none => none
  | .cchn p q a b c, γ => match evE Φ a γ with
    | some ((x, _), γ1) => match evE Φ b γ1 with
      | some ((y, _), γ2) => match opCmp p x y with
        | some true => match evE Φ c γ2 with
          | some ((z, _), γ3) => (opCmp q y z).map fun k => (k, γ3)
          | none => none
        | some false => some (false, γ2)
        | none => none
      | none => none
    | none => none
  | .cand a b, γ => match evC Φ a γ with
    | some (true, γ1) => evC Φ b γ1
    | some (false, γ1) => some (false, γ1)
    | none => none
  | .cor a b, γ => match evC Φ a γ with
    | some (true, γ1) => some (true, γ1)
    | some (false, γ1) => evC Φ b γ1
    | none => none
  | .cnot a, γ => match evC Φ a γ with
    | some (k, γ1) => some (!k, γ1)
    | none => none
  | .nil, γ => some (true, γ)
  | _, _ => none
/-- values to be kept -/
def evS (Φ : Tab) : Ex → EM (List (D × Bool))
  | .nil, γ => some ([], γ)
  | .cons a r, γ => match evE Φ a γ with
    | some (x, γ1) => match evS Φ r γ1 with
      | some (xs, γ2) => some (x :: xs, γ2)
      | none => none
    | none => none
  | _, _ => none
/-- operands -/
def evBs (Φ : Tab) : Ex → EM (List Opd)
  | .nil, γ => some ([], γ)
  | .cons a r, γ => match opd a (evE Φ a) γ with
    | some (x, γ1) => match evBs Φ r γ1 with
      | some (xs, γ2) => some (x :: xs, γ2)
      | none => none
    | none => none
  | _, _ => none
/-- what is walked -/
def evI (Φ : Tab) : Ex → EM (List D)
  | .rng1 a, γ => match evE Φ a γ with
    | some ((.int j, _), γ1) => if rngOk j then some (rangeD 0 j.toNat, γ1) else none
    | _ => none
  | .rng2 a b, γ => match evE Φ a γ with
    | some ((.int i, _), γ1) => match evE Φ b γ1 with
      | some ((.int j, _), γ2) => if rngOk i ∧ rngOk j then some (rangeD i (j - i).toNat, γ2) else none
      | _ => none
    | _ => none
  | .seq a, γ => match evE Φ a γ with
    | some ((d, _), γ1) => (itemsD d).map fun xs => (xs, γ1)
    | none => none
  | _, _ => none
end

inductive Out where
  | nx (γ : Env) | rt (d : D) (fr : Bool) (γ : Env) | bk (γ : Env) | ct (γ : Env)

def setP : List Nat → List (D × Bool) → Env → Option Env
  | [], [], γ => some γ
  | i :: is, (d, fr) :: r, γ => setP is r (γ.set i (nsl i fr d))
  | _, _, _ => none

def forRun (f : D → Env → Option Out) (w : List Nat) : List D → Env → Option Out
  | [], γ => some (.nx γ)
  | x :: r, γ => match f x γ with
    | some (.nx γ') => forRun f w r (wipeE γ' w)
    | some (.ct γ') => forRun f w r (wipeE γ' w)
    | some (.bk γ') => some (.nx (wipeE γ' w))
    | some (.rt d fr γ') => some (.rt d fr γ')
    | none => none
def whRun (c : EM Bool) (f : Env → Option Out) (w : List Nat) : Nat → Env → Option Out
  | 0, _ => none
  | n + 1, γ => match c γ with
    | some (false, γ1) => some (.nx γ1)
    | some (true, γ1) => match f γ1 with
      | some (.nx γ') => whRun c f w n (wipeE γ' w)
      | some (.ct γ') => whRun c f w n (wipeE γ' w)
      | some (.bk γ') => some (.nx (wipeE γ' w))
      | some (.rt d fr γ') => some (.rt d fr γ')
      | none => none
    | none => none

/-- n: how often a while may turn -/
def ex (Φ : Tab) (n : Nat) : Sm → Env → Option Out
  | .asg i e, γ => match evE Φ e γ with
    | some ((d, fr), γ1) => some (.nx (γ1.set i (nsl i fr d)))
    | none => none
  | .asl i e, γ => match evE Φ e γ with
    | some ((d, fr), γ1) => some (.nx (γ1.set i (nsl i fr d)))
    | none => none
  | .par _ is as, γ => match evS Φ as γ with
    | some (ds, γ1) => (setP is ds γ1).map .nx
    | none => none
  | .unp t e, γ => match evE Φ e γ with
    | some ((d, _), γ1) => (bindT t d γ1).map .nx
    | none => none
  | .aug i p e, γ => match γ[i]? with
    | some (.val (.int x)) => match evE Φ e γ with
      | some ((.int y, _), γ1) => match p with
        | .Add => some (.nx (γ1.set i (.val (.int (x + y)))))
        | .Sub => some (.nx (γ1.set i (.val (.int (x - y)))))
        | .Mult => if MulOk x y then some (.nx (γ1.set i (.val (.int (x * y))))) else none
        | _ => none
      | _ => none
    | _ => none
  | .six i k e, γ => match evE Φ e γ with
    | some ((y, _), γ1) => match γ1[i]? with
      | some (.own _) => match evE Φ k γ1 with
        | some ((.int j, _), γ2) => match γ2[i]? with
          | some (.own (.lst xs)) => match ixN xs.length j with
            | some m => some (.nx (γ2.set i (.own (.lst (xs.set m y)))))
            | none => none
          | _ => none
        | _ => none
      | _ => none
    | none => none
  | .app i e, γ => match γ[i]? with
    | some (.own (.lst _)) => match evE Φ e γ with
      | some ((y, _), γ1) => match γ1[i]? with
        | some (.own (.lst xs)) => if xs.length < sizeLine then some (.nx (γ1.set i (.own (.lst (xs ++ [y]))))) else none
        | _ => none
      | none => none
    | _ => none
  | .ext i e, γ => match γ[i]? with
    | some (.own (.lst _)) => match evE Φ e γ with
      | some ((.lst ys, _), γ1) => match γ1[i]? with
        | some (.own (.lst xs)) => if xs.length + ys.length ≤ sizeLine then some (.nx (γ1.set i (.own (.lst (xs ++ ys))))) else none
        | _ => none
      | _ => none
    | _ => none
  | .drop e, γ => match evE Φ e γ with
    | some (_, γ1) => some (.nx γ1)
    | none => none
  | .iff c a b, γ => match evC Φ c γ with
    | some (true, γ1) => ex Φ n a γ1
    | some (false, γ1) => ex Φ n b γ1
    | none => none
  | .whl c b w, γ => whRun (evC Φ c) (ex Φ n b) w n (wipeE γ w)
  | .foR t it b w, γ => match evI Φ it γ with
    | some (xs, γ1) => forRun (fun x γ => match bindT t x γ with
        | some γ2 => ex Φ n b γ2
        | none => none) w xs (wipeE γ1 w)
    | none => none
  | .ret e, γ => match evE Φ e γ with
    | some ((d, fr), γ1) => some (.rt d fr γ1)
    | none => none
  | .reto i, γ => match γ[i]? with
    | some (.own d) => some (.rt d true γ)
    | some (.val d) => some (.rt d false γ)
    | _ => none
  | .retn, γ => some (.rt .non false γ)
  | .brk, γ => some (.bk γ)
  | .cnt, γ => some (.ct γ)
  | .pass, γ => some (.nx γ)
  | .nil, γ => some (.nx γ)
  | .cons a r, γ => match ex Φ n a γ with
    | some (.nx γ1) => ex Φ n r γ1
    | o => o

def start0 (m : Nat) (ds : List D) : Env := ds.map .val ++ List.replicate (m - ds.length) .no
/-- a def's value: m slots, fuel n -/
def run (Φ : Tab) (n m : Nat) (b : Sm) (ds : List D) : Rs :=
  match ex Φ n b (start0 m ds) with
  | some (.rt d fr _) => some (d, fr)
  | some (.nx _) => some (.non, false)
  | _ => none
/-- .. whose first argument is changed in place -/
def ownAt (γ : Env) (i : Nat) : Option D := match γ[i]? with
  | some (.own t) => some t
  | _ => none
def runM (Φ : Tab) (n m : Nat) (b : Sm) (t : D) (ds : List D) : Option (D × D) :=
  match ex Φ n b ((start0 m (t :: ds)).set 0 (.own t)) with
  | some (.rt d false γ) => (ownAt γ 0).map fun t' => (d, t')
  | some (.nx γ) => (ownAt γ 0).map fun t' => (.non, t')
  | _ => none
end Z
namespace Z
open PySem PySem.Spec L2

/-- read: the top may be owned -/
def RpT (K : PySem.W.Frag) (H : Hp) (B : AS) (d : D) (v : V) : Prop :=
  match d with
  | .lst ds => ∃ a vs, v = .ref a ∧ H a = some (.lst vs) ∧ RpL K H B ds vs
  | d => Rp K H B d v
theorem Rp.t {K : PySem.W.Frag} {H : Hp} {B : AS} : ∀ {d : D} {v : V}, Rp K H B d v → RpT K H B d v
  | .lst _, _, ⟨a, vs, e, h1, h2⟩ => ⟨a, vs, e, h1.1, h2⟩
  | .non, _, h => h | .bl _, _, h => h | .int _, _, h => h | .str _, _, h => h | .tup _, _, h => h | .scr _, _, h => h | .dic _, _, h => h | .set _, _, h => h
theorem OwnR.t {K : PySem.W.Frag} {H : Hp} {B : AS} : ∀ {d : D} {a : Addr}, OwnR K H B d a → RpT K H B d (.ref a)
  | .lst _, a, ⟨vs, h1, h2⟩ => ⟨a, vs, rfl, h1, h2⟩
  | .non, _, h => h.elim | .bl _, _, h => h.elim | .int _, _, h => h.elim | .str _, _, h => h.elim | .tup _, _, h => h.elim | .scr _, _, h => h.elim | .dic _, _, h => h.elim | .set _, _, h => h.elim
theorem RpT.kp {K : PySem.W.Frag} {H H' : Hp} {B B' : AS} (k : Kp H B H' B') (s : Same H H') : ∀ {d : D} {v : V}, RpT K H B d v → RpT K H' B' d v
  | .lst _, _, ⟨a, vs, e, h1, h2⟩ => ⟨a, vs, e, s a _ h1, h2.kp k⟩
  | .non, _, h => h | .bl _, _, h => h | .int _, _, h => h | .str _, _, h => h | .tup _, _, h => Rp.kp k _ _ h | .scr _, _, h => Rp.kp k _ _ h | .dic _, _, h => h | .set _, _, h => h

/-- what an operation hands back -/
def ResD (K : PySem.W.Frag) (B : AS) (H H' : Hp) (d : D) (fr : Bool) (v : V) : Prop :=
  Same H H' ∧ match fr with
    | true => ∃ a, v = .ref a ∧ H a = none ∧ OwnR K H' (B.or (AS.one a)) d a
    | false => Rp K H' B d v
def Dom (B : AS) (H : Hp) : Prop := ∀ a, B a → H a ≠ none

section
variable {K : PySem.W.Frag} {H H' : Hp} {B : AS}
theorem same_new {p : Addr} {o : HO} (h : H p = none) : Same H (upd H p o) := fun b x e => by rw [upd_ne (ne_of_none e h)]; exact e
theorem kp_new {p : Addr} {o : HO} (h : H p = none) : Kp H B (upd H p o) (B.or (AS.one p)) := fun a x e n => ⟨same_new h a x e, fun z => z.elim n fun z => by rw [show a = p from z, h] at e; cases e⟩
theorem kp_new' {p : Addr} {o : HO} (h : H p = none) : Kp H B (upd H p o) B := fun a x e n => ⟨same_new h a x e, n⟩
theorem dom_new (dB : Dom B H) {p : Addr} (h : H p = none) : ¬ B p := fun z => dB p z h
theorem res_lst {p : Addr} {ds : List D} {vs : List V} (h : H p = none) (r : RpL K H B ds vs) : ResD K B H (upd H p (.lst vs)) (.lst ds) true (.ref p) :=
  ⟨same_new h, p, rfl, h, vs, upd_same, r.kp (kp_new h)⟩
theorem res_tup (dB : Dom B H) {p : Addr} {ds : List D} {vs : List V} (h : H p = none) (r : RpL K H B ds vs) : ResD K B H (upd H p (.tup vs)) (.tup ds) false (.ref p) :=
  ⟨same_new h, p, vs, rfl, .inl ⟨upd_same, dom_new dB h⟩, r.kp (kp_new' h)⟩
theorem res_old {d : D} {v : V} (r : Rp K H B d v) : ResD K B H H d false v := ⟨Same.refl H, r⟩
theorem sqt_of {a : Addr} {vs : List V} (h : (H a = some (.tup vs) ∧ ¬ B a) ∨ KTup K a vs) : SqT K H a vs := h.imp (fun z => .inl z.1) id
theorem sql_scr {a : Addr} {vs : List V} (h : (∃ o, H a = some (.frz o (.lst vs)) ∧ ¬ B a) ∨ KLst K a vs) : SqL K H a vs := h.imp (fun ⟨o, z⟩ => .inr ⟨o, z.1⟩) id
theorem same_upd_of {a p : Addr} {o : HO} (h : H p = none) (s : Same H H') : True := trivial

mutual
theorem dp_of : ∀ (n : Nat) (d : D) (v : V), shp n d = true → Rp K H B d v → Dp K H v (py d)
  | _, .non, v, _, h => by rw [show v = .non from h]; exact .non
  | _, .bl b, v, _, h => by rw [show v = .bl b from h]; exact .bl b
  | _, .int i, v, _, h => by rw [show v = .int i from h]; exact .int i
  | _, .str i, v, _, h => by rw [show v = .str i from h]; exact .str i
  | 0, .tup _, _, h, _ => by simp [shp] at h
  | 0, .lst _, _, h, _ => by simp [shp] at h
  | n + 1, .tup ds, v, s, h => by
    obtain ⟨a, vs, e, h1, h2⟩ := h
    rw [e, py]
    exact .tup (sqt_of h1) (dpL_of n ds vs (by simpa [shp] using s) h2)
  | n + 1, .lst ds, v, s, h => by
    obtain ⟨a, vs, e, h1, h2⟩ := h
    rw [e, py]
    exact .lst (SqL.of h1.1) (dpL_of n ds vs (by simpa [shp] using s) h2)
  | n, .scr _, _, h, _ => by cases n <;> simp [shp] at h
  | n, .dic _, _, h, _ => by cases n <;> simp [shp] at h
  | n, .set _, _, h, _ => by cases n <;> simp [shp] at h
theorem dpL_of : ∀ (n : Nat) (ds : List D) (vs : List V), shpL n ds = true → RpL K H B ds vs → DpAll K H vs (pyL ds)
  | _, [], vs, _, h => by rw [show vs = [] from h, pyL]; exact .nil
  | n, d :: ds, vs, s, h => by
    obtain ⟨v, r, e, h1, h2⟩ := h
    simp only [shpL, Bool.and_eq_true] at s
    rw [e, pyL]
    exact .cons (dp_of n d v s.1 h1) (dpL_of n ds r s.2 h2)
end
theorem dpT_of {n : Nat} {d : D} {v : V} (s : shp n d = true) (h : RpT K H B d v) : Dp K H v (py d) := by
  cases d with
  | lst ds =>
    obtain ⟨a, vs, e, h1, h2⟩ := h
    cases n with
    | zero => simp [shp] at s
    | succ n =>
      rw [e, py]
      exact .lst (SqL.of h1) (dpL_of n ds vs (by simpa [shp] using s) h2)
  | _ => exact dp_of (B := B) n _ v s h
mutual
theorem lay_of : ∀ (n : Nat) (d : D), shp n d = true → (py d).canLay0 = true ∧ (py d).depth ≤ n
  | _, .non, _ => ⟨rfl, Nat.zero_le _⟩
  | _, .bl b, _ => ⟨rfl, Nat.zero_le _⟩
  | _, .int i, _ => ⟨rfl, Nat.zero_le _⟩
  | _, .str i, h => ⟨by simpa [shp, py, PyData.canLay0] using h, Nat.zero_le _⟩
  | 0, .tup _, h => by simp [shp] at h
  | 0, .lst _, h => by simp [shp] at h
  | n + 1, .tup ds, s => by
    obtain ⟨h1, h2⟩ := layL_of n ds (by simpa [shp] using s)
    exact ⟨by simpa [py, PyData.canLay0] using h1, by simp only [py, PyData.depth]; omega⟩
  | n + 1, .lst ds, s => by
    obtain ⟨h1, h2⟩ := layL_of n ds (by simpa [shp] using s)
    exact ⟨by simpa [py, PyData.canLay0] using h1, by simp only [py, PyData.depth]; omega⟩
  | n, .scr _, h => by cases n <;> simp [shp] at h
  | n, .dic _, h => by cases n <;> simp [shp] at h
  | n, .set _, h => by cases n <;> simp [shp] at h
theorem layL_of : ∀ (n : Nat) (ds : List D), shpL n ds = true → PyData.canLayAll0 (pyL ds) = true ∧ PyData.depthAll (pyL ds) ≤ n
  | _, [], _ => ⟨rfl, Nat.zero_le _⟩
  | n, d :: ds, s => by
    simp only [shpL, Bool.and_eq_true] at s
    obtain ⟨h1, h2⟩ := lay_of n d s.1
    obtain ⟨h3, h4⟩ := layL_of n ds s.2
    refine ⟨by simp only [pyL, PyData.canLayAll0, h1, h3, Bool.and_self], ?_⟩
    simp only [pyL, PyData.depthAll]
    omega
end
theorem shaped_of {n : Nat} {d : D} (hn : n ≤ 64) (s : shp n d = true) : SeqAt.shaped (py d) = true := by
  obtain ⟨h1, h2⟩ := lay_of n d s
  simp only [SeqAt.shaped, h1, Bool.true_and, decide_eq_true_eq]
  omega
theorem shapedL_of {n : Nat} {ds : List D} (hn : n < 64) (s : shpL n ds = true) : SeqAt.shaped (.list (pyL ds)) = true := by
  obtain ⟨h1, h2⟩ := layL_of n ds s
  unfold SeqAt.shaped
  rw [show PyData.canLay0 (.list (pyL ds)) = true from h1, Bool.true_and]
  refine decide_eq_true ?_
  show PyData.depthAll (pyL ds) + 1 ≤ 64
  omega
end

theorem pyL_map (xs : List D) : pyL xs = xs.map py := by
  induction xs with
  | nil => rfl
  | cons x xs ih => simp only [pyL, List.map_cons, ih]
theorem any_eqD (xs : List D) (a : D) : (pyL xs).any (fun z => PyData.eqv z (py a)) = xs.any fun z => eqD z a := by
  rw [pyL_map, List.any_map]
  rfl
theorem cutV_RpL {K : PySem.W.Frag} {H : Hp} {B : AS} {ds : List D} {vs : List V} (h : RpL K H B ds vs) (lo hi : Option Int) : RpL K H B (cutD ds lo hi) (cutV vs lo hi) := by
  unfold cutD cutV
  rw [h.len]
  exact (h.drop _).take _
theorem cutD_map {α β : Type} (f : α → β) (xs : List α) (lo hi : Option Int) : cutD (xs.map f) lo hi = (cutD xs lo hi).map f := by
  unfold cutD
  rw [List.length_map, List.map_take, List.map_drop]
theorem cutV_eq (xs : List V) (lo hi : Option Int) : cutV xs lo hi = cutD xs lo hi := rfl
theorem cutD_whole {α : Type} {xs : List α} {lo hi : Option Int} (h : HT.sIx xs.length 0 lo = 0 ∧ HT.sIx xs.length xs.length hi = xs.length) : cutD xs lo hi = xs := by
  unfold cutD
  rw [h.1, h.2]
  simp

/-! ### operators -/
def rBin (K : PySem.W.Frag) (p : Operator) : R2 := fun x y H Q => ∃ (B : AS) (d e r : D) (fr : Bool), opBin p d e = some (r, fr) ∧ RpT K H B d x ∧ RpT K H B e y ∧ Dom B H ∧ ∀ v H', ResD K B H H' r fr v → Q v H'
theorem op_bin {X : Cx} (p : Operator) : OpR X (binaryOp p) (rBin X.K p) := by
  intro pins s σ H x y v u Q I rx ry ⟨B, d, e, r, fr, ho, hd, he, hB, q⟩
  cases p <;> cases d <;> first
    | (simp only [opBin, reduceCtorEq] at ho; done)
    | skip
  all_goals cases e <;> first
    | (simp only [opBin, reduceCtorEq] at ho; done)
    | skip
  all_goals simp only [opBin, Option.ite_none_right_eq_some, Option.some.injEq, Prod.mk.injEq] at ho
  · obtain ⟨rfl, rfl⟩ := ho
    exact op_add pins s σ H x y v u Q I rx ry ⟨_, _, hd, he, q _ _ (res_old rfl)⟩
  · obtain ⟨hz, rfl, rfl⟩ := ho
    exact op_add_str pins s σ H x y v u Q I rx ry ⟨_, _, hd, he, by simpa using hz, q _ _ (res_old rfl)⟩
  · obtain ⟨hz, rfl, rfl⟩ := ho
    obtain ⟨a, vs, rfl, h1, h2⟩ := hd
    obtain ⟨b, ws, rfl, h3, h4⟩ := he
    refine op_catA pins s σ H _ _ v u Q I rx ry ⟨a, b, vs, ws, rfl, rfl, sqt_of h1, sqt_of h3, by rw [h2.len, h4.len]; exact hz, fun z => ?_, fun z z2 => ?_, fun _ _ p hp => q _ _ (res_tup hB hp (h2.app h4))⟩
    · have : (‹List D› : List D) = ‹List D› := rfl
      have l := h2.len
      rw [z] at l
      have e0 := List.eq_nil_of_length_eq_zero l.symm
      rw [e0] at q
      exact q _ _ (res_old ⟨b, ws, rfl, h3, by simpa using h4⟩)
    · have l := h4.len
      rw [z2] at l
      have e0 := List.eq_nil_of_length_eq_zero l.symm
      rw [e0] at q
      exact q _ _ (res_old ⟨a, vs, rfl, h1, by simpa using h2⟩)
  · obtain ⟨hz, rfl, rfl⟩ := ho
    obtain ⟨a, vs, rfl, h1, h2⟩ := hd
    obtain ⟨b, ws, rfl, h3, h4⟩ := he
    exact op_cat pins s σ H _ _ v u Q I rx ry ⟨a, b, vs, ws, rfl, rfl, h1, h3, by rw [h2.len, h4.len]; exact hz, fun p hp => q _ _ (res_lst hp (h2.app h4))⟩
  · obtain ⟨rfl, rfl⟩ := ho
    exact op_sub pins s σ H x y v u Q I rx ry ⟨_, _, hd, he, q _ _ (res_old rfl)⟩
  · obtain ⟨hz, rfl, rfl⟩ := ho
    rcases hz with hz | hz
    · exact op_mul pins s σ H x y v u Q I rx ry ⟨_, _, hd, he, hz, q _ _ (res_old rfl)⟩
    · exact op_mulW pins s σ H x y v u Q I rx ry ⟨_, _, hd, he, hz, q _ _ (res_old rfl)⟩
  · obtain ⟨hz, rfl, rfl⟩ := ho
    obtain ⟨a, vs, rfl, h1, h2⟩ := hd
    refine op_rep pins s σ H _ _ v u Q I rx ry ⟨a, _, vs, rfl, he, h1, hz.1, hz.2.1, by rw [h2.len]; exact hz.2.2, fun p hp => q _ _ (res_lst hp (h2.rep _))⟩
  · obtain ⟨hz, rfl, rfl⟩ := ho
    exact op_mod pins s σ H x y v u Q I rx ry ⟨_, _, hd, he, hz, q _ _ (res_old rfl)⟩
  · obtain ⟨hz, rfl, rfl⟩ := ho
    exact op_pow pins s σ H x y v u Q I rx ry ⟨_, _, hd, he, hz, q _ _ (res_old rfl)⟩
  · obtain ⟨hz, rfl, rfl⟩ := ho
    rcases hz with ⟨h0, hz | hz⟩
    · exact op_fdiv pins s σ H x y v u Q I rx ry ⟨_, _, hd, he, ⟨h0, hz⟩, q _ _ (res_old rfl)⟩
    · exact op_fdivW pins s σ H x y v u Q I rx ry ⟨_, _, hd, he, ⟨h0, hz⟩, q _ _ (res_old rfl)⟩

def rCmp (K : PySem.W.Frag) (p : CmpOp) : R2 := fun x y H Q => ∃ (B : AS) (d e : D) (k : Bool), opCmp p d e = some k ∧ RpT K H B d x ∧ RpT K H B e y ∧ Q (.bl k) H
end Z
namespace Z
open PySem PySem.Spec L2

theorem is_non {K : PySem.W.Frag} {H : Hp} {B : AS} {d : D} {x : V} (h : RpT K H B d x) : (∃ a vs, d = .tup a ∧ x = .ref vs) ∨ (∃ a vs, d = .lst a ∧ x = .ref vs) ∨ (∃ a vs, d = .scr a ∧ x = .ref vs) ∨ (d = .non ∧ x = .non) ∨ (∃ b, d = .bl b ∧ x = .bl b) ∨ (∃ b, d = .int b ∧ x = .int b) ∨ (∃ b, d = .str b ∧ x = .str b) := by
  cases d with
  | non => exact .inr (.inr (.inr (.inl ⟨rfl, h⟩)))
  | bl b => exact .inr (.inr (.inr (.inr (.inl ⟨b, rfl, h⟩))))
  | int b => exact .inr (.inr (.inr (.inr (.inr (.inl ⟨b, rfl, h⟩)))))
  | str b => exact .inr (.inr (.inr (.inr (.inr (.inr ⟨b, rfl, h⟩)))))
  | tup a => obtain ⟨b, vs, e, _⟩ := h; exact .inl ⟨a, b, rfl, e⟩
  | lst a => obtain ⟨b, vs, e, _⟩ := h; exact .inr (.inl ⟨a, b, rfl, e⟩)
  | scr a => obtain ⟨b, e, _⟩ := h; exact .inr (.inr (.inl ⟨a, b, rfl, e⟩))
  | dic a => exact h.elim
  | set a => exact h.elim
theorem isN_of {K : PySem.W.Frag} {H : Hp} {B : AS} {d : D} {x : V} {k : Bool} (h : RpT K H B d x) (ho : opCmp .Is d .non = some k) : decide (x = .non) = k := by
  rcases is_non h with ⟨a, b, rfl, rfl⟩ | ⟨a, b, rfl, rfl⟩ | ⟨a, b, rfl, rfl⟩ | ⟨rfl, rfl⟩ | ⟨b, rfl, rfl⟩ | ⟨b, rfl, rfl⟩ | ⟨b, rfl, rfl⟩ <;> simp_all [opCmp]
theorem notN_of {K : PySem.W.Frag} {H : Hp} {B : AS} {d : D} {x : V} {k : Bool} (h : RpT K H B d x) (ho : opCmp .IsNot d .non = some k) : (!decide (x = .non)) = k := by
  rcases is_non h with ⟨a, b, rfl, rfl⟩ | ⟨a, b, rfl, rfl⟩ | ⟨a, b, rfl, rfl⟩ | ⟨rfl, rfl⟩ | ⟨b, rfl, rfl⟩ | ⟨b, rfl, rfl⟩ | ⟨b, rfl, rfl⟩ <;> simp_all [opCmp]
theorem dpTL {K : PySem.W.Frag} {H : Hp} {B : AS} {n : Nat} {ds : List D} {y : V} (s : shpL n ds = true) (h : RpT K H B (.lst ds) y) : Dp K H y (.list (pyL ds)) := by
  obtain ⟨a, vs, e, h1, h2⟩ := h
  rw [e]
  exact .lst (SqL.of h1) (dpL_of n ds vs s h2)
theorem op_cmp {X : Cx} (hu : X.A.units + 65 < cLine) (p : CmpOp) : OpR X (compareOp p) (rCmp X.K p) := by
  intro pins s σ H x y v u Q I rx ry ⟨B, d, e, k, ho, hd, he, q⟩
  have eqC : ∀ {k' : Bool}, (shp 60 d && shp 60 e) = true → k' = eqD d e → Q (.bl k') H → wpAny (model X.prog X.w) X.A (compareOp .Eq v u) (EP X pins σ Q) X.xe s := fun {k'} hs e1 q => by
    rw [Bool.and_eq_true] at hs
    subst e1
    exact op_eqD (by omega) pins s σ H x y v u Q I rx ry ⟨_, _, dpT_of hs.1 hd, dpT_of hs.2 he, shaped_of (by omega) hs.1, shaped_of (by omega) hs.2, q⟩
  have neC : ∀ {k' : Bool}, (shp 60 d && shp 60 e) = true → k' = !eqD d e → Q (.bl k') H → wpAny (model X.prog X.w) X.A (compareOp .NotEq v u) (EP X pins σ Q) X.xe s := fun {k'} hs e1 q => by
    rw [Bool.and_eq_true] at hs
    subst e1
    exact op_neD (by omega) pins s σ H x y v u Q I rx ry ⟨_, _, dpT_of hs.1 hd, dpT_of hs.2 he, shaped_of (by omega) hs.1, shaped_of (by omega) hs.2, q⟩
  cases p with
  | Eq =>
    simp only [opCmp, Option.ite_none_right_eq_some, Option.some.injEq] at ho
    exact eqC ho.1 ho.2.symm q
  | NotEq =>
    simp only [opCmp, Option.ite_none_right_eq_some, Option.some.injEq] at ho
    exact neC ho.1 ho.2.symm q
  | Is =>
    cases e with
    | non =>
      cases isN_of hd ho
      exact op_isN pins s σ H x y v u Q I rx ry ⟨he, q⟩
    | bl b =>
      cases d with
      | bl a =>
        simp only [opCmp, Option.some.injEq] at ho
        subst ho
        exact op_isBl pins s σ H x y v u Q I rx ry ⟨_, _, hd, he, q⟩
      | _ => simp [opCmp] at ho
    | _ => cases d <;> simp [opCmp] at ho
  | IsNot =>
    cases e with
    | non =>
      cases notN_of hd ho
      exact op_notN pins s σ H x y v u Q I rx ry ⟨he, q⟩
    | bl b =>
      cases d with
      | bl a =>
        simp only [opCmp, Option.some.injEq] at ho
        subst ho
        exact op_notBl pins s σ H x y v u Q I rx ry ⟨_, _, hd, he, q⟩
      | _ => simp [opCmp] at ho
    | _ => cases d <;> simp [opCmp] at ho
  | In =>
    cases e with
    | lst ds =>
      simp only [opCmp, Option.ite_none_right_eq_some, Option.some.injEq, Bool.and_eq_true] at ho
      obtain ⟨⟨h1, h2⟩, rfl⟩ := ho
      rw [← any_eqD] at q
      exact op_inD hu pins s σ H x y v u Q I rx ry ⟨_, _, dpT_of h1 hd, dpTL h2 he, shaped_of (by omega) h1, shapedL_of (by omega) h2, q⟩
    | _ => cases d <;> simp [opCmp] at ho
  | NotIn =>
    cases e with
    | lst ds =>
      simp only [opCmp, Option.ite_none_right_eq_some, Option.some.injEq, Bool.and_eq_true] at ho
      obtain ⟨⟨h1, h2⟩, rfl⟩ := ho
      rw [← any_eqD] at q
      exact op_notInD hu pins s σ H x y v u Q I rx ry ⟨_, _, dpT_of h1 hd, dpTL h2 he, shaped_of (by omega) h1, shapedL_of (by omega) h2, q⟩
    | _ => cases d <;> simp [opCmp] at ho
  | Lt =>
    cases d <;> cases e <;> simp only [opCmp, reduceCtorEq, Option.some.injEq] at ho <;> subst ho
    · exact op_lt pins s σ H x y v u Q I rx ry ⟨_, _, hd, he, q⟩
    · exact op_lt_str pins s σ H x y v u Q I rx ry ⟨_, _, hd, he, q⟩
  | LtE =>
    cases d <;> cases e <;> simp only [opCmp, reduceCtorEq, Option.some.injEq] at ho <;> subst ho
    exact op_le pins s σ H x y v u Q I rx ry ⟨_, _, hd, he, q⟩
  | Gt =>
    cases d <;> cases e <;> simp only [opCmp, reduceCtorEq, Option.some.injEq] at ho <;> subst ho
    exact op_gt pins s σ H x y v u Q I rx ry ⟨_, _, hd, he, q⟩
  | GtE =>
    cases d <;> cases e <;> simp only [opCmp, reduceCtorEq, Option.some.injEq] at ho <;> subst ho
    exact op_ge pins s σ H x y v u Q I rx ry ⟨_, _, hd, he, q⟩

/-! ### subscripts -/
theorem atI_RpL {K : PySem.W.Frag} {H : Hp} {B : AS} {ds : List D} {vs : List V} {i : Int} {d : D} (h : RpL K H B ds vs) (e : atI ds i = some d) : ∃ v, atI vs i = some v ∧ Rp K H B d v := by
  unfold atI at e ⊢
  rw [h.len]
  cases q : ixN ds.length i with
  | none => rw [q] at e; cases e
  | some j =>
    rw [q] at e
    exact h.get (i := j) e
def rIdx (K : PySem.W.Frag) : R2 := fun x y H Q => ∃ (B : AS) (d e r : D), opIdx d e = some r ∧ RpT K H B d x ∧ RpT K H B e y ∧ ∀ v, Rp K H B r v → Q v H
theorem ix_D {X : Cx} : IxR X (rIdx X.K) := by
  intro value slice pins s σ H x y v u Q I rx ry ⟨B, d, e, r, ho, hd, he, q⟩ hsub
  have imp := fun q => @ix_seq X value slice pins s σ H x y v u Q I rx ry q hsub
  cases d <;> first
    | (simp only [opIdx, reduceCtorEq] at ho; done)
    | skip
  all_goals cases e <;> first
    | (simp only [opIdx, reduceCtorEq] at ho; done)
    | skip
  · simp only [opIdx, Option.ite_none_right_eq_some, Option.map_eq_some_iff] at ho
    obtain ⟨hz, c, e1, rfl⟩ := ho
    exact imp (.inr (.inr ⟨_, _, c, hd, he, hz, e1, q _ rfl⟩))
  · obtain ⟨a, vs, rfl, h1, h2⟩ := hd
    obtain ⟨w, e1, h3⟩ := atI_RpL h2 ho
    exact imp (.inr (.inl ⟨a, vs, _, w, rfl, he, sqt_of h1, e1, q _ h3⟩))
  · obtain ⟨a, vs, rfl, h1, h2⟩ := hd
    obtain ⟨w, e1, h3⟩ := atI_RpL h2 ho
    exact imp (.inl ⟨a, vs, _, w, rfl, he, SqL.of h1, e1, q _ h3⟩)
def rSlc (K : PySem.W.Frag) : V → Option Int → Option Int → Hp → VK → Prop := fun x lo hi H Q => ∃ (B : AS) (d r : D) (fr : Bool), opSlc d lo hi = some (r, fr) ∧ RpT K H B d x ∧ Dom B H ∧ ∀ v H', ResD K B H H' r fr v → Q v H'
theorem sl_D {X : Cx} : SlR X (rSlc X.K) := by
  have imp := (@sl_list X).or (@sl_tupA X)
  intro pins s σ H x v vl vu lo hi sl Q I rx hs pl pu ⟨B, d, r, fr, ho, hd, hB, q⟩
  refine imp pins s σ H x v vl vu lo hi sl Q I rx hs pl pu ?_
  cases d <;> simp only [opSlc, reduceCtorEq, Option.some.injEq, Prod.mk.injEq] at ho
  · obtain ⟨rfl, rfl⟩ := ho
    obtain ⟨a, vs, rfl, h1, h2⟩ := hd
    refine .inr ⟨a, vs, rfl, sqt_of h1, fun hw => ?_, fun _ p hp => q _ _ (res_tup hB hp (cutV_RpL h2 lo hi))⟩
    rw [h2.len] at hw
    rw [cutD_whole hw] at q
    exact q _ _ (res_old ⟨a, vs, rfl, h1, h2⟩)
  · obtain ⟨rfl, rfl⟩ := ho
    obtain ⟨a, vs, rfl, h1, h2⟩ := hd
    exact .inl ⟨a, vs, rfl, SqL.of h1, fun p hp => q _ _ (res_lst hp (cutV_RpL h2 lo hi))⟩
  · obtain ⟨rfl, rfl⟩ := ho
    obtain ⟨a, rfl, h1⟩ := hd
    refine .inl ⟨a, _, rfl, sql_scr h1, fun p hp => q _ _ (res_lst hp ?_)⟩
    rw [cutV_eq, cutD_map]
    exact RpL.of_ints

/-! ### truth -/
theorem tru_D {K : PySem.W.Frag} {H : Hp} {B : AS} {d : D} {x : V} {k : Bool} (h : RpT K H B d x) (e : truD d = some k) : TruV K x H k := by
  cases d with
  | non => cases e; rw [show x = .non from h]; exact rfl
  | bl b => cases e; rw [show x = .bl _ from h]; exact rfl
  | int i => cases e; rw [show x = .int _ from h]; exact rfl
  | str s =>
    simp only [truD, Option.ite_none_right_eq_some, Option.some.injEq] at e
    rw [show x = .str _ from h]
    exact ⟨e.1, e.2.symm⟩
  | tup ds =>
    cases e
    obtain ⟨a, vs, rfl, h1, h2⟩ := h
    refine .inr (.inl ⟨vs, sqt_of h1, ?_⟩)
    have := h2.len
    cases ds <;> cases vs <;> simp_all
  | lst ds =>
    cases e
    obtain ⟨a, vs, rfl, h1, h2⟩ := h
    refine .inl ⟨vs, SqL.of h1, ?_⟩
    have := h2.len
    cases ds <;> cases vs <;> simp_all
  | scr _ => cases e
  | dic _ => cases e
  | set _ => cases e
end Z
namespace Z
open PySem PySem.Spec L2

def RpTL (K : PySem.W.Frag) (H : Hp) (B : AS) : List D → List V → Prop
  | [], vs => vs = []
  | d :: ds, vs => ∃ v r, vs = v :: r ∧ RpT K H B d v ∧ RpTL K H B ds r
theorem RpTL.nil {K : PySem.W.Frag} {H : Hp} {B : AS} {vs : List V} (h : RpTL K H B [] vs) : vs = [] := h
theorem RpTL.one {K : PySem.W.Frag} {H : Hp} {B : AS} {d : D} {vs : List V} (h : RpTL K H B [d] vs) : ∃ v, vs = [v] ∧ RpT K H B d v := by
  obtain ⟨v, r, e, h1, h2⟩ := h
  exact ⟨v, by rw [e, show r = [] from h2], h1⟩
theorem RpTL.two {K : PySem.W.Frag} {H : Hp} {B : AS} {d e : D} {vs : List V} (h : RpTL K H B [d, e] vs) : ∃ v w, vs = [v, w] ∧ RpT K H B d v ∧ RpT K H B e w := by
  obtain ⟨v, r, e1, h1, h2⟩ := h
  obtain ⟨w, e2, h3⟩ := h2.one
  exact ⟨v, w, by rw [e1, e2], h1, h3⟩

theorem intsOf_eq : ∀ {ds : List D} {ns : List Int}, intsOf ds = some ns → ds = ns.map D.int
  | [], ns, h => by cases h; rfl
  | .int i :: r, ns, h => by
    simp only [intsOf, Option.map_eq_some_iff] at h
    obtain ⟨ms, e, rfl⟩ := h
    rw [intsOf_eq e, List.map_cons]
  | .non :: _, _, h => by simp [intsOf] at h
  | .bl _ :: _, _, h => by simp [intsOf] at h
  | .str _ :: _, _, h => by simp [intsOf] at h
  | .tup _ :: _, _, h => by simp [intsOf] at h
  | .lst _ :: _, _, h => by simp [intsOf] at h
  | .scr _ :: _, _, h => by simp [intsOf] at h
  | .dic _ :: _, _, h => by simp [intsOf] at h
  | .set _ :: _, _, h => by simp [intsOf] at h
theorem intsOf_map (ns : List Int) : intsOf (ns.map D.int) = some ns := by
  induction ns with
  | nil => rfl
  | cons n ns ih => simp only [List.map_cons, intsOf, ih, Option.map_some]
theorem blsOf_eq : ∀ {ds : List D} {ns : List Bool}, blsOf ds = some ns → ds = ns.map D.bl
  | [], ns, h => by cases h; rfl
  | .bl i :: r, ns, h => by
    simp only [blsOf, Option.map_eq_some_iff] at h
    obtain ⟨ms, e, rfl⟩ := h
    rw [blsOf_eq e, List.map_cons]
  | .non :: _, _, h => by simp [blsOf] at h
  | .int _ :: _, _, h => by simp [blsOf] at h
  | .str _ :: _, _, h => by simp [blsOf] at h
  | .tup _ :: _, _, h => by simp [blsOf] at h
  | .lst _ :: _, _, h => by simp [blsOf] at h
  | .scr _ :: _, _, h => by simp [blsOf] at h
  | .dic _ :: _, _, h => by simp [blsOf] at h
  | .set _ :: _, _, h => by simp [blsOf] at h
theorem blsOf_map (ns : List Bool) : blsOf (ns.map D.bl) = some ns := by
  induction ns with
  | nil => rfl
  | cons n ns ih => simp only [List.map_cons, blsOf, ih, Option.map_some]
theorem maxI_mem : ∀ (m : Int) (ns : List Int), maxI m ns ∈ m :: ns
  | m, [] => by simp [maxI]
  | m, x :: r => by
    have := maxI_mem (if m < x then x else m) r
    rw [maxI]
    simp only [List.mem_cons] at this ⊢
    split at this <;> rcases this with h | h <;> simp [*]
theorem maxI_ge : ∀ (m : Int) (ns : List Int) (y : Int), y ∈ m :: ns → y ≤ maxI m ns
  | m, [], y, h => by simp [maxI] at h ⊢; omega
  | m, x :: r, y, h => by
    simp only [List.mem_cons] at h
    by_cases hx : m < x
    · rw [maxI, if_pos hx]
      have ih := maxI_ge x r
      have h0 := ih x List.mem_cons_self
      rcases h with h | h | h
      · omega
      · omega
      · exact ih y (List.mem_cons_of_mem _ h)
    · rw [maxI, if_neg hx]
      have ih := maxI_ge m r
      have h0 := ih m List.mem_cons_self
      rcases h with h | h | h
      · omega
      · omega
      · exact ih y (List.mem_cons_of_mem _ h)
theorem minI_mem : ∀ (m : Int) (ns : List Int), minI m ns ∈ m :: ns
  | m, [] => by simp [minI]
  | m, x :: r => by
    have := minI_mem (if x < m then x else m) r
    rw [minI]
    simp only [List.mem_cons] at this ⊢
    split at this <;> rcases this with h | h <;> simp [*]
theorem minI_le : ∀ (m : Int) (ns : List Int) (y : Int), y ∈ m :: ns → minI m ns ≤ y
  | m, [], y, h => by simp [minI] at h ⊢; omega
  | m, x :: r, y, h => by
    simp only [List.mem_cons] at h
    by_cases hx : x < m
    · rw [minI, if_pos hx]
      have ih := minI_le x r
      have h0 := ih x List.mem_cons_self
      rcases h with h | h | h
      · omega
      · omega
      · exact ih y (List.mem_cons_of_mem _ h)
    · rw [minI, if_neg hx]
      have ih := minI_le m r
      have h0 := ih m List.mem_cons_self
      rcases h with h | h | h
      · omega
      · omega
      · exact ih y (List.mem_cons_of_mem _ h)
theorem insI_perm (x : Int) : ∀ ns : List Int, (insI x ns).Perm (x :: ns)
  | [] => .refl _
  | y :: r => by
    rw [insI]
    split
    · exact .refl _
    · exact ((insI_perm x r).cons y).trans (.swap x y r)
theorem insI_mem {x : Int} {ns : List Int} {z : Int} (h : z ∈ insI x ns) : z = x ∨ z ∈ ns := by
  have := (insI_perm x ns).mem_iff.mp h
  simpa using this
theorem insI_sorted {x : Int} : ∀ {ns : List Int}, ns.Pairwise (· ≤ ·) → (insI x ns).Pairwise (· ≤ ·)
  | [], _ => by simp [insI]
  | y :: r, h => by
    rw [insI]
    have h' := List.pairwise_cons.mp h
    split
    · refine List.pairwise_cons.mpr ⟨fun z hz => ?_, h⟩
      rcases List.mem_cons.mp hz with rfl | hz
      · omega
      · have := h'.1 z hz; omega
    · refine List.pairwise_cons.mpr ⟨fun z hz => ?_, insI_sorted h'.2⟩
      rcases insI_mem hz with rfl | hz
      · omega
      · exact h'.1 z hz
theorem sortI_perm : ∀ ns : List Int, (sortI ns).Perm ns
  | [] => .refl _
  | x :: r => (insI_perm x (sortI r)).trans ((sortI_perm r).cons x)
theorem sortI_sorted : ∀ ns : List Int, (sortI ns).Pairwise (· ≤ ·)
  | [] => .nil
  | x :: r => insI_sorted (sortI_sorted r)
theorem sort_same : ∀ {a b : List Int}, a.Perm b → a.Pairwise (· ≤ ·) → b.Pairwise (· ≤ ·) → a = b
  | [], b, h, _, _ => h.nil_eq
  | x :: a, [], h, _, _ => absurd h.length_eq (by simp)
  | x :: a, y :: b, h, ha, hb => by
    have h1 := List.pairwise_cons.mp ha
    have h2 := List.pairwise_cons.mp hb
    have e : x = y := by
      have m1 : x ∈ y :: b := h.mem_iff.mp List.mem_cons_self
      have m2 : y ∈ x :: a := h.mem_iff.mpr List.mem_cons_self
      rcases List.mem_cons.mp m1 with q | q
      · exact q
      · rcases List.mem_cons.mp m2 with q' | q'
        · exact q'.symm
        · have a1 := h1.1 y q'
          have a2 := h2.1 x q
          omega
    subst e
    rw [sort_same (List.Perm.cons_inv h) h1.2 h2.2]

def Bi.nm : Bi → Str
  | .len => "len" | .int => "int" | .list => "list" | .tuple => "tuple" | .sum => "sum" | .min => "min" | .max => "max" | .all => "all" | .any => "any"
  | .abs => "abs" | .min2 => "min" | .max2 => "max" | .min3 => "min" | .max3 => "max" | .sorted => "sorted"
def Bi.vl : Bi → Value
  | .len => .builtin "len" | .int => .type "int" | .list => .type "list" | .tuple => .type "tuple" | .sum => .builtin "sum" | .min => .builtin "min" | .max => .builtin "max" | .all => .builtin "all" | .any => .builtin "any"
  | .abs => .builtin "abs" | .min2 => .builtin "min" | .max2 => .builtin "max" | .min3 => .builtin "min" | .max3 => .builtin "max" | .sorted => .builtin "sorted"
theorem Bi.boot (f : Bi) : bootBuiltins f.nm = some f.vl := by cases f <;> decide +kernel
theorem Bi.kind (f : Bi) : (∃ id, f.vl = .builtin id) ∨ ∃ T, f.vl = .type T := by
  cases f <;> first
    | exact .inl ⟨_, rfl⟩
    | exact .inr ⟨_, rfl⟩
theorem lstInts {K : PySem.W.Frag} {H : Hp} {B : AS} {xs : List D} {v : V} {ns : List Int} (h : RpT K H B (.lst xs) v) (e : intsOf xs = some ns) : ∃ a, v = .ref a ∧ SqL K H a (ns.map V.int) := by
  obtain ⟨a, vs, e1, h1, h2⟩ := h
  rw [intsOf_eq e] at h2
  exact ⟨a, e1, by rw [← h2.ints]; exact SqL.of h1⟩
theorem lstBls {K : PySem.W.Frag} {H : Hp} {B : AS} {xs : List D} {v : V} {ns : List Bool} (h : RpT K H B (.lst xs) v) (e : blsOf xs = some ns) : ∃ a, v = .ref a ∧ SqL K H a (ns.map V.bl) := by
  obtain ⟨a, vs, e1, h1, h2⟩ := h
  rw [blsOf_eq e] at h2
  exact ⟨a, e1, by rw [← h2.bls]; exact SqL.of h1⟩
abbrev rOf (K : PySem.W.Frag) (f : List D → Rs) : List V → Hp → VK → Prop := fun vs H Q => ∃ (B : AS) (ds : List D) (r : D) (fr : Bool), f ds = some (r, fr) ∧ RpTL K H B ds vs ∧ Dom B H ∧ ∀ v H', ResD K B H H' r fr v → Q v H'
section
variable {X : Cx}
theorem bi_len : CallR X (.builtin "len") (rOf X.K opLen) := by
  intro pins s σ H vs us Q I rv ⟨B, ds, r, fr, ho, hd, hB, q⟩
  unfold opLen at ho
  split at ho
  · simp only [Option.some.injEq, Prod.mk.injEq] at ho
    obtain ⟨rfl, rfl⟩ := ho
    obtain ⟨v, rfl, a, ws, rfl, h1, h2⟩ := hd.one
    refine call_len_seq pins s σ H _ us Q I rv ⟨a, ws, rfl, .inl (SqL.of h1), ?_⟩
    rw [h2.len]
    exact q _ _ (res_old rfl)
  · simp only [Option.some.injEq, Prod.mk.injEq] at ho
    obtain ⟨rfl, rfl⟩ := ho
    obtain ⟨v, rfl, a, ws, rfl, h1, h2⟩ := hd.one
    refine call_len_seq pins s σ H _ us Q I rv ⟨a, ws, rfl, .inr (sqt_of h1), ?_⟩
    rw [h2.len]
    exact q _ _ (res_old rfl)
  · simp only [Option.ite_none_right_eq_some, Option.some.injEq, Prod.mk.injEq] at ho
    obtain ⟨hz, rfl, rfl⟩ := ho
    obtain ⟨v, rfl, hv⟩ := hd.one
    exact call_len_str pins s σ H _ us Q I rv ⟨_, by rw [show v = _ from hv], hz, q _ _ (res_old rfl)⟩
  · simp only [Option.some.injEq, Prod.mk.injEq] at ho
    obtain ⟨rfl, rfl⟩ := ho
    obtain ⟨v, rfl, a, rfl, h1⟩ := hd.one
    refine call_len_seq pins s σ H _ us Q I rv ⟨a, _, rfl, .inl (sql_scr h1), ?_⟩
    rw [List.length_map]
    exact q _ _ (res_old rfl)
  · cases ho
theorem bi_int : CallR X (.type "int") (rOf X.K opInt) := by
  intro pins s σ H vs us Q I rv ⟨B, ds, r, fr, ho, hd, hB, q⟩
  unfold opInt at ho
  split at ho
  · simp only [Option.some.injEq, Prod.mk.injEq] at ho
    obtain ⟨rfl, rfl⟩ := ho
    obtain ⟨v, rfl, hv⟩ := hd.one
    exact call_int1 pins s σ H _ us Q I rv (.inl ⟨_, by rw [show v = _ from hv], q _ _ (res_old rfl)⟩)
  · simp only [Option.some.injEq, Prod.mk.injEq] at ho
    obtain ⟨rfl, rfl⟩ := ho
    obtain ⟨v, rfl, hv⟩ := hd.one
    exact call_int1 pins s σ H _ us Q I rv (.inr ⟨_, by rw [show v = _ from hv], q _ _ (res_old rfl)⟩)
  · cases ho
theorem bi_list : CallR X (.type "list") (rOf X.K opList) := by
  intro pins s σ H vs us Q I rv ⟨B, ds, r, fr, ho, hd, hB, q⟩
  unfold opList at ho
  split at ho
  · simp only [Option.some.injEq, Prod.mk.injEq] at ho
    obtain ⟨rfl, rfl⟩ := ho
    obtain ⟨v, rfl, a, ws, rfl, h1, h2⟩ := hd.one
    exact call_list_of pins s σ H _ us Q I rv ⟨a, ws, rfl, .inl (SqL.of h1), fun p hp => q _ _ (res_lst hp h2)⟩
  · simp only [Option.some.injEq, Prod.mk.injEq] at ho
    obtain ⟨rfl, rfl⟩ := ho
    obtain ⟨v, rfl, a, ws, rfl, h1, h2⟩ := hd.one
    exact call_list_of pins s σ H _ us Q I rv ⟨a, ws, rfl, .inr (sqt_of h1), fun p hp => q _ _ (res_lst hp h2)⟩
  · cases ho
theorem bi_tuple : CallR X (.type "tuple") (rOf X.K opTuple) := by
  intro pins s σ H vs us Q I rv ⟨B, ds, r, fr, ho, hd, hB, q⟩
  unfold opTuple at ho
  split at ho
  · simp only [Option.some.injEq, Prod.mk.injEq] at ho
    obtain ⟨rfl, rfl⟩ := ho
    obtain ⟨v, rfl, a, ws, rfl, h1, h2⟩ := hd.one
    exact call_tuple_of pins s σ H _ us Q I rv ⟨a, ws, rfl, .inl ⟨SqL.of h1, fun p hp => q _ _ (res_tup hB hp h2)⟩⟩
  · simp only [Option.some.injEq, Prod.mk.injEq] at ho
    obtain ⟨rfl, rfl⟩ := ho
    obtain ⟨v, rfl, a, ws, rfl, h1, h2⟩ := hd.one
    exact call_tuple_of pins s σ H _ us Q I rv ⟨a, ws, rfl, .inr ⟨sqt_of h1, q _ _ (res_old ⟨a, ws, rfl, h1, h2⟩)⟩⟩
  · cases ho
theorem bi_sum (hc : X.calm = true) : CallR X (.builtin "sum") (rOf X.K opSum) := by
  intro pins s σ H vs us Q I rv ⟨B, ds, r, fr, ho, hd, hB, q⟩
  unfold opSum at ho
  split at ho
  · simp only [Option.map_eq_some_iff, Prod.mk.injEq] at ho
    obtain ⟨ns, e, rfl, rfl⟩ := ho
    obtain ⟨v, rfl, hv⟩ := hd.one
    obtain ⟨a, rfl, hs⟩ := lstInts hv e
    exact cr_sum hc pins s σ H _ us Q I rv ⟨a, ns, rfl, hs, q _ _ (res_old rfl)⟩
  · cases ho
theorem bi_min (hc : X.calm = true) : CallR X (.builtin "min") (rOf X.K opMin) := by
  intro pins s σ H vs us Q I rv ⟨B, ds, r, fr, ho, hd, hB, q⟩
  unfold opMin at ho
  split at ho
  · simp only [Option.map_eq_some_iff, Option.bind_eq_some_iff, Prod.mk.injEq] at ho
    obtain ⟨m, ⟨ns, e, e2⟩, rfl, rfl⟩ := ho
    obtain ⟨v, rfl, hv⟩ := hd.one
    obtain ⟨a, rfl, hs⟩ := lstInts hv e
    cases ns with
    | nil => cases e2
    | cons n ns =>
      cases e2
      refine cr_min hc pins s σ H _ us Q I rv ⟨a, _, rfl, hs, by simp, fun m h1 h2 => ?_⟩
      rw [show m = _ from Int.le_antisymm (h2 _ (minI_mem _ _)) (minI_le _ _ _ h1)]
      exact q _ _ (res_old rfl)
  · cases ho
theorem bi_max (hc : X.calm = true) : CallR X (.builtin "max") (rOf X.K opMax) := by
  intro pins s σ H vs us Q I rv ⟨B, ds, r, fr, ho, hd, hB, q⟩
  unfold opMax at ho
  split at ho
  · simp only [Option.map_eq_some_iff, Option.bind_eq_some_iff, Prod.mk.injEq] at ho
    obtain ⟨m, ⟨ns, e, e2⟩, rfl, rfl⟩ := ho
    obtain ⟨v, rfl, hv⟩ := hd.one
    obtain ⟨a, rfl, hs⟩ := lstInts hv e
    cases ns with
    | nil => cases e2
    | cons n ns =>
      cases e2
      refine cr_max hc pins s σ H _ us Q I rv ⟨a, _, rfl, hs, by simp, fun m h1 h2 => ?_⟩
      rw [show m = _ from Int.le_antisymm (maxI_ge _ _ _ h1) (h2 _ (maxI_mem _ _))]
      exact q _ _ (res_old rfl)
  · cases ho
theorem bi_all (hc : X.calm = true) : CallR X (.builtin "all") (rOf X.K opAll) := by
  intro pins s σ H vs us Q I rv ⟨B, ds, r, fr, ho, hd, hB, q⟩
  unfold opAll at ho
  split at ho
  · simp only [Option.map_eq_some_iff, Prod.mk.injEq] at ho
    obtain ⟨ns, e, rfl, rfl⟩ := ho
    obtain ⟨v, rfl, hv⟩ := hd.one
    obtain ⟨a, rfl, hs⟩ := lstBls hv e
    exact cr_all hc pins s σ H _ us Q I rv ⟨a, ns, rfl, hs, q _ _ (res_old rfl)⟩
  · cases ho
theorem bi_any (hc : X.calm = true) : CallR X (.builtin "any") (rOf X.K opAny) := by
  intro pins s σ H vs us Q I rv ⟨B, ds, r, fr, ho, hd, hB, q⟩
  unfold opAny at ho
  split at ho
  · simp only [Option.map_eq_some_iff, Prod.mk.injEq] at ho
    obtain ⟨ns, e, rfl, rfl⟩ := ho
    obtain ⟨v, rfl, hv⟩ := hd.one
    obtain ⟨a, rfl, hs⟩ := lstBls hv e
    exact cr_any hc pins s σ H _ us Q I rv ⟨a, ns, rfl, hs, q _ _ (res_old rfl)⟩
  · cases ho
theorem bi_abs : CallR X (.builtin "abs") (rOf X.K opAbs) := by
  intro pins s σ H vs us Q I rv ⟨B, ds, r, fr, ho, hd, hB, q⟩
  unfold opAbs at ho
  split at ho
  · simp only [Option.some.injEq, Prod.mk.injEq] at ho
    obtain ⟨rfl, rfl⟩ := ho
    obtain ⟨v, rfl, hv⟩ := hd.one
    exact call_abs pins s σ H _ us Q I rv ⟨_, by rw [show v = _ from hv], q _ _ (res_old rfl)⟩
  · cases ho
theorem bi_min2 (hc : X.calm = true) : CallR X (.builtin "min") (rOf X.K opMin2) := by
  intro pins s σ H vs us Q I rv ⟨B, ds, r, fr, ho, hd, hB, q⟩
  unfold opMin2 at ho
  split at ho
  · simp only [Option.some.injEq, Prod.mk.injEq] at ho
    obtain ⟨rfl, rfl⟩ := ho
    obtain ⟨v, w, rfl, hv, hw⟩ := hd.two
    exact call_min2 hc pins s σ H _ us Q I rv ⟨_, _, by rw [show v = _ from hv, show w = _ from hw], q _ _ (res_old rfl)⟩
  · cases ho
theorem bi_max2 (hc : X.calm = true) : CallR X (.builtin "max") (rOf X.K opMax2) := by
  intro pins s σ H vs us Q I rv ⟨B, ds, r, fr, ho, hd, hB, q⟩
  unfold opMax2 at ho
  split at ho
  · simp only [Option.some.injEq, Prod.mk.injEq] at ho
    obtain ⟨rfl, rfl⟩ := ho
    obtain ⟨v, w, rfl, hv, hw⟩ := hd.two
    exact call_max2 hc pins s σ H _ us Q I rv ⟨_, _, by rw [show v = _ from hv, show w = _ from hw], q _ _ (res_old rfl)⟩
  · cases ho
theorem nuMax3_int {i j k : Int} : L2.nuMax3 (.int i) (.int j) (.int k) = some (.int (let m := if i < j then j else i; if m < k then k else m)) := by
  simp only [L2.nuMax3, L2.nuMax2, L2.nuLt, L2.nuCB]
  by_cases h : i < j <;> simp [h] <;> split <;> rfl
theorem nuMin3_int {i j k : Int} : L2.nuMin3 (.int i) (.int j) (.int k) = some (.int (let m := if j < i then j else i; if k < m then k else m)) := by
  simp only [L2.nuMin3, L2.nuMin2, L2.nuLt, L2.nuCB]
  by_cases h : j < i <;> simp [h] <;> split <;> rfl
theorem bi_min3 (hc : X.calm = true) : CallR X (.builtin "min") (rOf X.K opMin3) := by
  intro pins s σ H vs us Q I rv ⟨B, ds, r, fr, ho, hd, hB, q⟩
  unfold opMin3 at ho
  split at ho
  · simp only [Option.some.injEq, Prod.mk.injEq] at ho
    obtain ⟨rfl, rfl⟩ := ho
    obtain ⟨v, _, rfl, hv, w, _, rfl, hw, u, _, rfl, hu, e⟩ := hd
    cases (show _ = [] from e)
    exact call_min3Nu hc pins s σ H _ us Q I rv ⟨_, _, _, _, by rw [show v = _ from hv, show w = _ from hw, show u = _ from hu], nuMin3_int, q _ _ (res_old rfl)⟩
  · cases ho
theorem bi_max3 (hc : X.calm = true) : CallR X (.builtin "max") (rOf X.K opMax3) := by
  intro pins s σ H vs us Q I rv ⟨B, ds, r, fr, ho, hd, hB, q⟩
  unfold opMax3 at ho
  split at ho
  · simp only [Option.some.injEq, Prod.mk.injEq] at ho
    obtain ⟨rfl, rfl⟩ := ho
    obtain ⟨v, _, rfl, hv, w, _, rfl, hw, u, _, rfl, hu, e⟩ := hd
    cases (show _ = [] from e)
    exact call_max3Nu hc pins s σ H _ us Q I rv ⟨_, _, _, _, by rw [show v = _ from hv, show w = _ from hw, show u = _ from hu], nuMax3_int, q _ _ (res_old rfl)⟩
  · cases ho
theorem bi_sorted : CallR X (.builtin "sorted") (rOf X.K opSorted) := by
  intro pins s σ H vs us Q I rv ⟨B, ds, r, fr, ho, hd, hB, q⟩
  unfold opSorted at ho
  split at ho
  · simp only [Option.map_eq_some_iff, Prod.mk.injEq] at ho
    obtain ⟨ns, e, rfl, rfl⟩ := ho
    obtain ⟨v, rfl, hv⟩ := hd.one
    obtain ⟨a, rfl, hs⟩ := lstInts hv e
    refine cr_sortedI pins s σ H _ us Q I rv ⟨a, ns, rfl, hs, fun ns' p h1 h2 hp => ?_⟩
    rw [sort_same (h1.trans (sortI_perm ns).symm) h2 (sortI_sorted ns)]
    exact q _ _ (res_lst hp RpL.of_ints)
  · cases ho
theorem call_bi (hc : X.calm = true) : ∀ f : Bi, CallR X f.vl (rOf X.K (opBi f))
  | .len => bi_len | .int => bi_int | .list => bi_list | .tuple => bi_tuple | .sum => bi_sum hc | .min => bi_min hc | .max => bi_max hc
  | .all => bi_all hc | .any => bi_any hc | .abs => bi_abs | .min2 => bi_min2 hc | .max2 => bi_max2 hc | .min3 => bi_min3 hc | .max3 => bi_max3 hc | .sorted => bi_sorted
end

/-! ### isinstance -/
theorem tyX_of {K : PySem.W.Frag} {H : Hp} {B : AS} {d : D} {x : V} (h : RpT K H B d x) (n : (∀ a, d ≠ .scr a) ∧ (∀ a, d ≠ .dic a) ∧ ∀ a, d ≠ .set a) : TyX K H x (.type (tyD d)) := by
  cases d with
  | non => rw [show x = .non from h]; exact .base .non
  | bl b => rw [show x = .bl b from h]; exact .base (.bl b)
  | int i => rw [show x = .int i from h]; exact .base (.int i)
  | str y => rw [show x = .str y from h]; exact .base (.str y)
  | tup ds =>
    obtain ⟨a, vs, rfl, h1, h2⟩ := h
    rcases h1 with h1 | ⟨o, its, n, e, c, _⟩
    · exact .base (.tup h1.1)
    · exact .kTuple e c
  | lst ds =>
    obtain ⟨a, vs, rfl, h1, h2⟩ := h
    exact .base (.lst h1)
  | scr ns => exact absurd rfl (n.1 ns)
  | dic ns => exact absurd rfl (n.2.1 ns)
  | set ns => exact absurd rfl (n.2.2 ns)
theorem kit_isi (T : Ty) (d : D) (k : Bool) (h : isiD T d = some k) : kitB (tyD d) T.nm = some k := by
  have t : ∀ (T : Ty), kitB "NoneType" T.nm = some false ∧ kitB "bool" T.nm = some (match T with | .bool => true | .int => true | _ => false) ∧ kitB "int" T.nm = some (match T with | .int => true | _ => false) ∧
      kitB "str" T.nm = some (match T with | .str => true | _ => false) ∧ kitB "tuple" T.nm = some (match T with | .tuple => true | _ => false) ∧ kitB "list" T.nm = some (match T with | .list => true | _ => false) := by
    intro T
    cases T <;> decide +kernel
  obtain ⟨t1, t2, t3, t4, t5, t6⟩ := t T
  cases d <;> first | (cases h; done) | (rw [← h]; first | exact t1 | exact t2 | exact t3 | exact t4 | exact t5 | exact t6)
theorem isi_dom {T : Ty} {d : D} {k : Bool} (h : isiD T d = some k) : (∀ a, d ≠ .scr a) ∧ (∀ a, d ≠ .dic a) ∧ ∀ a, d ≠ .set a := by
  refine ⟨fun a e => ?_, fun a e => ?_, fun a e => ?_⟩ <;> (subst e; cases h)
theorem Ty.boot (T : Ty) : bootBuiltins (Str.ofString T.nm) = some (.type T.nm) := by cases T <;> decide +kernel
end Z
namespace Z
open PySem PySem.Spec L2

/-! ### what the text is, against the small language -/
structure Cst where
  nm : Nat → Str
  gc : List (Str × D)
  blt : List Str

def visB (sc : Scope) (x : Str) : Bool := match sc.names.lookup x with
  | some .local => true | some .cell => true | some .free => true | _ => false
def locB (sc : Scope) (x : Str) : Bool := match sc.names.lookup x with
  | some .local => true | some .cell => true | _ => false
def lclB (sc : Scope) (x : Str) : Bool := match sc.names.lookup x with
  | some .local => true | _ => false
def glB (sc : Scope) (x : Str) : Bool := match sc.names.lookup x with
  | some .globalImplicit => true | _ => false
def nmB (x : Str) : Bool := !(x == "__debug__") && !(x == "__classdict__") && decide (x ≠ "__name__")
def notStar : Expr → Bool
  | .Starred _ _ => false
  | _ => true
def notSlice : Expr → Bool
  | .Slice _ _ _ _ => false
  | _ => true
def notSet : Expr → Bool
  | .Set _ _ _ => false
  | _ => true
/-- its truth is asked of its value -/
def leafB : Expr → Bool
  | .UnaryOp .Not _ _ => false
  | .BoolOp _ _ _ => false
  | .IfExp _ _ _ _ => false
  | .Compare _ _ _ _ => false
  | _ => true
def varB (N : List Str) (sc : Scope) (i : Nat) (x : Str) : Bool := decide (N[i]? = some x) && visB sc x && nmB x
def cstB : D → Const → Bool
  | .non, .none => true
  | .bl a, .bool b => a == b
  | .int a, .int b => a == b
  | .str a, .str b => decide (a = b)
  | _, _ => false
def gcB (C : Cst) (x : Str) (d : D) : Bool := C.gc.any fun p => decide (p.1 = x) && beqD p.2 d
def ownP (N : List Str) (own : List Nat) : List (Str × Nat) := own.map fun i => (N.getD i "", i)
mutual
def tgB (N : List Str) (sc : Scope) (fnB : Str → Bool) : Tg → Expr → Bool
  | .nm i, .Name x _ => decide (N[i]? = some x) && locB sc x && (fnB x || lclB sc x)
  | .tup n r, .Tuple es _ _ => decide (es.length = n) && tgsB N sc fnB r es
  | _, _ => false
def tgsB (N : List Str) (sc : Scope) (fnB : Str → Bool) : Tg → List Expr → Bool
  | .nil, [] => true
  | .cons a r, e :: es => notStar e && tgB N sc fnB a e && tgsB N sc fnB r es
  | _, _ => false
end
mutual
def tgSl : Tg → List Nat
  | .nm i => [i]
  | .tup _ r => tgSls r
  | _ => []
def tgSls : Tg → List Nat
  | .cons a r => tgSl a ++ tgSls r
  | _ => []
end

mutual
def chkE (C : Cst) (N : List Str) (sc : Scope) : Ex → Expr → Bool
  | .var i, e => match e with
    | .Name x _ => varB N sc i x
    | _ => false
  | .brw i, e => match e with
    | .Name x _ => varB N sc i x
    | _ => false
  | .cst c, e => match e with
    | .Constant k _ _ => cstB c k
    | _ => false
  | .gcst x c, e => match e with
    | .Name y _ => decide (x = y) && glB sc y && nmB y && gcB C x c
    | _ => false
  | .bin p a b, e => match e with
    | .BinOp l q r _ => decide (p = q) && chkE C N sc a l && chkE C N sc b r
    | _ => false
  | .neg a, e => match e with
    | .UnaryOp .USub e _ => chkE C N sc a e
    | _ => false
  | .vnot a, e => match e with
    | .UnaryOp .Not e _ => chkE C N sc a e
    | _ => false
  | .cmp p a b, e => match e with
    | .Compare l [q] [r] _ => decide (p = q) && !behindInMarks q r && chkE C N sc a l && chkE C N sc b r
    | _ => false
  | .chn p q a b c, e => match e with
    | .Compare l [p', q'] [m, r] _ => decide (p = p') && decide (q = q') && !lastMarks [p', q'] [m, r] && chkE C N sc a l && chkE C N sc b m && chkE C N sc c r
    | _ => false
  | .idx a b, e => match e with
    | .Subscript v s _ => notSlice s && chkE C N sc a v && chkE C N sc b s
    | _ => false
  | .slc a lo hi, e => match e with
    | .Subscript v (.Slice l h none _) _ => chkE C N sc a v && (match l with | none => (match lo with | .nil => true | _ => false) | some e => (match lo with | .nil => false | _ => true) && chkE C N sc lo e) && (match h with | none => (match hi with | .nil => true | _ => false) | some e => (match hi with | .nil => false | _ => true) && chkE C N sc hi e)
    | _ => false
  | .rev a, e => match e with
    | .Subscript v (.Slice none none (some (.UnaryOp .USub (.Constant (.int k) _ _) _)) _) _ => decide (k = 1) && chkE C N sc a v
    | _ => false
  | .land a b, e => match e with
    | .BoolOp .And (x :: y :: rest) pos => chkE C N sc a x && (match rest with | [] => chkE C N sc b y | z :: r => chkE C N sc b (.BoolOp .And (y :: z :: r) pos))
    | _ => false
  | .lor a b, e => match e with
    | .BoolOp .Or (x :: y :: rest) pos => chkE C N sc a x && (match rest with | [] => chkE C N sc b y | z :: r => chkE C N sc b (.BoolOp .Or (y :: z :: r) pos))
    | _ => false
  | .ite c a b, e => match e with
    | .IfExp t x y _ => chkC C N sc c t && chkE C N sc a x && chkE C N sc b y
    | _ => false
  | .tup as, e => match e with
    | .Tuple es _ _ => chkS C N sc as es
    | _ => false
  | .lst as, e => match e with
    | .List es _ => chkS C N sc as es
    | _ => false
  | .bi f as, e => match e with
    | .Call (.Name x _) (e :: es) [] _ => decide (x = f.nm) && C.blt.contains x && glB sc x && nmB x && (e :: es).all notStar && chkB C N sc as (e :: es)
    | _ => false
  | .isi T a, e => match e with
    | .Call (.Name x _) [e, .Name t _] [] _ => decide (x = "isinstance") && C.blt.contains x && glB sc x && decide (t = Str.ofString T.nm) && C.blt.contains t && glB sc t && nmB t && notStar e && chkE C N sc a e
    | _ => false
  | .call k as, e => match e with
    | .Call (.Name x _) (e :: es) [] _ => decide (x = C.nm k) && glB sc x && nmB x && (e :: es).all notStar && chkS C N sc as (e :: es)
    | _ => false
  | .callm k i as, e => match e with
    | .Call (.Name x _) (.Name y _ :: es) [] _ => decide (x = C.nm k) && glB sc x && nmB x && es.all notStar && varB N sc i y && chkS C N sc as es
    | _ => false
  | .lc own t it c el, e => match e with
    | .ListComp elt [⟨tg, iter, ifs, ia⟩] scope _ => decide (ia = 0) && blkC N sc scope (ownP N own) && decide (own.Nodup) && (tgSl t).all (fun i => own.contains i) && tgB N (relS scope sc) (fun x => scope.names.lookup x == some .cell) t tg && chkI C N sc it iter && (match ifs with | [] => (match c with | .nil => true | _ => false) | [x] => chkC C N (relS scope sc) c x | _ => false) && chkE C N (relS scope sc) el elt
    | _ => false
  | .lrg tu a, e => match e with
    | .Call (.Name x _) [.Call (.Name r _) [e] [] _] [] _ => decide (x = if tu then "tuple" else "list") && C.blt.contains x && glB sc x && decide (r = "range") && C.blt.contains r && glB sc r && notStar e && chkE C N sc a e
    | _ => false
  | .lrg2 tu a b, e => match e with
    | .Call (.Name x _) [.Call (.Name r _) [e, f] [] _] [] _ => decide (x = if tu then "tuple" else "list") && C.blt.contains x && glB sc x && decide (r = "range") && C.blt.contains r && glB sc r && notStar e && notStar f && chkE C N sc a e && chkE C N sc b f
    | _ => false
  | .pop i, e => match e with
    | .Call (.Attribute (.Name x _) m ap) [] [] cp => decide (m = "pop") && varB N sc i x && (ap.endLine == cp.line)
    | _ => false
  | .popAt i a, e => match e with
    | .Call (.Attribute (.Name x _) m ap) [e] [] cp => decide (m = "pop") && varB N sc i x && (ap.endLine == cp.line) && notStar e && chkE C N sc a e
    | _ => false
  | _, _ => false
def chkC (C : Cst) (N : List Str) (sc : Scope) : Ex → Expr → Bool
  | .tr a, e => leafB e && chkE C N sc a e
  | .ccmp p a b, e => match e with
    | .Compare l [q] [r] _ => decide (p = q) && !behindInMarks q r && chkE C N sc a l && chkE C N sc b r
    | _ => false
  | .cchn p q a b c, e => match e with
    | .Compare l [p', q'] [m, r] _ => decide (p = p') && decide (q = q') && !lastMarks [p', q'] [m, r] && chkE C N sc a l && chkE C N sc b m && chkE C N sc c r
    | _ => false
  | .cand a b, e => match e with
    | .BoolOp .And (x :: y :: rest) pos => chkC C N sc a x && (match rest with | [] => chkC C N sc b y | z :: r => chkC C N sc b (.BoolOp .And (y :: z :: r) pos))
    | _ => false
  | .cor a b, e => match e with
    | .BoolOp .Or (x :: y :: rest) pos => chkC C N sc a x && (match rest with | [] => chkC C N sc b y | z :: r => chkC C N sc b (.BoolOp .Or (y :: z :: r) pos))
    | _ => false
  | .cnot a, e => match e with
    | .UnaryOp .Not e _ => chkC C N sc a e
    | _ => false
  | _, _ => false
def chkS (C : Cst) (N : List Str) (sc : Scope) : Ex → List Expr → Bool
  | .nil, e => match e with
    | [] => true
    | _ => false
  | .cons a r, e => match e with
    | e :: es => notStar e && chkE C N sc a e && chkS C N sc r es
    | _ => false
  | _, _ => false
def chkB (C : Cst) (N : List Str) (sc : Scope) : Ex → List Expr → Bool
  | .nil, e => match e with
    | [] => true
    | _ => false
  | .cons a r, e => match e with
    | e :: es => notStar e && chkE C N sc a e && chkB C N sc r es
    | _ => false
  | _, _ => false
def chkI (C : Cst) (N : List Str) (sc : Scope) : Ex → Expr → Bool
  | .rng1 a, e => match e with
    | .Call (.Name x _) [e] [] _ => decide (x = "range") && C.blt.contains x && glB sc x && notStar e && chkE C N sc a e
    | _ => false
  | .rng2 a b, e => match e with
    | .Call (.Name x _) [e, f] [] _ => decide (x = "range") && C.blt.contains x && glB sc x && notStar e && notStar f && chkE C N sc a e && chkE C N sc b f
    | _ => false
  | .seq a, e => notSet e && chkE C N sc a e
  | _, _ => false
end

/-! ### a def's promise -/
def spF (K : PySem.W.Frag) (φ : List D → Rs) : Sp := fun vs H Q _ => ∃ (B : AS) (ds : List D) (d : D) (fr : Bool), φ ds = some (d, fr) ∧ RpL K H B ds vs ∧ Dom B H ∧ ∀ v H', ResD K B H H' d fr v → Q v H'
def spM (K : PySem.W.Frag) (φ : D → List D → Option (D × D)) : Sp := fun vs H Q _ => ∃ (B : AS) (t : D) (ds : List D) (d t' : D) (a : Addr) (ws : List V), φ t ds = some (d, t') ∧ vs = .ref a :: ws ∧
  OwnR K H (B.or (AS.one a)) t a ∧ RpL K H (B.or (AS.one a)) ds ws ∧ Dom B H ∧ ¬ B a ∧
  ∀ v H', (∀ b o, b ≠ a → H b = some o → H' b = some o) → OwnR K H' (B.or (AS.one a)) t' a → Rp K H' (B.or (AS.one a)) d v → Q v H'
def FnP (X : Cx) (nm : Str) (sp : Sp) : Prop := ∃ (k : Nat) (f : Addr) (fd : FuncData) (ps : List Str), FnOk X.prog X.w X.K X.mg X.base CX0 k f fd ps sp ∧ Room k X.A ∧ X.mg nm = some (.ref f) ∧ PySem.W.keepIn X.K (.ref f) = true ∧ L2.Binds X.K fd ps []

structure Ctx (C : Cst) (N : List Str) (Φ : Tab) (X : Cx) : Prop where
  calm : X.calm = true
  nd : X.N.Nodup
  N : X.N = N
  hu : X.A.units + 65 < cLine
  fn : ∀ k ds r, Φ.fn k ds = some r → FnP X (C.nm k) (spF X.K (Φ.fn k))
  io : ∀ k t ds r, Φ.io k t ds = some r → FnP X (C.nm k) (spM X.K (Φ.io k))
  blt : ∀ x, C.blt.contains x = true → X.mg x = none
  gc : ∀ x d, (x, d) ∈ C.gc → ∃ u v, X.mg x = some u ∧ RelV v u ∧ ∀ H B, Rp X.K H B d v
theorem Ctx.blk {C : Cst} {N : List Str} {Φ : Tab} {X : Cx} (c : Ctx C N Φ X) (s : Shared) (H : Hp) (scope : Scope) (cenv : PySem.Env) (fp : List Addr) : Ctx C N Φ (X.blk s H scope cenv fp) :=
  ⟨c.calm, c.nd, c.N, c.hu, c.fn, c.io, c.blt, c.gc⟩

/-! ### readings -/
structure PostE (K : PySem.W.Frag) (H0 : Hp) (I0 A : AS) (γ γ' : Env) (σ : St) (H H' : Hp) (d : D) (fr : Bool) (v : V) : Prop where
  sr : SR K H0 I0 A γ' σ H'
  st : Stp γ σ H γ' σ H'
  rp : Rp K H' (A.or (pr γ' σ)) d v
  fr : fr = true → ∃ a, v = .ref a ∧ H a = none ∧ OwnR K H' ((A.or (AS.one a)).or (pr γ' σ)) d a ∧ SR K H0 I0 (A.or (AS.one a)) γ' σ H'
def tE (K : PySem.W.Frag) (Φ : Tab) (ir : Ex) : TE := fun σ H Q => ∃ (H0 : Hp) (I0 A : AS) (γ : Env) (d : D) (fr : Bool) (γ' : Env), evE Φ ir γ = some ((d, fr), γ') ∧ SR K H0 I0 A γ σ H ∧ ∀ v H', PostE K H0 I0 A γ γ' σ H H' d fr v → Q v H'
def tCo (K : PySem.W.Frag) (Φ : Tab) (ir : Ex) : TT := fun σ H Q => ∃ (H0 : Hp) (I0 A : AS) (γ : Env) (k : Bool) (γ' : Env), evC Φ ir γ = some (k, γ') ∧ SR K H0 I0 A γ σ H ∧ ∀ H', SR K H0 I0 A γ' σ H' → Stp γ σ H γ' σ H' → Q k H'
/-- an operand's value -/
def OpdR (K : PySem.W.Frag) (H : Hp) (B : AS) (σ : St) : Opd → V → Prop
  | .v d, v => Rp K H B d v
  | .s i, v => σ[i]? = some (some v)
def OpdRs (K : PySem.W.Frag) (H : Hp) (B : AS) (σ : St) : List Opd → List V → Prop
  | [], vs => vs = []
  | o :: r, vs => ∃ v w, vs = v :: w ∧ OpdR K H B σ o v ∧ OpdRs K H B σ r w
def tO (K : PySem.W.Frag) (Φ : Tab) (ir : Ex) : TE := fun σ H Q => ∃ (H0 : Hp) (I0 A : AS) (γ : Env) (o : Opd) (γ' : Env), opd ir (evE Φ ir) γ = some (o, γ') ∧ SR K H0 I0 A γ σ H ∧ ∀ v H', SR K H0 I0 A γ' σ H' → Stp γ σ H γ' σ H' → OpdR K H' (A.or (pr γ' σ)) σ o v → Q v H'
def tB (K : PySem.W.Frag) (Φ : Tab) (ir : Ex) : TA := fun σ H Q => ∃ (H0 : Hp) (I0 A : AS) (γ : Env) (os : List Opd) (γ' : Env), evBs Φ ir γ = some (os, γ') ∧ SR K H0 I0 A γ σ H ∧ ∀ vs H', SR K H0 I0 A γ' σ H' → Stp γ σ H γ' σ H' → OpdRs K H' (A.or (pr γ' σ)) σ os vs → Q vs H'
/-- the values of a display; as: the new ones -/
inductive FrL (K : PySem.W.Frag) (H : Hp) (B : AS) : List (D × Bool) → List V → List Addr → Prop where
  | nil : FrL K H B [] [] []
  | val {d : D} {v : V} {r : List (D × Bool)} {w : List V} {as : List Addr} (h : Rp K H B d v) (t : FrL K H B r w as) : FrL K H B ((d, false) :: r) (v :: w) as
  | own {d : D} {a : Addr} {r : List (D × Bool)} {w : List V} {as : List Addr} (h : OwnR K H B d a) (t : FrL K H B r w as) : FrL K H B ((d, true) :: r) (.ref a :: w) (a :: as)
structure PostS (K : PySem.W.Frag) (H0 : Hp) (I0 A : AS) (γ γ' : Env) (σ : St) (H H' : Hp) (ds : List (D × Bool)) (vs : List V) : Prop where
  st : Stp γ σ H γ' σ H'
  ex : ∃ as : List Addr, as.Nodup ∧ (∀ a ∈ as, H a = none) ∧ SR K H0 I0 (A.or fun a => a ∈ as) γ' σ H' ∧ FrL K H' ((A.or fun a => a ∈ as).or (pr γ' σ)) ds vs as
def tS (K : PySem.W.Frag) (Φ : Tab) (ir : Ex) : TA := fun σ H Q => ∃ (H0 : Hp) (I0 A : AS) (γ : Env) (ds : List (D × Bool)) (γ' : Env), evS Φ ir γ = some (ds, γ') ∧ SR K H0 I0 A γ σ H ∧ ∀ vs H', PostS K H0 I0 A γ γ' σ H H' ds vs → Q vs H'
/-- what is walked gives these -/
structure Wk (K : PySem.W.Frag) (J : It) (xs : List D) (G : AS → Hp → Prop) : Prop where
  goes : ∀ i B H, i < xs.length → G B H → J.go i H
  stops : ∀ B H, G B H → J.stop xs.length H
  yields : ∀ i B H x H', i < xs.length → G B H → Dom B H → J.yld i H x H' → ∃ d, xs[i]? = some d ∧ Same H H' ∧ Rp K H' B d x
  mono : ∀ B H B' H', G B H → Kp H B H' B' → G B' H'
def tI (K : PySem.W.Frag) (Φ : Tab) (ir : Ex) : TI := fun σ H R => ∃ (H0 : Hp) (I0 A : AS) (γ : Env) (xs : List D) (γ' : Env), evI Φ ir γ = some (xs, γ') ∧ SR K H0 I0 A γ σ H ∧ ∀ J H' G, SR K H0 I0 A γ' σ H' → Stp γ σ H γ' σ H' → Wk K J xs G → G (A.or (pr γ' σ)) H' → R J H'
def tT (K : PySem.W.Frag) (t : Tg) : TG := fun v σ H Q => ∃ (H0 : Hp) (I0 A : AS) (γ : Env) (d : D) (γ' : Env), bindT t d γ = some γ' ∧ SR K H0 I0 A γ σ H ∧ Rp K H (A.or (pr γ σ)) d v ∧
  ∀ σ', SR K H0 I0 A γ' σ' H → Stp γ σ H γ' σ' H → σ'.length = σ.length → (∀ j, j ∉ tgSl t → σ'[j]? = σ[j]?) → Q σ' H

section
variable {K : PySem.W.Frag} {X : Cx} {H0 H H' H'' : Hp} {I0 A B : AS} {γ γ' γ'' : Env} {σ : St}
theorem pe_imp {e : Expr} {t t' : TE} (h : PE X e t) (m : ∀ σ H Q, t' σ H Q → t σ H Q) : PE X e t' := ⟨fun pins s σ H Q I q => h.run pins s σ H Q I (m σ H Q q)⟩
theorem pt_imp {e : Expr} {t t' : TT} (h : PT X e t) (m : ∀ σ H Q, t' σ H Q → t σ H Q) : PT X e t' := ⟨fun pins s σ H Q I q => h.run pins s σ H Q I (m σ H Q q)⟩
theorem pw_imp {e : Expr} {t t' : TT} (h : PW X e t) (m : ∀ σ H Q, t' σ H Q → t σ H Q) : PW X e t' := ⟨fun w pins s σ H Q I q => h.run w pins s σ H Q I (m σ H Q q)⟩
theorem pa_imp {es : List Expr} {t t' : TA} (h : PA X es t) (m : ∀ σ H Q, t' σ H Q → t σ H Q) : PA X es t' := ⟨fun pos pins s σ H Q I q => h.run pos pins s σ H Q I (m σ H Q q)⟩
theorem pi_imp {tg e : Expr} {t t' : TI} (h : PI X tg e t) (m : ∀ σ H R, t' σ H R → t σ H R) : PI X tg e t' := ⟨fun pins s σ H R I q => h.run pins s σ H R I (m σ H R q)⟩
theorem pe_no {e : Expr} {t : TE} (h : ∀ σ H Q, ¬ t σ H Q) : PE X e t := ⟨fun _ _ σ H Q _ q => (h σ H Q q).elim⟩

theorem or_assoc' {A B P : AS} : ∀ a, ((A.or B).or P) a ↔ ((A.or P).or B) a := fun a => ⟨fun z => z.elim (fun z => z.elim (fun z => .inl (.inl z)) .inr) fun z => .inl (.inr z), fun z => z.elim (fun z => z.elim (fun z => .inl (.inl z)) .inr) fun z => .inl (.inr z)⟩
theorem SR.domB (S : SR K H0 I0 A γ σ H) : Dom (A.or (pr γ σ)) H := fun a z => z.elim (S.dom a) fun z => (S.prA a z).2.1
/-- behind an operation on values -/
theorem PostE.of_res {d : D} {fr : Bool} {v : V} (S : SR K H0 I0 A γ σ H) (r : ResD K (A.or (pr γ σ)) H H' d fr v) : PostE K H0 I0 A γ γ σ H H' d fr v := by
  obtain ⟨s, r⟩ := r
  cases fr with
  | false => exact ⟨S.same s, .same s, r, fun z => nomatch z⟩
  | true =>
    obtain ⟨a, rfl, hn, ho⟩ := r
    have ho' : OwnR K H' ((A.or (AS.one a)).or (pr γ σ)) d a := ho.kp (.less fun b z => (or_assoc' b).1 z) rfl
    have S' := S.more (B := AS.one a) s (fun b z => by rw [show b = a from z]; exact hn) (fun b z => by rw [show b = a from z]; exact ho.there)
    refine ⟨S.same s, .same s, ho.rp (fun b z => .inl z) fun z => ?_, fun _ => ⟨a, rfl, hn, ho', S'⟩⟩
    rcases z with z | z
    · exact S.dom a z hn
    · exact (S.prA a z).2.1 hn
theorem PostE.after {d : D} {fr : Bool} {v : V} (p : Stp γ σ H γ' σ H') (q : PostE K H0 I0 A γ' γ'' σ H' H'' d fr v) : PostE K H0 I0 A γ γ'' σ H H'' d fr v :=
  ⟨q.sr, p.trans q.st, q.rp, fun z => let ⟨a, e, n, o, s⟩ := q.fr z; ⟨a, e, p.none n, o, s⟩⟩
theorem PostE.dull {d : D} {fr : Bool} {v : V} (q : PostE K H0 I0 A γ γ' σ H H' d fr v) : PostE K H0 I0 A γ γ' σ H H' d false v := ⟨q.sr, q.st, q.rp, fun z => nomatch z⟩
/-- a value seen later -/
theorem Rp.later {d : D} {v : V} (r : Rp K H (A.or (pr γ σ)) d v) (p : Stp γ σ H γ' σ H') : Rp K H' (A.or (pr γ' σ)) d v := r.kp p.kp
theorem OpdR.later {o : Opd} {v : V} (r : OpdR K H (A.or (pr γ σ)) σ o v) (p : Stp γ σ H γ' σ H') : OpdR K H' (A.or (pr γ' σ)) σ o v := by
  cases o with
  | v d => exact Rp.later r p
  | s i => exact r
theorem OpdRs.later : ∀ {os : List Opd} {vs : List V}, OpdRs K H (A.or (pr γ σ)) σ os vs → Stp γ σ H γ' σ H' → OpdRs K H' (A.or (pr γ' σ)) σ os vs
  | [], _, h, _ => h
  | o :: r, _, ⟨v, w, e, h1, h2⟩, p => ⟨v, w, e, h1.later p, OpdRs.later h2 p⟩
theorem OpdR.res {o : Opd} {v : V} {d : D} (S : SR K H0 I0 A γ σ H) (r : OpdR K H (A.or (pr γ σ)) σ o v) (e : resolve γ o = some d) : RpT K H (A.or (pr γ σ)) d v := by
  cases o with
  | v d' => cases e; exact Rp.t r
  | s i =>
    have e : (match γ[i]? with | some (Slot.own d) => some d | _ => none) = some d := e
    split at e
    · rename_i d' hd
      cases e
      obtain ⟨a, e1, h1, _⟩ := S.own i _ hd
      have r : σ[i]? = some (some v) := r
      rw [e1] at r
      cases r
      exact h1.t
    · cases e
theorem OpdRs.res : ∀ {os : List Opd} {vs : List V} {ds : List D}, SR K H0 I0 A γ σ H → OpdRs K H (A.or (pr γ σ)) σ os vs → resolves γ os = some ds → RpTL K H (A.or (pr γ σ)) ds vs
  | [], vs, ds, S, h, e => by cases e; exact h
  | o :: r, vs, ds, S, ⟨v, w, e1, h1, h2⟩, e => by
    simp only [resolves, Option.bind_eq_bind, Option.bind_eq_some_iff, Option.pure_def, Option.some.injEq] at e
    obtain ⟨d, e2, ds', e3, rfl⟩ := e
    exact ⟨v, w, e1, h1.res S e2, OpdRs.res S h2 e3⟩
end
end Z
namespace Z
open PySem PySem.Spec L2
section
variable {C : Cst} {N : List Str} {Φ : Tab} {X : Cx} {H0 H H' H'' : Hp} {I0 A B : AS} {γ γ' γ'' : Env} {σ : St}

theorem vis_of {sc : Scope} {x : Str} (h : visB sc x = true) : Vis sc x := by
  unfold visB at h
  split at h
  · exact .inl (by assumption)
  · exact .inr (.inl (by assumption))
  · exact .inr (.inr (by assumption))
  · cases h
theorem loc_of {sc : Scope} {x : Str} (h : locB sc x = true) : Loc sc x := by
  unfold locB at h
  split at h
  · exact .inl (by assumption)
  · exact .inr (by assumption)
  · cases h
theorem lcl_of {sc : Scope} {x : Str} (h : lclB sc x = true) : sc.names.lookup x = some .local := by
  unfold lclB at h
  split at h
  · assumption
  · cases h
theorem gl_of {x : Str} (h : glB X.env.scope x = true) : Gl X x := by
  unfold glB at h
  split at h
  · assumption
  · cases h
theorem nm_of {x : Str} (h : nmB x = true) : (x == ("__debug__" : Str)) = false ∧ (x == ("__classdict__" : Str)) = false ∧ x ≠ "__name__" := by
  simp only [nmB, Bool.and_eq_true, Bool.not_eq_true', decide_eq_true_eq] at h
  exact ⟨h.1.1, h.1.2, h.2⟩
theorem star_of {e : Expr} (h : notStar e = true) (es : List Expr) (env : PySem.Env) : starEach (e :: es) env = (false, eval e env) :: starEach es env := by
  cases e <;> first | rfl | cases h
theorem stars_of : ∀ {es : List Expr}, es.all notStar = true → ∀ (pos : Pos) (env : PySem.Env), (backTo pos (starEach es env)).any (·.1) = false
  | [], _, _, _ => rfl
  | e :: es, h, pos, env => by
    simp only [List.all_cons, Bool.and_eq_true] at h
    rw [star_of h.1]
    have := stars_of h.2 pos env
    show (false || (backTo pos (starEach es env)).any (·.1)) = false
    rw [this]
    rfl
theorem var_of {i : Nat} {x : Str} (c : Ctx C N Φ X) (h : varB N X.env.scope i x = true) (pos : Pos) : PE X (.Name x pos) (tVar i) := by
  simp only [varB, Bool.and_eq_true, decide_eq_true_eq] at h
  obtain ⟨h1, h2, _⟩ := nm_of h.2
  exact pe_var (by rw [c.N]; exact h.1.1) (vis_of h.1.2) h1 h2

theorem setS_weak {i : Nat} {d : D} (h : γ[i]? = some (.own d)) : ∀ (j : Nat) (x y : Slot), (γ.set i (.val d))[j]? = some x → γ[j]? = some y → weakS x y := fun j x y h1 h2 => by
  rcases get_set h1 with ⟨rfl, rfl⟩ | ⟨_, h1⟩
  · rw [h] at h2
    cases h2
    exact rfl
  · rw [h1] at h2
    cases h2
    cases x <;> first | exact trivial | exact rfl
theorem e_var {i : Nat} {x : Str} {pos : Pos} (c : Ctx C N Φ X) (h : varB N X.env.scope i x = true) : PE X (.Name x pos) (tE X.K Φ (.var i)) := by
  refine pe_imp (var_of c h pos) fun σ H Q ⟨H0, I0, A, γ, d, fr, γ', e, S, q⟩ => ?_
  have e : evVar i γ = some ((d, fr), γ') := by simpa only [evE] using e
  unfold evVar at e
  split at e
  · rename_i d' hd
    cases e
    obtain ⟨v, e1, r⟩ := S.val i d hd
    exact ⟨v, e1, q v H ⟨S, .refl, r, fun z => nomatch z⟩⟩
  · rename_i d' hd
    cases e
    obtain ⟨a, e1, r, n, _⟩ := S.own i d hd
    have w := setS_weak hd
    have S' := S.weak (by simp) w
    have hi : i < γ.length := (List.getElem?_eq_some_iff.mp hd).1
    obtain ⟨v, e2, r2⟩ := S'.val i d (List.getElem?_set_self hi)
    exact ⟨v, e2, q v H ⟨S', .weak (by simp) w, r2, fun z => nomatch z⟩⟩
  · cases e
theorem post_refl {d : D} {v : V} (S : SR X.K H0 I0 A γ σ H) (r : ∀ B, Rp X.K H B d v) : PostE X.K H0 I0 A γ γ σ H H d false v := ⟨S, .refl, r _, fun z => nomatch z⟩
theorem e_cst {d : D} {k : Const} {j : Nat} {pos : Pos} (h : cstB d k = true) : PE X (.Constant k j pos) (tE X.K Φ (.cst d)) := by
  have fin : ∀ {v : V}, (∀ H B, Rp X.K H B d v) → ∀ σ H Q, tE X.K Φ (.cst d) σ H Q → tC v σ H Q := fun {v} r σ H Q ⟨H0, I0, A, γ, d', fr, γ', e, S, q⟩ => by
    have e : some ((d, false), γ) = some ((d', fr), γ') := by simpa only [evE] using e
    cases e
    exact q v H (post_refl S (r H))
  cases d <;> cases k <;> first
    | (simp only [cstB] at h; cases h; done)
    | skip
  · exact pe_imp pe_non (fin fun _ _ => rfl)
  · simp only [cstB, beq_iff_eq] at h
    subst h
    exact pe_imp pe_bl (fin fun _ _ => rfl)
  · simp only [cstB, beq_iff_eq] at h
    subst h
    exact pe_imp pe_int (fin fun _ _ => rfl)
  · simp only [cstB, decide_eq_true_eq] at h
    subst h
    exact pe_imp pe_str (fin fun _ _ => rfl)
theorem e_gc {d : D} {x : Str} {pos : Pos} (c : Ctx C N Φ X) (h1 : glB X.env.scope x = true) (h2 : nmB x = true) (h3 : gcB C x d = true) : PE X (.Name x pos) (tE X.K Φ (.gcst x d)) := by
  simp only [gcB, List.any_eq_true, Bool.and_eq_true, decide_eq_true_eq] at h3
  obtain ⟨⟨y, d'⟩, hm, h3, h4⟩ := h3
  obtain rfl : y = x := h3
  obtain rfl := eq_of_beqD _ _ h4
  obtain ⟨u, v, hu, rv, r⟩ := c.gc y d' hm
  refine pe_imp (pe_glob (gl_of h1) hu rv (nm_of h2).1) fun σ H Q ⟨H0, I0, A, γ, d, fr, γ', e, S, q⟩ => ?_
  have e : some ((d', false), γ) = some ((d, fr), γ') := by simpa only [evE] using e
  cases e
  exact q v H (post_refl S (r H))

/-- an operand -/
theorem e_opd {ir : Ex} {e : Expr} (c : Ctx C N Φ X) (h : chkE C N X.env.scope ir e = true) (he : PE X e (tE X.K Φ ir)) : PE X e (tO X.K Φ ir) := by
  have other : (∀ γ, opd ir (evE Φ ir) γ = (match evE Φ ir γ with | some ((d, _), γ') => some (.v d, γ') | none => none)) → PE X e (tO X.K Φ ir) := fun ho =>
    pe_imp he fun σ H Q ⟨H0, I0, A, γ, o, γ', ev, S, q⟩ => by
      rw [ho] at ev
      split at ev
      · rename_i d fr γ1 e1
        cases ev
        exact ⟨H0, I0, A, γ, d, fr, γ', e1, S, fun v H' p => q v H' p.sr p.st p.rp⟩
      · cases ev
  cases ir with
  | brw i =>
    simp only [chkE] at h
    split at h
    · rename_i x pos
      refine pe_imp (var_of c h pos) fun σ H Q ⟨H0, I0, A, γ, o, γ', ev, S, q⟩ => ?_
      have ev : (match γ[i]? with | some (Slot.own _) => some (Opd.s i, γ) | some (Slot.val d) => some (Opd.v d, γ) | _ => none) = some (o, γ') := ev
      split at ev
      · rename_i d hd
        cases ev
        obtain ⟨a, e1, _⟩ := S.own i d hd
        exact ⟨.ref a, e1, q _ H S .refl e1⟩
      · rename_i d hd
        cases ev
        obtain ⟨v, e1, r⟩ := S.val i d hd
        exact ⟨v, e1, q _ H S .refl r⟩
      · cases ev
    · cases h
  | _ => exact other fun _ => rfl
end
end Z
namespace Z
open PySem PySem.Spec L2
section
variable {C : Cst} {N : List Str} {Φ : Tab} {X : Cx} {H0 H H' H'' : Hp} {I0 A B : AS} {γ γ' γ'' : Env} {σ : St}
variable {a b c3 : Ex} {l r m : Expr} {pos : Pos}

/-- two operands, one after the other -/
theorem two_opd {x y : Opd} {γ1 γ2 : Env} {R : V → V → Hp → Prop} (S : SR X.K H0 I0 A γ σ H) (e1 : opd a (evE Φ a) γ = some (x, γ1)) (e2 : opd b (evE Φ b) γ1 = some (y, γ2))
    (h : ∀ v w H2, SR X.K H0 I0 A γ2 σ H2 → Stp γ σ H γ2 σ H2 → OpdR X.K H2 (A.or (pr γ2 σ)) σ x v → OpdR X.K H2 (A.or (pr γ2 σ)) σ y w → R v w H2) :
    tO X.K Φ a σ H fun v H1 => tO X.K Φ b σ H1 fun w H2 => R v w H2 :=
  ⟨H0, I0, A, γ, x, γ1, e1, S, fun v H1 S1 p1 r1 => ⟨H0, I0, A, γ1, y, γ2, e2, S1, fun w H2 S2 p2 r2 => h v w H2 S2 (p1.trans p2) (r1.later p2) r2⟩⟩
theorem ret2_of {f : D → D → Rs} {x y : Opd} {d : D} {fr : Bool} (h : ret2 f x y γ = some ((d, fr), γ')) : γ' = γ ∧ ∃ u v, resolve γ x = some u ∧ resolve γ y = some v ∧ f u v = some (d, fr) := by
  unfold ret2 at h
  split at h
  · rename_i u v h1 h2
    simp only [Option.map_eq_some_iff, Prod.mk.injEq] at h
    obtain ⟨r, h3, rfl, rfl⟩ := h
    exact ⟨rfl, u, v, h1, h2, h3⟩
  · cases h
theorem e_bin {p : Operator} (ha : PE X l (tO X.K Φ a)) (hb : PE X r (tO X.K Φ b)) : PE X (.BinOp l p r pos) (tE X.K Φ (.bin p a b)) := by
  refine pe_imp (pe_op (op_bin p) ha hb) fun σ H Q ⟨H0, I0, A, γ, d, fr, γ', e, S, q⟩ => ?_
  simp only [evE] at e
  split at e
  · rename_i x γ1 e1
    split at e
    · rename_i y γ2 e2
      obtain ⟨rfl, u, w, r1, r2, ho⟩ := ret2_of e
      exact two_opd S e1 e2 fun v w H2 S2 p k1 k2 => ⟨_, _, _, d, fr, ho, k1.res S2 r1, k2.res S2 r2, S2.domB, fun z H3 k => q z H3 (.after p (.of_res S2 k))⟩
    · cases e
  · cases e
theorem e_cmp {p : CmpOp} (c : Ctx C N Φ X) (ha : PE X l (tO X.K Φ a)) (hb : PE X r (tO X.K Φ b)) (hm : behindInMarks p r = false) : PE X (.Compare l [p] [r] pos) (tE X.K Φ (.cmp p a b)) := by
  refine pe_imp (pe_cmpR (op_cmp c.hu p) ha hb hm) fun σ H Q ⟨H0, I0, A, γ, d, fr, γ', e, S, q⟩ => ?_
  simp only [evE] at e
  split at e
  · rename_i x γ1 e1
    split at e
    · rename_i y γ2 e2
      obtain ⟨rfl, u, w, r1, r2, ho⟩ := ret2_of e
      simp only [Option.map_eq_some_iff, Prod.mk.injEq] at ho
      obtain ⟨k, ho, rfl, rfl⟩ := ho
      exact two_opd S e1 e2 fun v w H2 S2 p k1 k2 => ⟨_, _, _, k, ho, k1.res S2 r1, k2.res S2 r2, q _ H2 (.after p (post_refl S2 fun _ => rfl))⟩
    · cases e
  · cases e
theorem c_cmp {p : CmpOp} (c : Ctx C N Φ X) (ha : PE X l (tO X.K Φ a)) (hb : PE X r (tO X.K Φ b)) (hm : behindInMarks p r = false) : PT X (.Compare l [p] [r] pos) (tCo X.K Φ (.ccmp p a b)) := by
  refine pt_imp (pt_cmpR (op_cmp c.hu p) ha hb hm) fun σ H Q ⟨H0, I0, A, γ, k, γ', e, S, q⟩ => ?_
  simp only [evC] at e
  split at e
  · rename_i x γ1 e1
    split at e
    · rename_i y γ2 e2
      split at e
      · rename_i u w r1 r2
        simp only [Option.map_eq_some_iff, Prod.mk.injEq] at e
        obtain ⟨k', ho, rfl, rfl⟩ := e
        exact two_opd S e1 e2 fun v w H2 S2 p k1 k2 => ⟨_, _, _, k', ho, k1.res S2 r1, k2.res S2 r2, k', rfl, q H2 S2 p⟩
      · cases e
    · cases e
  · cases e
theorem e_idx (ha : PE X l (tO X.K Φ a)) (hb : PE X r (tO X.K Φ b)) (hs : notSlice r = true) : PE X (.Subscript l r pos) (tE X.K Φ (.idx a b)) := by
  have hp : PlainIx r := fun o i => by cases r <;> first | rfl | cases hs
  refine pe_imp (pe_ix ix_D ha hb hp) fun σ H Q ⟨H0, I0, A, γ, d, fr, γ', e, S, q⟩ => ?_
  simp only [evE] at e
  split at e
  · rename_i x γ1 e1
    split at e
    · rename_i y γ2 e2
      obtain ⟨rfl, u, w, r1, r2, ho⟩ := ret2_of e
      simp only [Option.map_eq_some_iff, Prod.mk.injEq] at ho
      obtain ⟨k, ho, rfl, rfl⟩ := ho
      exact two_opd S e1 e2 fun v w H2 S2 p k1 k2 => ⟨_, _, _, k, ho, k1.res S2 r1, k2.res S2 r2, fun z rz => q z H2 (.after p ⟨S2, .refl, rz, fun z => nomatch z⟩)⟩
    · cases e
  · cases e
theorem e_neg (ha : PE X l (tE X.K Φ a)) : PE X (.UnaryOp .USub l pos) (tE X.K Φ (.neg a)) := by
  refine pe_imp (pe_un un_neg ha) fun σ H Q ⟨H0, I0, A, γ, d, fr, γ', e, S, q⟩ => ?_
  simp only [evE] at e
  split at e
  · rename_i i fr1 γ1 e1
    cases e
    exact ⟨H0, I0, A, γ, _, _, _, e1, S, fun v H1 p => ⟨i, p.rp, q _ H1 (.after p.st (post_refl p.sr fun _ => rfl))⟩⟩
  · cases e
theorem e_vnot (ha : PE X l (tO X.K Φ a)) : PE X (.UnaryOp .Not l pos) (tE X.K Φ (.vnot a)) := by
  refine pe_imp (pe_notT ha) fun σ H Q ⟨H0, I0, A, γ, d, fr, γ', e, S, q⟩ => ?_
  simp only [evE] at e
  split at e
  · rename_i x γ1 e1
    split at e
    · rename_i u r1
      simp only [Option.map_eq_some_iff, Prod.mk.injEq] at e
      obtain ⟨k, ht, ⟨rfl, rfl⟩, rfl⟩ := e
      exact ⟨H0, I0, A, γ, _, _, e1, S, fun v H1 S1 p k1 => ⟨k, tru_D (k1.res S1 r1) ht, q _ H1 (.after p (post_refl S1 fun _ => rfl))⟩⟩
    · cases e
  · cases e
theorem e_chn {p p' : CmpOp} (c : Ctx C N Φ X) (ha : PE X l (tE X.K Φ a)) (hb : PE X m (tE X.K Φ b)) (hc : PE X r (tE X.K Φ c3)) (hm : lastMarks [p, p'] [m, r] = false) : PE X (.Compare l [p, p'] [m, r] pos) (tE X.K Φ (.chn p p' a b c3)) := by
  refine pe_imp (pe_chain (op_cmp c.hu p) (op_cmp c.hu p') ha hb hc hm) fun σ H Q ⟨H0, I0, A, γ, d, fr, γ', e, S, q⟩ => ?_
  simp only [evE] at e
  split at e
  · rename_i x f1 γ1 e1
    split at e
    · rename_i y f2 γ2 e2
      refine ⟨H0, I0, A, γ, _, _, _, e1, S, fun v H1 p1 => ⟨H0, I0, A, γ1, _, _, _, e2, p1.sr, fun w H2 p2 => ?_⟩⟩
      split at e
      · rename_i h1
        refine ⟨_, _, _, true, h1, (p1.rp.later p2.st).t, p2.rp.t, true, rfl, ?_⟩
        refine iteT ?_
        split at e
        · rename_i z f3 γ3 e3
          simp only [Option.map_eq_some_iff, Prod.mk.injEq] at e
          obtain ⟨k, h2, ⟨rfl, rfl⟩, rfl⟩ := e
          exact ⟨H0, I0, A, γ2, _, _, _, e3, p2.sr, fun u H3 p3 => ⟨_, _, _, k, h2, (p2.rp.later p3.st).t, p3.rp.t, q _ H3 (.after ((p1.st.trans p2.st).trans p3.st) (post_refl p3.sr fun _ => rfl))⟩⟩
        · cases e
      · rename_i h1
        cases e
        refine ⟨_, _, _, false, h1, (p1.rp.later p2.st).t, p2.rp.t, false, rfl, ?_⟩
        refine iteF ?_
        exact q _ H2 (.after (p1.st.trans p2.st) (post_refl p2.sr fun _ => rfl))
      · cases e
    · cases e
  · cases e
theorem c_chn {p p' : CmpOp} (c : Ctx C N Φ X) (ha : PE X l (tE X.K Φ a)) (hb : PE X m (tE X.K Φ b)) (hc : PE X r (tE X.K Φ c3)) (hm : lastMarks [p, p'] [m, r] = false) : PT X (.Compare l [p, p'] [m, r] pos) (tCo X.K Φ (.cchn p p' a b c3)) := by
  refine pt_imp (pt_chain (op_cmp c.hu p) (op_cmp c.hu p') ha hb hc hm) fun σ H Q ⟨H0, I0, A, γ, k, γ', e, S, q⟩ => ?_
  simp only [evC] at e
  split at e
  · rename_i x f1 γ1 e1
    split at e
    · rename_i y f2 γ2 e2
      refine ⟨H0, I0, A, γ, _, _, _, e1, S, fun v H1 p1 => ⟨H0, I0, A, γ1, _, _, _, e2, p1.sr, fun w H2 p2 => ?_⟩⟩
      split at e
      · rename_i h1
        refine ⟨_, _, _, true, h1, (p1.rp.later p2.st).t, p2.rp.t, true, rfl, ?_⟩
        refine iteT ?_
        split at e
        · rename_i z f3 γ3 e3
          simp only [Option.map_eq_some_iff, Prod.mk.injEq] at e
          obtain ⟨k', h2, rfl, rfl⟩ := e
          exact ⟨H0, I0, A, γ2, _, _, _, e3, p2.sr, fun u H3 p3 => ⟨_, _, _, k', h2, (p2.rp.later p3.st).t, p3.rp.t, k', rfl, q H3 p3.sr ((p1.st.trans p2.st).trans p3.st)⟩⟩
        · cases e
      · rename_i h1
        cases e
        refine ⟨_, _, _, false, h1, (p1.rp.later p2.st).t, p2.rp.t, false, rfl, ?_⟩
        refine iteF ?_
        exact ⟨false, rfl, q H2 p2.sr (p1.st.trans p2.st)⟩
      · cases e
    · cases e
  · cases e
theorem e_rev {k : Nat} {p1 p2 p3 : Pos} (ha : PE X l (tO X.K Φ a)) : PE X (.Subscript l (.Slice none none (some (.UnaryOp .USub (.Constant (.int 1) k p1) p2)) p3) pos) (tE X.K Φ (.rev a)) := by
  refine pe_imp (pe_revL ha) fun σ H Q ⟨H0, I0, A, γ, d, fr, γ', e, S, q⟩ => ?_
  simp only [evE] at e
  split at e
  · rename_i x γ1 e1
    split at e
    · rename_i xs r1
      cases e
      refine ⟨H0, I0, A, γ, _, _, e1, S, fun v H1 S1 p k1 => ?_⟩
      obtain ⟨b, vs, rfl, h1, h2⟩ := k1.res S1 r1
      exact ⟨b, vs, rfl, SqL.of h1, fun np hp => q _ _ (.after p (.of_res S1 (res_lst hp h2.rev)))⟩
    · cases e
  · cases e
/-- a part of a slice -/
def tPa (K : PySem.W.Frag) (Φ : Tab) (ir : Ex) : TO := fun σ H Q => ∃ (H0 : Hp) (I0 A : AS) (γ : Env) (o : Option Int) (γ' : Env), part ir (evE Φ ir) γ = some (o, γ') ∧ SR K H0 I0 A γ σ H ∧ ∀ H', SR K H0 I0 A γ' σ H' → Stp γ σ H γ' σ H' → Q o H'
theorem po_imp {e : Option Expr} {t t' : TO} (h : PO X e t) (m : ∀ σ H Q, t' σ H Q → t σ H Q) : PO X e t' := ⟨fun pins s σ H Q I q => h.run pins s σ H Q I (m σ H Q q)⟩
theorem p_none : PO X none (tPa X.K Φ .nil) := po_imp po_none fun σ H Q ⟨H0, I0, A, γ, o, γ', e, S, q⟩ => by
  have e : some ((none : Option Int), γ) = some (o, γ') := e
  cases e
  exact q H S .refl
theorem p_some (n : (match a with | .nil => false | _ => true) = true) (ha : PE X l (tE X.K Φ a)) : PO X (some l) (tPa X.K Φ a) := by
  refine po_imp (po_some ha) fun σ H Q ⟨H0, I0, A, γ, o, γ', e, S, q⟩ => ?_
  have e : (match evE Φ a γ with | some ((.int i, _), γ') => some (some i, γ') | _ => none) = some (o, γ') := by
    cases a <;> first | exact e | cases n
  split at e
  · rename_i i f γ1 e1
    cases e
    exact ⟨H0, I0, A, γ, _, _, _, e1, S, fun v H1 p => ⟨i, p.rp, q H1 p.sr p.st⟩⟩
  · cases e
theorem e_slc {lo hi : Ex} {el eh : Option Expr} {p2 : Pos} (ha : PE X l (tO X.K Φ a)) (hl : PO X el (tPa X.K Φ lo)) (hh : PO X eh (tPa X.K Φ hi)) : PE X (.Subscript l (.Slice el eh none p2) pos) (tE X.K Φ (.slc a lo hi)) := by
  refine pe_imp (pe_slice sl_D ha hl hh) fun σ H Q ⟨H0, I0, A, γ, d, fr, γ', e, S, q⟩ => ?_
  simp only [evE] at e
  split at e
  · rename_i x γ1 e1
    split at e
    · rename_i y γ2 e2
      split at e
      · rename_i z γ3 e3
        split at e
        · rename_i u r1
          simp only [Option.map_eq_some_iff, Prod.mk.injEq] at e
          obtain ⟨⟨d', fr'⟩, ho, ⟨rfl, rfl⟩, rfl⟩ := e
          refine ⟨H0, I0, A, γ, _, _, e1, S, fun v H1 S1 p1 k1 => ⟨H0, I0, A, γ1, _, _, e2, S1, fun H2 S2 p2 => ⟨H0, I0, A, γ2, _, _, e3, S2, fun H3 S3 p3 => ?_⟩⟩⟩
          exact ⟨_, _, _, _, ho, ((k1.later p2).later p3).res S3 r1, S3.domB, fun z H4 k => q z H4 (.after ((p1.trans p2).trans p3) (.of_res S3 k))⟩
        · cases e
      · cases e
    · cases e
  · cases e
theorem e_land {rest : List Expr} (ha : PE X l (tE X.K Φ a)) (hb : PE X (.BoolOp .And (r :: rest) pos) (tE X.K Φ b)) : PE X (.BoolOp .And (l :: r :: rest) pos) (tE X.K Φ (.land a b)) := by
  refine pe_imp (pe_andT ha hb) fun σ H Q ⟨H0, I0, A, γ, d, fr, γ', e, S, q⟩ => ?_
  simp only [evE] at e
  split at e
  · rename_i x f1 γ1 e1
    refine ⟨H0, I0, A, γ, _, _, _, e1, S, fun v H1 p1 => ?_⟩
    split at e
    · rename_i h1
      refine ⟨true, tru_D p1.rp.t h1, ?_⟩
      refine iteT ?_
      simp only [Option.map_eq_some_iff, Prod.mk.injEq] at e
      obtain ⟨⟨⟨d', f2⟩, γ2⟩, e2, ⟨rfl, rfl⟩, rfl⟩ := e
      exact ⟨H0, I0, A, γ1, _, _, _, e2, p1.sr, fun w H2 p2 => q w H2 (.after p1.st p2.dull)⟩
    · rename_i h1
      cases e
      refine ⟨false, tru_D p1.rp.t h1, ?_⟩
      refine iteF ?_
      exact q v H1 p1.dull
    · cases e
  · cases e
theorem e_lor {rest : List Expr} (ha : PE X l (tE X.K Φ a)) (hb : PE X (.BoolOp .Or (r :: rest) pos) (tE X.K Φ b)) : PE X (.BoolOp .Or (l :: r :: rest) pos) (tE X.K Φ (.lor a b)) := by
  refine pe_imp (pe_orT ha hb) fun σ H Q ⟨H0, I0, A, γ, d, fr, γ', e, S, q⟩ => ?_
  simp only [evE] at e
  split at e
  · rename_i x f1 γ1 e1
    refine ⟨H0, I0, A, γ, _, _, _, e1, S, fun v H1 p1 => ?_⟩
    split at e
    · rename_i h1
      cases e
      refine ⟨true, tru_D p1.rp.t h1, ?_⟩
      refine iteT ?_
      exact q v H1 p1.dull
    · rename_i h1
      refine ⟨false, tru_D p1.rp.t h1, ?_⟩
      refine iteF ?_
      simp only [Option.map_eq_some_iff, Prod.mk.injEq] at e
      obtain ⟨⟨⟨d', f2⟩, γ2⟩, e2, ⟨rfl, rfl⟩, rfl⟩ := e
      exact ⟨H0, I0, A, γ1, _, _, _, e2, p1.sr, fun w H2 p2 => q w H2 (.after p1.st p2.dull)⟩
    · cases e
  · cases e
theorem e_ite {t : Expr} {k : Ex} (hc : PT X t (tCo X.K Φ k)) (ha : PE X l (tE X.K Φ a)) (hb : PE X r (tE X.K Φ b)) : PE X (.IfExp t l r pos) (tE X.K Φ (.ite k a b)) := by
  refine pe_imp (pe_ifExp hc ha hb) fun σ H Q ⟨H0, I0, A, γ, d, fr, γ', e, S, q⟩ => ?_
  simp only [evE] at e
  split at e
  · rename_i γ1 e1
    refine ⟨H0, I0, A, γ, _, _, e1, S, fun H1 S1 p1 => ?_⟩
    refine iteT ?_
    exact ⟨H0, I0, A, γ1, _, _, _, e, S1, fun w H2 p2 => q w H2 (.after p1 p2)⟩
  · rename_i γ1 e1
    refine ⟨H0, I0, A, γ, _, _, e1, S, fun H1 S1 p1 => ?_⟩
    refine iteF ?_
    exact ⟨H0, I0, A, γ1, _, _, _, e, S1, fun w H2 p2 => q w H2 (.after p1 p2)⟩
  · cases e
/-! ### conditions -/
theorem c_tr (hl : leafB l = true) (ha : PE X l (tO X.K Φ a)) : PT X l (tCo X.K Φ (.tr a)) := by
  refine pt_imp (pt_truth ha fun w => ?_) fun σ H Q ⟨H0, I0, A, γ, k, γ', e, S, q⟩ => ?_
  · cases l <;> first
      | rfl
      | (cases hl; done)
      | (rename_i op _ _; cases op <;> first | rfl | cases hl)
  · simp only [evC] at e
    split at e
    · rename_i x γ1 e1
      split at e
      · rename_i u r1
        simp only [Option.map_eq_some_iff, Prod.mk.injEq] at e
        obtain ⟨k', ht, rfl, rfl⟩ := e
        exact ⟨H0, I0, A, γ, _, _, e1, S, fun v H1 S1 p k1 => ⟨k', tru_D (k1.res S1 r1) ht, q H1 S1 p⟩⟩
      · cases e
    · cases e
theorem c_and {rest : List Expr} (ha : PT X l (tCo X.K Φ a)) (hb : PW X (.BoolOp .And (r :: rest) pos) (tCo X.K Φ b)) : PW X (.BoolOp .And (l :: r :: rest) pos) (tCo X.K Φ (.cand a b)) := by
  refine pw_imp (pw_and ha hb) fun σ H Q ⟨H0, I0, A, γ, k, γ', e, S, q⟩ => ?_
  simp only [evC] at e
  split at e
  · rename_i γ1 e1
    refine ⟨H0, I0, A, γ, _, _, e1, S, fun H1 S1 p1 => ?_⟩
    refine iteT ?_
    exact ⟨H0, I0, A, γ1, _, _, e, S1, fun H2 S2 p2 => q H2 S2 (p1.trans p2)⟩
  · rename_i γ1 e1
    cases e
    refine ⟨H0, I0, A, γ, _, _, e1, S, fun H1 S1 p1 => ?_⟩
    refine iteF ?_
    exact q H1 S1 p1
  · cases e
theorem c_or {rest : List Expr} (ha : PT X l (tCo X.K Φ a)) (hb : PW X (.BoolOp .Or (r :: rest) pos) (tCo X.K Φ b)) : PW X (.BoolOp .Or (l :: r :: rest) pos) (tCo X.K Φ (.cor a b)) := by
  refine pw_imp (pw_or ha hb) fun σ H Q ⟨H0, I0, A, γ, k, γ', e, S, q⟩ => ?_
  simp only [evC] at e
  split at e
  · rename_i γ1 e1
    cases e
    refine ⟨H0, I0, A, γ, _, _, e1, S, fun H1 S1 p1 => ?_⟩
    refine iteT ?_
    exact q H1 S1 p1
  · rename_i γ1 e1
    refine ⟨H0, I0, A, γ, _, _, e1, S, fun H1 S1 p1 => ?_⟩
    refine iteF ?_
    exact ⟨H0, I0, A, γ1, _, _, e, S1, fun H2 S2 p2 => q H2 S2 (p1.trans p2)⟩
  · cases e
theorem c_not (ha : PT X l (tCo X.K Φ a)) : PT X (.UnaryOp .Not l pos) (tCo X.K Φ (.cnot a)) := by
  refine pt_imp (pt_not ha) fun σ H Q ⟨H0, I0, A, γ, k, γ', e, S, q⟩ => ?_
  simp only [evC] at e
  split at e
  · rename_i k1 γ1 e1
    cases e
    exact ⟨H0, I0, A, γ, _, _, e1, S, fun H1 S1 p1 => q H1 S1 p1⟩
  · cases e

/-! ### lists of values -/
theorem s_nil : PA X [] (tS X.K Φ .nil) := pa_imp pa_nil fun σ H Q ⟨H0, I0, A, γ, ds, γ', e, S, q⟩ => by
  have e : some (([] : List (D × Bool)), γ) = some (ds, γ') := by simpa only [evS] using e
  cases e
  exact q [] H ⟨Stp.refl, [], List.nodup_nil, (fun _ h => nomatch h), S.congr (A' := A.or fun a => a ∈ ([] : List Addr)) fun a => ⟨fun z => Or.elim z id (fun z => nomatch z), fun z => Or.inl z⟩, FrL.nil⟩
theorem FrL.later {K : PySem.W.Frag} {ds : List (D × Bool)} {vs : List V} {as : List Addr} {B' : AS} (h : FrL K H B ds vs as) (k : Kp H B H' B') (s : ∀ a ∈ as, H' a = H a) : FrL K H' B' ds vs as := by
  induction h with
  | nil => exact .nil
  | val h1 _ ih => exact .val (h1.kp k) (ih s)
  | own h1 _ ih => exact .own (h1.kp k (s _ List.mem_cons_self)) (ih fun b hb => s b (List.mem_cons_of_mem _ hb))
theorem FrL.mem {K : PySem.W.Frag} {ds : List (D × Bool)} {vs : List V} {as : List Addr} (h : FrL K H B ds vs as) : ∀ a ∈ as, H a ≠ none := by
  induction h with
  | nil => exact fun _ h => nomatch h
  | val h1 _ ih => exact ih
  | own h1 _ ih =>
    intro b hb
    rcases List.mem_cons.mp hb with rfl | hb
    · exact h1.there
    · exact ih b hb
/-- as plain values -/
theorem FrL.rpl {K : PySem.W.Frag} {ds : List (D × Bool)} {vs : List V} {as : List Addr} {B' : AS} (h : FrL K H B ds vs as) (m : ∀ b, B' b → B b) (n : ∀ a ∈ as, ¬ B' a) : RpL K H B' (ds.map (·.1)) vs := by
  induction h with
  | nil => exact rfl
  | val h1 _ ih => exact ⟨_, _, rfl, h1.kp (.less m), ih n⟩
  | own h1 _ ih => exact ⟨_, _, rfl, h1.rp m (n _ List.mem_cons_self), ih fun b hb => n b (List.mem_cons_of_mem _ hb)⟩
theorem PostS.rpl {ds : List (D × Bool)} {vs : List V} (p : PostS X.K H0 I0 A γ γ' σ H H' ds vs) (S : SR X.K H0 I0 A γ σ H) : SR X.K H0 I0 A γ' σ H' ∧ RpL X.K H' (A.or (pr γ' σ)) (ds.map (·.1)) vs := by
  obtain ⟨as, nd, n, S', fr⟩ := p.ex
  refine ⟨S'.less, fr.rpl (fun b z => z.imp .inl id) fun a ha z => ?_⟩
  rcases z with z | z
  · exact S.dom a z (n a ha)
  · exact (S'.prA a z).1 (.inr ha)
theorem s_cons {es : List Expr} {rs : Ex} (hs : notStar l = true) (ha : PE X l (tE X.K Φ a)) (hr : PA X es (tS X.K Φ rs)) : PA X (l :: es) (tS X.K Φ (.cons a rs)) := by
  refine pa_imp (pa_cons ha hr (star_of hs es X.env)) fun σ H Q ⟨H0, I0, A, γ, ds, γ', e, S, q⟩ => ?_
  simp only [evS] at e
  split at e
  · rename_i x γ1 e1
    split at e
    · rename_i xs γ2 e2
      cases e
      obtain ⟨d, fr⟩ := x
      refine ⟨H0, I0, A, γ, d, fr, γ1, e1, S, fun v H1 p1 => ?_⟩
      cases fr with
      | false =>
        refine ⟨H0, I0, A, γ1, _, _, e2, p1.sr, fun vs H2 p2 => ?_⟩
        obtain ⟨as, nd, n, S', fr⟩ := p2.ex
        refine q _ H2 ⟨p1.st.trans p2.st, as, nd, fun a ha => p1.st.none (n a ha), S', .val (p1.rp.kp fun b o hb nb => ?_) fr⟩
        obtain ⟨h1, h2⟩ := p2.st.kp (A := A) b o hb nb
        exact ⟨h1, fun z => z.elim (fun z => z.elim (fun z => h2 (.inl z)) fun z => by rw [n b z] at hb; cases hb) fun z => h2 (.inr z)⟩
      | true =>
        obtain ⟨a1, rfl, hn, ho, S1⟩ := p1.fr rfl
        refine ⟨H0, I0, A.or (AS.one a1), γ1, _, _, e2, S1, fun vs H2 p2 => ?_⟩
        obtain ⟨as, nd, n, S', fr⟩ := p2.ex
        have eqv : ∀ b, ((A.or (AS.one a1)).or fun b => b ∈ as) b ↔ (A.or fun b => b ∈ a1 :: as) b := fun b =>
          ⟨fun z => z.elim (fun z => z.elim .inl fun z => .inr (by rw [show b = a1 from z]; exact List.mem_cons_self)) fun z => .inr (List.mem_cons_of_mem _ z),
            fun z => z.elim (fun z => .inl (.inl z)) fun z => (List.mem_cons.mp z).elim (fun z => .inl (.inr z)) .inr⟩
        have h1 : H1 a1 ≠ none := ho.there
        have na : a1 ∉ as := fun z => h1 (n a1 z)
        have same1 : H2 a1 = H1 a1 := by
          cases q1 : H1 a1 with
          | none => exact absurd q1 h1
          | some o => exact p2.st.keep a1 o q1 fun z => (S1.prA a1 z).1 (.inr rfl)
        refine q _ H2 ⟨p1.st.trans p2.st, a1 :: as, List.nodup_cons.mpr ⟨na, nd⟩, fun b hb => ?_, S'.congr fun b => (eqv b).symm, .own (ho.kp (fun b o hb nb => ?_) same1) (fr.later (.less fun b z => z.imp (eqv b).2 id) fun _ _ => rfl)⟩
        · rcases List.mem_cons.mp hb with rfl | hb
          · exact hn
          · exact p1.st.none (n b hb)
        · obtain ⟨k1, k2⟩ := p2.st.kp (A := A.or (AS.one a1)) b o hb nb
          exact ⟨k1, fun z => z.elim (fun z => ((eqv b).2 z).elim (fun z => k2 (.inl z)) fun z => by rw [n b z] at hb; cases hb) fun z => k2 (.inr z)⟩
    · cases e
  · cases e
theorem b_nil : PA X [] (tB X.K Φ .nil) := pa_imp pa_nil fun σ H Q ⟨H0, I0, A, γ, ds, γ', e, S, q⟩ => by
  have e : some (([] : List Opd), γ) = some (ds, γ') := by simpa only [evBs] using e
  cases e
  exact q [] H S .refl rfl
theorem b_cons {es : List Expr} {rs : Ex} (hs : notStar l = true) (ha : PE X l (tO X.K Φ a)) (hr : PA X es (tB X.K Φ rs)) : PA X (l :: es) (tB X.K Φ (.cons a rs)) := by
  refine pa_imp (pa_cons ha hr (star_of hs es X.env)) fun σ H Q ⟨H0, I0, A, γ, os, γ', e, S, q⟩ => ?_
  simp only [evBs] at e
  split at e
  · rename_i x γ1 e1
    split at e
    · rename_i xs γ2 e2
      cases e
      exact ⟨H0, I0, A, γ, x, γ1, e1, S, fun v H1 S1 p1 k1 => ⟨H0, I0, A, γ1, _, _, e2, S1, fun vs H2 S2 p2 k2 => q _ H2 S2 (p1.trans p2) ⟨v, vs, rfl, k1.later p2, k2⟩⟩⟩
    · cases e
  · cases e
theorem e_tup {es : List Expr} {k : Nat} (h : PA X es (tS X.K Φ a)) : PE X (.Tuple es k pos) (tE X.K Φ (.tup a)) := by
  refine pe_imp (pe_tup h) fun σ H Q ⟨H0, I0, A, γ, d, fr, γ', e, S, q⟩ => ?_
  simp only [evE] at e
  split at e
  · rename_i ds γ1 e1
    simp only [Option.ite_none_right_eq_some, Option.some.injEq, Prod.mk.injEq] at e
    obtain ⟨hz, ⟨rfl, rfl⟩, rfl⟩ := e
    refine ⟨H0, I0, A, γ, _, _, e1, S, fun vs H1 p => ?_⟩
    obtain ⟨S1, r⟩ := p.rpl S
    have hl := r.len
    rw [List.length_map] at hl
    exact ⟨by rw [hl]; exact hz, fun np hp => q _ _ (.after p.st (.of_res S1 (res_tup S1.domB hp r)))⟩
  · cases e
theorem e_lst {es : List Expr} (h : PA X es (tS X.K Φ a)) : PE X (.List es pos) (tE X.K Φ (.lst a)) := by
  refine pe_imp (pe_lst h) fun σ H Q ⟨H0, I0, A, γ, d, fr, γ', e, S, q⟩ => ?_
  simp only [evE] at e
  split at e
  · rename_i ds γ1 e1
    simp only [Option.ite_none_right_eq_some, Option.some.injEq, Prod.mk.injEq] at e
    obtain ⟨hz, ⟨rfl, rfl⟩, rfl⟩ := e
    refine ⟨H0, I0, A, γ, _, _, e1, S, fun vs H1 p => ?_⟩
    obtain ⟨S1, r⟩ := p.rpl S
    have hl := r.len
    rw [List.length_map] at hl
    exact ⟨by rw [hl]; exact hz, fun np hp => q _ _ (.after p.st (.of_res S1 (res_lst hp r)))⟩
  · cases e
theorem e_bi {f : Bi} {x : Str} {px : Pos} {es : List Expr} (c : Ctx C N Φ X) (hx : x = f.nm) (hm : X.mg x = none) (hg : Gl X x) (hn : nmB x = true) (hs : (l :: es).all notStar = true) (h : PA X (l :: es) (tB X.K Φ a)) :
    PE X (.Call (.Name x px) (l :: es) [] pos) (tE X.K Φ (.bi f a)) := by
  have hb : bootBuiltins x = some f.vl := by rw [hx]; exact f.boot
  have hs' := hs
  simp only [List.all_cons, Bool.and_eq_true] at hs'
  have core : PE X (.Call (.Name x px) (l :: es) [] pos) (tCB (rOf X.K (opBi f)) (tB X.K Φ a)) := by
    have hc := call_bi c.calm f
    rcases f.kind with ⟨id, e⟩ | ⟨T, e⟩
    · rw [e] at hc hb
      exact pe_callB hc hg hm hb h (nm_of hn).2.2 (nm_of hn).1 (star_of hs'.1 _ _) (stars_of hs'.2 _ _)
    · rw [e] at hc hb
      exact pe_callTy hc hg hm hb h (nm_of hn).2.2 (nm_of hn).1 (star_of hs'.1 _ _) (stars_of hs'.2 _ _)
  refine pe_imp core fun σ H Q ⟨H0, I0, A, γ, d, fr, γ', e, S, q⟩ => ?_
  simp only [evE] at e
  split at e
  · rename_i os γ1 e1
    split at e
    · rename_i ds e2
      simp only [Option.map_eq_some_iff, Prod.mk.injEq] at e
      obtain ⟨⟨d', fr'⟩, ho, ⟨rfl, rfl⟩, rfl⟩ := e
      exact ⟨H0, I0, A, γ, _, _, e1, S, fun vs H1 S1 p k => ⟨_, ds, _, _, ho, k.res S1 e2, S1.domB, fun z H2 r => q z H2 (.after p (.of_res S1 r))⟩⟩
    · cases e
  · cases e
theorem e_isi {T : Ty} {x t : Str} {px pt : Pos} (hx : x = "isinstance") (hm : X.mg x = none) (hg : Gl X x) (ht : t = Str.ofString T.nm) (htm : X.mg t = none) (htg : Gl X t) (htn : nmB t = true) (hs : notStar l = true) (h : PE X l (tO X.K Φ a)) :
    PE X (.Call (.Name x px) [l, .Name t pt] [] pos) (tE X.K Φ (.isi T a)) := by
  subst hx ht
  have ht : PE X (.Name (Str.ofString T.nm) pt) (L2.tC (.ty T.nm)) := pe_bltn htg htm T.boot rfl (nm_of htn).2.2 (nm_of htn).1
  refine pe_imp (pe_callB call_isi hg hm (by decide +kernel) (pa_cons h (pa_cons ht pa_nil) (star_of hs _ _)) (by decide) (by decide) (star_of hs _ _) (stars_of (es := [.Name (Str.ofString T.nm) pt]) rfl _ _)) fun σ H Q ⟨H0, I0, A, γ, d, fr, γ', e, S, q⟩ => ?_
  simp only [evE] at e
  split at e
  · rename_i o γ1 e1
    split at e
    · rename_i u e2
      simp only [Option.map_eq_some_iff, Prod.mk.injEq] at e
      obtain ⟨k, ho, ⟨rfl, rfl⟩, rfl⟩ := e
      exact ⟨H0, I0, A, γ, _, _, e1, S, fun v H1 S1 p k1 => ⟨v, .ty T.nm, _, _, k, rfl, .ty T.nm, tyX_of (k1.res S1 e2) (isi_dom ho), kit_ty (kit_isi T u k ho), q _ H1 (.after p (post_refl S1 fun _ => rfl))⟩⟩
    · cases e
  · cases e
theorem e_call {k : Nat} {x : Str} {px : Pos} {es : List Expr} (c : Ctx C N Φ X) (hx : x = C.nm k) (hg : Gl X x) (hn : nmB x = true) (hs : (l :: es).all notStar = true) (h : PA X (l :: es) (tS X.K Φ a)) :
    PE X (.Call (.Name x px) (l :: es) [] pos) (tE X.K Φ (.call k a)) := by
  subst hx
  have hs' := hs
  simp only [List.all_cons, Bool.and_eq_true] at hs'
  refine ⟨fun pins s σ H Q I ⟨H0, I0, A, γ, d, fr, γ', e, S, q⟩ => ?_⟩
  simp only [evE] at e
  split at e
  · rename_i ds γ1 e1
    simp only [Option.map_eq_some_iff, Prod.mk.injEq] at e
    obtain ⟨⟨d', fr'⟩, ho, ⟨rfl, rfl⟩, rfl⟩ := e
    obtain ⟨lv, f, fd, ps, F, hr, hm, hk, hb⟩ := c.fn k _ _ ho
    refine (pe_call F hr hg hm hk hb .nil pass0 h (nm_of hn).1 (star_of hs'.1 _ _) (stars_of hs'.2 _ _)).run pins s σ H Q I ?_
    refine ⟨H0, I0, A, γ, _, _, e1, S, fun vs H1 p => ?_⟩
    obtain ⟨S1, r⟩ := p.rpl S
    exact ⟨_, _, _, _, ho, by rw [List.append_nil]; exact r, S1.domB, fun z H2 k => q z H2 (.after p.st (.of_res S1 k))⟩
  · cases e
end
end Z
namespace Z
open PySem PySem.Spec L2
section
variable {C : Cst} {N : List Str} {Φ : Tab} {X : Cx} {H0 H H' H'' : Hp} {I0 A B : AS} {γ γ' γ'' : Env} {σ σ' : St} {K : PySem.W.Frag}
variable {a b c3 : Ex} {l r m : Expr} {pos : Pos}

/-! ### an owned object changes -/
theorem pr_same {i : Nat} {d d' : D} (h : γ[i]? = some (.own d)) : ∀ b, pr (γ.set i (.own d')) σ b ↔ pr γ σ b := fun b => by
  have hi : i < γ.length := (List.getElem?_eq_some_iff.mp h).1
  constructor
  · rintro ⟨j, e, h1, h2⟩
    rcases get_set h1 with ⟨rfl, _⟩ | ⟨_, h1⟩
    · exact ⟨j, d, h, h2⟩
    · exact ⟨j, e, h1, h2⟩
  · rintro ⟨j, e, h1, h2⟩
    by_cases hj : i = j
    · subst hj
      exact ⟨i, d', List.getElem?_set_self hi, h2⟩
    · exact ⟨j, e, by rw [List.getElem?_set_ne hj]; exact h1, h2⟩
theorem SR.upOwn {i : Nat} {d d' : D} {p : Addr} (S : SR K H0 I0 A γ σ H) (h : γ[i]? = some (.own d)) (hp : σ[i]? = some (some (.ref p))) (keep : ∀ b o, b ≠ p → H b = some o → H' b = some o) (r : OwnR K H' (A.or (pr γ σ)) d' p) :
    SR K H0 I0 A (γ.set i (.own d')) σ H' ∧ Stp γ σ H (γ.set i (.own d')) σ H' := by
  have hi : i < γ.length := (List.getElem?_eq_some_iff.mp h).1
  have P := pr_same (σ := σ) (d' := d') h
  have pp : pr γ σ p := ⟨i, d, h, hp⟩
  obtain ⟨np, tp, fp⟩ := S.prA p pp
  have k : Kp H (A.or (pr γ σ)) H' (A.or (pr (γ.set i (.own d')) σ)) := fun b o e n => ⟨keep b o (fun z => n (.inr (by rw [z]; exact pp))) e, fun z => n (z.imp id (P b).1)⟩
  have at_ : ∀ (j : Nat) (x : Slot), (γ.set i (.own d'))[j]? = some x → (j = i ∧ x = .own d') ∨ (j ≠ i ∧ γ[j]? = some x) := fun j x z => get_set z
  have trk : ∀ b, H b ≠ none → H' b ≠ none := fun b z => by
    by_cases hb : b = p
    · rw [hb]; exact r.there
    · cases q : H b with
      | none => exact absurd q z
      | some o => rw [keep b o hb q]; simp
  have hio : ∀ (e : D) (b : Addr), (γ.set i (.own d'))[0]? = some (.own e) → σ[0]? = some (some (.ref b)) → I0 b := fun e b h1 h2 => by
    rcases at_ 0 _ h1 with ⟨rfl, _⟩ | ⟨_, y⟩
    · exact S.io d b h h2
    · exact S.io e b y h2
  refine ⟨⟨by simp [S.len], fun j e z => ?_, fun j e z => ?_, fun j l e f b h1 h2 h3 h4 => ?_, fun b o e n => ?_, fun b z => trk b (S.dom b z), hio⟩, ⟨fun b o e n => keep b o (fun z => n (by rw [z]; exact pp)) e, fun b z => .inl ((P b).1 z), trk⟩⟩
  · rcases at_ j _ z with ⟨_, y⟩ | ⟨_, y⟩
    · cases y
    · obtain ⟨v, e1, r1⟩ := S.val j e y
      exact ⟨v, e1, r1.kp k⟩
  · rcases at_ j _ z with ⟨rfl, y⟩ | ⟨hj, y⟩
    · cases y
      exact ⟨p, hp, r.kp (.less fun b z => z.imp id (P b).1) rfl, np, fp⟩
    · obtain ⟨b, e1, r1, n1⟩ := S.own j e y
      have hb : b ≠ p := fun z => hj (S.inj j i e d p y h (by rw [← z]; exact e1) hp)
      refine ⟨b, e1, r1.kp k ?_, n1⟩
      cases q : H b with
      | none => exact absurd q r1.there
      | some o => exact keep b o hb q
  · have g : ∀ (j : Nat) (e : D), (γ.set i (.own d'))[j]? = some (.own e) → ∃ e', γ[j]? = some (.own e') := fun j e z => by
      rcases at_ j _ z with ⟨rfl, _⟩ | ⟨_, y⟩
      · exact ⟨d, h⟩
      · exact ⟨e, y⟩
    obtain ⟨e', y1⟩ := g j e h1
    obtain ⟨f', y2⟩ := g l f h2
    exact S.inj j l e' f' b y1 y2 h3 h4
  · have z := S.ext b o e n
    refine keep b o (fun y => ?_) z
    subst y
    rcases fp with q | q
    · rw [q] at e; cases e
    · exact n q
theorem own_get {i : Nat} {d : D} (S : SR K H0 I0 A γ σ H) (h : γ[i]? = some (.own d)) : ∃ p, σ[i]? = some (some (.ref p)) ∧ OwnR K H (A.or (pr γ σ)) d p := let ⟨p, e, r, _⟩ := S.own i d h; ⟨p, e, r⟩
theorem OwnR.lst {ds : List D} {p : Addr} (h : OwnR K H B (.lst ds) p) : ∃ vs, H p = some (.lst vs) ∧ RpL K H B ds vs := h
theorem keep_upd {p : Addr} {o : HO} : ∀ b x, b ≠ p → H b = some x → upd H p o b = some x := fun b x n e => by rw [upd_ne n]; exact e
/-- the list at an owned slot is written -/
theorem SR.wrLst {i : Nat} {ds es : List D} {ws : List V} {p : Addr} (S : SR K H0 I0 A γ σ H) (h : γ[i]? = some (.own (.lst ds))) (hp : σ[i]? = some (some (.ref p))) (r : RpL K H (A.or (pr γ σ)) es ws) :
    SR K H0 I0 A (γ.set i (.own (.lst es))) σ (upd H p (.lst ws)) ∧ Stp γ σ H (γ.set i (.own (.lst es))) σ (upd H p (.lst ws)) :=
  S.upOwn h hp keep_upd ⟨ws, upd_same, r.kp fun b o e n => ⟨by rw [upd_ne fun z => n (.inr (by rw [z]; exact ⟨i, _, h, hp⟩))]; exact e, n⟩⟩

theorem e_callm {k i : Nat} {x y : Str} {px py : Pos} {es : List Expr} (c : Ctx C N Φ X) (hx : x = C.nm k) (hg : Gl X x) (hn : nmB x = true) (hs : es.all notStar = true) (hy : varB N X.env.scope i y = true) (h : PA X es (tS X.K Φ a)) :
    PE X (.Call (.Name x px) (.Name y py :: es) [] pos) (tE X.K Φ (.callm k i a)) := by
  subst hx
  refine ⟨fun pins s σ H Q I ⟨H0, I0, A, γ, d, fr, γ', e, S, q⟩ => ?_⟩
  simp only [evE] at e
  split at e
  · rename_i t0 ht0
    split at e
    · rename_i ds γ1 e1
      split at e
      · rename_i t ht
        split at e
        · rename_i rv t' ho
          cases e
          obtain ⟨lv, f, fd, ps, F, hr, hm, hk, hb⟩ := c.io k _ _ _ ho
          refine (pe_call F hr hg hm hk hb .nil pass0 (pa_cons (var_of c hy py) h (star_of (e := .Name y py) rfl es X.env)) (nm_of hn).1 (star_of (e := .Name y py) rfl es X.env) (stars_of hs _ _)).run pins s σ H Q I ?_
          obtain ⟨p, hp, _⟩ := own_get S ht0
          refine ⟨.ref p, hp, H0, I0, A, γ, _, _, e1, S, fun vs H1 p1 => ?_⟩
          obtain ⟨S1, r1⟩ := p1.rpl S
          obtain ⟨p', hp', o1⟩ := own_get S1 ht
          rw [hp] at hp'
          cases hp'
          have pp : pr γ1 σ p := ⟨i, t, ht, hp⟩
          have m1 : ∀ b, (AS.or (fun b => (A.or (pr γ1 σ)) b ∧ b ≠ p) (AS.one p)) b ↔ (A.or (pr γ1 σ)) b := fun b =>
            ⟨fun z => Or.elim z (fun (z : (A.or (pr γ1 σ)) b ∧ b ≠ p) => z.1) fun z => .inr (by rw [show b = p from z]; exact pp), fun z => by
              by_cases hb : b = p
              · exact .inr hb
              · exact .inl ⟨z, hb⟩⟩
          refine ⟨fun b => (A.or (pr γ1 σ)) b ∧ b ≠ p, t, _, _, t', p, vs, ho, by rw [List.append_nil], o1.kp (.less fun b z => (m1 b).1 z) rfl, r1.kp (.less fun b z => (m1 b).1 z), fun b z => S1.domB b z.1, fun z => z.2 rfl, fun w H2 keep o2 r2 => ?_⟩
          obtain ⟨S2, st2⟩ := S1.upOwn ht hp keep (o2.kp (.less fun b z => (m1 b).2 z) rfl)
          exact q w H2 ⟨S2, p1.st.trans st2, r2.kp (.less fun b z => (m1 b).2 (z.imp id (pr_same ht b).1)), fun z => nomatch z⟩
        · cases e
      · cases e
    · cases e
  · cases e
theorem mtd_list {m : Str} {x : Str} {px : Pos} : attributeBase (.Name x px) m X.env (eval (.Name x px) X.env) = eval (.Name x px) X.env := by rfl
theorem RpL.dropLast {ds : List D} {vs : List V} (h : RpL K H B ds vs) : RpL K H B ds.dropLast vs.dropLast := by
  rw [List.dropLast_eq_take, List.dropLast_eq_take, h.len]
  exact h.take _
theorem e_pop {i : Nat} {x : Str} {px ap cp : Pos} (c : Ctx C N Φ X) (hx : varB N X.env.scope i x = true) (hl : (ap.endLine == cp.line) = true) : PE X (.Call (.Attribute (.Name x px) "pop" ap) [] [] cp) (tE X.K Φ (.pop i)) := by
  refine pe_imp (pe_bm0 PySem.F.plainAttrs_list PySem.F.slot_list_pop PySem.F.type_list_pop mt_pop (var_of c hx px) mtd_list hl) fun σ H Q ⟨H0, I0, A, γ, d, fr, γ', e, S, q⟩ => ?_
  simp only [evE] at e
  split at e
  · rename_i xs hxs
    split at e
    · rename_i y hy
      cases e
      obtain ⟨p, hp, o⟩ := own_get S hxs
      obtain ⟨vs, hv, r⟩ := o.lst
      obtain ⟨w, hw, rw'⟩ := r.get hy
      obtain ⟨S2, st2⟩ := S.wrLst hxs hp r.dropLast
      refine ⟨.ref p, hp, .inl ⟨rfl, vs, SqL.of hv⟩, p, vs, w, rfl, rfl, hv, by rw [r.len]; exact hw, q w _ ⟨S2, st2, rw'.kp fun b o hb nb => ⟨?_, fun z => nb (z.imp id (pr_same hxs b).1)⟩, fun z => nomatch z⟩⟩
      rw [upd_ne fun z => nb (.inr (by rw [z]; exact ⟨i, _, hxs, hp⟩))]
      exact hb
    · cases e
  · cases e
theorem few_of {e : Expr} {cp : Pos} (hs : notStar e = true) : ((backTo cp (starEach [e] X.env)).all (fun x => !x.1) && (backToKw cp (keywordEach [] X.env)).all (fun x => x.1.isSome)
      && decide ((e :: ([] : List Expr)).length + ([] : List Keyword).length + (if ([] : List Keyword).isEmpty then 0 else 1) < 30)) = true := by
  rw [star_of hs]
  rfl
theorem e_popAt {i : Nat} {x : Str} {px ap cp : Pos} (c : Ctx C N Φ X) (hx : varB N X.env.scope i x = true) (hl : (ap.endLine == cp.line) = true) (hs : notStar l = true) (ha : PE X l (tE X.K Φ a)) : PE X (.Call (.Attribute (.Name x px) "pop" ap) [l] [] cp) (tE X.K Φ (.popAt i a)) := by
  refine pe_imp (pe_bm PySem.F.plainAttrs_list PySem.F.slot_list_pop PySem.F.type_list_pop mt_popAt (var_of c hx px) (pa_cons ha pa_nil (star_of hs _ _)) mtd_list (few_of hs) hl (star_of hs _ _) rfl) fun σ H Q ⟨H0, I0, A, γ, d, fr, γ', e, S, q⟩ => ?_
  simp only [evE] at e
  split at e
  · rename_i xs0 hxs0
    split at e
    · rename_i k f1 γ1 e1
      split at e
      · rename_i xs hxs
        split at e
        · rename_i hk
          split at e
          · rename_i j hj
            split at e
            · rename_i y hy
              cases e
              obtain ⟨p, hp, o0⟩ := own_get S hxs0
              obtain ⟨vs0, hv0, r0⟩ := o0.lst
              refine ⟨.ref p, hp, .inl ⟨rfl, vs0, SqL.of hv0⟩, H0, I0, A, γ, _, _, _, e1, S, fun u H1 p1 => ?_⟩
              obtain ⟨p', hp', o⟩ := own_get p1.sr hxs
              rw [hp] at hp'
              cases hp'
              obtain ⟨vs, hv, r⟩ := o.lst
              obtain ⟨w, hw, rw'⟩ := r.get hy
              obtain ⟨S2, st2⟩ := p1.sr.wrLst hxs hp (r.eraseIdx j)
              refine ⟨p, vs, k, j, w, rfl, by rw [show u = _ from p1.rp], hv, hk.1, hk.2, by rw [r.len]; exact (ixN_seq hj).1, hw, q w _ ⟨S2, p1.st.trans st2, rw'.kp fun b o hb nb => ⟨?_, fun z => nb (z.imp id (pr_same hxs b).1)⟩, fun z => nomatch z⟩⟩
              rw [upd_ne fun z => nb (.inr (by rw [z]; exact ⟨i, _, hxs, hp⟩))]
              exact hb
            · cases e
          · cases e
        · cases e
      · cases e
    · cases e
  · cases e

/-! ### targets -/
theorem pg_imp {e : Expr} {t t' : TG} (h : PG X e t) (m : ∀ v σ H Q, t' v σ H Q → t v σ H Q) : PG X e t' := ⟨fun pins s σ H v u Q I r q => h.run pins s σ H v u Q I r (m v σ H Q q)⟩
theorem pgs_imp {e : List Expr} {t t' : TGs} (h : PGs X e t) (m : ∀ v σ H Q, t' v σ H Q → t v σ H Q) : PGs X e t' := ⟨fun pins s σ H v u Q I r q => h.run pins s σ H v u Q I r (m v σ H Q q)⟩
def tTs (K : PySem.W.Frag) (t : Tg) : TGs := fun vs σ H Q => ∃ (H0 : Hp) (I0 A : AS) (γ : Env) (ds : List D) (γ' : Env), bindL t ds γ = some γ' ∧ SR K H0 I0 A γ σ H ∧ RpL K H (A.or (pr γ σ)) ds vs ∧
  ∀ σ', SR K H0 I0 A γ' σ' H → Stp γ σ H γ' σ' H → σ'.length = σ.length → (∀ j, j ∉ tgSls t → σ'[j]? = σ[j]?) → Q σ' H
theorem assign_star {e : Expr} (h : notStar e = true) (es : List Expr) (env : PySem.Env) : assignEach (e :: es) env = (false, assign e env) :: assignEach es env := by
  cases e <;> first | rfl | cases h
theorem tgs_star {fnB : Str → Bool} {sc : Scope} : ∀ {r : Tg} {es : List Expr}, tgsB N sc fnB r es = true → ∀ env, (assignEach es env).length = es.length ∧ (assignEach es env).findIdx? (·.1) = none
  | .nil, [], _, _ => ⟨rfl, rfl⟩
  | .cons a r, e :: es, h, env => by
    simp only [tgsB, Bool.and_eq_true] at h
    obtain ⟨h1, h2⟩ := tgs_star h.2 env
    rw [assign_star h.1.1]
    refine ⟨by simp [h1], ?_⟩
    rw [List.findIdx?_cons, h2]
    rfl
  | .nm _, _, h, _ => by simp [tgsB] at h
  | .tup _ _, _, h, _ => by simp [tgsB] at h
  | .nil, _ :: _, h, _ => by simp [tgsB] at h
  | .cons _ _, [], h, _ => by simp [tgsB] at h
theorem rpl_cons {d : D} {ds : List D} {vs : List V} (h : RpL K H B (d :: ds) vs) : ∃ v r, vs = v :: r ∧ Rp K H B d v ∧ RpL K H B ds r := h
mutual
theorem s_tg {fnB : Str → Bool} (c : Ctx C N Φ X) (hf : ∀ x, fnB x = true → X.fn x = true) : ∀ (t : Tg) (e : Expr), tgB N X.env.scope fnB t e = true → PG X e (tT X.K t)
  | .nm i, .Name x px, h => by
    simp only [tgB, Bool.and_eq_true, decide_eq_true_eq, Bool.or_eq_true] at h
    refine pg_imp (pg_name (i := i) c.nd (by rw [c.N]; exact h.1.1) (loc_of h.1.2) (h.2.imp (hf x) lcl_of)) fun v σ H Q ⟨H0, I0, A, γ, d, γ', e, S, r, q⟩ => ?_
    have e : some (γ.set i (.val d)) = some γ' := by simpa only [bindT] using e
    cases e
    exact q _ (S.setVal r) ⟨fun _ _ h _ => h, fun b z => .inl (pr_setVal b z), fun _ h => h⟩ (by simp) fun j hj => List.getElem?_set_ne fun z => hj (by simp [tgSl, z])
  | .tup n r, .Tuple es k pt, h => by
    simp only [tgB, Bool.and_eq_true, decide_eq_true_eq] at h
    obtain ⟨h1, h2⟩ := tgs_star h.2 X.env
    refine pg_imp (pg_tup (n := n) c.calm (s_tgs c hf r es h.2) (by rw [h1, h.1]) h2) fun v σ H Q ⟨H0, I0, A, γ, d, γ', e, S, rp, q⟩ => ?_
    simp only [bindT] at e
    split at e
    · rename_i ds
      simp only [Option.ite_none_right_eq_some] at e
      obtain ⟨p, vs, rfl, hv, rv⟩ := rp
      exact ⟨p, vs, rfl, sqt_of hv, by rw [rv.len]; exact e.1, H0, I0, A, γ, ds, γ', e.2, S, rv, q⟩
    · cases e
  | .nil, _, h => by simp [tgB] at h
  | .cons _ _, _, h => by simp [tgB] at h
theorem s_tgs {fnB : Str → Bool} (c : Ctx C N Φ X) (hf : ∀ x, fnB x = true → X.fn x = true) : ∀ (t : Tg) (es : List Expr), tgsB N X.env.scope fnB t es = true → PGs X es (tTs X.K t)
  | .nil, [], _ => by
    refine pgs_imp pgs_nil fun vs σ H Q ⟨H0, I0, A, γ, ds, γ', e, S, r, q⟩ => ?_
    cases ds with
    | nil =>
      have e : some γ = some γ' := by simpa only [bindL] using e
      cases e
      exact ⟨r, q σ S .refl rfl fun _ _ => rfl⟩
    | cons _ _ => simp [bindL] at e
  | .cons a r, e :: es, h => by
    simp only [tgsB, Bool.and_eq_true] at h
    refine pgs_imp (pgs_cons (s_tg c hf a e h.1.2) (s_tgs c hf r es h.2) (by rw [assign_star h.1.1]; rfl)) fun vs σ H Q ⟨H0, I0, A, γ, ds, γ', e, S, rp, q⟩ => ?_
    cases ds with
    | nil => simp [bindL] at e
    | cons d ds =>
      simp only [bindL] at e
      split at e
      · rename_i γ1 e1
        obtain ⟨v, w, rfl, r1, r2⟩ := rpl_cons rp
        refine ⟨v, w, rfl, H0, I0, A, γ, d, γ1, e1, S, r1, fun σ1 S1 p1 l1 k1 => ⟨H0, I0, A, γ1, ds, γ', e, S1, r2.kp p1.kp, fun σ2 S2 p2 l2 k2 => q σ2 S2 (p1.trans p2) (l2.trans l1) fun j hj => ?_⟩⟩
        have hj : j ∉ tgSl a ++ tgSls r := by simpa only [tgSls] using hj
        rw [List.mem_append, not_or] at hj
        exact (k2 j hj.2).trans (k1 j hj.1)
      · cases e
  | .nm _, _, h => by simp [tgsB] at h
  | .tup _ _, _, h => by simp [tgsB] at h
  | .nil, _ :: _, h => by simp [tgsB] at h
  | .cons _ _, [], h => by simp [tgsB] at h
end

/-! ### what is walked -/
theorem wk_range (K : PySem.W.Frag) (lo : Int) (n : Nat) : Wk K (Itr lo n) (rangeD lo n) (fun _ _ => True) := by
  have hl : (rangeD lo n).length = n := by simp [rangeD]
  refine ⟨fun i B H hi _ => by rw [hl] at hi; exact hi, fun B H _ => by rw [hl]; exact Nat.le_refl _, fun i B H x H' hi _ _ hy => ?_, fun _ _ _ _ _ _ => trivial⟩
  rw [hl] at hi
  obtain ⟨rfl, rfl⟩ := hy
  exact ⟨.int (lo + i), by simp [rangeD, hi], Same.refl _, rfl⟩
theorem wk_list (K : PySem.W.Frag) (p : Addr) (xs : List D) : Wk K (Itl K p) xs (fun B H => ∃ vs, (H p = some (.lst vs) ∧ ¬ B p) ∧ RpL K H B xs vs) := by
  refine ⟨fun i B H hi ⟨vs, h1, r⟩ => ?_, fun B H ⟨vs, h1, r⟩ => ⟨vs, SqL.of h1.1, by rw [r.len]; exact Nat.le_refl _⟩, fun i B H x H' hi ⟨vs, h1, r⟩ _ hy => ?_, fun B H B' H' ⟨vs, h1, r⟩ k => ⟨vs, k p _ h1.1 h1.2, r.kp k⟩⟩
  · have hv : i < vs.length := by rw [r.len]; exact hi
    exact ⟨vs, vs[i], SqL.of h1.1, by simp [hv]⟩
  · obtain ⟨rfl, hy⟩ := hy
    obtain ⟨d, hd, rd⟩ := r.get' (hy vs (SqL.of h1.1))
    exact ⟨d, hd, Same.refl _, rd⟩
theorem wk_tup (K : PySem.W.Frag) (p : Addr) (xs : List D) : Wk K (Itt K p) xs (fun B H => ∃ vs, ((H p = some (.tup vs) ∧ ¬ B p) ∨ KTup K p vs) ∧ RpL K H B xs vs) := by
  refine ⟨fun i B H hi ⟨vs, h1, r⟩ => ?_, fun B H ⟨vs, h1, r⟩ => ⟨vs, sqt_of h1, by rw [r.len]; exact Nat.le_refl _⟩, fun i B H x H' hi ⟨vs, h1, r⟩ _ hy => ?_, fun B H B' H' ⟨vs, h1, r⟩ k => ⟨vs, h1.imp (fun z => k p _ z.1 z.2) id, r.kp k⟩⟩
  · have hv : i < vs.length := by rw [r.len]; exact hi
    exact ⟨vs, vs[i], sqt_of h1, by simp [hv]⟩
  · obtain ⟨rfl, hy⟩ := hy
    obtain ⟨d, hd, rd⟩ := r.get' (hy vs (sqt_of h1))
    exact ⟨d, hd, Same.refl _, rd⟩
variable {tg : Expr}
theorem i_rng1 {x : Str} {px : Pos} (hx : x = "range") (hg : Gl X x) (hm : X.mg x = none) (hs : notStar l = true) (ha : PE X l (tE X.K Φ a)) : PI X tg (.Call (.Name x px) [l] [] pos) (tI X.K Φ (.rng1 a)) := by
  subst hx
  refine pi_imp (pi_range1 hg hm (pa_cons ha pa_nil (star_of hs _ _)) (star_of hs _ _)) fun σ H R ⟨H0, I0, A, γ, xs, γ', e, S, q⟩ => ?_
  simp only [evI] at e
  split at e
  · rename_i j f1 γ1 e1
    simp only [Option.ite_none_right_eq_some, Option.some.injEq, Prod.mk.injEq] at e
    obtain ⟨hj, rfl, rfl⟩ := e
    exact ⟨H0, I0, A, γ, _, _, _, e1, S, fun v H1 p => ⟨j, by rw [show v = _ from p.rp], hj.1, hj.2, q _ H1 _ p.sr p.st (wk_range X.K 0 j.toNat) trivial⟩⟩
  · cases e
theorem i_rng2 {x : Str} {px : Pos} (hx : x = "range") (hg : Gl X x) (hm : X.mg x = none) (hs : notStar l = true) (hs2 : notStar r = true) (ha : PE X l (tE X.K Φ a)) (hb : PE X r (tE X.K Φ b)) : PI X tg (.Call (.Name x px) [l, r] [] pos) (tI X.K Φ (.rng2 a b)) := by
  subst hx
  have s2 : starEach [r] X.env = [(false, eval r X.env)] := star_of hs2 _ _
  refine pi_imp (pi_range2 hg hm (pa_cons ha (pa_cons hb pa_nil (star_of hs2 _ _)) (star_of hs _ _)) (by rw [star_of hs, s2]) s2) fun σ H R ⟨H0, I0, A, γ, xs, γ', e, S, q⟩ => ?_
  simp only [evI] at e
  split at e
  · rename_i i f1 γ1 e1
    split at e
    · rename_i j f2 γ2 e2
      simp only [Option.ite_none_right_eq_some, Option.some.injEq, Prod.mk.injEq] at e
      obtain ⟨⟨hi, hj⟩, rfl, rfl⟩ := e
      exact ⟨H0, I0, A, γ, _, _, _, e1, S, fun v H1 p => ⟨H0, I0, A, γ1, _, _, _, e2, p.sr, fun w H2 p2 => ⟨i, j, by rw [show v = _ from p.rp, show w = _ from p2.rp], ⟨hi.1, hi.2, hj.1, hj.2⟩, q _ H2 _ p2.sr (p.st.trans p2.st) (wk_range X.K i (j - i).toNat) trivial⟩⟩⟩
    · cases e
  · cases e
theorem rgV_rp {H : Hp} {B : AS} (i j : Int) : RpL X.K H B (rangeD i (j - i).toNat) (rgV i j) := by
  rw [show rangeD i (j - i).toNat = ((List.range (j - i).toNat).map fun (k : Nat) => i + (k : Int)).map D.int by simp [rangeD], show rgV i j = ((List.range (j - i).toNat).map fun (k : Nat) => i + (k : Int)).map V.int by simp [rgV]]
  exact RpL.of_ints
theorem rgD_ok {tu : Bool} {i j : Int} {r : D × Bool} (h : rgD tu i j = some r) : RgOk i j ∧ r = if tu then (.tup (rangeD i (j - i).toNat), false) else (.lst (rangeD i (j - i).toNat), true) := by
  unfold rgD at h
  simp only [Option.ite_none_right_eq_some, Option.some.injEq] at h
  obtain ⟨⟨h1, h2, h3⟩, rfl⟩ := h
  exact ⟨⟨h1.1, h1.2, h2.1, h2.2, by rw [sizeLine_eq] at h3; exact h3⟩, rfl⟩
theorem e_lrg {tu : Bool} {x y : Str} {px py pos2 : Pos} (c : Ctx C N Φ X) (hx : x = if tu then "tuple" else "list") (hg : Gl X x) (hm : X.mg x = none) (hy : y = "range") (hgy : Gl X y) (hmy : X.mg y = none) (hs : notStar l = true) (ha : PE X l (tE X.K Φ a)) :
    PE X (.Call (.Name x px) [.Call (.Name y py) [l] [] pos2] [] pos) (tE X.K Φ (.lrg tu a)) := by
  subst hy
  have P := prg_1 (p := py) (pos := pos2) hgy hmy ha (by rw [star_of hs])
  have go : ∀ {σ : St} {H : Hp} {Q : VK}, tE X.K Φ (.lrg tu a) σ H Q → ∃ (H0 : Hp) (I0 A : AS) (γ γ1 : Env) (j : Int) (f : Bool), evE Φ a γ = some ((.int j, f), γ1) ∧ SR X.K H0 I0 A γ σ H ∧ RgOk 0 j ∧
      ∀ v H1, PostE X.K H0 I0 A γ γ1 σ H H1 (.int j) f v → ∀ u H2, ResD X.K (A.or (pr γ1 σ)) H1 H2 (if tu then .tup (rangeD 0 (j - 0).toNat) else .lst (rangeD 0 (j - 0).toNat)) (!tu) u → Q u H2 := fun {σ H Q} ⟨H0, I0, A, γ, d, fr, γ', e, S, q⟩ => by
    simp only [evE] at e
    split at e
    · rename_i j f γ1 e1
      simp only [Option.map_eq_some_iff, Prod.mk.injEq] at e
      obtain ⟨r, hr, hr2, rfl⟩ := e
      obtain ⟨ok, er⟩ := rgD_ok hr
      refine ⟨H0, I0, A, γ, γ1, j, f, e1, S, ok, fun v H1 p u H2 res => q _ _ (PostE.after p.st (PostE.of_res p.sr ?_))⟩
      rw [er] at hr2
      cases tu <;> (cases hr2; exact res)
    · cases e
  cases tu with
  | false =>
    subst hx
    refine pe_imp (pe_listRg c.calm hg hm P) fun σ H Q h => ?_
    obtain ⟨H0, I0, A, γ, γ1, j, f, e1, S, ok, q⟩ := go h
    exact ⟨H0, I0, A, γ, _, _, _, e1, S, fun v H1 p => ⟨j, by rw [show v = _ from p.rp], ok, fun w hw => q v H1 p _ _ (res_lst hw (rgV_rp 0 j))⟩⟩
  | true =>
    subst hx
    refine pe_imp (pe_tupRg c.calm hg hm P) fun σ H Q h => ?_
    obtain ⟨H0, I0, A, γ, γ1, j, f, e1, S, ok, q⟩ := go h
    exact ⟨H0, I0, A, γ, _, _, _, e1, S, fun v H1 p => ⟨j, by rw [show v = _ from p.rp], ok, fun w hw => q v H1 p _ _ (res_tup p.sr.domB hw (rgV_rp 0 j))⟩⟩
theorem e_lrg2 {tu : Bool} {x y : Str} {px py pos2 : Pos} (c : Ctx C N Φ X) (hx : x = if tu then "tuple" else "list") (hg : Gl X x) (hm : X.mg x = none) (hy : y = "range") (hgy : Gl X y) (hmy : X.mg y = none) (hs : notStar l = true) (hs2 : notStar r = true) (ha : PE X l (tE X.K Φ a)) (hb : PE X r (tE X.K Φ b)) :
    PE X (.Call (.Name x px) [.Call (.Name y py) [l, r] [] pos2] [] pos) (tE X.K Φ (.lrg2 tu a b)) := by
  subst hy
  have P := prg_2 (p := py) (pos := pos2) hgy hmy ha hb (by rw [star_of hs]) (by rw [star_of hs2]) (by rw [star_of hs2]; rfl)
  have go : ∀ {σ : St} {H : Hp} {Q : VK}, tE X.K Φ (.lrg2 tu a b) σ H Q → ∃ (H0 : Hp) (I0 A : AS) (γ γ1 γ2 : Env) (i j : Int) (f g : Bool), evE Φ a γ = some ((.int i, f), γ1) ∧ evE Φ b γ1 = some ((.int j, g), γ2) ∧ SR X.K H0 I0 A γ σ H ∧ RgOk i j ∧
      ∀ v H1, PostE X.K H0 I0 A γ γ1 σ H H1 (.int i) f v → ∀ w H2, PostE X.K H0 I0 A γ1 γ2 σ H1 H2 (.int j) g w → ∀ u H3, ResD X.K (A.or (pr γ2 σ)) H2 H3 (if tu then .tup (rangeD i (j - i).toNat) else .lst (rangeD i (j - i).toNat)) (!tu) u → Q u H3 := fun {σ H Q} ⟨H0, I0, A, γ, d, fr, γ', e, S, q⟩ => by
    simp only [evE] at e
    split at e
    · rename_i i f γ1 e1
      split at e
      · rename_i j g γ2 e2
        simp only [Option.map_eq_some_iff, Prod.mk.injEq] at e
        obtain ⟨r, hr, hr2, rfl⟩ := e
        obtain ⟨ok, er⟩ := rgD_ok hr
        refine ⟨H0, I0, A, γ, γ1, γ2, i, j, f, g, e1, e2, S, ok, fun v H1 p w H2 p2 u H3 res => q _ _ (PostE.after (p.st.trans p2.st) (PostE.of_res p2.sr ?_))⟩
        rw [er] at hr2
        cases tu <;> (cases hr2; exact res)
      · cases e
    · cases e
  cases tu with
  | false =>
    subst hx
    refine pe_imp (pe_listRg c.calm hg hm P) fun σ H Q h => ?_
    obtain ⟨H0, I0, A, γ, γ1, γ2, i, j, f, g, e1, e2, S, ok, q⟩ := go h
    exact ⟨H0, I0, A, γ, _, _, _, e1, S, fun v H1 p => ⟨H0, I0, A, γ1, _, _, _, e2, p.sr, fun w H2 p2 => ⟨i, j, by rw [show v = _ from p.rp], by rw [show w = _ from p2.rp], ok, fun z hz => q v H1 p w H2 p2 _ _ (res_lst hz (rgV_rp i j))⟩⟩⟩
  | true =>
    subst hx
    refine pe_imp (pe_tupRg c.calm hg hm P) fun σ H Q h => ?_
    obtain ⟨H0, I0, A, γ, γ1, γ2, i, j, f, g, e1, e2, S, ok, q⟩ := go h
    exact ⟨H0, I0, A, γ, _, _, _, e1, S, fun v H1 p => ⟨H0, I0, A, γ1, _, _, _, e2, p.sr, fun w H2 p2 => ⟨i, j, by rw [show v = _ from p.rp], by rw [show w = _ from p2.rp], ok, fun z hz => q v H1 p w H2 p2 _ _ (res_tup p2.sr.domB hz (rgV_rp i j))⟩⟩⟩
theorem i_seq (ha : PE X l (tE X.K Φ a)) : PI X tg l (tI X.K Φ (.seq a)) := by
  refine ⟨fun pins s σ H R I ⟨H0, I0, A, γ, xs, γ', e, S, q⟩ => ?_⟩
  simp only [evI] at e
  split at e
  · rename_i d f1 γ1 e1
    simp only [Option.map_eq_some_iff, Prod.mk.injEq] at e
    obtain ⟨ys, hy, rfl, rfl⟩ := e
    unfold itemsD at hy
    split at hy
    · cases hy
      refine (pi_list ha).run pins s σ H R I ⟨H0, I0, A, γ, _, _, _, e1, S, fun v H1 p => ?_⟩
      obtain ⟨b, vs, rfl, h1, r⟩ := p.rp
      exact ⟨b, rfl, ⟨vs, SqL.of h1.1⟩, q _ H1 _ p.sr p.st (wk_list X.K b _) ⟨vs, h1, r⟩⟩
    · cases hy
      refine (pi_tup ha).run pins s σ H R I ⟨H0, I0, A, γ, _, _, _, e1, S, fun v H1 p => ?_⟩
      obtain ⟨b, vs, rfl, h1, r⟩ := p.rp
      exact ⟨b, rfl, ⟨vs, sqt_of h1⟩, q _ H1 _ p.sr p.st (wk_tup X.K b _) ⟨vs, h1, r⟩⟩
    · cases hy
  · cases e
end
end Z
namespace Z
open PySem PySem.Spec L2
section
variable {C : Cst} {N : List Str} {Φ : Tab} {X : Cx} {H0 H H1 H2 H' H'' : Hp} {I0 A B : AS} {γ γ1 γ2 γ' γ'' : Env} {σ σ' : St} {K : PySem.W.Frag}
variable {a b c3 : Ex} {l r m : Expr} {pos : Pos}

/-! ### slots forgotten and given back -/
theorem wipeE_len (γ : Env) : ∀ l : List Nat, (wipeE γ l).length = γ.length
  | [] => rfl
  | i :: r => by rw [wipeE, List.length_set, wipeE_len γ r]
theorem wipeE_get : ∀ {l : List Nat} {j : Nat} {x : Slot}, (wipeE γ l)[j]? = some x → x = .no ∨ (γ[j]? = some x ∧ j ∉ l)
  | [], j, x, h => .inr ⟨h, by simp⟩
  | i :: r, j, x, h => by
    rw [wipeE] at h
    rcases get_set h with ⟨_, rfl⟩ | ⟨hj, h⟩
    · exact .inl rfl
    · rcases wipeE_get h with e | ⟨e, n⟩
      · exact .inl e
      · exact .inr ⟨e, by simp [hj, n]⟩
theorem wipeE_weak (l : List Nat) : ∀ (j : Nat) (x y : Slot), (wipeE γ l)[j]? = some x → γ[j]? = some y → weakS x y := fun j x y h1 h2 => by
  rcases wipeE_get h1 with rfl | ⟨h1, _⟩
  · exact trivial
  · rw [h1] at h2
    cases h2
    cases x <;> first | exact trivial | exact rfl
theorem wipe_len (σ : St) : ∀ vs : List Nat, (wipe σ vs).length = σ.length := wipe_length σ
theorem wipe_ne : ∀ {vs : List Nat} {j : Nat}, j ∉ vs → (wipe σ vs)[j]? = σ[j]?
  | [], _, _ => rfl
  | v :: vs, j, h => by
    simp only [List.mem_cons, not_or] at h
    unfold wipe
    rw [List.getElem?_set_ne (fun e => h.1 e.symm)]
    exact wipe_ne h.2
theorem wipe_at : ∀ {vs : List Nat} {j : Nat}, j ∈ vs → j < σ.length → (wipe σ vs)[j]? = some none
  | v :: vs, j, h, hj => by
    unfold wipe
    by_cases e : v = j
    · subst e
      exact List.getElem?_set_self (by rw [wipe_length]; exact hj)
    · rw [List.getElem?_set_ne e]
      exact wipe_at ((List.mem_cons.mp h).resolve_left fun z => e z.symm) hj
theorem wipe_eq {vs : List Nat} (hl : σ'.length = σ.length) (h : ∀ j, j ∉ vs → σ'[j]? = σ[j]?) : wipe σ' vs = wipe σ vs := by
  refine List.ext_getElem? fun j => ?_
  by_cases hv : j ∈ vs
  · by_cases hj : j < σ.length
    · rw [wipe_at hv hj, wipe_at hv (by omega)]
    · rw [List.getElem?_eq_none (by rw [wipe_length]; omega), List.getElem?_eq_none (by rw [wipe_length]; omega)]
  · rw [wipe_ne hv, wipe_ne hv, h j hv]
/-- into a block: its own slots forgotten -/
theorem SR.enter (S : SR K H0 I0 A γ σ H) (own : List Nat) : SR K H0 I0 A (wipeE γ own) (wipe σ own) H :=
  (S.weak (wipeE_len γ own) (wipeE_weak own)).chg (wipe_len σ own) fun j x h n => by
    rcases wipeE_get h with e | ⟨_, e⟩
    · exact absurd e n
    · exact wipe_ne e
theorem pr_enter (own : List Nat) : ∀ p, pr (wipeE γ own) (wipe σ own) p → pr γ σ p := fun p z =>
  pr_weak (wipeE_len γ own) (wipeE_weak own) p (pr_chg (σ := σ) (fun j d h => by
    rcases wipeE_get h with e | ⟨_, e⟩
    · cases e
    · exact wipe_ne e) p z)
/-- behind a turn: the slots are as they were at its start -/
theorem SR.again {own : List Nat} (S : SR K H0 I0 A γ σ' H) (hl : σ'.length = σ.length) (h : ∀ j, j ∉ own → σ'[j]? = (wipe σ own)[j]?) : SR K H0 I0 A (wipeE γ own) (wipe σ own) H :=
  (S.weak (wipeE_len γ own) (wipeE_weak own)).chg (by rw [wipe_len, hl]) fun j x e n => by
    rcases wipeE_get e with e | ⟨_, e⟩
    · exact absurd e n
    · exact (h j e).symm
theorem pr_again {own : List Nat} (h : ∀ j, j ∉ own → σ'[j]? = (wipe σ own)[j]?) : ∀ p, pr (wipeE γ own) (wipe σ own) p → pr γ σ' p := fun p z =>
  pr_weak (wipeE_len γ own) (wipeE_weak own) p (pr_chg (σ := σ') (fun j d e => by
    rcases wipeE_get e with e | ⟨_, e⟩
    · cases e
    · exact (h j e).symm) p z)
/-- what is left alone may be written -/
theorem SR.updA {p : Addr} {o : HO} (S : SR K H0 I0 (A.or (AS.one p)) γ σ H) (hx : ∀ x, H0 p = some x → I0 p) : SR K H0 I0 (A.or (AS.one p)) γ σ (upd H p o) := by
  have k : Kp H ((A.or (AS.one p)).or (pr γ σ)) (upd H p o) ((A.or (AS.one p)).or (pr γ σ)) := fun b x e n => ⟨by rw [upd_ne fun z => n (.inl (.inr z))]; exact e, n⟩
  refine ⟨S.len, fun i d e => ?_, fun i d e => ?_, S.inj, fun b x e n => ?_, fun b z => ?_, S.io⟩
  · obtain ⟨v, e1, r⟩ := S.val i d e
    exact ⟨v, e1, r.kp k⟩
  · obtain ⟨b, e1, r, n, n2⟩ := S.own i d e
    exact ⟨b, e1, r.kp k (upd_ne fun z => n (.inr z)), n, n2⟩
  · by_cases hb : b = p
    · subst hb; exact absurd (hx x e) n
    · rw [upd_ne hb]; exact S.ext b x e n
  · by_cases hb : b = p
    · rw [hb, upd_same]; simp
    · rw [upd_ne hb]; exact S.dom b z
theorem restore_len (γ0 : Env) : ∀ (l : List Nat) (γ : Env), (restoreE γ0 l γ).length = γ.length
  | [], _ => rfl
  | i :: r, γ => by
    show ((restoreE γ0 r γ).set i (γ0.getD i .no)).length = _
    rw [List.length_set, restore_len γ0 r γ]
theorem restore_get (γ0 : Env) : ∀ {l : List Nat} {γ : Env} {j : Nat} {x : Slot}, (restoreE γ0 l γ)[j]? = some x → (j ∈ l ∧ x = γ0.getD j .no) ∨ (j ∉ l ∧ γ[j]? = some x)
  | [], γ, j, x, h => .inr ⟨by simp, h⟩
  | i :: r, γ, j, x, h => by
    have h : ((restoreE γ0 r γ).set i (γ0.getD i .no))[j]? = some x := h
    rcases get_set h with ⟨rfl, rfl⟩ | ⟨hj, h⟩
    · exact .inl ⟨List.mem_cons_self, rfl⟩
    · rcases restore_get γ0 h with ⟨e, z⟩ | ⟨e, z⟩
      · exact .inl ⟨List.mem_cons_of_mem _ e, z⟩
      · exact .inr ⟨by simp [hj, e], z⟩
theorem noOwn_get {own : List Nat} (h : noOwn γ own = true) {j : Nat} (hj : j ∈ own) (d : D) : γ.getD j .no ≠ .own d := fun e => by
  have := List.all_eq_true.mp h j hj
  rw [List.getD_eq_getElem?_getD] at e
  cases q : γ[j]? with
  | none => rw [q] at e; cases e
  | some x =>
    rw [q] at e this
    simp only [Option.getD_some] at e
    subst e
    cases this
theorem pr_restore {own : List Nat} (hn : noOwn γ1 own = true) : ∀ p, pr (restoreE γ1 own γ2) σ p → pr γ2 (wipe σ own) p := fun p ⟨j, d, h1, h2⟩ => by
  rcases restore_get γ1 h1 with ⟨hj, e⟩ | ⟨hj, e⟩
  · exact absurd e.symm (noOwn_get hn hj d)
  · exact ⟨j, d, e, by rw [wipe_ne hj]; exact h2⟩
/-- out of a block -/
theorem SR.leave {own : List Nat} (S1 : SR K H0 I0 A γ1 σ H1) (hn : noOwn γ1 own = true) (S2 : SR K H0 I0 B γ2 (wipe σ own) H2) (hA : ∀ p, B p → A p ∨ H1 p = none) (P : Stp (wipeE γ1 own) (wipe σ own) H1 γ2 (wipe σ own) H2) :
    SR K H0 I0 B (restoreE γ1 own γ2) σ H2 ∧ Stp γ1 σ H1 (restoreE γ1 own γ2) σ H2 := by
  have m := pr_restore (σ := σ) (γ2 := γ2) hn
  have up : ∀ p, pr (restoreE γ1 own γ2) σ p → pr γ1 σ p ∨ H1 p = none := fun p z => (P.prv p (m p z)).imp (pr_enter own p) id
  have k1 : Kp H1 (A.or (pr γ1 σ)) H2 (B.or (pr (restoreE γ1 own γ2) σ)) := fun p o e n => by
    refine ⟨P.keep p o e fun z => n (.inr (pr_enter own p z)), fun z => ?_⟩
    rcases z with z | z
    · rcases hA p z with z | z
      · exact n (.inl z)
      · rw [e] at z; cases z
    · rcases up p z with z | z
      · exact n (.inr z)
      · rw [e] at z; cases z
  have k2 : Kp H2 (B.or (pr γ2 (wipe σ own))) H2 (B.or (pr (restoreE γ1 own γ2) σ)) := .less fun p z => z.imp id (m p)
  have hl : σ.length = (restoreE γ1 own γ2).length := by rw [restore_len, ← S2.len, wipe_length]
  refine ⟨⟨hl, fun j d h => ?_, fun j d h => ?_, fun i j d e p h1 h2 h3 h4 => ?_, S2.ext, S2.dom, fun d p h1 h2 => ?_⟩, ⟨fun p o e n => P.keep p o e fun z => n (pr_enter own p z), up, P.trk⟩⟩
  · rcases restore_get γ1 h with ⟨hj, e⟩ | ⟨hj, e⟩
    · have e : γ1[j]? = some (.val d) := by
        rw [List.getD_eq_getElem?_getD] at e
        cases q : γ1[j]? with
        | none => rw [q] at e; cases e
        | some x => rw [q] at e; simp only [Option.getD_some] at e; rw [e]
      obtain ⟨v, e1, r⟩ := S1.val j d e
      exact ⟨v, e1, r.kp k1⟩
    · obtain ⟨v, e1, r⟩ := S2.val j d e
      rw [wipe_ne hj] at e1
      exact ⟨v, e1, r.kp k2⟩
  · rcases restore_get γ1 h with ⟨hj, e⟩ | ⟨hj, e⟩
    · exact absurd e.symm (noOwn_get hn hj d)
    · obtain ⟨p, e1, r, n⟩ := S2.own j d e
      rw [wipe_ne hj] at e1
      exact ⟨p, e1, r.kp k2 rfl, n⟩
  · rcases restore_get γ1 h1 with ⟨hi, e1⟩ | ⟨hi, e1⟩
    · exact absurd e1.symm (noOwn_get hn hi d)
    · rcases restore_get γ1 h2 with ⟨hj, e2⟩ | ⟨hj, e2⟩
      · exact absurd e2.symm (noOwn_get hn hj e)
      · exact S2.inj i j d e p e1 e2 (by rw [wipe_ne hi]; exact h3) (by rw [wipe_ne hj]; exact h4)
  · rcases restore_get γ1 h1 with ⟨hj, e⟩ | ⟨hj, e⟩
    · exact absurd e.symm (noOwn_get hn hj d)
    · exact S2.io d p e (by rw [wipe_ne hj]; exact h2)

/-! ### comprehensions -/
theorem lc_read {own : List Nat} {t : Tg} {it cnd e : Ex} {Q : VK} (hsub : ∀ j ∈ tgSl t, j ∈ own) (h : tE K Φ (.lc own t it cnd e) σ H Q) : tLc (tI K Φ it) (tT K t) (tCo K Φ cnd) (tE K Φ e) own σ H Q := by
  obtain ⟨H0, I0, A, γ, d, fr, γ', ev, S, q⟩ := h
  simp only [evE] at ev
  split at ev
  · rename_i xs γ1 e1
    split at ev
    · rename_i hno
      split at ev
      · rename_i ys γ2 e2
        cases ev
        refine ⟨H0, I0, A, γ, xs, γ1, e1, S, fun J H1 G S1 p1 W g1 D hD => ?_⟩
        generalize hσ : wipe σ own = σw
        have hx : ∀ x, H0 D = some x → I0 D := fun x e => Classical.byContradiction fun n => by rw [S1.ext D x e n] at hD; cases hD
        refine ⟨fun i m H2 => m = xs.length - i ∧ i ≤ xs.length ∧ ∃ (acc : List Z.D) (γc : Env) (vs : List V),
          lcRun (fun x γ => match bindT t x γ with
            | some γ2 => match evC Φ cnd γ2 with
              | some (true, γ3) => match evE Φ e γ3 with
                | some ((y, _), γ4) => some (some y, wipeE γ4 own)
                | none => none
              | some (false, γ3) => some (none, wipeE γ3 own)
              | none => none
            | none => none) (xs.drop i) acc γc = some (ys, γ2) ∧ SR K H0 I0 (A.or (AS.one D)) γc σw H2 ∧ H2 D = some (.lst vs) ∧ RpL K H2 ((A.or (AS.one D)).or (pr γc σw)) acc vs ∧
            Stp (wipeE γ1 own) σw H1 γc σw H2 ∧ G ((A.or (AS.one D)).or (pr γc σw)) H2, ⟨xs.length, by simp, Nat.zero_le _, [], wipeE γ1 own, [], e2, ?_, upd_same, rfl, ?_, ?_⟩, ?_⟩
        · have := (S1.more (B := AS.one D) (same_new (o := .lst []) hD) (fun b z => by rw [show b = D from z]; exact hD) (fun b z => by rw [show b = D from z, upd_same]; simp)).enter own
          rw [hσ] at this
          exact this
        · exact .same (same_new hD)
        · refine W.mono _ _ _ _ g1 fun b o e n => ⟨same_new hD b o e, fun z => ?_⟩
          rcases z with (z | z) | z
          · exact n (.inl z)
          · rw [show b = D from z, hD] at e; cases e
          · rw [← hσ] at z
            exact n (.inr (pr_enter own b z))
        · rintro i m H2 ⟨rfl, hi, acc, γc, vs, er, S2, hv, rv, P, g2⟩
          have nD : ∀ {γ : Env} {σ : L2.St} {H : Hp}, SR K H0 I0 (A.or (AS.one D)) γ σ H → ¬ pr γ σ D := fun S z => (S.prA D z).1 (.inr rfl)
          by_cases hlt : i < xs.length
          · refine .inr ⟨W.goes i _ H2 hlt g2, fun H' => i + 1 ≤ xs.length ∧ ∃ (acc : List Z.D) (γc : Env) (vs : List V),
              lcRun (fun x γ => match bindT t x γ with
                | some γ2 => match evC Φ cnd γ2 with
                  | some (true, γ3) => match evE Φ e γ3 with
                    | some ((y, _), γ4) => some (some y, wipeE γ4 own)
                    | none => none
                  | some (false, γ3) => some (none, wipeE γ3 own)
                  | none => none
                | none => none) (xs.drop (i + 1)) acc γc = some (ys, γ2) ∧ SR K H0 I0 (A.or (AS.one D)) γc σw H' ∧ H' D = some (.lst vs) ∧ RpL K H' ((A.or (AS.one D)).or (pr γc σw)) acc vs ∧
                Stp (wipeE γ1 own) σw H1 γc σw H' ∧ G ((A.or (AS.one D)).or (pr γc σw)) H', fun H' h => ⟨xs.length - (i + 1), by omega, rfl, h⟩, fun v H3 hy => ?_⟩
            obtain ⟨d, hd, s3, r3⟩ := W.yields i _ H2 v H3 hlt g2 S2.domB hy
            have ed : xs.drop i = d :: xs.drop (i + 1) := by
              obtain ⟨_, e⟩ := List.getElem?_eq_some_iff.mp hd
              rw [← e]
              exact List.drop_eq_getElem_cons hlt
            rw [ed] at er
            unfold lcRun at er
            have hD3 := s3 D _ hv
            have p3 : Stp γc σw H2 γc σw H3 := .same s3
            -- the turn's ways
            cases hb : bindT t d γc with
            | none => rw [hb] at er; cases er
            | some γb =>
              rw [hb] at er
              refine ⟨H0, I0, A.or (AS.one D), γc, d, γb, hb, S2.same s3, r3, fun σ2 Sb pb hl2 hs => ?_⟩
              have hs' : ∀ j, j ∉ own → σ2[j]? = (wipe σ own)[j]? := fun j hj => by rw [hσ]; exact hs j fun z => hj (hsub j z)
              have hl3 : σ2.length = σ.length := by rw [hl2, ← hσ, wipe_length]
              refine ⟨?_, ?_⟩
              · rw [← hσ]
                exact wipe_eq (vs := own) (by rw [hl3, wipe_length]) hs' |>.trans (by rw [wipe_eq (σ := σ) (wipe_length σ own) fun j hj => wipe_ne hj])
              cases hc : evC Φ cnd γb with
              | none => simp only [hc] at er; cases er
              | some kc =>
                obtain ⟨k, γ3⟩ := kc
                refine ⟨H0, I0, A.or (AS.one D), γb, k, γ3, hc, Sb, fun H5 S5 p5 => ?_⟩
                have hD5 : H5 D = some (.lst vs) := p5.keep D _ hD3 (nD Sb)
                have P5 : Stp γc σw H2 γ3 σ2 H5 := (p3.trans pb).trans p5
                cases k with
                | false =>
                  simp only [hc] at er
                  refine iteF ⟨hlt, acc, wipeE γ3 own, vs, er, ?_, hD5, ?_, ?_, ?_⟩
                  · rw [← hσ]; exact S5.again hl3 hs'
                  · rw [← hσ]
                    exact (rv.kp P5.kp).kp (.less fun p z => z.imp id (pr_again hs' p))
                  · have P6 := P.trans P5
                    rw [← hσ] at P6 ⊢
                    exact ⟨P6.keep, fun p z => P6.prv p (pr_again hs' p z), P6.trk⟩
                  · rw [← hσ]
                    exact W.mono _ _ _ _ g2 (P5.kp.trans (.less fun p z => z.imp id (pr_again hs' p)))
                | true =>
                  cases he : evE Φ e γ3 with
                  | none => simp only [hc, he] at er; cases er
                  | some re =>
                    obtain ⟨⟨y, fr⟩, γ4⟩ := re
                    simp only [hc, he] at er
                    refine iteT ⟨H0, I0, A.or (AS.one D), γ3, y, fr, γ4, he, S5, fun w H6 p6 => ⟨vs, ?_, ?_, ?_⟩⟩
                    · exact p6.st.keep D _ hD5 (nD S5)
                    · split at er
                      · rename_i hz; rw [rv.len]; exact hz
                      · cases er
                    · split at er
                      · have P6 : Stp γc σw H2 γ4 σ2 H6 := P5.trans p6.st
                        have kk : Kp H6 ((A.or (AS.one D)).or (pr γ4 σ2)) (upd H6 D (.lst (vs ++ [w]))) ((A.or (AS.one D)).or (pr (wipeE γ4 own) (wipe σ own))) := fun p o e n =>
                          ⟨by rw [upd_ne fun z => n (.inl (.inr z))]; exact e, fun z => n (z.imp id (pr_again hs' p))⟩
                        have P7 := P.trans P6
                        rw [← hσ] at P7 ⊢
                        refine ⟨hlt, acc ++ [y], wipeE γ4 own, vs ++ [w], er, (p6.sr.again hl3 hs').updA hx, upd_same, ?_, ?_, ?_⟩
                        · exact ((rv.kp P6.kp).kp kk).app (RpL.one (p6.rp.kp kk))
                        · refine ⟨fun p o e n => ?_, fun p z => P7.prv p (pr_again hs' p z), fun p z => ?_⟩
                          · rw [upd_ne (ne_of_none e hD)]
                            exact P7.keep p o e n
                          · by_cases hp : p = D
                            · rw [hp, upd_same]; simp
                            · rw [upd_ne hp]; exact P7.trk p z
                        · exact W.mono _ _ _ _ g2 (P6.kp.trans kk)
                      · cases er
          · have ei : i = xs.length := by omega
            subst ei
            refine .inl ⟨W.stops _ H2 g2, ?_⟩
            rw [List.drop_length] at er
            have er : some (acc, γc) = some (ys, γ2) := er
            cases er
            rw [← hσ] at S2 P rv
            obtain ⟨S3, P3⟩ := S1.leave hno S2 (fun p z => z.imp id fun z => by rw [show p = D from z]; exact hD) P
            have hO : OwnR K H2 ((A.or (AS.one D)).or (pr (restoreE γ1 own γ2) σ)) (.lst ys) D := ⟨vs, hv, rv.kp (.less fun p z => z.imp id (pr_restore hno p))⟩
            exact q _ H2 ⟨S3.less, p1.trans P3, hO.rp (fun p z => z.imp .inl id) fun z => z.elim (fun z => S1.dom D z hD) (nD S3), fun _ => ⟨D, rfl, p1.none hD, hO, S3⟩⟩
      · cases ev
    · cases ev
  · cases ev
end
end Z
namespace Z
open PySem PySem.Spec L2
section
variable {C : Cst} {N : List Str} {Φ : Tab}

theorem scope_blk {X : Cx} {s : Shared} {H : Hp} {scope : Scope} {C : Addr} {cl : List (Str × Addr)} {fp : List Addr} : (X.blk s H scope (compEnvC scope cl C X.env) fp).env.scope = relS scope X.env.scope := rfl
theorem own_snd (N : List Str) (own : List Nat) : (ownP N own).map (·.2) = own := by
  unfold ownP
  rw [List.map_map]
  exact List.map_id' own
theorem bool_and {a b : Bool} (h : (a && b) = true) : a = true ∧ b = true := by simpa using h
theorem e_lc {X : Cx} {own : List Nat} {t : Tg} {it cnd e : Ex} {elt tg iter : Expr} {ifs : List Expr} {scope : Scope} {pos : Pos} (c : Ctx C N Φ X) (hi : PI X tg iter (tI X.K Φ it)) (ok : BlkOk X.N X.env.scope scope (ownP N own))
    (hg : ∀ (s : Shared) (H : Hp) (C : Addr) (cl : List (Str × Addr)) (fp : List Addr), PG (X.blk s H scope (compEnvC scope cl C X.env) fp) tg (tT X.K t))
    (ht : ∀ (s : Shared) (H : Hp) (C : Addr) (cl : List (Str × Addr)) (fp : List Addr), PTs (X.blk s H scope (compEnvC scope cl C X.env) fp) ifs (tCo X.K Φ cnd))
    (he : ∀ (s : Shared) (H : Hp) (C : Addr) (cl : List (Str × Addr)) (fp : List Addr), PE (X.blk s H scope (compEnvC scope cl C X.env) fp) elt (tE X.K Φ e))
    (hs : ∀ x, foldedSetIterable iter X.env x = pure x) (hsub : ∀ j ∈ tgSl t, j ∈ own) : PE X (.ListComp elt [⟨tg, iter, ifs, 0⟩] scope pos) (tE X.K Φ (.lc own t it cnd e)) := by
  refine pe_imp (pe_lc c.calm c.nd hi ok hg ht he hs) fun σ H Q h => ?_
  rw [own_snd]
  exact lc_read hsub h
theorem ptsc_nil {X : Cx} : PTs X [] (tCo X.K Φ .nil) := ⟨fun pins s σ H Q I ⟨H0, I0, A, γ, k, γ', e, S, q⟩ => by
  have e : some (true, γ) = some (k, γ') := by simpa only [evC] using e
  cases e
  exact pts_nil.run pins s σ H Q I (q H S .refl)⟩
theorem fold_of {iter : Expr} {env : PySem.Env} (h : notSet iter = true) : ∀ x, foldedSetIterable iter env x = pure x := fun x => by
  cases iter <;> first | rfl | cases h

theorem chkI_notSet : ∀ (it : Ex) (e : Expr) {sc : Scope}, chkI C N sc it e = true → notSet e = true := fun it e sc h => by
  cases it <;> simp only [chkI] at h <;> first
    | (cases h; done)
    | (split at h <;> first | rfl | cases h)
    | exact (bool_and h).1
set_option maxHeartbeats 400000 in
mutual
theorem sE : ∀ (ir : Ex) {X : Cx} (c : Ctx C N Φ X) (e : Expr), chkE C N X.env.scope ir e = true → PE X e (tE X.K Φ ir)
  | .var i, X, c, e, h => by
    simp only [chkE] at h
    split at h
    · exact e_var c h
    · cases h
  | .brw i, X, c, e, h => pe_no fun σ H Q ⟨_, _, _, _, _, _, _, ev, _⟩ => by simp [evE] at ev
  | .cst k, X, c, e, h => by
    simp only [chkE] at h
    split at h
    · exact e_cst h
    · cases h
  | .gcst x k, X, c, e, h => by
    simp only [chkE] at h
    split at h
    · simp only [Bool.and_eq_true, decide_eq_true_eq] at h
      obtain ⟨⟨⟨rfl, h1⟩, h2⟩, h3⟩ := h
      exact e_gc c h1 h2 h3
    · cases h
  | .bin p a b, X, c, e, h => by
    simp only [chkE] at h
    split at h
    · simp only [Bool.and_eq_true, decide_eq_true_eq] at h
      obtain ⟨⟨rfl, h1⟩, h2⟩ := h
      exact e_bin (e_opd c h1 (sE a c _ h1)) (e_opd c h2 (sE b c _ h2))
    · cases h
  | .neg a, X, c, e, h => by
    simp only [chkE] at h
    split at h
    · exact e_neg (sE a c _ h)
    · cases h
  | .vnot a, X, c, e, h => by
    simp only [chkE] at h
    split at h
    · exact e_vnot (e_opd c h (sE a c _ h))
    · cases h
  | .cmp p a b, X, c, e, h => by
    simp only [chkE] at h
    split at h
    · simp only [Bool.and_eq_true, decide_eq_true_eq, Bool.not_eq_true'] at h
      obtain ⟨⟨⟨rfl, hm⟩, h1⟩, h2⟩ := h
      exact e_cmp c (e_opd c h1 (sE a c _ h1)) (e_opd c h2 (sE b c _ h2)) hm
    · cases h
  | .chn p q a b d, X, c, e, h => by
    simp only [chkE] at h
    split at h
    · simp only [Bool.and_eq_true, decide_eq_true_eq, Bool.not_eq_true'] at h
      obtain ⟨⟨⟨⟨⟨rfl, rfl⟩, hm⟩, h1⟩, h2⟩, h3⟩ := h
      exact e_chn c (sE a c _ h1) (sE b c _ h2) (sE d c _ h3) hm
    · cases h
  | .idx a b, X, c, e, h => by
    simp only [chkE] at h
    split at h
    · simp only [Bool.and_eq_true] at h
      obtain ⟨⟨hs, h1⟩, h2⟩ := h
      exact e_idx (e_opd c h1 (sE a c _ h1)) (e_opd c h2 (sE b c _ h2)) hs
    · cases h
  | .slc a lo hi, X, c, e, hh => by
    simp only [chkE] at hh
    split at hh
    · rename_i v l h _ _
      simp only [Bool.and_eq_true] at hh
      obtain ⟨⟨h1, h2⟩, h3⟩ := hh
      refine e_slc (e_opd c h1 (sE a c v h1)) ?_ ?_
      · cases l with
        | none =>
          have e : lo = .nil := by cases lo <;> first | rfl | cases h2
          rw [e]
          exact p_none
        | some x =>
          obtain ⟨h4, h5⟩ := bool_and h2
          exact p_some (by cases lo <;> first | rfl | cases h4) (sE lo c x h5)
      · cases h with
        | none =>
          have e : hi = .nil := by cases hi <;> first | rfl | cases h3
          rw [e]
          exact p_none
        | some x =>
          obtain ⟨h4, h5⟩ := bool_and h3
          exact p_some (by cases hi <;> first | rfl | cases h4) (sE hi c x h5)
    · cases hh
  | .rev a, X, c, e, h => by
    simp only [chkE] at h
    split at h
    · simp only [Bool.and_eq_true, decide_eq_true_eq] at h
      obtain ⟨rfl, h1⟩ := h
      exact e_rev (e_opd c h1 (sE a c _ h1))
    · cases h
  | .land a b, X, c, e, h => by
    simp only [chkE] at h
    split at h
    · rename_i x y rest pos
      simp only [Bool.and_eq_true] at h
      refine e_land (sE a c x h.1) ?_
      cases rest with
      | nil => exact pe_one (sE b c y h.2)
      | cons z r => exact sE b c _ h.2
    · cases h
  | .lor a b, X, c, e, h => by
    simp only [chkE] at h
    split at h
    · rename_i x y rest pos
      simp only [Bool.and_eq_true] at h
      refine e_lor (sE a c x h.1) ?_
      cases rest with
      | nil => exact pe_one (sE b c y h.2)
      | cons z r => exact sE b c _ h.2
    · cases h
  | .ite k a b, X, c, e, h => by
    simp only [chkE] at h
    split at h
    · simp only [Bool.and_eq_true] at h
      exact e_ite (sC k c _ h.1.1) (sE a c _ h.1.2) (sE b c _ h.2)
    · cases h
  | .tup as, X, c, e, h => by
    simp only [chkE] at h
    split at h
    · exact e_tup (sS as c _ h)
    · cases h
  | .lst as, X, c, e, h => by
    simp only [chkE] at h
    split at h
    · exact e_lst (sS as c _ h)
    · cases h
  | .bi f as, X, c, e, h => by
    simp only [chkE] at h
    split at h
    · simp only [Bool.and_eq_true, decide_eq_true_eq] at h
      obtain ⟨⟨⟨⟨⟨h1, h2⟩, h3⟩, h4⟩, h5⟩, h6⟩ := h
      exact e_bi c h1 (c.blt _ h2) (gl_of h3) h4 h5 (sB as c _ h6)
    · cases h
  | .isi T a, X, c, e, h => by
    simp only [chkE] at h
    split at h
    · simp only [Bool.and_eq_true, decide_eq_true_eq] at h
      obtain ⟨⟨⟨⟨⟨⟨⟨⟨h1, h2⟩, h3⟩, h4⟩, h5⟩, h6⟩, h7⟩, h8⟩, h9⟩ := h
      exact e_isi h1 (c.blt _ h2) (gl_of h3) h4 (c.blt _ h5) (gl_of h6) h7 h8 (e_opd c h9 (sE a c _ h9))
    · cases h
  | .call k as, X, c, e, h => by
    simp only [chkE] at h
    split at h
    · simp only [Bool.and_eq_true, decide_eq_true_eq] at h
      obtain ⟨⟨⟨⟨h1, h2⟩, h3⟩, h4⟩, h5⟩ := h
      exact e_call c h1 (gl_of h2) h3 h4 (sS as c _ h5)
    · cases h
  | .callm k i as, X, c, e, h => by
    simp only [chkE] at h
    split at h
    · simp only [Bool.and_eq_true, decide_eq_true_eq] at h
      obtain ⟨⟨⟨⟨⟨h1, h2⟩, h3⟩, h4⟩, h5⟩, h6⟩ := h
      exact e_callm c h1 (gl_of h2) h3 h4 h5 (sS as c _ h6)
    · cases h
  | .lc own t it cnd el, X, c, e, h => by
    simp only [chkE] at h
    split at h
    · rename_i elt tg iter ifs ia scope pos
      simp only [Bool.and_eq_true, decide_eq_true_eq] at h
      obtain ⟨⟨⟨⟨⟨⟨⟨rfl, h1⟩, h2⟩, h3⟩, h4⟩, h5⟩, h6⟩, h7⟩ := h
      have hns : notSet iter = true := chkI_notSet it iter h5
      refine e_lc c (sI it c tg iter h5) (by rw [c.N]; exact blkOk_by h1) (fun s H D cl fp => ?_) (fun s H D cl fp => ?_) (fun s H D cl fp => sE el (c.blk s H scope _ fp) elt h7) (fold_of hns) fun j hj => by simpa using List.all_eq_true.mp h3 j hj
      · exact s_tg (fnB := fun x => scope.names.lookup x == some .cell) (c.blk s H scope _ fp) (fun x hx => hx) t tg h4
      · cases ifs with
        | nil =>
          have e : cnd = .nil := by cases cnd <;> first | rfl | cases h6
          rw [e]
          exact ptsc_nil
        | cons x r =>
          cases r with
          | nil => exact pts_one (sC cnd (c.blk s H scope _ fp) x h6)
          | cons _ _ => cases h6
    · cases h
  | .lrg tu a, X, c, e, h => by
    simp only [chkE] at h
    split at h
    · simp only [Bool.and_eq_true, decide_eq_true_eq] at h
      obtain ⟨⟨⟨⟨⟨⟨⟨h1, h2⟩, h3⟩, h4⟩, h5⟩, h6⟩, h7⟩, h8⟩ := h
      exact e_lrg c h1 (gl_of h3) (c.blt _ h2) h4 (gl_of h6) (c.blt _ h5) h7 (sE a c _ h8)
    · cases h
  | .lrg2 tu a b, X, c, e, h => by
    simp only [chkE] at h
    split at h
    · simp only [Bool.and_eq_true, decide_eq_true_eq] at h
      obtain ⟨⟨⟨⟨⟨⟨⟨⟨⟨h1, h2⟩, h3⟩, h4⟩, h5⟩, h6⟩, h7⟩, h7'⟩, h8⟩, h9⟩ := h
      exact e_lrg2 c h1 (gl_of h3) (c.blt _ h2) h4 (gl_of h6) (c.blt _ h5) h7 h7' (sE a c _ h8) (sE b c _ h9)
    · cases h
  | .pop i, X, c, e, h => by
    simp only [chkE] at h
    split at h
    · simp only [Bool.and_eq_true, decide_eq_true_eq] at h
      obtain ⟨⟨rfl, h1⟩, h2⟩ := h
      exact e_pop c h1 h2
    · cases h
  | .popAt i a, X, c, e, h => by
    simp only [chkE] at h
    split at h
    · simp only [Bool.and_eq_true, decide_eq_true_eq] at h
      obtain ⟨⟨⟨⟨rfl, h1⟩, h2⟩, h3⟩, h4⟩ := h
      exact e_popAt c h1 h2 h3 (sE a c _ h4)
    · cases h
  | .tr _, _, _, _, h | .ccmp _ _ _, _, _, _, h | .cchn _ _ _ _ _, _, _, _, h | .cand _ _, _, _, _, h | .cor _ _, _, _, _, h | .cnot _, _, _, _, h => by simp only [chkE] at h; cases h
  | .rng1 _, _, _, _, h | .rng2 _ _, _, _, _, h | .seq _, _, _, _, h | .enum _, _, _, _, h | .zip _ _, _, _, _, h | .nil, _, _, _, h | .cons _ _, _, _, _, h => by simp only [chkE] at h; cases h
theorem sC : ∀ (ir : Ex) {X : Cx} (c : Ctx C N Φ X) (e : Expr), chkC C N X.env.scope ir e = true → PT X e (tCo X.K Φ ir)
  | .tr a, X, c, e, h => by
    simp only [chkC, Bool.and_eq_true] at h
    exact c_tr h.1 (e_opd c h.2 (sE a c _ h.2))
  | .ccmp p a b, X, c, e, h => by
    simp only [chkC] at h
    split at h
    · simp only [Bool.and_eq_true, decide_eq_true_eq, Bool.not_eq_true'] at h
      obtain ⟨⟨⟨rfl, hm⟩, h1⟩, h2⟩ := h
      exact c_cmp c (e_opd c h1 (sE a c _ h1)) (e_opd c h2 (sE b c _ h2)) hm
    · cases h
  | .cchn p q a b d, X, c, e, h => by
    simp only [chkC] at h
    split at h
    · simp only [Bool.and_eq_true, decide_eq_true_eq, Bool.not_eq_true'] at h
      obtain ⟨⟨⟨⟨⟨rfl, rfl⟩, hm⟩, h1⟩, h2⟩, h3⟩ := h
      exact c_chn c (sE a c _ h1) (sE b c _ h2) (sE d c _ h3) hm
    · cases h
  | .cand a b, X, c, e, h => by
    simp only [chkC] at h
    split at h
    · rename_i x y rest pos
      simp only [Bool.and_eq_true] at h
      refine (c_and (sC a c x h.1) ?_).pt
      cases rest with
      | nil => exact pw_and1 (sC b c y h.2)
      | cons z r => exact sW b c _ _ _ h.2
    · cases h
  | .cor a b, X, c, e, h => by
    simp only [chkC] at h
    split at h
    · rename_i x y rest pos
      simp only [Bool.and_eq_true] at h
      refine (c_or (sC a c x h.1) ?_).pt
      cases rest with
      | nil => exact pw_or1 (sC b c y h.2)
      | cons z r => exact sW b c _ _ _ h.2
    · cases h
  | .cnot a, X, c, e, h => by
    simp only [chkC] at h
    split at h
    · exact c_not (sC a c _ h)
    · cases h
  | .var _, _, _, _, h | .brw _, _, _, _, h | .cst _, _, _, _, h | .gcst _ _, _, _, _, h | .bin _ _ _, _, _, _, h | .neg _, _, _, _, h | .vnot _, _, _, _, h | .cmp _ _ _, _, _, _, h | .chn _ _ _ _ _, _, _, _, h => by simp only [chkC] at h; cases h
  | .idx _ _, _, _, _, h | .slc _ _ _, _, _, _, h | .rev _, _, _, _, h | .land _ _, _, _, _, h | .lor _ _, _, _, _, h | .ite _ _ _, _, _, _, h | .tup _, _, _, _, h | .lst _, _, _, _, h | .bi _ _, _, _, _, h | .isi _ _, _, _, _, h => by simp only [chkC] at h; cases h
  | .call _ _, _, _, _, h | .callm _ _ _, _, _, _, h | .lc _ _ _ _ _, _, _, _, h | .pop _, _, _, _, h | .popAt _ _, _, _, _, h => by simp only [chkC] at h; cases h
  | .lrg _ _, _, _, _, h | .lrg2 _ _ _, _, _, _, h | .rng1 _, _, _, _, h | .rng2 _ _, _, _, _, h | .seq _, _, _, _, h | .enum _, _, _, _, h | .zip _ _, _, _, _, h | .nil, _, _, _, h | .cons _ _, _, _, _, h => by simp only [chkC] at h; cases h
theorem sW : ∀ (ir : Ex) {X : Cx} (c : Ctx C N Φ X) (op : BoolOp) (es : List Expr) (pos : Pos), chkC C N X.env.scope ir (.BoolOp op es pos) = true → PW X (.BoolOp op es pos) (tCo X.K Φ ir)
  | .cand a b, X, c, op, es, pos, h => by
    simp only [chkC] at h
    split at h
    · rename_i x y rest pos' e
      cases e
      simp only [Bool.and_eq_true] at h
      refine c_and (sC a c x h.1) ?_
      cases rest with
      | nil => exact pw_and1 (sC b c y h.2)
      | cons z r => exact sW b c _ _ _ h.2
    · cases h
  | .cor a b, X, c, op, es, pos, h => by
    simp only [chkC] at h
    split at h
    · rename_i x y rest pos' e
      cases e
      simp only [Bool.and_eq_true] at h
      refine c_or (sC a c x h.1) ?_
      cases rest with
      | nil => exact pw_or1 (sC b c y h.2)
      | cons z r => exact sW b c _ _ _ h.2
    · cases h
  | .tr a, X, c, op, es, pos, h => by
    simp only [chkC, Bool.and_eq_true] at h
    exact absurd h.1 (by simp [leafB])
  | .ccmp p a b, X, c, op, es, pos, h => by simp only [chkC] at h; cases h
  | .cchn p q a b d, X, c, op, es, pos, h => by simp only [chkC] at h; cases h
  | .cnot a, X, c, op, es, pos, h => by simp only [chkC] at h; cases h
  | .var _, _, _, _, _, _, h | .brw _, _, _, _, _, _, h | .cst _, _, _, _, _, _, h | .gcst _ _, _, _, _, _, _, h | .bin _ _ _, _, _, _, _, _, h | .neg _, _, _, _, _, _, h | .vnot _, _, _, _, _, _, h | .cmp _ _ _, _, _, _, _, _, h | .chn _ _ _ _ _, _, _, _, _, _, h => by simp only [chkC] at h; cases h
  | .idx _ _, _, _, _, _, _, h | .slc _ _ _, _, _, _, _, _, h | .rev _, _, _, _, _, _, h | .land _ _, _, _, _, _, _, h | .lor _ _, _, _, _, _, _, h | .ite _ _ _, _, _, _, _, _, h | .tup _, _, _, _, _, _, h | .lst _, _, _, _, _, _, h | .bi _ _, _, _, _, _, _, h | .isi _ _, _, _, _, _, _, h => by simp only [chkC] at h; cases h
  | .call _ _, _, _, _, _, _, h | .callm _ _ _, _, _, _, _, _, h | .lc _ _ _ _ _, _, _, _, _, _, h | .pop _, _, _, _, _, _, h | .popAt _ _, _, _, _, _, _, h => by simp only [chkC] at h; cases h
  | .lrg _ _, _, _, _, _, _, h | .lrg2 _ _ _, _, _, _, _, _, h | .rng1 _, _, _, _, _, _, h | .rng2 _ _, _, _, _, _, _, h | .seq _, _, _, _, _, _, h | .enum _, _, _, _, _, _, h | .zip _ _, _, _, _, _, _, h | .nil, _, _, _, _, _, h | .cons _ _, _, _, _, _, _, h => by simp only [chkC] at h; cases h
theorem sS : ∀ (ir : Ex) {X : Cx} (c : Ctx C N Φ X) (es : List Expr), chkS C N X.env.scope ir es = true → PA X es (tS X.K Φ ir)
  | .nil, X, c, es, h => by
    simp only [chkS] at h
    split at h
    · exact s_nil
    · cases h
  | .cons a r, X, c, es, h => by
    simp only [chkS] at h
    split at h
    · simp only [Bool.and_eq_true] at h
      exact s_cons h.1.1 (sE a c _ h.1.2) (sS r c _ h.2)
    · cases h
  | .tr _, _, _, _, h | .ccmp _ _ _, _, _, _, h | .cchn _ _ _ _ _, _, _, _, h | .cand _ _, _, _, _, h | .cor _ _, _, _, _, h | .cnot _, _, _, _, h => by simp only [chkS] at h; cases h
  | .var _, _, _, _, h | .brw _, _, _, _, h | .cst _, _, _, _, h | .gcst _ _, _, _, _, h | .bin _ _ _, _, _, _, h | .neg _, _, _, _, h | .vnot _, _, _, _, h | .cmp _ _ _, _, _, _, h | .chn _ _ _ _ _, _, _, _, h => by simp only [chkS] at h; cases h
  | .idx _ _, _, _, _, h | .slc _ _ _, _, _, _, h | .rev _, _, _, _, h | .land _ _, _, _, _, h | .lor _ _, _, _, _, h | .ite _ _ _, _, _, _, h | .tup _, _, _, _, h | .lst _, _, _, _, h | .bi _ _, _, _, _, h | .isi _ _, _, _, _, h => by simp only [chkS] at h; cases h
  | .call _ _, _, _, _, h | .callm _ _ _, _, _, _, h | .lc _ _ _ _ _, _, _, _, h | .pop _, _, _, _, h | .popAt _ _, _, _, _, h => by simp only [chkS] at h; cases h
  | .lrg _ _, _, _, _, h | .lrg2 _ _ _, _, _, _, h | .rng1 _, _, _, _, h | .rng2 _ _, _, _, _, h | .seq _, _, _, _, h | .enum _, _, _, _, h | .zip _ _, _, _, _, h => by simp only [chkS] at h; cases h
theorem sB : ∀ (ir : Ex) {X : Cx} (c : Ctx C N Φ X) (es : List Expr), chkB C N X.env.scope ir es = true → PA X es (tB X.K Φ ir)
  | .nil, X, c, es, h => by
    simp only [chkB] at h
    split at h
    · exact b_nil
    · cases h
  | .cons a r, X, c, es, h => by
    simp only [chkB] at h
    split at h
    · simp only [Bool.and_eq_true] at h
      exact b_cons h.1.1 (e_opd c h.1.2 (sE a c _ h.1.2)) (sB r c _ h.2)
    · cases h
  | .tr _, _, _, _, h | .ccmp _ _ _, _, _, _, h | .cchn _ _ _ _ _, _, _, _, h | .cand _ _, _, _, _, h | .cor _ _, _, _, _, h | .cnot _, _, _, _, h => by simp only [chkB] at h; cases h
  | .var _, _, _, _, h | .brw _, _, _, _, h | .cst _, _, _, _, h | .gcst _ _, _, _, _, h | .bin _ _ _, _, _, _, h | .neg _, _, _, _, h | .vnot _, _, _, _, h | .cmp _ _ _, _, _, _, h | .chn _ _ _ _ _, _, _, _, h => by simp only [chkB] at h; cases h
  | .idx _ _, _, _, _, h | .slc _ _ _, _, _, _, h | .rev _, _, _, _, h | .land _ _, _, _, _, h | .lor _ _, _, _, _, h | .ite _ _ _, _, _, _, h | .tup _, _, _, _, h | .lst _, _, _, _, h | .bi _ _, _, _, _, h | .isi _ _, _, _, _, h => by simp only [chkB] at h; cases h
  | .call _ _, _, _, _, h | .callm _ _ _, _, _, _, h | .lc _ _ _ _ _, _, _, _, h | .pop _, _, _, _, h | .popAt _ _, _, _, _, h => by simp only [chkB] at h; cases h
  | .lrg _ _, _, _, _, h | .lrg2 _ _ _, _, _, _, h | .rng1 _, _, _, _, h | .rng2 _ _, _, _, _, h | .seq _, _, _, _, h | .enum _, _, _, _, h | .zip _ _, _, _, _, h => by simp only [chkB] at h; cases h
theorem sI : ∀ (ir : Ex) {X : Cx} (c : Ctx C N Φ X) (tg e : Expr), chkI C N X.env.scope ir e = true → PI X tg e (tI X.K Φ ir)
  | .rng1 a, X, c, tg, e, h => by
    simp only [chkI] at h
    split at h
    · simp only [Bool.and_eq_true, decide_eq_true_eq] at h
      obtain ⟨⟨⟨⟨h1, h2⟩, h3⟩, h4⟩, h5⟩ := h
      exact i_rng1 h1 (gl_of h3) (c.blt _ h2) h4 (sE a c _ h5)
    · cases h
  | .rng2 a b, X, c, tg, e, h => by
    simp only [chkI] at h
    split at h
    · simp only [Bool.and_eq_true, decide_eq_true_eq] at h
      obtain ⟨⟨⟨⟨⟨⟨h1, h2⟩, h3⟩, h4⟩, h5⟩, h6⟩, h7⟩ := h
      exact i_rng2 h1 (gl_of h3) (c.blt _ h2) h4 h5 (sE a c _ h6) (sE b c _ h7)
    · cases h
  | .seq a, X, c, tg, e, h => by
    simp only [chkI, Bool.and_eq_true] at h
    exact i_seq (sE a c _ h.2)
  | .tr _, _, _, _, _, h | .ccmp _ _ _, _, _, _, _, h | .cchn _ _ _ _ _, _, _, _, _, h | .cand _ _, _, _, _, _, h | .cor _ _, _, _, _, _, h | .cnot _, _, _, _, _, h => by simp only [chkI] at h; cases h
  | .var _, _, _, _, _, h | .brw _, _, _, _, _, h | .cst _, _, _, _, _, h | .gcst _ _, _, _, _, _, h | .bin _ _ _, _, _, _, _, h | .neg _, _, _, _, _, h | .vnot _, _, _, _, _, h | .cmp _ _ _, _, _, _, _, h | .chn _ _ _ _ _, _, _, _, _, h => by simp only [chkI] at h; cases h
  | .idx _ _, _, _, _, _, h | .slc _ _ _, _, _, _, _, h | .rev _, _, _, _, _, h | .land _ _, _, _, _, _, h | .lor _ _, _, _, _, _, h | .ite _ _ _, _, _, _, _, h | .tup _, _, _, _, _, h | .lst _, _, _, _, _, h | .bi _ _, _, _, _, _, h | .isi _ _, _, _, _, _, h => by simp only [chkI] at h; cases h
  | .call _ _, _, _, _, _, h | .callm _ _ _, _, _, _, _, h | .lc _ _ _ _ _, _, _, _, _, h | .pop _, _, _, _, _, h | .popAt _ _, _, _, _, _, h => by simp only [chkI] at h; cases h
  | .lrg _ _, _, _, _, _, h | .lrg2 _ _ _, _, _, _, _, h | .enum _, _, _, _, _, h | .zip _ _, _, _, _, _, h | .nil, _, _, _, _, h | .cons _ _, _, _, _, _, h => by simp only [chkI] at h; cases h
end
end
end Z
namespace Z
open PySem PySem.Spec L2

/-! ### statements: the text against the small language -/
def notComp : Expr → Bool
  | .ListComp _ _ _ _ => false
  | .SetComp _ _ _ _ => false
  | .DictComp _ _ _ _ _ => false
  | _ => true
def notTup : Expr → Bool
  | .Tuple _ _ _ => false
  | _ => true
/-- whether a comprehension's store is exchanged -/
def swB (sc : Scope) (v : Expr) (t : Str) (pos : Pos) : Bool :=
  match v with
  | .ListComp _ _ s p => (sc.names.lookup t == some .local) && pos.line == p.line && !(s.names.any fun (n, k) => n == t && (k == .local || k == .cell))
  | .SetComp _ _ s p => (sc.names.lookup t == some .local) && pos.line == p.line && !(s.names.any fun (n, k) => n == t && (k == .local || k == .cell))
  | .DictComp _ _ _ s p => (sc.names.lookup t == some .local) && pos.line == p.line && !(s.names.any fun (n, k) => n == t && (k == .local || k == .cell))
  | _ => false
def swF (sc : Scope) (ts vs : List Expr) : Option (Option (List Str)) :=
  if (!(ts.length == 2 || ts.length == 3) || vs.length != ts.length) = true then some none
  else if (vs.any fun | .Starred .. => true | _ => false) = true then some none
  else
    let line := (ts.head?.map (·.pos.line)).getD 0
    let names := ts.filterMap fun
      | .Name id pos => if sc.names.lookup id == some .local && pos.line == line then some id else none
      | _ => none
    if (names.length != ts.length || names.eraseDups.length != names.length) = true then some none
    else if (vs.all (foldedForSure 8)) = true then some none
    else if (vs.all (constantsAlone 8)) = true then none
    else some (some names)
def nmTs (N : List Str) (sc : Scope) : List Nat → List Expr → Bool
  | [], [] => true
  | i :: is, .Name x _ :: es => decide (N[i]? = some x) && locB sc x && nmTs N sc is es
  | _, _ => false

mutual
def chkM (C : Cst) (N : List Str) (sc : Scope) : Sm → Stmt → Bool
  | .asg i e, st => match st with
    | .Assign [.Name x px] v _ => decide (N[i]? = some x) && locB sc x && !swB sc v x px && chkE C N sc e v
    | _ => false
  | .asl i e, st => match st with
    | .Assign [.Name x px] (.ListComp elt [⟨tg, iter, ifs, ia⟩] scope pos) _ => (match e with
      | .lc own t it c el => decide (N[i]? = some x) && lclB sc x && swB sc (.ListComp elt [⟨tg, iter, ifs, ia⟩] scope pos) x px && chkE C N sc (.lc own t it c el) (.ListComp elt [⟨tg, iter, ifs, ia⟩] scope pos)
      | _ => false)
    | _ => false
  | .par sw is as, st => match st with
    | .Assign [.Tuple ts _ _] (.Tuple vs _ _) _ => nmTs N sc is ts && decide is.Nodup && decide (is.length ≤ 20) && chkS C N sc as vs && (match sw with
      | true => ((is.length == 2) || (is.length == 3)) && decide (vs.length = is.length) && decide (swF sc ts vs = some (some (is.map fun i => N.getD i ""))) && is.all (fun i => lclB sc (N.getD i ""))
      | false => decide (swF sc ts vs = some none) && decide (vs.length = ts.length))
    | _ => false
  | .unp t e, st => match st with
    | .Assign [.Tuple ts k p] v _ => notTup v && tgB N sc (fun _ => true) t (.Tuple ts k p) && chkE C N sc e v
    | _ => false
  | .aug i p e, st => match st with
    | .AugAssign (.Name x _) q v _ => decide (p = q) && decide (N[i]? = some x) && locB sc x && chkE C N sc e v
    | _ => false
  | .six i k e, st => match st with
    | .Assign [.Subscript (.Name x _) s _] v _ => varB N sc i x && notSlice s && chkE C N sc k s && chkE C N sc e v
    | _ => false
  | .app i e, st => match st with
    | .Expr (.Call (.Attribute (.Name x _) m ap) [v] [] cp) _ => decide (m = "append") && varB N sc i x && (ap.endLine == cp.line) && notStar v && chkE C N sc e v
    | _ => false
  | .ext i e, st => match st with
    | .Expr (.Call (.Attribute (.Name x _) m ap) [v] [] cp) _ => decide (m = "extend") && varB N sc i x && (ap.endLine == cp.line) && notStar v && chkE C N sc e v
    | _ => false
  | .drop e, st => match st with
    | .Expr v _ => notComp v && chkE C N sc e v
    | _ => false
  | .iff c a b, st => match st with
    | .If t x y _ => chkC C N sc c t && chkMs C N sc a x && chkMs C N sc b y
    | _ => false
  | .whl c b w, st => match st with
    | .While t x [] _ => chkC C N sc c t && chkMs C N sc b x
    | _ => false
  | .foR t it b w, st => match st with
    | .For tg iter x [] _ => tgB N sc (fun _ => true) t tg && chkI C N sc it iter && chkMs C N sc b x
    | _ => false
  | .ret e, st => match st with
    | .Return (some v) _ => chkE C N sc e v
    | _ => false
  | .reto i, st => match st with
    | .Return (some (.Name x _)) _ => varB N sc i x
    | _ => false
  | .retn, st => match st with
    | .Return none _ => true
    | _ => false
  | .brk, st => match st with
    | .Break _ => true
    | _ => false
  | .cnt, st => match st with
    | .Continue _ => true
    | _ => false
  | .pass, st => match st with
    | .Pass _ => true
    | _ => false
  | _, _ => false
def chkMs (C : Cst) (N : List Str) (sc : Scope) : Sm → List Stmt → Bool
  | .nil, sts => match sts with
    | [] => true
    | _ => false
  | .cons a r, sts => match sts with
    | st :: q => chkM C N sc a st && chkMs C N sc r q
    | _ => false
  | _, _ => false
end

/-! ### readings -/
def RetR (K : PySem.W.Frag) (H0 : Hp) (I0 A P : AS) (H : Hp) (d : D) (v : V) : Bool → Prop
  | false => Rp K H (A.or P) d v
  | true => ∃ a, v = .ref a ∧ (H0 a = none ∨ I0 a) ∧ OwnR K H (A.or (AS.one a)) d a
def PostO (K : PySem.W.Frag) (H0 : Hp) (I0 A : AS) (γ : Env) (σ : St) (H : Hp) (E : Ends) : Out → Prop
  | .nx γ' => ∀ σ' H', SR K H0 I0 A γ' σ' H' → Stp γ σ H γ' σ' H' → E.nx σ' H'
  | .ct γ' => ∀ σ' H', SR K H0 I0 A γ' σ' H' → Stp γ σ H γ' σ' H' → E.ct σ' H'
  | .bk γ' => ∀ σ' H', SR K H0 I0 A γ' σ' H' → Stp γ σ H γ' σ' H' → E.bk σ' H'
  | .rt d fr γ' => ∀ v σ' H', SR K H0 I0 A γ' σ' H' → RetR K H0 I0 A (pr γ' σ') H' d v fr → E.rt v H'
def tM (K : PySem.W.Frag) (Φ : Tab) (n : Nat) (ir : Sm) : TS := fun E σ H => ∃ (H0 : Hp) (I0 A : AS) (γ : Env) (o : Out), ex Φ n ir γ = some o ∧ SR K H0 I0 A γ σ H ∧ PostO K H0 I0 A γ σ H E o

section
variable {C : Cst} {N : List Str} {Φ : Tab} {X : Cx} {H0 H H1 H2 H' H'' : Hp} {I0 A B : AS} {γ γ1 γ2 γ' γ'' : Env} {σ σ' : St} {K : PySem.W.Frag} {n : Nat}
variable {a b c3 : Ex} {l r m : Expr} {pos : Pos}
theorem ps_imp {st : Stmt} {t t' : TS} (h : PS X st t) (m : ∀ E σ H, t' E σ H → t E σ H) : PS X st t' := ⟨fun pins s σ H E I q => h.run pins s σ H E I (m E σ H q)⟩
theorem pss_imp {st : List Stmt} {t t' : TS} (h : PSs X st t) (m : ∀ E σ H, t' E σ H → t E σ H) : PSs X st t' := ⟨fun pins s σ H E I q => h.run pins s σ H E I (m E σ H q)⟩
theorem PostO.after {E : Ends} {o : Out} (p : Stp γ σ H γ' σ' H') (q : PostO K H0 I0 A γ σ H E o) : PostO K H0 I0 A γ' σ' H' E o := by
  cases o with
  | nx g => exact fun s2 h2 S P => q s2 h2 S (p.trans P)
  | ct g => exact fun s2 h2 S P => q s2 h2 S (p.trans P)
  | bk g => exact fun s2 h2 S P => q s2 h2 S (p.trans P)
  | rt d fr g => exact q
theorem sw_of {sc : PySem.Env} {v : Expr} {x : Str} {px : Pos} {ln : Nat} (hk : sc.scope.kind = .function) : swapsWith v (some (.Name x px)) ln sc = pure (swB sc.scope v x px) := by
  have hb : sc.blockKind = .function := by unfold PySem.Env.blockKind; rw [hk]; rfl
  unfold swapsWith swB
  cases v <;> first
    | rfl
    | (simp only [hb, PySem.Env.kindOf, Expr.pos]; rfl)
theorem swTup_of {v : Expr} {ts : List Expr} {k : Nat} {p : Pos} {ln : Nat} {env : PySem.Env} : swapsWithSole [.Tuple ts k p] v ln env = pure false := by
  unfold swapsWithSole swapsWith
  cases v <;> rfl
theorem swSub_of {v o i : Expr} {p : Pos} {ln : Nat} {env : PySem.Env} : swapsWithSole [.Subscript o i p] v ln env = pure false := by
  unfold swapsWithSole swapsWith
  cases v <;> rfl
theorem swNone_of {v : Expr} {ln : Nat} {env : PySem.Env} (h : notComp v = true) : swapsWith v none ln env = pure false := by
  unfold swapsWith
  cases v <;> first | rfl | cases h
theorem swd_none {v : Expr} {ts : List Expr} {k : Nat} {p : Pos} {env : PySem.Env} (h : notTup v = true) : swappedStores [.Tuple ts k p] v env = pure none := by
  unfold swappedStores
  cases v <;> first | rfl | cases h
theorem swdSub_none {v o i : Expr} {p : Pos} {env : PySem.Env} : swappedStores [.Subscript o i p] v env = pure none := by
  unfold swappedStores
  cases v <;> rfl
theorem swd_of {ts vs : List Expr} {k k2 : Nat} {p p2 : Pos} {env : PySem.Env} {o : Option (List Str)} (hk : env.scope.kind = .function) (h : swF env.scope ts vs = some o) : swappedStores [.Tuple ts k p] (.Tuple vs k2 p2) env = pure o := by
  have hb : env.blockKind = .function := by unfold PySem.Env.blockKind; rw [hk]; rfl
  have e0 : (env.blockKind != ScopeKind.function) = false := by rw [hb]; rfl
  unfold swF at h
  unfold swappedStores
  simp only [e0, Bool.or_false]
  split at h
  · rename_i h1
    cases h
    exact if_pos h1
  · rename_i h1
    refine (if_neg h1).trans ?_
    split at h
    · rename_i h2
      cases h
      exact if_pos h2
    · rename_i h2
      refine (if_neg h2).trans ?_
      simp only at h
      generalize hn : List.filterMap _ ts = n1 at h
      show (do
        let line := (ts.head?.map (·.pos.line)).getD 0
        let names := ts.filterMap fun
          | .Name id pos => if env.kindOf id == some .local && pos.line == line then some id else none
          | _ => none
        if names.length != ts.length || names.eraseDups.length != names.length then return none
        if vs.all (foldedForSure 8) then return none
        if vs.all (constantsAlone 8) then unsupported "assign.tuple-of-constant-expressions:order-of-the-stores"
        return some names) = (pure o : Sem (Option (List Str)))
      simp only
      generalize hn2 : List.filterMap _ ts = n2
      have en : n1 = n2 := (hn.symm.trans (congrArg (fun f => List.filterMap f ts) (funext fun x => by cases x <;> rfl))).trans hn2
      subst en
      split at h
      · rename_i h3
        cases h
        exact if_pos h3
      · rename_i h3
        refine (if_neg h3).trans ?_
        split at h
        · rename_i h4
          cases h
          exact if_pos h4
        · rename_i h4
          refine (if_neg h4).trans ?_
          split at h
          · cases h
          · rename_i h5
            cases h
            exact if_neg h5
end
end Z
namespace Z
open PySem PySem.Spec L2

structure CtxM (C : Cst) (N : List Str) (Φ : Tab) (X : Cx) : Prop extends Ctx C N Φ X where
  kind : X.env.scope.kind = .function
  fnT : ∀ x, X.fn x = true
  pass : PassesOwn (model X.prog X.w) X.A X.env X.xe

section
variable {C : Cst} {N : List Str} {Φ : Tab} {X : Cx} {H0 H H1 H2 H' H'' : Hp} {I0 A B : AS} {γ γ1 γ2 γ' γ'' : Env} {σ σ' : St} {K : PySem.W.Frag} {n : Nat}
variable {a b c3 : Ex} {l r m : Expr} {pos : Pos}

theorem new_of (S : SR K H0 I0 A γ σ H) {p : Addr} (h : H p = none) : H0 p = none ∨ I0 p := by
  by_cases hi : I0 p
  · exact .inr hi
  · refine .inl ?_
    cases e : H0 p with
    | none => rfl
    | some o => rw [S.ext p o e hi] at h; cases h
theorem asg_post {i : Nat} {d : D} {fr : Bool} {v : V} (S : SR K H0 I0 A γ σ H) (p : PostE K H0 I0 A γ γ' σ H H' d fr v) :
    SR K H0 I0 A (γ'.set i (nsl i fr d)) (σ.set i (some v)) H' ∧ Stp γ σ H (γ'.set i (nsl i fr d)) (σ.set i (some v)) H' := by
  cases fr with
  | false =>
    rw [show nsl i false d = .val d by cases i <;> rfl]
    exact ⟨p.sr.setVal p.rp, p.st.trans ⟨fun _ _ h _ => h, fun b z => .inl (pr_setVal b z), fun _ h => h⟩⟩
  | true =>
    cases i with
    | zero => exact ⟨p.sr.setVal p.rp, p.st.trans ⟨fun _ _ h _ => h, fun b z => .inl (pr_setVal b z), fun _ h => h⟩⟩
    | succ i =>
    obtain ⟨q, rfl, hn, ho, S'⟩ := p.fr rfl
    refine ⟨S'.setOwn ho (fun z => S.dom q z hn) (new_of S hn) (by simp), ⟨p.st.keep, fun b z => ?_, p.st.trk⟩⟩
    rcases pr_setOwn b z with z | z
    · exact p.st.prv b z
    · exact .inr (by rw [z]; exact hn)
theorem m_asg {i : Nat} {x : Str} {px : Pos} (c : CtxM C N Φ X) (hi : N[i]? = some x) (hx : locB X.env.scope x = true) (hs : swB X.env.scope l x px = false) (he : PE X l (tE X.K Φ a)) : PS X (.Assign [.Name x px] l pos) (tM X.K Φ n (.asg i a)) := by
  refine ps_imp (ps_set (i := i) c.nd (by rw [c.N]; exact hi) (loc_of hx) he (by rw [sw_of c.kind, hs]) (.inl (c.fnT x))) fun E σ H ⟨H0, I0, A, γ, o, e, S, q⟩ => ?_
  simp only [ex] at e
  split at e
  · rename_i d fr γ1 e1
    cases e
    refine ⟨H0, I0, A, γ, d, fr, γ1, e1, S, fun v H1 p => ?_⟩
    obtain ⟨S1, P1⟩ := asg_post (i := i) S p
    exact q _ H1 S1 P1
  · cases e
theorem m_asl {i : Nat} {x : Str} {px : Pos} {own : List Nat} {t : Tg} {it cnd e : Ex} {elt tg iter : Expr} {ifs : List Expr} {scope : Scope} {pos' : Pos} (c : CtxM C N Φ X) (hi : N[i]? = some x) (hx : lclB X.env.scope x = true)
    (hs : swB X.env.scope (.ListComp elt [⟨tg, iter, ifs, 0⟩] scope pos') x px = true) (hI : PI X tg iter (tI X.K Φ it)) (ok : BlkOk X.N X.env.scope scope (ownP N own))
    (hg : ∀ (s : Shared) (H : Hp) (C : Addr) (cl : List (Str × Addr)) (fp : List Addr), PG (X.blk s H scope (compEnvC scope cl C X.env) fp) tg (tT X.K t))
    (ht : ∀ (s : Shared) (H : Hp) (C : Addr) (cl : List (Str × Addr)) (fp : List Addr), PTs (X.blk s H scope (compEnvC scope cl C X.env) fp) ifs (tCo X.K Φ cnd))
    (he : ∀ (s : Shared) (H : Hp) (C : Addr) (cl : List (Str × Addr)) (fp : List Addr), PE (X.blk s H scope (compEnvC scope cl C X.env) fp) elt (tE X.K Φ e))
    (hf : ∀ x, foldedSetIterable iter X.env x = pure x) (hsub : ∀ j ∈ tgSl t, j ∈ own) : PS X (.Assign [.Name x px] (.ListComp elt [⟨tg, iter, ifs, 0⟩] scope pos') pos) (tM X.K Φ n (.asl i (.lc own t it cnd e))) := by
  refine ps_imp (ps_setLc (i := i) c.calm c.nd (by rw [c.N]; exact hi) (lcl_of hx) (by rw [sw_of c.kind, hs]) hI ok hg ht he hf) fun E σ H ⟨H0, I0, A, γ, o, ev, S, q⟩ => ?_
  simp only [ex] at ev
  split at ev
  · rename_i d fr γ1 e1
    cases ev
    show tLc _ _ _ _ _ σ H _
    rw [own_snd]
    refine lc_read hsub ⟨H0, I0, A, γ, d, fr, γ1, e1, S, fun v H1 p => ?_⟩
    obtain ⟨S1, P1⟩ := asg_post (i := i) S p
    exact q _ H1 S1 P1
  · cases ev

/-! ### several names at once -/
def setV : List Nat → List V → St → St
  | i :: is, v :: vs, σ => setV is vs (σ.set i (some v))
  | _, _, σ => σ
def gNms (is : List Nat) : TGs := fun vs σ H Q => vs.length = is.length ∧ Q (setV is vs σ) H
theorem s_nms (c : CtxM C N Φ X) : ∀ (is : List Nat) (ts : List Expr), nmTs N X.env.scope is ts = true → PGs X ts (gNms is) ∧ (assignEach ts X.env).length = is.length ∧ (assignEach ts X.env).findIdx? (·.1) = none
  | [], [], _ => ⟨pgs_imp pgs_nil fun vs σ H Q ⟨h, q⟩ => by
      have : vs = [] := List.eq_nil_of_length_eq_zero h
      subst this
      exact ⟨rfl, q⟩, rfl, rfl⟩
  | i :: is, .Name x px :: es, h => by
    simp only [nmTs, Bool.and_eq_true, decide_eq_true_eq] at h
    obtain ⟨h1, h2, h3⟩ := s_nms c is es h.2
    have e0 : assignEach (.Name x px :: es) X.env = (false, assign (.Name x px) X.env) :: assignEach es X.env := rfl
    refine ⟨pgs_imp (pgs_cons (pg_name (i := i) c.nd (by rw [c.N]; exact h.1.1) (loc_of h.1.2) (.inl (c.fnT x))) h1 rfl) fun vs σ H Q ⟨hl, q⟩ => ?_, by rw [e0]; simp [h2], by rw [e0, List.findIdx?_cons, h3]; rfl⟩
    cases vs with
    | nil => simp at hl
    | cons v r => exact ⟨v, r, rfl, by simpa using hl, q⟩
  | [], _ :: _, h => by simp [nmTs] at h
  | _ :: _, [], h => by simp [nmTs] at h
theorem par_set {B0 : AS} {ds : List (D × Bool)} {vs : List V} {as : List Addr} (fl : FrL K H B0 ds vs as) : ∀ {γ γ' : Env} {σ : St} {is : List Nat}, (∀ b, ((A.or fun a => a ∈ as).or (pr γ σ)) b → B0 b) → as.Nodup → (∀ a ∈ as, ¬ A a ∧ (H0 a = none ∨ I0 a)) →
    SR K H0 I0 (A.or fun a => a ∈ as) γ σ H → setP is ds γ = some γ' → SR K H0 I0 A γ' (setV is vs σ) H ∧ (∀ b, pr γ' (setV is vs σ) b → pr γ σ b ∨ b ∈ as) ∧ vs.length = is.length := by
  induction fl with
  | nil =>
    intro γ γ' σ is _ _ _ S e
    cases is with
    | nil =>
      have e : some γ = some γ' := e
      cases e
      exact ⟨S.less, fun b z => .inl z, rfl⟩
    | cons _ _ => cases e
  | @val d v r w as h _ ih =>
    intro γ γ' σ is m nd hA S e
    cases is with
    | nil => cases e
    | cons i is =>
      have e : setP is r (γ.set i (nsl i false d)) = some γ' := e
      rw [show nsl i false d = .val d by cases i <;> rfl] at e
      have p1 := pr_setVal (γ := γ) (σ := σ) (i := i) (d := d) (v := v)
      obtain ⟨S2, p2, hl⟩ := ih (γ := γ.set i (.val d)) (σ := σ.set i (some v)) (fun b z => m b (z.imp id (p1 b))) nd hA (S.setVal (h.kp (.less m))) e
      exact ⟨S2, fun b z => (p2 b z).imp (p1 b) id, by rw [List.length_cons, List.length_cons, hl]⟩
  | @own d p r w as h _ ih =>
    intro γ γ' σ is m nd hA S e
    cases is with
    | nil => cases e
    | cons i is =>
      have e : setP is r (γ.set i (nsl i true d)) = some γ' := e
      have nd' := List.nodup_cons.mp nd
      have eqv : ∀ b, ((A.or fun a => a ∈ as).or (AS.one p)) b ↔ (A.or fun a => a ∈ p :: as) b := fun b =>
        ⟨fun z => Or.elim z (fun z => Or.elim z .inl fun z => .inr (List.mem_cons_of_mem _ z)) fun z => .inr (by rw [show b = p from z]; exact List.mem_cons_self),
          fun z => Or.elim z (fun z => .inl (.inl z)) fun z => (List.mem_cons.mp z).elim .inr fun z => .inl (.inr z)⟩
      have hp := hA p List.mem_cons_self
      cases i with
      | zero =>
        have e : setP is r (γ.set 0 (.val d)) = some γ' := e
        have p1 := pr_setVal (γ := γ) (σ := σ) (i := 0) (d := d) (v := .ref p)
        have S1 := (S.congr eqv).less
        have rp : Rp K H ((A.or fun a => a ∈ as).or (pr γ σ)) d (.ref p) := h.rp (fun b z => m b (z.imp (fun z => (eqv b).1 (.inl z)) id)) fun z => by
          rcases z with (z | z) | z
          · exact hp.1 z
          · exact nd'.1 z
          · exact (S.prA p z).1 (.inr List.mem_cons_self)
        obtain ⟨S2, p2, hl⟩ := ih (γ := γ.set 0 (.val d)) (σ := σ.set 0 (some (.ref p))) (fun b z => m b (z.imp (fun z => (eqv b).1 (.inl z)) (p1 b))) nd'.2 (fun b hb => hA b (List.mem_cons_of_mem _ hb)) (S1.setVal rp) e
        exact ⟨S2, fun b z => (p2 b z).imp (p1 b) (List.mem_cons_of_mem _), by rw [List.length_cons, List.length_cons, hl]⟩
      | succ i =>
      have p1 := pr_setOwn (γ := γ) (σ := σ) (i := i + 1) (d := d) (b := p)
      have S1 := (S.congr eqv).setOwn (i := i + 1) (d := d) (h.kp (.less fun b z => m b (z.imp (eqv b).1 id)) rfl) (fun z => Or.elim z hp.1 nd'.1) hp.2 (by simp)
      obtain ⟨S2, p2, hl⟩ := ih (fun b z => m b (Or.elim z (fun z => .inl ((eqv b).1 (.inl z))) fun z => (p1 b z).elim .inr fun z => .inl (.inr (by rw [z]; exact List.mem_cons_self)))) nd'.2 (fun b hb => hA b (List.mem_cons_of_mem _ hb)) S1 e
      refine ⟨S2, fun b z => ?_, by rw [List.length_cons, List.length_cons, hl]⟩
      rcases p2 b z with z | z
      · rcases p1 b z with z | z
        · exact .inl z
        · exact .inr (by rw [z]; exact List.mem_cons_self)
      · exact .inr (List.mem_cons_of_mem _ z)
/-- behind the values of a parallel assignment, the heap perhaps grown since -/
theorem par_end {ds : List (D × Bool)} {vs : List V} {is : List Nat} (S : SR K H0 I0 A γ σ H) (p : PostS K H0 I0 A γ γ1 σ H H1 ds vs) (s : Same H1 H2) (e : setP is ds γ1 = some γ2) :
    SR K H0 I0 A γ2 (setV is vs σ) H2 ∧ Stp γ σ H γ2 (setV is vs σ) H2 ∧ vs.length = is.length := by
  obtain ⟨as, nd, hn, S1, fl⟩ := p.ex
  have st := p.st.trans (Stp.same (γ := γ1) (σ := σ) s)
  have fl2 : FrL K H2 ((A.or fun a => a ∈ as).or (pr γ1 σ)) ds vs as := by
    refine fl.later (fun b o h n => ⟨s b o h, n⟩) fun b hb => ?_
    cases h : H1 b with
    | none => exact absurd h (fl.mem b hb)
    | some o => exact s b o h
  obtain ⟨S2, p2, hl⟩ := par_set fl2 (fun b z => z) nd (fun b hb => ⟨fun z => S.dom b z (hn b hb), new_of S (hn b hb)⟩) (S1.same s) e
  refine ⟨S2, ⟨st.keep, fun b z => ?_, st.trk⟩, hl⟩
  rcases p2 b z with z | z
  · exact p.st.prv b z
  · exact .inr (hn b z)
theorem m_par0 {is : List Nat} {ts vs : List Expr} {k k2 : Nat} {p p2 : Pos} (c : CtxM C N Φ X) (hn : nmTs N X.env.scope is ts = true) (hl : is.length ≤ 20) (hw : swF X.env.scope ts vs = some none) (h : PA X vs (tS X.K Φ a)) :
    PS X (.Assign [.Tuple ts k p] (.Tuple vs k2 p2) pos) (tM X.K Φ n (.par false is a)) := by
  obtain ⟨h1, h2, h3⟩ := s_nms c is ts hn
  refine ps_imp (ps_asg (pe_tup h) (pg_tup (n := is.length) c.calm h1 h2 h3) swTup_of (swd_of c.kind hw) rfl) fun E σ H ⟨H0, I0, A, γ, o, e, S, q⟩ => ?_
  simp only [ex] at e
  split at e
  · rename_i ds γ1 e1
    simp only [Option.map_eq_some_iff] at e
    obtain ⟨γ2, e2, rfl⟩ := e
    refine ⟨H0, I0, A, γ, ds, γ1, e1, S, fun xs H1 p1 => ?_⟩
    have hxs := (par_end S p1 (Same.refl H1) e2).2.2
    refine ⟨?_, fun np hp => ?_⟩
    · rw [hxs]
      exact Nat.le_trans hl (by decide)
    · obtain ⟨S2, st2, _⟩ := par_end S p1 (same_new (o := .tup xs) hp) e2
      exact ⟨np, xs, rfl, SqT.of upd_same, hxs, hxs, q _ _ S2 st2⟩
  · cases e
theorem m_par2 {i j : Nat} {x y : Str} {u v : Expr} {px py p p2 : Pos} {k k2 : Nat} (c : CtxM C N Φ X) (hi : N[i]? = some x) (hj : N[j]? = some y) (hij : i ≠ j) (hx : lclB X.env.scope x = true) (hy : lclB X.env.scope y = true)
    (hw : swF X.env.scope [.Name x px, .Name y py] [u, v] = some (some [x, y])) (h : PA X [u, v] (tS X.K Φ a)) :
    PS X (.Assign [.Tuple [.Name x px, .Name y py] k p] (.Tuple [u, v] k2 p2) pos) (tM X.K Φ n (.par true [i, j] a)) := by
  refine ps_imp (ps_par (i := i) (j := j) c.calm c.nd (by rw [c.N]; exact hi) (by rw [c.N]; exact hj) hij (lcl_of hx) (lcl_of hy) h (swd_of c.kind hw) swTup_of) fun E σ H ⟨H0, I0, A, γ, o, e, S, q⟩ => ?_
  simp only [ex] at e
  split at e
  · rename_i ds γ1 e1
    simp only [Option.map_eq_some_iff] at e
    obtain ⟨γ2, e2, rfl⟩ := e
    refine ⟨H0, I0, A, γ, ds, γ1, e1, S, fun xs H1 p1 => ?_⟩
    obtain ⟨S2, st2, hl⟩ := par_end S p1 (Same.refl H1) e2
    match xs, hl with
    | [w1, w2], _ => exact ⟨w1, w2, rfl, q _ _ S2 st2⟩
  · cases e
theorem m_par3 {i j l : Nat} {x y z : Str} {u v w : Expr} {px py pz p p2 : Pos} {k k2 : Nat} (c : CtxM C N Φ X) (hi : N[i]? = some x) (hj : N[j]? = some y) (hl : N[l]? = some z) (hij : i ≠ j) (hil : i ≠ l) (hjl : j ≠ l)
    (hx : lclB X.env.scope x = true) (hy : lclB X.env.scope y = true) (hz : lclB X.env.scope z = true)
    (hw : swF X.env.scope [.Name x px, .Name y py, .Name z pz] [u, v, w] = some (some [x, y, z])) (h : PA X [u, v, w] (tS X.K Φ a)) :
    PS X (.Assign [.Tuple [.Name x px, .Name y py, .Name z pz] k p] (.Tuple [u, v, w] k2 p2) pos) (tM X.K Φ n (.par true [i, j, l] a)) := by
  refine ps_imp (ps_par3 (i := i) (j := j) (l := l) c.calm c.nd (by rw [c.N]; exact hi) (by rw [c.N]; exact hj) (by rw [c.N]; exact hl) hij hil hjl (lcl_of hx) (lcl_of hy) (lcl_of hz) h (swd_of c.kind hw) swTup_of) fun E σ H ⟨H0, I0, A, γ, o, e, S, q⟩ => ?_
  simp only [ex] at e
  split at e
  · rename_i ds γ1 e1
    simp only [Option.map_eq_some_iff] at e
    obtain ⟨γ2, e2, rfl⟩ := e
    refine ⟨H0, I0, A, γ, ds, γ1, e1, S, fun xs H1 p1 => ?_⟩
    obtain ⟨S2, st2, hl⟩ := par_end S p1 (Same.refl H1) e2
    match xs, hl with
    | [w1, w2, w3], _ => exact ⟨w1, w2, w3, rfl, q _ _ S2 st2⟩
  · cases e
theorem m_unp {t : Tg} {ts : List Expr} {k : Nat} {p : Pos} (c : CtxM C N Φ X) (hn : notTup l = true) (ht : PG X (.Tuple ts k p) (tT X.K t)) (he : PE X l (tE X.K Φ a)) : PS X (.Assign [.Tuple ts k p] l pos) (tM X.K Φ n (.unp t a)) := by
  refine ps_imp (ps_asg he ht swTup_of (swd_none hn) rfl) fun E σ H ⟨H0, I0, A, γ, o, e, S, q⟩ => ?_
  simp only [ex] at e
  split at e
  · rename_i d fr γ1 e1
    simp only [Option.map_eq_some_iff] at e
    obtain ⟨γ2, e2, rfl⟩ := e
    exact ⟨H0, I0, A, γ, d, fr, γ1, e1, S, fun v H1 p1 => ⟨H0, I0, A, γ1, d, γ2, e2, p1.sr, p1.rp, fun σ2 S2 p2 _ _ => q σ2 H1 S2 (p1.st.trans p2)⟩⟩
  · cases e
theorem set_int (S : SR K H0 I0 A γ σ H) {i : Nat} {z : Int} : SR K H0 I0 A (γ.set i (.val (.int z))) (σ.set i (some (.int z))) H ∧ Stp γ σ H (γ.set i (.val (.int z))) (σ.set i (some (.int z))) H :=
  ⟨S.setVal rfl, ⟨fun _ _ h _ => h, fun b z => .inl (pr_setVal b z), fun _ h => h⟩⟩
theorem iop_mulWz : OpR X (inplaceOp .Mult) (rI CMulW fun i j => .int (i * j)) := opI fun _ _ _ _ _ _ _ hc q => PyProof.Rows.imul_int q hc.ok
theorem m_aug {i : Nat} {p : Operator} {x : Str} {px : Pos} (c : CtxM C N Φ X) (hi : N[i]? = some x) (hx : locB X.env.scope x = true) (he : PE X l (tE X.K Φ a)) : PS X (.AugAssign (.Name x px) p l pos) (tM X.K Φ n (.aug i p a)) := by
  refine ⟨fun pins s σ H E I ⟨H0, I0, A, γ, o, e, S, q⟩ => ?_⟩
  simp only [ex] at e
  split at e
  · rename_i u hu
    split at e
    · rename_i y fr γ1 e1
      obtain ⟨w, hw, rw'⟩ := S.val i _ hu
      cases (show w = .int u from rw')
      have go : ∀ {ti : TIp} {z : Int}, PIp X p ti → (∀ H Q, Q (.int z) H → ti (.int u) (.int y) H Q) → o = .nx (γ1.set i (.val (.int z))) → wpAny (model X.prog X.w) X.A (exec (.AugAssign (.Name x px) p l pos) X.env) (SP X pins E) X.xe s := fun {ti z} hp ht eo => by
        subst eo
        refine (ps_aug (i := i) c.nd (by rw [c.N]; exact hi) (loc_of hx) he hp (.inl (c.fnT x))).run pins s σ H E I ⟨_, hw, H0, I0, A, γ, _, _, _, e1, S, fun v H1 p1 => ?_⟩
        rw [show v = .int y from p1.rp]
        refine ht H1 _ ?_
        obtain ⟨S2, st2⟩ := set_int (i := i) (z := z) p1.sr
        exact q _ _ S2 (p1.st.trans st2)
      split at e
      · cases e
        exact go ip_add (fun H Q h => ⟨u, y, rfl, rfl, h⟩) rfl
      · cases e
        exact go ip_sub (fun H Q h => ⟨u, y, rfl, rfl, h⟩) rfl
      · simp only [Option.ite_none_right_eq_some, Option.some.injEq] at e
        obtain ⟨hm, rfl⟩ := e
        rcases hm with hm | hm
        · exact go (ti := rI CMul fun i j => .int (i * j)) (fun pins s σ H x y v u Q => iop_mul pins s σ H x y v u Q) (fun H Q h => ⟨u, y, rfl, rfl, hm, h⟩) rfl
        · exact go (ti := rI CMulW fun i j => .int (i * j)) (fun pins s σ H x y v u Q => iop_mulWz pins s σ H x y v u Q) (fun H Q h => ⟨u, y, rfl, rfl, hm, h⟩) rfl
      · cases e
    · cases e
  · cases e
theorem m_six {i : Nat} {k : Ex} {x : Str} {px sp : Pos} (c : CtxM C N Φ X) (hx : varB N X.env.scope i x = true) (hs : notSlice r = true) (hk : PE X r (tE X.K Φ k)) (he : PE X l (tE X.K Φ a)) :
    PS X (.Assign [.Subscript (.Name x px) r sp] l pos) (tM X.K Φ n (.six i k a)) := by
  refine ps_imp (ps_asg he (pg_sub (var_of c.toCtx hx px) hk set_list fun v => ?_) swSub_of swdSub_none rfl) fun E σ H ⟨H0, I0, A, γ, o, e, S, q⟩ => ?_
  · cases r <;> first | rfl | cases hs
  simp only [ex] at e
  split at e
  · rename_i y f1 γ1 e1
    split at e
    · rename_i t0 ht0
      split at e
      · rename_i j f2 γ2 e2
        split at e
        · rename_i xs hxs
          split at e
          · rename_i m hm
            cases e
            refine ⟨H0, I0, A, γ, _, _, _, e1, S, fun v H1 p1 => ?_⟩
            obtain ⟨p, hp, _⟩ := own_get p1.sr ht0
            refine ⟨.ref p, hp, H0, I0, A, γ1, _, _, _, e2, p1.sr, fun w H2 p2 => ?_⟩
            obtain ⟨p', hp', o⟩ := own_get p2.sr hxs
            rw [hp] at hp'
            cases hp'
            obtain ⟨vs, hv, rv⟩ := o.lst
            obtain ⟨S3, st3⟩ := p2.sr.wrLst hxs hp (rv.set m (p1.rp.later p2.st))
            exact ⟨p, vs, j, m, rfl, p2.rp, hv, by rw [rv.len]; exact hm, q _ _ S3 ((p1.st.trans p2.st).trans st3)⟩
          · cases e
        · cases e
      · cases e
    · cases e
  · cases e
theorem m_app {i : Nat} {x : Str} {px ap cp : Pos} (c : CtxM C N Φ X) (hx : varB N X.env.scope i x = true) (hl : (ap.endLine == cp.line) = true) (hs : notStar l = true) (ha : PE X l (tE X.K Φ a)) :
    PS X (.Expr (.Call (.Attribute (.Name x px) "append" ap) [l] [] cp) pos) (tM X.K Φ n (.app i a)) := by
  refine ps_imp (ps_expr (pe_bm PySem.F.plainAttrs_list PySem.F.slot_list_append PySem.F.type_list_append mt_append (var_of c.toCtx hx px) (pa_cons ha pa_nil (star_of hs _ _)) mtd_list (few_of hs) hl (star_of hs _ _) rfl)) fun E σ H ⟨H0, I0, A, γ, o, e, S, q⟩ => ?_
  simp only [ex] at e
  split at e
  · rename_i xs0 hxs0
    split at e
    · rename_i y f1 γ1 e1
      split at e
      · rename_i xs hxs
        simp only [Option.ite_none_right_eq_some, Option.some.injEq] at e
        obtain ⟨hz, rfl⟩ := e
        obtain ⟨p, hp, o0⟩ := own_get S hxs0
        obtain ⟨vs0, hv0, r0⟩ := o0.lst
        refine ⟨.ref p, hp, .inl ⟨rfl, vs0, SqL.of hv0⟩, H0, I0, A, γ, _, _, _, e1, S, fun u H1 p1 => ?_⟩
        obtain ⟨p', hp', o⟩ := own_get p1.sr hxs
        rw [hp] at hp'
        cases hp'
        obtain ⟨vs, hv, rv⟩ := o.lst
        obtain ⟨S2, st2⟩ := p1.sr.wrLst hxs hp (rv.app (RpL.one p1.rp))
        exact ⟨p, vs, u, rfl, rfl, hv, by rw [rv.len]; exact hz, q _ _ S2 (p1.st.trans st2)⟩
      · cases e
    · cases e
  · cases e
theorem m_ext {i : Nat} {x : Str} {px ap cp : Pos} (c : CtxM C N Φ X) (hx : varB N X.env.scope i x = true) (hl : (ap.endLine == cp.line) = true) (hs : notStar l = true) (ha : PE X l (tE X.K Φ a)) :
    PS X (.Expr (.Call (.Attribute (.Name x px) "extend" ap) [l] [] cp) pos) (tM X.K Φ n (.ext i a)) := by
  refine ps_imp (ps_expr (pe_bm PySem.F.plainAttrs_list PySem.F.slot_list_extend PySem.F.type_list_extend mt_extend (var_of c.toCtx hx px) (pa_cons ha pa_nil (star_of hs _ _)) mtd_list (few_of hs) hl (star_of hs _ _) rfl)) fun E σ H ⟨H0, I0, A, γ, o, e, S, q⟩ => ?_
  simp only [ex] at e
  split at e
  · rename_i xs0 hxs0
    split at e
    · rename_i ys f1 γ1 e1
      split at e
      · rename_i xs hxs
        simp only [Option.ite_none_right_eq_some, Option.some.injEq] at e
        obtain ⟨hz, rfl⟩ := e
        obtain ⟨p, hp, o0⟩ := own_get S hxs0
        obtain ⟨vs0, hv0, r0⟩ := o0.lst
        refine ⟨.ref p, hp, .inl ⟨rfl, vs0, SqL.of hv0⟩, H0, I0, A, γ, _, _, _, e1, S, fun u H1 p1 => ?_⟩
        obtain ⟨p', hp', o⟩ := own_get p1.sr hxs
        rw [hp] at hp'
        cases hp'
        obtain ⟨vs, hv, rv⟩ := o.lst
        obtain ⟨b, ws, rfl, hb, rb⟩ := p1.rp
        obtain ⟨S2, st2⟩ := p1.sr.wrLst hxs hp (rv.app rb)
        exact ⟨p, b, vs, ws, rfl, rfl, hv, hb.1, by rw [rv.len, rb.len]; exact hz, q _ _ S2 (p1.st.trans st2)⟩
      · cases e
    · cases e
  · cases e
theorem m_drop (hn : notComp l = true) (ha : PE X l (tE X.K Φ a)) : PS X (.Expr l pos) (tM X.K Φ n (.drop a)) := by
  refine ps_imp (ps_expr ha (swNone_of hn)) fun E σ H ⟨H0, I0, A, γ, o, e, S, q⟩ => ?_
  simp only [ex] at e
  split at e
  · rename_i y γ1 e1
    cases e
    obtain ⟨d, fr⟩ := y
    exact ⟨H0, I0, A, γ, _, _, _, e1, S, fun u H1 p1 => q _ _ p1.sr p1.st⟩
  · cases e
theorem m_if {k : Ex} {s1 s2 : Sm} {x y : List Stmt} (hc : PT X l (tCo X.K Φ k)) (h1 : PSs X x (tM X.K Φ n s1)) (h2 : PSs X y (tM X.K Φ n s2)) : PS X (.If l x y pos) (tM X.K Φ n (.iff k s1 s2)) := by
  refine ps_imp (ps_if hc h1 h2) fun E σ H ⟨H0, I0, A, γ, o, e, S, q⟩ => ?_
  simp only [ex] at e
  split at e
  · rename_i γ1 e1
    refine ⟨H0, I0, A, γ, _, _, e1, S, fun H1 S1 p1 => ?_⟩
    exact iteT ⟨H0, I0, A, γ1, o, e, S1, q.after p1⟩
  · rename_i γ1 e1
    refine ⟨H0, I0, A, γ, _, _, e1, S, fun H1 S1 p1 => ?_⟩
    exact iteF ⟨H0, I0, A, γ1, o, e, S1, q.after p1⟩
  · cases e
theorem m_ret (ha : PE X l (tE X.K Φ a)) : PS X (.Return (some l) pos) (tM X.K Φ n (.ret a)) := by
  refine ps_imp (ps_ret ha) fun E σ H ⟨H0, I0, A, γ, o, e, S, q⟩ => ?_
  simp only [ex] at e
  split at e
  · rename_i d fr γ1 e1
    cases e
    refine ⟨H0, I0, A, γ, _, _, _, e1, S, fun u H1 p1 => q u σ H1 p1.sr ?_⟩
    cases fr with
    | false => exact p1.rp
    | true =>
      obtain ⟨p, rfl, hn, ho, _⟩ := p1.fr rfl
      exact ⟨p, rfl, new_of S hn, ho.kp (.less fun b z => .inl z) rfl⟩
  · cases e
theorem m_reto {i : Nat} {x : Str} {px : Pos} (c : CtxM C N Φ X) (hx : varB N X.env.scope i x = true) : PS X (.Return (some (.Name x px)) pos) (tM X.K Φ n (.reto i)) := by
  refine ps_imp (ps_ret (var_of c.toCtx hx px)) fun E σ H ⟨H0, I0, A, γ, o, e, S, q⟩ => ?_
  simp only [ex] at e
  split at e
  · rename_i d hd
    cases e
    obtain ⟨p, hp, o, np, np2⟩ := S.own i d hd
    refine ⟨.ref p, hp, q _ σ H S ⟨p, rfl, np2, o.kp (.less fun b z => Or.elim z .inl fun z => .inr ⟨i, d, hd, by rw [show b = p from z]; exact hp⟩) rfl⟩⟩
  · rename_i d hd
    cases e
    obtain ⟨v, hv, rv⟩ := S.val i d hd
    exact ⟨v, hv, q _ σ H S rv⟩
  · cases e
theorem m_retn : PS X (.Return none pos) (tM X.K Φ n .retn) := by
  refine ps_imp ps_retN fun E σ H ⟨H0, I0, A, γ, o, e, S, q⟩ => ?_
  have e : some (Out.rt .non false γ) = some o := by simpa only [ex] using e
  cases e
  exact q _ σ H S rfl
theorem m_brk : PS X (.Break pos) (tM X.K Φ n .brk) := by
  refine ps_imp ps_break fun E σ H ⟨H0, I0, A, γ, o, e, S, q⟩ => ?_
  have e : some (Out.bk γ) = some o := by simpa only [ex] using e
  cases e
  exact q σ H S .refl
theorem m_cnt : PS X (.Continue pos) (tM X.K Φ n .cnt) := by
  refine ps_imp ps_continue fun E σ H ⟨H0, I0, A, γ, o, e, S, q⟩ => ?_
  have e : some (Out.ct γ) = some o := by simpa only [ex] using e
  cases e
  exact q σ H S .refl
theorem m_pass : PS X (.Pass pos) (tM X.K Φ n .pass) := by
  refine ps_imp ps_pass fun E σ H ⟨H0, I0, A, γ, o, e, S, q⟩ => ?_
  have e : some (Out.nx γ) = some o := by simpa only [ex] using e
  cases e
  exact q σ H S .refl
theorem m_nil : PSs X [] (tM X.K Φ n .nil) := by
  refine pss_imp pss_nil fun E σ H ⟨H0, I0, A, γ, o, e, S, q⟩ => ?_
  have e : some (Out.nx γ) = some o := by simpa only [ex] using e
  cases e
  exact q σ H S .refl
theorem m_cons {s1 s2 : Sm} {st : Stmt} {rest : List Stmt} (h1 : PS X st (tM X.K Φ n s1)) (h2 : PSs X rest (tM X.K Φ n s2)) : PSs X (st :: rest) (tM X.K Φ n (.cons s1 s2)) := by
  refine pss_imp (pss_cons h1 h2) fun E σ H ⟨H0, I0, A, γ, o, e, S, q⟩ => ?_
  simp only [ex] at e
  cases e1 : ex Φ n s1 γ with
  | none => rw [e1] at e; cases e
  | some o1 =>
    rw [e1] at e
    refine ⟨H0, I0, A, γ, o1, e1, S, ?_⟩
    cases o1 with
    | nx γ1 => exact fun σ1 H1 S1 p1 => ⟨H0, I0, A, γ1, o, e, S1, q.after p1⟩
    | ct γ1 => cases e; exact q
    | bk γ1 => cases e; exact q
    | rt d fr γ1 => cases e; exact q

/-! ### loops -/
theorem wipeE_stp (γ : Env) (w : List Nat) : Stp γ σ H (wipeE γ w) σ H := .weak (wipeE_len γ w) (wipeE_weak w)
theorem SR.wipe (S : SR K H0 I0 A γ σ H) (w : List Nat) : SR K H0 I0 A (wipeE γ w) σ H := S.weak (wipeE_len γ w) (wipeE_weak w)
theorem m_while {k : Ex} {s1 : Sm} {w : List Nat} {body : List Stmt} (c : CtxM C N Φ X) (hc : PT X l (tCo X.K Φ k)) (hb : PSs X body (tM X.K Φ n s1)) : PS X (.While l body [] pos) (tM X.K Φ n (.whl k s1 w)) := by
  refine ps_imp (ps_while c.pass hc hb) fun E σ H ⟨H0, I0, A, γ, o, e, S, q⟩ => ?_
  simp only [ex] at e
  refine ⟨fun m σ1 H1 => ∃ γ1, whRun (evC Φ k) (ex Φ n s1) w m γ1 = some o ∧ SR X.K H0 I0 A γ1 σ1 H1 ∧ Stp γ σ H γ1 σ1 H1, ⟨n, wipeE γ w, e, S.wipe w, wipeE_stp γ w⟩, fun m σ1 H1 ⟨γ1, er, S1, p1⟩ => ?_⟩
  cases m with
  | zero => cases er
  | succ m =>
    simp only [whRun] at er
    split at er
    · rename_i γ2 e2
      cases er
      exact ⟨H0, I0, A, γ1, _, _, e2, S1, fun H2 S2 p2 => iteF (q _ _ S2 (p1.trans p2))⟩
    · rename_i γ2 e2
      refine ⟨H0, I0, A, γ1, _, _, e2, S1, fun H2 S2 p2 => iteT ⟨fun σ' H' => ∃ γ1, whRun (evC Φ k) (ex Φ n s1) w m γ1 = some o ∧ SR X.K H0 I0 A γ1 σ' H' ∧ Stp γ σ H γ1 σ' H', fun σ' H' h => ⟨m, Nat.lt_succ_self m, h⟩, ?_⟩⟩
      have p12 := p1.trans p2
      split at er
      · rename_i γ3 e3
        exact ⟨H0, I0, A, γ2, _, e3, S2, fun σ' H' S3 p3 => ⟨_, er, S3.wipe w, (p12.trans p3).trans (wipeE_stp γ3 w)⟩⟩
      · rename_i γ3 e3
        exact ⟨H0, I0, A, γ2, _, e3, S2, fun σ' H' S3 p3 => ⟨_, er, S3.wipe w, (p12.trans p3).trans (wipeE_stp γ3 w)⟩⟩
      · rename_i γ3 e3
        cases er
        exact ⟨H0, I0, A, γ2, _, e3, S2, fun σ' H' S3 p3 => q _ _ (S3.wipe w) ((p12.trans p3).trans (wipeE_stp γ3 w))⟩
      · rename_i d fr γ3 e3
        cases er
        exact ⟨H0, I0, A, γ2, _, e3, S2, q⟩
      · cases er
    · cases er
theorem m_for {t : Tg} {it : Ex} {s1 : Sm} {w : List Nat} {tg iter : Expr} {body : List Stmt} (c : CtxM C N Φ X) (hi : PI X tg iter (tI X.K Φ it)) (hg : PG X tg (tT X.K t)) (hb : PSs X body (tM X.K Φ n s1)) (hs : notSet iter = true) :
    PS X (.For tg iter body [] pos) (tM X.K Φ n (.foR t it s1 w)) := by
  refine ps_imp (ps_for c.pass c.calm hi hg hb (fold_of hs)) fun E σ H ⟨H0, I0, A, γ, o, e, S, q⟩ => ?_
  simp only [ex] at e
  split at e
  · rename_i xs γ1 e1
    refine ⟨H0, I0, A, γ, xs, γ1, e1, S, fun J H1 G S1 p1 W g1 => ?_⟩
    refine ⟨fun i m σ' H' => m = xs.length - i ∧ i ≤ xs.length ∧ ∃ γc, forRun (fun x γ => match bindT t x γ with
        | some γ2 => ex Φ n s1 γ2
        | none => none) w (xs.drop i) γc = some o ∧ SR X.K H0 I0 A γc σ' H' ∧ Stp γ σ H γc σ' H' ∧ G (A.or (pr γc σ')) H', ⟨xs.length, by simp, Nat.zero_le _, wipeE γ1 w, e, S1.wipe w, p1.trans (wipeE_stp γ1 w), W.mono _ _ _ _ g1 (wipeE_stp (H := H1) γ1 w).kp⟩, ?_⟩
    rintro i m σ1 H2 ⟨rfl, hle, γc, er, S2, p2, g2⟩
    by_cases hlt : i < xs.length
    · refine .inr ⟨W.goes i _ H2 hlt g2, fun σ' H' => i + 1 ≤ xs.length ∧ ∃ γc, forRun (fun x γ => match bindT t x γ with
          | some γ2 => ex Φ n s1 γ2
          | none => none) w (xs.drop (i + 1)) γc = some o ∧ SR X.K H0 I0 A γc σ' H' ∧ Stp γ σ H γc σ' H' ∧ G (A.or (pr γc σ')) H', fun σ' H' h => ⟨xs.length - (i + 1), by omega, rfl, h⟩, fun v H3 hy => ?_⟩
      obtain ⟨d, hd, s3, r3⟩ := W.yields i _ H2 v H3 hlt g2 S2.domB hy
      have ed : xs.drop i = d :: xs.drop (i + 1) := by
        obtain ⟨_, e⟩ := List.getElem?_eq_some_iff.mp hd
        rw [← e]
        exact List.drop_eq_getElem_cons hlt
      rw [ed] at er
      unfold forRun at er
      have p3 : Stp γc σ1 H2 γc σ1 H3 := .same s3
      cases hbt : bindT t d γc with
      | none => rw [hbt] at er; cases er
      | some γb =>
        rw [hbt] at er
        refine ⟨H0, I0, A, γc, d, γb, hbt, S2.same s3, r3, fun σ2 Sb pb _ _ => ?_⟩
        have pb' := p3.trans pb
        simp only at er
        cases ho : ex Φ n s1 γb with
        | none => rw [ho] at er; cases er
        | some ob =>
          rw [ho] at er
          refine ⟨H0, I0, A, γb, ob, ho, Sb, ?_⟩
          have again : ∀ γ3, forRun (fun x γ => match bindT t x γ with
              | some γ2 => ex Φ n s1 γ2
              | none => none) w (xs.drop (i + 1)) (wipeE γ3 w) = some o → ∀ σ' H', SR X.K H0 I0 A γ3 σ' H' → Stp γb σ2 H3 γ3 σ' H' → i + 1 ≤ xs.length ∧ ∃ γc, forRun (fun x γ => match bindT t x γ with
                | some γ2 => ex Φ n s1 γ2
                | none => none) w (xs.drop (i + 1)) γc = some o ∧ SR X.K H0 I0 A γc σ' H' ∧ Stp γ σ H γc σ' H' ∧ G (A.or (pr γc σ')) H' := fun γ3 er σ' H' S3 p4 => by
            have p5 := (pb'.trans p4).trans (wipeE_stp γ3 w)
            exact ⟨hlt, _, er, S3.wipe w, p2.trans p5, W.mono _ _ _ _ g2 p5.kp⟩
          cases ob with
          | nx γ3 => exact again γ3 er
          | ct γ3 => exact again γ3 er
          | bk γ3 =>
            cases er
            exact fun σ' H' S3 p4 => q _ _ (S3.wipe w) ((p2.trans (pb'.trans p4)).trans (wipeE_stp γ3 w))
          | rt d' fr γ3 =>
            cases er
            exact q
    · have ei : i = xs.length := by omega
      subst ei
      rw [List.drop_length] at er
      have er : some (Out.nx γc) = some o := er
      cases er
      exact .inl ⟨W.stops _ H2 g2, q _ _ S2 p2⟩
  · cases e
end
end Z
namespace Z
open PySem PySem.Spec L2
section
variable {C : Cst} {N : List Str} {Φ : Tab} {n : Nat}
theorem getD_get {N : List Str} {i : Nat} {x : Str} (h : N[i]? = some x) : N.getD i "" = x := by
  rw [List.getD_eq_getElem?_getD, h]
  rfl
theorem nmTs_nil {sc : Scope} {is : List Nat} (h : nmTs N sc is [] = true) : is = [] := by
  cases is with
  | nil => rfl
  | cons _ _ => simp [nmTs] at h
theorem nmTs_cons {sc : Scope} {is : List Nat} {e : Expr} {es : List Expr} (h : nmTs N sc is (e :: es) = true) : ∃ i js x px, is = i :: js ∧ e = .Name x px ∧ N[i]? = some x ∧ nmTs N sc js es = true := by
  cases is with
  | nil => simp [nmTs] at h
  | cons i js =>
    cases e <;> simp only [nmTs, Bool.and_eq_true, decide_eq_true_eq, reduceCtorEq] at h
    exact ⟨i, js, _, _, rfl, rfl, h.1.1, h.2⟩
set_option maxHeartbeats 400000 in
mutual
theorem sM : ∀ (ir : Sm) {X : Cx} (c : CtxM C N Φ X) (st : Stmt), chkM C N X.env.scope ir st = true → PS X st (tM X.K Φ n ir)
  | .asg i e, X, c, st, h => by
    simp only [chkM] at h
    split at h
    · simp only [Bool.and_eq_true, decide_eq_true_eq, Bool.not_eq_true'] at h
      obtain ⟨⟨⟨h1, h2⟩, h3⟩, h4⟩ := h
      exact m_asg c h1 h2 h3 (sE e c.toCtx _ h4)
    · cases h
  | .asl i e, X, c, st, h => by
    simp only [chkM] at h
    split at h
    · rename_i x px elt tg iter ifs ia scope pos p2
      split at h
      · rename_i own t it cnd el
        simp only [Bool.and_eq_true, decide_eq_true_eq] at h
        obtain ⟨⟨⟨h1, h2⟩, h3⟩, h4⟩ := h
        simp only [chkE, Bool.and_eq_true, decide_eq_true_eq] at h4
        obtain ⟨⟨⟨⟨⟨⟨⟨rfl, k1⟩, k2⟩, k3⟩, k4⟩, k5⟩, k6⟩, k7⟩ := h4
        have c' := c.toCtx
        refine m_asl c h1 h2 h3 (sI it c' tg iter k5) (by rw [c.N]; exact blkOk_by k1) (fun s H D cl fp => ?_) (fun s H D cl fp => ?_) (fun s H D cl fp => sE el (c'.blk s H scope _ fp) elt k7) (fold_of (chkI_notSet it iter k5)) fun j hj => by simpa using List.all_eq_true.mp k3 j hj
        · exact s_tg (fnB := fun x => scope.names.lookup x == some .cell) (c'.blk s H scope _ fp) (fun x hx => hx) t tg k4
        · cases ifs with
          | nil =>
            have e : cnd = .nil := by cases cnd <;> first | rfl | cases k6
            rw [e]
            exact ptsc_nil
          | cons x r =>
            cases r with
            | nil => exact pts_one (sC cnd (c'.blk s H scope _ fp) x k6)
            | cons _ _ => cases k6
      · cases h
    · cases h
  | .par sw is as, X, c, st, h => by
    simp only [chkM] at h
    split at h
    · rename_i ts k1 p1 vs k2 p2 p3
      simp only [Bool.and_eq_true, decide_eq_true_eq] at h
      obtain ⟨⟨⟨⟨h1, h2⟩, h3⟩, h4⟩, h5⟩ := h
      have hs := sS as c.toCtx vs h4
      cases sw with
      | false =>
        simp only [Bool.and_eq_true, decide_eq_true_eq] at h5
        exact m_par0 c h1 h3 h5.1 hs
      | true =>
        simp only [Bool.and_eq_true, decide_eq_true_eq, Bool.or_eq_true, beq_iff_eq] at h5
        obtain ⟨⟨⟨h6, h7⟩, h8⟩, h9⟩ := h5
        have lc : ∀ i ∈ is, lclB X.env.scope (N.getD i "") = true := fun i hi => by simpa using List.all_eq_true.mp h9 i hi
        rcases h6 with h6 | h6
        · match is, vs, h6, h7 with
          | [i, j], [u, v], _, _ =>
            match ts, h1 with
            | [], h1 => exact absurd (nmTs_nil h1) (by simp)
            | e1 :: ts, h1 =>
              obtain ⟨i', js, x, px, e, rfl, hx, h1⟩ := nmTs_cons h1
              cases e
              match ts, h1 with
              | [], h1 => exact absurd (nmTs_nil h1) (by simp)
              | e2 :: ts, h1 =>
                obtain ⟨j', ks, y, py, e, rfl, hy, h1⟩ := nmTs_cons h1
                cases e
                match ts, h1 with
                | _ :: _, h1 => obtain ⟨_, _, _, _, e, _⟩ := nmTs_cons h1; cases e
                | [], _ =>
                  have l1 := lc i (by simp)
                  have l2 := lc j (by simp)
                  simp only [List.map_cons, List.map_nil] at h8
                  rw [getD_get hx] at l1 h8
                  rw [getD_get hy] at l2 h8
                  exact m_par2 c hx hy (by simp at h2; exact h2) l1 l2 h8 hs
        · match is, vs, h6, h7 with
          | [i, j, l], [u, v, w], _, _ =>
            match ts, h1 with
            | [], h1 => exact absurd (nmTs_nil h1) (by simp)
            | e1 :: ts, h1 =>
              obtain ⟨i', js, x, px, e, rfl, hx, h1⟩ := nmTs_cons h1
              cases e
              match ts, h1 with
              | [], h1 => exact absurd (nmTs_nil h1) (by simp)
              | e2 :: ts, h1 =>
                obtain ⟨j', ks, y, py, e, rfl, hy, h1⟩ := nmTs_cons h1
                cases e
                match ts, h1 with
                | [], h1 => exact absurd (nmTs_nil h1) (by simp)
                | e3 :: ts, h1 =>
                  obtain ⟨l', ls, z, pz, e, rfl, hz, h1⟩ := nmTs_cons h1
                  cases e
                  match ts, h1 with
                  | _ :: _, h1 => obtain ⟨_, _, _, _, e, _⟩ := nmTs_cons h1; cases e
                  | [], _ =>
                    have l1 := lc i (by simp)
                    have l2 := lc j (by simp)
                    have l3 := lc l (by simp)
                    simp only [List.map_cons, List.map_nil] at h8
                    rw [getD_get hx] at l1 h8
                    rw [getD_get hy] at l2 h8
                    rw [getD_get hz] at l3 h8
                    simp at h2
                    exact m_par3 c hx hy hz h2.1.1 h2.1.2 h2.2 l1 l2 l3 h8 hs
    · cases h
  | .unp t e, X, c, st, h => by
    simp only [chkM] at h
    split at h
    · simp only [Bool.and_eq_true] at h
      exact m_unp c h.1.1 (s_tg c.toCtx (fun x _ => c.fnT x) t _ h.1.2) (sE e c.toCtx _ h.2)
    · cases h
  | .aug i p e, X, c, st, h => by
    simp only [chkM] at h
    split at h
    · simp only [Bool.and_eq_true, decide_eq_true_eq] at h
      obtain ⟨⟨⟨rfl, h1⟩, h2⟩, h3⟩ := h
      exact m_aug c h1 h2 (sE e c.toCtx _ h3)
    · cases h
  | .six i k e, X, c, st, h => by
    simp only [chkM] at h
    split at h
    · simp only [Bool.and_eq_true] at h
      obtain ⟨⟨⟨h1, h2⟩, h3⟩, h4⟩ := h
      exact m_six c h1 h2 (sE k c.toCtx _ h3) (sE e c.toCtx _ h4)
    · cases h
  | .app i e, X, c, st, h => by
    simp only [chkM] at h
    split at h
    · simp only [Bool.and_eq_true, decide_eq_true_eq] at h
      obtain ⟨⟨⟨⟨rfl, h1⟩, h2⟩, h3⟩, h4⟩ := h
      exact m_app c h1 h2 h3 (sE e c.toCtx _ h4)
    · cases h
  | .ext i e, X, c, st, h => by
    simp only [chkM] at h
    split at h
    · simp only [Bool.and_eq_true, decide_eq_true_eq] at h
      obtain ⟨⟨⟨⟨rfl, h1⟩, h2⟩, h3⟩, h4⟩ := h
      exact m_ext c h1 h2 h3 (sE e c.toCtx _ h4)
    · cases h
  | .drop e, X, c, st, h => by
    simp only [chkM] at h
    split at h
    · simp only [Bool.and_eq_true] at h
      exact m_drop h.1 (sE e c.toCtx _ h.2)
    · cases h
  | .iff k a b, X, c, st, h => by
    simp only [chkM] at h
    split at h
    · simp only [Bool.and_eq_true] at h
      exact m_if (sC k c.toCtx _ h.1.1) (sMs a c _ h.1.2) (sMs b c _ h.2)
    · cases h
  | .whl k b w, X, c, st, h => by
    simp only [chkM] at h
    split at h
    · simp only [Bool.and_eq_true] at h
      exact m_while c (sC k c.toCtx _ h.1) (sMs b c _ h.2)
    · cases h
  | .foR t it b w, X, c, st, h => by
    simp only [chkM] at h
    split at h
    · simp only [Bool.and_eq_true] at h
      exact m_for c (sI it c.toCtx _ _ h.1.2) (s_tg c.toCtx (fun x _ => c.fnT x) t _ h.1.1) (sMs b c _ h.2) (chkI_notSet it _ h.1.2)
    · cases h
  | .ret e, X, c, st, h => by
    simp only [chkM] at h
    split at h
    · exact m_ret (sE e c.toCtx _ h)
    · cases h
  | .reto i, X, c, st, h => by
    simp only [chkM] at h
    split at h
    · exact m_reto c h
    · cases h
  | .retn, X, c, st, h => by
    simp only [chkM] at h
    split at h
    · exact m_retn
    · cases h
  | .brk, X, c, st, h => by
    simp only [chkM] at h
    split at h
    · exact m_brk
    · cases h
  | .cnt, X, c, st, h => by
    simp only [chkM] at h
    split at h
    · exact m_cnt
    · cases h
  | .pass, X, c, st, h => by
    simp only [chkM] at h
    split at h
    · exact m_pass
    · cases h
  | .nil, X, c, st, h => by simp only [chkM] at h; cases h
  | .cons _ _, X, c, st, h => by simp only [chkM] at h; cases h
theorem sMs : ∀ (ir : Sm) {X : Cx} (c : CtxM C N Φ X) (sts : List Stmt), chkMs C N X.env.scope ir sts = true → PSs X sts (tM X.K Φ n ir)
  | .nil, X, c, sts, h => by
    simp only [chkMs] at h
    split at h
    · exact m_nil
    · cases h
  | .cons a r, X, c, sts, h => by
    simp only [chkMs] at h
    split at h
    · simp only [Bool.and_eq_true] at h
      exact m_cons (sM a c _ h.1) (sMs r c _ h.2)
    · cases h
  | .asg _ _, _, _, _, h | .asl _ _, _, _, _, h | .par _ _ _, _, _, _, h | .unp _ _, _, _, _, h | .aug _ _ _, _, _, _, h | .six _ _ _, _, _, _, h | .app _ _, _, _, _, h | .ext _ _, _, _, _, h => by simp only [chkMs] at h; cases h
  | .drop _, _, _, _, h | .iff _ _ _, _, _, _, h | .whl _ _ _, _, _, _, h | .foR _ _ _ _, _, _, _, h | .ret _, _, _, _, h | .reto _, _, _, _, h | .retn, _, _, _, h | .brk, _, _, _, h | .cnt, _, _, _, h | .pass, _, _, _, h => by simp only [chkMs] at h; cases h
end
end

/-! ### defs -/
section
variable {P : Program} {w : World} {K : PySem.W.Frag} {mg : Str → Option Value} {base : Heap}
/-- a def that stands ready at level k -/
def FnB (P : Program) (w : World) (K : PySem.W.Frag) (mg : Str → Option Value) (base : Heap) (k : Nat) (nm : Str) (sp : Sp) : Prop :=
  ∃ (f : Addr) (fd : FuncData) (ps : List Str), FnOk P w K mg base CX0 k f fd ps sp ∧ mg nm = some (.ref f) ∧ PySem.W.keepIn K (.ref f) = true ∧ L2.Binds K fd ps []
structure CtxB (C : Cst) (Φ : Tab) (P : Program) (w : World) (K : PySem.W.Frag) (mg : Str → Option Value) (base : Heap) (k : Nat) : Prop where
  fn : ∀ j ds r, Φ.fn j ds = some r → FnB P w K mg base k (C.nm j) (spF K (Φ.fn j))
  io : ∀ j t ds r, Φ.io j t ds = some r → FnB P w K mg base k (C.nm j) (spM K (Φ.io j))
  blt : ∀ x, C.blt.contains x = true → mg x = none
  gc : ∀ x d, (x, d) ∈ C.gc → ∃ u v, mg x = some u ∧ RelV v u ∧ ∀ H B, Rp K H B d v
theorem FnB.mono {j k : Nat} {nm : Str} {sp : Sp} (h : FnB P w K mg base j nm sp) (l : j ≤ k) : FnB P w K mg base k nm sp := let ⟨f, fd, ps, F, a, b, c⟩ := h; ⟨f, fd, ps, F.mono l, a, b, c⟩
theorem start_ne (N : List Str) (vs : List V) (i : Nat) (hi : i < vs.length) : (L2.start N vs)[i]? = vs[i]?.map some := by
  unfold L2.start
  rw [List.getElem?_append_left (by simpa using hi), List.getElem?_map]
theorem start0_get {m : Nat} {ds : List D} {i : Nat} {x : Slot} (h : (start0 m ds)[i]? = some x) : (∃ d, ds[i]? = some d ∧ x = .val d) ∨ x = .no := by
  unfold start0 at h
  by_cases hi : i < ds.length
  · rw [List.getElem?_append_left (by simpa using hi), List.getElem?_map, List.getElem?_eq_getElem hi] at h
    cases h
    exact .inl ⟨_, List.getElem?_eq_getElem hi, rfl⟩
  · rw [List.getElem?_append_right (by simpa using hi), List.getElem?_replicate] at h
    split at h
    · cases h; exact .inr rfl
    · cases h
theorem sr_start {N : List Str} {B : AS} {H : Hp} {ds : List D} {vs : List V} (r : RpL K H B ds vs) (dB : Dom B H) (hl : ds.length ≤ N.length) : SR K H (fun _ => False) B (start0 N.length ds) (L2.start N vs) H := by
  have np : ∀ a, ¬ pr (start0 N.length ds) (L2.start N vs) a := fun a ⟨i, d, h, _⟩ => by
    rcases start0_get h with ⟨_, _, e⟩ | e <;> cases e
  refine ⟨?_, fun i d h => ?_, fun i d h => ?_, fun i j d e a h => ?_, fun _ _ h _ => h, dB, fun d a h => ?_⟩
  · unfold L2.start start0
    rw [List.length_append, List.length_append, List.length_map, List.length_map, List.length_replicate, List.length_replicate, r.len]
  · rcases start0_get h with ⟨d', e, q⟩ | q
    · cases q
      obtain ⟨v, hv, rv⟩ := r.get e
      refine ⟨v, ?_, rv.kp (.less fun a z => Or.elim z id fun z => absurd z (np a))⟩
      rw [start_ne N vs i (List.getElem?_eq_some_iff.mp hv).1, hv]
      rfl
    · cases q
  · rcases start0_get h with ⟨_, _, e⟩ | e <;> cases e
  · rcases start0_get h with ⟨_, _, e⟩ | e <;> cases e
  · rcases start0_get h with ⟨_, _, e⟩ | e <;> cases e
theorem ctx_of {C : Cst} {Φ : Tab} {k : Nat} {N ps : List Str} {qual : Str} {sc : Scope} {f : Addr} {cdv : Value} {A : Around} {outer : List PySem.Env} {s : Shared} {H : Hp} {E : XK} (c : CtxB C Φ P w K mg base k) (S : FnScope N ps sc)
    (hr : Room k (A.deeper (PyProof.Rows.envOfC qual sc s.heap.objs.size f cdv))) : CtxM C N Φ (cxOf CX0 P w K mg base N qual sc f cdv A outer s H E).nox where
  calm := rfl
  nd := S.nd
  N := rfl
  hu := by have h := hr.un; exact (by omega : (A.deeper (PyProof.Rows.envOfC qual sc s.heap.objs.size f cdv)).units + 65 < cLine)
  fn := fun j ds r h => let ⟨f, fd, ps, F, a, b, d⟩ := c.fn j ds r h; ⟨k, f, fd, ps, F, hr, a, b, d⟩
  io := fun j t ds r h => let ⟨f, fd, ps, F, a, b, d⟩ := c.io j t ds r h; ⟨k, f, fd, ps, F, hr, a, b, d⟩
  blt := c.blt
  gc := c.gc
  kind := S.kind
  fnT := fun _ => rfl
  pass := PassesOwn.never
/-- a pure def keeps its promise -/
theorem fn_pure {C : Cst} {Φ : Tab} {k : Nat} {x qual : Str} {st : Stmt} {f : Addr} {fd : FuncData} {N ps : List Str} {ir : Sm} {φ : List D → Rs} (c : CtxB C Φ P w K mg base k) (F : Fun K x qual st f fd) (S : FnScope N ps (defScope st))
    (hc : chkMs C N (defScope st) ir (defBody st) = true) (h : ∀ ds r, φ ds = some r → ds.length = ps.length ∧ ∃ n, run Φ n N.length ir ds = some r) : FnOk P w K mg base CX0 (k + 1) f fd ps (spF K φ) := by
  have hpl : ps.length ≤ N.length := by have := congrArg List.length S.pre; rw [List.length_take] at this; omega
  refine F.ok S (fun vs H Q E ⟨B, ds, d, fr, e, r, _⟩ => by rw [r.len]; exact (h ds _ e).1) fun cdv A outer s H vs Q E hr ⟨B, ds, d, fr, e, r, dB, q⟩ => ?_
  obtain ⟨hl, n, hn⟩ := h ds _ e
  refine ⟨_, sMs (n := n) ir (ctx_of c S hr) (defBody st) hc, ?_⟩
  have S0 := sr_start (N := N) r dB (by rw [hl]; exact hpl)
  unfold run at hn
  split at hn
  · rename_i d' fr' γ' e1
    cases hn
    refine ⟨H, fun _ => False, B, _, _, e1, S0, fun v σ' H' S1 ret => q v H' ⟨fun a o z => S1.ext a o z id, ?_⟩⟩
    cases fr with
    | false => exact ret.kp (.less fun b z => .inl z)
    | true =>
      obtain ⟨a, rfl, hz, ho⟩ := ret
      exact ⟨a, rfl, hz.resolve_right id, ho⟩
  · rename_i γ' e1
    cases hn
    exact ⟨H, fun _ => False, B, _, _, e1, S0, fun σ' H' S1 _ => q _ H' ⟨fun a o z => S1.ext a o z id, rfl⟩⟩
  · cases hn
theorem sr_startM {N : List Str} {B : AS} {H : Hp} {t : D} {ds : List D} {p : Addr} {ws : List V} (o : OwnR K H (B.or (AS.one p)) t p) (r : RpL K H (B.or (AS.one p)) ds ws) (dB : Dom B H) (nb : ¬ B p) (hl : ds.length + 1 ≤ N.length) :
    SR K H (AS.one p) B ((start0 N.length (t :: ds)).set 0 (.own t)) (L2.start N (.ref p :: ws)) H := by
  have l0 : 0 < (start0 N.length (t :: ds)).length := by unfold start0; simp
  have g : ∀ {i : Nat} {x : Slot}, ((start0 N.length (t :: ds)).set 0 (.own t))[i]? = some x → (i = 0 ∧ x = .own t) ∨ (∃ j d, i = j + 1 ∧ ds[j]? = some d ∧ x = .val d) ∨ x = .no := fun {i x} h => by
    rcases get_set h with ⟨e, q⟩ | ⟨e, h⟩
    · exact .inl ⟨e, q⟩
    · rcases start0_get h with ⟨d, e1, q⟩ | q
      · cases i with
        | zero => exact absurd rfl e
        | succ j => exact .inr (.inl ⟨j, d, rfl, by simpa using e1, q⟩)
      · exact .inr (.inr q)
  have s0 : (L2.start N (.ref p :: ws))[0]? = some (some (.ref p)) := rfl
  have pp : ∀ a, pr ((start0 N.length (t :: ds)).set 0 (.own t)) (L2.start N (.ref p :: ws)) a → a = p := fun a ⟨i, d, h1, h2⟩ => by
    rcases g h1 with ⟨rfl, _⟩ | ⟨_, _, _, _, e⟩ | e
    · rw [s0] at h2; cases h2; rfl
    · cases e
    · cases e
  have kk : Kp H (B.or (AS.one p)) H (B.or (pr ((start0 N.length (t :: ds)).set 0 (.own t)) (L2.start N (.ref p :: ws)))) := .less fun a z => z.imp id (pp a)
  refine ⟨?_, fun i d h => ?_, fun i d h => ?_, fun i j d e a h1 h2 _ _ => ?_, fun _ _ h _ => h, dB, fun d a _ h => ?_⟩
  · rw [List.length_set]
    unfold L2.start start0
    rw [List.length_append, List.length_append, List.length_map, List.length_map, List.length_replicate, List.length_replicate, List.length_cons, List.length_cons, r.len]
  · rcases g h with ⟨_, q⟩ | ⟨j, d', rfl, e, q⟩ | q
    · cases q
    · cases q
      obtain ⟨v, hv, rv⟩ := r.get e
      refine ⟨v, ?_, rv.kp kk⟩
      rw [start_ne N (.ref p :: ws) (j + 1) (by simpa using (List.getElem?_eq_some_iff.mp hv).1)]
      simp [hv]
    · cases q
  · rcases g h with ⟨rfl, q⟩ | ⟨j, d', rfl, e, q⟩ | q
    · cases q
      exact ⟨p, s0, o.kp kk rfl, nb, .inr rfl⟩
    · cases q
    · cases q
  · rcases g h1 with ⟨rfl, _⟩ | ⟨_, _, _, _, q⟩ | q
    · rcases g h2 with ⟨rfl, _⟩ | ⟨_, _, _, _, q⟩ | q
      · rfl
      · cases q
      · cases q
    · cases q
    · cases q
  · rw [s0] at h; cases h; rfl
/-- a def that changes its first argument keeps its promise -/
theorem fn_io {C : Cst} {Φ : Tab} {k : Nat} {x qual : Str} {st : Stmt} {f : Addr} {fd : FuncData} {N ps : List Str} {ir : Sm} {φ : D → List D → Option (D × D)} (c : CtxB C Φ P w K mg base k) (F : Fun K x qual st f fd) (S : FnScope N ps (defScope st))
    (hc : chkMs C N (defScope st) ir (defBody st) = true) (h : ∀ t ds r, φ t ds = some r → ds.length + 1 = ps.length ∧ ∃ n, runM Φ n N.length ir t ds = some r) : FnOk P w K mg base CX0 (k + 1) f fd ps (spM K φ) := by
  have hpl : ps.length ≤ N.length := by have := congrArg List.length S.pre; rw [List.length_take] at this; omega
  refine F.ok S (fun vs H Q E ⟨B, t, ds, d, t', p, ws, e, ev, o, r, _⟩ => by rw [ev, List.length_cons, r.len]; exact (h t ds _ e).1) fun cdv A outer s H vs Q E hr ⟨B, t, ds, d, t', p, ws, e, ev, o, r, dB, nb, q⟩ => ?_
  subst ev
  obtain ⟨hl, n, hn⟩ := h t ds _ e
  refine ⟨_, sMs (n := n) ir (ctx_of c S hr) (defBody st) hc, ?_⟩
  have S0 := sr_startM (N := N) o r dB nb (by omega)
  have fin : ∀ {γ' : Env} {σ' : St} {H' : Hp}, SR K H (AS.one p) B γ' σ' H' → ownAt γ' 0 = some t' → (∀ b o, b ≠ p → H b = some o → H' b = some o) ∧ OwnR K H' (B.or (AS.one p)) t' p ∧ (∀ b, (B.or (AS.one p)) b → (B.or (pr γ' σ')) b) := fun {γ' σ' H'} S1 h0 => by
    have h0 : γ'[0]? = some (.own t') := by
      unfold ownAt at h0
      split at h0
      · rename_i t2 h2; cases h0; exact h2
      · cases h0
    obtain ⟨a, h1, o1, _⟩ := S1.own 0 t' h0
    have ea : a = p := S1.io t' a h0 h1
    subst ea
    have m : ∀ b, (B.or (AS.one a)) b → (B.or (pr γ' σ')) b := fun b z => z.imp id fun z => ⟨0, t', h0, by rw [show b = a from z]; exact h1⟩
    exact ⟨fun b o n e => S1.ext b o e n, o1.kp (.less m) rfl, m⟩
  unfold runM at hn
  split at hn
  · rename_i d' γ' e1
    simp only [Option.map_eq_some_iff, Prod.mk.injEq] at hn
    obtain ⟨t2, h2, rfl, rfl⟩ := hn
    refine ⟨H, AS.one p, B, _, _, e1, S0, fun v σ' H' S1 ret => ?_⟩
    obtain ⟨k1, k2, k3⟩ := fin S1 h2
    exact q v H' k1 k2 (Rp.kp (.less k3) _ _ ret)
  · rename_i γ' e1
    simp only [Option.map_eq_some_iff, Prod.mk.injEq] at hn
    obtain ⟨t2, h2, rfl, rfl⟩ := hn
    refine ⟨H, AS.one p, B, _, _, e1, S0, fun σ' H' S1 _ => ?_⟩
    obtain ⟨k1, k2, k3⟩ := fin S1 h2
    exact q _ H' k1 k2 rfl
  · cases hn
end
end Z
namespace Z
open PySem PySem.Spec L2

/-! ### a text of defs -/
structure Df where
  x : Str
  N : List Str
  ps : List Str
  io : Bool
  ir : Sm
/-- what the defs answer, L calls deep, a while turning less than n times -/
def Tb (dfs : List Df) (n : Nat) : Nat → Tab
  | 0 => ⟨fun _ _ => none, fun _ _ _ => none⟩
  | L + 1 => ⟨fun j vs => match dfs[j]? with
      | some d => if d.io = false ∧ vs.length = d.ps.length then run (Tb dfs n L) n d.N.length d.ir vs else none
      | none => none,
    fun j t vs => match dfs[j]? with
      | some d => if d.io = true ∧ vs.length + 1 = d.ps.length then runM (Tb dfs n L) n d.N.length d.ir t vs else none
      | none => none⟩
def scB (N ps : List Str) (sc : Scope) : Bool :=
  (match sc.kind with | .function => true | _ => false) && !sc.isCoroutine && !sc.isGenerator && decide N.Nodup && decide (N.take ps.length = ps) && ps.all (fun x => locB sc x) && sc.names.all fun y => match y.2 with | .free => false | _ => true
theorem loc_or {sc : Scope} {x : Str} (h : locB sc x = true) : sc.names.lookup x = some .local ∨ sc.names.lookup x = some .cell := by
  unfold locB at h
  split at h
  · rename_i e; exact .inl e
  · rename_i e; exact .inr e
  · cases h
theorem scope_of {N ps : List Str} {sc : Scope} (h : scB N ps sc = true) : FnScope N ps sc := by
  unfold scB at h
  simp only [Bool.and_eq_true, Bool.not_eq_true', decide_eq_true_eq] at h
  obtain ⟨⟨⟨⟨⟨⟨h1, h2⟩, h3⟩, h4⟩, h5⟩, h6⟩, h7⟩ := h
  refine ⟨?_, h2, h3, h4, h5, fun x hx => loc_or (List.all_eq_true.mp h6 x hx), fun y hy e => ?_⟩
  · split at h1
    · rename_i e; exact e
    · cases h1
  · have := List.all_eq_true.mp h7 y hy
    rw [e] at this
    cases this
def dfB (C : Cst) (st : Stmt) (d : Df) : Bool := scB d.N d.ps (defScope st) && chkMs C d.N (defScope st) d.ir (defBody st)
structure DefAt (K : PySem.W.Frag) (mg : Str → Option Value) (d : Df) (st : Stmt) : Prop where
  ex : ∃ (f : Addr) (fd : FuncData), L2.Fun K d.x d.x st f fd ∧ mg d.x = some (.ref f) ∧ L2.Binds K fd d.ps []
theorem defAt {h : Heap} {K : PySem.W.Frag} {mg : Str → Option Value} {d : Df} {st : Stmt} {f : Addr} {oc : Value} {od an : Option Addr} {osl : Array (Option Value)} {kV doc pm cdv ct : Value} (X : K.In h) (G : h.Ns mainGlobals mg)
    (b : ∀ (kV doc pm : Value) (an : Option Addr) (cdv ct : Value) (us : List Value), us.length = d.ps.length → bindArgs (PySem.W.fnOf d.x d.x (defArgs st) (defBody st) (defScope st) .none kV doc pm an cdv ct) ⟨us, []⟩ = pure (d.ps.zip us))
    (a : PySem.W.nsIn K mainGlobals d.x = some (some (.ref f))) (l : K.lookup f = some ⟨oc, od, .func (PySem.W.fnOf d.x d.x (defArgs st) (defBody st) (defScope st) .none kV doc pm an cdv ct), osl⟩)
    (c : PySem.W.codeIn K cdv d.x = true) (k : PySem.W.keepIn K (.ref f) = true) : DefAt K mg d st := by
  have F := fun_mk l c k
  exact ⟨f, _, F, PySem.W.mg_of X G a, F.binds b⟩
section
variable {P : Program} {w : World} {K : PySem.W.Frag} {mg : Str → Option Value} {base : Heap} {C : Cst} {dfs : List Df}
theorem tb_ok (hD : ∀ j d, dfs[j]? = some d → ∃ st, DefAt K mg d st ∧ dfB C st d = true ∧ C.nm j = d.x) (hb : ∀ x, C.blt.contains x = true → mg x = none)
    (hg : ∀ x d, (x, d) ∈ C.gc → ∃ u v, mg x = some u ∧ RelV v u ∧ ∀ H B, Rp K H B d v) (n : Nat) : ∀ L, CtxB C (Tb dfs n L) P w K mg base L
  | 0 => ⟨fun _ _ _ h => (nomatch h), fun _ _ _ _ h => (nomatch h), hb, hg⟩
  | L + 1 => by
    have ih := tb_ok hD hb hg n L
    refine ⟨fun j ds r h => ?_, fun j t ds r h => ?_, hb, hg⟩
    · cases e : dfs[j]? with
      | none => simp [Tb, e] at h
      | some d =>
        obtain ⟨st, ⟨f, fd, F, hm, hbd⟩, hB, hn⟩ := hD j d e
        simp only [dfB, Bool.and_eq_true] at hB
        refine ⟨f, fd, d.ps, fn_pure (φ := (Tb dfs n (L + 1)).fn j) ih F (scope_of hB.1) hB.2 fun ds r hr => ?_, by rw [hn]; exact hm, F.kp, hbd⟩
        simp only [Tb, e, Option.ite_none_right_eq_some] at hr
        exact ⟨hr.1.2, n, hr.2⟩
    · cases e : dfs[j]? with
      | none => simp [Tb, e] at h
      | some d =>
        obtain ⟨st, ⟨f, fd, F, hm, hbd⟩, hB, hn⟩ := hD j d e
        simp only [dfB, Bool.and_eq_true] at hB
        refine ⟨f, fd, d.ps, fn_io (φ := (Tb dfs n (L + 1)).io j) ih F (scope_of hB.1) hB.2 fun t ds r hr => ?_, by rw [hn]; exact hm, F.kp, hbd⟩
        simp only [Tb, e, Option.ite_none_right_eq_some] at hr
        exact ⟨hr.1.2, n, hr.2⟩
end

/-! ### the law -/
def spL (dfs : List Df) (k j : Nat) (K : PySem.W.Frag) : Sp := fun vs H Q E => ∃ n, spF K ((Tb dfs n k).fn j) vs H Q E
theorem law_ok {P : Program} {w : World} {K : PySem.W.Frag} {mg : Str → Option Value} {base : Heap} {C : Cst} {dfs : List Df} {k j : Nat} {f : Addr} {fd : FuncData} {d : Df} {st : Stmt}
    (hD : ∀ j d, dfs[j]? = some d → ∃ st, DefAt K mg d st ∧ dfB C st d = true ∧ C.nm j = d.x) (hb : ∀ x, C.blt.contains x = true → mg x = none)
    (hg : ∀ x d, (x, d) ∈ C.gc → ∃ u v, mg x = some u ∧ RelV v u ∧ ∀ H B, Rp K H B d v)
    (hj : dfs[j]? = some d) (F : L2.Fun K d.x d.x st f fd) (hB : dfB C st d = true) : FnOk P w K mg base CX0 (k + 1) f fd d.ps (spL dfs (k + 1) j K) := by
  have A : ∀ n, FnOk P w K mg base CX0 (k + 1) f fd d.ps (spF K ((Tb dfs n (k + 1)).fn j)) := fun n => by
    simp only [dfB, Bool.and_eq_true] at hB
    refine fn_pure (φ := (Tb dfs n (k + 1)).fn j) (tb_ok hD hb hg n k) F (scope_of hB.1) hB.2 fun ds r hr => ?_
    simp only [Tb, hj, Option.ite_none_right_eq_some] at hr
    exact ⟨hr.1.2, n, hr.2⟩
  exact ⟨fun vs H Q E ⟨n, h⟩ => (A n).len vs H Q E h, fun A0 outer s H args us vs Q E r e b v ⟨n, h⟩ => (A n).run A0 outer s H args us vs Q E r e b v h⟩
theorem law_sp {dfs : List Df} {k j m : Nat} (hL : ∀ ns : List Int, ns.length ≤ m → ∃ n, (Tb dfs n k).fn j [.scr ns] = some (.bl true, false)) (K : PySem.W.Frag) (H : Hp) (a : Addr) (ns : List Int) (hl : ns.length ≤ m) (hO : Only H) (hS : SqL K H a (ns.map V.int)) :
    spL dfs k j K [.ref a] H (fun v _ => v = .bl true) fun _ _ _ => False := by
  obtain ⟨n, hn⟩ := hL ns hl
  refine ⟨n, fun _ => False, [.scr ns], .bl true, false, hn, ⟨.ref a, [], rfl, ⟨a, rfl, ?_⟩, rfl⟩, fun _ z => z.elim, fun v H' r => r.2⟩
  rcases hS with (h | ⟨o, h⟩) | h
  · rcases hO a with e | ⟨o, xs, e⟩
    · rw [e] at h; cases h
    · rw [e] at h; cases h
  · exact .inl ⟨o, h, fun z => z⟩
  · exact .inr h
end Z
namespace Z
open PySem PySem.Spec L2

/-! ### what most laws share: the tape, the likeness -/
/-! _law_mix(number): 0 number -/
def irMix : Sm := (.cons (.asg 0 (.bin .Mod (.bi .int (.cons (.bin .Add (.bin .Mult (.brw 0) (.cst (.int 6364136223846793005))) (.cst (.int 1442695040888963407))) .nil)) (.cst (.int 18446744073709551616))))
  (.cons (.ret (.bin .Mod (.bi .int (.cons (.bin .Add (.bin .FloorDiv (.bin .Mult (.brw 0) (.brw 0)) (.cst (.int 4294967296))) (.bin .Mult (.brw 0) (.cst (.int 69621)))) .nil)) (.cst (.int 18446744073709551557))))
  .nil))
abbrev dMix : Df := ⟨"_law_mix", ["number"], ["number"], false, irMix⟩
/-! _law_tape(script): 0 script -/
def irTape : Sm := (.cons (.ret (.lst (.cons (.bi .list (.cons (.slc (.brw 0) .nil (.cst (.int 80))) .nil)) (.cons (.cst (.int 0)) (.cons (.cst (.int 0)) (.cons (.bin .Add (.cst (.int 1)) (.bi .len (.cons (.brw 0) .nil))) .nil))))))
  .nil)
abbrev dTape : Df := ⟨"_law_tape", ["script"], ["script"], false, irTape⟩
/-! _law_take(tape, many): 0 tape, 1 many, 2 cell, 3 digit -/
def irTake : Sm := (.cons (.iff (.ccmp .Lt (.idx (.brw 0) (.cst (.int 2))) (.brw 1))
  (.cons (.iff (.ccmp .Lt (.idx (.brw 0) (.cst (.int 1))) (.bi .len (.cons (.idx (.brw 0) (.cst (.int 0))) .nil)))
  (.cons (.asg 2 (.idx (.idx (.brw 0) (.cst (.int 0))) (.idx (.brw 0) (.cst (.int 1)))))
  (.cons (.asg 2 (.ite (.ccmp .GtE (.brw 2) (.cst (.int 0))) (.bin .Mult (.cst (.int 2)) (.brw 2)) (.bin .Sub (.bin .Mult (.neg (.cst (.int 2))) (.brw 2)) (.cst (.int 1)))))
  (.cons (.six 0 (.cst (.int 1)) (.bin .Add (.idx (.brw 0) (.cst (.int 1))) (.cst (.int 1))))
  (.cons (.six 0 (.cst (.int 3)) (.call 0 (.cons (.bin .Add (.idx (.brw 0) (.cst (.int 3))) (.brw 2)) .nil)))
  (.cons (.six 0 (.cst (.int 2)) (.ite (.ccmp .GtE (.brw 2) (.bin .Pow (.cst (.int 10)) (.cst (.int 18)))) (.var 2) (.call 0 (.cons (.bin .Add (.call 0 (.cons (.var 2) .nil)) (.idx (.brw 0) (.cst (.int 1)))) .nil))))
  .nil)))))
  (.cons (.six 0 (.cst (.int 3)) (.call 0 (.cons (.bin .Add (.idx (.brw 0) (.cst (.int 3))) (.cst (.int 1))) .nil)))
  (.cons (.six 0 (.cst (.int 2)) (.idx (.brw 0) (.cst (.int 3))))
  .nil)))
  .nil)
  .nil)
  (.cons (.asg 3 (.bin .Mod (.bi .int (.cons (.idx (.brw 0) (.cst (.int 2))) .nil)) (.brw 1)))
  (.cons (.six 0 (.cst (.int 2)) (.bin .FloorDiv (.idx (.brw 0) (.cst (.int 2))) (.brw 1)))
  (.cons (.reto 3)
  .nil))))
abbrev dTake : Df := ⟨"_law_take", ["tape", "many", "cell", "digit"], ["tape", "many"], true, irTake⟩
/-! _law_same(a, b): 0 a, 1 b, 2 k -/
def irSame_c1 : Ex := .lc [2] (.nm 2) (.rng1 (.bi .len (.cons (.brw 0) .nil))) .nil (.call 3 (.cons (.idx (.brw 0) (.brw 2)) (.cons (.idx (.brw 1) (.brw 2)) .nil)))
def irSame : Sm := (.cons (.iff (.cor (.cand (.tr (.isi .tuple (.brw 0))) (.tr (.isi .tuple (.brw 1)))) (.cand (.tr (.isi .list (.brw 0))) (.tr (.isi .list (.brw 1)))))
  (.cons (.ret (.land (.cmp .Eq (.bi .len (.cons (.brw 0) .nil)) (.bi .len (.cons (.brw 1) .nil))) (.bi .all (.cons irSame_c1 .nil))))
  .nil)
  .nil)
  (.cons (.iff (.cor (.tr (.isi .bool (.brw 0))) (.tr (.isi .bool (.brw 1))))
  (.cons (.ret (.land (.isi .bool (.brw 0)) (.land (.isi .bool (.brw 1)) (.cmp .Eq (.brw 0) (.brw 1)))))
  .nil)
  .nil)
  (.cons (.iff (.cor (.cand (.tr (.isi .int (.brw 0))) (.tr (.isi .int (.brw 1)))) (.cand (.tr (.isi .str (.brw 0))) (.tr (.isi .str (.brw 1)))))
  (.cons (.ret (.cmp .Eq (.brw 0) (.brw 1)))
  .nil)
  .nil)
  (.cons (.ret (.land (.cmp .Is (.brw 0) (.cst .non)) (.cmp .Is (.brw 1) (.cst .non))))
  .nil))))
abbrev dSame : Df := ⟨"_law_same", ["a", "b", "k"], ["a", "b"], false, irSame⟩

end Z
namespace Z
open PySem PySem.Spec L2

def opdS (i : Nat) (g : Env) (o : Option Slot) : Option (Opd × Env) := match o with
  | some (.own d) => some (.s i, g)
  | some (.val d) => some (.v d, g)
  | _ => none
@[simp] theorem opdS_0 {i : Nat} {g : Env} {d : D} : opdS i g (some (.own d)) = some (.s i, g) := rfl
@[simp] theorem opdS_1 {i : Nat} {g : Env} {d : D} : opdS i g (some (.val d)) = some (.v d, g) := rfl
@[simp] theorem opdS_n {i : Nat} {g : Env} : opdS i g none = none := rfl
@[simp] theorem opdS_i {i : Nat} {g : Env} {cc : Prop} [Decidable cc] {o1 o2 : Option Slot} : opdS i g (if cc then o1 else o2) = if cc then opdS i g o1 else opdS i g o2 := by split <;> rfl
def varS (i : Nat) (g : Env) (o : Option Slot) : Option ((D × Bool) × Env) := match o with
  | some (.own d) => some ((d, false), g.set i (.val d))
  | some (.val d) => some ((d, false), g)
  | _ => none
@[simp] theorem varS_0 {i : Nat} {g : Env} {d : D} : varS i g (some (.own d)) = some ((d, false), g.set i (.val d)) := rfl
@[simp] theorem varS_1 {i : Nat} {g : Env} {d : D} : varS i g (some (.val d)) = some ((d, false), g) := rfl
@[simp] theorem varS_n {i : Nat} {g : Env} : varS i g none = none := rfl
@[simp] theorem varS_i {i : Nat} {g : Env} {cc : Prop} [Decidable cc] {o1 o2 : Option Slot} : varS i g (if cc then o1 else o2) = if cc then varS i g o1 else varS i g o2 := by split <;> rfl
def resS  (o : Option Slot) : Option D := match o with
  | some (.own d) => some d
  | _ => none
@[simp] theorem resS_0  {d : D} : resS  (some (.own d)) = some d := rfl
@[simp] theorem resS_n  : resS  none = none := rfl
@[simp] theorem resS_i  {cc : Prop} [Decidable cc] {o1 o2 : Option Slot} : resS  (if cc then o1 else o2) = if cc then resS  o1 else resS  o2 := by split <;> rfl
def asV  (o : Option ((D × Bool) × Env)) : Option (Opd × Env) := match o with
  | some ((d, f), g) => some (.v d, g)
  | _ => none
@[simp] theorem asV_0  {d : D} {f : Bool} {g : Env} : asV  (some ((d, f), g)) = some (.v d, g) := rfl
@[simp] theorem asV_n  : asV  none = none := rfl
@[simp] theorem asV_i  {cc : Prop} [Decidable cc] {o1 o2 : Option ((D × Bool) × Env)} : asV  (if cc then o1 else o2) = if cc then asV  o1 else asV  o2 := by split <;> rfl
def pairE (g : Env) (o : Option (D × Bool)) : Option ((D × Bool) × Env) := match o with
  | some r => some (r, g)
  | _ => none
@[simp] theorem pairE_0 {g : Env} {r : D × Bool} : pairE g (some r) = some (r, g) := rfl
@[simp] theorem pairE_n {g : Env} : pairE g none = none := rfl
@[simp] theorem pairE_i {g : Env} {cc : Prop} [Decidable cc] {o1 o2 : Option (D × Bool)} : pairE g (if cc then o1 else o2) = if cc then pairE g o1 else pairE g o2 := by split <;> rfl
def pairB (g : Env) (o : Option Bool) : Option (Bool × Env) := match o with
  | some r => some (r, g)
  | _ => none
@[simp] theorem pairB_0 {g : Env} {r : Bool} : pairB g (some r) = some (r, g) := rfl
@[simp] theorem pairB_n {g : Env} : pairB g none = none := rfl
@[simp] theorem pairB_i {g : Env} {cc : Prop} [Decidable cc] {o1 o2 : Option Bool} : pairB g (if cc then o1 else o2) = if cc then pairB g o1 else pairB g o2 := by split <;> rfl
def pairBV (g : Env) (o : Option Bool) : Option ((D × Bool) × Env) := match o with
  | some r => some ((.bl r, false), g)
  | _ => none
@[simp] theorem pairBV_0 {g : Env} {r : Bool} : pairBV g (some r) = some ((.bl r, false), g) := rfl
@[simp] theorem pairBV_n {g : Env} : pairBV g none = none := rfl
@[simp] theorem pairBV_i {g : Env} {cc : Prop} [Decidable cc] {o1 o2 : Option Bool} : pairBV g (if cc then o1 else o2) = if cc then pairBV g o1 else pairBV g o2 := by split <;> rfl
def pairN (g : Env) (o : Option D) : Option ((D × Bool) × Env) := match o with
  | some r => some ((r, false), g)
  | _ => none
@[simp] theorem pairN_0 {g : Env} {r : D} : pairN g (some r) = some ((r, false), g) := rfl
@[simp] theorem pairN_n {g : Env} : pairN g none = none := rfl
@[simp] theorem pairN_i {g : Env} {cc : Prop} [Decidable cc] {o1 o2 : Option D} : pairN g (if cc then o1 else o2) = if cc then pairN g o1 else pairN g o2 := by split <;> rfl
def bin4 (p : Operator) (x : D) (g : Env) (o : Option D) : Option ((D × Bool) × Env) := match o with
  | some y => pairE g (opBin p x y)
  | _ => none
@[simp] theorem bin4_0 {p : Operator} {x : D} {g : Env} {y : D} : bin4 p x g (some y) = pairE g (opBin p x y) := rfl
@[simp] theorem bin4_n {p : Operator} {x : D} {g : Env} : bin4 p x g none = none := rfl
@[simp] theorem bin4_i {p : Operator} {x : D} {g : Env} {cc : Prop} [Decidable cc] {o1 o2 : Option D} : bin4 p x g (if cc then o1 else o2) = if cc then bin4 p x g o1 else bin4 p x g o2 := by split <;> rfl
def bin3 (p : Operator) (y : Opd) (g : Env) (o : Option D) : Option ((D × Bool) × Env) := match o with
  | some x => bin4 p x g (resolve g y)
  | _ => none
@[simp] theorem bin3_0 {p : Operator} {y : Opd} {g : Env} {x : D} : bin3 p y g (some x) = bin4 p x g (resolve g y) := rfl
@[simp] theorem bin3_n {p : Operator} {y : Opd} {g : Env} : bin3 p y g none = none := rfl
@[simp] theorem bin3_i {p : Operator} {y : Opd} {g : Env} {cc : Prop} [Decidable cc] {o1 o2 : Option D} : bin3 p y g (if cc then o1 else o2) = if cc then bin3 p y g o1 else bin3 p y g o2 := by split <;> rfl
def bin2 (p : Operator) (x : Opd) (o : Option (Opd × Env)) : Option ((D × Bool) × Env) := match o with
  | some (y, g) => bin3 p y g (resolve g x)
  | _ => none
@[simp] theorem bin2_0 {p : Operator} {x : Opd} {y : Opd} {g : Env} : bin2 p x (some (y, g)) = bin3 p y g (resolve g x) := rfl
@[simp] theorem bin2_n {p : Operator} {x : Opd} : bin2 p x none = none := rfl
@[simp] theorem bin2_i {p : Operator} {x : Opd} {cc : Prop} [Decidable cc] {o1 o2 : Option (Opd × Env)} : bin2 p x (if cc then o1 else o2) = if cc then bin2 p x o1 else bin2 p x o2 := by split <;> rfl
def bin1 (Φ : Tab) (p : Operator) (b : Ex) (o : Option (Opd × Env)) : Option ((D × Bool) × Env) := match o with
  | some (x, g) => bin2 p x (opd b (evE Φ b) g)
  | _ => none
@[simp] theorem bin1_0 {Φ : Tab} {p : Operator} {b : Ex} {x : Opd} {g : Env} : bin1 Φ p b (some (x, g)) = bin2 p x (opd b (evE Φ b) g) := rfl
@[simp] theorem bin1_n {Φ : Tab} {p : Operator} {b : Ex} : bin1 Φ p b none = none := rfl
@[simp] theorem bin1_i {Φ : Tab} {p : Operator} {b : Ex} {cc : Prop} [Decidable cc] {o1 o2 : Option (Opd × Env)} : bin1 Φ p b (if cc then o1 else o2) = if cc then bin1 Φ p b o1 else bin1 Φ p b o2 := by split <;> rfl
def cmp4 (p : CmpOp) (x : D) (g : Env) (o : Option D) : Option ((D × Bool) × Env) := match o with
  | some y => pairBV g (opCmp p x y)
  | _ => none
@[simp] theorem cmp4_0 {p : CmpOp} {x : D} {g : Env} {y : D} : cmp4 p x g (some y) = pairBV g (opCmp p x y) := rfl
@[simp] theorem cmp4_n {p : CmpOp} {x : D} {g : Env} : cmp4 p x g none = none := rfl
@[simp] theorem cmp4_i {p : CmpOp} {x : D} {g : Env} {cc : Prop} [Decidable cc] {o1 o2 : Option D} : cmp4 p x g (if cc then o1 else o2) = if cc then cmp4 p x g o1 else cmp4 p x g o2 := by split <;> rfl
def cmp3 (p : CmpOp) (y : Opd) (g : Env) (o : Option D) : Option ((D × Bool) × Env) := match o with
  | some x => cmp4 p x g (resolve g y)
  | _ => none
@[simp] theorem cmp3_0 {p : CmpOp} {y : Opd} {g : Env} {x : D} : cmp3 p y g (some x) = cmp4 p x g (resolve g y) := rfl
@[simp] theorem cmp3_n {p : CmpOp} {y : Opd} {g : Env} : cmp3 p y g none = none := rfl
@[simp] theorem cmp3_i {p : CmpOp} {y : Opd} {g : Env} {cc : Prop} [Decidable cc] {o1 o2 : Option D} : cmp3 p y g (if cc then o1 else o2) = if cc then cmp3 p y g o1 else cmp3 p y g o2 := by split <;> rfl
def cmp2 (p : CmpOp) (x : Opd) (o : Option (Opd × Env)) : Option ((D × Bool) × Env) := match o with
  | some (y, g) => cmp3 p y g (resolve g x)
  | _ => none
@[simp] theorem cmp2_0 {p : CmpOp} {x : Opd} {y : Opd} {g : Env} : cmp2 p x (some (y, g)) = cmp3 p y g (resolve g x) := rfl
@[simp] theorem cmp2_n {p : CmpOp} {x : Opd} : cmp2 p x none = none := rfl
@[simp] theorem cmp2_i {p : CmpOp} {x : Opd} {cc : Prop} [Decidable cc] {o1 o2 : Option (Opd × Env)} : cmp2 p x (if cc then o1 else o2) = if cc then cmp2 p x o1 else cmp2 p x o2 := by split <;> rfl
def cmp1 (Φ : Tab) (p : CmpOp) (b : Ex) (o : Option (Opd × Env)) : Option ((D × Bool) × Env) := match o with
  | some (x, g) => cmp2 p x (opd b (evE Φ b) g)
  | _ => none
@[simp] theorem cmp1_0 {Φ : Tab} {p : CmpOp} {b : Ex} {x : Opd} {g : Env} : cmp1 Φ p b (some (x, g)) = cmp2 p x (opd b (evE Φ b) g) := rfl
@[simp] theorem cmp1_n {Φ : Tab} {p : CmpOp} {b : Ex} : cmp1 Φ p b none = none := rfl
@[simp] theorem cmp1_i {Φ : Tab} {p : CmpOp} {b : Ex} {cc : Prop} [Decidable cc] {o1 o2 : Option (Opd × Env)} : cmp1 Φ p b (if cc then o1 else o2) = if cc then cmp1 Φ p b o1 else cmp1 Φ p b o2 := by split <;> rfl
def cc4 (p : CmpOp) (x : D) (g : Env) (o : Option D) : Option (Bool × Env) := match o with
  | some y => pairB g (opCmp p x y)
  | _ => none
@[simp] theorem cc4_0 {p : CmpOp} {x : D} {g : Env} {y : D} : cc4 p x g (some y) = pairB g (opCmp p x y) := rfl
@[simp] theorem cc4_n {p : CmpOp} {x : D} {g : Env} : cc4 p x g none = none := rfl
@[simp] theorem cc4_i {p : CmpOp} {x : D} {g : Env} {cc : Prop} [Decidable cc] {o1 o2 : Option D} : cc4 p x g (if cc then o1 else o2) = if cc then cc4 p x g o1 else cc4 p x g o2 := by split <;> rfl
def cc3 (p : CmpOp) (y : Opd) (g : Env) (o : Option D) : Option (Bool × Env) := match o with
  | some x => cc4 p x g (resolve g y)
  | _ => none
@[simp] theorem cc3_0 {p : CmpOp} {y : Opd} {g : Env} {x : D} : cc3 p y g (some x) = cc4 p x g (resolve g y) := rfl
@[simp] theorem cc3_n {p : CmpOp} {y : Opd} {g : Env} : cc3 p y g none = none := rfl
@[simp] theorem cc3_i {p : CmpOp} {y : Opd} {g : Env} {cc : Prop} [Decidable cc] {o1 o2 : Option D} : cc3 p y g (if cc then o1 else o2) = if cc then cc3 p y g o1 else cc3 p y g o2 := by split <;> rfl
def cc2 (p : CmpOp) (x : Opd) (o : Option (Opd × Env)) : Option (Bool × Env) := match o with
  | some (y, g) => cc3 p y g (resolve g x)
  | _ => none
@[simp] theorem cc2_0 {p : CmpOp} {x : Opd} {y : Opd} {g : Env} : cc2 p x (some (y, g)) = cc3 p y g (resolve g x) := rfl
@[simp] theorem cc2_n {p : CmpOp} {x : Opd} : cc2 p x none = none := rfl
@[simp] theorem cc2_i {p : CmpOp} {x : Opd} {cc : Prop} [Decidable cc] {o1 o2 : Option (Opd × Env)} : cc2 p x (if cc then o1 else o2) = if cc then cc2 p x o1 else cc2 p x o2 := by split <;> rfl
def cc1 (Φ : Tab) (p : CmpOp) (b : Ex) (o : Option (Opd × Env)) : Option (Bool × Env) := match o with
  | some (x, g) => cc2 p x (opd b (evE Φ b) g)
  | _ => none
@[simp] theorem cc1_0 {Φ : Tab} {p : CmpOp} {b : Ex} {x : Opd} {g : Env} : cc1 Φ p b (some (x, g)) = cc2 p x (opd b (evE Φ b) g) := rfl
@[simp] theorem cc1_n {Φ : Tab} {p : CmpOp} {b : Ex} : cc1 Φ p b none = none := rfl
@[simp] theorem cc1_i {Φ : Tab} {p : CmpOp} {b : Ex} {cc : Prop} [Decidable cc] {o1 o2 : Option (Opd × Env)} : cc1 Φ p b (if cc then o1 else o2) = if cc then cc1 Φ p b o1 else cc1 Φ p b o2 := by split <;> rfl
def ix4 (x : D) (g : Env) (o : Option D) : Option ((D × Bool) × Env) := match o with
  | some y => pairN g (opIdx x y)
  | _ => none
@[simp] theorem ix4_0 {x : D} {g : Env} {y : D} : ix4 x g (some y) = pairN g (opIdx x y) := rfl
@[simp] theorem ix4_n {x : D} {g : Env} : ix4 x g none = none := rfl
@[simp] theorem ix4_i {x : D} {g : Env} {cc : Prop} [Decidable cc] {o1 o2 : Option D} : ix4 x g (if cc then o1 else o2) = if cc then ix4 x g o1 else ix4 x g o2 := by split <;> rfl
def ix3 (y : Opd) (g : Env) (o : Option D) : Option ((D × Bool) × Env) := match o with
  | some x => ix4 x g (resolve g y)
  | _ => none
@[simp] theorem ix3_0 {y : Opd} {g : Env} {x : D} : ix3 y g (some x) = ix4 x g (resolve g y) := rfl
@[simp] theorem ix3_n {y : Opd} {g : Env} : ix3 y g none = none := rfl
@[simp] theorem ix3_i {y : Opd} {g : Env} {cc : Prop} [Decidable cc] {o1 o2 : Option D} : ix3 y g (if cc then o1 else o2) = if cc then ix3 y g o1 else ix3 y g o2 := by split <;> rfl
def ix2 (x : Opd) (o : Option (Opd × Env)) : Option ((D × Bool) × Env) := match o with
  | some (y, g) => ix3 y g (resolve g x)
  | _ => none
@[simp] theorem ix2_0 {x : Opd} {y : Opd} {g : Env} : ix2 x (some (y, g)) = ix3 y g (resolve g x) := rfl
@[simp] theorem ix2_n {x : Opd} : ix2 x none = none := rfl
@[simp] theorem ix2_i {x : Opd} {cc : Prop} [Decidable cc] {o1 o2 : Option (Opd × Env)} : ix2 x (if cc then o1 else o2) = if cc then ix2 x o1 else ix2 x o2 := by split <;> rfl
def ix1 (Φ : Tab) (b : Ex) (o : Option (Opd × Env)) : Option ((D × Bool) × Env) := match o with
  | some (x, g) => ix2 x (opd b (evE Φ b) g)
  | _ => none
@[simp] theorem ix1_0 {Φ : Tab} {b : Ex} {x : Opd} {g : Env} : ix1 Φ b (some (x, g)) = ix2 x (opd b (evE Φ b) g) := rfl
@[simp] theorem ix1_n {Φ : Tab} {b : Ex} : ix1 Φ b none = none := rfl
@[simp] theorem ix1_i {Φ : Tab} {b : Ex} {cc : Prop} [Decidable cc] {o1 o2 : Option (Opd × Env)} : ix1 Φ b (if cc then o1 else o2) = if cc then ix1 Φ b o1 else ix1 Φ b o2 := by split <;> rfl
def neg1  (o : Option ((D × Bool) × Env)) : Option ((D × Bool) × Env) := match o with
  | some ((.int i, f), g) => some ((.int (-i), false), g)
  | _ => none
@[simp] theorem neg1_0  {i : Int} {f : Bool} {g : Env} : neg1  (some ((.int i, f), g)) = some ((.int (-i), false), g) := rfl
@[simp] theorem neg1_n  : neg1  none = none := rfl
@[simp] theorem neg1_i  {cc : Prop} [Decidable cc] {o1 o2 : Option ((D × Bool) × Env)} : neg1  (if cc then o1 else o2) = if cc then neg1  o1 else neg1  o2 := by split <;> rfl
def ch4 (q : CmpOp) (y : D) (o : Option ((D × Bool) × Env)) : Option ((D × Bool) × Env) := match o with
  | some ((z, f), g) => pairBV g (opCmp q y z)
  | _ => none
@[simp] theorem ch4_0 {q : CmpOp} {y : D} {z : D} {f : Bool} {g : Env} : ch4 q y (some ((z, f), g)) = pairBV g (opCmp q y z) := rfl
@[simp] theorem ch4_n {q : CmpOp} {y : D} : ch4 q y none = none := rfl
@[simp] theorem ch4_i {q : CmpOp} {y : D} {cc : Prop} [Decidable cc] {o1 o2 : Option ((D × Bool) × Env)} : ch4 q y (if cc then o1 else o2) = if cc then ch4 q y o1 else ch4 q y o2 := by split <;> rfl
def ch3 (Φ : Tab) (q : CmpOp) (y : D) (c : Ex) (g : Env) (o : Option Bool) : Option ((D × Bool) × Env) := match o with
  | some true => ch4 q y (evE Φ c g)
  | some false => some ((.bl false, false), g)
  | none => none
@[simp] theorem ch3_d {Φ : Tab} {q : CmpOp} {y : D} {c : Ex} {g : Env} {b : Bool} : ch3 Φ q y c g (some b) = if b = true then ch4 q y (evE Φ c g) else some ((.bl false, false), g) := by cases b <;> rfl
def ch2 (Φ : Tab) (p : CmpOp) (q : CmpOp) (x : D) (c : Ex) (o : Option ((D × Bool) × Env)) : Option ((D × Bool) × Env) := match o with
  | some ((y, f), g) => ch3 Φ q y c g (opCmp p x y)
  | _ => none
@[simp] theorem ch2_0 {Φ : Tab} {p : CmpOp} {q : CmpOp} {x : D} {c : Ex} {y : D} {f : Bool} {g : Env} : ch2 Φ p q x c (some ((y, f), g)) = ch3 Φ q y c g (opCmp p x y) := rfl
@[simp] theorem ch2_n {Φ : Tab} {p : CmpOp} {q : CmpOp} {x : D} {c : Ex} : ch2 Φ p q x c none = none := rfl
@[simp] theorem ch2_i {Φ : Tab} {p : CmpOp} {q : CmpOp} {x : D} {c : Ex} {cc : Prop} [Decidable cc] {o1 o2 : Option ((D × Bool) × Env)} : ch2 Φ p q x c (if cc then o1 else o2) = if cc then ch2 Φ p q x c o1 else ch2 Φ p q x c o2 := by split <;> rfl
def ch1 (Φ : Tab) (p : CmpOp) (q : CmpOp) (b : Ex) (c : Ex) (o : Option ((D × Bool) × Env)) : Option ((D × Bool) × Env) := match o with
  | some ((x, f), g) => ch2 Φ p q x c (evE Φ b g)
  | _ => none
@[simp] theorem ch1_0 {Φ : Tab} {p : CmpOp} {q : CmpOp} {b : Ex} {c : Ex} {x : D} {f : Bool} {g : Env} : ch1 Φ p q b c (some ((x, f), g)) = ch2 Φ p q x c (evE Φ b g) := rfl
@[simp] theorem ch1_n {Φ : Tab} {p : CmpOp} {q : CmpOp} {b : Ex} {c : Ex} : ch1 Φ p q b c none = none := rfl
@[simp] theorem ch1_i {Φ : Tab} {p : CmpOp} {q : CmpOp} {b : Ex} {c : Ex} {cc : Prop} [Decidable cc] {o1 o2 : Option ((D × Bool) × Env)} : ch1 Φ p q b c (if cc then o1 else o2) = if cc then ch1 Φ p q b c o1 else ch1 Φ p q b c o2 := by split <;> rfl
def cd4 (q : CmpOp) (y : D) (o : Option ((D × Bool) × Env)) : Option (Bool × Env) := match o with
  | some ((z, f), g) => pairB g (opCmp q y z)
  | _ => none
@[simp] theorem cd4_0 {q : CmpOp} {y : D} {z : D} {f : Bool} {g : Env} : cd4 q y (some ((z, f), g)) = pairB g (opCmp q y z) := rfl
@[simp] theorem cd4_n {q : CmpOp} {y : D} : cd4 q y none = none := rfl
@[simp] theorem cd4_i {q : CmpOp} {y : D} {cc : Prop} [Decidable cc] {o1 o2 : Option ((D × Bool) × Env)} : cd4 q y (if cc then o1 else o2) = if cc then cd4 q y o1 else cd4 q y o2 := by split <;> rfl
def cd3 (Φ : Tab) (q : CmpOp) (y : D) (c : Ex) (g : Env) (o : Option Bool) : Option (Bool × Env) := match o with
  | some true => cd4 q y (evE Φ c g)
  | some false => some (false, g)
  | none => none
@[simp] theorem cd3_d {Φ : Tab} {q : CmpOp} {y : D} {c : Ex} {g : Env} {b : Bool} : cd3 Φ q y c g (some b) = if b = true then cd4 q y (evE Φ c g) else some (false, g) := by cases b <;> rfl
def cd2 (Φ : Tab) (p : CmpOp) (q : CmpOp) (x : D) (c : Ex) (o : Option ((D × Bool) × Env)) : Option (Bool × Env) := match o with
  | some ((y, f), g) => cd3 Φ q y c g (opCmp p x y)
  | _ => none
@[simp] theorem cd2_0 {Φ : Tab} {p : CmpOp} {q : CmpOp} {x : D} {c : Ex} {y : D} {f : Bool} {g : Env} : cd2 Φ p q x c (some ((y, f), g)) = cd3 Φ q y c g (opCmp p x y) := rfl
@[simp] theorem cd2_n {Φ : Tab} {p : CmpOp} {q : CmpOp} {x : D} {c : Ex} : cd2 Φ p q x c none = none := rfl
@[simp] theorem cd2_i {Φ : Tab} {p : CmpOp} {q : CmpOp} {x : D} {c : Ex} {cc : Prop} [Decidable cc] {o1 o2 : Option ((D × Bool) × Env)} : cd2 Φ p q x c (if cc then o1 else o2) = if cc then cd2 Φ p q x c o1 else cd2 Φ p q x c o2 := by split <;> rfl
def cd1 (Φ : Tab) (p : CmpOp) (q : CmpOp) (b : Ex) (c : Ex) (o : Option ((D × Bool) × Env)) : Option (Bool × Env) := match o with
  | some ((x, f), g) => cd2 Φ p q x c (evE Φ b g)
  | _ => none
@[simp] theorem cd1_0 {Φ : Tab} {p : CmpOp} {q : CmpOp} {b : Ex} {c : Ex} {x : D} {f : Bool} {g : Env} : cd1 Φ p q b c (some ((x, f), g)) = cd2 Φ p q x c (evE Φ b g) := rfl
@[simp] theorem cd1_n {Φ : Tab} {p : CmpOp} {q : CmpOp} {b : Ex} {c : Ex} : cd1 Φ p q b c none = none := rfl
@[simp] theorem cd1_i {Φ : Tab} {p : CmpOp} {q : CmpOp} {b : Ex} {c : Ex} {cc : Prop} [Decidable cc] {o1 o2 : Option ((D × Bool) × Env)} : cd1 Φ p q b c (if cc then o1 else o2) = if cc then cd1 Φ p q b c o1 else cd1 Φ p q b c o2 := by split <;> rfl
def prt  (o : Option ((D × Bool) × Env)) : Option (Option Int × Env) := match o with
  | some ((.int i, f), g) => some (some i, g)
  | _ => none
@[simp] theorem prt_0  {i : Int} {f : Bool} {g : Env} : prt  (some ((.int i, f), g)) = some (some i, g) := rfl
@[simp] theorem prt_n  : prt  none = none := rfl
@[simp] theorem prt_i  {cc : Prop} [Decidable cc] {o1 o2 : Option ((D × Bool) × Env)} : prt  (if cc then o1 else o2) = if cc then prt  o1 else prt  o2 := by split <;> rfl
def sl4 (l : Option Int) (h : Option Int) (g : Env) (o : Option D) : Option ((D × Bool) × Env) := match o with
  | some x => pairE g (opSlc x l h)
  | _ => none
@[simp] theorem sl4_0 {l : Option Int} {h : Option Int} {g : Env} {x : D} : sl4 l h g (some x) = pairE g (opSlc x l h) := rfl
@[simp] theorem sl4_n {l : Option Int} {h : Option Int} {g : Env} : sl4 l h g none = none := rfl
@[simp] theorem sl4_i {l : Option Int} {h : Option Int} {g : Env} {cc : Prop} [Decidable cc] {o1 o2 : Option D} : sl4 l h g (if cc then o1 else o2) = if cc then sl4 l h g o1 else sl4 l h g o2 := by split <;> rfl
def sl3 (x : Opd) (l : Option Int) (o : Option (Option Int × Env)) : Option ((D × Bool) × Env) := match o with
  | some (h, g) => sl4 l h g (resolve g x)
  | _ => none
@[simp] theorem sl3_0 {x : Opd} {l : Option Int} {h : Option Int} {g : Env} : sl3 x l (some (h, g)) = sl4 l h g (resolve g x) := rfl
@[simp] theorem sl3_n {x : Opd} {l : Option Int} : sl3 x l none = none := rfl
@[simp] theorem sl3_i {x : Opd} {l : Option Int} {cc : Prop} [Decidable cc] {o1 o2 : Option (Option Int × Env)} : sl3 x l (if cc then o1 else o2) = if cc then sl3 x l o1 else sl3 x l o2 := by split <;> rfl
def sl2 (Φ : Tab) (x : Opd) (hi : Ex) (o : Option (Option Int × Env)) : Option ((D × Bool) × Env) := match o with
  | some (l, g) => sl3 x l (part hi (evE Φ hi) g)
  | _ => none
@[simp] theorem sl2_0 {Φ : Tab} {x : Opd} {hi : Ex} {l : Option Int} {g : Env} : sl2 Φ x hi (some (l, g)) = sl3 x l (part hi (evE Φ hi) g) := rfl
@[simp] theorem sl2_n {Φ : Tab} {x : Opd} {hi : Ex} : sl2 Φ x hi none = none := rfl
@[simp] theorem sl2_i {Φ : Tab} {x : Opd} {hi : Ex} {cc : Prop} [Decidable cc] {o1 o2 : Option (Option Int × Env)} : sl2 Φ x hi (if cc then o1 else o2) = if cc then sl2 Φ x hi o1 else sl2 Φ x hi o2 := by split <;> rfl
def sl1 (Φ : Tab) (lo : Ex) (hi : Ex) (o : Option (Opd × Env)) : Option ((D × Bool) × Env) := match o with
  | some (x, g) => sl2 Φ x hi (part lo (evE Φ lo) g)
  | _ => none
@[simp] theorem sl1_0 {Φ : Tab} {lo : Ex} {hi : Ex} {x : Opd} {g : Env} : sl1 Φ lo hi (some (x, g)) = sl2 Φ x hi (part lo (evE Φ lo) g) := rfl
@[simp] theorem sl1_n {Φ : Tab} {lo : Ex} {hi : Ex} : sl1 Φ lo hi none = none := rfl
@[simp] theorem sl1_i {Φ : Tab} {lo : Ex} {hi : Ex} {cc : Prop} [Decidable cc] {o1 o2 : Option (Opd × Env)} : sl1 Φ lo hi (if cc then o1 else o2) = if cc then sl1 Φ lo hi o1 else sl1 Φ lo hi o2 := by split <;> rfl
def rv2 (g : Env) (o : Option D) : Option ((D × Bool) × Env) := match o with
  | some (.lst xs) => some ((.lst xs.reverse, true), g)
  | _ => none
@[simp] theorem rv2_0 {g : Env} {xs : List D} : rv2 g (some (.lst xs)) = some ((.lst xs.reverse, true), g) := rfl
@[simp] theorem rv2_n {g : Env} : rv2 g none = none := rfl
@[simp] theorem rv2_i {g : Env} {cc : Prop} [Decidable cc] {o1 o2 : Option D} : rv2 g (if cc then o1 else o2) = if cc then rv2 g o1 else rv2 g o2 := by split <;> rfl
def rv1  (o : Option (Opd × Env)) : Option ((D × Bool) × Env) := match o with
  | some (x, g) => rv2 g (resolve g x)
  | _ => none
@[simp] theorem rv1_0  {x : Opd} {g : Env} : rv1  (some (x, g)) = rv2 g (resolve g x) := rfl
@[simp] theorem rv1_n  : rv1  none = none := rfl
@[simp] theorem rv1_i  {cc : Prop} [Decidable cc] {o1 o2 : Option (Opd × Env)} : rv1  (if cc then o1 else o2) = if cc then rv1  o1 else rv1  o2 := by split <;> rfl
def dull  (o : Option ((D × Bool) × Env)) : Option ((D × Bool) × Env) := match o with
  | some ((d, f), g) => some ((d, false), g)
  | _ => none
@[simp] theorem dull_0  {d : D} {f : Bool} {g : Env} : dull  (some ((d, f), g)) = some ((d, false), g) := rfl
@[simp] theorem dull_n  : dull  none = none := rfl
@[simp] theorem dull_i  {cc : Prop} [Decidable cc] {o1 o2 : Option ((D × Bool) × Env)} : dull  (if cc then o1 else o2) = if cc then dull  o1 else dull  o2 := by split <;> rfl
def la2 (Φ : Tab) (x : D) (b : Ex) (g : Env) (o : Option Bool) : Option ((D × Bool) × Env) := match o with
  | some true => dull (evE Φ b g)
  | some false => some ((x, false), g)
  | none => none
@[simp] theorem la2_d {Φ : Tab} {x : D} {b : Ex} {g : Env} {bb : Bool} : la2 Φ x b g (some bb) = if bb = true then dull (evE Φ b g) else some ((x, false), g) := by cases bb <;> rfl
@[simp] theorem la2_n {Φ : Tab} {x : D} {b : Ex} {g : Env} : la2 Φ x b g none = none := rfl
@[simp] theorem la2_i {Φ : Tab} {x : D} {b : Ex} {g : Env} {cc : Prop} [Decidable cc] {o1 o2 : Option Bool} : la2 Φ x b g (if cc then o1 else o2) = if cc then la2 Φ x b g o1 else la2 Φ x b g o2 := by split <;> rfl
def la1 (Φ : Tab) (b : Ex) (o : Option ((D × Bool) × Env)) : Option ((D × Bool) × Env) := match o with
  | some ((x, f), g) => la2 Φ x b g (truD x)
  | _ => none
@[simp] theorem la1_0 {Φ : Tab} {b : Ex} {x : D} {f : Bool} {g : Env} : la1 Φ b (some ((x, f), g)) = la2 Φ x b g (truD x) := rfl
@[simp] theorem la1_n {Φ : Tab} {b : Ex} : la1 Φ b none = none := rfl
@[simp] theorem la1_i {Φ : Tab} {b : Ex} {cc : Prop} [Decidable cc] {o1 o2 : Option ((D × Bool) × Env)} : la1 Φ b (if cc then o1 else o2) = if cc then la1 Φ b o1 else la1 Φ b o2 := by split <;> rfl
def lo2 (Φ : Tab) (x : D) (b : Ex) (g : Env) (o : Option Bool) : Option ((D × Bool) × Env) := match o with
  | some true => some ((x, false), g)
  | some false => dull (evE Φ b g)
  | none => none
@[simp] theorem lo2_d {Φ : Tab} {x : D} {b : Ex} {g : Env} {bb : Bool} : lo2 Φ x b g (some bb) = if bb = true then some ((x, false), g) else dull (evE Φ b g) := by cases bb <;> rfl
@[simp] theorem lo2_n {Φ : Tab} {x : D} {b : Ex} {g : Env} : lo2 Φ x b g none = none := rfl
@[simp] theorem lo2_i {Φ : Tab} {x : D} {b : Ex} {g : Env} {cc : Prop} [Decidable cc] {o1 o2 : Option Bool} : lo2 Φ x b g (if cc then o1 else o2) = if cc then lo2 Φ x b g o1 else lo2 Φ x b g o2 := by split <;> rfl
def lo1 (Φ : Tab) (b : Ex) (o : Option ((D × Bool) × Env)) : Option ((D × Bool) × Env) := match o with
  | some ((x, f), g) => lo2 Φ x b g (truD x)
  | _ => none
@[simp] theorem lo1_0 {Φ : Tab} {b : Ex} {x : D} {f : Bool} {g : Env} : lo1 Φ b (some ((x, f), g)) = lo2 Φ x b g (truD x) := rfl
@[simp] theorem lo1_n {Φ : Tab} {b : Ex} : lo1 Φ b none = none := rfl
@[simp] theorem lo1_i {Φ : Tab} {b : Ex} {cc : Prop} [Decidable cc] {o1 o2 : Option ((D × Bool) × Env)} : lo1 Φ b (if cc then o1 else o2) = if cc then lo1 Φ b o1 else lo1 Φ b o2 := by split <;> rfl
def ite1 (Φ : Tab) (a : Ex) (b : Ex) (o : Option (Bool × Env)) : Option ((D × Bool) × Env) := match o with
  | some (true, g) => evE Φ a g
  | some (false, g) => evE Φ b g
  | none => none
@[simp] theorem ite1_d {Φ : Tab} {a : Ex} {b : Ex} {bb : Bool} {g : Env} : ite1 Φ a b (some (bb, g)) = if bb = true then evE Φ a g else evE Φ b g := by cases bb <;> rfl
@[simp] theorem ite1_n {Φ : Tab} {a : Ex} {b : Ex} : ite1 Φ a b none = none := rfl
@[simp] theorem ite1_i {Φ : Tab} {a : Ex} {b : Ex} {cc : Prop} [Decidable cc] {o1 o2 : Option (Bool × Env)} : ite1 Φ a b (if cc then o1 else o2) = if cc then ite1 Φ a b o1 else ite1 Φ a b o2 := by split <;> rfl
def cand1 (Φ : Tab) (b : Ex) (o : Option (Bool × Env)) : Option (Bool × Env) := match o with
  | some (true, g) => evC Φ b g
  | some (false, g) => some (false, g)
  | none => none
@[simp] theorem cand1_d {Φ : Tab} {b : Ex} {bb : Bool} {g : Env} : cand1 Φ b (some (bb, g)) = if bb = true then evC Φ b g else some (false, g) := by cases bb <;> rfl
@[simp] theorem cand1_n {Φ : Tab} {b : Ex} : cand1 Φ b none = none := rfl
@[simp] theorem cand1_i {Φ : Tab} {b : Ex} {cc : Prop} [Decidable cc] {o1 o2 : Option (Bool × Env)} : cand1 Φ b (if cc then o1 else o2) = if cc then cand1 Φ b o1 else cand1 Φ b o2 := by split <;> rfl
def cor1 (Φ : Tab) (b : Ex) (o : Option (Bool × Env)) : Option (Bool × Env) := match o with
  | some (true, g) => some (true, g)
  | some (false, g) => evC Φ b g
  | none => none
@[simp] theorem cor1_d {Φ : Tab} {b : Ex} {bb : Bool} {g : Env} : cor1 Φ b (some (bb, g)) = if bb = true then some (true, g) else evC Φ b g := by cases bb <;> rfl
@[simp] theorem cor1_n {Φ : Tab} {b : Ex} : cor1 Φ b none = none := rfl
@[simp] theorem cor1_i {Φ : Tab} {b : Ex} {cc : Prop} [Decidable cc] {o1 o2 : Option (Bool × Env)} : cor1 Φ b (if cc then o1 else o2) = if cc then cor1 Φ b o1 else cor1 Φ b o2 := by split <;> rfl
def cnot1  (o : Option (Bool × Env)) : Option (Bool × Env) := match o with
  | some (k, g) => some (!k, g)
  | _ => none
@[simp] theorem cnot1_0  {k : Bool} {g : Env} : cnot1  (some (k, g)) = some (!k, g) := rfl
@[simp] theorem cnot1_n  : cnot1  none = none := rfl
@[simp] theorem cnot1_i  {cc : Prop} [Decidable cc] {o1 o2 : Option (Bool × Env)} : cnot1  (if cc then o1 else o2) = if cc then cnot1  o1 else cnot1  o2 := by split <;> rfl
def not2 (g : Env) (o : Option D) : Option ((D × Bool) × Env) := match o with
  | some x => pairBV g ((truD x).map fun k => !k)
  | _ => none
@[simp] theorem not2_0 {g : Env} {x : D} : not2 g (some x) = pairBV g ((truD x).map fun k => !k) := rfl
@[simp] theorem not2_n {g : Env} : not2 g none = none := rfl
@[simp] theorem not2_i {g : Env} {cc : Prop} [Decidable cc] {o1 o2 : Option D} : not2 g (if cc then o1 else o2) = if cc then not2 g o1 else not2 g o2 := by split <;> rfl
def not1  (o : Option (Opd × Env)) : Option ((D × Bool) × Env) := match o with
  | some (x, g) => not2 g (resolve g x)
  | _ => none
@[simp] theorem not1_0  {x : Opd} {g : Env} : not1  (some (x, g)) = not2 g (resolve g x) := rfl
@[simp] theorem not1_n  : not1  none = none := rfl
@[simp] theorem not1_i  {cc : Prop} [Decidable cc] {o1 o2 : Option (Opd × Env)} : not1  (if cc then o1 else o2) = if cc then not1  o1 else not1  o2 := by split <;> rfl
def tr2 (g : Env) (o : Option D) : Option (Bool × Env) := match o with
  | some x => pairB g (truD x)
  | _ => none
@[simp] theorem tr2_0 {g : Env} {x : D} : tr2 g (some x) = pairB g (truD x) := rfl
@[simp] theorem tr2_n {g : Env} : tr2 g none = none := rfl
@[simp] theorem tr2_i {g : Env} {cc : Prop} [Decidable cc] {o1 o2 : Option D} : tr2 g (if cc then o1 else o2) = if cc then tr2 g o1 else tr2 g o2 := by split <;> rfl
def tr1  (o : Option (Opd × Env)) : Option (Bool × Env) := match o with
  | some (x, g) => tr2 g (resolve g x)
  | _ => none
@[simp] theorem tr1_0  {x : Opd} {g : Env} : tr1  (some (x, g)) = tr2 g (resolve g x) := rfl
@[simp] theorem tr1_n  : tr1  none = none := rfl
@[simp] theorem tr1_i  {cc : Prop} [Decidable cc] {o1 o2 : Option (Opd × Env)} : tr1  (if cc then o1 else o2) = if cc then tr1  o1 else tr1  o2 := by split <;> rfl
def tup1  (o : Option (List (D × Bool) × Env)) : Option ((D × Bool) × Env) := match o with
  | some (ds, g) => if ds.length ≤ sizeLine then some ((.tup (ds.map (·.1)), false), g) else none
  | _ => none
@[simp] theorem tup1_0  {ds : List (D × Bool)} {g : Env} : tup1  (some (ds, g)) = if ds.length ≤ sizeLine then some ((.tup (ds.map (·.1)), false), g) else none := rfl
@[simp] theorem tup1_n  : tup1  none = none := rfl
@[simp] theorem tup1_i  {cc : Prop} [Decidable cc] {o1 o2 : Option (List (D × Bool) × Env)} : tup1  (if cc then o1 else o2) = if cc then tup1  o1 else tup1  o2 := by split <;> rfl
def lst1  (o : Option (List (D × Bool) × Env)) : Option ((D × Bool) × Env) := match o with
  | some (ds, g) => if ds.length ≤ sizeLine then some ((.lst (ds.map (·.1)), true), g) else none
  | _ => none
@[simp] theorem lst1_0  {ds : List (D × Bool)} {g : Env} : lst1  (some (ds, g)) = if ds.length ≤ sizeLine then some ((.lst (ds.map (·.1)), true), g) else none := rfl
@[simp] theorem lst1_n  : lst1  none = none := rfl
@[simp] theorem lst1_i  {cc : Prop} [Decidable cc] {o1 o2 : Option (List (D × Bool) × Env)} : lst1  (if cc then o1 else o2) = if cc then lst1  o1 else lst1  o2 := by split <;> rfl
def bi2 (fb : Bi) (g : Env) (o : Option (List D)) : Option ((D × Bool) × Env) := match o with
  | some ds => pairE g (opBi fb ds)
  | _ => none
@[simp] theorem bi2_0 {fb : Bi} {g : Env} {ds : List D} : bi2 fb g (some ds) = pairE g (opBi fb ds) := rfl
@[simp] theorem bi2_n {fb : Bi} {g : Env} : bi2 fb g none = none := rfl
@[simp] theorem bi2_i {fb : Bi} {g : Env} {cc : Prop} [Decidable cc] {o1 o2 : Option (List D)} : bi2 fb g (if cc then o1 else o2) = if cc then bi2 fb g o1 else bi2 fb g o2 := by split <;> rfl
def bi1 (fb : Bi) (o : Option (List Opd × Env)) : Option ((D × Bool) × Env) := match o with
  | some (os, g) => bi2 fb g (resolves g os)
  | _ => none
@[simp] theorem bi1_0 {fb : Bi} {os : List Opd} {g : Env} : bi1 fb (some (os, g)) = bi2 fb g (resolves g os) := rfl
@[simp] theorem bi1_n {fb : Bi} : bi1 fb none = none := rfl
@[simp] theorem bi1_i {fb : Bi} {cc : Prop} [Decidable cc] {o1 o2 : Option (List Opd × Env)} : bi1 fb (if cc then o1 else o2) = if cc then bi1 fb o1 else bi1 fb o2 := by split <;> rfl
def isi2 (T : Ty) (g : Env) (o : Option D) : Option ((D × Bool) × Env) := match o with
  | some x => pairBV g (isiD T x)
  | _ => none
@[simp] theorem isi2_0 {T : Ty} {g : Env} {x : D} : isi2 T g (some x) = pairBV g (isiD T x) := rfl
@[simp] theorem isi2_n {T : Ty} {g : Env} : isi2 T g none = none := rfl
@[simp] theorem isi2_i {T : Ty} {g : Env} {cc : Prop} [Decidable cc] {o1 o2 : Option D} : isi2 T g (if cc then o1 else o2) = if cc then isi2 T g o1 else isi2 T g o2 := by split <;> rfl
def isi1 (T : Ty) (o : Option (Opd × Env)) : Option ((D × Bool) × Env) := match o with
  | some (x, g) => isi2 T g (resolve g x)
  | _ => none
@[simp] theorem isi1_0 {T : Ty} {x : Opd} {g : Env} : isi1 T (some (x, g)) = isi2 T g (resolve g x) := rfl
@[simp] theorem isi1_n {T : Ty} : isi1 T none = none := rfl
@[simp] theorem isi1_i {T : Ty} {cc : Prop} [Decidable cc] {o1 o2 : Option (Opd × Env)} : isi1 T (if cc then o1 else o2) = if cc then isi1 T o1 else isi1 T o2 := by split <;> rfl
def call1 (Φ : Tab) (j : Nat) (o : Option (List (D × Bool) × Env)) : Option ((D × Bool) × Env) := match o with
  | some (ds, g) => pairE g (Φ.fn j (ds.map (·.1)))
  | _ => none
@[simp] theorem call1_0 {Φ : Tab} {j : Nat} {ds : List (D × Bool)} {g : Env} : call1 Φ j (some (ds, g)) = pairE g (Φ.fn j (ds.map (·.1))) := rfl
@[simp] theorem call1_n {Φ : Tab} {j : Nat} : call1 Φ j none = none := rfl
@[simp] theorem call1_i {Φ : Tab} {j : Nat} {cc : Prop} [Decidable cc] {o1 o2 : Option (List (D × Bool) × Env)} : call1 Φ j (if cc then o1 else o2) = if cc then call1 Φ j o1 else call1 Φ j o2 := by split <;> rfl
def cm3 (i : Nat) (g : Env) (o : Option (D × D)) : Option ((D × Bool) × Env) := match o with
  | some (r, t) => some ((r, false), g.set i (.own t))
  | _ => none
@[simp] theorem cm3_0 {i : Nat} {g : Env} {r : D} {t : D} : cm3 i g (some (r, t)) = some ((r, false), g.set i (.own t)) := rfl
@[simp] theorem cm3_n {i : Nat} {g : Env} : cm3 i g none = none := rfl
@[simp] theorem cm3_i {i : Nat} {g : Env} {cc : Prop} [Decidable cc] {o1 o2 : Option (D × D)} : cm3 i g (if cc then o1 else o2) = if cc then cm3 i g o1 else cm3 i g o2 := by split <;> rfl
def cm2 (Φ : Tab) (j : Nat) (i : Nat) (ds : List (D × Bool)) (g : Env) (o : Option Slot) : Option ((D × Bool) × Env) := match o with
  | some (.own d) => cm3 i g (Φ.io j d (ds.map (·.1)))
  | _ => none
@[simp] theorem cm2_0 {Φ : Tab} {j : Nat} {i : Nat} {ds : List (D × Bool)} {g : Env} {d : D} : cm2 Φ j i ds g (some (.own d)) = cm3 i g (Φ.io j d (ds.map (·.1))) := rfl
@[simp] theorem cm2_n {Φ : Tab} {j : Nat} {i : Nat} {ds : List (D × Bool)} {g : Env} : cm2 Φ j i ds g none = none := rfl
@[simp] theorem cm2_i {Φ : Tab} {j : Nat} {i : Nat} {ds : List (D × Bool)} {g : Env} {cc : Prop} [Decidable cc] {o1 o2 : Option Slot} : cm2 Φ j i ds g (if cc then o1 else o2) = if cc then cm2 Φ j i ds g o1 else cm2 Φ j i ds g o2 := by split <;> rfl
def cm1 (Φ : Tab) (j : Nat) (i : Nat) (o : Option (List (D × Bool) × Env)) : Option ((D × Bool) × Env) := match o with
  | some (ds, g) => cm2 Φ j i ds g (g[i]?)
  | _ => none
@[simp] theorem cm1_0 {Φ : Tab} {j : Nat} {i : Nat} {ds : List (D × Bool)} {g : Env} : cm1 Φ j i (some (ds, g)) = cm2 Φ j i ds g (g[i]?) := rfl
@[simp] theorem cm1_n {Φ : Tab} {j : Nat} {i : Nat} : cm1 Φ j i none = none := rfl
@[simp] theorem cm1_i {Φ : Tab} {j : Nat} {i : Nat} {cc : Prop} [Decidable cc] {o1 o2 : Option (List (D × Bool) × Env)} : cm1 Φ j i (if cc then o1 else o2) = if cc then cm1 Φ j i o1 else cm1 Φ j i o2 := by split <;> rfl
def cm0 (Φ : Tab) (j : Nat) (i : Nat) (as : Ex) (g : Env) (o : Option Slot) : Option ((D × Bool) × Env) := match o with
  | some (.own d) => cm1 Φ j i (evS Φ as g)
  | _ => none
@[simp] theorem cm0_0 {Φ : Tab} {j : Nat} {i : Nat} {as : Ex} {g : Env} {d : D} : cm0 Φ j i as g (some (.own d)) = cm1 Φ j i (evS Φ as g) := rfl
@[simp] theorem cm0_n {Φ : Tab} {j : Nat} {i : Nat} {as : Ex} {g : Env} : cm0 Φ j i as g none = none := rfl
@[simp] theorem cm0_i {Φ : Tab} {j : Nat} {i : Nat} {as : Ex} {g : Env} {cc : Prop} [Decidable cc] {o1 o2 : Option Slot} : cm0 Φ j i as g (if cc then o1 else o2) = if cc then cm0 Φ j i as g o1 else cm0 Φ j i as g o2 := by split <;> rfl
def s2 (x : D × Bool) (o : Option (List (D × Bool) × Env)) : Option (List (D × Bool) × Env) := match o with
  | some (xs, g) => some (x :: xs, g)
  | _ => none
@[simp] theorem s2_0 {x : D × Bool} {xs : List (D × Bool)} {g : Env} : s2 x (some (xs, g)) = some (x :: xs, g) := rfl
@[simp] theorem s2_n {x : D × Bool} : s2 x none = none := rfl
@[simp] theorem s2_i {x : D × Bool} {cc : Prop} [Decidable cc] {o1 o2 : Option (List (D × Bool) × Env)} : s2 x (if cc then o1 else o2) = if cc then s2 x o1 else s2 x o2 := by split <;> rfl
def s1 (Φ : Tab) (r : Ex) (o : Option ((D × Bool) × Env)) : Option (List (D × Bool) × Env) := match o with
  | some (x, g) => s2 x (evS Φ r g)
  | _ => none
@[simp] theorem s1_0 {Φ : Tab} {r : Ex} {x : D × Bool} {g : Env} : s1 Φ r (some (x, g)) = s2 x (evS Φ r g) := rfl
@[simp] theorem s1_n {Φ : Tab} {r : Ex} : s1 Φ r none = none := rfl
@[simp] theorem s1_i {Φ : Tab} {r : Ex} {cc : Prop} [Decidable cc] {o1 o2 : Option ((D × Bool) × Env)} : s1 Φ r (if cc then o1 else o2) = if cc then s1 Φ r o1 else s1 Φ r o2 := by split <;> rfl
def b2 (x : Opd) (o : Option (List Opd × Env)) : Option (List Opd × Env) := match o with
  | some (xs, g) => some (x :: xs, g)
  | _ => none
@[simp] theorem b2_0 {x : Opd} {xs : List Opd} {g : Env} : b2 x (some (xs, g)) = some (x :: xs, g) := rfl
@[simp] theorem b2_n {x : Opd} : b2 x none = none := rfl
@[simp] theorem b2_i {x : Opd} {cc : Prop} [Decidable cc] {o1 o2 : Option (List Opd × Env)} : b2 x (if cc then o1 else o2) = if cc then b2 x o1 else b2 x o2 := by split <;> rfl
def b1 (Φ : Tab) (r : Ex) (o : Option (Opd × Env)) : Option (List Opd × Env) := match o with
  | some (x, g) => b2 x (evBs Φ r g)
  | _ => none
@[simp] theorem b1_0 {Φ : Tab} {r : Ex} {x : Opd} {g : Env} : b1 Φ r (some (x, g)) = b2 x (evBs Φ r g) := rfl
@[simp] theorem b1_n {Φ : Tab} {r : Ex} : b1 Φ r none = none := rfl
@[simp] theorem b1_i {Φ : Tab} {r : Ex} {cc : Prop} [Decidable cc] {o1 o2 : Option (Opd × Env)} : b1 Φ r (if cc then o1 else o2) = if cc then b1 Φ r o1 else b1 Φ r o2 := by split <;> rfl
def lrg1 (tu : Bool) (o : Option ((D × Bool) × Env)) : Option ((D × Bool) × Env) := match o with
  | some ((.int j, f), g) => pairE g (rgD tu 0 j)
  | _ => none
@[simp] theorem lrg1_0 {tu : Bool} {j : Int} {f : Bool} {g : Env} : lrg1 tu (some ((.int j, f), g)) = pairE g (rgD tu 0 j) := rfl
@[simp] theorem lrg1_n {tu : Bool} : lrg1 tu none = none := rfl
@[simp] theorem lrg1_i {tu : Bool} {cc : Prop} [Decidable cc] {o1 o2 : Option ((D × Bool) × Env)} : lrg1 tu (if cc then o1 else o2) = if cc then lrg1 tu o1 else lrg1 tu o2 := by split <;> rfl
def lrgb (tu : Bool) (i : Int) (o : Option ((D × Bool) × Env)) : Option ((D × Bool) × Env) := match o with
  | some ((.int j, f), g) => pairE g (rgD tu i j)
  | _ => none
@[simp] theorem lrgb_0 {tu : Bool} {i : Int} {j : Int} {f : Bool} {g : Env} : lrgb tu i (some ((.int j, f), g)) = pairE g (rgD tu i j) := rfl
@[simp] theorem lrgb_n {tu : Bool} {i : Int} : lrgb tu i none = none := rfl
@[simp] theorem lrgb_i {tu : Bool} {i : Int} {cc : Prop} [Decidable cc] {o1 o2 : Option ((D × Bool) × Env)} : lrgb tu i (if cc then o1 else o2) = if cc then lrgb tu i o1 else lrgb tu i o2 := by split <;> rfl
def lrga (Φ : Tab) (tu : Bool) (b : Ex) (o : Option ((D × Bool) × Env)) : Option ((D × Bool) × Env) := match o with
  | some ((.int i, f), g) => lrgb tu i (evE Φ b g)
  | _ => none
@[simp] theorem lrga_0 {Φ : Tab} {tu : Bool} {b : Ex} {i : Int} {f : Bool} {g : Env} : lrga Φ tu b (some ((.int i, f), g)) = lrgb tu i (evE Φ b g) := rfl
@[simp] theorem lrga_n {Φ : Tab} {tu : Bool} {b : Ex} : lrga Φ tu b none = none := rfl
@[simp] theorem lrga_i {Φ : Tab} {tu : Bool} {b : Ex} {cc : Prop} [Decidable cc] {o1 o2 : Option ((D × Bool) × Env)} : lrga Φ tu b (if cc then o1 else o2) = if cc then lrga Φ tu b o1 else lrga Φ tu b o2 := by split <;> rfl
def pop2 (i : Nat) (xs : List D) (g : Env) (o : Option D) : Option ((D × Bool) × Env) := match o with
  | some y => some ((y, false), g.set i (.own (.lst xs.dropLast)))
  | _ => none
@[simp] theorem pop2_0 {i : Nat} {xs : List D} {g : Env} {y : D} : pop2 i xs g (some y) = some ((y, false), g.set i (.own (.lst xs.dropLast))) := rfl
@[simp] theorem pop2_n {i : Nat} {xs : List D} {g : Env} : pop2 i xs g none = none := rfl
@[simp] theorem pop2_i {i : Nat} {xs : List D} {g : Env} {cc : Prop} [Decidable cc] {o1 o2 : Option D} : pop2 i xs g (if cc then o1 else o2) = if cc then pop2 i xs g o1 else pop2 i xs g o2 := by split <;> rfl
def pop1 (i : Nat) (g : Env) (o : Option Slot) : Option ((D × Bool) × Env) := match o with
  | some (.own (.lst xs)) => pop2 i xs g (xs[xs.length - 1]?)
  | _ => none
@[simp] theorem pop1_0 {i : Nat} {g : Env} {xs : List D} : pop1 i g (some (.own (.lst xs))) = pop2 i xs g (xs[xs.length - 1]?) := rfl
@[simp] theorem pop1_n {i : Nat} {g : Env} : pop1 i g none = none := rfl
@[simp] theorem pop1_i {i : Nat} {g : Env} {cc : Prop} [Decidable cc] {o1 o2 : Option Slot} : pop1 i g (if cc then o1 else o2) = if cc then pop1 i g o1 else pop1 i g o2 := by split <;> rfl
def pa4 (i : Nat) (xs : List D) (j : Nat) (g : Env) (o : Option D) : Option ((D × Bool) × Env) := match o with
  | some y => some ((y, false), g.set i (.own (.lst (xs.eraseIdx j))))
  | _ => none
@[simp] theorem pa4_0 {i : Nat} {xs : List D} {j : Nat} {g : Env} {y : D} : pa4 i xs j g (some y) = some ((y, false), g.set i (.own (.lst (xs.eraseIdx j)))) := rfl
@[simp] theorem pa4_n {i : Nat} {xs : List D} {j : Nat} {g : Env} : pa4 i xs j g none = none := rfl
@[simp] theorem pa4_i {i : Nat} {xs : List D} {j : Nat} {g : Env} {cc : Prop} [Decidable cc] {o1 o2 : Option D} : pa4 i xs j g (if cc then o1 else o2) = if cc then pa4 i xs j g o1 else pa4 i xs j g o2 := by split <;> rfl
def pa3 (i : Nat) (xs : List D) (g : Env) (o : Option Nat) : Option ((D × Bool) × Env) := match o with
  | some j => pa4 i xs j g (xs[j]?)
  | _ => none
@[simp] theorem pa3_0 {i : Nat} {xs : List D} {g : Env} {j : Nat} : pa3 i xs g (some j) = pa4 i xs j g (xs[j]?) := rfl
@[simp] theorem pa3_n {i : Nat} {xs : List D} {g : Env} : pa3 i xs g none = none := rfl
@[simp] theorem pa3_i {i : Nat} {xs : List D} {g : Env} {cc : Prop} [Decidable cc] {o1 o2 : Option Nat} : pa3 i xs g (if cc then o1 else o2) = if cc then pa3 i xs g o1 else pa3 i xs g o2 := by split <;> rfl
def pa2 (i : Nat) (k : Int) (g : Env) (o : Option Slot) : Option ((D × Bool) × Env) := match o with
  | some (.own (.lst xs)) => if -(2 ^ 63) ≤ k ∧ k < 2 ^ 63 then pa3 i xs g (ixN xs.length k) else none
  | _ => none
@[simp] theorem pa2_0 {i : Nat} {k : Int} {g : Env} {xs : List D} : pa2 i k g (some (.own (.lst xs))) = if -(2 ^ 63) ≤ k ∧ k < 2 ^ 63 then pa3 i xs g (ixN xs.length k) else none := rfl
@[simp] theorem pa2_n {i : Nat} {k : Int} {g : Env} : pa2 i k g none = none := rfl
@[simp] theorem pa2_i {i : Nat} {k : Int} {g : Env} {cc : Prop} [Decidable cc] {o1 o2 : Option Slot} : pa2 i k g (if cc then o1 else o2) = if cc then pa2 i k g o1 else pa2 i k g o2 := by split <;> rfl
def pa1 (i : Nat) (o : Option ((D × Bool) × Env)) : Option ((D × Bool) × Env) := match o with
  | some ((.int k, f), g) => pa2 i k g (g[i]?)
  | _ => none
@[simp] theorem pa1_0 {i : Nat} {k : Int} {f : Bool} {g : Env} : pa1 i (some ((.int k, f), g)) = pa2 i k g (g[i]?) := rfl
@[simp] theorem pa1_n {i : Nat} : pa1 i none = none := rfl
@[simp] theorem pa1_i {i : Nat} {cc : Prop} [Decidable cc] {o1 o2 : Option ((D × Bool) × Env)} : pa1 i (if cc then o1 else o2) = if cc then pa1 i o1 else pa1 i o2 := by split <;> rfl
def pa0 (Φ : Tab) (i : Nat) (a : Ex) (g : Env) (o : Option Slot) : Option ((D × Bool) × Env) := match o with
  | some (.own (.lst xs)) => pa1 i (evE Φ a g)
  | _ => none
@[simp] theorem pa0_0 {Φ : Tab} {i : Nat} {a : Ex} {g : Env} {xs : List D} : pa0 Φ i a g (some (.own (.lst xs))) = pa1 i (evE Φ a g) := rfl
@[simp] theorem pa0_n {Φ : Tab} {i : Nat} {a : Ex} {g : Env} : pa0 Φ i a g none = none := rfl
@[simp] theorem pa0_i {Φ : Tab} {i : Nat} {a : Ex} {g : Env} {cc : Prop} [Decidable cc] {o1 o2 : Option Slot} : pa0 Φ i a g (if cc then o1 else o2) = if cc then pa0 Φ i a g o1 else pa0 Φ i a g o2 := by split <;> rfl
def lcB (Φ : Tab) (own : List Nat) (t : Tg) (c e : Ex) (x : D) : EM (Option D) := fun γ => match bindT t x γ with
          | some γ2 => match evC Φ c γ2 with
            | some (true, γ3) => match evE Φ e γ3 with
              | some ((y, _), γ4) => some (some y, wipeE γ4 own)
              | none => none
            | some (false, γ3) => some (none, wipeE γ3 own)
            | none => none
          | none => none
def lb3 (own : List Nat) (o : Option ((D × Bool) × Env)) : Option (Option D × Env) := match o with
  | some ((y, f), g) => some (some y, wipeE g own)
  | _ => none
@[simp] theorem lb3_0 {own : List Nat} {y : D} {f : Bool} {g : Env} : lb3 own (some ((y, f), g)) = some (some y, wipeE g own) := rfl
@[simp] theorem lb3_n {own : List Nat} : lb3 own none = none := rfl
@[simp] theorem lb3_i {own : List Nat} {cc : Prop} [Decidable cc] {o1 o2 : Option ((D × Bool) × Env)} : lb3 own (if cc then o1 else o2) = if cc then lb3 own o1 else lb3 own o2 := by split <;> rfl
def lc2 (own : List Nat) (g : Env) (o : Option (List D × Env)) : Option ((D × Bool) × Env) := match o with
  | some (ys, g2) => some ((.lst ys, true), restoreE g own g2)
  | _ => none
@[simp] theorem lc2_0 {own : List Nat} {g : Env} {ys : List D} {g2 : Env} : lc2 own g (some (ys, g2)) = some ((.lst ys, true), restoreE g own g2) := rfl
@[simp] theorem lc2_n {own : List Nat} {g : Env} : lc2 own g none = none := rfl
@[simp] theorem lc2_i {own : List Nat} {g : Env} {cc : Prop} [Decidable cc] {o1 o2 : Option (List D × Env)} : lc2 own g (if cc then o1 else o2) = if cc then lc2 own g o1 else lc2 own g o2 := by split <;> rfl
def lc1 (Φ : Tab) (own : List Nat) (t : Tg) (c : Ex) (e : Ex) (o : Option (List D × Env)) : Option ((D × Bool) × Env) := match o with
  | some (xs, g) => if noOwn g own then lc2 own g (lcRun (lcB Φ own t c e) xs [] (wipeE g own)) else none
  | _ => none
@[simp] theorem lc1_0 {Φ : Tab} {own : List Nat} {t : Tg} {c : Ex} {e : Ex} {xs : List D} {g : Env} : lc1 Φ own t c e (some (xs, g)) = if noOwn g own then lc2 own g (lcRun (lcB Φ own t c e) xs [] (wipeE g own)) else none := rfl
@[simp] theorem lc1_n {Φ : Tab} {own : List Nat} {t : Tg} {c : Ex} {e : Ex} : lc1 Φ own t c e none = none := rfl
@[simp] theorem lc1_i {Φ : Tab} {own : List Nat} {t : Tg} {c : Ex} {e : Ex} {cc : Prop} [Decidable cc] {o1 o2 : Option (List D × Env)} : lc1 Φ own t c e (if cc then o1 else o2) = if cc then lc1 Φ own t c e o1 else lc1 Φ own t c e o2 := by split <;> rfl
def lb2 (Φ : Tab) (own : List Nat) (e : Ex) (o : Option (Bool × Env)) : Option (Option D × Env) := match o with
  | some (true, g) => lb3 own (evE Φ e g)
  | some (false, g) => some (none, wipeE g own)
  | none => none
@[simp] theorem lb2_d {Φ : Tab} {own : List Nat} {e : Ex} {bb : Bool} {g : Env} : lb2 Φ own e (some (bb, g)) = if bb = true then lb3 own (evE Φ e g) else some (none, wipeE g own) := by cases bb <;> rfl
@[simp] theorem lb2_n {Φ : Tab} {own : List Nat} {e : Ex} : lb2 Φ own e none = none := rfl
@[simp] theorem lb2_i {Φ : Tab} {own : List Nat} {e : Ex} {cc : Prop} [Decidable cc] {o1 o2 : Option (Bool × Env)} : lb2 Φ own e (if cc then o1 else o2) = if cc then lb2 Φ own e o1 else lb2 Φ own e o2 := by split <;> rfl
def lb1 (Φ : Tab) (own : List Nat) (c : Ex) (e : Ex) (o : Option Env) : Option (Option D × Env) := match o with
  | some g => lb2 Φ own e (evC Φ c g)
  | _ => none
@[simp] theorem lb1_0 {Φ : Tab} {own : List Nat} {c : Ex} {e : Ex} {g : Env} : lb1 Φ own c e (some g) = lb2 Φ own e (evC Φ c g) := rfl
@[simp] theorem lb1_n {Φ : Tab} {own : List Nat} {c : Ex} {e : Ex} : lb1 Φ own c e none = none := rfl
@[simp] theorem lb1_i {Φ : Tab} {own : List Nat} {c : Ex} {e : Ex} {cc : Prop} [Decidable cc] {o1 o2 : Option Env} : lb1 Φ own c e (if cc then o1 else o2) = if cc then lb1 Φ own c e o1 else lb1 Φ own c e o2 := by split <;> rfl
theorem lcB_eq {Φ : Tab} {own : List Nat} {t : Tg} {c e : Ex} {x : D} {γ : Env} : lcB Φ own t c e x γ = lb1 Φ own c e (bindT t x γ) := by
  rw [lcB]
  rcases bindT t x γ with _ | γ2
  · rfl
  · show _ = lb2 Φ own e (evC Φ c γ2)
    rcases h : evC Φ c γ2 with _ | ⟨_ | _, γ3⟩
    · simp only [h]; rfl
    · simp only [h]; rfl
    · simp only [h]
      show _ = lb3 own (evE Φ e γ3)
      rcases h2 : evE Φ e γ3 with _ | ⟨⟨_, _⟩, _⟩ <;> simp only [h2] <;> rfl
def r1  (o : Option ((D × Bool) × Env)) : Option (List D × Env) := match o with
  | some ((.int j, f), g) => if rngOk j then some (rangeD 0 j.toNat, g) else none
  | _ => none
@[simp] theorem r1_0  {j : Int} {f : Bool} {g : Env} : r1  (some ((.int j, f), g)) = if rngOk j then some (rangeD 0 j.toNat, g) else none := rfl
@[simp] theorem r1_n  : r1  none = none := rfl
@[simp] theorem r1_i  {cc : Prop} [Decidable cc] {o1 o2 : Option ((D × Bool) × Env)} : r1  (if cc then o1 else o2) = if cc then r1  o1 else r1  o2 := by split <;> rfl
def r2b (i : Int) (o : Option ((D × Bool) × Env)) : Option (List D × Env) := match o with
  | some ((.int j, f), g) => if rngOk i ∧ rngOk j then some (rangeD i (j - i).toNat, g) else none
  | _ => none
@[simp] theorem r2b_0 {i : Int} {j : Int} {f : Bool} {g : Env} : r2b i (some ((.int j, f), g)) = if rngOk i ∧ rngOk j then some (rangeD i (j - i).toNat, g) else none := rfl
@[simp] theorem r2b_n {i : Int} : r2b i none = none := rfl
@[simp] theorem r2b_i {i : Int} {cc : Prop} [Decidable cc] {o1 o2 : Option ((D × Bool) × Env)} : r2b i (if cc then o1 else o2) = if cc then r2b i o1 else r2b i o2 := by split <;> rfl
def r2a (Φ : Tab) (b : Ex) (o : Option ((D × Bool) × Env)) : Option (List D × Env) := match o with
  | some ((.int i, f), g) => r2b i (evE Φ b g)
  | _ => none
@[simp] theorem r2a_0 {Φ : Tab} {b : Ex} {i : Int} {f : Bool} {g : Env} : r2a Φ b (some ((.int i, f), g)) = r2b i (evE Φ b g) := rfl
@[simp] theorem r2a_n {Φ : Tab} {b : Ex} : r2a Φ b none = none := rfl
@[simp] theorem r2a_i {Φ : Tab} {b : Ex} {cc : Prop} [Decidable cc] {o1 o2 : Option ((D × Bool) × Env)} : r2a Φ b (if cc then o1 else o2) = if cc then r2a Φ b o1 else r2a Φ b o2 := by split <;> rfl
def sq1  (o : Option ((D × Bool) × Env)) : Option (List D × Env) := match o with
  | some ((d, f), g) => (itemsD d).map fun xs => (xs, g)
  | _ => none
@[simp] theorem sq1_0  {d : D} {f : Bool} {g : Env} : sq1  (some ((d, f), g)) = (itemsD d).map fun xs => (xs, g) := rfl
@[simp] theorem sq1_n  : sq1  none = none := rfl
@[simp] theorem sq1_i  {cc : Prop} [Decidable cc] {o1 o2 : Option ((D × Bool) × Env)} : sq1  (if cc then o1 else o2) = if cc then sq1  o1 else sq1  o2 := by split <;> rfl
def asg1 (i : Nat) (o : Option ((D × Bool) × Env)) : Option Out := match o with
  | some ((d, f), g) => some (.nx (g.set i (nsl i f d)))
  | _ => none
@[simp] theorem asg1_0 {i : Nat} {d : D} {f : Bool} {g : Env} : asg1 i (some ((d, f), g)) = some (.nx (g.set i (nsl i f d))) := rfl
@[simp] theorem asg1_n {i : Nat} : asg1 i none = none := rfl
@[simp] theorem asg1_i {i : Nat} {cc : Prop} [Decidable cc] {o1 o2 : Option ((D × Bool) × Env)} : asg1 i (if cc then o1 else o2) = if cc then asg1 i o1 else asg1 i o2 := by split <;> rfl
def nxO  (o : Option Env) : Option Out := match o with
  | some g => some (.nx g)
  | _ => none
@[simp] theorem nxO_0  {g : Env} : nxO  (some g) = some (.nx g) := rfl
@[simp] theorem nxO_n  : nxO  none = none := rfl
@[simp] theorem nxO_i  {cc : Prop} [Decidable cc] {o1 o2 : Option Env} : nxO  (if cc then o1 else o2) = if cc then nxO  o1 else nxO  o2 := by split <;> rfl
def par1 (is : List Nat) (o : Option (List (D × Bool) × Env)) : Option Out := match o with
  | some (ds, g) => nxO (setP is ds g)
  | _ => none
@[simp] theorem par1_0 {is : List Nat} {ds : List (D × Bool)} {g : Env} : par1 is (some (ds, g)) = nxO (setP is ds g) := rfl
@[simp] theorem par1_n {is : List Nat} : par1 is none = none := rfl
@[simp] theorem par1_i {is : List Nat} {cc : Prop} [Decidable cc] {o1 o2 : Option (List (D × Bool) × Env)} : par1 is (if cc then o1 else o2) = if cc then par1 is o1 else par1 is o2 := by split <;> rfl
def unp1 (t : Tg) (o : Option ((D × Bool) × Env)) : Option Out := match o with
  | some ((d, f), g) => nxO (bindT t d g)
  | _ => none
@[simp] theorem unp1_0 {t : Tg} {d : D} {f : Bool} {g : Env} : unp1 t (some ((d, f), g)) = nxO (bindT t d g) := rfl
@[simp] theorem unp1_n {t : Tg} : unp1 t none = none := rfl
@[simp] theorem unp1_i {t : Tg} {cc : Prop} [Decidable cc] {o1 o2 : Option ((D × Bool) × Env)} : unp1 t (if cc then o1 else o2) = if cc then unp1 t o1 else unp1 t o2 := by split <;> rfl
def aug2 (i : Nat) (p : Operator) (x : Int) (o : Option ((D × Bool) × Env)) : Option Out := match o with
  | some ((.int y, f), g) => match p with
        | .Add => some (.nx (g.set i (.val (.int (x + y)))))
        | .Sub => some (.nx (g.set i (.val (.int (x - y)))))
        | .Mult => if MulOk x y then some (.nx (g.set i (.val (.int (x * y))))) else none
        | _ => none
  | _ => none
@[simp] theorem aug2_0 {i : Nat} {p : Operator} {x : Int} {y : Int} {f : Bool} {g : Env} : aug2 i p x (some ((.int y, f), g)) = match p with
        | .Add => some (.nx (g.set i (.val (.int (x + y)))))
        | .Sub => some (.nx (g.set i (.val (.int (x - y)))))
        | .Mult => if MulOk x y then some (.nx (g.set i (.val (.int (x * y))))) else none
        | _ => none := rfl
@[simp] theorem aug2_n {i : Nat} {p : Operator} {x : Int} : aug2 i p x none = none := rfl
@[simp] theorem aug2_i {i : Nat} {p : Operator} {x : Int} {cc : Prop} [Decidable cc] {o1 o2 : Option ((D × Bool) × Env)} : aug2 i p x (if cc then o1 else o2) = if cc then aug2 i p x o1 else aug2 i p x o2 := by split <;> rfl
def aug1 (Φ : Tab) (i : Nat) (p : Operator) (e : Ex) (g : Env) (o : Option Slot) : Option Out := match o with
  | some (.val (.int x)) => aug2 i p x (evE Φ e g)
  | _ => none
@[simp] theorem aug1_0 {Φ : Tab} {i : Nat} {p : Operator} {e : Ex} {g : Env} {x : Int} : aug1 Φ i p e g (some (.val (.int x))) = aug2 i p x (evE Φ e g) := rfl
@[simp] theorem aug1_n {Φ : Tab} {i : Nat} {p : Operator} {e : Ex} {g : Env} : aug1 Φ i p e g none = none := rfl
@[simp] theorem aug1_i {Φ : Tab} {i : Nat} {p : Operator} {e : Ex} {g : Env} {cc : Prop} [Decidable cc] {o1 o2 : Option Slot} : aug1 Φ i p e g (if cc then o1 else o2) = if cc then aug1 Φ i p e g o1 else aug1 Φ i p e g o2 := by split <;> rfl
def six5 (i : Nat) (y : D) (xs : List D) (g : Env) (o : Option Nat) : Option Out := match o with
  | some m => some (.nx (g.set i (.own (.lst (xs.set m y)))))
  | _ => none
@[simp] theorem six5_0 {i : Nat} {y : D} {xs : List D} {g : Env} {m : Nat} : six5 i y xs g (some m) = some (.nx (g.set i (.own (.lst (xs.set m y))))) := rfl
@[simp] theorem six5_n {i : Nat} {y : D} {xs : List D} {g : Env} : six5 i y xs g none = none := rfl
@[simp] theorem six5_i {i : Nat} {y : D} {xs : List D} {g : Env} {cc : Prop} [Decidable cc] {o1 o2 : Option Nat} : six5 i y xs g (if cc then o1 else o2) = if cc then six5 i y xs g o1 else six5 i y xs g o2 := by split <;> rfl
def six4 (i : Nat) (y : D) (j : Int) (g : Env) (o : Option Slot) : Option Out := match o with
  | some (.own (.lst xs)) => six5 i y xs g (ixN xs.length j)
  | _ => none
@[simp] theorem six4_0 {i : Nat} {y : D} {j : Int} {g : Env} {xs : List D} : six4 i y j g (some (.own (.lst xs))) = six5 i y xs g (ixN xs.length j) := rfl
@[simp] theorem six4_n {i : Nat} {y : D} {j : Int} {g : Env} : six4 i y j g none = none := rfl
@[simp] theorem six4_i {i : Nat} {y : D} {j : Int} {g : Env} {cc : Prop} [Decidable cc] {o1 o2 : Option Slot} : six4 i y j g (if cc then o1 else o2) = if cc then six4 i y j g o1 else six4 i y j g o2 := by split <;> rfl
def six3 (i : Nat) (y : D) (o : Option ((D × Bool) × Env)) : Option Out := match o with
  | some ((.int j, f), g) => six4 i y j g (g[i]?)
  | _ => none
@[simp] theorem six3_0 {i : Nat} {y : D} {j : Int} {f : Bool} {g : Env} : six3 i y (some ((.int j, f), g)) = six4 i y j g (g[i]?) := rfl
@[simp] theorem six3_n {i : Nat} {y : D} : six3 i y none = none := rfl
@[simp] theorem six3_i {i : Nat} {y : D} {cc : Prop} [Decidable cc] {o1 o2 : Option ((D × Bool) × Env)} : six3 i y (if cc then o1 else o2) = if cc then six3 i y o1 else six3 i y o2 := by split <;> rfl
def six2 (Φ : Tab) (i : Nat) (e : Ex) (y : D) (g : Env) (o : Option Slot) : Option Out := match o with
  | some (.own d) => six3 i y (evE Φ e g)
  | _ => none
@[simp] theorem six2_0 {Φ : Tab} {i : Nat} {e : Ex} {y : D} {g : Env} {d : D} : six2 Φ i e y g (some (.own d)) = six3 i y (evE Φ e g) := rfl
@[simp] theorem six2_n {Φ : Tab} {i : Nat} {e : Ex} {y : D} {g : Env} : six2 Φ i e y g none = none := rfl
@[simp] theorem six2_i {Φ : Tab} {i : Nat} {e : Ex} {y : D} {g : Env} {cc : Prop} [Decidable cc] {o1 o2 : Option Slot} : six2 Φ i e y g (if cc then o1 else o2) = if cc then six2 Φ i e y g o1 else six2 Φ i e y g o2 := by split <;> rfl
def six1 (Φ : Tab) (i : Nat) (e : Ex) (o : Option ((D × Bool) × Env)) : Option Out := match o with
  | some ((y, f), g) => six2 Φ i e y g (g[i]?)
  | _ => none
@[simp] theorem six1_0 {Φ : Tab} {i : Nat} {e : Ex} {y : D} {f : Bool} {g : Env} : six1 Φ i e (some ((y, f), g)) = six2 Φ i e y g (g[i]?) := rfl
@[simp] theorem six1_n {Φ : Tab} {i : Nat} {e : Ex} : six1 Φ i e none = none := rfl
@[simp] theorem six1_i {Φ : Tab} {i : Nat} {e : Ex} {cc : Prop} [Decidable cc] {o1 o2 : Option ((D × Bool) × Env)} : six1 Φ i e (if cc then o1 else o2) = if cc then six1 Φ i e o1 else six1 Φ i e o2 := by split <;> rfl
def app3 (i : Nat) (y : D) (g : Env) (o : Option Slot) : Option Out := match o with
  | some (.own (.lst xs)) => if xs.length < sizeLine then some (.nx (g.set i (.own (.lst (xs ++ [y]))))) else none
  | _ => none
@[simp] theorem app3_0 {i : Nat} {y : D} {g : Env} {xs : List D} : app3 i y g (some (.own (.lst xs))) = if xs.length < sizeLine then some (.nx (g.set i (.own (.lst (xs ++ [y]))))) else none := rfl
@[simp] theorem app3_n {i : Nat} {y : D} {g : Env} : app3 i y g none = none := rfl
@[simp] theorem app3_i {i : Nat} {y : D} {g : Env} {cc : Prop} [Decidable cc] {o1 o2 : Option Slot} : app3 i y g (if cc then o1 else o2) = if cc then app3 i y g o1 else app3 i y g o2 := by split <;> rfl
def app2 (i : Nat) (o : Option ((D × Bool) × Env)) : Option Out := match o with
  | some ((y, f), g) => app3 i y g (g[i]?)
  | _ => none
@[simp] theorem app2_0 {i : Nat} {y : D} {f : Bool} {g : Env} : app2 i (some ((y, f), g)) = app3 i y g (g[i]?) := rfl
@[simp] theorem app2_n {i : Nat} : app2 i none = none := rfl
@[simp] theorem app2_i {i : Nat} {cc : Prop} [Decidable cc] {o1 o2 : Option ((D × Bool) × Env)} : app2 i (if cc then o1 else o2) = if cc then app2 i o1 else app2 i o2 := by split <;> rfl
def app1 (Φ : Tab) (i : Nat) (e : Ex) (g : Env) (o : Option Slot) : Option Out := match o with
  | some (.own (.lst xs)) => app2 i (evE Φ e g)
  | _ => none
@[simp] theorem app1_0 {Φ : Tab} {i : Nat} {e : Ex} {g : Env} {xs : List D} : app1 Φ i e g (some (.own (.lst xs))) = app2 i (evE Φ e g) := rfl
@[simp] theorem app1_n {Φ : Tab} {i : Nat} {e : Ex} {g : Env} : app1 Φ i e g none = none := rfl
@[simp] theorem app1_i {Φ : Tab} {i : Nat} {e : Ex} {g : Env} {cc : Prop} [Decidable cc] {o1 o2 : Option Slot} : app1 Φ i e g (if cc then o1 else o2) = if cc then app1 Φ i e g o1 else app1 Φ i e g o2 := by split <;> rfl
def ext3 (i : Nat) (ys : List D) (g : Env) (o : Option Slot) : Option Out := match o with
  | some (.own (.lst xs)) => if xs.length + ys.length ≤ sizeLine then some (.nx (g.set i (.own (.lst (xs ++ ys))))) else none
  | _ => none
@[simp] theorem ext3_0 {i : Nat} {ys : List D} {g : Env} {xs : List D} : ext3 i ys g (some (.own (.lst xs))) = if xs.length + ys.length ≤ sizeLine then some (.nx (g.set i (.own (.lst (xs ++ ys))))) else none := rfl
@[simp] theorem ext3_n {i : Nat} {ys : List D} {g : Env} : ext3 i ys g none = none := rfl
@[simp] theorem ext3_i {i : Nat} {ys : List D} {g : Env} {cc : Prop} [Decidable cc] {o1 o2 : Option Slot} : ext3 i ys g (if cc then o1 else o2) = if cc then ext3 i ys g o1 else ext3 i ys g o2 := by split <;> rfl
def ext2 (i : Nat) (o : Option ((D × Bool) × Env)) : Option Out := match o with
  | some ((.lst ys, f), g) => ext3 i ys g (g[i]?)
  | _ => none
@[simp] theorem ext2_0 {i : Nat} {ys : List D} {f : Bool} {g : Env} : ext2 i (some ((.lst ys, f), g)) = ext3 i ys g (g[i]?) := rfl
@[simp] theorem ext2_n {i : Nat} : ext2 i none = none := rfl
@[simp] theorem ext2_i {i : Nat} {cc : Prop} [Decidable cc] {o1 o2 : Option ((D × Bool) × Env)} : ext2 i (if cc then o1 else o2) = if cc then ext2 i o1 else ext2 i o2 := by split <;> rfl
def ext1 (Φ : Tab) (i : Nat) (e : Ex) (g : Env) (o : Option Slot) : Option Out := match o with
  | some (.own (.lst xs)) => ext2 i (evE Φ e g)
  | _ => none
@[simp] theorem ext1_0 {Φ : Tab} {i : Nat} {e : Ex} {g : Env} {xs : List D} : ext1 Φ i e g (some (.own (.lst xs))) = ext2 i (evE Φ e g) := rfl
@[simp] theorem ext1_n {Φ : Tab} {i : Nat} {e : Ex} {g : Env} : ext1 Φ i e g none = none := rfl
@[simp] theorem ext1_i {Φ : Tab} {i : Nat} {e : Ex} {g : Env} {cc : Prop} [Decidable cc] {o1 o2 : Option Slot} : ext1 Φ i e g (if cc then o1 else o2) = if cc then ext1 Φ i e g o1 else ext1 Φ i e g o2 := by split <;> rfl
def drp1  (o : Option ((D × Bool) × Env)) : Option Out := match o with
  | some (r, g) => some (.nx g)
  | _ => none
@[simp] theorem drp1_0  {r : D × Bool} {g : Env} : drp1  (some (r, g)) = some (.nx g) := rfl
@[simp] theorem drp1_n  : drp1  none = none := rfl
@[simp] theorem drp1_i  {cc : Prop} [Decidable cc] {o1 o2 : Option ((D × Bool) × Env)} : drp1  (if cc then o1 else o2) = if cc then drp1  o1 else drp1  o2 := by split <;> rfl
def iff1 (Φ : Tab) (n : Nat) (a : Sm) (b : Sm) (o : Option (Bool × Env)) : Option Out := match o with
  | some (true, g) => ex Φ n a g
  | some (false, g) => ex Φ n b g
  | none => none
@[simp] theorem iff1_d {Φ : Tab} {n : Nat} {a : Sm} {b : Sm} {bb : Bool} {g : Env} : iff1 Φ n a b (some (bb, g)) = if bb = true then ex Φ n a g else ex Φ n b g := by cases bb <;> rfl
@[simp] theorem iff1_n {Φ : Tab} {n : Nat} {a : Sm} {b : Sm} : iff1 Φ n a b none = none := rfl
@[simp] theorem iff1_i {Φ : Tab} {n : Nat} {a : Sm} {b : Sm} {cc : Prop} [Decidable cc] {o1 o2 : Option (Bool × Env)} : iff1 Φ n a b (if cc then o1 else o2) = if cc then iff1 Φ n a b o1 else iff1 Φ n a b o2 := by split <;> rfl
def forB (Φ : Tab) (n : Nat) (t : Tg) (b : Sm) (x : D) (γ : Env) : Option Out := match bindT t x γ with
        | some γ2 => ex Φ n b γ2
        | none => none
def fb1 (Φ : Tab) (n : Nat) (b : Sm) (o : Option Env) : Option Out := match o with
  | some g => ex Φ n b g
  | _ => none
@[simp] theorem fb1_0 {Φ : Tab} {n : Nat} {b : Sm} {g : Env} : fb1 Φ n b (some g) = ex Φ n b g := rfl
@[simp] theorem fb1_n {Φ : Tab} {n : Nat} {b : Sm} : fb1 Φ n b none = none := rfl
@[simp] theorem fb1_i {Φ : Tab} {n : Nat} {b : Sm} {cc : Prop} [Decidable cc] {o1 o2 : Option Env} : fb1 Φ n b (if cc then o1 else o2) = if cc then fb1 Φ n b o1 else fb1 Φ n b o2 := by split <;> rfl
theorem forB_eq {Φ : Tab} {n : Nat} {t : Tg} {b : Sm} {x : D} {γ : Env} : forB Φ n t b x γ = fb1 Φ n b (bindT t x γ) := by rw [forB]; rcases bindT t x γ with _ | _ <;> rfl
def for1 (Φ : Tab) (n : Nat) (t : Tg) (b : Sm) (wl : List Nat) (o : Option (List D × Env)) : Option Out := match o with
  | some (xs, g) => forRun (forB Φ n t b) wl xs (wipeE g wl)
  | _ => none
@[simp] theorem for1_0 {Φ : Tab} {n : Nat} {t : Tg} {b : Sm} {wl : List Nat} {xs : List D} {g : Env} : for1 Φ n t b wl (some (xs, g)) = forRun (forB Φ n t b) wl xs (wipeE g wl) := rfl
@[simp] theorem for1_n {Φ : Tab} {n : Nat} {t : Tg} {b : Sm} {wl : List Nat} : for1 Φ n t b wl none = none := rfl
@[simp] theorem for1_i {Φ : Tab} {n : Nat} {t : Tg} {b : Sm} {wl : List Nat} {cc : Prop} [Decidable cc] {o1 o2 : Option (List D × Env)} : for1 Φ n t b wl (if cc then o1 else o2) = if cc then for1 Φ n t b wl o1 else for1 Φ n t b wl o2 := by split <;> rfl
def ret1  (o : Option ((D × Bool) × Env)) : Option Out := match o with
  | some ((d, f), g) => some (.rt d f g)
  | _ => none
@[simp] theorem ret1_0  {d : D} {f : Bool} {g : Env} : ret1  (some ((d, f), g)) = some (.rt d f g) := rfl
@[simp] theorem ret1_n  : ret1  none = none := rfl
@[simp] theorem ret1_i  {cc : Prop} [Decidable cc] {o1 o2 : Option ((D × Bool) × Env)} : ret1  (if cc then o1 else o2) = if cc then ret1  o1 else ret1  o2 := by split <;> rfl
def reto1 (g : Env) (o : Option Slot) : Option Out := match o with
  | some (.own d) => some (.rt d true g)
  | some (.val d) => some (.rt d false g)
  | _ => none
@[simp] theorem reto1_0 {g : Env} {d : D} : reto1 g (some (.own d)) = some (.rt d true g) := rfl
@[simp] theorem reto1_1 {g : Env} {d : D} : reto1 g (some (.val d)) = some (.rt d false g) := rfl
@[simp] theorem reto1_n {g : Env} : reto1 g none = none := rfl
@[simp] theorem reto1_i {g : Env} {cc : Prop} [Decidable cc] {o1 o2 : Option Slot} : reto1 g (if cc then o1 else o2) = if cc then reto1 g o1 else reto1 g o2 := by split <;> rfl
def seqS (Φ : Tab) (n : Nat) (r : Sm) (o : Option Out) : Option Out := match o with
  | some (.nx g) => ex Φ n r g
  | o => o
@[simp] theorem seqS_nx {Φ : Tab} {n : Nat} {r : Sm} {g : Env} : seqS Φ n r (some (.nx g)) = ex Φ n r g := rfl
@[simp] theorem seqS_rt {Φ : Tab} {n : Nat} {r : Sm} {d : D} {f : Bool} {g : Env} : seqS Φ n r (some (.rt d f g)) = some (.rt d f g) := rfl
@[simp] theorem seqS_bk {Φ : Tab} {n : Nat} {r : Sm} {g : Env} : seqS Φ n r (some (.bk g)) = some (.bk g) := rfl
@[simp] theorem seqS_ct {Φ : Tab} {n : Nat} {r : Sm} {g : Env} : seqS Φ n r (some (.ct g)) = some (.ct g) := rfl
@[simp] theorem seqS_n {Φ : Tab} {n : Nat} {r : Sm} : seqS Φ n r none = none := rfl
@[simp] theorem seqS_i {Φ : Tab} {n : Nat} {r : Sm} {c : Prop} [Decidable c] {a b : Option Out} : seqS Φ n r (if c then a else b) = if c then seqS Φ n r a else seqS Φ n r b := by split <;> rfl

@[simp] theorem opd_brw {r : EM (D × Bool)} {γ : Env} {i : Nat} : opd (.brw i) r γ = opdS i γ (γ[i]?) := by
  show (match γ[i]? with | some (.own _) => some (Opd.s i, γ) | some (.val d) => some (Opd.v d, γ) | _ => none) = _
  rcases γ[i]? with _ | ⟨_ | _ | _⟩ <;> rfl
@[simp] theorem part_nil {r : EM (D × Bool)} {γ : Env} : part .nil r γ = some (none, γ) := rfl
@[simp] theorem opd_cst {r : EM (D × Bool)} {γ : Env} {c : D} : opd (.cst c) r γ = asV (r γ) := by unfold opd asV; cases r γ <;> rfl
@[simp] theorem part_cst {r : EM (D × Bool)} {γ : Env} {c : D} : part (.cst c) r γ = prt (r γ) := by unfold part prt; rcases r γ with _ | ⟨⟨_ | _ | _ | _ | _ | _ | _ | _ | _, _⟩, _⟩ <;> rfl
@[simp] theorem opd_gcst {r : EM (D × Bool)} {γ : Env} {x : Str} {c : D} : opd (.gcst x c) r γ = asV (r γ) := by unfold opd asV; cases r γ <;> rfl
@[simp] theorem part_gcst {r : EM (D × Bool)} {γ : Env} {x : Str} {c : D} : part (.gcst x c) r γ = prt (r γ) := by unfold part prt; rcases r γ with _ | ⟨⟨_ | _ | _ | _ | _ | _ | _ | _ | _, _⟩, _⟩ <;> rfl
@[simp] theorem opd_var {r : EM (D × Bool)} {γ : Env} {i : Nat} : opd (.var i) r γ = asV (r γ) := by unfold opd asV; cases r γ <;> rfl
@[simp] theorem part_var {r : EM (D × Bool)} {γ : Env} {i : Nat} : part (.var i) r γ = prt (r γ) := by unfold part prt; rcases r γ with _ | ⟨⟨_ | _ | _ | _ | _ | _ | _ | _ | _, _⟩, _⟩ <;> rfl
@[simp] theorem opd_bin {r : EM (D × Bool)} {γ : Env} {p : Operator} {a b : Ex} : opd (.bin p a b) r γ = asV (r γ) := by unfold opd asV; cases r γ <;> rfl
@[simp] theorem part_bin {r : EM (D × Bool)} {γ : Env} {p : Operator} {a b : Ex} : part (.bin p a b) r γ = prt (r γ) := by unfold part prt; rcases r γ with _ | ⟨⟨_ | _ | _ | _ | _ | _ | _ | _ | _, _⟩, _⟩ <;> rfl
@[simp] theorem opd_neg {r : EM (D × Bool)} {γ : Env} {a : Ex} : opd (.neg a) r γ = asV (r γ) := by unfold opd asV; cases r γ <;> rfl
@[simp] theorem part_neg {r : EM (D × Bool)} {γ : Env} {a : Ex} : part (.neg a) r γ = prt (r γ) := by unfold part prt; rcases r γ with _ | ⟨⟨_ | _ | _ | _ | _ | _ | _ | _ | _, _⟩, _⟩ <;> rfl
@[simp] theorem opd_cmp {r : EM (D × Bool)} {γ : Env} {p : CmpOp} {a b : Ex} : opd (.cmp p a b) r γ = asV (r γ) := by unfold opd asV; cases r γ <;> rfl
@[simp] theorem part_cmp {r : EM (D × Bool)} {γ : Env} {p : CmpOp} {a b : Ex} : part (.cmp p a b) r γ = prt (r γ) := by unfold part prt; rcases r γ with _ | ⟨⟨_ | _ | _ | _ | _ | _ | _ | _ | _, _⟩, _⟩ <;> rfl
@[simp] theorem opd_chn {r : EM (D × Bool)} {γ : Env} {p q : CmpOp} {a b c : Ex} : opd (.chn p q a b c) r γ = asV (r γ) := by unfold opd asV; cases r γ <;> rfl
@[simp] theorem part_chn {r : EM (D × Bool)} {γ : Env} {p q : CmpOp} {a b c : Ex} : part (.chn p q a b c) r γ = prt (r γ) := by unfold part prt; rcases r γ with _ | ⟨⟨_ | _ | _ | _ | _ | _ | _ | _ | _, _⟩, _⟩ <;> rfl
@[simp] theorem opd_idx {r : EM (D × Bool)} {γ : Env} {a i : Ex} : opd (.idx a i) r γ = asV (r γ) := by unfold opd asV; cases r γ <;> rfl
@[simp] theorem part_idx {r : EM (D × Bool)} {γ : Env} {a i : Ex} : part (.idx a i) r γ = prt (r γ) := by unfold part prt; rcases r γ with _ | ⟨⟨_ | _ | _ | _ | _ | _ | _ | _ | _, _⟩, _⟩ <;> rfl
@[simp] theorem opd_slc {r : EM (D × Bool)} {γ : Env} {a lo hi : Ex} : opd (.slc a lo hi) r γ = asV (r γ) := by unfold opd asV; cases r γ <;> rfl
@[simp] theorem part_slc {r : EM (D × Bool)} {γ : Env} {a lo hi : Ex} : part (.slc a lo hi) r γ = prt (r γ) := by unfold part prt; rcases r γ with _ | ⟨⟨_ | _ | _ | _ | _ | _ | _ | _ | _, _⟩, _⟩ <;> rfl
@[simp] theorem opd_rev {r : EM (D × Bool)} {γ : Env} {a : Ex} : opd (.rev a) r γ = asV (r γ) := by unfold opd asV; cases r γ <;> rfl
@[simp] theorem part_rev {r : EM (D × Bool)} {γ : Env} {a : Ex} : part (.rev a) r γ = prt (r γ) := by unfold part prt; rcases r γ with _ | ⟨⟨_ | _ | _ | _ | _ | _ | _ | _ | _, _⟩, _⟩ <;> rfl
@[simp] theorem opd_land {r : EM (D × Bool)} {γ : Env} {a b : Ex} : opd (.land a b) r γ = asV (r γ) := by unfold opd asV; cases r γ <;> rfl
@[simp] theorem part_land {r : EM (D × Bool)} {γ : Env} {a b : Ex} : part (.land a b) r γ = prt (r γ) := by unfold part prt; rcases r γ with _ | ⟨⟨_ | _ | _ | _ | _ | _ | _ | _ | _, _⟩, _⟩ <;> rfl
@[simp] theorem opd_lor {r : EM (D × Bool)} {γ : Env} {a b : Ex} : opd (.lor a b) r γ = asV (r γ) := by unfold opd asV; cases r γ <;> rfl
@[simp] theorem part_lor {r : EM (D × Bool)} {γ : Env} {a b : Ex} : part (.lor a b) r γ = prt (r γ) := by unfold part prt; rcases r γ with _ | ⟨⟨_ | _ | _ | _ | _ | _ | _ | _ | _, _⟩, _⟩ <;> rfl
@[simp] theorem opd_ite {r : EM (D × Bool)} {γ : Env} {c a b : Ex} : opd (.ite c a b) r γ = asV (r γ) := by unfold opd asV; cases r γ <;> rfl
@[simp] theorem part_ite {r : EM (D × Bool)} {γ : Env} {c a b : Ex} : part (.ite c a b) r γ = prt (r γ) := by unfold part prt; rcases r γ with _ | ⟨⟨_ | _ | _ | _ | _ | _ | _ | _ | _, _⟩, _⟩ <;> rfl
@[simp] theorem opd_vnot {r : EM (D × Bool)} {γ : Env} {c : Ex} : opd (.vnot c) r γ = asV (r γ) := by unfold opd asV; cases r γ <;> rfl
@[simp] theorem part_vnot {r : EM (D × Bool)} {γ : Env} {c : Ex} : part (.vnot c) r γ = prt (r γ) := by unfold part prt; rcases r γ with _ | ⟨⟨_ | _ | _ | _ | _ | _ | _ | _ | _, _⟩, _⟩ <;> rfl
@[simp] theorem opd_tup {r : EM (D × Bool)} {γ : Env} {as : Ex} : opd (.tup as) r γ = asV (r γ) := by unfold opd asV; cases r γ <;> rfl
@[simp] theorem part_tup {r : EM (D × Bool)} {γ : Env} {as : Ex} : part (.tup as) r γ = prt (r γ) := by unfold part prt; rcases r γ with _ | ⟨⟨_ | _ | _ | _ | _ | _ | _ | _ | _, _⟩, _⟩ <;> rfl
@[simp] theorem opd_lst {r : EM (D × Bool)} {γ : Env} {as : Ex} : opd (.lst as) r γ = asV (r γ) := by unfold opd asV; cases r γ <;> rfl
@[simp] theorem part_lst {r : EM (D × Bool)} {γ : Env} {as : Ex} : part (.lst as) r γ = prt (r γ) := by unfold part prt; rcases r γ with _ | ⟨⟨_ | _ | _ | _ | _ | _ | _ | _ | _, _⟩, _⟩ <;> rfl
@[simp] theorem opd_bi {r : EM (D × Bool)} {γ : Env} {f : Bi} {as : Ex} : opd (.bi f as) r γ = asV (r γ) := by unfold opd asV; cases r γ <;> rfl
@[simp] theorem part_bi {r : EM (D × Bool)} {γ : Env} {f : Bi} {as : Ex} : part (.bi f as) r γ = prt (r γ) := by unfold part prt; rcases r γ with _ | ⟨⟨_ | _ | _ | _ | _ | _ | _ | _ | _, _⟩, _⟩ <;> rfl
@[simp] theorem opd_isi {r : EM (D × Bool)} {γ : Env} {T : Ty} {a : Ex} : opd (.isi T a) r γ = asV (r γ) := by unfold opd asV; cases r γ <;> rfl
@[simp] theorem part_isi {r : EM (D × Bool)} {γ : Env} {T : Ty} {a : Ex} : part (.isi T a) r γ = prt (r γ) := by unfold part prt; rcases r γ with _ | ⟨⟨_ | _ | _ | _ | _ | _ | _ | _ | _, _⟩, _⟩ <;> rfl
@[simp] theorem opd_call {r : EM (D × Bool)} {γ : Env} {k : Nat} {as : Ex} : opd (.call k as) r γ = asV (r γ) := by unfold opd asV; cases r γ <;> rfl
@[simp] theorem part_call {r : EM (D × Bool)} {γ : Env} {k : Nat} {as : Ex} : part (.call k as) r γ = prt (r γ) := by unfold part prt; rcases r γ with _ | ⟨⟨_ | _ | _ | _ | _ | _ | _ | _ | _, _⟩, _⟩ <;> rfl
@[simp] theorem opd_callm {r : EM (D × Bool)} {γ : Env} {k i : Nat} {as : Ex} : opd (.callm k i as) r γ = asV (r γ) := by unfold opd asV; cases r γ <;> rfl
@[simp] theorem part_callm {r : EM (D × Bool)} {γ : Env} {k i : Nat} {as : Ex} : part (.callm k i as) r γ = prt (r γ) := by unfold part prt; rcases r γ with _ | ⟨⟨_ | _ | _ | _ | _ | _ | _ | _ | _, _⟩, _⟩ <;> rfl
@[simp] theorem opd_lc {r : EM (D × Bool)} {γ : Env} {own : List Nat} {t : Tg} {it c e : Ex} : opd (.lc own t it c e) r γ = asV (r γ) := by unfold opd asV; cases r γ <;> rfl
@[simp] theorem part_lc {r : EM (D × Bool)} {γ : Env} {own : List Nat} {t : Tg} {it c e : Ex} : part (.lc own t it c e) r γ = prt (r γ) := by unfold part prt; rcases r γ with _ | ⟨⟨_ | _ | _ | _ | _ | _ | _ | _ | _, _⟩, _⟩ <;> rfl
@[simp] theorem opd_lrg {r : EM (D × Bool)} {γ : Env} {tu : Bool} {a : Ex} : opd (.lrg tu a) r γ = asV (r γ) := by unfold opd asV; cases r γ <;> rfl
@[simp] theorem part_lrg {r : EM (D × Bool)} {γ : Env} {tu : Bool} {a : Ex} : part (.lrg tu a) r γ = prt (r γ) := by unfold part prt; rcases r γ with _ | ⟨⟨_ | _ | _ | _ | _ | _ | _ | _ | _, _⟩, _⟩ <;> rfl
@[simp] theorem opd_lrg2 {r : EM (D × Bool)} {γ : Env} {tu : Bool} {a b : Ex} : opd (.lrg2 tu a b) r γ = asV (r γ) := by unfold opd asV; cases r γ <;> rfl
@[simp] theorem part_lrg2 {r : EM (D × Bool)} {γ : Env} {tu : Bool} {a b : Ex} : part (.lrg2 tu a b) r γ = prt (r γ) := by unfold part prt; rcases r γ with _ | ⟨⟨_ | _ | _ | _ | _ | _ | _ | _ | _, _⟩, _⟩ <;> rfl
@[simp] theorem opd_pop {r : EM (D × Bool)} {γ : Env} {i : Nat} : opd (.pop i) r γ = asV (r γ) := by unfold opd asV; cases r γ <;> rfl
@[simp] theorem part_pop {r : EM (D × Bool)} {γ : Env} {i : Nat} : part (.pop i) r γ = prt (r γ) := by unfold part prt; rcases r γ with _ | ⟨⟨_ | _ | _ | _ | _ | _ | _ | _ | _, _⟩, _⟩ <;> rfl
@[simp] theorem opd_popAt {r : EM (D × Bool)} {γ : Env} {i : Nat} {a : Ex} : opd (.popAt i a) r γ = asV (r γ) := by unfold opd asV; cases r γ <;> rfl
@[simp] theorem part_popAt {r : EM (D × Bool)} {γ : Env} {i : Nat} {a : Ex} : part (.popAt i a) r γ = prt (r γ) := by unfold part prt; rcases r γ with _ | ⟨⟨_ | _ | _ | _ | _ | _ | _ | _ | _, _⟩, _⟩ <;> rfl
@[simp] theorem res_v {γ : Env} {d : D} : resolve γ (.v d) = some d := rfl
@[simp] theorem res_s {γ : Env} {i : Nat} : resolve γ (.s i) = resS (γ[i]?) := by
  show (match γ[i]? with | some (.own d) => some d | _ => none) = _
  rcases γ[i]? with _ | ⟨_ | _ | _⟩ <;> rfl
@[simp] theorem ev_var {Φ : Tab} {γ : Env} {i : Nat} : evE Φ (.var i) γ = varS i γ (γ[i]?) := by rw [evE]; unfold evVar varS; rcases γ[i]? with _ | ⟨_ | _ | _⟩ <;> rfl
@[simp] theorem ev_cst {Φ : Tab} {γ : Env} {c : D} : evE Φ (.cst c) γ = some ((c, false), γ) := by rw [evE]
@[simp] theorem ev_gcst {Φ : Tab} {γ : Env} {c : D} {x : Str} : evE Φ (.gcst x c) γ = some ((c, false), γ) := by rw [evE]
theorem bin_r {γ : Env} {x y : Opd} {p : Operator} : ret2 (opBin p) x y γ = bin3 p y γ (resolve γ x) := by
  unfold ret2 bin3
  rcases resolve γ x with _ | x
  · rfl
  · rcases h : resolve γ y with _ | y
    · simp only [h]; rfl
    · simp only [h, bin4, pairE]; rcases opBin p x y with _ | r <;> rfl
theorem cmp_r {γ : Env} {x y : Opd} {p : CmpOp} : ret2 (fun x y => (opCmp p x y).map fun k => (.bl k, false)) x y γ = cmp3 p y γ (resolve γ x) := by
  unfold ret2 cmp3
  rcases resolve γ x with _ | x
  · rfl
  · rcases h : resolve γ y with _ | y
    · simp only [h]; rfl
    · simp only [h, cmp4, pairBV]; rcases opCmp p x y with _ | r <;> rfl
theorem idx_r {γ : Env} {x y : Opd} : ret2 (fun x y => (opIdx x y).map fun d => (d, false)) x y γ = ix3 y γ (resolve γ x) := by
  unfold ret2 ix3
  rcases resolve γ x with _ | x
  · rfl
  · rcases h : resolve γ y with _ | y
    · simp only [h]; rfl
    · simp only [h, ix4, pairN]; rcases opIdx x y with _ | r <;> rfl
@[simp] theorem ev_bin {Φ : Tab} {γ : Env} {p : Operator} {a b : Ex} : evE Φ (.bin p a b) γ = bin1 Φ p b (opd a (evE Φ a) γ) := by
  rw [evE]
  rcases opd a (evE Φ a) γ with _ | ⟨x, γ1⟩
  · rfl
  · show _ = bin2 p x (opd b (evE Φ b) γ1)
    rcases h : opd b (evE Φ b) γ1 with _ | ⟨y, γ2⟩
    · simp only [h]; rfl
    · simp only [h]; exact bin_r
@[simp] theorem ev_cmp {Φ : Tab} {γ : Env} {p : CmpOp} {a b : Ex} : evE Φ (.cmp p a b) γ = cmp1 Φ p b (opd a (evE Φ a) γ) := by
  rw [evE]
  rcases opd a (evE Φ a) γ with _ | ⟨x, γ1⟩
  · rfl
  · show _ = cmp2 p x (opd b (evE Φ b) γ1)
    rcases h : opd b (evE Φ b) γ1 with _ | ⟨y, γ2⟩
    · simp only [h]; rfl
    · simp only [h]; exact cmp_r
@[simp] theorem ev_idx {Φ : Tab} {γ : Env}  {a b : Ex} : evE Φ (.idx a b) γ = ix1 Φ b (opd a (evE Φ a) γ) := by
  rw [evE]
  rcases opd a (evE Φ a) γ with _ | ⟨x, γ1⟩
  · rfl
  · show _ = ix2 x (opd b (evE Φ b) γ1)
    rcases h : opd b (evE Φ b) γ1 with _ | ⟨y, γ2⟩
    · simp only [h]; rfl
    · simp only [h]; exact idx_r
@[simp] theorem ev_neg {Φ : Tab} {γ : Env} {a : Ex} : evE Φ (.neg a) γ = neg1 (evE Φ a γ) := by rw [evE]; rcases evE Φ a γ with _ | ⟨⟨_ | _ | _ | _ | _ | _ | _ | _ | _, _⟩, _⟩ <;> rfl
@[simp] theorem ev_chn {Φ : Tab} {γ : Env} {p q : CmpOp} {a b c : Ex} : evE Φ (.chn p q a b c) γ = ch1 Φ p q b c (evE Φ a γ) := by
  rw [evE]
  rcases evE Φ a γ with _ | ⟨⟨x, f⟩, γ1⟩
  · rfl
  · show _ = ch2 Φ p q x c (evE Φ b γ1)
    rcases h : evE Φ b γ1 with _ | ⟨⟨y, f2⟩, γ2⟩
    · simp only [h]; rfl
    · simp only [h]
      show _ = ch3 Φ q y c γ2 (opCmp p x y)
      rcases opCmp p x y with _ | _ | _
      · rfl
      · rfl
      · show _ = ch4 q y (evE Φ c γ2)
        rcases h3 : evE Φ c γ2 with _ | ⟨⟨z, f3⟩, γ3⟩
        · simp only [h3]; rfl
        · simp only [h3]
          show _ = pairBV γ3 (opCmp q y z)
          rcases opCmp q y z with _ | _ <;> rfl
@[simp] theorem ev_slc {Φ : Tab} {γ : Env} {a lo hi : Ex} : evE Φ (.slc a lo hi) γ = sl1 Φ lo hi (opd a (evE Φ a) γ) := by
  rw [evE]
  rcases opd a (evE Φ a) γ with _ | ⟨x, γ1⟩
  · rfl
  · show _ = sl2 Φ x hi (part lo (evE Φ lo) γ1)
    rcases h : part lo (evE Φ lo) γ1 with _ | ⟨l, γ2⟩
    · simp only [h]; rfl
    · simp only [h]
      show _ = sl3 x l (part hi (evE Φ hi) γ2)
      rcases h3 : part hi (evE Φ hi) γ2 with _ | ⟨k, γ3⟩
      · simp only [h3]; rfl
      · simp only [h3]
        show _ = sl4 l k γ3 (resolve γ3 x)
        rcases h4 : resolve γ3 x with _ | d
        · simp only [h4]; rfl
        · simp only [h4]
          show _ = pairE γ3 (opSlc d l k)
          rcases opSlc d l k with _ | _ <;> rfl
@[simp] theorem ev_rev {Φ : Tab} {γ : Env}  {a : Ex} : evE Φ (.rev a) γ = rv1 (opd a (evE Φ a) γ) := by
  rw [evE]
  rcases opd a (evE Φ a) γ with _ | ⟨x, γ1⟩
  · rfl
  · show _ = rv2 γ1 (resolve γ1 x)
    rcases h : resolve γ1 x with _ | d
    · simp only [h]; rfl
    · simp only [h]
      cases d <;> rfl
@[simp] theorem ev_vnot {Φ : Tab} {γ : Env}  {a : Ex} : evE Φ (.vnot a) γ = not1 (opd a (evE Φ a) γ) := by
  rw [evE]
  rcases opd a (evE Φ a) γ with _ | ⟨x, γ1⟩
  · rfl
  · show _ = not2 γ1 (resolve γ1 x)
    rcases h : resolve γ1 x with _ | d
    · simp only [h]; rfl
    · simp only [h]
      show _ = pairBV γ1 ((truD d).map fun k => !k)
      rcases truD d with _ | _ <;> rfl
@[simp] theorem ev_isi {Φ : Tab} {γ : Env} {T : Ty} {a : Ex} : evE Φ (.isi T a) γ = isi1 T (opd a (evE Φ a) γ) := by
  rw [evE]
  rcases opd a (evE Φ a) γ with _ | ⟨x, γ1⟩
  · rfl
  · show _ = isi2 T γ1 (resolve γ1 x)
    rcases h : resolve γ1 x with _ | d
    · simp only [h]; rfl
    · simp only [h]
      show _ = pairBV γ1 (isiD T d)
      rcases isiD T d with _ | _ <;> rfl
@[simp] theorem ev_land {Φ : Tab} {γ : Env} {a b : Ex} : evE Φ (.land a b) γ = la1 Φ b (evE Φ a γ) := by
  rw [evE]
  rcases evE Φ a γ with _ | ⟨⟨x, f⟩, γ1⟩
  · rfl
  · show _ = la2 Φ x b γ1 (truD x)
    rcases h : truD x with _ | _ | _
    · simp only [h]; rfl
    · simp only [h]
      first | rfl | (show _ = dull (evE Φ b γ1); rcases evE Φ b γ1 with _ | ⟨⟨_, _⟩, _⟩ <;> rfl)
    · simp only [h]
      first | rfl | (show _ = dull (evE Φ b γ1); rcases evE Φ b γ1 with _ | ⟨⟨_, _⟩, _⟩ <;> rfl)
@[simp] theorem ev_lor {Φ : Tab} {γ : Env} {a b : Ex} : evE Φ (.lor a b) γ = lo1 Φ b (evE Φ a γ) := by
  rw [evE]
  rcases evE Φ a γ with _ | ⟨⟨x, f⟩, γ1⟩
  · rfl
  · show _ = lo2 Φ x b γ1 (truD x)
    rcases h : truD x with _ | _ | _
    · simp only [h]; rfl
    · simp only [h]
      first | rfl | (show _ = dull (evE Φ b γ1); rcases evE Φ b γ1 with _ | ⟨⟨_, _⟩, _⟩ <;> rfl)
    · simp only [h]
      first | rfl | (show _ = dull (evE Φ b γ1); rcases evE Φ b γ1 with _ | ⟨⟨_, _⟩, _⟩ <;> rfl)
@[simp] theorem ev_ite {Φ : Tab} {γ : Env} {c a b : Ex} : evE Φ (.ite c a b) γ = ite1 Φ a b (evC Φ c γ) := by rw [evE]; rcases evC Φ c γ with _ | ⟨_ | _, _⟩ <;> rfl
@[simp] theorem ev_tup {Φ : Tab} {γ : Env} {as : Ex} : evE Φ (.tup as) γ = tup1 (evS Φ as γ) := by rw [evE]; rcases evS Φ as γ with _ | ⟨_, _⟩ <;> rfl
@[simp] theorem ev_lst {Φ : Tab} {γ : Env} {as : Ex} : evE Φ (.lst as) γ = lst1 (evS Φ as γ) := by rw [evE]; rcases evS Φ as γ with _ | ⟨_, _⟩ <;> rfl
@[simp] theorem ev_bi {Φ : Tab} {γ : Env} {f : Bi} {as : Ex} : evE Φ (.bi f as) γ = bi1 f (evBs Φ as γ) := by
  rw [evE]
  rcases evBs Φ as γ with _ | ⟨os, γ1⟩
  · rfl
  · show _ = bi2 f γ1 (resolves γ1 os)
    rcases h : resolves γ1 os with _ | ds
    · simp only [h]; rfl
    · simp only [h]
      show _ = pairE γ1 (opBi f ds)
      rcases opBi f ds with _ | _ <;> rfl
@[simp] theorem ev_call {Φ : Tab} {γ : Env} {j : Nat} {as : Ex} : evE Φ (.call j as) γ = call1 Φ j (evS Φ as γ) := by
  rw [evE]
  rcases evS Φ as γ with _ | ⟨ds, γ1⟩
  · rfl
  · show _ = pairE γ1 (Φ.fn j (ds.map (·.1)))
    show Option.map (fun r => (r, γ1)) (Φ.fn j (ds.map (·.1))) = pairE γ1 (Φ.fn j (ds.map (·.1)))
    generalize Φ.fn j (ds.map (·.1)) = o
    cases o <;> rfl
@[simp] theorem ev_callm {Φ : Tab} {γ : Env} {j i : Nat} {as : Ex} : evE Φ (.callm j i as) γ = cm0 Φ j i as γ (γ[i]?) := by
  rw [evE]
  rcases γ[i]? with _ | ⟨_ | _ | d⟩
  · rfl
  · rfl
  · rfl
  · show _ = cm1 Φ j i (evS Φ as γ)
    rcases h : evS Φ as γ with _ | ⟨ds, γ1⟩
    · simp only [h]; rfl
    · simp only [h]
      show _ = cm2 Φ j i ds γ1 (γ1[i]?)
      rcases h1 : γ1[i]? with _ | ⟨_ | _ | d1⟩
      · simp only [h1]; rfl
      · simp only [h1]; rfl
      · simp only [h1]; rfl
      · simp only [h1]
        show _ = cm3 i γ1 (Φ.io j d1 (ds.map (·.1)))
        rcases h2 : Φ.io j d1 (ds.map (·.1)) with _ | ⟨_, _⟩
        · simp only [h2]; rfl
        · simp only [h2]; rfl
@[simp] theorem ev_lc {Φ : Tab} {γ : Env} {own : List Nat} {t : Tg} {it c e : Ex} : evE Φ (.lc own t it c e) γ = lc1 Φ own t c e (evI Φ it γ) := by
  rw [evE]
  rcases evI Φ it γ with _ | ⟨xs, γ1⟩
  · rfl
  · show _ = (if noOwn γ1 own then lc2 own γ1 (lcRun (lcB Φ own t c e) xs [] (wipeE γ1 own)) else none)
    show (if noOwn γ1 own then (match lcRun (lcB Φ own t c e) xs [] (wipeE γ1 own) with
        | some (ys, γ2) => some ((D.lst ys, true), restoreE γ1 own γ2)
        | none => none) else none) = _
    split
    · rcases lcRun (lcB Φ own t c e) xs [] (wipeE γ1 own) with _ | ⟨_, _⟩ <;> rfl
    · rfl
@[simp] theorem ev_lrg {Φ : Tab} {γ : Env} {tu : Bool} {a : Ex} : evE Φ (.lrg tu a) γ = lrg1 tu (evE Φ a γ) := by
  rw [evE]
  rcases evE Φ a γ with _ | ⟨⟨_ | _ | j | _ | _ | _ | _ | _ | _, _⟩, γ1⟩ <;> first | rfl | (show Option.map (fun r => (r, γ1)) (rgD tu 0 j) = pairE γ1 (rgD tu 0 j); cases rgD tu 0 j <;> rfl)
@[simp] theorem ev_lrg2 {Φ : Tab} {γ : Env} {tu : Bool} {a b : Ex} : evE Φ (.lrg2 tu a b) γ = lrga Φ tu b (evE Φ a γ) := by
  rw [evE]
  rcases evE Φ a γ with _ | ⟨⟨_ | _ | i | _ | _ | _ | _ | _ | _, _⟩, γ1⟩ <;> first | rfl | skip
  show _ = lrgb tu i (evE Φ b γ1)
  rcases h : evE Φ b γ1 with _ | ⟨⟨_ | _ | j | _ | _ | _ | _ | _ | _, _⟩, γ2⟩ <;> simp only [h] <;> first | rfl | (show Option.map (fun r => (r, γ2)) (rgD tu i j) = pairE γ2 (rgD tu i j); cases rgD tu i j <;> rfl)
@[simp] theorem ev_pop {Φ : Tab} {γ : Env} {i : Nat} : evE Φ (.pop i) γ = pop1 i γ (γ[i]?) := by
  rw [evE]
  rcases γ[i]? with _ | ⟨_ | _ | ⟨_ | _ | _ | _ | _ | xs | _ | _ | _⟩⟩ <;> first | rfl | skip
  show _ = pop2 i xs γ (xs[xs.length - 1]?)
  rcases h : xs[xs.length - 1]? with _ | _ <;> simp only [h] <;> rfl
@[simp] theorem ev_popAt {Φ : Tab} {γ : Env} {i : Nat} {a : Ex} : evE Φ (.popAt i a) γ = pa0 Φ i a γ (γ[i]?) := by
  rw [evE]
  rcases γ[i]? with _ | ⟨_ | _ | ⟨_ | _ | _ | _ | _ | xs | _ | _ | _⟩⟩ <;> first | rfl | skip
  show _ = pa1 i (evE Φ a γ)
  rcases h : evE Φ a γ with _ | ⟨⟨_ | _ | k | _ | _ | _ | _ | _ | _, _⟩, γ1⟩ <;> simp only [h] <;> first | rfl | skip
  show _ = pa2 i k γ1 (γ1[i]?)
  rcases h1 : γ1[i]? with _ | ⟨_ | _ | ⟨_ | _ | _ | _ | _ | xs | _ | _ | _⟩⟩ <;> simp only [h1] <;> first | rfl | skip
  show _ = if -(2 ^ 63) ≤ k ∧ k < 2 ^ 63 then pa3 i xs γ1 (ixN xs.length k) else none
  split
  · rcases ixN xs.length k with _ | j
    · rfl
    · show _ = pa4 i xs j γ1 (xs[j]?)
      rcases h2 : xs[j]? with _ | _ <;> simp only [h2] <;> rfl
  · rfl
@[simp] theorem evC_tr {Φ : Tab} {γ : Env} {a : Ex} : evC Φ (.tr a) γ = tr1 (opd a (evE Φ a) γ) := by
  rw [evC]
  rcases opd a (evE Φ a) γ with _ | ⟨x, γ1⟩
  · rfl
  · show _ = tr2 γ1 (resolve γ1 x)
    rcases h : resolve γ1 x with _ | d
    · simp only [h]; rfl
    · simp only [h]
      show _ = pairB γ1 (truD d)
      rcases truD d with _ | _ <;> rfl
@[simp] theorem evC_ccmp {Φ : Tab} {γ : Env} {p : CmpOp} {a b : Ex} : evC Φ (.ccmp p a b) γ = cc1 Φ p b (opd a (evE Φ a) γ) := by
  rw [evC]
  rcases opd a (evE Φ a) γ with _ | ⟨x, γ1⟩
  · rfl
  · show _ = cc2 p x (opd b (evE Φ b) γ1)
    rcases h : opd b (evE Φ b) γ1 with _ | ⟨y, γ2⟩
    · simp only [h]; rfl
    · simp only [h]
      show _ = cc3 p y γ2 (resolve γ2 x)
      rcases resolve γ2 x with _ | d
      · rfl
      · show _ = cc4 p d γ2 (resolve γ2 y)
        rcases h2 : resolve γ2 y with _ | e
        · simp only [h2]; rfl
        · simp only [h2]
          show _ = pairB γ2 (opCmp p d e)
          rcases opCmp p d e with _ | _ <;> rfl
@[simp] theorem evC_cchn {Φ : Tab} {γ : Env} {p q : CmpOp} {a b c : Ex} : evC Φ (.cchn p q a b c) γ = cd1 Φ p q b c (evE Φ a γ) := by
  rw [evC]
  rcases evE Φ a γ with _ | ⟨⟨x, f⟩, γ1⟩
  · rfl
  · show _ = cd2 Φ p q x c (evE Φ b γ1)
    rcases h : evE Φ b γ1 with _ | ⟨⟨y, f2⟩, γ2⟩
    · simp only [h]; rfl
    · simp only [h]
      show _ = cd3 Φ q y c γ2 (opCmp p x y)
      rcases opCmp p x y with _ | _ | _
      · rfl
      · rfl
      · show _ = cd4 q y (evE Φ c γ2)
        rcases h3 : evE Φ c γ2 with _ | ⟨⟨z, f3⟩, γ3⟩
        · simp only [h3]; rfl
        · simp only [h3]
          show _ = pairB γ3 (opCmp q y z)
          rcases opCmp q y z with _ | _ <;> rfl
@[simp] theorem evC_cand {Φ : Tab} {γ : Env} {a b : Ex} : evC Φ (.cand a b) γ = cand1 Φ b (evC Φ a γ) := by rw [evC]; rcases evC Φ a γ with _ | ⟨_ | _, _⟩ <;> rfl
@[simp] theorem evC_cor {Φ : Tab} {γ : Env} {a b : Ex} : evC Φ (.cor a b) γ = cor1 Φ b (evC Φ a γ) := by rw [evC]; rcases evC Φ a γ with _ | ⟨_ | _, _⟩ <;> rfl
@[simp] theorem evC_cnot {Φ : Tab} {γ : Env} {a : Ex} : evC Φ (.cnot a) γ = cnot1 (evC Φ a γ) := by rw [evC]; rcases evC Φ a γ with _ | ⟨_, _⟩ <;> rfl
@[simp] theorem evC_nil {Φ : Tab} {γ : Env} : evC Φ .nil γ = some (true, γ) := by rw [evC]
@[simp] theorem evS_nil {Φ : Tab} {γ : Env} : evS Φ .nil γ = some ([], γ) := by rw [evS]
@[simp] theorem evS_cons {Φ : Tab} {γ : Env} {a r : Ex} : evS Φ (.cons a r) γ = s1 Φ r (evE Φ a γ) := by
  rw [evS]
  rcases evE Φ a γ with _ | ⟨x, γ1⟩
  · rfl
  · show _ = s2 x (evS Φ r γ1)
    rcases h : evS Φ r γ1 with _ | ⟨_, _⟩ <;> simp only [h] <;> rfl
@[simp] theorem evB_nil {Φ : Tab} {γ : Env} : evBs Φ .nil γ = some ([], γ) := by rw [evBs]
@[simp] theorem evB_cons {Φ : Tab} {γ : Env} {a r : Ex} : evBs Φ (.cons a r) γ = b1 Φ r (opd a (evE Φ a) γ) := by
  rw [evBs]
  rcases opd a (evE Φ a) γ with _ | ⟨x, γ1⟩
  · rfl
  · show _ = b2 x (evBs Φ r γ1)
    rcases h : evBs Φ r γ1 with _ | ⟨_, _⟩ <;> simp only [h] <;> rfl
@[simp] theorem evI_1 {Φ : Tab} {γ : Env} {a : Ex} : evI Φ (.rng1 a) γ = r1 (evE Φ a γ) := by rw [evI]; rcases evE Φ a γ with _ | ⟨⟨_ | _ | _ | _ | _ | _ | _ | _ | _, _⟩, _⟩ <;> rfl
@[simp] theorem evI_2 {Φ : Tab} {γ : Env} {a b : Ex} : evI Φ (.rng2 a b) γ = r2a Φ b (evE Φ a γ) := by
  rw [evI]
  rcases evE Φ a γ with _ | ⟨⟨_ | _ | i | _ | _ | _ | _ | _ | _, _⟩, γ1⟩ <;> first | rfl | skip
@[simp] theorem evI_s {Φ : Tab} {γ : Env} {a : Ex} : evI Φ (.seq a) γ = sq1 (evE Φ a γ) := by rw [evI]; rcases evE Φ a γ with _ | ⟨⟨_, _⟩, _⟩ <;> rfl
section
variable {Φ : Tab} {γ : Env} {n : Nat}
@[simp] theorem ex_asg {i : Nat} {e : Ex} : ex Φ n (.asg i e) γ = asg1 i (evE Φ e γ) := by rw [ex]; rcases evE Φ e γ with _ | ⟨⟨_, _⟩, _⟩ <;> rfl
@[simp] theorem ex_asl {i : Nat} {e : Ex} : ex Φ n (.asl i e) γ = asg1 i (evE Φ e γ) := by rw [ex]; rcases evE Φ e γ with _ | ⟨⟨_, _⟩, _⟩ <;> rfl
@[simp] theorem ex_par {s : Bool} {is : List Nat} {e : Ex} : ex Φ n (.par s is e) γ = par1 is (evS Φ e γ) := by
  rw [ex]
  rcases evS Φ e γ with _ | ⟨ds, γ1⟩
  · rfl
  · show _ = nxO (setP is ds γ1)
    show Option.map _ (setP is ds γ1) = _
    rcases setP is ds γ1 with _ | _ <;> rfl
@[simp] theorem ex_unp {t : Tg} {e : Ex} : ex Φ n (.unp t e) γ = unp1 t (evE Φ e γ) := by
  rw [ex]
  rcases evE Φ e γ with _ | ⟨⟨d, f⟩, γ1⟩
  · rfl
  · show Option.map _ (bindT t d γ1) = nxO (bindT t d γ1)
    rcases bindT t d γ1 with _ | _ <;> rfl
@[simp] theorem ex_aug {i : Nat} {p : Operator} {e : Ex} : ex Φ n (.aug i p e) γ = aug1 Φ i p e γ (γ[i]?) := by
  rw [ex]
  rcases γ[i]? with _ | ⟨_ | ⟨_ | _ | x | _ | _ | _ | _ | _ | _⟩ | _⟩ <;> first | rfl | skip
@[simp] theorem ex_six {i : Nat} {k e : Ex} : ex Φ n (.six i k e) γ = six1 Φ i k (evE Φ e γ) := by
  rw [ex]
  rcases evE Φ e γ with _ | ⟨⟨y, f⟩, γ1⟩
  · rfl
  · show _ = six2 Φ i k y γ1 (γ1[i]?)
    rcases h : γ1[i]? with _ | ⟨_ | _ | d⟩ <;> simp only [h] <;> first | rfl | skip
    show _ = six3 i y (evE Φ k γ1)
    rcases h1 : evE Φ k γ1 with _ | ⟨⟨_ | _ | j | _ | _ | _ | _ | _ | _, _⟩, γ2⟩ <;> simp only [h1] <;> first | rfl | skip
    show _ = six4 i y j γ2 (γ2[i]?)
    rcases h2 : γ2[i]? with _ | ⟨_ | _ | ⟨_ | _ | _ | _ | _ | xs | _ | _ | _⟩⟩ <;> simp only [h2] <;> first | rfl | skip
    show _ = six5 i y xs γ2 (ixN xs.length j)
    rcases ixN xs.length j with _ | _ <;> rfl
@[simp] theorem ex_app {i : Nat} {e : Ex} : ex Φ n (.app i e) γ = app1 Φ i e γ (γ[i]?) := by
  rw [ex]
  rcases γ[i]? with _ | ⟨_ | _ | ⟨_ | _ | _ | _ | _ | xs | _ | _ | _⟩⟩ <;> first | rfl | skip
  show _ = app2 i (evE Φ e γ)
  rcases h1 : evE Φ e γ with _ | ⟨⟨y, _⟩, γ2⟩ <;> simp only [h1] <;> first | rfl | skip
@[simp] theorem ex_ext {i : Nat} {e : Ex} : ex Φ n (.ext i e) γ = ext1 Φ i e γ (γ[i]?) := by
  rw [ex]
  rcases γ[i]? with _ | ⟨_ | _ | ⟨_ | _ | _ | _ | _ | xs | _ | _ | _⟩⟩ <;> first | rfl | skip
@[simp] theorem ex_drop {e : Ex} : ex Φ n (.drop e) γ = drp1 (evE Φ e γ) := by rw [ex]; rcases evE Φ e γ with _ | ⟨_, _⟩ <;> rfl
@[simp] theorem ex_iff {c : Ex} {a b : Sm} : ex Φ n (.iff c a b) γ = iff1 Φ n a b (evC Φ c γ) := by rw [ex]; rcases evC Φ c γ with _ | ⟨_ | _, _⟩ <;> rfl
@[simp] theorem ex_whl {c : Ex} {b : Sm} {w : List Nat} : ex Φ n (.whl c b w) γ = whRun (evC Φ c) (ex Φ n b) w n (wipeE γ w) := by rw [ex]
@[simp] theorem ex_for {t : Tg} {it : Ex} {b : Sm} {w : List Nat} : ex Φ n (.foR t it b w) γ = for1 Φ n t b w (evI Φ it γ) := by rw [ex]; rcases evI Φ it γ with _ | ⟨_, _⟩ <;> rfl
@[simp] theorem ex_ret {e : Ex} : ex Φ n (.ret e) γ = ret1 (evE Φ e γ) := by rw [ex]; rcases evE Φ e γ with _ | ⟨⟨_, _⟩, _⟩ <;> rfl
@[simp] theorem ex_reto {i : Nat} : ex Φ n (.reto i) γ = reto1 γ (γ[i]?) := by rw [ex]; rcases γ[i]? with _ | ⟨_ | _ | _⟩ <;> rfl
@[simp] theorem ex_retn : ex Φ n .retn γ = some (.rt .non false γ) := by rw [ex]
@[simp] theorem ex_brk : ex Φ n .brk γ = some (.bk γ) := by rw [ex]
@[simp] theorem ex_cnt : ex Φ n .cnt γ = some (.ct γ) := by rw [ex]
@[simp] theorem ex_pass : ex Φ n .pass γ = some (.nx γ) := by rw [ex]
@[simp] theorem ex_nil : ex Φ n .nil γ = some (.nx γ) := by rw [ex]
@[simp] theorem ex_cons {a r : Sm} : ex Φ n (.cons a r) γ = seqS Φ n r (ex Φ n a γ) := by rw [ex]; rcases ex Φ n a γ with _ | ⟨_ | _ | _ | _⟩ <;> rfl
end
/-! a def's value -/
def runR (o : Option Out) : Rs := match o with
  | some (.rt d f _) => some (d, f)
  | some (.nx _) => some (.non, false)
  | _ => none
@[simp] theorem runR_rt {d : D} {f : Bool} {g : Env} : runR (some (.rt d f g)) = some (d, f) := rfl
@[simp] theorem runR_nx {g : Env} : runR (some (.nx g)) = some (.non, false) := rfl
@[simp] theorem runR_i {c : Prop} [Decidable c] {a b : Option Out} : runR (if c then a else b) = if c then runR a else runR b := by split <;> rfl
theorem run_eq {Φ : Tab} {n m : Nat} {b : Sm} {ds : List D} : run Φ n m b ds = runR (ex Φ n b (start0 m ds)) := by unfold run runR; rcases ex Φ n b (start0 m ds) with _ | ⟨_ | _ | _ | _⟩ <;> rfl
def runQ (o : Option Out) : Option (D × D) := match o with
  | some (.rt d false γ) => (ownAt γ 0).map fun t' => (d, t')
  | some (.nx γ) => (ownAt γ 0).map fun t' => (.non, t')
  | _ => none
@[simp] theorem runQ_rt {d : D} {g : Env} : runQ (some (.rt d false g)) = (ownAt g 0).map fun t' => (d, t') := rfl
@[simp] theorem runQ_nx {g : Env} : runQ (some (.nx g)) = (ownAt g 0).map fun t' => (.non, t') := rfl
@[simp] theorem runQ_i {c : Prop} [Decidable c] {a b : Option Out} : runQ (if c then a else b) = if c then runQ a else runQ b := by split <;> rfl
theorem runM_eq {Φ : Tab} {n m : Nat} {b : Sm} {t : D} {ds : List D} : runM Φ n m b t ds = runQ (ex Φ n b ((start0 m (t :: ds)).set 0 (.own t))) := by unfold runM runQ; rcases ex Φ n b ((start0 m (t :: ds)).set 0 (.own t)) with _ | ⟨_ | ⟨_, _ | _, _⟩ | _ | _⟩ <;> rfl
theorem fn_eq {dfs : List Df} {n L j : Nat} {d : Df} {vs : List D} (h : dfs[j]? = some d) (hi : d.io = false) (hl : vs.length = d.ps.length) : (Tb dfs n (L + 1)).fn j vs = runR (ex (Tb dfs n L) n d.ir (start0 d.N.length vs)) := by
  show (match dfs[j]? with
      | some d => if d.io = false ∧ vs.length = d.ps.length then run (Tb dfs n L) n d.N.length d.ir vs else none
      | none => none) = _
  rw [h]
  exact (if_pos ⟨hi, hl⟩).trans run_eq
theorem io_eq {dfs : List Df} {n L j : Nat} {d : Df} {t : D} {vs : List D} (h : dfs[j]? = some d) (hi : d.io = true) (hl : vs.length + 1 = d.ps.length) : (Tb dfs n (L + 1)).io j t vs = runQ (ex (Tb dfs n L) n d.ir ((start0 d.N.length (t :: vs)).set 0 (.own t))) := by
  show (match dfs[j]? with
      | some d => if d.io = true ∧ vs.length + 1 = d.ps.length then runM (Tb dfs n L) n d.N.length d.ir t vs else none
      | none => none) = _
  rw [h]
  exact (if_pos ⟨hi, hl⟩).trans runM_eq
@[simp] theorem start0_nil {m : Nat} : start0 m [] = List.replicate m .no := rfl
@[simp] theorem start0_cons {m : Nat} {d : D} {ds : List D} : start0 (m + 1) (d :: ds) = .val d :: start0 m ds := by unfold start0; simp
end Z
namespace Z
open PySem PySem.Spec L2

/-! ### the operators by equations -/
section
variable {i j : Int} {a b : Bool} {xs ys : List D} {d e : D}
@[simp] theorem ob_add : opBin .Add (.int i) (.int j) = some (.int (i + j), false) := rfl
@[simp] theorem ob_sub : opBin .Sub (.int i) (.int j) = some (.int (i - j), false) := rfl
@[simp] theorem ob_mul : opBin .Mult (.int i) (.int j) = if MulOk i j then some (.int (i * j), false) else none := rfl
@[simp] theorem ob_div : opBin .FloorDiv (.int i) (.int j) = if DivOk j then some (.int (i / j), false) else none := rfl
@[simp] theorem ob_mod : opBin .Mod (.int i) (.int j) = if 0 < j then some (.int (i % j), false) else none := rfl
@[simp] theorem ob_pow : opBin .Pow (.int i) (.int j) = if PowOk i j then some (.int (i ^ j.toNat), false) else none := rfl
@[simp] theorem ob_addl : opBin .Add (.lst xs) (.lst ys) = if xs.length + ys.length ≤ sizeLine then some (.lst (xs ++ ys), true) else none := rfl
@[simp] theorem ob_addt : opBin .Add (.tup xs) (.tup ys) = if xs.length + ys.length ≤ sizeLine then some (.tup (xs ++ ys), false) else none := rfl
@[simp] theorem ob_mull : opBin .Mult (.lst xs) (.int j) = if RepOk xs.length j then some (.lst (List.replicate j.toNat xs).flatten, true) else none := rfl
theorem MulOk.l (h0 : -18446744073709551616 < i) (h1 : i < 18446744073709551616) : MulOk i j := .inl (.inl ⟨h0, h1⟩)
theorem MulOk.r (h0 : -18446744073709551616 < j) (h1 : j < 18446744073709551616) : MulOk i j := .inl (.inr ⟨h0, h1⟩)
theorem DivOk.s (h0 : 0 < j) (h1 : j < 1073741824) : DivOk j := ⟨h0, .inl h1⟩
theorem rngOk.s (h0 : -4611686018427387904 ≤ j) (h1 : j < 4611686018427387904) : rngOk j := ⟨h0, h1⟩
theorem RepOk.s {n : Nat} (h0 : 0 ≤ j) (h1 : n * j.toNat ≤ 16777216) (h2 : j < 9223372036854775808) : RepOk n j := ⟨by omega, h2, by rw [sizeLine_eq]; exact h1⟩
theorem sz (n : Nat) (h : n ≤ 16777216) : n ≤ sizeLine := by rw [sizeLine_eq]; exact h
@[simp] theorem sz0 : (sizeLine = 0) = False := by rw [sizeLine_eq]; simp
theorem szl (n : Nat) (h : n < 16777216) : n < sizeLine := by rw [sizeLine_eq]; exact h
@[simp] theorem oc_lt : opCmp .Lt (.int i) (.int j) = some (decide (i < j)) := rfl
@[simp] theorem oc_le : opCmp .LtE (.int i) (.int j) = some (decide (i ≤ j)) := rfl
@[simp] theorem oc_gt : opCmp .Gt (.int i) (.int j) = some (decide (j < i)) := rfl
@[simp] theorem oc_ge : opCmp .GtE (.int i) (.int j) = some (decide (j ≤ i)) := rfl
@[simp] theorem oc_eq : opCmp .Eq (.int i) (.int j) = some (decide (i = j)) := by
  show some (eqD (.int i) (.int j)) = _
  congr 1
@[simp] theorem oc_ne : opCmp .NotEq (.int i) (.int j) = some (decide (i ≠ j)) := by
  show some (!eqD (.int i) (.int j)) = _
  congr 1
  rw [show eqD (.int i) (.int j) = decide (i = j) from rfl]
  by_cases h : i = j <;> simp [h]
@[simp] theorem oc_isnn : opCmp .Is .non .non = some true := rfl
@[simp] theorem oc_isin : opCmp .Is (.int i) .non = some false := rfl
@[simp] theorem oc_istn : opCmp .Is (.tup xs) .non = some false := rfl
@[simp] theorem oc_isln : opCmp .Is (.lst xs) .non = some false := rfl
@[simp] theorem oc_isbn : opCmp .Is (.bl a) .non = some false := rfl
@[simp] theorem oc_nonn : opCmp .IsNot .non .non = some false := rfl
@[simp] theorem oc_noin : opCmp .IsNot (.int i) .non = some true := rfl
@[simp] theorem oc_notn : opCmp .IsNot (.tup xs) .non = some true := rfl
@[simp] theorem oc_noln : opCmp .IsNot (.lst xs) .non = some true := rfl
@[simp] theorem oc_nobn : opCmp .IsNot (.bl a) .non = some true := rfl
@[simp] theorem oc_issn {x : Str} : opCmp .Is (.str x) .non = some false := rfl
@[simp] theorem oc_nosn {x : Str} : opCmp .IsNot (.str x) .non = some true := rfl
@[simp] theorem oc_isbb : opCmp .Is (.bl a) (.bl b) = some (decide (a = b)) := rfl
@[simp] theorem oc_nobb : opCmp .IsNot (.bl a) (.bl b) = some (!decide (a = b)) := rfl
@[simp] theorem oi_l : opIdx (.lst xs) (.int i) = atI xs i := rfl
@[simp] theorem oi_t : opIdx (.tup xs) (.int i) = atI xs i := rfl
@[simp] theorem os_l {l h : Option Int} : opSlc (.lst xs) l h = some (.lst (cutD xs l h), true) := rfl
@[simp] theorem os_t {l h : Option Int} : opSlc (.tup xs) l h = some (.tup (cutD xs l h), false) := rfl
@[simp] theorem os_s {ns : List Int} {l h : Option Int} : opSlc (.scr ns) l h = some (.lst ((cutD ns l h).map .int), true) := rfl
@[simp] theorem bi_lenl : opBi .len [.lst xs] = some (.int xs.length, false) := rfl
@[simp] theorem bi_lent : opBi .len [.tup xs] = some (.int xs.length, false) := rfl
@[simp] theorem bi_lens {ns : List Int} : opBi .len [.scr ns] = some (.int ns.length, false) := rfl
@[simp] theorem bi_inti : opBi .int [.int i] = some (.int i, false) := rfl
@[simp] theorem bi_intb : opBi .int [.bl a] = some (.int (b2i a), false) := rfl
@[simp] theorem bi_listl : opBi .list [.lst xs] = some (.lst xs, true) := rfl
@[simp] theorem bi_listt : opBi .list [.tup xs] = some (.lst xs, true) := rfl
@[simp] theorem bi_tuplel : opBi .tuple [.lst xs] = some (.tup xs, false) := rfl
@[simp] theorem bi_tuplet : opBi .tuple [.tup xs] = some (.tup xs, false) := rfl
@[simp] theorem bi_abs' : opBi .abs [.int i] = some (.int (if i < 0 then -i else i), false) := rfl
@[simp] theorem bi_min2' : opBi .min2 [.int i, .int j] = some (.int (if j < i then j else i), false) := rfl
@[simp] theorem bi_max2' : opBi .max2 [.int i, .int j] = some (.int (if j > i then j else i), false) := rfl
@[simp] theorem bi_sum' {ns : List Int} : opBi .sum [.lst (ns.map .int)] = some (.int ns.sum, false) := by show (intsOf _).map _ = _; rw [intsOf_map]; rfl
@[simp] theorem bi_min' {n : Int} {ns : List Int} : opBi .min [.lst ((n :: ns).map .int)] = some (.int (minI n ns), false) := by show ((intsOf _).bind minL).map _ = _; rw [intsOf_map]; rfl
@[simp] theorem bi_max' {n : Int} {ns : List Int} : opBi .max [.lst ((n :: ns).map .int)] = some (.int (maxI n ns), false) := by show ((intsOf _).bind maxL).map _ = _; rw [intsOf_map]; rfl
@[simp] theorem bi_all' {ns : List Bool} : opBi .all [.lst (ns.map .bl)] = some (.bl (ns.all id), false) := by show (blsOf _).map _ = _; rw [blsOf_map]; rfl
@[simp] theorem bi_any' {ns : List Bool} : opBi .any [.lst (ns.map .bl)] = some (.bl (ns.any id), false) := by show (blsOf _).map _ = _; rw [blsOf_map]; rfl
@[simp] theorem bi_sorted' {ns : List Int} : opBi .sorted [.lst (ns.map .int)] = some (.lst ((sortI ns).map .int), true) := by show (intsOf _).map _ = _; rw [intsOf_map]; rfl
@[simp] theorem tru_i : truD (.int i) = some (i != 0) := rfl
@[simp] theorem tru_b : truD (.bl a) = some a := rfl
@[simp] theorem tru_n : truD .non = some false := rfl
@[simp] theorem tru_l : truD (.lst xs) = some (!xs.isEmpty) := rfl
@[simp] theorem tru_t : truD (.tup xs) = some (!xs.isEmpty) := rfl
end
@[simp] theorem nsl_s {i : Nat} {d : D} : nsl (i + 1) true d = .own d := rfl
@[simp] theorem nsl_0 {b : Bool} {d : D} : nsl 0 b d = .val d := by cases b <;> rfl
@[simp] theorem nsl_f {i : Nat} {d : D} : nsl i false d = .val d := by cases i <;> rfl
@[simp] theorem wipe_nil {γ : Env} : wipeE γ [] = γ := rfl
@[simp] theorem wipe_cons {γ : Env} {i : Nat} {r : List Nat} : wipeE γ (i :: r) = (wipeE γ r).set i .no := rfl
@[simp] theorem setP_nil {γ : Env} : setP [] [] γ = some γ := rfl
@[simp] theorem setP_cons {γ : Env} {i : Nat} {is : List Nat} {d : D} {f : Bool} {r : List (D × Bool)} : setP (i :: is) ((d, f) :: r) γ = setP is r (γ.set i (nsl i f d)) := rfl
@[simp] theorem ress_nil {γ : Env} : resolves γ [] = some [] := rfl
def ress2 (d : D) (o : Option (List D)) : Option (List D) := match o with
  | some ds => some (d :: ds)
  | none => none
def ress1 (γ : Env) (r : List Opd) (o : Option D) : Option (List D) := match o with
  | some d => ress2 d (resolves γ r)
  | none => none
@[simp] theorem ress2_s {d : D} {ds : List D} : ress2 d (some ds) = some (d :: ds) := rfl
@[simp] theorem ress1_s {γ : Env} {r : List Opd} {d : D} : ress1 γ r (some d) = ress2 d (resolves γ r) := rfl
@[simp] theorem ress_cons {γ : Env} {o : Opd} {r : List Opd} : resolves γ (o :: r) = ress1 γ r (resolve γ o) := by
  show (resolve γ o >>= fun d => resolves γ r >>= fun ds => pure (d :: ds)) = _
  rcases resolve γ o with _ | d
  · rfl
  · show (resolves γ r >>= fun ds => pure (d :: ds)) = ress2 d (resolves γ r)
    rcases resolves γ r with _ | _ <;> rfl
@[simp] theorem bindT_nm {i : Nat} {d : D} {γ : Env} : bindT (.nm i) d γ = some (γ.set i (.val d)) := by rw [bindT]
@[simp] theorem bindT_tup {n : Nat} {r : Tg} {ds : List D} {γ : Env} : bindT (.tup n r) (.tup ds) γ = if ds.length = n then bindL r ds γ else none := by rw [bindT]
@[simp] theorem bindL_nil {γ : Env} : bindL .nil [] γ = some γ := by rw [bindL]
@[simp] theorem bindL_nm {i : Nat} {r : Tg} {d : D} {ds : List D} {γ : Env} : bindL (.cons (.nm i) r) (d :: ds) γ = bindL r ds (γ.set i (.val d)) := by rw [bindL, bindT_nm]
theorem atI_at {α : Type} {xs : List α} {i : Int} (h0 : 0 ≤ i) (h : i < xs.length) : atI xs i = xs[i.toNat]? := by
  unfold atI ixN
  rw [if_pos h0, if_pos h]
  rfl
theorem atI_map {α : Type} {f : α → D} {xs : List α} {i : Int} (z : α) (h0 : 0 ≤ i) (h : i < xs.length) : atI (xs.map f) i = some (f (xs.getD i.toNat z)) := by
  rw [atI_at h0 (by simpa using h), List.getElem?_map, List.getD_eq_getElem?_getD, List.getElem?_eq_getElem (by omega)]
  rfl
theorem ixN_at {n : Nat} {i : Int} (h0 : 0 ≤ i) (h : i < n) : ixN n i = some i.toNat := by
  unfold ixN
  rw [if_pos h0, if_pos h]

/-! ### the tape -/
theorem mix_ok {dfs : List Df} {n L : Nat} (h : dfs[0]? = some dMix) (x : Int) : ∃ r, (Tb dfs n (L + 1)).fn 0 [.int x] = some (.int r, false) := by
  generalize hy : (x * 6364136223846793005 + 1442695040888963407) % 18446744073709551616 = y
  have hy0 : 0 ≤ y := by rw [← hy]; exact Int.emod_nonneg _ (by decide)
  have hy1 : y < 18446744073709551616 := by rw [← hy]; exact Int.emod_lt_of_pos _ (by decide)
  refine ⟨(y * y / 4294967296 + y * 69621) % 18446744073709551557, ?_⟩
  rw [fn_eq h rfl rfl]
  have d1 : DivOk 4294967296 := by decide
  simp [irMix, MulOk.r, MulOk.l, hy, hy0, hy1, d1, show -18446744073709551616 < y by omega]
def tpD (cs : List Int) (k : Nat) (a b : Int) : D := .lst [.lst (cs.map .int), .int k, .int a, .int b]
def TapeOk (t : D) : Prop := ∃ (cs : List Int) (k : Nat) (a b : Int), t = tpD cs k a b
theorem take_ok {dfs : List Df} {n L : Nat} (h0 : dfs[0]? = some dMix) (h2 : dfs[2]? = some dTake) {t : D} (ht : TapeOk t) {m : Int} (hm : 1 ≤ m) (hd : DivOk m) :
    ∃ (r : Int) (t' : D), 0 ≤ r ∧ r < m ∧ TapeOk t' ∧ (Tb dfs n (L + 2)).io 2 t [.int m] = some (.int r, t') := by
  obtain ⟨cs, k, a, b, rfl⟩ := ht
  have hm0 : 0 < m := by omega
  suffices H : ∃ (k' : Nat) (a' b' : Int), (Tb dfs n (L + 2)).io 2 (tpD cs k a b) [.int m] = some (.int (a' % m), tpD cs k' (a' / m) b') by
    obtain ⟨k', a', b', e⟩ := H
    exact ⟨a' % m, _, Int.emod_nonneg _ (by omega), Int.emod_lt_of_pos _ hm0, ⟨cs, k', _, b', rfl⟩, e⟩
  have mx : ∀ x : Int, ∃ r, (Tb dfs n (L + 1)).fn 0 [.int x] = some (.int r, false) := fun x => mix_ok h0 x
  rw [io_eq h2 rfl rfl]
  generalize Tb dfs n (L + 1) = Φ at mx
  by_cases c1 : a < m
  · by_cases c2 : k < cs.length
    · have p18 : PowOk 10 18 := by decide
      suffices H : ∀ c', (if 0 ≤ cs[k] then 2 * cs[k] else -2 * cs[k] - 1) = c' → ∃ (k' : Nat) (a' b' : Int), runQ (ex Φ n dTake.ir ((start0 dTake.N.length [tpD cs k a b, .int m]).set 0 (.own (tpD cs k a b)))) = some (.int (a' % m), tpD cs k' (a' / m) b') from H _ rfl
      intro c' hc'
      obtain ⟨r1, q1⟩ := mx (b + c')
      obtain ⟨r2, q2⟩ := mx c'
      obtain ⟨r3, q3⟩ := mx (r2 + ((k : Int) + 1))
      refine ⟨k + 1, if 10 ^ 18 ≤ c' then c' else r3, r1, ?_⟩
      by_cases h : 0 ≤ cs[k]
      · rw [if_pos h] at hc'
        by_cases h18 : (1000000000000000000 : Int) ≤ c' <;> simp [irTake, tpD, c1, c2, atI, ixN, hm0, hd, MulOk.l, h, hc', q1, q2, q3, p18, h18, ownAt]
      · rw [if_neg h] at hc'
        by_cases h18 : (1000000000000000000 : Int) ≤ c' <;> simp [irTake, tpD, c1, c2, atI, ixN, hm0, hd, MulOk.l, h, hc', q1, q2, q3, p18, h18, ownAt]
    · obtain ⟨r1, q1⟩ := mx (b + 1)
      exact ⟨k, r1, r1, by simp [irTake, tpD, c1, c2, atI, ixN, hm0, hd, q1, ownAt]⟩
  · exact ⟨k, a, b, by simp [irTake, tpD, c1, atI, ixN, hm0, hd, ownAt]⟩
end Z
namespace Z
open PySem PySem.Spec L2

/-! ### loops -/
theorem lcRun_fm {α : Type} {f : D → EM (Option D)} {e : α → D} {γ : Env} {g : α → Option D} : ∀ {xs : List α} {acc : List D}, (∀ x ∈ xs, f (e x) γ = some (g x, γ)) → acc.length + xs.length ≤ sizeLine → lcRun f (xs.map e) acc γ = some (acc ++ xs.filterMap g, γ)
  | [], acc, _, _ => by simp [lcRun]
  | x :: xs, acc, h, hs => by
    have hx := h x (by simp)
    rw [List.map_cons, lcRun, hx]
    rw [List.length_cons] at hs
    cases hg : g x with
    | none =>
      rw [List.filterMap_cons_none hg]
      exact lcRun_fm (fun y hy => h y (List.mem_cons_of_mem _ hy)) (by omega)
    | some y =>
      rw [List.filterMap_cons_some hg]
      show (if acc.length < sizeLine then lcRun f (xs.map e) (acc ++ [y]) γ else none) = _
      rw [if_pos (by omega), lcRun_fm (fun y hy => h y (List.mem_cons_of_mem _ hy)) (by simp; omega)]
      simp
theorem lcRun_map {α : Type} {f : D → EM (Option D)} {e g : α → D} {γ : Env} {xs : List α} (h : ∀ x ∈ xs, f (e x) γ = some (some (g x), γ)) (hs : xs.length ≤ sizeLine) : lcRun f (xs.map e) [] γ = some (xs.map g, γ) := by
  rw [lcRun_fm (g := fun x => some (g x)) h (by simpa using hs)]
  simp
theorem lcRun_filter {α : Type} {f : D → EM (Option D)} {e g : α → D} {p : α → Bool} {γ : Env} {xs : List α} (h : ∀ x ∈ xs, f (e x) γ = some (if p x = true then some (g x) else none, γ)) (hs : xs.length ≤ sizeLine) : lcRun f (xs.map e) [] γ = some ((xs.filter p).map g, γ) := by
  rw [lcRun_fm (g := fun x => if p x = true then some (g x) else none) h (by simpa using hs)]
  simp only [List.nil_append, Option.some.injEq, Prod.mk.injEq, and_true]
  clear h hs
  induction xs with
  | nil => rfl
  | cons x xs ih =>
    rw [List.filter_cons, List.filterMap_cons]
    split <;> rename_i h
    · by_cases hp : p x = true
      · rw [if_pos hp] at h; cases h
      · rw [if_neg hp]; exact ih
    · by_cases hp : p x = true
      · rw [if_pos hp] at h ⊢; cases h; rw [List.map_cons, ih]
      · rw [if_neg hp] at h; cases h
/-- .. whose slots change -/
theorem lcRun_inv {f : D → EM (Option D)} (I : Nat → List D → Env → Prop) : ∀ {xs : List D} {k : Nat} {acc : List D} {γ : Env}, (∀ i x acc γ, xs[i]? = some x → I (k + i) acc γ → ∃ y γ', f x γ = some (y, γ') ∧ I (k + i + 1) (acc ++ y.toList) γ') → acc.length + xs.length ≤ sizeLine → I k acc γ →
    ∃ ys γ', lcRun f xs acc γ = some (ys, γ') ∧ I (k + xs.length) ys γ'
  | [], k, acc, γ, _, _, h0 => ⟨acc, γ, rfl, h0⟩
  | x :: xs, k, acc, γ, h, hs, h0 => by
    rw [List.length_cons] at hs
    obtain ⟨y, γ', e, h1⟩ := h 0 x acc γ rfl h0
    have hn : ∀ i z acc γ, xs[i]? = some z → I (k + 1 + i) acc γ → ∃ y γ', f z γ = some (y, γ') ∧ I (k + 1 + i + 1) (acc ++ y.toList) γ' := fun i z acc γ hz hi => by
      have := h (i + 1) z acc γ (by simpa using hz) (by rw [show k + (i + 1) = k + 1 + i by omega]; exact hi)
      rwa [show k + (i + 1) + 1 = k + 1 + i + 1 by omega] at this
    rw [List.length_cons, show k + (xs.length + 1) = k + 1 + xs.length by omega]
    cases y with
    | none =>
      obtain ⟨ys, γ2, e2, h2⟩ := lcRun_inv (acc := acc) I hn (by omega) (by simpa using h1)
      exact ⟨ys, γ2, by rw [lcRun, e]; exact e2, h2⟩
    | some y =>
      obtain ⟨ys, γ2, e2, h2⟩ := lcRun_inv (acc := acc ++ [y]) I hn (by simp; omega) (by simpa using h1)
      refine ⟨ys, γ2, ?_, h2⟩
      rw [lcRun, e]
      show (if acc.length < sizeLine then _ else none) = _
      rw [if_pos (by omega)]
      exact e2
def ForQ (w : List Nat) (J : Env → Prop) (Q : Out → Prop) : Out → Prop
  | .nx γ' => J (wipeE γ' w)
  | .ct γ' => J (wipeE γ' w)
  | .bk γ' => Q (.nx (wipeE γ' w))
  | .rt d fr γ' => Q (.rt d fr γ')
theorem forRun_inv {f : D → Env → Option Out} {w : List Nat} (I : Nat → Env → Prop) (Q : Out → Prop) : ∀ {xs : List D} {k : Nat} {γ : Env}, (∀ i x γ, xs[i]? = some x → I (k + i) γ → ∃ o, f x γ = some o ∧ ForQ w (I (k + i + 1)) Q o) → (∀ γ, I (k + xs.length) γ → Q (.nx γ)) → I k γ →
    ∃ o, forRun f w xs γ = some o ∧ Q o
  | [], k, γ, _, hq, h0 => ⟨.nx γ, rfl, hq γ h0⟩
  | x :: xs, k, γ, h, hq, h0 => by
    obtain ⟨o, e, h1⟩ := h 0 x γ rfl h0
    have hn : ∀ i z γ, xs[i]? = some z → I (k + 1 + i) γ → ∃ o, f z γ = some o ∧ ForQ w (I (k + 1 + i + 1)) Q o := fun i z γ hz hi => by
      have := h (i + 1) z γ (by simpa using hz) (by rw [show k + (i + 1) = k + 1 + i by omega]; exact hi)
      rwa [show k + (i + 1) + 1 = k + 1 + i + 1 by omega] at this
    have hq' : ∀ γ, I (k + 1 + xs.length) γ → Q (.nx γ) := fun γ hi => hq γ (by rw [List.length_cons, show k + (xs.length + 1) = k + 1 + xs.length by omega]; exact hi)
    rw [forRun, e]
    cases o with
    | nx γ' => exact forRun_inv I Q hn hq' h1
    | ct γ' => exact forRun_inv I Q hn hq' h1
    | bk γ' => exact ⟨_, rfl, h1⟩
    | rt d fr γ' => exact ⟨_, rfl, h1⟩
/-- .. by a fold -/
theorem forRun_fold {α S : Type} {f : D → Env → Option Out} {w : List Nat} {e : α → D} (enc : S → Env) (step : S → α → S) (P : S → Prop) : ∀ {xs : List α} {s : S}, P s → (∀ s x, x ∈ xs → P s → P (step s x) ∧ ∃ γ', f (e x) (enc s) = some (.nx γ') ∧ wipeE γ' w = enc (step s x)) →
    forRun f w (xs.map e) (enc s) = some (.nx (enc (xs.foldl step s))) ∧ P (xs.foldl step s)
  | [], s, hp, _ => ⟨rfl, hp⟩
  | x :: xs, s, hp, h => by
    obtain ⟨p1, γ', e1, e2⟩ := h s x (by simp) hp
    rw [List.map_cons, forRun, e1, List.foldl_cons]
    show forRun f w (xs.map e) (wipeE γ' w) = _ ∧ _
    rw [e2]
    exact forRun_fold enc step P p1 fun s x hx => h s x (List.mem_cons_of_mem _ hx)
/-- a search: the first that is met is told -/
theorem forRun_find {α : Type} {f : D → Env → Option Out} {w : List Nat} {e : α → D} {γ : Env} (p : α → Bool) (r : α → D) (fr : Bool) : ∀ {xs : List α}, (∀ x ∈ xs, if p x = true then ∃ γ', f (e x) γ = some (.rt (r x) fr γ') else ∃ γ', f (e x) γ = some (.nx γ') ∧ wipeE γ' w = γ) →
    match xs.find? p with
    | some x => ∃ γ', forRun f w (xs.map e) γ = some (.rt (r x) fr γ')
    | none => forRun f w (xs.map e) γ = some (.nx γ)
  | [], _ => rfl
  | x :: xs, h => by
    have hx := h x (by simp)
    have ih := forRun_find (xs := xs) p r fr fun y hy => h y (List.mem_cons_of_mem _ hy)
    by_cases hp : p x = true
    · rw [List.find?_cons_of_pos hp]
      rw [if_pos hp] at hx
      obtain ⟨γ', e1⟩ := hx
      exact ⟨γ', by rw [List.map_cons, forRun, e1]⟩
    · rw [List.find?_cons_of_neg hp]
      rw [if_neg hp] at hx
      obtain ⟨γ', e1, e2⟩ := hx
      have : forRun f w ((x :: xs).map e) γ = forRun f w (xs.map e) γ := by
        rw [List.map_cons, forRun, e1]
        show forRun f w (xs.map e) (wipeE γ' w) = _
        rw [e2]
      rw [this]
      exact ih
def WhQ (w : List Nat) (J : Env → Prop) (Q : Out → Prop) : Out → Prop
  | .nx γ' => J (wipeE γ' w)
  | .ct γ' => J (wipeE γ' w)
  | .bk γ' => Q (.nx (wipeE γ' w))
  | .rt d fr γ' => Q (.rt d fr γ')
theorem whRun_inv {c : EM Bool} {f : Env → Option Out} {w : List Nat} (I : Nat → Env → Prop) (Q : Out → Prop) (h : ∀ m γ, I m γ → ∃ b γ1, c γ = some (b, γ1) ∧ if b = true then ∃ o, f γ1 = some o ∧ WhQ w (fun γ' => ∃ m', m' < m ∧ I m' γ') Q o else Q (.nx γ1)) : ∀ {n m : Nat} {γ : Env}, m < n → I m γ → ∃ o, whRun c f w n γ = some o ∧ Q o
  | 0, m, γ, hm, _ => absurd hm (by omega)
  | n + 1, m, γ, hm, h0 => by
    obtain ⟨b, γ1, e, h1⟩ := h m γ h0
    rw [whRun, e]
    cases b with
    | false => exact ⟨_, rfl, h1⟩
    | true =>
      obtain ⟨o, e2, h2⟩ := h1
      show ∃ o', (match f γ1 with
        | some (.nx γ') => whRun c f w n (wipeE γ' w)
        | some (.ct γ') => whRun c f w n (wipeE γ' w)
        | some (.bk γ') => some (.nx (wipeE γ' w))
        | some (.rt d fr γ') => some (.rt d fr γ')
        | none => none) = some o' ∧ Q o'
      rw [e2]
      cases o with
      | nx γ' =>
        obtain ⟨m', hl, hi⟩ := h2
        exact whRun_inv I Q h (by omega) hi
      | ct γ' =>
        obtain ⟨m', hl, hi⟩ := h2
        exact whRun_inv I Q h (by omega) hi
      | bk γ' => exact ⟨_, rfl, h2⟩
      | rt d fr γ' => exact ⟨_, rfl, h2⟩
theorem rangeD_map (lo : Int) (n : Nat) : rangeD lo n = (List.range n).map fun (k : Nat) => D.int (lo + (k : Int)) := rfl
theorem rangeD_len (lo : Int) (n : Nat) : (rangeD lo n).length = n := by simp [rangeD]
theorem rangeD_get {lo : Int} {n i : Nat} {x : D} (h : (rangeD lo n)[i]? = some x) : i < n ∧ x = .int (lo + (i : Int)) := by
  rw [rangeD_map, List.getElem?_map] at h
  by_cases hi : i < n
  · rw [List.getElem?_range hi] at h
    exact ⟨hi, (Option.some.inj h).symm⟩
  · rw [List.getElem?_eq_none (by simpa using hi)] at h
    cases h

/-! ### the law's likeness -/
mutual
def sameD : D → D → Bool
  | .tup xs, .tup ys => sameL xs ys
  | .lst xs, .lst ys => sameL xs ys
  | .bl a, .bl b => a == b
  | .int a, .int b => decide (a = b)
  | .str a, .str b => decide (a = b)
  | .non, .non => true
  | _, _ => false
def sameL : List D → List D → Bool
  | [], [] => true
  | x :: xs, y :: ys => sameD x y && sameL xs ys
  | _, _ => false
end
mutual
/-- what can be laid side by side; d deep -/
def gd : Nat → D → Bool
  | _, .non => true | _, .bl _ => true | _, .int _ => true | _, .str s => PyData.strOk s
  | d + 1, .tup xs => decide (xs.length ≤ sizeLine) && gdL d xs
  | d + 1, .lst xs => decide (xs.length ≤ sizeLine) && gdL d xs
  | _, _ => false
def gdL : Nat → List D → Bool
  | _, [] => true
  | d, x :: xs => gd d x && gdL d xs
end
mutual
theorem sameD_refl : ∀ (k : Nat) (d : D), gd k d = true → sameD d d = true
  | _, .non, _ => by simp [sameD]
  | _, .bl _, _ => by simp [sameD]
  | _, .int _, _ => by simp [sameD]
  | _, .str _, _ => by simp [sameD]
  | k + 1, .tup xs, h => by simp [gd] at h; rw [sameD]; exact sameL_refl k xs h.2
  | k + 1, .lst xs, h => by simp [gd] at h; rw [sameD]; exact sameL_refl k xs h.2
  | 0, .tup xs, h => by simp [gd] at h
  | 0, .lst xs, h => by simp [gd] at h
  | 0, .scr _, h => by simp [gd] at h
  | 0, .dic _, h => by simp [gd] at h
  | 0, .set _, h => by simp [gd] at h
  | _ + 1, .scr _, h => by simp [gd] at h
  | _ + 1, .dic _, h => by simp [gd] at h
  | _ + 1, .set _, h => by simp [gd] at h
theorem sameL_refl : ∀ (k : Nat) (xs : List D), gdL k xs = true → sameL xs xs = true
  | _, [], _ => by simp [sameL]
  | k, x :: xs, h => by
    simp [gdL] at h
    rw [sameL, sameD_refl k x h.1, sameL_refl k xs h.2]
    rfl
end
mutual
theorem eq_of_sameD : ∀ (a b : D), sameD a b = true → a = b
  | .tup xs, b, h => by
    cases b <;> simp [sameD] at h
    rw [eq_of_sameL xs _ h]
  | .lst xs, b, h => by
    cases b <;> simp [sameD] at h
    rw [eq_of_sameL xs _ h]
  | .bl a, b, h => by cases b <;> simp [sameD] at h; rw [h]
  | .int a, b, h => by cases b <;> simp [sameD] at h; rw [h]
  | .str a, b, h => by cases b <;> simp [sameD] at h; rw [h]
  | .non, b, h => by cases b <;> simp [sameD] at h; rfl
  | .scr _, b, h => by cases b <;> simp [sameD] at h
  | .dic _, b, h => by cases b <;> simp [sameD] at h
  | .set _, b, h => by cases b <;> simp [sameD] at h
theorem eq_of_sameL : ∀ (a b : List D), sameL a b = true → a = b
  | [], [], _ => rfl
  | x :: xs, y :: ys, h => by
    simp [sameL] at h
    rw [eq_of_sameD x y h.1, eq_of_sameL xs ys h.2]
  | [], _ :: _, h => by simp [sameL] at h
  | _ :: _, [], h => by simp [sameL] at h
end
theorem sameL_get {xs ys : List D} : sameL xs ys = (decide (xs.length = ys.length) && (List.range xs.length).all fun i => sameD (xs[i]?.getD .non) (ys[i]?.getD .non)) := by
  induction xs generalizing ys with
  | nil => cases ys <;> simp [sameL]
  | cons x xs ih =>
    cases ys with
    | nil => simp [sameL]
    | cons y ys =>
      rw [sameL, ih, List.length_cons, List.length_cons, List.range_succ_eq_map, List.all_cons, List.all_map]
      by_cases h : xs.length = ys.length
      · simp [h, Function.comp_def]
      · simp [h]
@[simp] theorem isi_n {T : Ty} : isiD T .non = some false := by cases T <;> rfl
@[simp] theorem isi_b {T : Ty} {b : Bool} : isiD T (.bl b) = some (match T with | .bool => true | .int => true | _ => false) := rfl
@[simp] theorem isi_i {T : Ty} {b : Int} : isiD T (.int b) = some (match T with | .int => true | _ => false) := rfl
@[simp] theorem isi_s {T : Ty} {b : Str} : isiD T (.str b) = some (match T with | .str => true | _ => false) := rfl
@[simp] theorem isi_t {T : Ty} {b : List D} : isiD T (.tup b) = some (match T with | .tuple => true | _ => false) := rfl
@[simp] theorem isi_l {T : Ty} {b : List D} : isiD T (.lst b) = some (match T with | .list => true | _ => false) := rfl
theorem oc_eqb {a b : Bool} : opCmp .Eq (.bl a) (.bl b) = some (a == b) := by cases a <;> cases b <;> rfl
theorem oc_eqs {a b : Str} (ha : PyData.strOk a = true) (hb : PyData.strOk b = true) : opCmp .Eq (.str a) (.str b) = some (decide (a = b)) := by
  show (if (shp 60 (.str a) && shp 60 (.str b)) = true then some (eqD (.str a) (.str b)) else none) = _
  rw [show shp 60 (.str a) = true by rw [shp]; exact ha, show shp 60 (.str b) = true by rw [shp]; exact hb, if_pos (by rfl)]
  congr 1
theorem gdL_get : ∀ {d : Nat} {xs : List D} {i : Nat}, gdL d xs = true → i < xs.length → gd d (xs[i]?.getD .non) = true
  | d, x :: xs, 0, h, _ => by simp [gdL] at h; simpa using h.1
  | d, x :: xs, i + 1, h, hi => by simp [gdL] at h; simpa using gdL_get h.2 (by simpa using hi)
theorem gd_mono : ∀ {d e : Nat} {x : D}, d ≤ e → gd d x = true → gd e x = true := by
  intro d
  induction d with
  | zero => intro e x _ h; cases x <;> simp [gd] at h ⊢; all_goals exact h
  | succ d ih =>
    intro e x hle h
    obtain ⟨e, rfl⟩ : ∃ k, e = k + 1 := ⟨e - 1, by omega⟩
    have L : ∀ xs, gdL d xs = true → gdL e xs = true := fun xs => by
      induction xs with
      | nil => intro _; rfl
      | cons y ys ih2 =>
        intro h
        simp [gdL] at h ⊢
        exact ⟨ih (by omega) h.1, ih2 h.2⟩
    cases x <;> simp [gd] at h ⊢
    · exact h
    · exact ⟨h.1, L _ h.2⟩
    · exact ⟨h.1, L _ h.2⟩
@[simp] theorem opd_same {r : EM (D × Bool)} {γ : Env} : opd irSame_c1 r γ = asV (r γ) := opd_lc
theorem same_seq {Φ : Tab} {n d : Nat} {xs ys : List D} (a b : D) (ha : a = .tup xs ∧ b = .tup ys ∨ a = .lst xs ∧ b = .lst ys) (hx : gdL d xs = true) (hy : gdL d ys = true) (lx : xs.length ≤ sizeLine)
    (ih : ∀ x y, gd d x = true → gd d y = true → Φ.fn 3 [x, y] = some (.bl (sameD x y), false)) : ex Φ n irSame [.val a, .val b, .no] = some (.rt (.bl (sameL xs ys)) false [.val a, .val b, .no]) := by
  have key : evE Φ irSame_c1 [.val a, .val b, .no] = if xs.length = ys.length then some ((.lst (((List.range xs.length).map fun i => sameD (xs[i]?.getD .non) (ys[i]?.getD .non)).map .bl), true), [.val a, .val b, .no]) else evE Φ irSame_c1 [.val a, .val b, .no] := by
    split
    · rename_i hl
      have hr : rngOk (xs.length : Int) := by rw [sizeLine_eq] at lx; exact ⟨by omega, by omega⟩
      have run : lcRun (lcB Φ [2] (.nm 2) .nil (.call 3 (.cons (.idx (.brw 0) (.brw 2)) (.cons (.idx (.brw 1) (.brw 2)) .nil)))) (rangeD 0 xs.length) [] [.val a, .val b, .no] = some ((List.range xs.length).map fun i => D.bl (sameD (xs[i]?.getD .non) (ys[i]?.getD .non)), [.val a, .val b, .no]) := by
        rw [rangeD_map]
        refine lcRun_map (fun i hi => ?_) (by simpa using lx)
        have hi : i < xs.length := by simpa using hi
        have e1 : atI xs (i : Int) = some (xs[i]?.getD .non) := by
          rw [atI_at (by omega) (by omega), Int.toNat_natCast, List.getElem?_eq_getElem hi]; rfl
        have e2 : atI ys (i : Int) = some (ys[i]?.getD .non) := by
          rw [atI_at (by omega) (by omega), Int.toNat_natCast, List.getElem?_eq_getElem (show i < ys.length by omega)]; rfl
        have e3 := ih _ _ (gdL_get hx hi) (gdL_get (i := i) hy (by omega))
        rcases ha with ⟨rfl, rfl⟩ | ⟨rfl, rfl⟩ <;> simp [lcB, e1, e2, e3]
      rcases ha with ⟨rfl, rfl⟩ | ⟨rfl, rfl⟩ <;> simp [irSame_c1, hr, noOwn, run, restoreE]
    · rfl
  rw [sameL_get]
  by_cases hl : xs.length = ys.length
  · rw [if_pos hl] at key
    have hall : ((List.range xs.length).map fun i => sameD (xs[i]?.getD .non) (ys[i]?.getD .non)).all id = (List.range xs.length).all fun i => sameD (xs[i]?.getD .non) (ys[i]?.getD .non) := by
      rw [List.all_map]; rfl
    generalize ((List.range xs.length).map fun i => sameD (xs[i]?.getD .non) (ys[i]?.getD .non)) = bs at key hall
    rw [← hall]
    rcases ha with ⟨rfl, rfl⟩ | ⟨rfl, rfl⟩ <;> simp [irSame, hl, key]
  · have hl' : ¬ ((xs.length : Int) = ys.length) := by omega
    rcases ha with ⟨rfl, rfl⟩ | ⟨rfl, rfl⟩ <;> simp [irSame, hl, hl']
theorem same_ok {dfs : List Df} {n : Nat} (h3 : dfs[3]? = some dSame) : ∀ {d L : Nat} {x y : D}, gd d x = true → gd d y = true → d < L → (Tb dfs n L).fn 3 [x, y] = some (.bl (sameD x y), false) := by
  intro d
  induction d with
  | zero =>
    intro L x y hx hy hL
    obtain ⟨L, rfl⟩ : ∃ k, L = k + 1 := ⟨L - 1, by omega⟩
    rw [fn_eq h3 rfl rfl]
    cases x <;> simp [gd] at hx <;> cases y <;> simp [gd] at hy <;> simp [irSame, sameD, oc_eqb, oc_eqs, hx, hy]
  | succ d ih =>
    intro L x y hx hy hL
    obtain ⟨L, rfl⟩ : ∃ k, L = k + 1 := ⟨L - 1, by omega⟩
    rw [fn_eq h3 rfl rfl]
    have I : ∀ x y, gd d x = true → gd d y = true → (Tb dfs n L).fn 3 [x, y] = some (.bl (sameD x y), false) := fun x y h1 h2 => ih h1 h2 (by omega)
    cases x <;> simp [gd] at hx <;> cases y <;> simp [gd] at hy
    case tup.tup xs ys =>
      have h := same_seq (Φ := Tb dfs n L) (n := n) (.tup xs) (.tup ys) (.inl ⟨rfl, rfl⟩) hx.2 hy.2 hx.1 I
      simp [h, sameD]
    case lst.lst xs ys =>
      have h := same_seq (Φ := Tb dfs n L) (n := n) (.lst xs) (.lst ys) (.inr ⟨rfl, rfl⟩) hx.2 hy.2 hx.1 I
      simp [h, sameD]
    all_goals simp [irSame, sameD, oc_eqb, oc_eqs, hx, hy]
/-- like itself -/
theorem same_self {dfs : List Df} {n : Nat} (h3 : dfs[3]? = some dSame) {d L : Nat} {x : D} (hx : gd d x = true) (hL : d < L) : (Tb dfs n L).fn 3 [x, x] = some (.bl true, false) := by
  rw [same_ok h3 hx hx hL, sameD_refl d x hx]
theorem tape_ok {dfs : List Df} {n L : Nat} (h1 : dfs[1]? = some dTape) (ns : List Int) : ∃ t, (Tb dfs n (L + 1)).fn 1 [.scr ns] = some (t, true) ∧ TapeOk t := by
  refine ⟨tpD (cutD ns none (some 80)) 0 0 (1 + ns.length), ?_, ⟨_, _, _, _, rfl⟩⟩
  rw [fn_eq h1 rfl rfl]
  simp [irTape, tpD, sz]
theorem shpL_int {α : Type} {f : α → Int} {k : Nat} : ∀ {l : List α}, shpL k (l.map fun x => D.int (f x)) = true
  | [] => by rw [List.map_nil, shpL]
  | x :: l => by rw [List.map_cons, shpL, shpL_int (l := l), shp]; rfl
theorem any_int {α : Type} {f : α → Int} {x : Int} : ∀ {l : List α}, ((l.map fun x => D.int (f x)).any fun z => eqD z (.int x)) = l.any fun k => f k == x
  | [] => rfl
  | y :: l => by rw [List.map_cons, List.any_cons, List.any_cons, any_int (l := l)]; rfl
theorem oc_in {α : Type} {f : α → Int} {x : Int} {l : List α} : opCmp .In (.int x) (.lst (l.map fun x => D.int (f x))) = some (l.any fun k => f k == x) := by
  show (if (shp 60 (D.int x) && shpL 59 (l.map fun x => D.int (f x))) = true then some ((l.map fun x => D.int (f x)).any fun z => eqD z (.int x)) else none) = _
  rw [shpL_int, any_int, shp]
  rfl
theorem oc_notin {α : Type} {f : α → Int} {x : Int} {l : List α} : opCmp .NotIn (.int x) (.lst (l.map fun x => D.int (f x))) = some (!l.any fun k => f k == x) := by
  show (if (shp 60 (D.int x) && shpL 59 (l.map fun x => D.int (f x))) = true then some (!(l.map fun x => D.int (f x)).any fun z => eqD z (.int x)) else none) = _
  rw [shpL_int, any_int, shp]
  rfl
end Z
namespace K15
open PySem PySem.Spec L2 Z
abbrev topS (i : Nat) : Stmt := PySem.Challenge.pw_bouquetstied_k15_whole_stems_spread.main.body.getD i (.Pass ⟨0, 0, 0, 0⟩)
abbrev d0 : Df := Z.dMix
abbrev d1 : Df := Z.dTape
abbrev d2 : Df := Z.dTake
abbrev d3 : Df := Z.dSame
/-! widest_gap(length, stems): 0 length, 1 stems -/
def ir4 : Sm := (.cons (.ret (.bin .FloorDiv (.bin .Sub (.brw 0) (.cst (.int 1))) (.bin .Sub (.brw 1) (.cst (.int 1)))))
  .nil)
abbrev d4 : Df := ⟨"widest_gap", ["length", "stems"], ["length", "stems"], false, ir4⟩
/-! widest_spots(length, stems): 0 length, 1 stems, 2 far, 3 k -/
def ir5_c1 : Ex := .lc [3] (.nm 3) (.rng1 (.var 1)) .nil (.bin .Mult (.brw 3) (.brw 2))
@[simp] theorem opd_ir5_c1 {r : EM (D × Bool)} {γ : Z.Env} : opd ir5_c1 r γ = asV (r γ) := opd_lc
def ir5 : Sm := (.cons (.asg 2 (.call 4 (.cons (.var 0) (.cons (.var 1) .nil))))
  (.cons (.ret (.bi .tuple (.cons ir5_c1 .nil)))
  .nil))
abbrev d5 : Df := ⟨"widest_spots", ["length", "stems", "far", "k"], ["length", "stems"], false, ir5⟩
/-! widest_on_ring(length, stems): 0 length, 1 stems -/
def ir6 : Sm := (.cons (.ret (.bin .FloorDiv (.brw 0) (.brw 1)))
  .nil)
abbrev d6 : Df := ⟨"widest_on_ring", ["length", "stems"], ["length", "stems"], false, ir6⟩
/-! choose(n, k): 0 n, 1 k, 2 found, 3 step -/
def ir7_b1 : Sm := (.cons (.asg 2 (.bin .FloorDiv (.bin .Mult (.brw 2) (.bin .Sub (.brw 0) (.brw 3))) (.bin .Add (.brw 3) (.cst (.int 1)))))
  .nil)
def ir7_f1 : Sm := .foR (.nm 3) (.rng1 (.var 1)) ir7_b1 [3]
def ir7 : Sm := (.cons (.iff (.ccmp .Lt (.brw 0) (.brw 1))
  (.cons (.ret (.cst (.int 0)))
  .nil)
  .nil)
  (.cons (.asg 2 (.cst (.int 1)))
  (.cons ir7_f1
  (.cons (.reto 2)
  .nil))))
abbrev d7 : Df := ⟨"choose", ["n", "k", "found", "step"], ["n", "k"], false, ir7⟩
/-! count_spots(length, stems, far): 0 length, 1 stems, 2 far -/
def ir8 : Sm := (.cons (.ret (.call 7 (.cons (.bin .Sub (.brw 0) (.bin .Mult (.bin .Sub (.brw 1) (.cst (.int 1))) (.bin .Sub (.brw 2) (.cst (.int 1))))) (.cons (.var 1) .nil))))
  .nil)
abbrev d8 : Df := ⟨"count_spots", ["length", "stems", "far"], ["length", "stems", "far"], false, ir8⟩
/-! count_on_ring(length, stems, far): 0 length, 1 stems, 2 far -/
def ir9 : Sm := (.cons (.ret (.bin .FloorDiv (.bin .Mult (.brw 0) (.call 7 (.cons (.bin .Sub (.bin .Sub (.brw 0) (.cst (.int 1))) (.bin .Mult (.brw 1) (.bin .Sub (.brw 2) (.cst (.int 1))))) (.cons (.bin .Sub (.brw 1) (.cst (.int 1))) .nil)))) (.brw 1)))
  .nil)
abbrev d9 : Df := ⟨"count_on_ring", ["length", "stems", "far"], ["length", "stems", "far"], false, ir9⟩
/-! first_spots(length, stems, far): 0 length, 1 stems, 2 far, 3 k -/
def ir10_c1 : Ex := .lc [3] (.nm 3) (.rng1 (.var 1)) .nil (.bin .Mult (.brw 3) (.brw 2))
@[simp] theorem opd_ir10_c1 {r : EM (D × Bool)} {γ : Z.Env} : opd ir10_c1 r γ = asV (r γ) := opd_lc
def ir10 : Sm := (.cons (.ret (.ite (.ccmp .Lt (.bin .Mult (.bin .Sub (.brw 1) (.cst (.int 1))) (.brw 2)) (.brw 0)) (.bi .tuple (.cons ir10_c1 .nil)) (.cst .non)))
  .nil)
abbrev d10 : Df := ⟨"first_spots", ["length", "stems", "far", "k"], ["length", "stems", "far"], false, ir10⟩
/-! spots_numbered(length, stems, far, number): 0 length, 1 stems, 2 far, 3 number, 4 found, 5 start, 6 rest, 7 many -/
def ir11_b1 : Sm := (.cons (.asg 6 (.bin .Sub (.bin .Sub (.brw 1) (.bi .len (.cons (.brw 4) .nil))) (.cst (.int 1))))
  (.cons (.asg 7 (.ite (.ccmp .Gt (.brw 6) (.cst (.int 0))) (.call 8 (.cons (.bin .Sub (.bin .Sub (.brw 0) (.brw 5)) (.brw 2)) (.cons (.var 6) (.cons (.var 2) .nil)))) (.cst (.int 1))))
  (.cons (.iff (.ccmp .Lt (.brw 3) (.brw 7))
  (.cons (.par true [4, 5] (.cons (.bin .Add (.brw 4) (.tup (.cons (.var 5) .nil))) (.cons (.bin .Add (.brw 5) (.brw 2)) .nil)))
  .nil)
  (.cons (.par true [3, 5] (.cons (.bin .Sub (.brw 3) (.brw 7)) (.cons (.bin .Add (.brw 5) (.cst (.int 1))) .nil)))
  .nil))
  .nil)))
def ir11_w1 : Sm := .whl (.ccmp .Lt (.bi .len (.cons (.brw 4) .nil)) (.brw 1)) ir11_b1 [6, 7]
def ir11 : Sm := (.cons (.iff (.ccmp .GtE (.brw 3) (.call 8 (.cons (.var 0) (.cons (.var 1) (.cons (.var 2) .nil)))))
  (.cons (.ret (.cst .non))
  .nil)
  .nil)
  (.cons (.par false [4, 5] (.cons (.tup .nil) (.cons (.cst (.int 0)) .nil)))
  (.cons ir11_w1
  (.cons (.reto 4)
  .nil))))
abbrev d11 : Df := ⟨"spots_numbered", ["length", "stems", "far", "number", "found", "start", "rest", "many"], ["length", "stems", "far", "number"], false, ir11⟩
/-! _law_spots(length, stems): 0 length, 1 stems, 2 rows, 3 step, 4 more_rows, 5 row, 6 place -/
def ir12_c1 : Ex := .lc [6] (.nm 6) (.rng1 (.var 0)) (.cor (.ccmp .Eq (.brw 5) (.tup .nil)) (.ccmp .Lt (.idx (.brw 5) (.neg (.cst (.int 1)))) (.brw 6))) (.bin .Add (.brw 5) (.tup (.cons (.var 6) .nil)))
@[simp] theorem opd_ir12_c1 {r : EM (D × Bool)} {γ : Z.Env} : opd ir12_c1 r γ = asV (r γ) := opd_lc
def ir12_b1 : Sm := (.cons (.ext 4 ir12_c1)
  .nil)
def ir12_f1 : Sm := .foR (.nm 5) (.seq (.var 2)) ir12_b1 [5]
def ir12_b2 : Sm := (.cons (.asg 4 (.lst .nil))
  (.cons ir12_f1
  (.cons (.asg 2 (.var 4))
  .nil)))
def ir12_f2 : Sm := .foR (.nm 3) (.rng1 (.var 1)) ir12_b2 [3, 4, 5]
def ir12 : Sm := (.cons (.asg 2 (.lst (.cons (.tup .nil) .nil)))
  (.cons ir12_f2
  (.cons (.reto 2)
  .nil)))
abbrev d12 : Df := ⟨"_law_spots", ["length", "stems", "rows", "step", "more_rows", "row", "place"], ["length", "stems"], false, ir12⟩
/-! _law_gap(row): 0 row, 1 k -/
def ir13_c1 : Ex := .lc [1] (.nm 1) (.rng1 (.bin .Sub (.bi .len (.cons (.brw 0) .nil)) (.cst (.int 1)))) .nil (.bin .Sub (.idx (.brw 0) (.bin .Add (.brw 1) (.cst (.int 1)))) (.idx (.brw 0) (.brw 1)))
@[simp] theorem opd_ir13_c1 {r : EM (D × Bool)} {γ : Z.Env} : opd ir13_c1 r γ = asV (r γ) := opd_lc
def ir13 : Sm := (.cons (.ret (.bi .min (.cons (.bin .Add ir13_c1 (.lst (.cons (.bin .Pow (.cst (.int 10)) (.cst (.int 6))) .nil))) .nil)))
  .nil)
abbrev d13 : Df := ⟨"_law_gap", ["row", "k"], ["row"], false, ir13⟩
/-! _law_ring_gap(row, length): 0 row, 1 length -/
def ir14 : Sm := (.cons (.ret (.bi .min2 (.cons (.call 13 (.cons (.var 0) .nil)) (.cons (.bin .Add (.bin .Sub (.brw 1) (.idx (.brw 0) (.neg (.cst (.int 1))))) (.idx (.brw 0) (.cst (.int 0)))) .nil))))
  .nil)
abbrev d14 : Df := ⟨"_law_ring_gap", ["row", "length"], ["row", "length"], false, ir14⟩
/-! _law_choices(n, k): 0 n, 1 k, 2 row, 3 step, 4 j -/
def ir15_c1 : Ex := .lc [4] (.nm 4) (.rng1 (.bin .Sub (.bi .len (.cons (.brw 2) .nil)) (.cst (.int 1)))) .nil (.bin .Add (.idx (.brw 2) (.brw 4)) (.idx (.brw 2) (.bin .Add (.brw 4) (.cst (.int 1)))))
@[simp] theorem opd_ir15_c1 {r : EM (D × Bool)} {γ : Z.Env} : opd ir15_c1 r γ = asV (r γ) := opd_lc
def ir15_b1 : Sm := (.cons (.asg 2 (.bin .Add (.bin .Add (.lst (.cons (.cst (.int 1)) .nil)) ir15_c1) (.lst (.cons (.cst (.int 1)) .nil))))
  .nil)
def ir15_f1 : Sm := .foR (.nm 3) (.rng1 (.var 0)) ir15_b1 [3]
def ir15 : Sm := (.cons (.asg 2 (.lst (.cons (.cst (.int 1)) .nil)))
  (.cons ir15_f1
  (.cons (.ret (.ite (.cchn .LtE .Lt (.cst (.int 0)) (.var 1) (.bi .len (.cons (.brw 2) .nil))) (.idx (.brw 2) (.brw 1)) (.cst (.int 0))))
  .nil)))
abbrev d15 : Df := ⟨"_law_choices", ["n", "k", "row", "step", "j"], ["n", "k"], false, ir15⟩
/-! law(script): 0 script, 1 tape, 2 turn, 3 length, 4 stems, 5 far, 6 rows, 7 good, 8 number, 9 wide, 10 around, 11 rest, 12 round_rest, 13 due, 14 told, 15 last, 16 row, 17 k, 18 gap -/
def ir16_c1 : Ex := .lc [17] (.nm 17) (.rng1 (.var 4)) .nil (.bin .Sub (.bin .Sub (.brw 3) (.cst (.int 1))) (.bin .Mult (.bin .Sub (.bin .Sub (.brw 4) (.cst (.int 1))) (.brw 17)) (.brw 5)))
@[simp] theorem opd_ir16_c1 {r : EM (D × Bool)} {γ : Z.Env} : opd ir16_c1 r γ = asV (r γ) := opd_lc
def ir16_c2 : Ex := .lc [18] (.nm 18) (.seq (.var 10)) (.ccmp .GtE (.brw 18) (.brw 5)) (.var 18)
@[simp] theorem opd_ir16_c2 {r : EM (D × Bool)} {γ : Z.Env} : opd ir16_c2 r γ = asV (r γ) := opd_lc
def ir16_c3 : Ex := .lc [16] (.nm 16) (.seq (.var 6)) .nil (.call 14 (.cons (.var 16) (.cons (.var 3) .nil)))
@[simp] theorem opd_ir16_c3 {r : EM (D × Bool)} {γ : Z.Env} : opd ir16_c3 r γ = asV (r γ) := opd_lc
def ir16_c4 : Ex := .lc [16] (.nm 16) (.seq (.var 6)) (.ccmp .Eq (.call 13 (.cons (.var 16) .nil)) (.brw 9)) (.var 16)
@[simp] theorem opd_ir16_c4 {r : EM (D × Bool)} {γ : Z.Env} : opd ir16_c4 r γ = asV (r γ) := opd_lc
def ir16_c5 : Ex := .lc [16] (.nm 16) (.seq (.var 6)) .nil (.call 13 (.cons (.var 16) .nil))
@[simp] theorem opd_ir16_c5 {r : EM (D × Bool)} {γ : Z.Env} : opd ir16_c5 r γ = asV (r γ) := opd_lc
def ir16_c6 : Ex := .lc [16] (.nm 16) (.seq (.var 6)) (.ccmp .GtE (.call 13 (.cons (.var 16) .nil)) (.brw 5)) (.var 16)
@[simp] theorem opd_ir16_c6 {r : EM (D × Bool)} {γ : Z.Env} : opd ir16_c6 r γ = asV (r γ) := opd_lc
def ir16_b1 : Sm := (.cons (.asg 3 (.bin .Add (.cst (.int 2)) (.callm 2 1 (.cons (.cst (.int 13)) .nil))))
  (.cons (.par false [4, 5] (.cons (.bin .Add (.cst (.int 1)) (.callm 2 1 (.cons (.bi .min2 (.cons (.cst (.int 5)) (.cons (.brw 3) .nil))) .nil))) (.cons (.bin .Add (.cst (.int 1)) (.callm 2 1 (.cons (.cst (.int 6)) .nil))) .nil)))
  (.cons (.asg 6 (.call 12 (.cons (.var 3) (.cons (.var 4) .nil))))
  (.cons (.asl 7 ir16_c6)
  (.cons (.iff (.cnot (.tr (.call 3 (.cons (.tup (.cons (.call 8 (.cons (.var 3) (.cons (.var 4) (.cons (.var 5) .nil)))) (.cons (.call 10 (.cons (.var 3) (.cons (.var 4) (.cons (.var 5) .nil)))) .nil))) (.cons (.tup (.cons (.bi .len (.cons (.brw 7) .nil)) (.cons (.ite (.ccmp .NotEq (.brw 7) (.lst .nil)) (.idx (.brw 7) (.cst (.int 0))) (.cst .non)) .nil))) .nil)))))
  (.cons (.ret (.cst (.bl false)))
  .nil)
  .nil)
  (.cons (.asg 8 (.callm 2 1 (.cons (.bin .Add (.bi .len (.cons (.brw 7) .nil)) (.cst (.int 2))) .nil)))
  (.cons (.iff (.cnot (.tr (.call 3 (.cons (.call 11 (.cons (.var 3) (.cons (.var 4) (.cons (.var 5) (.cons (.var 8) .nil))))) (.cons (.ite (.ccmp .Lt (.brw 8) (.bi .len (.cons (.brw 7) .nil))) (.idx (.brw 7) (.brw 8)) (.cst .non)) .nil)))))
  (.cons (.ret (.cst (.bl false)))
  .nil)
  .nil)
  (.cons (.iff (.ccmp .Gt (.brw 4) (.cst (.int 1)))
  (.cons (.asg 9 (.bi .max (.cons ir16_c5 .nil)))
  (.cons (.iff (.cnot (.tr (.call 3 (.cons (.tup (.cons (.call 4 (.cons (.var 3) (.cons (.var 4) .nil))) (.cons (.call 5 (.cons (.var 3) (.cons (.var 4) .nil))) .nil))) (.cons (.tup (.cons (.var 9) (.cons (.idx ir16_c4 (.cst (.int 0))) .nil))) .nil)))))
  (.cons (.ret (.cst (.bl false)))
  .nil)
  .nil)
  (.cons (.asl 10 ir16_c3)
  (.cons (.iff (.cnot (.tr (.call 3 (.cons (.tup (.cons (.call 6 (.cons (.var 3) (.cons (.var 4) .nil))) (.cons (.call 9 (.cons (.var 3) (.cons (.var 4) (.cons (.var 5) .nil)))) .nil))) (.cons (.tup (.cons (.bi .max (.cons (.brw 10) .nil)) (.cons (.bi .len (.cons ir16_c2 .nil)) .nil))) .nil)))))
  (.cons (.ret (.cst (.bl false)))
  .nil)
  .nil)
  .nil))))
  .nil)
  .nil))))))))
def ir16_f1 : Sm := .foR (.nm 2) (.rng1 (.cst (.int 3))) ir16_b1 [2, 3, 4, 5, 6, 7, 8, 9, 10]
def ir16 : Sm := (.cons (.asg 1 (.call 1 (.cons (.var 0) .nil)))
  (.cons (.iff (.cor (.ccmp .NotEq (.call 4 (.cons (.cst (.int 10)) (.cons (.cst (.int 4)) .nil))) (.cst (.int 3))) (.cor (.ccmp .NotEq (.call 5 (.cons (.cst (.int 10)) (.cons (.cst (.int 4)) .nil))) (.tup (.cons (.cst (.int 0)) (.cons (.cst (.int 3)) (.cons (.cst (.int 6)) (.cons (.cst (.int 9)) .nil)))))) (.cor (.ccmp .NotEq (.call 6 (.cons (.cst (.int 10)) (.cons (.cst (.int 4)) .nil))) (.cst (.int 2))) (.ccmp .NotEq (.call 8 (.cons (.cst (.int 5)) (.cons (.cst (.int 2)) (.cons (.cst (.int 2)) .nil)))) (.cst (.int 6))))))
  (.cons (.ret (.cst (.bl false)))
  .nil)
  .nil)
  (.cons (.iff (.cor (.ccmp .NotEq (.call 9 (.cons (.cst (.int 5)) (.cons (.cst (.int 2)) (.cons (.cst (.int 2)) .nil)))) (.cst (.int 5))) (.cor (.ccmp .IsNot (.call 10 (.cons (.cst (.int 5)) (.cons (.cst (.int 3)) (.cons (.cst (.int 3)) .nil)))) (.cst .non)) (.ccmp .NotEq (.call 11 (.cons (.cst (.int 5)) (.cons (.cst (.int 2)) (.cons (.cst (.int 2)) (.cons (.cst (.int 5)) .nil))))) (.tup (.cons (.cst (.int 2)) (.cons (.cst (.int 4)) .nil))))))
  (.cons (.ret (.cst (.bl false)))
  .nil)
  .nil)
  (.cons ir16_f1
  (.cons (.par false [3, 4, 5] (.cons (.bin .Add (.cst (.int 20)) (.callm 2 1 (.cons (.cst (.int 181)) .nil))) (.cons (.bin .Add (.cst (.int 2)) (.callm 2 1 (.cons (.cst (.int 19)) .nil))) (.cons (.bin .Add (.cst (.int 1)) (.callm 2 1 (.cons (.cst (.int 9)) .nil))) .nil))))
  (.cons (.par true [11, 12] (.cons (.bin .Sub (.brw 3) (.bin .Mult (.bin .Sub (.brw 4) (.cst (.int 1))) (.bin .Sub (.brw 5) (.cst (.int 1))))) (.cons (.bin .Sub (.bin .Sub (.brw 3) (.cst (.int 1))) (.bin .Mult (.brw 4) (.bin .Sub (.brw 5) (.cst (.int 1))))) .nil)))
  (.cons (.asg 13 (.tup (.cons (.ite (.ccmp .Gt (.brw 11) (.cst (.int 0))) (.call 15 (.cons (.var 11) (.cons (.var 4) .nil))) (.cst (.int 0))) (.cons (.ite (.ccmp .Gt (.brw 12) (.cst (.int 0))) (.bin .FloorDiv (.bin .Mult (.brw 3) (.call 15 (.cons (.var 12) (.cons (.bin .Sub (.brw 4) (.cst (.int 1))) .nil)))) (.brw 4)) (.cst (.int 0))) .nil))))
  (.cons (.iff (.cnot (.tr (.call 3 (.cons (.tup (.cons (.call 8 (.cons (.var 3) (.cons (.var 4) (.cons (.var 5) .nil)))) (.cons (.call 9 (.cons (.var 3) (.cons (.var 4) (.cons (.var 5) .nil)))) .nil))) (.cons (.var 13) .nil)))))
  (.cons (.ret (.cst (.bl false)))
  .nil)
  .nil)
  (.cons (.iff (.ccmp .Gt (.idx (.brw 13) (.cst (.int 0))) (.cst (.int 0)))
  (.cons (.asg 8 (.callm 2 1 (.cons (.idx (.brw 13) (.cst (.int 0))) .nil)))
  (.cons (.asg 14 (.call 11 (.cons (.var 3) (.cons (.var 4) (.cons (.var 5) (.cons (.var 8) .nil))))))
  (.cons (.iff (.cor (.ccmp .NotEq (.bi .len (.cons (.brw 14) .nil)) (.brw 4)) (.cor (.ccmp .Lt (.call 13 (.cons (.var 14) .nil)) (.brw 5)) (.cor (.ccmp .GtE (.idx (.brw 14) (.neg (.cst (.int 1)))) (.brw 3)) (.ccmp .Lt (.idx (.brw 14) (.cst (.int 0))) (.cst (.int 0))))))
  (.cons (.ret (.cst (.bl false)))
  .nil)
  .nil)
  (.cons (.asg 15 (.call 11 (.cons (.var 3) (.cons (.var 4) (.cons (.var 5) (.cons (.bin .Sub (.idx (.brw 13) (.cst (.int 0))) (.cst (.int 1))) .nil))))))
  (.cons (.iff (.cnot (.tr (.call 3 (.cons (.var 15) (.cons (.bi .tuple (.cons ir16_c1 .nil)) .nil)))))
  (.cons (.ret (.cst (.bl false)))
  .nil)
  .nil)
  .nil)))))
  .nil)
  (.cons (.ret (.cmp .Is (.call 11 (.cons (.var 3) (.cons (.var 4) (.cons (.var 5) (.cons (.idx (.brw 13) (.cst (.int 0))) .nil))))) (.cst .non)))
  .nil))))))))))
abbrev d16 : Df := ⟨"law", ["script", "tape", "turn", "length", "stems", "far", "rows", "good", "number", "wide", "around", "rest", "round_rest", "due", "told", "last", "row", "k", "gap"], ["script"], false, ir16⟩
abbrev dfs : List Df := [d0, d1, d2, d3, d4, d5, d6, d7, d8, d9, d10, d11, d12, d13, d14, d15, d16]
def cst : Cst := ⟨fun j => ["_law_mix", "_law_tape", "_law_take", "_law_same", "widest_gap", "widest_spots", "widest_on_ring", "choose", "count_spots", "count_on_ring", "first_spots", "spots_numbered", "_law_spots", "_law_gap", "_law_ring_gap", "_law_choices", "law"].getD j "", [], ["all", "bool", "int", "isinstance", "len", "list", "max", "min", "range", "str", "tuple"]⟩
theorem ck0 : dfB cst (topS 10) d0 = true := by decide +kernel
theorem ck1 : dfB cst (topS 11) d1 = true := by decide +kernel
theorem ck2 : dfB cst (topS 12) d2 = true := by decide +kernel
theorem ck3 : dfB cst (topS 13) d3 = true := by decide +kernel
theorem ck4 : dfB cst (topS 1) d4 = true := by decide +kernel
theorem ck5 : dfB cst (topS 2) d5 = true := by decide +kernel
theorem ck6 : dfB cst (topS 3) d6 = true := by decide +kernel
theorem ck7 : dfB cst (topS 4) d7 = true := by decide +kernel
theorem ck8 : dfB cst (topS 5) d8 = true := by decide +kernel
theorem ck9 : dfB cst (topS 6) d9 = true := by decide +kernel
theorem ck10 : dfB cst (topS 7) d10 = true := by decide +kernel
theorem ck11 : dfB cst (topS 8) d11 = true := by decide +kernel
theorem ck12 : dfB cst (topS 14) d12 = true := by decide +kernel
theorem ck13 : dfB cst (topS 15) d13 = true := by decide +kernel
theorem ck14 : dfB cst (topS 16) d14 = true := by decide +kernel
theorem ck15 : dfB cst (topS 17) d15 = true := by decide +kernel
theorem ck16 : dfB cst (topS 18) d16 = true := by decide +kernel
end K15
namespace K15
/-! ### choices -/
def ch : Nat → Nat → Nat
  | _, 0 => 1
  | 0, _ + 1 => 0
  | n + 1, k + 1 => ch n k + ch n (k + 1)
theorem ch_zero {n : Nat} : ch n 0 = 1 := by cases n <;> rfl
theorem ch_gt : ∀ {n k : Nat}, n < k → ch n k = 0
  | n, 0, h => absurd h (by omega)
  | 0, k + 1, _ => rfl
  | n + 1, k + 1, h => by rw [ch, ch_gt (n := n) (k := k) (by omega), ch_gt (n := n) (k := k + 1) (by omega)]
theorem ch_pos : ∀ {n k : Nat}, k ≤ n → 0 < ch n k
  | n, 0, _ => by rw [ch_zero]; omega
  | n + 1, k + 1, h => by
    rw [ch]
    have := ch_pos (n := n) (k := k) (by omega)
    omega
theorem ch_mul : ∀ (n k : Nat), k ≤ n → ch n (k + 1) * (k + 1) = ch n k * (n - k)
  | 0, 0, _ => rfl
  | n + 1, 0, _ => by
    have h := ch_mul n 0 (by omega)
    simp only [ch_zero] at h ⊢
    rw [ch, ch_zero]
    omega
  | n + 1, k + 1, h => by
    have h1 := ch_mul n k (by omega)
    rw [ch, ch]
    by_cases e : k + 1 ≤ n
    · have h2 := ch_mul n (k + 1) e
      generalize ch n k = a at *
      generalize ch n (k + 1) = b at *
      generalize ch n (k + 1 + 1) = c at *
      obtain ⟨d, rfl⟩ : ∃ d, n = k + 1 + d := ⟨n - (k + 1), by omega⟩
      rw [show k + 1 + d - k = d + 1 by omega] at h1
      rw [show k + 1 + d - (k + 1) = d by omega] at h2
      rw [show k + 1 + d + 1 - (k + 1) = d + 1 by omega, Nat.add_mul, Nat.add_mul, h2, ← h1]
      simp only [Nat.mul_add, Nat.mul_one]
      omega
    · have e2 : n = k := by omega
      subst e2
      rw [ch_gt (n := n) (k := n + 1) (by omega), ch_gt (n := n) (k := n + 1 + 1) (by omega)]
      simp
theorem ch_le : ∀ (n k : Nat), ch n k ≤ 2 ^ n
  | n, 0 => by rw [ch_zero]; exact Nat.one_le_two_pow
  | 0, k + 1 => by rw [ch]; omega
  | n + 1, k + 1 => by
    have h1 := ch_le n k
    have h2 := ch_le n (k + 1)
    rw [ch, Nat.pow_succ]
    omega
/-! ### rows that rise -/
def G (n far : Nat) : Nat → Nat → List (List Nat)
  | _, 0 => [[]]
  | lo, t + 1 => (List.range' lo (n - lo)).flatMap fun p => (G n far (p + far) t).map (p :: ·)
variable {n far : Nat}
theorem G_cons {lo t : Nat} (h : lo < n) : G n far lo (t + 1) = (G n far (lo + far) t).map (lo :: ·) ++ G n far (lo + 1) (t + 1) := by
  rw [G, show n - lo = (n - (lo + 1)) + 1 by omega, List.range'_succ, List.flatMap_cons]
  rfl
theorem G_out {lo t : Nat} (h : n ≤ lo) : G n far lo (t + 1) = [] := by
  rw [G, show n - lo = 0 by omega]
  rfl
theorem G_len (hf : 1 ≤ far) : ∀ (t m lo : Nat), n - lo = m → (G n far lo (t + 1)).length = ch (m - t * (far - 1)) (t + 1) := by
  intro t
  induction t with
  | zero =>
    intro m
    induction m with
    | zero => intro lo h; rw [G_out (by omega)]; simp [ch]
    | succ m ih =>
      intro lo h
      rw [G_cons (by omega), List.length_append, ih (lo + 1) (by omega), List.length_map, G]
      simp only [Nat.zero_mul, Nat.sub_zero, List.length_cons, List.length_nil]
      rw [ch, ch_zero]
  | succ t iht =>
    intro m
    induction m with
    | zero =>
      intro lo h
      rw [G_out (by omega), Nat.zero_sub]
      rfl
    | succ m ih =>
      intro lo h
      rw [G_cons (by omega), List.length_append, ih (lo + 1) (by omega), List.length_map, iht (n - (lo + far)) (lo + far) rfl]
      have e : (t + 1) * (far - 1) = t * (far - 1) + (far - 1) := by rw [Nat.add_mul, Nat.one_mul]
      by_cases hm : (t + 1) * (far - 1) < m + 1
      · obtain ⟨q, hq⟩ : ∃ q, m = (t + 1) * (far - 1) + q := ⟨m - (t + 1) * (far - 1), by omega⟩
        rw [show m + 1 - (t + 1) * (far - 1) = q + 1 by omega, show m - (t + 1) * (far - 1) = q by omega, show n - (lo + far) - t * (far - 1) = q by omega, ch]
      · rw [show m + 1 - (t + 1) * (far - 1) = 0 by omega, show m - (t + 1) * (far - 1) = 0 by omega, show n - (lo + far) - t * (far - 1) = 0 by omega]
        rfl
theorem G_head {lo t : Nat} (hf : 1 ≤ far) : (G n far lo (t + 1)).head? = if lo + t * far < n then some ((List.range (t + 1)).map fun k => lo + k * far) else none := by
  induction t generalizing lo with
  | zero =>
    by_cases h : lo < n
    · rw [G_cons h, if_pos (by omega)]
      simp [G]
    · rw [G_out (by omega), if_neg (by omega)]
      rfl
  | succ t ih =>
    have e : (t + 1) * far = t * far + far := by rw [Nat.add_mul, Nat.one_mul]
    by_cases h : lo + (t + 1) * far < n
    · have h2 := ih (lo := lo + far)
      rw [if_pos (by omega)] at h2
      rw [G_cons (by omega), if_pos h]
      cases hg : G n far (lo + far) (t + 1) with
      | nil => rw [hg] at h2; cases h2
      | cons r rs =>
        rw [hg] at h2
        have h2 : r = _ := Option.some.inj h2
        rw [List.map_cons, List.cons_append, List.head?_cons, List.range_succ_eq_map, List.map_cons, List.map_map, h2]
        congr 2
        · omega
        · refine List.map_congr_left fun k _ => ?_
          show lo + far + k * far = lo + (k + 1) * far
          rw [Nat.add_mul, Nat.one_mul]
          omega
    · rw [if_neg h]
      have : ∀ m lo, n - lo = m → ¬ lo + (t + 1) * far < n → G n far lo (t + 1 + 1) = [] := by
        intro m
        induction m with
        | zero => intro lo h1 _; exact G_out (by omega)
        | succ m ihm =>
          intro lo h1 h2
          have h3 := ih (lo := lo + far)
          rw [if_neg (by omega)] at h3
          rw [G_cons (by omega), ihm (lo + 1) (by omega) (by omega), List.eq_nil_of_length_eq_zero (l := G n far (lo + far) (t + 1))]
          · rfl
          · cases hg : G n far (lo + far) (t + 1) with
            | nil => rfl
            | cons r rs => rw [hg] at h3; cases h3
      rw [this (n - lo) lo rfl h]
      rfl
end K15
namespace K15
variable {n far : Nat}
theorem G_nil_of {lo t : Nat} (h : ¬ lo + t * far < n) (hf : 1 ≤ far) : G n far lo (t + 1) = [] := by
  have := G_head (n := n) (far := far) (lo := lo) (t := t) hf
  rw [if_neg h] at this
  cases hg : G n far lo (t + 1) with
  | nil => rfl
  | cons r rs => rw [hg] at this; cases this
theorem G_last {t : Nat} (hf : 1 ≤ far) : ∀ (m lo : Nat), n - lo = m → lo + t * far < n → (G n far lo (t + 1)).getLast? = some ((List.range (t + 1)).map fun k => n - 1 - (t - k) * far) := by
  induction t with
  | zero =>
    intro m
    induction m with
    | zero => intro lo h1 h2; omega
    | succ m ih =>
      intro lo h1 h2
      rw [G_cons (by omega)]
      by_cases h : lo + 1 < n
      · rw [List.getLast?_append, ih (lo + 1) (by omega) (by omega)]
        rfl
      · rw [G_out (by omega)]
        have : n - 1 = lo := by omega
        simp [G, this]
  | succ t iht =>
    intro m
    induction m with
    | zero => intro lo h1 h2; omega
    | succ m ih =>
      intro lo h1 h2
      have e : (t + 1) * far = t * far + far := by rw [Nat.add_mul, Nat.one_mul]
      rw [G_cons (by omega)]
      by_cases h : lo + 1 + (t + 1) * far < n
      · rw [List.getLast?_append, ih (lo + 1) (by omega) h]
        rfl
      · rw [G_nil_of h hf, List.append_nil, List.getLast?_map, iht (n - (lo + far)) (lo + far) rfl (by omega)]
        simp only [Option.map_some, Option.some.injEq]
        rw [List.range_succ_eq_map (n := t + 1), List.map_cons, List.map_map]
        congr 1
        · rw [Nat.sub_zero]; omega
        · refine List.map_congr_left fun k _ => ?_
          show n - 1 - (t - k) * far = n - 1 - (t + 1 - (k + 1)) * far
          rw [Nat.add_sub_add_right]
/-- distances -/
def gapV : List Nat → Nat
  | [] => 1000000
  | a :: r => match r with
    | [] => 1000000
    | b :: q => min (b - a) (gapV r)
theorem gapV_cons {a b : Nat} {q : List Nat} : gapV (a :: b :: q) = min (b - a) (gapV (b :: q)) := rfl
theorem gapV_le : ∀ (r : List Nat), gapV r ≤ 1000000
  | [] => Nat.le_refl _
  | [_] => Nat.le_refl _
  | a :: b :: q => by rw [gapV_cons]; exact Nat.le_trans (Nat.min_le_right _ _) (gapV_le (b :: q))
/-- rows begin at lo or above -/
theorem G_ge {t : Nat} : ∀ {lo : Nat} {r : List Nat}, r ∈ G n far lo t → r.length = t ∧ (∀ x ∈ r, lo ≤ x ∧ x < n) ∧ (∀ a q, r = a :: q → ∀ x ∈ q, a + far ≤ x) := by
  induction t with
  | zero =>
    intro lo r h
    have : r = [] := by simpa [G] using h
    subst this
    exact ⟨rfl, by simp, fun _ _ e => nomatch e⟩
  | succ t ih =>
    intro lo r h
    rw [G, List.mem_flatMap] at h
    obtain ⟨p, hp, hr⟩ := h
    rw [List.mem_range'_1] at hp
    rw [List.mem_map] at hr
    obtain ⟨q, hq, rfl⟩ := hr
    obtain ⟨h1, h2, h3⟩ := ih hq
    refine ⟨by rw [List.length_cons, h1], fun x hx => ?_, fun a q' e x hx => ?_⟩
    · rcases List.mem_cons.mp hx with rfl | hx
      · omega
      · have := h2 x hx; omega
    · cases e
      exact (h2 x hx).1
def hge (l : Nat) (r : List Nat) : Bool := match r with
  | [] => true
  | a :: _ => decide (l ≤ a)
/-- the rows whose first is not below -/
theorem G_head_ge {t lo lo' : Nat} (h : lo ≤ lo') : (G n far lo t).filter (hge lo') = G n far lo' t := by
  cases t with
  | zero => rfl
  | succ t =>
    obtain ⟨d, rfl⟩ : ∃ d, lo' = lo + d := ⟨lo' - lo, by omega⟩
    clear h
    induction d generalizing lo with
    | zero =>
      refine List.filter_eq_self.mpr fun r hr => ?_
      have hr := (G_ge hr).2.1
      cases r with
      | nil => rfl
      | cons a q => simpa [hge] using (hr a (by simp)).1
    | succ d ih =>
      by_cases hlo : lo < n
      · rw [G_cons hlo, List.filter_append, List.filter_map]
        have e1 : (G n far (lo + far) t).filter (hge (lo + (d + 1)) ∘ (lo :: ·)) = [] := by
          rw [List.filter_eq_nil_iff]
          intro r _
          simp [hge]
        rw [e1, List.map_nil, List.nil_append]
        have := ih (lo := lo + 1)
        rw [show lo + 1 + d = lo + (d + 1) by omega] at this
        exact this
      · rw [G_out (by omega), G_out (by omega)]
        rfl
theorem gap_cons {p : Nat} {r : List Nat} (hf : far ≤ 1000000) (hr : ∀ x ∈ r, p < x) : decide (far ≤ gapV (p :: r)) = (decide (far ≤ gapV r) && hge (p + far) r) := by
  cases r with
  | nil => simp [gapV, hf, hge]
  | cons b q =>
    have := hr b (by simp)
    rw [gapV_cons]
    show _ = (decide (far ≤ gapV (b :: q)) && decide (p + far ≤ b))
    by_cases h1 : far ≤ gapV (b :: q)
    · by_cases h2 : p + far ≤ b
      · simp [h1, h2]; omega
      · simp [h1, h2]; omega
    · simp [h1]; omega
/-- of all rows those that keep a distance -/
theorem G_keep (hf : 1 ≤ far) (hf2 : far ≤ 1000000) : ∀ {t lo : Nat}, (G n 1 lo t).filter (fun r => decide (far ≤ gapV r)) = G n far lo t
  | 0, lo => by simp [G, gapV, hf2]
  | t + 1, lo => by
    rw [G, G, List.filter_flatMap]
    congr 1
    funext p
    rw [List.filter_map]
    congr 1
    rw [show (G n 1 (p + 1) t).filter ((fun r => decide (far ≤ gapV r)) ∘ (p :: ·)) = ((G n 1 (p + 1) t).filter fun r => decide (far ≤ gapV r)).filter (hge (p + far)) from ?_, G_keep hf hf2, G_head_ge (by omega)]
    rw [List.filter_filter]
    refine List.filter_congr fun r hr => ?_
    show decide (far ≤ gapV (p :: r)) = _
    rw [gap_cons hf2 fun x hx => by have := (G_ge hr).2.1 x hx; omega, Bool.and_comm]
/-- rows made longer at the end -/
def ext (n lo : Nat) (r : List Nat) : List Nat := match r.getLast? with
  | none => List.range' lo (n - lo)
  | some l => List.range' (l + 1) (n - (l + 1))
theorem ext_cons {n lo p : Nat} {r : List Nat} : ext n lo (p :: r) = ext n (p + 1) r := by
  unfold ext
  cases r with
  | nil => rfl
  | cons a q => rw [List.getLast?_cons_cons]; rw [List.getLast?_cons]
theorem G_snoc : ∀ {t lo : Nat}, G n 1 lo (t + 1) = (G n 1 lo t).flatMap fun r => (ext n lo r).map fun p => r ++ [p]
  | 0, lo => by
    rw [G]
    simp only [G, ext, List.map_cons, List.map_nil, List.flatMap_cons, List.flatMap_nil, List.append_nil, List.getLast?_nil, List.nil_append]
    induction List.range' lo (n - lo) with
    | nil => rfl
    | cons x l ih => rw [List.flatMap_cons, ih]; rfl
  | t + 1, lo => by
    rw [G, show G n 1 lo (t + 1) = (List.range' lo (n - lo)).flatMap fun p => (G n 1 (p + 1) t).map (p :: ·) from rfl, List.flatMap_assoc]
    congr 1
    funext p
    rw [G_snoc, List.map_flatMap, List.flatMap_map]
    congr 1
    funext r
    rw [ext_cons, List.map_map]
    rfl
theorem range_gt {l : Nat} : (List.range n).filter (fun p => decide (l < p)) = List.range' (l + 1) (n - (l + 1)) := by
  induction n with
  | zero => simp
  | succ n ih =>
    rw [List.range_succ, List.filter_append, ih]
    by_cases h : l < n
    · rw [show n + 1 - (l + 1) = n - (l + 1) + 1 by omega, List.range'_concat]
      simp [h]
      omega
    · rw [show n + 1 - (l + 1) = 0 by omega, show n - (l + 1) = 0 by omega]
      simp [h]
end K15
namespace K15
variable {n far : Nat}
def lst (r : List Nat) : Nat := r.getLast?.getD 0
def fst (r : List Nat) : Nat := r.head?.getD 0
theorem lst_cons {p : Nat} {r : List Nat} (h : r ≠ []) : lst (p :: r) = lst r := by
  cases r with
  | nil => exact absurd rfl h
  | cons a q => unfold lst; rw [List.getLast?_cons_cons]
theorem lst_mem {r : List Nat} (h : r ≠ []) : lst r ∈ r := by
  induction r with
  | nil => exact absurd rfl h
  | cons a q ih =>
    cases q with
    | nil => exact List.mem_cons_self
    | cons b q => rw [lst_cons (by simp)]; exact List.mem_cons_of_mem _ (ih (by simp))
theorem G_ne {lo t : Nat} {r : List Nat} (h : r ∈ G n far lo (t + 1)) : r ≠ [] := fun z => by
  have := (G_ge h).1
  rw [z] at this
  cases this
theorem G_lst {m : Nat} (hf : 1 ≤ far) : ∀ {t : Nat} (d lo : Nat), n - lo = d → (G n far lo (t + 1)).filter (fun r => decide (lst r < m)) = G (min n m) far lo (t + 1) := by
  intro t
  induction t with
  | zero =>
    intro d
    induction d with
    | zero => intro lo h; rw [G_out (by omega), G_out (by omega)]; rfl
    | succ d ih =>
      intro lo h
      rw [G_cons (by omega), List.filter_append, ih (lo + 1) (by omega)]
      by_cases h2 : lo < m
      · rw [G_cons (n := min n m) (lo := lo) (by omega)]
        simp [G, lst, h2]
      · rw [G_out (n := min n m) (lo := lo) (by omega), G_out (n := min n m) (by omega)]
        simp [G, lst, h2]
  | succ t iht =>
    intro d
    induction d with
    | zero => intro lo h; rw [G_out (by omega), G_out (by omega)]; rfl
    | succ d ih =>
      intro lo h
      have e : (G n far (lo + far) (t + 1)).filter ((fun r => decide (lst r < m)) ∘ (lo :: ·)) = G (min n m) far (lo + far) (t + 1) := by
        rw [← iht (n - (lo + far)) (lo + far) rfl]
        refine List.filter_congr fun r hr => ?_
        show decide (lst (lo :: r) < m) = _
        rw [lst_cons (G_ne hr)]
      rw [G_cons (by omega), List.filter_append, ih (lo + 1) (by omega), List.filter_map, e]
      by_cases h2 : lo < min n m
      · rw [G_cons (n := min n m) h2]
      · rw [G_out (n := min n m) (lo := lo) (by omega), G_out (n := min n m) (lo := lo + far) (by omega), G_out (n := min n m) (lo := lo + 1) (by omega)]
        rfl
def rok (n far : Nat) (r : List Nat) : Bool := decide (lst r + far ≤ n + fst r)
theorem T_step {u lo : Nat} (hf : 1 ≤ far) (h : lo < n) : ((G n far lo (u + 2)).filter (rok n far)).length = ch (min n (n + lo + 1 - far) - (lo + far) - u * (far - 1)) (u + 1) + ((G n far (lo + 1) (u + 2)).filter (rok n far)).length := by
  rw [G_cons h, List.filter_append, List.length_append, List.filter_map, List.length_map]
  congr 1
  have e : (G n far (lo + far) (u + 1)).filter (rok n far ∘ (lo :: ·)) = (G n far (lo + far) (u + 1)).filter fun r => decide (lst r < n + lo + 1 - far) := by
    refine List.filter_congr fun r hr => ?_
    show rok n far (lo :: r) = _
    unfold rok
    rw [lst_cons (G_ne hr)]
    show decide (lst r + far ≤ n + lo) = _
    by_cases h : lst r + far ≤ n + lo
    · simp [h]; omega
    · simp [h]; omega
  rw [e, G_lst hf _ _ rfl, G_len hf u _ _ rfl]
theorem T_far {u lo : Nat} (hf : 1 ≤ far) (h : far ≤ lo) : (G n far lo (u + 2)).filter (rok n far) = G n far lo (u + 2) := by
  refine List.filter_eq_self.mpr fun r hr => ?_
  have h1 := (G_ge hr).2.1
  have h2 := h1 _ (lst_mem (G_ne hr))
  cases r with
  | nil => exact absurd rfl (G_ne hr)
  | cons a q =>
    have h3 := h1 a (by simp)
    show decide (lst (a :: q) + far ≤ n + a) = true
    simp
    omega
theorem T_lo {u : Nat} (hf : 1 ≤ far) (hn : far ≤ n) : ∀ (d lo : Nat), lo + d = far → ((G n far lo (u + 2)).filter (rok n far)).length = d * ch (n + 1 - 2 * far - u * (far - 1)) (u + 1) + ch (n - far - (u + 1) * (far - 1)) (u + 2)
  | 0, lo, h => by
    rw [T_far hf (by omega), G_len hf (u + 1) _ _ rfl, Nat.zero_mul, Nat.zero_add, show n - lo = n - far by omega]
  | d + 1, lo, h => by
    rw [T_step hf (by omega), T_lo hf hn d (lo + 1) (by omega), show min n (n + lo + 1 - far) - (lo + far) = n + 1 - 2 * far by omega]
    generalize ch (n + 1 - 2 * far - u * (far - 1)) (u + 1) = c0
    have e : (d + 1) * c0 = d * c0 + c0 := by rw [Nat.add_mul, Nat.one_mul]
    omega
theorem T_none {u : Nat} (hf : 1 ≤ far) (hn : n < far) : ∀ (d lo : Nat), n - lo = d → ((G n far lo (u + 2)).filter (rok n far)).length = 0
  | 0, lo, h => by rw [G_out (by omega)]; rfl
  | d + 1, lo, h => by
    rw [T_step hf (by omega), T_none hf hn d (lo + 1) (by omega), show min n (n + lo + 1 - far) - (lo + far) = 0 by omega, Nat.zero_sub]
    rfl
/-- how many go round a ring -/
theorem ring_count {u : Nat} (hf : 1 ≤ far) : ((G n far 0 (u + 2)).filter (rok n far)).length * (u + 2) = n * (if (u + 2) * (far - 1) < n then ch (n - 1 - (u + 2) * (far - 1)) (u + 1) else 0) := by
  have e2 : (u + 2) * (far - 1) = u * (far - 1) + 2 * (far - 1) := Nat.add_mul _ _ _
  have e1 : (u + 1) * (far - 1) = u * (far - 1) + (far - 1) := by rw [Nat.add_mul, Nat.one_mul]
  by_cases hn : far ≤ n
  · rw [T_lo hf hn far 0 (by omega)]
    by_cases h : (u + 2) * (far - 1) < n
    · rw [if_pos h]
      rw [show n + 1 - 2 * far - u * (far - 1) = n - 1 - (u + 2) * (far - 1) by omega, show n - far - (u + 1) * (far - 1) = n - 1 - (u + 2) * (far - 1) by omega]
      generalize hN : n - 1 - (u + 2) * (far - 1) = N
      by_cases hk : u + 1 ≤ N
      · have h3 := ch_mul N (u + 1) hk
        rw [Nat.add_mul, h3]
        have h4 : far * (u + 2) + (N - (u + 1)) = n := by
          obtain ⟨f, rfl⟩ : ∃ f, far = f + 1 := ⟨far - 1, by omega⟩
          rw [Nat.add_sub_cancel] at *
          rw [Nat.add_mul, Nat.one_mul, Nat.mul_comm f]
          omega
        generalize ch N (u + 1) = a
        generalize N - (u + 1) = b at *
        rw [← h4, Nat.add_mul, Nat.mul_comm a b]
        congr 1
        rw [Nat.mul_assoc, Nat.mul_assoc, Nat.mul_comm a]
      · rw [ch_gt (n := N) (k := u + 1) (by omega), ch_gt (n := N) (k := u + 2) (by omega)]
        simp
    · rw [if_neg h, show n + 1 - 2 * far - u * (far - 1) = 0 by omega, show n - far - (u + 1) * (far - 1) = 0 by omega]
      simp [ch]
  · rw [T_none hf (by omega) n 0 (by omega), if_neg]
    · simp
    · have : 2 * (far - 1) ≤ (u + 2) * (far - 1) := by omega
      omega
theorem ring_pos {u g : Nat} (hg : 1 ≤ g) (h : (u + 2) * g ≤ n) : 0 < ((G n g 0 (u + 2)).filter (rok n g)).length := by
  have hc := ring_count (n := n) (far := g) (u := u) hg
  have e : (u + 2) * g = (u + 2) * (g - 1) + (u + 2) := by
    obtain ⟨f, rfl⟩ : ∃ f, g = f + 1 := ⟨g - 1, by omega⟩
    rw [Nat.mul_add, Nat.mul_one, Nat.add_sub_cancel]
  rw [if_pos (by omega)] at hc
  have := ch_pos (n := n - 1 - (u + 2) * (g - 1)) (k := u + 1) (by omega)
  have h2 : 0 < n * ch (n - 1 - (u + 2) * (g - 1)) (u + 1) := Nat.mul_pos (by omega) this
  rw [← hc] at h2
  exact Nat.pos_of_mul_pos_right h2
theorem ring_none {u g : Nat} (hg : 1 ≤ g) (h : n < (u + 2) * g) : (G n g 0 (u + 2)).filter (rok n g) = [] := by
  have hc := ring_count (n := n) (far := g) (u := u) hg
  have e : (u + 2) * g = (u + 2) * (g - 1) + (u + 2) := by
    obtain ⟨f, rfl⟩ : ∃ f, g = f + 1 := ⟨g - 1, by omega⟩
    rw [Nat.mul_add, Nat.mul_one, Nat.add_sub_cancel]
  have z : (if (u + 2) * (g - 1) < n then ch (n - 1 - (u + 2) * (g - 1)) (u + 1) else 0) = 0 := by
    split
    · exact ch_gt (by omega)
    · rfl
  rw [z, Nat.mul_zero] at hc
  refine List.eq_nil_of_length_eq_zero ?_
  rcases Nat.mul_eq_zero.mp hc with h | h
  · exact h
  · omega
end K15
namespace K15
open PySem PySem.Spec L2 Z
def nD (l : List Nat) : List D := l.map fun (k : Nat) => .int (k : Int)
@[simp] theorem nD_len {l : List Nat} : (nD l).length = l.length := by simp [nD]
@[simp] theorem nD_nil : nD [] = [] := rfl
@[simp] theorem nD_emp {l : List Nat} : (nD l).isEmpty = l.isEmpty := by simp [nD]
variable {n L : Nat}
theorem choose_fold {N : Nat} : ∀ k, k ≤ N → (List.range k).foldl (fun s j => s * (N - j) / (j + 1)) 1 = ch N k
  | 0, _ => by rw [ch_zero]; rfl
  | k + 1, h => by
    rw [List.range_succ, List.foldl_append, choose_fold k (by omega)]
    show ch N k * (N - k) / (k + 1) = _
    rw [← ch_mul N k (by omega), Nat.mul_div_cancel _ (by omega)]
def chI (m : Int) (k : Nat) : Nat := if m < k then 0 else ch m.toNat k
theorem choose_ok {m : Int} {k : Nat} (hm : m < 100000) (hk : k < 100000) : (Tb dfs n (L + 1)).fn 7 [.int m, .int k] = some (.int (chI m k), false) := by
  rw [fn_eq (d := d7) rfl rfl rfl]
  generalize Tb dfs n L = Φ
  unfold chI
  by_cases h : m < k
  · simp [ir7, h]
  · obtain ⟨N, rfl⟩ : ∃ N : Nat, m = N := ⟨m.toNat, by omega⟩
    rw [if_neg h, Int.toNat_natCast]
    have lp := (forRun_fold (f := forB Φ n (.nm 3) ir7_b1) (w := [3]) (e := fun (j : Nat) => D.int (0 + (j : Int))) (fun (s : Nat) => [.val (.int N), .val (.int k), .val (.int s), .no]) (fun s j => s * (N - j) / (j + 1)) (fun _ => True) (xs := List.range k) (s := 1) trivial (fun s j hj _ => ⟨trivial, by
      have hj : j < k := by simpa using hj
      rw [Int.zero_add]
      have e1 : (N : Int) - j = ((N - j : Nat) : Int) := by omega
      have e2 : (j : Int) + 1 = ((j + 1 : Nat) : Int) := by omega
      refine ⟨[.val (.int N), .val (.int k), .val (.int (s * (N - j) / (j + 1) : Nat)), .val (.int j)], ?_, by simp⟩
      have e3 : ((s * (N - j) / (j + 1) : Nat) : Int) = (s : Int) * ((N - j : Nat) : Int) / ((j + 1 : Nat) : Int) := by rw [Int.natCast_ediv, Int.natCast_mul]
      rw [e3]
      have dv : DivOk ((j + 1 : Nat) : Int) := ⟨by omega, .inl (by omega)⟩
      have mo : Z.MulOk (s : Int) ((N - j : Nat) : Int) := Z.MulOk.r (by omega) (by omega)
      generalize N - j = a at *
      generalize j + 1 = b at *
      simp [forB_eq, ir7_b1, e1, e2, dv, mo]⟩)).1
    rw [choose_fold k (by omega), ← rangeD_map] at lp
    have e1 : (D.int ((1 : Nat) : Int)) = .int 1 := rfl
    rw [e1] at lp
    simp [ir7, ir7_f1, h, rngOk.s, show (k : Int) < 4611686018427387904 by omega, show -4611686018427387904 ≤ (k : Int) by omega, lp]
def numI (m : Int) (k far : Nat) : Nat := chI (m - ((k : Int) - 1) * ((far : Int) - 1)) k
theorem small_mul {k far : Nat} (hk : k < 1000) (hf : far < 1000) (h1 : 1 ≤ far) (h2 : 1 ≤ k) : 0 ≤ ((k : Int) - 1) * ((far : Int) - 1) ∧ ((k : Int) - 1) * ((far : Int) - 1) = (((k - 1) * (far - 1) : Nat) : Int) ∧ (k - 1) * (far - 1) < 1000000 := by
  have e : ((k : Int) - 1) * ((far : Int) - 1) = (((k - 1) * (far - 1) : Nat) : Int) := by
    rw [Int.natCast_mul]
    congr 1 <;> omega
  refine ⟨by rw [e]; omega, e, ?_⟩
  have : (k - 1) * (far - 1) ≤ 999 * 999 := Nat.mul_le_mul (by omega) (by omega)
  omega
theorem num_ok {m : Int} {k far : Nat} (hm : m < 1000) (hk : k < 1000) (hf : far < 1000) (h1 : 1 ≤ far) (h2 : 1 ≤ k) : (Tb dfs n (L + 2)).fn 8 [.int m, .int k, .int far] = some (.int (numI m k far), false) := by
  rw [fn_eq (d := d8) rfl rfl rfl]
  obtain ⟨a1, a2, a3⟩ := small_mul hk hf h1 h2
  have hc := choose_ok (n := n) (L := L) (m := m - ((k : Int) - 1) * ((far : Int) - 1)) (k := k) (by omega) (by omega)
  have mo : Z.MulOk ((k : Int) - 1) ((far : Int) - 1) := Z.MulOk.l (by omega) (by omega)
  simp [ir8, mo, hc, numI]
theorem num_G {lo t far N : Nat} (hf : 1 ≤ far) (ht : t + 1 < 1000) (hf2 : far < 1000) {m : Int} (hm : m = (N : Int) - lo) : numI m (t + 1) far = (G N far lo (t + 1)).length := by
  subst hm
  obtain ⟨a1, a2, a3⟩ := small_mul (k := t + 1) (far := far) (show t + 1 < 1000 by omega) hf2 hf (by omega)
  rw [G_len hf t _ lo rfl, numI, a2, chI, Nat.add_sub_cancel]
  generalize t * (far - 1) = q
  split
  · rw [ch_gt (by omega)]
  · congr 1
    omega
theorem gapw_ok {N k : Nat} (hk : 2 ≤ k) (h1 : k < 1000) : (Tb dfs n (L + 1)).fn 4 [.int N, .int k] = some (.int (((N : Int) - 1) / ((k : Int) - 1)), false) := by
  rw [fn_eq (d := d4) rfl rfl rfl]
  have dv : DivOk ((k : Int) - 1) := ⟨by omega, .inl (by omega)⟩
  simp [ir4, dv]
theorem ringw_ok {N k : Nat} (hk : 1 ≤ k) (h1 : k < 1000) : (Tb dfs n (L + 1)).fn 6 [.int N, .int k] = some (.int ((N / k : Nat) : Int), false) := by
  rw [fn_eq (d := d6) rfl rfl rfl]
  have dv : DivOk (k : Int) := ⟨by omega, .inl (by omega)⟩
  simp [ir6, dv]
theorem mul_list {Φ : Tab} {s0 s2 : Z.Slot} {k far : Nat} (hk : k < 1000) (hf : far < 100000) : lcRun (lcB Φ [3] (.nm 3) .nil (.bin .Mult (.brw 3) (.brw 2))) (rangeD 0 k) [] [s0, .val (.int k), .val (.int far), .no] = some (nD ((List.range k).map fun j => j * far), [s0, .val (.int k), .val (.int far), .no]) := by
  have h := lcRun_map (f := lcB Φ [3] (.nm 3) .nil (.bin .Mult (.brw 3) (.brw 2))) (e := fun (j : Nat) => D.int (0 + (j : Int))) (g := fun (j : Nat) => D.int ((j * far : Nat) : Int)) (γ := [s0, .val (.int k), .val (.int far), .no]) (xs := List.range k) (fun j hj => by
    have hj : j < k := by simpa using hj
    have mo : Z.MulOk (j : Int) (far : Int) := Z.MulOk.r (by omega) (by omega)
    rw [Int.zero_add]
    simp [lcB_eq, mo]) (show (List.range k).length ≤ sizeLine by rw [List.length_range, sizeLine_eq]; omega)
  rw [← rangeD_map] at h
  rw [h, nD, List.map_map]
  rfl
theorem spotsw_ok {N k : Nat} (hk : 2 ≤ k) (h1 : k < 1000) (hN : N < 1000) (hN1 : 1 ≤ N) : (Tb dfs n (L + 2)).fn 5 [.int N, .int k] = some (.tup (nD ((List.range k).map fun j => j * ((N - 1) / (k - 1)))), false) := by
  rw [fn_eq (d := d5) rfl rfl rfl]
  have hg := gapw_ok (n := n) (L := L) (N := N) hk h1
  have e : ((N : Int) - 1) / ((k : Int) - 1) = (((N - 1) / (k - 1) : Nat) : Int) := by
    rw [Int.natCast_ediv]
    congr 1 <;> omega
  rw [e] at hg
  have hf : (N - 1) / (k - 1) < 100000 := Nat.lt_of_le_of_lt (Nat.div_le_self _ _) (by omega)
  generalize (N - 1) / (k - 1) = far at *
  have h := mul_list (Φ := Tb dfs n (L + 1)) (s0 := .val (.int N)) (s2 := .no) (k := k) (far := far) h1 hf
  simp [ir5, hg, ir5_c1, rngOk.s, show (k : Int) < 4611686018427387904 by omega, show -4611686018427387904 ≤ (k : Int) by omega, noOwn, h, restoreE]
theorem first_ok {N k far : Nat} (hk : 1 ≤ k) (h1 : k < 1000) (hf : far < 1000) (hf1 : 1 ≤ far) : (Tb dfs n (L + 2)).fn 10 [.int N, .int k, .int far] = some (if (k - 1) * far < N then .tup (nD ((List.range k).map fun j => j * far)) else .non, false) := by
  rw [fn_eq (d := d10) rfl rfl rfl]
  have e : ((k : Int) - 1) * (far : Int) = (((k - 1) * far : Nat) : Int) := by
    rw [Int.natCast_mul]
    congr 1
    omega
  have mo : Z.MulOk ((k : Int) - 1) (far : Int) := Z.MulOk.r (by omega) (by omega)
  have h := mul_list (Φ := Tb dfs n (L + 1)) (s0 := .val (.int N)) (s2 := .no) (k := k) (far := far) h1 (by omega)
  generalize (k - 1) * far = q at *
  by_cases hq : q < N
  · have hq2 : (q : Int) < N := by omega
    simp [ir10, mo, e, hq, hq2, ir10_c1, rngOk.s, show (k : Int) < 4611686018427387904 by omega, show -4611686018427387904 ≤ (k : Int) by omega, noOwn, h, restoreE]
  · have hq2 : ¬ (q : Int) < N := by omega
    simp [ir10, mo, e, hq, hq2]
end K15
namespace K15
open PySem PySem.Spec L2 Z
variable {n L : Nat}
theorem nD_at {l : List Nat} {i : Nat} (h : i < l.length) : atI (nD l) (i : Int) = some (.int (l.getD i 0 : Nat)) := by
  rw [atI_at (by omega) (by simpa using h), Int.toNat_natCast, nD, List.getElem?_map, List.getElem?_eq_getElem h, List.getD_eq_getElem?_getD, List.getElem?_eq_getElem h]
  rfl
theorem nD_last {l : List Nat} (h : l ≠ []) : atI (nD l) (-1) = some (.int (lst l : Nat)) := by
  have hl : 0 < l.length := List.length_pos_iff.mpr h
  unfold atI ixN
  rw [if_neg (by decide), if_pos (by rw [nD_len]; omega)]
  show (nD l)[_]? = _
  rw [show ((-1 : Int) + ((nD l).length : Int)).toNat = l.length - 1 by rw [nD_len]; omega, nD, List.getElem?_map, ← List.getLast?_eq_getElem?]
  unfold lst
  cases hg : l.getLast? with
  | none => rw [List.getLast?_eq_none_iff] at hg; exact absurd hg h
  | some x => rfl
/-- the least of ints -/
theorem minI_le : ∀ (ns : List Int) (m : Int), minI m ns ≤ m ∧ (∀ x ∈ ns, minI m ns ≤ x) ∧ (minI m ns = m ∨ minI m ns ∈ ns)
  | [], m => ⟨Int.le_refl _, by simp, .inl rfl⟩
  | y :: ns, m => by
    have hz : (if y < m then y else m) ≤ y ∧ (if y < m then y else m) ≤ m ∧ ((if y < m then y else m) = y ∨ (if y < m then y else m) = m) := by split <;> omega
    obtain ⟨h1, h2, h3⟩ := minI_le ns (if y < m then y else m)
    rw [minI]
    generalize (if y < m then y else m) = z at *
    refine ⟨by omega, fun x hx => ?_, ?_⟩
    · rcases List.mem_cons.mp hx with rfl | hx
      · omega
      · exact h2 x hx
    · rcases h3 with h3 | h3
      · rcases hz.2.2 with e | e
        · exact .inr (by rw [h3, e]; exact List.mem_cons_self)
        · exact .inl (by rw [h3, e])
      · exact .inr (List.mem_cons_of_mem _ h3)
theorem maxI_le : ∀ (ns : List Int) (m : Int), m ≤ maxI m ns ∧ (∀ x ∈ ns, x ≤ maxI m ns) ∧ (maxI m ns = m ∨ maxI m ns ∈ ns)
  | [], m => ⟨Int.le_refl _, by simp, .inl rfl⟩
  | y :: ns, m => by
    have hz : y ≤ (if m < y then y else m) ∧ m ≤ (if m < y then y else m) ∧ ((if m < y then y else m) = y ∨ (if m < y then y else m) = m) := by split <;> omega
    obtain ⟨h1, h2, h3⟩ := maxI_le ns (if m < y then y else m)
    rw [maxI]
    generalize (if m < y then y else m) = z at *
    refine ⟨by omega, fun x hx => ?_, ?_⟩
    · rcases List.mem_cons.mp hx with rfl | hx
      · omega
      · exact h2 x hx
    · rcases h3 with h3 | h3
      · rcases hz.2.2 with e | e
        · exact .inr (by rw [h3, e]; exact List.mem_cons_self)
        · exact .inl (by rw [h3, e])
      · exact .inr (List.mem_cons_of_mem _ h3)
/-- the distances of a row, and a million -/
def difs (r : List Nat) : List Int := (List.range (r.length - 1)).map fun k => (r.getD (k + 1) 0 : Int) - (r.getD k 0 : Int)
theorem difs_cons {a b : Nat} {q : List Nat} : difs (a :: b :: q) = ((b : Int) - a) :: difs (b :: q) := by
  unfold difs
  rw [show (a :: b :: q).length - 1 = q.length + 1 by simp, List.range_succ_eq_map, List.map_cons, List.map_map]
  rfl
def Rise (r : List Nat) : Prop := ∀ a b q p, r = p ++ a :: b :: q → a < b
theorem gap_min : ∀ (r : List Nat), Rise r → (∀ x ∈ difs r ++ [1000000], (gapV r : Int) ≤ x) ∧ (gapV r : Int) ∈ difs r ++ [1000000]
  | [], _ => by simp [difs, gapV]
  | [a], _ => by simp [difs, gapV]
  | a :: b :: q, h => by
    have hab := h a b q [] rfl
    obtain ⟨h1, h2⟩ := gap_min (b :: q) fun c d s p e => h c d s (a :: p) (by rw [e]; rfl)
    rw [difs_cons, gapV_cons, List.cons_append]
    refine ⟨fun x hx => ?_, ?_⟩
    · rcases List.mem_cons.mp hx with rfl | hx
      · omega
      · have := h1 x hx; omega
    · by_cases e : b - a ≤ gapV (b :: q)
      · rw [Nat.min_eq_left e]
        refine List.mem_cons.mpr (.inl ?_)
        omega
      · rw [Nat.min_eq_right (by omega)]
        exact List.mem_cons_of_mem _ h2
theorem gap_of {r : List Nat} (h : Rise r) {x : Int} {xs : List Int} (e : difs r ++ [1000000] = x :: xs) : minI x xs = gapV r := by
  obtain ⟨h1, h2⟩ := gap_min r h
  obtain ⟨k1, k2, k3⟩ := minI_le xs x
  rw [e] at h1 h2
  have a1 : (gapV r : Int) ≤ minI x xs := by
    rcases k3 with k3 | k3
    · rw [k3]; exact h1 x (by simp)
    · exact h1 _ (List.mem_cons_of_mem _ k3)
  have a2 : minI x xs ≤ gapV r := by
    rcases List.mem_cons.mp h2 with h2 | h2
    · rw [h2]; exact k1
    · exact k2 _ h2
  omega
theorem G_rise {N far : Nat} (hf : 1 ≤ far) : ∀ {t lo : Nat} {r : List Nat}, r ∈ G N far lo t → Rise r := by
  intro t
  induction t with
  | zero =>
    intro lo r h a b q p e
    have : r = [] := by simpa [G] using h
    rw [this] at e
    cases p <;> cases e
  | succ t ih =>
    intro lo r h a b q p e
    have h3 := (G_ge h).2.2
    rw [G, List.mem_flatMap] at h
    obtain ⟨x, hx, hr⟩ := h
    obtain ⟨q', hq, rfl⟩ := List.mem_map.mp hr
    cases p with
    | nil =>
      cases e
      have := h3 a (b :: q) rfl b (by simp)
      omega
    | cons y p =>
      cases e
      exact ih hq a b q p rfl
theorem gap_ok {r : List Nat} (h : Rise r) (hl : r.length < 1000) (hp : 1 ≤ r.length) : (Tb dfs n (L + 1)).fn 13 [.tup (nD r)] = some (.int (gapV r), false) := by
  rw [fn_eq (d := d13) rfl rfl rfl]
  generalize Tb dfs n L = Φ
  have run := lcRun_map (f := lcB Φ [1] (.nm 1) .nil (.bin .Sub (.idx (.brw 0) (.bin .Add (.brw 1) (.cst (.int 1)))) (.idx (.brw 0) (.brw 1)))) (e := fun (k : Nat) => D.int (0 + (k : Int))) (g := fun (k : Nat) => D.int ((r.getD (k + 1) 0 : Int) - (r.getD k 0 : Int))) (γ := [.val (.tup (nD r)), .no]) (xs := List.range (r.length - 1)) (fun k hk => by
    have hk : k < r.length - 1 := by simpa using hk
    have e1 := nD_at (l := r) (i := k) (by omega)
    have e2 := nD_at (l := r) (i := k + 1) (by omega)
    rw [Int.zero_add]
    have e3 : (k : Int) + 1 = ((k + 1 : Nat) : Int) := by omega
    simp only [List.getD_eq_getElem?_getD] at *
    generalize k + 1 = q at *
    simp [lcB_eq, e1, e2, e3]) (show (List.range (r.length - 1)).length ≤ sizeLine by rw [List.length_range]; exact sz _ (by omega))
  rw [← rangeD_map] at run
  have e4 : ((r.length : Int) - 1).toNat = r.length - 1 := by omega
  have e5 : (List.range (r.length - 1)).map (fun (k : Nat) => D.int ((r.getD (k + 1) 0 : Int) - (r.getD k 0 : Int))) = (difs r).map .int := by unfold difs; rw [List.map_map]; rfl
  rw [e5] at run
  have p6 : PowOk 10 6 := by decide
  have dl : (difs r).length = r.length - 1 := by simp [difs]
  obtain ⟨x, xs, hx⟩ : ∃ x xs, difs r ++ [1000000] = x :: xs := by
    cases hd : difs r with
    | nil => exact ⟨_, _, rfl⟩
    | cons y ys => exact ⟨_, _, rfl⟩
  have e6 : (difs r).map D.int ++ [.int 1000000] = (x :: xs).map .int := by rw [← hx, List.map_append]; rfl
  have gm := gap_of h hx
  have s1 : r.length - 1 + 1 ≤ sizeLine := sz _ (by omega)
  have b1 := bi_min' (n := x) (ns := xs)
  rw [gm] at b1
  rw [← e6] at b1
  simp [ir13, ir13_c1, rngOk.s, e4, show (r.length : Int) - 1 < 4611686018427387904 by omega, show -4611686018427387904 ≤ (r.length : Int) - 1 by omega, noOwn, run, restoreE, sz, p6, dl, s1, b1]
end K15
namespace K15
open PySem PySem.Spec L2 Z
variable {n L : Nat}
theorem ringgap_ok {r : List Nat} {N : Nat} (h : Rise r) (hl : r.length < 1000) (hp : r ≠ []) (hN : ∀ x ∈ r, x < N) : (Tb dfs n (L + 2)).fn 14 [.tup (nD r), .int N] = some (.int (min (gapV r) (N - lst r + fst r) : Nat), false) := by
  rw [fn_eq (d := d14) rfl rfl rfl]
  have hp' : 0 < r.length := List.length_pos_iff.mpr hp
  have h1 := gap_ok (n := n) (L := L) h hl hp'
  have h2 := nD_last hp
  have h3 := nD_at (l := r) (i := 0) hp'
  have h4 := hN _ (lst_mem hp)
  have e0 : r.getD 0 0 = fst r := by cases r with | nil => exact absurd rfl hp | cons a q => rfl
  rw [e0] at h3
  have h3 : atI (nD r) 0 = some (.int (fst r : Nat)) := h3
  have e1 : (N : Int) - lst r + fst r = ((N - lst r + fst r : Nat) : Int) := by omega
  generalize N - lst r + fst r = q at e1
  simp [ir14, h1, h2, h3, e1]
  by_cases hq : q < gapV r
  · rw [if_pos (by omega), Nat.min_eq_right (by omega)]
  · rw [if_neg (by omega), Nat.min_eq_left (by omega)]
def ringI (N k far : Nat) : Nat := if k * (far - 1) < N then ch (N - 1 - k * (far - 1)) (k - 1) else 0
theorem chI_ring {N k far : Nat} (hk : 2 ≤ k) : chI ((N : Int) - 1 - ((k * (far - 1) : Nat) : Int)) (k - 1) = ringI N k far := by
  unfold chI ringI
  generalize k * (far - 1) = q
  by_cases h : q < N
  · rw [if_pos h]
    split
    · rw [ch_gt (by omega)]
    · congr 1
      omega
  · rw [if_neg h, if_pos (by omega)]
theorem ringn_ok {N k far : Nat} (hk : 2 ≤ k) (h1 : k < 1000) (hf : far < 1000) (hf1 : 1 ≤ far) (hN : N < 1000) : (Tb dfs n (L + 2)).fn 9 [.int N, .int k, .int far] = some (.int ((N * ringI N k far / k : Nat) : Int), false) := by
  rw [fn_eq (d := d9) rfl rfl rfl]
  have e : (k : Int) * ((far : Int) - 1) = ((k * (far - 1) : Nat) : Int) := by
    rw [Int.natCast_mul]
    congr 1
    omega
  have mo : Z.MulOk (k : Int) ((far : Int) - 1) := Z.MulOk.l (by omega) (by omega)
  have e1 : (k : Int) - 1 = ((k - 1 : Nat) : Int) := by omega
  have hc := choose_ok (n := n) (L := L) (m := (N : Int) - 1 - ((k * (far - 1) : Nat) : Int)) (k := k - 1) (by omega) (by omega)
  rw [chI_ring hk] at hc
  generalize k * (far - 1) = q at *
  generalize ringI N k far = c at *
  generalize k - 1 = k1 at *
  have mo2 : Z.MulOk (N : Int) (c : Int) := Z.MulOk.l (by omega) (by omega)
  have dv : DivOk (k : Int) := ⟨by omega, .inl (by omega)⟩
  simp [ir9, mo, e, e1, hc, mo2, dv]
theorem choices_ok {N k : Nat} (hN : N < 1000) (hk : k < 1000) : (Tb dfs n (L + 1)).fn 15 [.int N, .int k] = some (.int (ch N k), false) := by
  rw [fn_eq (d := d15) rfl rfl rfl]
  generalize Tb dfs n L = Φ
  have row : ∀ (i : Nat) (s1 : Z.Slot), i < 1000 → evE Φ ir15_c1 [.val (.int N), .val (.int k), .own (.lst (nD ((List.range (i + 1)).map (ch i)))), s1, .no] =
      some ((.lst (nD ((List.range i).map fun j => ch i j + ch i (j + 1))), true), [.val (.int N), .val (.int k), .own (.lst (nD ((List.range (i + 1)).map (ch i)))), s1, .no]) := by
    intro i s1 hi
    have at_ : ∀ j, j < i + 1 → atI (nD ((List.range (i + 1)).map (ch i))) (j : Int) = some (.int (ch i j : Nat)) := fun j hj => by
      rw [nD_at (by simpa using hj), List.getD_eq_getElem?_getD, List.getElem?_map, List.getElem?_range hj]
      rfl
    have run := lcRun_map (f := lcB Φ [4] (.nm 4) .nil (.bin .Add (.idx (.brw 2) (.brw 4)) (.idx (.brw 2) (.bin .Add (.brw 4) (.cst (.int 1)))))) (e := fun (j : Nat) => D.int (0 + (j : Int))) (g := fun (j : Nat) => D.int ((ch i j + ch i (j + 1) : Nat) : Int)) (γ := [.val (.int N), .val (.int k), .own (.lst (nD ((List.range (i + 1)).map (ch i)))), s1, .no]) (xs := List.range i) (fun j hj => by
      have hj : j < i := by simpa using hj
      have e1 := at_ j (by omega)
      have e2 := at_ (j + 1) (by omega)
      have e3 : (j : Int) + 1 = ((j + 1 : Nat) : Int) := by omega
      rw [Int.zero_add]
      generalize ch i (j + 1) = b at *
      generalize ch i j = a at *
      generalize j + 1 = q at *
      generalize nD ((List.range (i + 1)).map (ch i)) = l at *
      simp [lcB_eq, e1, e2, e3]) (show (List.range i).length ≤ sizeLine by rw [List.length_range]; exact sz _ (by omega))
    rw [← rangeD_map] at run
    have e5 : (List.range i).map (fun (j : Nat) => D.int ((ch i j + ch i (j + 1) : Nat) : Int)) = nD ((List.range i).map fun j => ch i j + ch i (j + 1)) := by rw [nD, List.map_map]; rfl
    rw [e5] at run
    have hlen : (nD ((List.range (i + 1)).map (ch i))).length = i + 1 := by simp
    generalize nD ((List.range (i + 1)).map (ch i)) = l at *
    have e4 : ((l.length : Int) - 1) = i := by omega
    simp [ir15_c1, rngOk.s, e4, show (i : Int) < 4611686018427387904 by omega, show -4611686018427387904 ≤ (i : Int) by omega, noOwn, run, restoreE]
  have nxt : ∀ i, 1 :: ((List.range i).map fun j => ch i j + ch i (j + 1)) ++ [1] = (List.range (i + 2)).map (ch (i + 1)) := fun i => by
    rw [List.range_succ, List.map_append, List.range_succ_eq_map, List.map_cons, List.map_map, ch_zero]
    congr 1
    simp only [List.map_cons, List.map_nil, List.cons.injEq, and_true]
    have : ∀ m, ch m m = 1 := fun m => by
      induction m with
      | zero => rfl
      | succ m ih => rw [ch, ih, ch_gt (by omega)]
    exact (this (i + 1)).symm
  have lp := forRun_inv (f := forB Φ n (.nm 3) ir15_b1) (w := [3])
    (fun i γ => γ = [.val (.int N), .val (.int k), .own (.lst (nD ((List.range (i + 1)).map (ch i)))), .no, .no])
    (fun o => o = .nx [.val (.int N), .val (.int k), .own (.lst (nD ((List.range (N + 1)).map (ch N)))), .no, .no])
    (xs := rangeD 0 N) (k := 0) (γ := [.val (.int N), .val (.int k), .own (.lst [.int 1]), .no, .no]) (by
      rintro i x γ hx rfl
      obtain ⟨hi, rfl⟩ := rangeD_get hx
      rw [Nat.zero_add] at *
      have hr := row i (.val (.int (0 + (i : Int)))) (by omega)
      have hn := congrArg nD (nxt i)
      have e7 : nD (1 :: ((List.range i).map fun j => ch i j + ch i (j + 1)) ++ [1]) = .int 1 :: (nD ((List.range i).map fun j => ch i j + ch i (j + 1)) ++ [.int 1]) := by simp [nD]
      rw [e7] at hn
      refine ⟨.nx [.val (.int N), .val (.int k), .own (.lst (nD ((List.range (i + 1 + 1)).map (ch (i + 1))))), .val (.int (0 + (i : Int))), .no], ?_, by simp [ForQ]⟩
      rw [← hn]
      have hl1 : (nD ((List.range i).map fun j => ch i j + ch i (j + 1))).length = i := by simp
      have s1 : 1 + i ≤ sizeLine := sz _ (by omega)
      have s2 : 1 + i + 1 ≤ sizeLine := sz _ (by omega)
      have s3 : i + 1 ≤ sizeLine := sz _ (by omega)
      have s4 : i + 1 + 1 ≤ sizeLine := sz _ (by omega)
      rw [Int.zero_add] at *
      generalize nD ((List.range i).map fun j => ch i j + ch i (j + 1)) = l2 at *
      generalize nD ((List.range (i + 1)).map (ch i)) = l1 at *
      simp [forB_eq, ir15_b1, hr, sz, hl1, s1, s2, s3, s4]) (by
      rintro γ rfl
      rw [rangeD_len, Nat.zero_add]) rfl
  obtain ⟨o, e, rfl⟩ := lp
  have hlen : (nD ((List.range (N + 1)).map (ch N))).length = N + 1 := by simp
  have at_ : k < N + 1 → atI (nD ((List.range (N + 1)).map (ch N))) (k : Int) = some (.int (ch N k : Nat)) := fun hj => by
    rw [nD_at (by simpa using hj), List.getD_eq_getElem?_getD, List.getElem?_map, List.getElem?_range hj]
    rfl
  generalize nD ((List.range (N + 1)).map (ch N)) = l at *
  by_cases h : k < N + 1
  · simp [ir15, ir15_f1, sz, rngOk.s, show (N : Int) < 4611686018427387904 by omega, show -4611686018427387904 ≤ (N : Int) by omega, e, hlen, show (k : Int) < (N : Int) + 1 by omega, at_ h]
  · rw [ch_gt (by omega)]
    simp [ir15, ir15_f1, sz, rngOk.s, show (N : Int) < 4611686018427387904 by omega, show -4611686018427387904 ≤ (N : Int) by omega, e, hlen, show ¬ (k : Int) < (N : Int) + 1 by omega]
end K15
namespace K15
open PySem PySem.Spec L2 Z
variable {n L : Nat}
def enN (N k far num : Nat) (f : List Nat) (s : Nat) : Z.Env := [.val (.int N), .val (.int k), .val (.int far), .val (.int num), .val (.tup (nD f)), .val (.int s), .no, .no]
theorem numbered_ok {N k far num : Nat} (hk : 1 ≤ k) (h1 : k < 500) (hf : far < 500) (hf1 : 1 ≤ far) (hN : N < 500) (hn : 900000 < n) :
    (Tb dfs n (L + 3)).fn 11 [.int N, .int k, .int far, .int num] = some (match (G N far 0 k)[num]? with | some r => .tup (nD r) | none => .non, false) := by
  rw [fn_eq (d := d11) rfl rfl rfl]
  have hc : ∀ (lo t : Nat), t + 1 < 1000 → (Tb dfs n (L + 2)).fn 8 [.int ((N : Int) - lo), .int (t + 1 : Nat), .int far] = some (.int ((G N far lo (t + 1)).length : Nat), false) := fun lo t ht => by
    have := num_ok (n := n) (L := L) (m := (N : Int) - lo) (k := t + 1) (far := far) (by omega) ht (by omega) hf1 (by omega)
    rw [num_G hf1 ht (by omega) rfl] at this
    exact this
  generalize Tb dfs n (L + 2) = Φ at hc
  obtain ⟨t, rfl⟩ : ∃ t, k = t + 1 := ⟨k - 1, by omega⟩
  have hc0 : Φ.fn 8 [.int N, .int (t + 1 : Nat), .int far] = some (.int ((G N far 0 (t + 1)).length : Nat), false) := by
    have := hc 0 t (by omega)
    rwa [show (N : Int) - ((0 : Nat) : Int) = N by omega] at this
  by_cases hnum : num < (G N far 0 (t + 1)).length
  · have hg : (G N far 0 (t + 1))[num]? = some (G N far 0 (t + 1))[num] := List.getElem?_eq_getElem hnum
    rw [hg]
    generalize (G N far 0 (t + 1))[num] = r at hg
    have lp := whRun_inv (c := evC Φ (.ccmp .Lt (.bi .len (.cons (.brw 4) .nil)) (.brw 1))) (f := ex Φ n ir11_b1) (w := [6, 7])
      (fun m γ => ∃ (u : Nat) (f : List Nat) (s nu : Nat), f.length + u = t + 1 ∧ (∃ q, (G N far s u)[nu]? = some q ∧ f ++ q = r) ∧ m = u * 1000 + (N + 500 - s) ∧ γ = enN N (t + 1) far nu f s)
      (fun o => ∃ (s nu : Nat), o = .nx (enN N (t + 1) far nu r s)) (by
        rintro m γ ⟨u, f, s, nu, h2, ⟨q, h4, h5⟩, rfl, rfl⟩
        refine ⟨decide (f.length < t + 1), enN N (t + 1) far nu f s, ?_, ?_⟩
        · generalize t + 1 = k at *
          simp [enN]
        · cases u with
          | zero =>
            rw [if_neg (by simp; omega)]
            have : q = [] := by
              cases nu with
              | zero => simpa [G] using h4.symm
              | succ nu => simp [G] at h4
            rw [this, List.append_nil] at h5
            exact ⟨s, nu, by rw [h5]⟩
          | succ v =>
            rw [if_pos (by simp; omega)]
            have hs : s < N := by
              by_cases hs : s < N
              · exact hs
              · rw [G_out (by omega)] at h4; simp at h4
            rw [G_cons hs] at h4
            have many : evE Φ (.ite (.ccmp .Gt (.brw 6) (.cst (.int 0))) (.call 8 (.cons (.bin .Sub (.bin .Sub (.brw 0) (.brw 5)) (.brw 2)) (.cons (.var 6) (.cons (.var 2) .nil)))) (.cst (.int 1))) [.val (.int N), .val (.int (t + 1 : Nat)), .val (.int far), .val (.int nu), .val (.tup (nD f)), .val (.int s), .val (.int v), .no] =
                some ((.int ((G N far (s + far) v).length : Nat), false), [.val (.int N), .val (.int (t + 1 : Nat)), .val (.int far), .val (.int nu), .val (.tup (nD f)), .val (.int s), .val (.int v), .no]) := by
              cases v with
              | zero => simp [G]
              | succ w =>
                have hcs := hc (s + far) w (by omega)
                have e1 : (N : Int) - s - far = N - ((s + far : Nat) : Int) := by omega
                have hw : (0 : Int) < (w + 1 : Nat) := by omega
                generalize (G N far (s + far) (w + 1)).length = gl at *
                generalize w + 1 = v at *
                generalize s + far = sf at *
                simp [e1, hcs, hw, show ¬ v = 0 by omega]
            have hv : ((t + 1 : Nat) : Int) - f.length - 1 = v := by omega
            have sl : f.length + 1 ≤ sizeLine := sz _ (by omega)
            have ev : (f.length : Int) < (t + 1 : Nat) := by omega
            have e9 : nD f ++ [.int (s : Nat)] = nD (f ++ [s]) := by simp [nD]
            by_cases hlt : nu < (G N far (s + far) v).length
            · rw [List.getElem?_append_left (by simpa using hlt), List.getElem?_map] at h4
              obtain ⟨q', hq', rfl⟩ := Option.map_eq_some_iff.mp h4
              refine ⟨.nx [.val (.int N), .val (.int (t + 1 : Nat)), .val (.int far), .val (.int nu), .val (.tup (nD (f ++ [s]))), .val (.int (s + far : Nat)), .val (.int v), .val (.int ((G N far (s + far) v).length : Nat))], ?_, v * 1000 + (N + 500 - (s + far)), by omega, v, f ++ [s], s + far, nu, by simp; omega, ⟨q', hq', by rw [← h5]; simp⟩, rfl, by simp [enN]⟩
              generalize (G N far (s + far) v).length = gl at *
              generalize t + 1 = k at *
              simp [ir11_b1, enN, hv, many, show (nu : Int) < gl by omega, sl, sz, e9]
            · rw [List.getElem?_append_right (by simpa using hlt), List.length_map] at h4
              refine ⟨.nx [.val (.int N), .val (.int (t + 1 : Nat)), .val (.int far), .val (.int (nu - (G N far (s + far) v).length : Nat)), .val (.tup (nD f)), .val (.int (s + 1 : Nat)), .val (.int v), .val (.int ((G N far (s + far) v).length : Nat))], ?_, (v + 1) * 1000 + (N + 500 - (s + 1)), by omega, v + 1, f, s + 1, nu - (G N far (s + far) v).length, by omega, ⟨q, h4, h5⟩, rfl, by simp [enN]⟩
              generalize (G N far (s + far) v).length = gl at *
              have e10 : (nu : Int) - gl = ((nu - gl : Nat) : Int) := by omega
              generalize t + 1 = k at *
              simp [ir11_b1, enN, hv, many, show ¬ (nu : Int) < gl by omega, e10]) (n := n) (m := (t + 1) * 1000 + (N + 500)) (γ := enN N (t + 1) far num [] 0) (by omega) ⟨t + 1, [], 0, num, by simp, ⟨r, hg, rfl⟩, rfl, rfl⟩
    obtain ⟨o, e, s, nu, rfl⟩ := lp
    simp only [enN, nD_nil] at e
    rw [show (D.int ((0 : Nat) : Int)) = .int 0 from rfl] at e
    have hge : ¬ ((num : Int) ≥ ((G N far 0 (t + 1)).length : Nat)) := by omega
    generalize (G N far 0 (t + 1)).length = gl at *
    generalize t + 1 = k at *
    simp [ir11, hc0, show ¬ (gl : Int) ≤ num by omega, sz, ir11_w1, e]
  · rw [List.getElem?_eq_none (by omega)]
    generalize (G N far 0 (t + 1)).length = gl at *
    generalize t + 1 = k at *
    simp [ir11, hc0, show (gl : Int) ≤ num by omega]
end K15
namespace K15
open PySem PySem.Spec L2 Z
variable {n L : Nat}
def rwD (l : List (List Nat)) : List D := l.map fun r => .tup (nD r)
@[simp] theorem rwD_len {l : List (List Nat)} : (rwD l).length = l.length := by simp [rwD]
theorem eqD_nilt {l : List Nat} : opCmp .Eq (.tup (nD l)) (.tup []) = some l.isEmpty := by
  show (if (shp 60 (.tup (nD l)) && shp 60 (.tup [])) = true then some (eqD (.tup (nD l)) (.tup [])) else none) = _
  have h : shp 60 (.tup (nD l)) = true := by rw [shp]; exact shpL_int
  rw [h]
  cases l <;> rfl
theorem ext_filter {N : Nat} {r : List Nat} : (List.range N).filter (fun p => r.isEmpty || decide (lst r < p)) = ext N 0 r := by
  unfold ext
  cases hr : r.getLast? with
  | none =>
    rw [List.getLast?_eq_none_iff] at hr
    subst hr
    simp [List.range_eq_range']
  | some l =>
    have : r ≠ [] := fun z => by rw [z] at hr; cases hr
    have hl : lst r = l := by unfold lst; rw [hr]; rfl
    show _ = List.range' (l + 1) (N - (l + 1))
    rw [← range_gt, hl]
    refine List.filter_congr fun p _ => ?_
    cases r with
    | nil => exact absurd rfl this
    | cons a q => rfl
theorem ext_ok {Φ : Tab} {N : Nat} {s1 s2 s3 s4 : Z.Slot} {r : List Nat} (hN : N < 1000) (hr : r.length < 1000) : evE Φ ir12_c1 [.val (.int N), s1, s2, s3, s4, .val (.tup (nD r)), .no] = some ((.lst (rwD ((ext N 0 r).map fun p => r ++ [p])), true), [.val (.int N), s1, s2, s3, s4, .val (.tup (nD r)), .no]) := by
  have run := lcRun_filter (f := lcB Φ [6] (.nm 6) (.cor (.ccmp .Eq (.brw 5) (.tup .nil)) (.ccmp .Lt (.idx (.brw 5) (.neg (.cst (.int 1)))) (.brw 6))) (.bin .Add (.brw 5) (.tup (.cons (.var 6) .nil)))) (e := fun (p : Nat) => D.int (0 + (p : Int))) (g := fun (p : Nat) => D.tup (nD (r ++ [p]))) (p := fun p => r.isEmpty || decide (lst r < p)) (γ := [.val (.int N), s1, s2, s3, s4, .val (.tup (nD r)), .no]) (xs := List.range N) (fun p hp => by
    rw [Int.zero_add]
    have e9 : nD r ++ [.int (p : Nat)] = nD (r ++ [p]) := by simp [nD]
    have sl : r.length + 1 ≤ sizeLine := sz _ (by omega)
    have s0 : 1 ≤ sizeLine := sz _ (by omega)
    have sz' : 0 ≤ sizeLine := Nat.zero_le _
    by_cases h : r = []
    · subst h
      have e8 : opCmp .Eq (.tup []) (.tup []) = some true := eqD_nilt (l := [])
      simp [lcB_eq, e8, s0, nD]
    · have hl := nD_last h
      have he : r.isEmpty = false := by cases r with | nil => exact absurd rfl h | cons a q => rfl
      by_cases h2 : lst r < p
      · simp [lcB_eq, eqD_nilt, he, hl, h2, e9, sl, s0]
      · simp [lcB_eq, eqD_nilt, he, hl, h2, e9, sl, s0]) (show (List.range N).length ≤ sizeLine by rw [List.length_range]; exact sz _ (by omega))
  rw [ext_filter, ← rangeD_map] at run
  have e5 : (ext N 0 r).map (fun (p : Nat) => D.tup (nD (r ++ [p]))) = rwD ((ext N 0 r).map fun p => r ++ [p]) := by rw [rwD, List.map_map]; rfl
  rw [e5] at run
  simp [ir12_c1, rngOk.s, show (N : Int) < 4611686018427387904 by omega, show -4611686018427387904 ≤ (N : Int) by omega, noOwn, run, restoreE]
theorem G_small {N t : Nat} (hN : N ≤ 14) : (G N 1 0 t).length ≤ 16384 := by
  cases t with
  | zero => simp [G]
  | succ t =>
    rw [G_len (by omega) t N 0 rfl, Nat.sub_self, Nat.mul_zero, Nat.sub_zero]
    exact Nat.le_trans (ch_le N (t + 1)) (Nat.pow_le_pow_right (by omega) hN)
theorem spots_ok {N k : Nat} (hN : N ≤ 14) (hk1 : 1 ≤ k) (hk : k < 100) : (Tb dfs n (L + 1)).fn 12 [.int N, .int k] = some (.lst (rwD (G N 1 0 k)), false) := by
  rw [fn_eq (d := d12) rfl rfl rfl]
  generalize Tb dfs n L = Φ
  have inner : ∀ (t : Nat) (s3 : Z.Slot), t < 100 → ∃ o, forRun (forB Φ n (.nm 5) ir12_b1) [5] (rwD (G N 1 0 t)) [.val (.int N), .val (.int k), .val (.lst (rwD (G N 1 0 t))), s3, .own (.lst []), .no, .no] = some o ∧ o = .nx [.val (.int N), .val (.int k), .val (.lst (rwD (G N 1 0 t))), s3, .own (.lst (rwD (G N 1 0 (t + 1)))), .no, .no] := by
    intro t s3 ht
    refine forRun_inv (fun i γ => γ = [.val (.int N), .val (.int k), .val (.lst (rwD (G N 1 0 t))), s3, .own (.lst (rwD (((G N 1 0 t).take i).flatMap fun r => (ext N 0 r).map fun p => r ++ [p]))), .no, .no]) _ ?_ ?_ (k := 0) (by simp [rwD])
    · rintro i x γ hx rfl
      rw [Nat.zero_add] at *
      rw [rwD, List.getElem?_map] at hx
      obtain ⟨r, hr, rfl⟩ := Option.map_eq_some_iff.mp hx
      have hrl := (G_ge (List.mem_of_getElem? hr)).1
      have he := ext_ok (Φ := Φ) (N := N) (s1 := .val (.int k)) (s2 := .val (.lst (rwD (G N 1 0 t)))) (s3 := s3) (s4 := .own (.lst (rwD (((G N 1 0 t).take i).flatMap fun r => (ext N 0 r).map fun p => r ++ [p])))) (r := r) (by omega) (by omega)
      have tk : (G N 1 0 t).take (i + 1) = (G N 1 0 t).take i ++ [r] := by rw [List.take_add_one, hr]; rfl
      have tot : (((G N 1 0 t).take (i + 1)).flatMap fun r => (ext N 0 r).map fun p => r ++ [p]).length ≤ 16384 := by
        refine Nat.le_trans ?_ (G_small (N := N) (t := t + 1) hN)
        rw [G_snoc]
        conv => rhs; rw [← List.take_append_drop (i + 1) (G N 1 0 t), List.flatMap_append, List.length_append]
        omega
      refine ⟨.nx [.val (.int N), .val (.int k), .val (.lst (rwD (G N 1 0 t))), s3, .own (.lst (rwD (((G N 1 0 t).take (i + 1)).flatMap fun r => (ext N 0 r).map fun p => r ++ [p]))), .val (.tup (nD r)), .no], ?_, by simp [ForQ]⟩
      rw [tk, List.flatMap_append, List.flatMap_cons, List.flatMap_nil, List.append_nil] at *
      rw [List.length_append] at tot
      have e6 : ∀ a b, rwD (a ++ b) = rwD a ++ rwD b := fun a b => by simp [rwD]
      rw [e6]
      generalize hA : ((G N 1 0 t).take i).flatMap (fun r => (ext N 0 r).map fun p => r ++ [p]) = A at *
      generalize hB : (ext N 0 r).map (fun p => r ++ [p]) = B at *
      have sl : A.length + B.length ≤ sizeLine := sz _ (by omega)
      simp [forB_eq, ir12_b1, he, sl]
    · rintro γ rfl
      rw [Nat.zero_add, rwD_len, List.take_of_length_le (by simp), ← G_snoc]
  have lp := forRun_inv (f := forB Φ n (.nm 3) ir12_b2) (w := [3, 4, 5])
    (fun i γ => ∃ s2, (s2 = .val (.lst (rwD (G N 1 0 i))) ∨ (i = 0 ∧ s2 = .own (.lst (rwD (G N 1 0 i))))) ∧ γ = [.val (.int N), .val (.int k), s2, .no, .no, .no, .no])
    (fun o => o = .nx [.val (.int N), .val (.int k), .val (.lst (rwD (G N 1 0 k))), .no, .no, .no, .no])
    (xs := rangeD 0 k) (k := 0) (γ := [.val (.int N), .val (.int k), .own (.lst [.tup []]), .no, .no, .no, .no]) (by
      rintro i x γ hx ⟨s2, hs2, rfl⟩
      obtain ⟨hi, rfl⟩ := rangeD_get hx
      rw [Nat.zero_add] at *
      obtain ⟨o, e, rfl⟩ := inner i (.val (.int (0 + (i : Int)))) (by omega)
      refine ⟨.nx [.val (.int N), .val (.int k), .val (.lst (rwD (G N 1 0 (i + 1)))), .val (.int (0 + (i : Int))), .val (.lst (rwD (G N 1 0 (i + 1)))), .no, .no], ?_, .val (.lst (rwD (G N 1 0 (i + 1)))), .inl rfl, by simp⟩
      rw [Int.zero_add] at *
      generalize rwD (G N 1 0 (i + 1)) = l2 at *
      generalize rwD (G N 1 0 i) = l1 at *
      rcases hs2 with rfl | ⟨_, rfl⟩
      · simp [forB_eq, ir12_b2, ir12_f1, itemsD, e]
      · simp [forB_eq, ir12_b2, ir12_f1, itemsD, e]) (by
      rintro γ ⟨s2, hs2, rfl⟩
      rw [rangeD_len, Nat.zero_add] at hs2
      rcases hs2 with rfl | ⟨h, rfl⟩
      · rfl
      · omega) ⟨.own (.lst (rwD (G N 1 0 0))), .inr ⟨rfl, rfl⟩, rfl⟩
  obtain ⟨o, e, rfl⟩ := lp
  have s0 : 1 ≤ sizeLine := sz _ (by omega)
  simp [ir12, ir12_f2, s0, rngOk.s, show (k : Int) < 4611686018427387904 by omega, show -4611686018427387904 ≤ (k : Int) by omega, e]
end K15
namespace K15
open PySem PySem.Spec L2 Z
variable {n L : Nat}
def optR : Option (List Nat) → D
  | some r => .tup (nD r)
  | none => .non
theorem take_nat {t : D} (ht : TapeOk t) {m : Nat} (hm : 1 ≤ m) (h2 : m < 100000 ∨ m.log2 < 9000) : ∃ (r : Nat) (t' : D), r < m ∧ TapeOk t' ∧ (Tb dfs n (L + 2)).io 2 t [.int m] = some (.int r, t') := by
  obtain ⟨r, t', h0, h1, h3, h4⟩ := take_ok (dfs := dfs) (n := n) (L := L) rfl rfl ht (m := (m : Int)) (by omega) ⟨by omega, h2.imp (fun h => by omega) fun h => h⟩
  obtain ⟨k, rfl⟩ : ∃ k : Nat, r = k := ⟨r.toNat, by omega⟩
  exact ⟨k, t', by omega, h3, h4⟩
theorem gdL_nD {k : Nat} {l : List Nat} : gdL k (nD l) = true := by
  unfold nD
  induction l with
  | nil => rfl
  | cons x l ih => rw [List.map_cons, gdL, gd, ih]; rfl
structure Facts (Φ : Tab) (n : Nat) : Prop where
  io : ∀ {t : D}, TapeOk t → ∀ {m : Nat}, 1 ≤ m → (m < 100000 ∨ m.log2 < 9000) → ∃ (r : Nat) (t' : D), r < m ∧ TapeOk t' ∧ Φ.io 2 t [.int m] = some (.int r, t')
  same : ∀ {x : D}, gd 5 x = true → Φ.fn 3 [x, x] = some (.bl true, false)
  gapw : ∀ {N k : Nat}, 2 ≤ k → k < 500 → 1 ≤ N → Φ.fn 4 [.int N, .int k] = some (.int ((N - 1) / (k - 1) : Nat), false)
  spotsw : ∀ {N k : Nat}, 2 ≤ k → k < 500 → 1 ≤ N → N < 500 → Φ.fn 5 [.int N, .int k] = some (.tup (nD ((List.range k).map fun j => j * ((N - 1) / (k - 1)))), false)
  ringw : ∀ {N k : Nat}, 1 ≤ k → k < 500 → Φ.fn 6 [.int N, .int k] = some (.int ((N / k : Nat) : Int), false)
  num : ∀ {N k far : Nat}, N < 500 → 1 ≤ k → k < 500 → 1 ≤ far → far < 500 → Φ.fn 8 [.int N, .int k, .int far] = some (.int ((G N far 0 k).length : Nat), false)
  ringn : ∀ {N k far : Nat}, N < 500 → 2 ≤ k → k < 500 → 1 ≤ far → far < 500 → Φ.fn 9 [.int N, .int k, .int far] = some (.int ((N * ringI N k far / k : Nat) : Int), false)
  first : ∀ {N k far : Nat}, 1 ≤ k → k < 500 → 1 ≤ far → far < 500 → Φ.fn 10 [.int N, .int k, .int far] = some (optR (G N far 0 k).head?, false)
  numbered : ∀ {N k far num : Nat}, N < 500 → 1 ≤ k → k < 500 → 1 ≤ far → far < 500 → Φ.fn 11 [.int N, .int k, .int far, .int num] = some (optR (G N far 0 k)[num]?, false)
  spots : ∀ {N k : Nat}, N ≤ 14 → 1 ≤ k → k < 100 → Φ.fn 12 [.int N, .int k] = some (.lst (rwD (G N 1 0 k)), false)
  gap : ∀ {r : List Nat}, Rise r → r.length < 1000 → r ≠ [] → Φ.fn 13 [.tup (nD r)] = some (.int (gapV r), false)
  rgap : ∀ {r : List Nat} {N : Nat}, Rise r → r.length < 1000 → r ≠ [] → (∀ x ∈ r, x < N) → Φ.fn 14 [.tup (nD r), .int N] = some (.int (min (gapV r) (N - lst r + fst r) : Nat), false)
  choices : ∀ {N k : Nat}, N < 1000 → k < 1000 → Φ.fn 15 [.int N, .int k] = some (.int (ch N k), false)
theorem head_first {N k far : Nat} (hk : 1 ≤ k) (hf : 1 ≤ far) : optR (G N far 0 k).head? = if (k - 1) * far < N then .tup (nD ((List.range k).map fun j => j * far)) else .non := by
  obtain ⟨t, rfl⟩ : ∃ t, k = t + 1 := ⟨k - 1, by omega⟩
  rw [G_head hf, Nat.add_sub_cancel, Nat.zero_add]
  split
  · simp [optR]
  · rfl
theorem facts (hn : 900000 < n) : Facts (Tb dfs n (L + 10)) n where
  io := fun ht m hm h2 => take_nat ht hm h2
  same := fun hx => same_self (dfs := dfs) rfl hx (by omega)
  gapw := fun {N k} h1 h2 h3 => by
    rw [gapw_ok h1 (by omega)]
    congr 3
    rw [Int.natCast_ediv]
    congr 1 <;> omega
  spotsw := fun h1 h2 h3 h4 => spotsw_ok h1 (by omega) (by omega) h3
  ringw := fun h1 h2 => ringw_ok h1 (by omega)
  num := fun {N k far} h1 h2 h3 h4 h5 => by
    obtain ⟨t, rfl⟩ : ∃ t, k = t + 1 := ⟨k - 1, by omega⟩
    rw [num_ok (by omega) (by omega) (by omega) h4 (by omega), num_G h4 (by omega) (by omega) (lo := 0) (N := N) (by omega)]
  ringn := fun h1 h2 h3 h4 h5 => ringn_ok h2 (by omega) (by omega) h4 (by omega)
  first := fun h1 h2 h3 h4 => by rw [first_ok h1 (by omega) (by omega) h3, head_first h1 h3]
  numbered := fun {N k far num} h1 h2 h3 h4 h5 => by
    rw [numbered_ok h2 h3 h5 h4 h1 hn]
    cases (G N far 0 k)[num]? <;> rfl
  spots := fun h1 h2 h3 => spots_ok h1 h2 h3
  gap := fun h1 h2 h3 => gap_ok h1 h2 (List.length_pos_iff.mpr h3)
  rgap := fun h1 h2 h3 h4 => ringgap_ok h1 h2 h3 h4
  choices := fun h1 h2 => choices_ok h1 h2
theorem max_ok {l : List Nat} {w : Nat} (h1 : ∃ x ∈ l, w ≤ x) (h2 : ∀ x ∈ l, x ≤ w) : opBi .max [.lst (nD l)] = some (.int w, false) := by
  obtain ⟨x, hx, hw⟩ := h1
  cases l with
  | nil => cases hx
  | cons a q =>
    have e : nD (a :: q) = ((a : Int) :: q.map fun (k : Nat) => (k : Int)).map D.int := by simp [nD]
    rw [e, bi_max']
    obtain ⟨k1, k2, k3⟩ := maxI_le (q.map fun (k : Nat) => (k : Int)) a
    have b1 : (x : Int) ≤ maxI a (q.map fun (k : Nat) => (k : Int)) := by
      rcases List.mem_cons.mp hx with rfl | hx
      · exact k1
      · exact k2 _ (List.mem_map.mpr ⟨x, hx, rfl⟩)
    have b2 : maxI a (q.map fun (k : Nat) => (k : Int)) ≤ w := by
      rcases k3 with k3 | k3
      · rw [k3]; have := h2 a (by simp); omega
      · obtain ⟨y, hy, e⟩ := List.mem_map.mp k3
        rw [← e]
        have := h2 y (List.mem_cons_of_mem _ hy)
        omega
    have : maxI a (q.map fun (k : Nat) => (k : Int)) = w := by omega
    rw [this]
end K15
namespace K15
open PySem PySem.Spec L2 Z
variable {n L : Nat}
/-! what the law looks for -/
def rg (N : Nat) (r : List Nat) : Nat := min (gapV r) (N - lst r + fst r)
theorem rg_ok {N far : Nat} {r : List Nat} (hr : lst r < N) : decide (far ≤ rg N r) = (decide (far ≤ gapV r) && rok N far r) := by
  unfold rg rok
  by_cases h1 : far ≤ gapV r
  · by_cases h2 : lst r + far ≤ N + fst r
    · simp [h1, h2]; omega
    · simp [h1, h2]; omega
  · simp [h1]; omega
theorem lst_lt {N far lo t : Nat} {r : List Nat} (h : r ∈ G N far lo (t + 1)) : lst r < N := ((G_ge h).2.1 _ (lst_mem (G_ne h))).2
theorem rg_filter {N far t : Nat} (hf : 1 ≤ far) (hf2 : far ≤ 1000000) : (G N 1 0 (t + 1)).filter (fun r => decide (far ≤ rg N r)) = (G N far 0 (t + 1)).filter (rok N far) := by
  rw [← G_keep hf hf2, List.filter_filter]
  exact List.filter_congr fun r hr => by rw [rg_ok (lst_lt hr), Bool.and_comm]
theorem rg_len {N k far : Nat} (hk : 2 ≤ k) (hf : 1 ≤ far) (hf2 : far ≤ 1000000) : ((G N 1 0 k).filter (fun r => decide (far ≤ rg N r))).length = N * ringI N k far / k := by
  obtain ⟨u, rfl⟩ : ∃ u, k = u + 2 := ⟨k - 2, by omega⟩
  rw [rg_filter hf hf2]
  have := ring_count (n := N) (far := far) (u := u) hf
  have e : ringI N (u + 2) far = if (u + 2) * (far - 1) < N then ch (N - 1 - (u + 2) * (far - 1)) (u + 1) else 0 := rfl
  rw [e, ← this, Nat.mul_div_cancel _ (by omega)]
theorem rg_max {N k : Nat} (hk : 2 ≤ k) (hN : k ≤ N) (h2 : N < 500) : (∃ x ∈ (G N 1 0 k).map (rg N), N / k ≤ x) ∧ ∀ x ∈ (G N 1 0 k).map (rg N), x ≤ N / k := by
  obtain ⟨u, rfl⟩ : ∃ u, k = u + 2 := ⟨k - 2, by omega⟩
  have hg : 1 ≤ N / (u + 2) := Nat.div_pos hN (by omega)
  have hle : N / (u + 2) ≤ N := Nat.div_le_self _ _
  have hm := Nat.div_mul_le_self N (u + 2)
  have hm2 := Nat.lt_div_mul_add (a := N) (b := u + 2) (by omega)
  generalize N / (u + 2) = g at *
  constructor
  · have hp := ring_pos (n := N) (u := u) (g := g) hg (by rw [Nat.mul_comm]; exact hm)
    rw [← rg_filter hg (by omega)] at hp
    obtain ⟨r, hr⟩ := List.exists_mem_of_length_pos hp
    obtain ⟨hr1, hr2⟩ := List.mem_filter.mp hr
    exact ⟨rg N r, List.mem_map.mpr ⟨r, hr1, rfl⟩, of_decide_eq_true hr2⟩
  · intro x hx
    obtain ⟨r, hr, rfl⟩ := List.mem_map.mp hx
    by_cases h : rg N r ≤ g
    · exact h
    · have hn := ring_none (n := N) (u := u) (g := g + 1) (by omega) (by rw [Nat.mul_add, Nat.mul_one, Nat.mul_comm]; exact hm2)
      rw [← rg_filter (by omega) (by omega), List.filter_eq_nil_iff] at hn
      exact absurd (by simp; omega) (hn r hr)
theorem gap_max {N k : Nat} (hk : 2 ≤ k) (hN : k ≤ N) (h2 : N < 500) : (∃ x ∈ (G N 1 0 k).map gapV, (N - 1) / (k - 1) ≤ x) ∧ (∀ x ∈ (G N 1 0 k).map gapV, x ≤ (N - 1) / (k - 1)) ∧
    (G N 1 0 k).filter (fun r => decide (gapV r = (N - 1) / (k - 1))) = G N ((N - 1) / (k - 1)) 0 k ∧ 0 + (k - 1) * ((N - 1) / (k - 1)) < N ∧ 1 ≤ (N - 1) / (k - 1) := by
  obtain ⟨t, rfl⟩ : ∃ t, k = t + 1 := ⟨k - 1, by omega⟩
  rw [Nat.add_sub_cancel]
  have hg : 1 ≤ (N - 1) / t := Nat.div_pos (by omega) (by omega)
  have hle : (N - 1) / t ≤ N - 1 := Nat.div_le_self _ _
  have hm := Nat.div_mul_le_self (N - 1) t
  have hm2 := Nat.lt_div_mul_add (a := N - 1) (b := t) (by omega)
  generalize (N - 1) / t = g at *
  have hlt : 0 + t * g < N := by rw [Nat.mul_comm]; omega
  have up : ∀ r ∈ G N 1 0 (t + 1), gapV r ≤ g := fun r hr => by
    by_cases h : gapV r ≤ g
    · exact h
    · have hn : G N (g + 1) 0 (t + 1) = [] := G_nil_of (by rw [Nat.mul_add, Nat.mul_one, Nat.mul_comm]; omega) (by omega)
      rw [← G_keep (by omega) (by omega), List.filter_eq_nil_iff] at hn
      exact absurd (by simp; omega) (hn r hr)
  refine ⟨?_, ?_, ?_, hlt, hg⟩
  · have hh := G_head (n := N) (far := g) (lo := 0) (t := t) hg
    rw [if_pos hlt] at hh
    have hmem := List.mem_of_head? hh
    rw [← G_keep hg (by omega)] at hmem
    obtain ⟨hr1, hr2⟩ := List.mem_filter.mp hmem
    exact ⟨_, List.mem_map.mpr ⟨_, hr1, rfl⟩, of_decide_eq_true hr2⟩
  · intro x hx
    obtain ⟨r, hr, rfl⟩ := List.mem_map.mp hx
    exact up r hr
  · rw [← G_keep hg (by omega)]
    refine List.filter_congr fun r hr => ?_
    have := up r hr
    by_cases h : gapV r = g
    · simp [h]
    · simp [h]; omega
end K15
namespace K15
open PySem PySem.Spec L2 Z
variable {n L : Nat}
section
variable {Φ : Tab}
theorem rows_ok {N k : Nat} (hN : N ≤ 14) (hk : 1 ≤ k) (hk2 : k < 100) {r : List Nat} (h : r ∈ G N 1 0 k) : Rise r ∧ r.length < 1000 ∧ r ≠ [] ∧ ∀ x ∈ r, x < N := by
  obtain ⟨t, rfl⟩ : ∃ t, k = t + 1 := ⟨k - 1, by omega⟩
  have := (G_ge h).1
  exact ⟨G_rise (by omega) h, by omega, G_ne h, fun x hx => ((G_ge h).2.1 x hx).2⟩
theorem c6_ok (F : Facts Φ n) {s0 s1 s2 s3 s4 s7 s8 s9 s10 s11 s12 s13 s14 s15 s17 s18 : Z.Slot} {N k far : Nat} (hN : N ≤ 14) (hk : 1 ≤ k) (hk2 : k < 100) (hf : 1 ≤ far) (hf2 : far < 500) :
    evE Φ ir16_c6 [s0, s1, s2, s3, s4, .val (.int far), .val (.lst (rwD (G N 1 0 k))), s7, s8, s9, s10, s11, s12, s13, s14, s15, .no, s17, s18] = some ((.lst (rwD (G N far 0 k)), true), [s0, s1, s2, s3, s4, .val (.int far), .val (.lst (rwD (G N 1 0 k))), s7, s8, s9, s10, s11, s12, s13, s14, s15, .no, s17, s18]) := by
  have run := lcRun_filter (f := lcB Φ [16] (.nm 16) (.ccmp .GtE (.call 13 (.cons (.var 16) .nil)) (.brw 5)) (.var 16)) (e := fun r => D.tup (nD r)) (g := fun r => D.tup (nD r)) (p := fun r => decide (far ≤ gapV r)) (γ := [s0, s1, s2, s3, s4, .val (.int far), .val (.lst (rwD (G N 1 0 k))), s7, s8, s9, s10, s11, s12, s13, s14, s15, .no, s17, s18]) (xs := G N 1 0 k) (fun r hr => by
    obtain ⟨a1, a2, a3, a4⟩ := rows_ok hN hk hk2 hr
    have h1 := F.gap a1 a2 a3
    by_cases h : far ≤ gapV r
    · simp [lcB_eq, h1, h, show (far : Int) ≤ gapV r by omega]
    · simp [lcB_eq, h1, h, show ¬ (far : Int) ≤ gapV r by omega]) (show (G N 1 0 k).length ≤ sizeLine by exact sz _ (by have := G_small (N := N) (t := k) hN; omega))
  rw [G_keep hf (by omega)] at run
  have run : lcRun (lcB Φ [16] (.nm 16) (.ccmp .GtE (.call 13 (.cons (.var 16) .nil)) (.brw 5)) (.var 16)) (rwD (G N 1 0 k)) [] [s0, s1, s2, s3, s4, .val (.int far), .val (.lst (rwD (G N 1 0 k))), s7, s8, s9, s10, s11, s12, s13, s14, s15, .no, s17, s18] = some (rwD (G N far 0 k), [s0, s1, s2, s3, s4, .val (.int far), .val (.lst (rwD (G N 1 0 k))), s7, s8, s9, s10, s11, s12, s13, s14, s15, .no, s17, s18]) := run
  simp [ir16_c6, itemsD, noOwn, run, restoreE]
theorem c5_ok (F : Facts Φ n) {s0 s1 s2 s3 s4 s5 s7 s8 s9 s10 s11 s12 s13 s14 s15 s17 s18 : Z.Slot} {N k : Nat} (hN : N ≤ 14) (hk : 1 ≤ k) (hk2 : k < 100) :
    evE Φ ir16_c5 [s0, s1, s2, s3, s4, s5, .val (.lst (rwD (G N 1 0 k))), s7, s8, s9, s10, s11, s12, s13, s14, s15, .no, s17, s18] = some ((.lst (nD ((G N 1 0 k).map gapV)), true), [s0, s1, s2, s3, s4, s5, .val (.lst (rwD (G N 1 0 k))), s7, s8, s9, s10, s11, s12, s13, s14, s15, .no, s17, s18]) := by
  have run := lcRun_map (f := lcB Φ [16] (.nm 16) .nil (.call 13 (.cons (.var 16) .nil))) (e := fun r => D.tup (nD r)) (g := fun r => D.int (gapV r : Nat)) (γ := [s0, s1, s2, s3, s4, s5, .val (.lst (rwD (G N 1 0 k))), s7, s8, s9, s10, s11, s12, s13, s14, s15, .no, s17, s18]) (xs := G N 1 0 k) (fun r hr => by
    obtain ⟨a1, a2, a3, a4⟩ := rows_ok hN hk hk2 hr
    have h1 := F.gap a1 a2 a3
    simp [lcB_eq, h1]) (show (G N 1 0 k).length ≤ sizeLine by exact sz _ (by have := G_small (N := N) (t := k) hN; omega))
  have e5 : (G N 1 0 k).map (fun r => D.int (gapV r : Nat)) = nD ((G N 1 0 k).map gapV) := by rw [nD, List.map_map]; rfl
  rw [e5] at run
  have run : lcRun (lcB Φ [16] (.nm 16) .nil (.call 13 (.cons (.var 16) .nil))) (rwD (G N 1 0 k)) [] [s0, s1, s2, s3, s4, s5, .val (.lst (rwD (G N 1 0 k))), s7, s8, s9, s10, s11, s12, s13, s14, s15, .no, s17, s18] = some (nD ((G N 1 0 k).map gapV), [s0, s1, s2, s3, s4, s5, .val (.lst (rwD (G N 1 0 k))), s7, s8, s9, s10, s11, s12, s13, s14, s15, .no, s17, s18]) := run
  simp [ir16_c5, itemsD, noOwn, run, restoreE]
theorem c4_ok (F : Facts Φ n) {s0 s1 s2 s3 s4 s5 s7 s8 s10 s11 s12 s13 s14 s15 s17 s18 : Z.Slot} {N k w : Nat} (hN : N ≤ 14) (hk : 1 ≤ k) (hk2 : k < 100) :
    evE Φ ir16_c4 [s0, s1, s2, s3, s4, s5, .val (.lst (rwD (G N 1 0 k))), s7, s8, .val (.int w), s10, s11, s12, s13, s14, s15, .no, s17, s18] = some ((.lst (rwD ((G N 1 0 k).filter fun r => decide (gapV r = w))), true), [s0, s1, s2, s3, s4, s5, .val (.lst (rwD (G N 1 0 k))), s7, s8, .val (.int w), s10, s11, s12, s13, s14, s15, .no, s17, s18]) := by
  have run := lcRun_filter (f := lcB Φ [16] (.nm 16) (.ccmp .Eq (.call 13 (.cons (.var 16) .nil)) (.brw 9)) (.var 16)) (e := fun r => D.tup (nD r)) (g := fun r => D.tup (nD r)) (p := fun r => decide (gapV r = w)) (γ := [s0, s1, s2, s3, s4, s5, .val (.lst (rwD (G N 1 0 k))), s7, s8, .val (.int w), s10, s11, s12, s13, s14, s15, .no, s17, s18]) (xs := G N 1 0 k) (fun r hr => by
    obtain ⟨a1, a2, a3, a4⟩ := rows_ok hN hk hk2 hr
    have h1 := F.gap a1 a2 a3
    by_cases h : gapV r = w
    · simp [lcB_eq, h1, h]
    · simp [lcB_eq, h1, h, show ¬ ((gapV r : Nat) : Int) = w by omega]) (show (G N 1 0 k).length ≤ sizeLine by exact sz _ (by have := G_small (N := N) (t := k) hN; omega))
  have run : lcRun (lcB Φ [16] (.nm 16) (.ccmp .Eq (.call 13 (.cons (.var 16) .nil)) (.brw 9)) (.var 16)) (rwD (G N 1 0 k)) [] [s0, s1, s2, s3, s4, s5, .val (.lst (rwD (G N 1 0 k))), s7, s8, .val (.int w), s10, s11, s12, s13, s14, s15, .no, s17, s18] = some (rwD ((G N 1 0 k).filter fun r => decide (gapV r = w)), [s0, s1, s2, s3, s4, s5, .val (.lst (rwD (G N 1 0 k))), s7, s8, .val (.int w), s10, s11, s12, s13, s14, s15, .no, s17, s18]) := run
  simp [ir16_c4, itemsD, noOwn, run, restoreE]
theorem c3_ok (F : Facts Φ n) {s0 s1 s2 s4 s5 s7 s8 s9 s10 s11 s12 s13 s14 s15 s17 s18 : Z.Slot} {N k : Nat} (hN : N ≤ 14) (hk : 1 ≤ k) (hk2 : k < 100) :
    evE Φ ir16_c3 [s0, s1, s2, .val (.int N), s4, s5, .val (.lst (rwD (G N 1 0 k))), s7, s8, s9, s10, s11, s12, s13, s14, s15, .no, s17, s18] = some ((.lst (nD ((G N 1 0 k).map (rg N))), true), [s0, s1, s2, .val (.int N), s4, s5, .val (.lst (rwD (G N 1 0 k))), s7, s8, s9, s10, s11, s12, s13, s14, s15, .no, s17, s18]) := by
  have run := lcRun_map (f := lcB Φ [16] (.nm 16) .nil (.call 14 (.cons (.var 16) (.cons (.var 3) .nil)))) (e := fun r => D.tup (nD r)) (g := fun r => D.int (rg N r : Nat)) (γ := [s0, s1, s2, .val (.int N), s4, s5, .val (.lst (rwD (G N 1 0 k))), s7, s8, s9, s10, s11, s12, s13, s14, s15, .no, s17, s18]) (xs := G N 1 0 k) (fun r hr => by
    obtain ⟨a1, a2, a3, a4⟩ := rows_ok hN hk hk2 hr
    have h1 := F.rgap a1 a2 a3 a4
    have h1 : Φ.fn 14 [.tup (nD r), .int N] = some (.int (rg N r : Nat), false) := h1
    simp [lcB_eq, h1]) (show (G N 1 0 k).length ≤ sizeLine by exact sz _ (by have := G_small (N := N) (t := k) hN; omega))
  have e5 : (G N 1 0 k).map (fun r => D.int (rg N r : Nat)) = nD ((G N 1 0 k).map (rg N)) := by rw [nD, List.map_map]; rfl
  rw [e5] at run
  have run : lcRun (lcB Φ [16] (.nm 16) .nil (.call 14 (.cons (.var 16) (.cons (.var 3) .nil)))) (rwD (G N 1 0 k)) [] [s0, s1, s2, .val (.int N), s4, s5, .val (.lst (rwD (G N 1 0 k))), s7, s8, s9, s10, s11, s12, s13, s14, s15, .no, s17, s18] = some (nD ((G N 1 0 k).map (rg N)), [s0, s1, s2, .val (.int N), s4, s5, .val (.lst (rwD (G N 1 0 k))), s7, s8, s9, s10, s11, s12, s13, s14, s15, .no, s17, s18]) := run
  simp [ir16_c3, itemsD, noOwn, run, restoreE]
theorem c2_ok {s0 s1 s2 s3 s4 s6 s7 s8 s9 s11 s12 s13 s14 s15 s16 s17 : Z.Slot} {l : List Nat} {far : Nat} {sl : Z.Slot} (hsl : sl = .val (.lst (nD l)) ∨ sl = .own (.lst (nD l))) (hl : l.length ≤ 16777216) :
    evE Φ ir16_c2 [s0, s1, s2, s3, s4, .val (.int far), s6, s7, s8, s9, sl, s11, s12, s13, s14, s15, s16, s17, .no] = some ((.lst (nD (l.filter fun x => decide (far ≤ x))), true), [s0, s1, s2, s3, s4, .val (.int far), s6, s7, s8, s9, .val (.lst (nD l)), s11, s12, s13, s14, s15, s16, s17, .no]) := by
  have run := lcRun_filter (f := lcB Φ [18] (.nm 18) (.ccmp .GtE (.brw 18) (.brw 5)) (.var 18)) (e := fun (x : Nat) => D.int x) (g := fun (x : Nat) => D.int x) (p := fun x => decide (far ≤ x)) (γ := [s0, s1, s2, s3, s4, .val (.int far), s6, s7, s8, s9, .val (.lst (nD l)), s11, s12, s13, s14, s15, s16, s17, .no]) (xs := l) (fun x hx => by
    by_cases h : far ≤ x
    · simp [lcB_eq, h, show (far : Int) ≤ x by omega]
    · simp [lcB_eq, h, show ¬ (far : Int) ≤ x by omega]) (show l.length ≤ sizeLine by exact sz _ hl)
  have run : lcRun (lcB Φ [18] (.nm 18) (.ccmp .GtE (.brw 18) (.brw 5)) (.var 18)) (nD l) [] [s0, s1, s2, s3, s4, .val (.int far), s6, s7, s8, s9, .val (.lst (nD l)), s11, s12, s13, s14, s15, s16, s17, .no] = some (nD (l.filter fun x => decide (far ≤ x)), [s0, s1, s2, s3, s4, .val (.int far), s6, s7, s8, s9, .val (.lst (nD l)), s11, s12, s13, s14, s15, s16, s17, .no]) := run
  rcases hsl with rfl | rfl <;> simp [ir16_c2, itemsD, noOwn, run, restoreE]
theorem c1_ok {s0 s1 s2 s6 s7 s8 s9 s10 s11 s12 s13 s14 s15 s16 s18 : Z.Slot} {N k far : Nat} (hN : N < 500) (hk : 1 ≤ k) (hk2 : k < 500) (hf : far < 500) (hle : (k - 1) * far < N) :
    evE Φ ir16_c1 [s0, s1, s2, .val (.int N), .val (.int k), .val (.int far), s6, s7, s8, s9, s10, s11, s12, s13, s14, s15, s16, .no, s18] = some ((.lst (nD ((List.range k).map fun j => N - 1 - (k - 1 - j) * far)), true), [s0, s1, s2, .val (.int N), .val (.int k), .val (.int far), s6, s7, s8, s9, s10, s11, s12, s13, s14, s15, s16, .no, s18]) := by
  have run := lcRun_map (f := lcB Φ [17] (.nm 17) .nil (.bin .Sub (.bin .Sub (.brw 3) (.cst (.int 1))) (.bin .Mult (.bin .Sub (.bin .Sub (.brw 4) (.cst (.int 1))) (.brw 17)) (.brw 5)))) (e := fun (j : Nat) => D.int (0 + (j : Int))) (g := fun (j : Nat) => D.int ((N - 1 - (k - 1 - j) * far : Nat) : Int)) (γ := [s0, s1, s2, .val (.int N), .val (.int k), .val (.int far), s6, s7, s8, s9, s10, s11, s12, s13, s14, s15, s16, .no, s18]) (xs := List.range k) (fun j hj => by
    have hj : j < k := by simpa using hj
    have e1 : (k : Int) - 1 - j = ((k - 1 - j : Nat) : Int) := by omega
    have hle2 : (k - 1 - j) * far ≤ (k - 1) * far := Nat.mul_le_mul_right _ (by omega)
    have e2 : (((k - 1 - j : Nat) : Int)) * (far : Int) = (((k - 1 - j) * far : Nat) : Int) := by rw [Int.natCast_mul]
    have mo : Z.MulOk (((k - 1 - j : Nat) : Int)) (far : Int) := Z.MulOk.r (by omega) (by omega)
    have e3 : (N : Int) - 1 - (((k - 1 - j) * far : Nat) : Int) = ((N - 1 - (k - 1 - j) * far : Nat) : Int) := by omega
    rw [Int.zero_add]
    generalize (k - 1 - j) * far = b at *
    generalize k - 1 - j = a at *
    generalize N - 1 - b = c at *
    simp [lcB_eq, e1, e2, e3, mo]) (show (List.range k).length ≤ sizeLine by rw [List.length_range]; exact sz _ (by omega))
  rw [← rangeD_map] at run
  have e5 : (List.range k).map (fun (j : Nat) => D.int ((N - 1 - (k - 1 - j) * far : Nat) : Int)) = nD ((List.range k).map fun j => N - 1 - (k - 1 - j) * far) := by rw [nD, List.map_map]; rfl
  rw [e5] at run
  simp [ir16_c1, rngOk.s, show (k : Int) < 4611686018427387904 by omega, show -4611686018427387904 ≤ (k : Int) by omega, noOwn, run, restoreE]
end
end K15
namespace K15
open PySem PySem.Spec L2 Z
variable {n L : Nat}
theorem gdL_rwD {k : Nat} {l : List (List Nat)} (h : ∀ r ∈ l, r.length ≤ sizeLine) : gdL (k + 1) (rwD l) = true := by
  unfold rwD
  induction l with
  | nil => rfl
  | cons x l ih =>
    rw [List.map_cons, gdL, gd, ih fun r hr => h r (List.mem_cons_of_mem _ hr), gdL_nD, nD_len, decide_eq_true (h x (by simp))]
    rfl
theorem gd_optR {o : Option (List Nat)} (h : ∀ r, o = some r → r.length ≤ sizeLine) : gd 3 (optR o) = true := by
  cases o with
  | none => rfl
  | some r => rw [optR, gd, gdL_nD, nD_len, decide_eq_true (h r rfl)]; rfl
theorem oc_ne_nil {l : List (List Nat)} (h : ∀ r ∈ l, r.length < 1000) : opCmp .NotEq (.lst (rwD l)) (.lst []) = some (!l.isEmpty) := by
  have hs : shp 60 (.lst (rwD l)) = true := by
    rw [shp]
    clear h
    unfold rwD
    induction l with
    | nil => rfl
    | cons x l ih => rw [List.map_cons, shpL, ih, shp]; rw [show shpL 58 (nD x) = true from shpL_int]; rfl
  show (if (shp 60 (.lst (rwD l)) && shp 60 (.lst [])) = true then some (!eqD (.lst (rwD l)) (.lst [])) else none) = _
  rw [hs]
  cases l <;> rfl
theorem rwD_at {l : List (List Nat)} {i : Nat} (h : i < l.length) : atI (rwD l) (i : Int) = some (optR l[i]?) := by
  rw [atI_at (by omega) (by simpa using h), Int.toNat_natCast, rwD, List.getElem?_map, List.getElem?_eq_getElem h]
  rfl
theorem body_ok {Φ : Tab} (F : Facts Φ n) {t : D} {ns : List Int} {x : Int} (ht : TapeOk t) : ∃ (t' : D) (γ' : Z.Env), TapeOk t' ∧ forB Φ n (.nm 2) ir16_b1 (.int x) [.val (.scr ns), .own t, .no, .no, .no, .no, .no, .no, .no, .no, .no, .no, .no, .no, .no, .no, .no, .no, .no] = some (.nx γ') ∧
    wipeE γ' [2, 3, 4, 5, 6, 7, 8, 9, 10] = [.val (.scr ns), .own t', .no, .no, .no, .no, .no, .no, .no, .no, .no, .no, .no, .no, .no, .no, .no, .no, .no] := by
  obtain ⟨r1, t1, h1, ht1, e1⟩ := F.io ht (m := 13) (by omega) (.inl (by omega))
  obtain ⟨N, hN⟩ : ∃ c, c = r1 + 2 := ⟨_, rfl⟩
  have g1 : (2 : Int) + r1 = N := by omega
  obtain ⟨m2, hm2⟩ : ∃ m, m = min 5 N := ⟨_, rfl⟩
  obtain ⟨r2, t2, h2, ht2, e2⟩ := F.io ht1 (m := m2) (by omega) (.inl (by omega))
  obtain ⟨r3, t3, h3, ht3, e3⟩ := F.io ht2 (m := 6) (by omega) (.inl (by omega))
  obtain ⟨k, hk⟩ : ∃ c, c = r2 + 1 := ⟨_, rfl⟩
  obtain ⟨far, hf⟩ : ∃ c, c = r3 + 1 := ⟨_, rfl⟩
  have g2 : (1 : Int) + r2 = k := by omega
  have g3 : (1 : Int) + r3 = far := by omega
  have gm : (if (N : Int) < 5 then (N : Int) else 5) = m2 := by split <;> omega
  have x1 : Φ.io 2 t [.int 13] = some (.int r1, t1) := e1
  have x3 : Φ.io 2 t2 [.int 6] = some (.int r3, t3) := e3
  have kN : k ≤ N := by omega
  have gk : (G N far 0 k).length < 99990 := by
    rw [← G_keep (by omega) (by omega)]
    have := List.length_filter_le (fun r => decide (far ≤ gapV r)) (G N 1 0 k)
    have := G_small (N := N) (t := k) (by omega)
    omega
  obtain ⟨num, t4, h4, ht4, e4⟩ := F.io ht3 (m := (G N far 0 k).length + 2) (by omega) (.inl (by omega))
  have rl : ∀ {f : Nat} {r : List Nat}, r ∈ G N f 0 k → r.length = k := fun h => (G_ge h).1
  have hsp := F.spots (N := N) (k := k) (by omega) (by omega) (by omega)
  have q6 := c6_ok F (s0 := .val (.scr ns)) (s1 := .own t3) (s2 := .val (.int x)) (s3 := .val (.int N)) (s4 := .val (.int k)) (s7 := .no) (s8 := .no) (s9 := .no) (s10 := .no) (s11 := .no) (s12 := .no) (s13 := .no) (s14 := .no) (s15 := .no) (s17 := .no) (s18 := .no) (N := N) (k := k) (far := far) (by omega) (by omega) (by omega) (by omega) (by omega)
  have hnum := F.num (N := N) (k := k) (far := far) (by omega) (by omega) (by omega) (by omega) (by omega)
  have hfi := F.first (N := N) (k := k) (far := far) (by omega) (by omega) (by omega) (by omega)
  have hnu := F.numbered (N := N) (k := k) (far := far) (num := num) (by omega) (by omega) (by omega) (by omega) (by omega)
  have one := oc_ne_nil (l := G N far 0 k) fun r hr => by rw [rl hr]; omega
  have rat := fun i => rwD_at (l := G N far 0 k) (i := i)
  have hd : (G N far 0 k).head? = (G N far 0 k)[0]? := List.head?_eq_getElem?
  have go : ∀ i, gd 3 (optR (G N far 0 k)[i]?) = true := fun i => gd_optR fun r hr => by rw [rl (List.mem_of_getElem? hr), sizeLine_eq]; omega
  have sm1 : ∀ (a : Nat) i, Φ.fn 3 [.tup [.int a, optR (G N far 0 k)[i]?], .tup [.int a, optR (G N far 0 k)[i]?]] = some (.bl true, false) := fun a i => F.same (by
    have h4 := gd_mono (d := 3) (e := 4) (by omega) (go i)
    simp [gd, gdL, sz]
    exact h4)
  have sm2 : ∀ i, Φ.fn 3 [optR (G N far 0 k)[i]?, optR (G N far 0 k)[i]?] = some (.bl true, false) := fun i => F.same (gd_mono (d := 3) (by omega) (go i))
  rw [hd] at hfi
  have hlen : (rwD (G N far 0 k)).length = (G N far 0 k).length := rwD_len
  have e4' : Φ.io 2 t3 [.int (((G N far 0 k).length : Int) + 2)] = some (.int num, t4) := e4
  -- the part for two stems and more
  have big : 1 < k → ∃ (w : Nat) (ar : List Nat), (
      evE Φ ir16_c5 [.val (.scr ns), .own t4, .val (.int x), .val (.int N), .val (.int k), .val (.int far), .val (.lst (rwD (G N 1 0 k))), .own (.lst (rwD (G N far 0 k))), .val (.int num), .no, .no, .no, .no, .no, .no, .no, .no, .no, .no] = some ((.lst (nD ((G N 1 0 k).map gapV)), true), [.val (.scr ns), .own t4, .val (.int x), .val (.int N), .val (.int k), .val (.int far), .val (.lst (rwD (G N 1 0 k))), .own (.lst (rwD (G N far 0 k))), .val (.int num), .no, .no, .no, .no, .no, .no, .no, .no, .no, .no]) ∧
      opBi .max [.lst (nD ((G N 1 0 k).map gapV))] = some (.int w, false) ∧ Φ.fn 4 [.int N, .int k] = some (.int w, false) ∧
      ∃ X Xs, Φ.fn 5 [.int N, .int k] = some (X, false) ∧ Φ.fn 3 [.tup [.int w, X], .tup [.int w, X]] = some (.bl true, false) ∧
      evE Φ ir16_c4 [.val (.scr ns), .own t4, .val (.int x), .val (.int N), .val (.int k), .val (.int far), .val (.lst (rwD (G N 1 0 k))), .own (.lst (rwD (G N far 0 k))), .val (.int num), .val (.int w), .no, .no, .no, .no, .no, .no, .no, .no, .no] = some ((.lst Xs, true), [.val (.scr ns), .own t4, .val (.int x), .val (.int N), .val (.int k), .val (.int far), .val (.lst (rwD (G N 1 0 k))), .own (.lst (rwD (G N far 0 k))), .val (.int num), .val (.int w), .no, .no, .no, .no, .no, .no, .no, .no, .no]) ∧ atI Xs 0 = some X ∧
      evE Φ ir16_c3 [.val (.scr ns), .own t4, .val (.int x), .val (.int N), .val (.int k), .val (.int far), .val (.lst (rwD (G N 1 0 k))), .own (.lst (rwD (G N far 0 k))), .val (.int num), .val (.int w), .no, .no, .no, .no, .no, .no, .no, .no, .no] = some ((.lst (nD ar), true), [.val (.scr ns), .own t4, .val (.int x), .val (.int N), .val (.int k), .val (.int far), .val (.lst (rwD (G N 1 0 k))), .own (.lst (rwD (G N far 0 k))), .val (.int num), .val (.int w), .no, .no, .no, .no, .no, .no, .no, .no, .no]) ∧
      opBi .max [.lst (nD ar)] = some (.int (N / k : Nat), false) ∧ Φ.fn 6 [.int N, .int k] = some (.int (N / k : Nat), false) ∧
      Φ.fn 9 [.int N, .int k, .int far] = some (.int ((N * ringI N k far / k : Nat) : Int), false) ∧ (ar.filter fun y => decide (far ≤ y)).length = N * ringI N k far / k ∧
      evE Φ ir16_c2 [.val (.scr ns), .own t4, .val (.int x), .val (.int N), .val (.int k), .val (.int far), .val (.lst (rwD (G N 1 0 k))), .own (.lst (rwD (G N far 0 k))), .val (.int num), .val (.int w), .own (.lst (nD ar)), .no, .no, .no, .no, .no, .no, .no, .no] = some ((.lst (nD (ar.filter fun y => decide (far ≤ y))), true), [.val (.scr ns), .own t4, .val (.int x), .val (.int N), .val (.int k), .val (.int far), .val (.lst (rwD (G N 1 0 k))), .own (.lst (rwD (G N far 0 k))), .val (.int num), .val (.int w), .val (.lst (nD ar)), .no, .no, .no, .no, .no, .no, .no, .no])) := by
    intro hk2
    obtain ⟨p1, p2, p3, p4, p5⟩ := gap_max (N := N) (k := k) (by omega) kN (by omega)
    obtain ⟨s1, s2⟩ := rg_max (N := N) (k := k) (by omega) kN (by omega)
    have hle : (N - 1) / (k - 1) ≤ N - 1 := Nat.div_le_self _ _
    have hsw := F.spotsw (N := N) (k := k) (by omega) (by omega) (by omega) (by omega)
    have hgw := F.gapw (N := N) (k := k) (by omega) (by omega) (by omega)
    have hrn := rg_len (N := N) (k := k) (far := far) (by omega) (by omega) (by omega)
    have c4 := fun w => c4_ok F (s0 := .val (.scr ns)) (s1 := .own t4) (s2 := .val (.int x)) (s3 := .val (.int N)) (s4 := .val (.int k)) (s5 := .val (.int far)) (s7 := .own (.lst (rwD (G N far 0 k)))) (s8 := .val (.int num)) (s10 := .no) (s11 := .no) (s12 := .no) (s13 := .no) (s14 := .no) (s15 := .no) (s17 := .no) (s18 := .no) (N := N) (k := k) (w := w) (by omega) (by omega) (by omega)
    have gsm := G_small (N := N) (t := k) (by omega)
    generalize hw : (N - 1) / (k - 1) = w at *
    have h4 := c4 w
    rw [p3] at h4
    have hh := G_head (n := N) (far := w) (lo := 0) (t := k - 1) p5
    rw [if_pos p4, show k - 1 + 1 = k by omega] at hh
    have hat : atI (rwD (G N w 0 k)) 0 = some (.tup (nD ((List.range k).map fun j => j * w))) := by
      cases hg : G N w 0 k with
      | nil => rw [hg] at hh; cases hh
      | cons r rs =>
        rw [hg] at hh
        rw [show (0 : Int) = ((0 : Nat) : Int) from rfl, rwD_at (by simp)]
        have : r = _ := Option.some.inj hh
        simp [optR, this]
    refine ⟨w, (G N 1 0 k).map (rg N), c5_ok F (by omega) (by omega) (by omega), max_ok p1 p2, hgw, _, rwD (G N w 0 k), hsw, F.same ?_, h4, hat, c3_ok F (by omega) (by omega) (by omega), max_ok s1 s2, F.ringw (by omega) (by omega), F.ringn (by omega) (by omega) (by omega) (by omega) (by omega), ?_, c2_ok (.inr rfl) (by simp; omega)⟩
    · have l1 : k ≤ sizeLine := sz _ (by omega)
      simp [gd, gdL, gdL_nD, sz, l1]
    · rw [List.filter_map, List.length_map]
      exact hrn
  have rat0 : 0 < (G N far 0 k).length → atI (rwD (G N far 0 k)) 0 = some (optR (G N far 0 k)[0]?) := fun h => rat 0 h
  have hX : ∃ X, optR (G N far 0 k)[0]? = X ∧ evE Φ (.ite (.ccmp .NotEq (.brw 7) (.lst .nil)) (.idx (.brw 7) (.cst (.int 0))) (.cst .non)) [.val (.scr ns), .own t3, .val (.int x), .val (.int N), .val (.int k), .val (.int far), .val (.lst (rwD (G N 1 0 k))), .own (.lst (rwD (G N far 0 k))), .no, .no, .no, .no, .no, .no, .no, .no, .no, .no, .no] = some ((X, false), [.val (.scr ns), .own t3, .val (.int x), .val (.int N), .val (.int k), .val (.int far), .val (.lst (rwD (G N 1 0 k))), .own (.lst (rwD (G N far 0 k))), .no, .no, .no, .no, .no, .no, .no, .no, .no, .no, .no]) := by
    refine ⟨_, rfl, ?_⟩
    generalize G N 1 0 k = every at *
    generalize G N far 0 k = good at *
    cases good with
    | nil => simp [one, optR]
    | cons r rs =>
      have r0 := rat0 (by simp)
      simp only [List.isEmpty_cons, Bool.not_false] at one
      generalize rwD (r :: rs) = l at *
      simp [one, r0]
  have hY : ∃ Y, optR (G N far 0 k)[num]? = Y ∧ evE Φ (.ite (.ccmp .Lt (.brw 8) (.bi .len (.cons (.brw 7) .nil))) (.idx (.brw 7) (.brw 8)) (.cst .non)) [.val (.scr ns), .own t4, .val (.int x), .val (.int N), .val (.int k), .val (.int far), .val (.lst (rwD (G N 1 0 k))), .own (.lst (rwD (G N far 0 k))), .val (.int num), .no, .no, .no, .no, .no, .no, .no, .no, .no, .no] = some ((Y, false), [.val (.scr ns), .own t4, .val (.int x), .val (.int N), .val (.int k), .val (.int far), .val (.lst (rwD (G N 1 0 k))), .own (.lst (rwD (G N far 0 k))), .val (.int num), .no, .no, .no, .no, .no, .no, .no, .no, .no, .no]) := by
    refine ⟨_, rfl, ?_⟩
    generalize G N 1 0 k = every at *
    generalize G N far 0 k = good at *
    by_cases h : num < good.length
    · have r0 := rat num h
      generalize rwD good = l at *
      simp [hlen, h, r0]
    · have : good[num]? = none := List.getElem?_eq_none (by omega)
      rw [this]
      generalize rwD good = l at *
      simp [hlen, h, optR]
  obtain ⟨X, hX1, hX2⟩ := hX
  obtain ⟨Y, hY1, hY2⟩ := hY
  have s1 := sm1 (G N far 0 k).length 0
  have s2 := sm2 num
  rw [hX1] at s1 hfi
  rw [hY1] at s2 hnu
  by_cases hk1 : 1 < k
  · obtain ⟨w, ar, b1, b2, b3, X5, Xs, b4, b5, b6, b7, b8, b9, b10, b11, b12, b13⟩ := big hk1
    refine ⟨t4, [.val (.scr ns), .own t4, .val (.int x), .val (.int N), .val (.int k), .val (.int far), .val (.lst (rwD (G N 1 0 k))), .own (.lst (rwD (G N far 0 k))), .val (.int num), .val (.int w), .val (.lst (nD ar)), .no, .no, .no, .no, .no, .no, .no, .no], ht4, ?_, by simp⟩
    have s9 : Φ.fn 3 [.tup [.int (N / k : Nat), .int ((N * ringI N k far / k : Nat) : Int)], .tup [.int (N / k : Nat), .int ((N * ringI N k far / k : Nat) : Int)]] = some (.bl true, false) := F.same (by simp [gd, gdL, sz])
    generalize N * ringI N k far / k = ri at *
    generalize N / k = nk at *
    generalize (G N far 0 k).length = gl at *
    generalize rwD (G N far 0 k) = good at *
    generalize rwD (G N 1 0 k) = every at *
    generalize nD ((G N 1 0 k).map gapV) = gaps at *
    have hl2 : (nD (ar.filter fun y => decide (far ≤ y))).length = ri := by rw [nD_len, b12]
    generalize nD (ar.filter fun y => decide (far ≤ y)) = arf at *
    have hk1' : (1 : Int) < k := by omega
    simp [forB_eq, ir16_b1, x1, g1, gm, e2, g2, x3, g3, hsp, q6, hnum, hfi, hX2, hlen, s1, sz, e4', hnu, hY2, s2, hk1', b1, b2, b3, b4, b5, b6, b7, b8, b9, b10, b11, b13, hl2, s9]
  · refine ⟨t4, [.val (.scr ns), .own t4, .val (.int x), .val (.int N), .val (.int k), .val (.int far), .val (.lst (rwD (G N 1 0 k))), .own (.lst (rwD (G N far 0 k))), .val (.int num), .no, .no, .no, .no, .no, .no, .no, .no, .no, .no], ht4, ?_, by simp⟩
    have hk1' : ¬ (1 : Int) < k := by omega
    generalize (G N far 0 k).length = gl at *
    generalize rwD (G N far 0 k) = good at *
    generalize rwD (G N 1 0 k) = every at *
    simp [forB_eq, ir16_b1, x1, g1, gm, e2, g2, x3, g3, hsp, q6, hnum, hfi, hX2, hlen, s1, sz, e4', hnu, hY2, s2, hk1']
end K15
namespace K15
open PySem PySem.Spec L2 Z
variable {n L : Nat}
theorem pw (n : Nat) (h : n ≤ 300) : (2 ^ n).log2 < 9000 := by
  rw [Nat.log2_two_pow]; omega
theorem tail_ok {Φ : Tab} (F : Facts Φ n) {t : D} {ns : List Int} (ht : TapeOk t) : ∃ γ, ex Φ n (.cons (.par false [3, 4, 5] (.cons (.bin .Add (.cst (.int 20)) (.callm 2 1 (.cons (.cst (.int 181)) .nil))) (.cons (.bin .Add (.cst (.int 2)) (.callm 2 1 (.cons (.cst (.int 19)) .nil))) (.cons (.bin .Add (.cst (.int 1)) (.callm 2 1 (.cons (.cst (.int 9)) .nil))) .nil))))
  (.cons (.par true [11, 12] (.cons (.bin .Sub (.brw 3) (.bin .Mult (.bin .Sub (.brw 4) (.cst (.int 1))) (.bin .Sub (.brw 5) (.cst (.int 1))))) (.cons (.bin .Sub (.bin .Sub (.brw 3) (.cst (.int 1))) (.bin .Mult (.brw 4) (.bin .Sub (.brw 5) (.cst (.int 1))))) .nil)))
  (.cons (.asg 13 (.tup (.cons (.ite (.ccmp .Gt (.brw 11) (.cst (.int 0))) (.call 15 (.cons (.var 11) (.cons (.var 4) .nil))) (.cst (.int 0))) (.cons (.ite (.ccmp .Gt (.brw 12) (.cst (.int 0))) (.bin .FloorDiv (.bin .Mult (.brw 3) (.call 15 (.cons (.var 12) (.cons (.bin .Sub (.brw 4) (.cst (.int 1))) .nil)))) (.brw 4)) (.cst (.int 0))) .nil))))
  (.cons (.iff (.cnot (.tr (.call 3 (.cons (.tup (.cons (.call 8 (.cons (.var 3) (.cons (.var 4) (.cons (.var 5) .nil)))) (.cons (.call 9 (.cons (.var 3) (.cons (.var 4) (.cons (.var 5) .nil)))) .nil))) (.cons (.var 13) .nil)))))
  (.cons (.ret (.cst (.bl false)))
  .nil)
  .nil)
  (.cons (.iff (.ccmp .Gt (.idx (.brw 13) (.cst (.int 0))) (.cst (.int 0)))
  (.cons (.asg 8 (.callm 2 1 (.cons (.idx (.brw 13) (.cst (.int 0))) .nil)))
  (.cons (.asg 14 (.call 11 (.cons (.var 3) (.cons (.var 4) (.cons (.var 5) (.cons (.var 8) .nil))))))
  (.cons (.iff (.cor (.ccmp .NotEq (.bi .len (.cons (.brw 14) .nil)) (.brw 4)) (.cor (.ccmp .Lt (.call 13 (.cons (.var 14) .nil)) (.brw 5)) (.cor (.ccmp .GtE (.idx (.brw 14) (.neg (.cst (.int 1)))) (.brw 3)) (.ccmp .Lt (.idx (.brw 14) (.cst (.int 0))) (.cst (.int 0))))))
  (.cons (.ret (.cst (.bl false)))
  .nil)
  .nil)
  (.cons (.asg 15 (.call 11 (.cons (.var 3) (.cons (.var 4) (.cons (.var 5) (.cons (.bin .Sub (.idx (.brw 13) (.cst (.int 0))) (.cst (.int 1))) .nil))))))
  (.cons (.iff (.cnot (.tr (.call 3 (.cons (.var 15) (.cons (.bi .tuple (.cons ir16_c1 .nil)) .nil)))))
  (.cons (.ret (.cst (.bl false)))
  .nil)
  .nil)
  .nil)))))
  .nil)
  (.cons (.ret (.cmp .Is (.call 11 (.cons (.var 3) (.cons (.var 4) (.cons (.var 5) (.cons (.idx (.brw 13) (.cst (.int 0))) .nil))))) (.cst .non)))
  .nil)))))) [.val (.scr ns), .own t, .no, .no, .no, .no, .no, .no, .no, .no, .no, .no, .no, .no, .no, .no, .no, .no, .no] = some (.rt (.bl true) false γ) := by
  obtain ⟨r1, t1, h1, ht1, e1⟩ := F.io ht (m := 181) (by omega) (.inl (by omega))
  obtain ⟨r2, t2, h2, ht2, e2⟩ := F.io ht1 (m := 19) (by omega) (.inl (by omega))
  obtain ⟨r3, t3, h3, ht3, e3⟩ := F.io ht2 (m := 9) (by omega) (.inl (by omega))
  obtain ⟨N, hN⟩ : ∃ c, c = r1 + 20 := ⟨_, rfl⟩
  obtain ⟨k, hk⟩ : ∃ c, c = r2 + 2 := ⟨_, rfl⟩
  obtain ⟨far, hf⟩ : ∃ c, c = r3 + 1 := ⟨_, rfl⟩
  have g1 : (20 : Int) + r1 = N := by omega
  have g2 : (2 : Int) + r2 = k := by omega
  have g3 : (1 : Int) + r3 = far := by omega
  have x1 : Φ.io 2 t [.int 181] = some (.int r1, t1) := e1
  have x2 : Φ.io 2 t1 [.int 19] = some (.int r2, t2) := e2
  have x3 : Φ.io 2 t2 [.int 9] = some (.int r3, t3) := e3
  have b1 : (k - 1) * (far - 1) ≤ 19 * 8 := Nat.mul_le_mul (by omega) (by omega)
  have b2 : k * (far - 1) ≤ 20 * 8 := Nat.mul_le_mul (by omega) (by omega)
  have m1 : ((k : Int) - 1) * ((far : Int) - 1) = (((k - 1) * (far - 1) : Nat) : Int) := by
    rw [Int.natCast_mul]; congr 1 <;> omega
  have m2 : (k : Int) * ((far : Int) - 1) = ((k * (far - 1) : Nat) : Int) := by
    rw [Int.natCast_mul]; congr 1; omega
  have mo1 : Z.MulOk ((k : Int) - 1) ((far : Int) - 1) := Z.MulOk.r (by omega) (by omega)
  have mo2 : Z.MulOk (k : Int) ((far : Int) - 1) := Z.MulOk.r (by omega) (by omega)
  have hlen := G_len (n := N) (far := far) (by omega) (k - 1) N 0 rfl
  rw [show k - 1 + 1 = k by omega] at hlen
  have hring : ringI N k far = if k * (far - 1) < N then ch (N - 1 - k * (far - 1)) (k - 1) else 0 := rfl
  have hnum := F.num (N := N) (k := k) (far := far) (by omega) (by omega) (by omega) (by omega) (by omega)
  have hrn := F.ringn (N := N) (k := k) (far := far) (by omega) (by omega) (by omega) (by omega) (by omega)
  have hnu := fun num => F.numbered (N := N) (k := k) (far := far) (num := num) (by omega) (by omega) (by omega) (by omega) (by omega)
  have hch1 := F.choices (N := N - (k - 1) * (far - 1)) (k := k) (by omega) (by omega)
  have hch2 := F.choices (N := N - 1 - k * (far - 1)) (k := k - 1) (by omega) (by omega)
  have hle : (G N far 0 k).length ≤ 2 ^ 200 := by
    rw [hlen]
    exact Nat.le_trans (ch_le _ _) (Nat.pow_le_pow_right (by omega) (by omega))
  have hmem : ∀ r ∈ G N far 0 k, r.length = k ∧ far ≤ gapV r ∧ lst r < N ∧ r ≠ [] ∧ Rise r := fun r hr => by
    obtain ⟨u, rfl⟩ : ∃ u, k = u + 1 := ⟨k - 1, by omega⟩
    have hr' := hr
    rw [← G_keep (by omega) (by omega)] at hr'
    exact ⟨(G_ge hr).1, of_decide_eq_true (List.mem_filter.mp hr').2, lst_lt hr, G_ne hr, G_rise (by omega) hr⟩
  have hlast := fun h => G_last (n := N) (far := far) (t := k - 1) (by omega) N 0 rfl h
  rw [show k - 1 + 1 = k by omega] at hlast
  have hdk : DivOk (k : Int) := ⟨by omega, .inl (by omega)⟩
  have hdv : ((N : Int) * ((ch (N - 1 - k * (far - 1)) (k - 1) : Nat) : Int)) / (k : Int) = ((N * ch (N - 1 - k * (far - 1)) (k - 1) / k : Nat) : Int) := by
    rw [Int.natCast_ediv, Int.natCast_mul]
  have moN : ∀ y : Int, Z.MulOk (N : Int) y := fun y => Z.MulOk.l (by omega) (by omega)
  -- the sums
  have d1 : ∃ a : Nat, a = (G N far 0 k).length ∧ (if (0 : Int) < (N : Int) - (((k - 1) * (far - 1) : Nat) : Int) then ((ch (N - (k - 1) * (far - 1)) k : Nat) : Int) else 0) = (a : Int) := by
    refine ⟨_, rfl, ?_⟩
    rw [hlen]
    split
    · rfl
    · rw [show N - (k - 1) * (far - 1) = 0 by omega, ch_gt (by omega)]; rfl
  have d2 : (if (0 : Int) < (N : Int) - 1 - ((k * (far - 1) : Nat) : Int) then ((N * ch (N - 1 - k * (far - 1)) (k - 1) / k : Nat) : Int) else 0) = ((N * ringI N k far / k : Nat) : Int) := by
    rw [hring]
    by_cases h : (0 : Int) < (N : Int) - 1 - ((k * (far - 1) : Nat) : Int)
    · rw [if_pos h, if_pos (by omega)]
    · rw [if_neg h]
      split
      · rw [show N - 1 - k * (far - 1) = 0 by omega, ch_gt (by omega)]; simp
      · simp
  obtain ⟨a, ha, d1⟩ := d1
  rw [← ha] at hnum hle
  have s1 : Φ.fn 3 [.tup [.int a, .int ((N * ringI N k far / k : Nat) : Int)], .tup [.int a, .int ((N * ringI N k far / k : Nat) : Int)]] = some (.bl true, false) := F.same (by simp [gd, gdL, sz])
  have due : ∀ {t4 : D}, evE Φ (.tup (.cons (.ite (.ccmp .Gt (.brw 11) (.cst (.int 0))) (.call 15 (.cons (.var 11) (.cons (.var 4) .nil))) (.cst (.int 0))) (.cons (.ite (.ccmp .Gt (.brw 12) (.cst (.int 0))) (.bin .FloorDiv (.bin .Mult (.brw 3) (.call 15 (.cons (.var 12) (.cons (.bin .Sub (.brw 4) (.cst (.int 1))) .nil)))) (.brw 4)) (.cst (.int 0))) .nil))) [.val (.scr ns), .own t4, .no, .val (.int N), .val (.int k), .val (.int far), .no, .no, .no, .no, .no, .val (.int ((N : Int) - (((k - 1) * (far - 1) : Nat) : Int))), .val (.int ((N : Int) - 1 - ((k * (far - 1) : Nat) : Int))), .no, .no, .no, .no, .no, .no]
      = some ((.tup [.int a, .int ((N * ringI N k far / k : Nat) : Int)], false), [.val (.scr ns), .own t4, .no, .val (.int N), .val (.int k), .val (.int far), .no, .no, .no, .no, .no, .val (.int ((N : Int) - (((k - 1) * (far - 1) : Nat) : Int))), .val (.int ((N : Int) - 1 - ((k * (far - 1) : Nat) : Int))), .no, .no, .no, .no, .no, .no]) := by
    intro t4
    rw [← d1, ← d2]
    have k1 : (k : Int) - 1 = ((k - 1 : Nat) : Int) := by omega
    have w1 : (0 : Int) < (N : Int) - (((k - 1) * (far - 1) : Nat) : Int) → (N : Int) - (((k - 1) * (far - 1) : Nat) : Int) = ((N - (k - 1) * (far - 1) : Nat) : Int) := fun h => by omega
    have w2 : (0 : Int) < (N : Int) - 1 - ((k * (far - 1) : Nat) : Int) → (N : Int) - 1 - ((k * (far - 1) : Nat) : Int) = ((N - 1 - k * (far - 1) : Nat) : Int) := fun h => by omega
    generalize (N : Int) - (((k - 1) * (far - 1) : Nat) : Int) = p at *
    generalize (N : Int) - 1 - ((k * (far - 1) : Nat) : Int) = q at *
    generalize hc2 : ch (N - 1 - k * (far - 1)) (k - 1) = c2 at *
    generalize hc1 : ch (N - (k - 1) * (far - 1)) k = c1 at *
    generalize N * c2 / k = dv at *
    have k2 : 2 ≤ sizeLine := sz _ (by omega)
    by_cases hp : 0 < p
    · by_cases hq : 0 < q
      · rw [if_pos hp, if_pos hq]
        have w1 := w1 hp
        have w2 := w2 hq
        generalize N - 1 - k * (far - 1) = y at *
        generalize N - (k - 1) * (far - 1) = x at *
        generalize k - 1 = km at *
        have hp' : (0 : Int) < x := by omega
        have hq' : (0 : Int) < y := by omega
        have hp' : 0 < x := by omega
        have hq' : 0 < y := by omega
        simp [w1, w2, hp', hq', hch1, hch2, k1, moN, hdk, hdv, k2]
      · rw [if_pos hp, if_neg hq]
        have w1 := w1 hp
        generalize N - (k - 1) * (far - 1) = x at *
        have hp' : 0 < x := by omega
        simp [w1, hp', hq, hch1, k2]
    · by_cases hq : 0 < q
      · rw [if_neg hp, if_pos hq]
        have w2 := w2 hq
        generalize N - 1 - k * (far - 1) = y at *
        generalize k - 1 = km at *
        have hq' : 0 < y := by omega
        simp [w2, hp, hq', hch2, k1, moN, hdk, hdv, k2]
      · rw [if_neg hp, if_neg hq]
        simp [hp, hq, k2]
  have hend : (G N far 0 k)[a]? = none := List.getElem?_eq_none (by omega)
  have hnE := hnu a
  rw [hend] at hnE
  have hnE : Φ.fn 11 [.int N, .int k, .int far, .int a] = some (.non, false) := hnE
  generalize (((k - 1) * (far - 1) : Nat) : Int) = p1 at *
  generalize ((k * (far - 1) : Nat) : Int) = p2 at *
  generalize hri : N * ringI N k far / k = ri at *
  have mo1' := mo1
  have k2 : 2 ≤ sizeLine := sz _ (by omega)
  by_cases ha0 : 0 < a
  · obtain ⟨num, t4, h4, ht4, e4⟩ := F.io ht3 (m := a) (by omega) (.inr (by
      refine Nat.lt_of_le_of_lt ?_ (pw 200 (by omega))
      rw [Nat.log2_two_pow]
      refine Nat.le_of_lt_succ ((Nat.log2_lt (by omega)).mpr ?_)
      exact Nat.lt_of_le_of_lt hle (Nat.pow_lt_pow_right (by omega) (by omega))))
    have hr : (G N far 0 k)[num]? = some ((G N far 0 k)[num]'(by omega)) := List.getElem?_eq_getElem (by omega)
    obtain ⟨r, hr'⟩ : ∃ r, (G N far 0 k)[num]'(by omega) = r := ⟨_, rfl⟩
    rw [hr'] at hr
    obtain ⟨q1, q2, q3, q4, q5⟩ := hmem r (List.mem_of_getElem? hr)
    have n1 := hnu num
    rw [hr] at n1
    have n1 : Φ.fn 11 [.int N, .int k, .int far, .int num] = some (.tup (nD r), false) := n1
    have hle2 : 0 + (k - 1) * far < N := by
      by_cases hh : 0 + (k - 1) * far < N
      · exact hh
      · have := G_nil_of (n := N) (far := far) (t := k - 1) hh (by omega)
        rw [show k - 1 + 1 = k by omega] at this
        rw [this] at ha
        simp at ha
        omega
    have hl := hlast hle2
    rw [List.getLast?_eq_getElem?, ← ha] at hl
    have n2 := hnu (a - 1)
    rw [hl] at n2
    have n2 : Φ.fn 11 [.int N, .int k, .int far, .int (a - 1 : Nat)] = some (.tup (nD ((List.range k).map fun j => N - 1 - (k - 1 - j) * far)), false) := n2
    have a1 : (a : Int) - 1 = ((a - 1 : Nat) : Int) := by omega
    have hg := F.gap q5 (by omega) q4
    have hla := nD_last q4
    have hfi : atI (nD r) 0 = some (.int (r.getD 0 0 : Nat)) := nD_at (i := 0) (by omega)
    have c1 := c1_ok (Φ := Φ) (s0 := .val (.scr ns)) (s1 := .own t4) (s2 := .no) (s6 := .no) (s7 := .no) (s8 := .val (.int num)) (s9 := .no) (s10 := .no) (s11 := .val (.int ((N : Int) - p1))) (s12 := .val (.int ((N : Int) - 1 - p2))) (s13 := .val (.tup [.int a, .int ri])) (s14 := .val (.tup (nD r))) (s15 := .val (.tup (nD ((List.range k).map fun j => N - 1 - (k - 1 - j) * far)))) (s16 := .no) (s18 := .no) (N := N) (k := k) (far := far) (by omega) (by omega) (by omega) (by omega) (by omega)
    have hw : ((List.range k).map fun j => N - 1 - (k - 1 - j) * far).length = k := by simp
    generalize (List.range k).map (fun j => N - 1 - (k - 1 - j) * far) = w at *
    have s2 : Φ.fn 3 [.tup (nD w), .tup (nD w)] = some (.bl true, false) := F.same (by
      have l1 : k ≤ sizeLine := sz _ (by omega)
      simp [gd, gdL_nD, hw, l1])
    have at0 : atI [D.int (a : Int), D.int (ri : Int)] 0 = some (.int a) := rfl
    have v1 : ¬ ((gapV r : Nat) : Int) < far := by omega
    have v2 : ¬ (N : Int) ≤ (lst r : Nat) := by omega
    have v3 : ¬ ((r.getD 0 0 : Nat) : Int) < 0 := by omega
    have v4 : (nD r).length = k := by rw [nD_len, q1]
    generalize r.getD 0 0 = f0 at *
    generalize lst r = l0 at *
    generalize gapV r = gv at *
    generalize nD r = rr at *
    generalize nD w = ww at *
    generalize a - 1 = am at *
    have v1 : ¬ gv < far := by omega
    have v2 : ¬ N ≤ l0 := by omega
    simp [x1, x2, x3, g1, g2, g3, m1, m2, mo1, mo2, due, hnum, hrn, s1, at0, ha0, e4, n1, v4, hg, hla, hfi, v1, v2, v3, a1, n2, c1, s2, hnE, k2]
  · have : a = 0 := by omega
    subst this
    have at0 : atI [D.int ((0 : Nat) : Int), D.int (ri : Int)] 0 = some (.int (0 : Nat)) := rfl
    have s1 : Φ.fn 3 [.tup [.int 0, .int ri], .tup [.int 0, .int ri]] = some (.bl true, false) := s1
    have hnum : Φ.fn 8 [.int N, .int k, .int far] = some (.int 0, false) := hnum
    have at0 : atI [D.int 0, D.int (ri : Int)] 0 = some (.int 0) := rfl
    have hnE : Φ.fn 11 [.int N, .int k, .int far, .int 0] = some (.non, false) := hnE
    simp [x1, x2, x3, g1, g2, g3, m1, m2, mo1, mo2, due, hnum, hrn, s1, at0, hnE, k2]
theorem law_main (ns : List Int) (_ : ns.length ≤ 63) : ∃ n, (Tb dfs n 100).fn 16 [.scr ns] = some (.bl true, false) := by
  refine ⟨1000000, ?_⟩
  rw [fn_eq (d := d16) (L := 99) rfl rfl rfl]
  obtain ⟨t, e0, ht⟩ := tape_ok (dfs := dfs) (n := 1000000) (L := 98) rfl ns
  have F : Facts (Tb dfs 1000000 99) 1000000 := facts (L := 89) (by omega)
  generalize Tb dfs 1000000 99 = Φ at *
  generalize 1000000 = n at *
  have lp := forRun_inv (f := forB Φ n (.nm 2) ir16_b1) (w := [2, 3, 4, 5, 6, 7, 8, 9, 10])
    (fun i γ => ∃ t, TapeOk t ∧ γ = [.val (.scr ns), .own t, .no, .no, .no, .no, .no, .no, .no, .no, .no, .no, .no, .no, .no, .no, .no, .no, .no])
    (fun o => ∃ t, TapeOk t ∧ o = .nx [.val (.scr ns), .own t, .no, .no, .no, .no, .no, .no, .no, .no, .no, .no, .no, .no, .no, .no, .no, .no, .no])
    (xs := rangeD 0 3) (k := 0) (by
      rintro i x γ hx ⟨t, ht, rfl⟩
      obtain ⟨hi, rfl⟩ := rangeD_get hx
      obtain ⟨t', γ', h1, h2, h3⟩ := body_ok F (ns := ns) (x := 0 + (i : Int)) ht
      exact ⟨_, h2, t', h1, h3⟩) (by
      rintro γ ⟨t, ht, rfl⟩
      exact ⟨t, ht, rfl⟩) ⟨t, ht, rfl⟩
  obtain ⟨o, e1, t1, ht1, rfl⟩ := lp
  obtain ⟨γ, e9⟩ := tail_ok F (ns := ns) ht1
  have k1 : Φ.fn 4 [.int 10, .int 4] = some (.int 3, false) := F.gapw (N := 10) (k := 4) (by omega) (by omega) (by omega)
  have k2 : Φ.fn 5 [.int 10, .int 4] = some (.tup [.int 0, .int 3, .int 6, .int 9], false) := F.spotsw (N := 10) (k := 4) (by omega) (by omega) (by omega) (by omega)
  have k3 : Φ.fn 6 [.int 10, .int 4] = some (.int 2, false) := F.ringw (N := 10) (k := 4) (by omega) (by omega)
  have k4 : Φ.fn 8 [.int 5, .int 2, .int 2] = some (.int 6, false) := F.num (N := 5) (k := 2) (far := 2) (by omega) (by omega) (by omega) (by omega) (by omega)
  have k5 : Φ.fn 9 [.int 5, .int 2, .int 2] = some (.int 5, false) := F.ringn (N := 5) (k := 2) (far := 2) (by omega) (by omega) (by omega) (by omega) (by omega)
  have k6 : Φ.fn 10 [.int 5, .int 3, .int 3] = some (.non, false) := F.first (N := 5) (k := 3) (far := 3) (by omega) (by omega) (by omega) (by omega)
  have k7 : Φ.fn 11 [.int 5, .int 2, .int 2, .int 5] = some (.tup [.int 2, .int 4], false) := F.numbered (N := 5) (k := 2) (far := 2) (num := 5) (by omega) (by omega) (by omega) (by omega) (by omega)
  have n1 : opCmp .NotEq (.tup [.int 0, .int 3, .int 6, .int 9]) (.tup [.int 0, .int 3, .int 6, .int 9]) = some false := by decide
  have n2 : opCmp .NotEq (.tup [.int 2, .int 4]) (.tup [.int 2, .int 4]) = some false := by decide
  have sz4 : 4 ≤ sizeLine := sz _ (by omega)
  have e2 : ex Φ n ir16_f1 [.val (.scr ns), .own t, .no, .no, .no, .no, .no, .no, .no, .no, .no, .no, .no, .no, .no, .no, .no, .no, .no] = some (.nx [.val (.scr ns), .own t1, .no, .no, .no, .no, .no, .no, .no, .no, .no, .no, .no, .no, .no, .no, .no, .no, .no]) := by
    simp [ir16_f1, rngOk.s, e1]
  simp only [ir16]
  generalize hS : (Sm.cons (.par false [3, 4, 5] _) _) = S at e9 ⊢
  simp [e0, k1, k2, k3, k4, k5, k6, k7, n1, n2, sz, sz4, e2, e9]
end K15
namespace K15
open PySem PySem.Spec L2 Z
theorem blt_none {K : PySem.W.Frag} {h : Heap} {mg : Str → Option Value} (X : K.In h) (G : h.Ns mainGlobals mg) (z0 : PySem.W.nsIn K mainGlobals "all" = some none) (z1 : PySem.W.nsIn K mainGlobals "bool" = some none) (z2 : PySem.W.nsIn K mainGlobals "int" = some none) (z3 : PySem.W.nsIn K mainGlobals "isinstance" = some none) (z4 : PySem.W.nsIn K mainGlobals "len" = some none) (z5 : PySem.W.nsIn K mainGlobals "list" = some none) (z6 : PySem.W.nsIn K mainGlobals "max" = some none) (z7 : PySem.W.nsIn K mainGlobals "min" = some none) (z8 : PySem.W.nsIn K mainGlobals "range" = some none) (z9 : PySem.W.nsIn K mainGlobals "str" = some none) (z10 : PySem.W.nsIn K mainGlobals "tuple" = some none) : ∀ x, cst.blt.contains x = true → mg x = none := by
  intro x hx
  simp only [cst, List.contains_iff_mem, List.mem_cons, List.not_mem_nil, or_false] at hx
  rcases hx with rfl | rfl | rfl | rfl | rfl | rfl | rfl | rfl | rfl | rfl | rfl
  · exact PySem.W.mg_none_of X G z0
  · exact PySem.W.mg_none_of X G z1
  · exact PySem.W.mg_none_of X G z2
  · exact PySem.W.mg_none_of X G z3
  · exact PySem.W.mg_none_of X G z4
  · exact PySem.W.mg_none_of X G z5
  · exact PySem.W.mg_none_of X G z6
  · exact PySem.W.mg_none_of X G z7
  · exact PySem.W.mg_none_of X G z8
  · exact PySem.W.mg_none_of X G z9
  · exact PySem.W.mg_none_of X G z10
theorem all_mk {l : PySem.W.OpenLaw} {w : World} {K : PySem.W.Frag} {h : Heap} {mg : Str → Option Value} {fa : Addr} (X : K.In h) (G : h.Ns mainGlobals mg) (hfa : mg "law" = some (.ref fa))
    {a0 : Addr} {od0 an0 : Option Addr} {sl0 : Array (Option Value)} {oc0 kV0 dc0 pm0 cd0 ct0 : Value}
    {a1 : Addr} {od1 an1 : Option Addr} {sl1 : Array (Option Value)} {oc1 kV1 dc1 pm1 cd1 ct1 : Value}
    {a2 : Addr} {od2 an2 : Option Addr} {sl2 : Array (Option Value)} {oc2 kV2 dc2 pm2 cd2 ct2 : Value}
    {a3 : Addr} {od3 an3 : Option Addr} {sl3 : Array (Option Value)} {oc3 kV3 dc3 pm3 cd3 ct3 : Value}
    {a4 : Addr} {od4 an4 : Option Addr} {sl4 : Array (Option Value)} {oc4 kV4 dc4 pm4 cd4 ct4 : Value}
    {a5 : Addr} {od5 an5 : Option Addr} {sl5 : Array (Option Value)} {oc5 kV5 dc5 pm5 cd5 ct5 : Value}
    {a6 : Addr} {od6 an6 : Option Addr} {sl6 : Array (Option Value)} {oc6 kV6 dc6 pm6 cd6 ct6 : Value}
    {a7 : Addr} {od7 an7 : Option Addr} {sl7 : Array (Option Value)} {oc7 kV7 dc7 pm7 cd7 ct7 : Value}
    {a8 : Addr} {od8 an8 : Option Addr} {sl8 : Array (Option Value)} {oc8 kV8 dc8 pm8 cd8 ct8 : Value}
    {a9 : Addr} {od9 an9 : Option Addr} {sl9 : Array (Option Value)} {oc9 kV9 dc9 pm9 cd9 ct9 : Value}
    {a10 : Addr} {od10 an10 : Option Addr} {sl10 : Array (Option Value)} {oc10 kV10 dc10 pm10 cd10 ct10 : Value}
    {a11 : Addr} {od11 an11 : Option Addr} {sl11 : Array (Option Value)} {oc11 kV11 dc11 pm11 cd11 ct11 : Value}
    {a12 : Addr} {od12 an12 : Option Addr} {sl12 : Array (Option Value)} {oc12 kV12 dc12 pm12 cd12 ct12 : Value}
    {a13 : Addr} {od13 an13 : Option Addr} {sl13 : Array (Option Value)} {oc13 kV13 dc13 pm13 cd13 ct13 : Value}
    {a14 : Addr} {od14 an14 : Option Addr} {sl14 : Array (Option Value)} {oc14 kV14 dc14 pm14 cd14 ct14 : Value}
    {a15 : Addr} {od15 an15 : Option Addr} {sl15 : Array (Option Value)} {oc15 kV15 dc15 pm15 cd15 ct15 : Value}
    {a16 : Addr} {od16 an16 : Option Addr} {sl16 : Array (Option Value)} {oc16 kV16 dc16 pm16 cd16 ct16 : Value}
    (e0 : PySem.W.nsIn K mainGlobals "_law_mix" = some (some (.ref a0))) (l0 : K.lookup a0 = some ⟨oc0, od0, .func (PySem.W.fnOf "_law_mix" "_law_mix" (defArgs (topS 10)) (defBody (topS 10)) (defScope (topS 10)) .none kV0 dc0 pm0 an0 cd0 ct0), sl0⟩) (c0 : PySem.W.codeIn K cd0 "_law_mix" = true) (k0 : PySem.W.keepIn K (.ref a0) = true)
    (e1 : PySem.W.nsIn K mainGlobals "_law_tape" = some (some (.ref a1))) (l1 : K.lookup a1 = some ⟨oc1, od1, .func (PySem.W.fnOf "_law_tape" "_law_tape" (defArgs (topS 11)) (defBody (topS 11)) (defScope (topS 11)) .none kV1 dc1 pm1 an1 cd1 ct1), sl1⟩) (c1 : PySem.W.codeIn K cd1 "_law_tape" = true) (k1 : PySem.W.keepIn K (.ref a1) = true)
    (e2 : PySem.W.nsIn K mainGlobals "_law_take" = some (some (.ref a2))) (l2 : K.lookup a2 = some ⟨oc2, od2, .func (PySem.W.fnOf "_law_take" "_law_take" (defArgs (topS 12)) (defBody (topS 12)) (defScope (topS 12)) .none kV2 dc2 pm2 an2 cd2 ct2), sl2⟩) (c2 : PySem.W.codeIn K cd2 "_law_take" = true) (k2 : PySem.W.keepIn K (.ref a2) = true)
    (e3 : PySem.W.nsIn K mainGlobals "_law_same" = some (some (.ref a3))) (l3 : K.lookup a3 = some ⟨oc3, od3, .func (PySem.W.fnOf "_law_same" "_law_same" (defArgs (topS 13)) (defBody (topS 13)) (defScope (topS 13)) .none kV3 dc3 pm3 an3 cd3 ct3), sl3⟩) (c3 : PySem.W.codeIn K cd3 "_law_same" = true) (k3 : PySem.W.keepIn K (.ref a3) = true)
    (e4 : PySem.W.nsIn K mainGlobals "widest_gap" = some (some (.ref a4))) (l4 : K.lookup a4 = some ⟨oc4, od4, .func (PySem.W.fnOf "widest_gap" "widest_gap" (defArgs (topS 1)) (defBody (topS 1)) (defScope (topS 1)) .none kV4 dc4 pm4 an4 cd4 ct4), sl4⟩) (c4 : PySem.W.codeIn K cd4 "widest_gap" = true) (k4 : PySem.W.keepIn K (.ref a4) = true)
    (e5 : PySem.W.nsIn K mainGlobals "widest_spots" = some (some (.ref a5))) (l5 : K.lookup a5 = some ⟨oc5, od5, .func (PySem.W.fnOf "widest_spots" "widest_spots" (defArgs (topS 2)) (defBody (topS 2)) (defScope (topS 2)) .none kV5 dc5 pm5 an5 cd5 ct5), sl5⟩) (c5 : PySem.W.codeIn K cd5 "widest_spots" = true) (k5 : PySem.W.keepIn K (.ref a5) = true)
    (e6 : PySem.W.nsIn K mainGlobals "widest_on_ring" = some (some (.ref a6))) (l6 : K.lookup a6 = some ⟨oc6, od6, .func (PySem.W.fnOf "widest_on_ring" "widest_on_ring" (defArgs (topS 3)) (defBody (topS 3)) (defScope (topS 3)) .none kV6 dc6 pm6 an6 cd6 ct6), sl6⟩) (c6 : PySem.W.codeIn K cd6 "widest_on_ring" = true) (k6 : PySem.W.keepIn K (.ref a6) = true)
    (e7 : PySem.W.nsIn K mainGlobals "choose" = some (some (.ref a7))) (l7 : K.lookup a7 = some ⟨oc7, od7, .func (PySem.W.fnOf "choose" "choose" (defArgs (topS 4)) (defBody (topS 4)) (defScope (topS 4)) .none kV7 dc7 pm7 an7 cd7 ct7), sl7⟩) (c7 : PySem.W.codeIn K cd7 "choose" = true) (k7 : PySem.W.keepIn K (.ref a7) = true)
    (e8 : PySem.W.nsIn K mainGlobals "count_spots" = some (some (.ref a8))) (l8 : K.lookup a8 = some ⟨oc8, od8, .func (PySem.W.fnOf "count_spots" "count_spots" (defArgs (topS 5)) (defBody (topS 5)) (defScope (topS 5)) .none kV8 dc8 pm8 an8 cd8 ct8), sl8⟩) (c8 : PySem.W.codeIn K cd8 "count_spots" = true) (k8 : PySem.W.keepIn K (.ref a8) = true)
    (e9 : PySem.W.nsIn K mainGlobals "count_on_ring" = some (some (.ref a9))) (l9 : K.lookup a9 = some ⟨oc9, od9, .func (PySem.W.fnOf "count_on_ring" "count_on_ring" (defArgs (topS 6)) (defBody (topS 6)) (defScope (topS 6)) .none kV9 dc9 pm9 an9 cd9 ct9), sl9⟩) (c9 : PySem.W.codeIn K cd9 "count_on_ring" = true) (k9 : PySem.W.keepIn K (.ref a9) = true)
    (e10 : PySem.W.nsIn K mainGlobals "first_spots" = some (some (.ref a10))) (l10 : K.lookup a10 = some ⟨oc10, od10, .func (PySem.W.fnOf "first_spots" "first_spots" (defArgs (topS 7)) (defBody (topS 7)) (defScope (topS 7)) .none kV10 dc10 pm10 an10 cd10 ct10), sl10⟩) (c10 : PySem.W.codeIn K cd10 "first_spots" = true) (k10 : PySem.W.keepIn K (.ref a10) = true)
    (e11 : PySem.W.nsIn K mainGlobals "spots_numbered" = some (some (.ref a11))) (l11 : K.lookup a11 = some ⟨oc11, od11, .func (PySem.W.fnOf "spots_numbered" "spots_numbered" (defArgs (topS 8)) (defBody (topS 8)) (defScope (topS 8)) .none kV11 dc11 pm11 an11 cd11 ct11), sl11⟩) (c11 : PySem.W.codeIn K cd11 "spots_numbered" = true) (k11 : PySem.W.keepIn K (.ref a11) = true)
    (e12 : PySem.W.nsIn K mainGlobals "_law_spots" = some (some (.ref a12))) (l12 : K.lookup a12 = some ⟨oc12, od12, .func (PySem.W.fnOf "_law_spots" "_law_spots" (defArgs (topS 14)) (defBody (topS 14)) (defScope (topS 14)) .none kV12 dc12 pm12 an12 cd12 ct12), sl12⟩) (c12 : PySem.W.codeIn K cd12 "_law_spots" = true) (k12 : PySem.W.keepIn K (.ref a12) = true)
    (e13 : PySem.W.nsIn K mainGlobals "_law_gap" = some (some (.ref a13))) (l13 : K.lookup a13 = some ⟨oc13, od13, .func (PySem.W.fnOf "_law_gap" "_law_gap" (defArgs (topS 15)) (defBody (topS 15)) (defScope (topS 15)) .none kV13 dc13 pm13 an13 cd13 ct13), sl13⟩) (c13 : PySem.W.codeIn K cd13 "_law_gap" = true) (k13 : PySem.W.keepIn K (.ref a13) = true)
    (e14 : PySem.W.nsIn K mainGlobals "_law_ring_gap" = some (some (.ref a14))) (l14 : K.lookup a14 = some ⟨oc14, od14, .func (PySem.W.fnOf "_law_ring_gap" "_law_ring_gap" (defArgs (topS 16)) (defBody (topS 16)) (defScope (topS 16)) .none kV14 dc14 pm14 an14 cd14 ct14), sl14⟩) (c14 : PySem.W.codeIn K cd14 "_law_ring_gap" = true) (k14 : PySem.W.keepIn K (.ref a14) = true)
    (e15 : PySem.W.nsIn K mainGlobals "_law_choices" = some (some (.ref a15))) (l15 : K.lookup a15 = some ⟨oc15, od15, .func (PySem.W.fnOf "_law_choices" "_law_choices" (defArgs (topS 17)) (defBody (topS 17)) (defScope (topS 17)) .none kV15 dc15 pm15 an15 cd15 ct15), sl15⟩) (c15 : PySem.W.codeIn K cd15 "_law_choices" = true) (k15 : PySem.W.keepIn K (.ref a15) = true)
    (e16 : PySem.W.nsIn K mainGlobals "law" = some (some (.ref a16))) (l16 : K.lookup a16 = some ⟨oc16, od16, .func (PySem.W.fnOf "law" "law" (defArgs (topS 18)) (defBody (topS 18)) (defScope (topS 18)) .none kV16 dc16 pm16 an16 cd16 ct16), sl16⟩) (c16 : PySem.W.codeIn K cd16 "law" = true) (k16 : PySem.W.keepIn K (.ref a16) = true)
    (z0 : PySem.W.nsIn K mainGlobals "all" = some none) (z1 : PySem.W.nsIn K mainGlobals "bool" = some none) (z2 : PySem.W.nsIn K mainGlobals "int" = some none) (z3 : PySem.W.nsIn K mainGlobals "isinstance" = some none) (z4 : PySem.W.nsIn K mainGlobals "len" = some none) (z5 : PySem.W.nsIn K mainGlobals "list" = some none) (z6 : PySem.W.nsIn K mainGlobals "max" = some none) (z7 : PySem.W.nsIn K mainGlobals "min" = some none) (z8 : PySem.W.nsIn K mainGlobals "range" = some none) (z9 : PySem.W.nsIn K mainGlobals "str" = some none) (z10 : PySem.W.nsIn K mainGlobals "tuple" = some none) :
    ∃ fd : FuncData, (∀ (s : Shared) (v : Value), BindsTo s fd ⟨[v], []⟩ [("script", v)]) ∧ ∀ base : Heap, K.In base → base.Ns mainGlobals mg → FnOk l.prog w K mg base CX0 100 fa fd ["script"] (spL dfs 100 16 K) := by
  have e := hfa.symm.trans (PySem.W.mg_of X G e16)
  cases e
  have F := fun_mk (st := topS 18) l16 c16 k16
  have hD : ∀ j d, dfs[j]? = some d → ∃ st, DefAt K mg d st ∧ dfB cst st d = true ∧ cst.nm j = d.x := by
    intro j d hj
    match j, hj with
    | 0, hj => cases hj; exact ⟨topS 10, defAt X G (fun _ _ _ _ _ _ us hl => match us, hl with | [_], _ => rfl) e0 l0 c0 k0, ck0, rfl⟩
    | 1, hj => cases hj; exact ⟨topS 11, defAt X G (fun _ _ _ _ _ _ us hl => match us, hl with | [_], _ => rfl) e1 l1 c1 k1, ck1, rfl⟩
    | 2, hj => cases hj; exact ⟨topS 12, defAt X G (fun _ _ _ _ _ _ us hl => match us, hl with | [_, _], _ => rfl) e2 l2 c2 k2, ck2, rfl⟩
    | 3, hj => cases hj; exact ⟨topS 13, defAt X G (fun _ _ _ _ _ _ us hl => match us, hl with | [_, _], _ => rfl) e3 l3 c3 k3, ck3, rfl⟩
    | 4, hj => cases hj; exact ⟨topS 1, defAt X G (fun _ _ _ _ _ _ us hl => match us, hl with | [_, _], _ => rfl) e4 l4 c4 k4, ck4, rfl⟩
    | 5, hj => cases hj; exact ⟨topS 2, defAt X G (fun _ _ _ _ _ _ us hl => match us, hl with | [_, _], _ => rfl) e5 l5 c5 k5, ck5, rfl⟩
    | 6, hj => cases hj; exact ⟨topS 3, defAt X G (fun _ _ _ _ _ _ us hl => match us, hl with | [_, _], _ => rfl) e6 l6 c6 k6, ck6, rfl⟩
    | 7, hj => cases hj; exact ⟨topS 4, defAt X G (fun _ _ _ _ _ _ us hl => match us, hl with | [_, _], _ => rfl) e7 l7 c7 k7, ck7, rfl⟩
    | 8, hj => cases hj; exact ⟨topS 5, defAt X G (fun _ _ _ _ _ _ us hl => match us, hl with | [_, _, _], _ => rfl) e8 l8 c8 k8, ck8, rfl⟩
    | 9, hj => cases hj; exact ⟨topS 6, defAt X G (fun _ _ _ _ _ _ us hl => match us, hl with | [_, _, _], _ => rfl) e9 l9 c9 k9, ck9, rfl⟩
    | 10, hj => cases hj; exact ⟨topS 7, defAt X G (fun _ _ _ _ _ _ us hl => match us, hl with | [_, _, _], _ => rfl) e10 l10 c10 k10, ck10, rfl⟩
    | 11, hj => cases hj; exact ⟨topS 8, defAt X G (fun _ _ _ _ _ _ us hl => match us, hl with | [_, _, _, _], _ => rfl) e11 l11 c11 k11, ck11, rfl⟩
    | 12, hj => cases hj; exact ⟨topS 14, defAt X G (fun _ _ _ _ _ _ us hl => match us, hl with | [_, _], _ => rfl) e12 l12 c12 k12, ck12, rfl⟩
    | 13, hj => cases hj; exact ⟨topS 15, defAt X G (fun _ _ _ _ _ _ us hl => match us, hl with | [_], _ => rfl) e13 l13 c13 k13, ck13, rfl⟩
    | 14, hj => cases hj; exact ⟨topS 16, defAt X G (fun _ _ _ _ _ _ us hl => match us, hl with | [_, _], _ => rfl) e14 l14 c14 k14, ck14, rfl⟩
    | 15, hj => cases hj; exact ⟨topS 17, defAt X G (fun _ _ _ _ _ _ us hl => match us, hl with | [_, _], _ => rfl) e15 l15 c15 k15, ck15, rfl⟩
    | 16, hj => cases hj; exact ⟨topS 18, defAt X G (fun _ _ _ _ _ _ us hl => match us, hl with | [_], _ => rfl) e16 l16 c16 k16, ck16, rfl⟩
    | _ + 17, hj => cases hj
  refine ⟨_, fun s v => .of_eq rfl, fun base _ _ => law_ok hD (blt_none X G z0 z1 z2 z3 z4 z5 z6 z7 z8 z9 z10) ?_ (j := 16) (d := d16) (st := topS 18) rfl F ck16⟩
  intro x d hx
  cases hx
end K15
open PySem PySem.W PyProof.Rows
set_option maxHeartbeats 0 in
theorem PySem.Challenge.cw_bouquetstied_k15_whole_stems_spread_holds : PySem.Challenge.rw_bouquetstied_k15_whole_stems_spread.Holds := by
  w_on; o_law; k_head; (case hw => w_witness2)
  k_fill
  refine L2.walk_of (l := PySem.Challenge.rw_bouquetstied_k15_whole_stems_spread) (n := 63) (k := 100) (x := "script") (CX := fun _ => L2.CX0) (sp := fun w => Z.spL K15.dfs 100 16 _) rfl (by decide) rfl ⟨rfl, by decide, by decide⟩ (fun w h Y => PySem.W.kIn_of Y) ?F (fun _ H a ns hl hO hS => Z.law_sp K15.law_main _ H a ns hl hO hS) (fun _ _ _ _ _ h => h)
  case F =>
    intro w mg fa h KX G hmg
    refine' K15.all_mk KX G hmg ?e0 ?l0 ?c0 ?k0 ?e1 ?l1 ?c1 ?k1 ?e2 ?l2 ?c2 ?k2 ?e3 ?l3 ?c3 ?k3 ?e4 ?l4 ?c4 ?k4 ?e5 ?l5 ?c5 ?k5 ?e6 ?l6 ?c6 ?k6 ?e7 ?l7 ?c7 ?k7 ?e8 ?l8 ?c8 ?k8 ?e9 ?l9 ?c9 ?k9 ?e10 ?l10 ?c10 ?k10 ?e11 ?l11 ?c11 ?k11 ?e12 ?l12 ?c12 ?k12 ?e13 ?l13 ?c13 ?k13 ?e14 ?l14 ?c14 ?k14 ?e15 ?l15 ?c15 ?k15 ?e16 ?l16 ?c16 ?k16 ?z0 ?z1 ?z2 ?z3 ?z4 ?z5 ?z6 ?z7 ?z8 ?z9 ?z10
    (case e0 => k_is); (case l0 => k_is); (case c0 => k_is); (case k0 => k_is); (case e1 => k_is); (case l1 => k_is); (case c1 => k_is); (case k1 => k_is); (case e2 => k_is); (case l2 => k_is); (case c2 => k_is); (case k2 => k_is); (case e3 => k_is); (case l3 => k_is); (case c3 => k_is); (case k3 => k_is); (case e4 => k_is); (case l4 => k_is); (case c4 => k_is); (case k4 => k_is); (case e5 => k_is); (case l5 => k_is); (case c5 => k_is); (case k5 => k_is); (case e6 => k_is); (case l6 => k_is); (case c6 => k_is); (case k6 => k_is); (case e7 => k_is); (case l7 => k_is); (case c7 => k_is); (case k7 => k_is); (case e8 => k_is); (case l8 => k_is); (case c8 => k_is); (case k8 => k_is); (case e9 => k_is); (case l9 => k_is); (case c9 => k_is); (case k9 => k_is); (case e10 => k_is); (case l10 => k_is); (case c10 => k_is); (case k10 => k_is); (case e11 => k_is); (case l11 => k_is); (case c11 => k_is); (case k11 => k_is); (case e12 => k_is); (case l12 => k_is); (case c12 => k_is); (case k12 => k_is); (case e13 => k_is); (case l13 => k_is); (case c13 => k_is); (case k13 => k_is); (case e14 => k_is); (case l14 => k_is); (case c14 => k_is); (case k14 => k_is); (case e15 => k_is); (case l15 => k_is); (case c15 => k_is); (case k15 => k_is); (case e16 => k_is); (case l16 => k_is); (case c16 => k_is); (case k16 => k_is); (case z0 => k_is); (case z1 => k_is); (case z2 => k_is); (case z3 => k_is); (case z4 => k_is); (case z5 => k_is); (case z6 => k_is); (case z7 => k_is); (case z8 => k_is); (case z9 => k_is); (case z10 => k_is)
