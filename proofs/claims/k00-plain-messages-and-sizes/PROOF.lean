import PyProof.Rows.All
import Wide.All
import OpenK.AllK
import Wide.FinOn
import HandS.ForMost
import HandS.ForExc
import HandS.IsInst
import HandS.Wide
import HandS.TupAny
import HandS.TupMul
import HandS.Text
import HandS.Steps
import HandS.Iter
import HandS.Lambda
import HandS.EndBits
import HandS.RaiseMore
import PyProof.StrLawsRepr
import PySem.Challenge.RW_messageways_k00_plain_messages_and_sizes
set_option Elab.async false
set_option linter.all false
set_option maxRecDepth 100000
set_option maxHeartbeats 4000000
namespace DL
open PySem L2

/-! ### data -/
inductive D where
  | non | bl (b : Bool) | int (i : Int) | str (x : Str)
  | lst (xs : List D) | tup (xs : List D) | dct (ks : List Key) (xs : List D)
  | ins (c : Nat) (ns : List Str) (xs : List D) | ptr (i : Nat) | scr (ns : List Int)

/-- what is fixed: the written part, the classes by number -/
structure Cn where
  K : PySem.W.Frag
  cls : Nat → Addr

mutual
def Rep (C : Cn) (ρ : List Addr) (G : Hp) : D → V → Prop
  | .non, v => v = .non
  | .bl b, v => v = .bl b
  | .int i, v => v = .int i
  | .str x, v => v = .str x
  | .lst xs, v => ∃ a vs, v = .ref a ∧ G a = some (.lst vs) ∧ Reps C ρ G xs vs
  | .tup xs, v => ∃ a vs, v = .ref a ∧ SqT C.K G a vs ∧ Reps C ρ G xs vs
  | .dct ks xs, v => ∃ a vs, v = .ref a ∧ G a = some (.dK (ks.zip vs)) ∧ ks.length = xs.length ∧ Reps C ρ G xs vs
  | .ins c ns xs, v => ∃ a dx vs, v = .ref a ∧ G a = some (.ins (C.cls c) dx (ns.zip vs)) ∧ ns.length = xs.length ∧ Reps C ρ G xs vs
  | .ptr i, v => ∃ a, ρ[i]? = some a ∧ v = .ref a
  | .scr ns, v => ∃ a, v = .ref a ∧ SqL C.K G a (ns.map V.int)
def Reps (C : Cn) (ρ : List Addr) (G : Hp) : List D → List V → Prop
  | [], vs => vs = []
  | x :: xs, vs => ∃ v r, vs = v :: r ∧ Rep C ρ G x v ∧ Reps C ρ G xs r
end

section
variable {C : Cn} {ρ ρ' : List Addr} {G G' H H' : Hp}

def Sub (G G' : Hp) : Prop := ∀ a o, G a = some o → G' a = some o
theorem Sub.refl : Sub G G := fun _ _ h => h
theorem Sub.trans {G1 G2 G3 : Hp} (a : Sub G1 G2) (b : Sub G2 G3) : Sub G1 G3 := fun x o h => b x o (a x o h)
theorem Sub.sqT {K : PySem.W.Frag} {a : Addr} {xs : List V} (e : Sub G G') (h : SqT K G a xs) : SqT K G' a xs := by
  rcases h with (h | ⟨o, h⟩) | h
  · exact .inl (.inl (e _ _ h))
  · exact .inl (.inr ⟨o, e _ _ h⟩)
  · exact .inr h
theorem Sub.sqL {K : PySem.W.Frag} {a : Addr} {xs : List V} (e : Sub G G') (h : SqL K G a xs) : SqL K G' a xs := by
  rcases h with (h | ⟨o, h⟩) | h
  · exact .inl (.inl (e _ _ h))
  · exact .inl (.inr ⟨o, e _ _ h⟩)
  · exact .inr h

mutual
theorem Rep.mono (e : Sub G G') (p : ρ <+: ρ') : ∀ (d : D) (v : V), Rep C ρ G d v → Rep C ρ' G' d v
  | .non, _, h => by rw [Rep] at h ⊢; exact h
  | .bl _, _, h => by rw [Rep] at h ⊢; exact h
  | .int _, _, h => by rw [Rep] at h ⊢; exact h
  | .str _, _, h => by rw [Rep] at h ⊢; exact h
  | .lst xs, _, h => by
    rw [Rep] at h ⊢
    obtain ⟨a, vs, rfl, h1, h2⟩ := h
    exact ⟨a, vs, rfl, e _ _ h1, Reps.mono e p xs vs h2⟩
  | .tup xs, _, h => by
    rw [Rep] at h ⊢
    obtain ⟨a, vs, rfl, h1, h2⟩ := h
    exact ⟨a, vs, rfl, e.sqT h1, Reps.mono e p xs vs h2⟩
  | .dct ks xs, _, h => by
    rw [Rep] at h ⊢
    obtain ⟨a, vs, rfl, h1, h3, h2⟩ := h
    exact ⟨a, vs, rfl, e _ _ h1, h3, Reps.mono e p xs vs h2⟩
  | .ins c ns xs, _, h => by
    rw [Rep] at h ⊢
    obtain ⟨a, dx, vs, rfl, h1, h3, h2⟩ := h
    exact ⟨a, dx, vs, rfl, e _ _ h1, h3, Reps.mono e p xs vs h2⟩
  | .ptr i, _, h => by
    rw [Rep] at h ⊢
    obtain ⟨a, h1, rfl⟩ := h
    obtain ⟨t, rfl⟩ := p
    exact ⟨a, by rw [List.getElem?_append_left (List.getElem?_eq_some_iff.mp h1).1]; exact h1, rfl⟩
  | .scr ns, _, h => by
    rw [Rep] at h ⊢
    obtain ⟨a, rfl, h1⟩ := h
    exact ⟨a, rfl, e.sqL h1⟩
theorem Reps.mono (e : Sub G G') (p : ρ <+: ρ') : ∀ (ds : List D) (vs : List V), Reps C ρ G ds vs → Reps C ρ' G' ds vs
  | [], _, h => by rw [Reps] at h ⊢; exact h
  | x :: xs, _, h => by
    rw [Reps] at h ⊢
    obtain ⟨v, r, rfl, h1, h2⟩ := h
    exact ⟨v, r, rfl, Rep.mono e p x v h1, Reps.mono e p xs r h2⟩
end

theorem Reps.nil : Reps C ρ G [] [] := by rw [Reps]
theorem Reps.cons {x : D} {xs : List D} {v : V} {vs : List V} (h : Rep C ρ G x v) (t : Reps C ρ G xs vs) : Reps C ρ G (x :: xs) (v :: vs) := by rw [Reps]; exact ⟨v, vs, rfl, h, t⟩
theorem Reps.inv {x : D} {xs : List D} {vs : List V} (h : Reps C ρ G (x :: xs) vs) : ∃ v r, vs = v :: r ∧ Rep C ρ G x v ∧ Reps C ρ G xs r := by rw [Reps] at h; exact h
theorem Reps.inv0 {vs : List V} (h : Reps C ρ G [] vs) : vs = [] := by rw [Reps] at h; exact h
theorem Reps.length : ∀ {ds : List D} {vs : List V}, Reps C ρ G ds vs → ds.length = vs.length
  | [], _, h => by rw [h.inv0]; rfl
  | x :: xs, _, h => by
    obtain ⟨v, r, rfl, _, h2⟩ := h.inv
    rw [List.length_cons, List.length_cons, Reps.length h2]
theorem Reps.get : ∀ {ds : List D} {vs : List V} {i : Nat} {d : D}, Reps C ρ G ds vs → ds[i]? = some d → ∃ v, vs[i]? = some v ∧ Rep C ρ G d v
  | [], _, _, _, _, e => by simp at e
  | x :: xs, _, 0, d, h, e => by
    obtain ⟨v, r, rfl, h1, h2⟩ := h.inv
    simp at e; subst e
    exact ⟨v, rfl, h1⟩
  | x :: xs, _, i + 1, d, h, e => by
    obtain ⟨v, r, rfl, h1, h2⟩ := h.inv
    simpa using Reps.get (i := i) h2 (by simpa using e)
theorem Reps.get' : ∀ {ds : List D} {vs : List V} {i : Nat} {v : V}, Reps C ρ G ds vs → vs[i]? = some v → ∃ d, ds[i]? = some d ∧ Rep C ρ G d v
  | [], _, _, _, h, e => by rw [h.inv0] at e; simp at e
  | x :: xs, _, 0, d, h, e => by
    obtain ⟨v, r, rfl, h1, h2⟩ := h.inv
    simp at e; subst e
    exact ⟨x, rfl, h1⟩
  | x :: xs, _, i + 1, d, h, e => by
    obtain ⟨v, r, rfl, h1, h2⟩ := h.inv
    simpa using Reps.get' (i := i) h2 (by simpa using e)
theorem Reps.append : ∀ {ds es : List D} {vs ws : List V}, Reps C ρ G ds vs → Reps C ρ G es ws → Reps C ρ G (ds ++ es) (vs ++ ws)
  | [], _, _, _, h, k => by rw [h.inv0]; exact k
  | x :: xs, _, _, _, h, k => by
    obtain ⟨v, r, rfl, h1, h2⟩ := h.inv
    exact .cons h1 (Reps.append h2 k)
theorem Reps.take : ∀ {ds : List D} {vs : List V} (n : Nat), Reps C ρ G ds vs → Reps C ρ G (ds.take n) (vs.take n)
  | _, _, 0, _ => by simpa using Reps.nil
  | [], _, n + 1, h => by rw [h.inv0]; exact Reps.nil
  | x :: xs, _, n + 1, h => by
    obtain ⟨v, r, rfl, h1, h2⟩ := h.inv
    exact .cons h1 (Reps.take n h2)
theorem Reps.drop : ∀ {ds : List D} {vs : List V} (n : Nat), Reps C ρ G ds vs → Reps C ρ G (ds.drop n) (vs.drop n)
  | _, _, 0, h => h
  | [], _, n + 1, h => by rw [h.inv0]; exact Reps.nil
  | x :: xs, _, n + 1, h => by
    obtain ⟨v, r, rfl, h1, h2⟩ := h.inv
    exact Reps.drop n h2
theorem Reps.set {d : D} {v : V} (k : Rep C ρ G d v) : ∀ {ds : List D} {vs : List V} (n : Nat), Reps C ρ G ds vs → Reps C ρ G (ds.set n d) (vs.set n v)
  | [], _, n, h => by rw [h.inv0]; exact Reps.nil
  | x :: xs, _, 0, h => by
    obtain ⟨v, r, rfl, h1, h2⟩ := h.inv
    exact .cons k h2
  | x :: xs, _, n + 1, h => by
    obtain ⟨v, r, rfl, h1, h2⟩ := h.inv
    exact .cons h1 (Reps.set k n h2)
theorem Reps.reverse : ∀ {ds : List D} {vs : List V}, Reps C ρ G ds vs → Reps C ρ G ds.reverse vs.reverse
  | [], _, h => by rw [h.inv0]; exact Reps.nil
  | x :: xs, _, h => by
    obtain ⟨v, r, rfl, h1, h2⟩ := h.inv
    rw [List.reverse_cons, List.reverse_cons]
    exact (Reps.reverse h2).append (.cons h1 .nil)
theorem Reps.rep {ds : List D} {vs : List V} (h : Reps C ρ G ds vs) : ∀ k : Nat, Reps C ρ G (List.replicate k ds).flatten (List.replicate k vs).flatten
  | 0 => .nil
  | k + 1 => by
    rw [List.replicate_succ, List.replicate_succ, List.flatten_cons, List.flatten_cons]
    exact h.append (Reps.rep h k)
theorem Reps.dropLast {ds : List D} {vs : List V} (h : Reps C ρ G ds vs) : Reps C ρ G ds.dropLast vs.dropLast := by
  rw [List.dropLast_eq_take, List.dropLast_eq_take, h.length]; exact h.take _

/-! ### what stands at an address that may change -/
def ObAt (C : Cn) (ρ : List Addr) (G H : Hp) (a : Addr) : D → Prop
  | .lst xs => ∃ vs, H a = some (.lst vs) ∧ Reps C ρ G xs vs
  | .dct ks xs => ∃ vs, H a = some (.dK (ks.zip vs)) ∧ ks.length = xs.length ∧ Reps C ρ G xs vs
  | .ins c ns xs => ∃ dx vs, H a = some (.ins (C.cls c) dx (ns.zip vs)) ∧ ns.length = xs.length ∧ Reps C ρ G xs vs
  | _ => False
theorem ObAt.mono {a : Addr} (e : Sub G G') (p : ρ <+: ρ') (k : ∀ o, H a = some o → H' a = some o) : ∀ {d : D}, ObAt C ρ G H a d → ObAt C ρ' G' H' a d
  | .lst xs, ⟨vs, h, r⟩ => ⟨vs, k _ h, Reps.mono e p _ _ r⟩
  | .dct ks xs, ⟨vs, h, l, r⟩ => ⟨vs, k _ h, l, Reps.mono e p _ _ r⟩
  | .ins c ns xs, ⟨dx, vs, h, l, r⟩ => ⟨dx, vs, k _ h, l, Reps.mono e p _ _ r⟩
theorem ObAt.some {a : Addr} : ∀ {d : D}, ObAt C ρ G H a d → ∃ o, H a = some o
  | .lst xs, ⟨vs, h, _⟩ => ⟨_, h⟩
  | .dct ks xs, ⟨vs, h, _⟩ => ⟨_, h⟩
  | .ins c ns xs, ⟨dx, vs, h, _⟩ => ⟨_, h⟩
/-- an object that changes no more -/
theorem ObAt.rep {a : Addr} : ∀ {d : D}, ObAt C ρ G G a d → Rep C ρ G d (V.ref a)
  | .lst xs, ⟨vs, h, r⟩ => by rw [Rep]; exact ⟨a, vs, rfl, h, r⟩
  | .dct ks xs, ⟨vs, h, l, r⟩ => by rw [Rep]; exact ⟨a, vs, rfl, h, l, r⟩
  | .ins c ns xs, ⟨dx, vs, h, l, r⟩ => by rw [Rep]; exact ⟨a, dx, vs, rfl, h, l, r⟩

/-! ### the slots -/
inductive Sl where
  | non | val (d : D) | own (d : D)

structure Mem (C : Cn) (Γ : List Sl) (S : List D) (ρ : List Addr) (G H : Hp) (σ : L2.St) : Prop where
  sub : Sub G H
  val : ∀ (i : Nat) (d : D), Γ[i]? = some (Sl.val d) → ∃ v, σ[i]? = some (some v) ∧ Rep C ρ G d v
  own : ∀ (i : Nat) (d : D), Γ[i]? = some (Sl.own d) → ∃ a, σ[i]? = some (some (V.ref a)) ∧ ObAt C ρ G H a d ∧ G a = none ∧ a ∉ ρ
  inj : ∀ (i j : Nat) (d d' : D) (a : Addr), Γ[i]? = some (Sl.own d) → Γ[j]? = some (Sl.own d') → σ[i]? = some (some (V.ref a)) → σ[j]? = some (some (V.ref a)) → i = j
  sto : ∀ (i : Nat) (d : D), S[i]? = some d → ∃ a, ρ[i]? = some a ∧ ObAt C ρ G H a d
  stG : ∀ a ∈ ρ, G a = none
  len : ρ.length = S.length
  nd : ρ.Nodup
  wid : Γ.length = σ.length

/-- what an expression does to the memory -/
structure Nx (ρ : List Addr) (G H : Hp) (ρ' : List Addr) (G' H' : Hp) : Prop where
  pre : ρ <+: ρ'
  ext : Sub G G'
  new : ∀ a o, G' a = some o → G a = some o ∨ H a = none
  keep : ∀ a o, H a = some o → a ∉ ρ → H' a = some o
  live : ∀ a, H' a = none → H a = none
  fre : ∀ a ∈ ρ', a ∈ ρ ∨ H a = none
theorem Nx.refl : Nx ρ G H ρ G H := ⟨List.prefix_refl _, .refl, fun _ _ h => .inl h, fun _ _ h _ => h, fun _ h => h, fun _ h => .inl h⟩
theorem Nx.trans {ρ1 ρ2 ρ3 : List Addr} {G1 G2 G3 H1 H2 H3 : Hp} (x : Nx ρ1 G1 H1 ρ2 G2 H2) (y : Nx ρ2 G2 H2 ρ3 G3 H3) : Nx ρ1 G1 H1 ρ3 G3 H3 where
  pre := x.pre.trans y.pre
  ext := x.ext.trans y.ext
  new := fun a o h => by
    rcases y.new a o h with h | h
    · exact x.new a o h
    · exact .inr (x.live a h)
  keep := fun a o h n => by
    refine y.keep a o (x.keep a o h n) fun m => ?_
    rcases x.fre a m with z | z
    · exact n z
    · rw [h] at z; cases z
  live := fun a h => x.live a (y.live a h)
  fre := fun a m => by
    rcases y.fre a m with z | z
    · exact x.fre a z
    · exact .inr (x.live a z)

/-- the memory alone (a callee's) -/
abbrev MemS (C : Cn) (S : List D) (ρ : List Addr) (G H : Hp) : Prop := Mem C [] S ρ G H []
theorem Mem.toS {Γ : List Sl} {S : List D} {σ : L2.St} (m : Mem C Γ S ρ G H σ) : MemS C S ρ G H :=
  ⟨m.sub, fun i d h => by simp at h, fun i d h => by simp at h, fun i j d d' a h => by simp at h, m.sto, m.stG, m.len, m.nd, rfl⟩
/-- behind a step that knows nothing of the slots -/
theorem Mem.step {Γ : List Sl} {S S' : List D} {σ : L2.St} (m : Mem C Γ S ρ G H σ) (n : Nx ρ G H ρ' G' H') (m' : MemS C S' ρ' G' H') : Mem C Γ S' ρ' G' H' σ where
  sub := m'.sub
  val := fun i d h => by
    obtain ⟨v, e, r⟩ := m.val i d h
    exact ⟨v, e, r.mono n.ext n.pre⟩
  own := fun i d h => by
    obtain ⟨a, e, r, g, p⟩ := m.own i d h
    obtain ⟨o, ho⟩ := r.some
    refine ⟨a, e, r.mono n.ext n.pre fun o q => n.keep a o q p, ?_, fun z => ?_⟩
    · cases q : G' a with
      | none => rfl
      | some o' =>
        rcases n.new a o' q with z | z
        · rw [g] at z; cases z
        · rw [ho] at z; cases z
    · rcases n.fre a z with z | z
      · exact p z
      · rw [ho] at z; cases z
  inj := m.inj
  sto := m'.sto
  stG := m'.stG
  len := m'.len
  nd := m'.nd
  wid := m.wid

/-! ### results -/
structure Exn where
  c : Nat
  fs : List D
inductive Res (α : Type) where
  | ok (a : α) (S : List D)
  | exc (e : Exn) (S : List D)
  | stuck
def Res.bind {α β : Type} (r : Res α) (f : α → List D → Res β) : Res β := match r with
  | .ok a S => f a S
  | .exc e S => .exc e S
  | .stuck => .stuck
@[simp] theorem Res.bind_ok {α β : Type} (a : α) (S : List D) (f : α → List D → Res β) : (Res.ok a S).bind f = f a S := Eq.trans rfl rfl
@[simp] theorem Res.bind_exc {α β : Type} (e : Exn) (S : List D) (f : α → List D → Res β) : (Res.exc e S : Res α).bind f = .exc e S := Eq.trans rfl rfl
@[simp] theorem Res.bind_stuck {α β : Type} (f : α → List D → Res β) : (Res.stuck : Res α).bind f = .stuck := Eq.trans rfl rfl

abbrev De := List Sl → List D → Res D
abbrev Da := List Sl → List D → Res (List D)
abbrev Dt := List Sl → List D → Res Bool
inductive Out where
  | next (Γ : List Sl) (S : List D) | ret (d : D) (S : List D) | brk (Γ : List Sl) (S : List D) | cont (Γ : List Sl) (S : List D) | exc (e : Exn) (Γ : List Sl) (S : List D) | stuck
abbrev Ds := List Sl → List D → Out

/-- an exception as it lies -/
def ExRep (C : Cn) (ρ : List Addr) (G H : Hp) (e : Exn) (cls : Value) (dx : Option Addr) : Prop :=
  cls = .ref (C.cls e.c) ∧ (e.fs ≠ [] → ∃ d ws, dx = some d ∧ H d = some (.xd ws) ∧ Reps C ρ G e.fs (ws.map (·.2)))

/-- what is wanted behind an evaluation (RV: how the value lies) -/
abbrev RVT (α β : Type) := Hp → List Addr → Hp → Hp → α → β → Prop
def Post (C : Cn) (W : WX) {α β : Type} (RV : RVT α β) (Γ : List Sl) (ρ : List Addr) (G H : Hp) (σ : L2.St) (r : Res α) (Q : β → Hp → Prop) : Prop := match r with
  | .ok d S' => ∀ v ρ' G' H', Mem C Γ S' ρ' G' H' σ → Nx ρ G H ρ' G' H' → RV H ρ' G' H' d v → Q v H'
  | .exc e S' => ∀ cls dx ρ' G' H', Mem C Γ S' ρ' G' H' σ → Nx ρ G H ρ' G' H' → ExRep C ρ' G' H' e cls dx → W cls dx σ H'
  | .stuck => False
/-- settled -/
def RS (C : Cn) : RVT D V := fun _ ρ G _ d v => Rep C ρ G d v
/-- readable: settled, or an object of a slot's own -/
def RO (C : Cn) : RVT D V := fun _ ρ G H d v => Rep C ρ G d v ∨ ∃ a, v = V.ref a ∧ a ∉ ρ ∧ ObAt C ρ G H a d
/-- new -/
def RF (C : Cn) : RVT D V := fun H0 ρ G H d v => ∃ a, v = V.ref a ∧ a ∉ ρ ∧ H0 a = none ∧ G a = none ∧ ObAt C ρ G H a d
def RB : RVT Bool Bool := fun _ _ _ _ b c => b = c
def RA (C : Cn) : RVT (List D) (List V) := fun _ ρ G _ ds vs => Reps C ρ G ds vs
/-- the start may lie further back -/
def Back {α β : Type} (RV : RVT α β) : Prop := ∀ (H0 H1 : Hp) ρ G H d v, (∀ a, H1 a = none → H0 a = none) → RV H1 ρ G H d v → RV H0 ρ G H d v
theorem back_RS : Back (RS C) := fun _ _ _ _ _ _ _ _ h => h
theorem back_RO : Back (RO C) := fun _ _ _ _ _ _ _ _ h => h
theorem back_RF : Back (RF C) := fun _ _ _ _ _ _ _ k ⟨a, e, n, z, r⟩ => ⟨a, e, n, k a z, r⟩
theorem back_RB : Back RB := fun _ _ _ _ _ _ _ _ h => h
theorem back_RA : Back (RA C) := fun _ _ _ _ _ _ _ _ h => h

section
variable {W : WX} {α β γ δ : Type} {RV : RVT α β} {RV2 : RVT γ δ} {Γ : List Sl} {S : List D} {σ : L2.St}
theorem Post.mono {r : Res α} {Q Q' : β → Hp → Prop} (h : Post C W RV Γ ρ G H σ r Q) (q : ∀ v H', Q v H' → Q' v H') : Post C W RV Γ ρ G H σ r Q' := by
  cases r with
  | ok d S => exact fun v ρ' G' H' a b c => q _ _ (h v ρ' G' H' a b c)
  | exc e S => exact h
  | stuck => exact h
theorem Post.conv {RV' : RVT α β} {r : Res α} {Q : β → Hp → Prop} (h : Post C W RV' Γ ρ G H σ r Q) (c : ∀ ρ' G' H' d v, RV H ρ' G' H' d v → RV' H ρ' G' H' d v) : Post C W RV Γ ρ G H σ r Q := by
  cases r with
  | ok d S => exact fun v ρ' G' H' a b z => h v ρ' G' H' a b (c _ _ _ _ _ z)
  | exc e S => exact h
  | stuck => exact h
theorem Post.shift (bk : Back RV) {r : Res α} {Q : β → Hp → Prop} (h : Post C W RV Γ ρ G H σ r Q) {ρ1 : List Addr} {G1 H1 : Hp} (n : Nx ρ G H ρ1 G1 H1) : Post C W RV Γ ρ1 G1 H1 σ r Q := by
  cases r with
  | ok d S => exact fun v ρ' G' H' a b c => h v ρ' G' H' a (n.trans b) (bk _ _ _ _ _ _ _ n.live c)
  | exc e S => exact fun cls dx ρ' G' H' a b c => h cls dx ρ' G' H' a (n.trans b) c
  | stuck => exact h
/-- one evaluation ahead of another -/
theorem Post.seq (bk : Back RV2) {r : Res α} {f : α → List D → Res γ} {Q : δ → Hp → Prop} (h : Post C W RV2 Γ ρ G H σ (r.bind f) Q) :
    Post C W RV Γ ρ G H σ r (fun v H1 => ∃ d S1 ρ1 G1, Mem C Γ S1 ρ1 G1 H1 σ ∧ Nx ρ G H ρ1 G1 H1 ∧ RV H ρ1 G1 H1 d v ∧ Post C W RV2 Γ ρ1 G1 H1 σ (f d S1) Q) := by
  cases r with
  | ok d S => exact fun v ρ1 G1 H1 m n c => ⟨d, S, ρ1, G1, m, n, c, Post.shift bk h n⟩
  | exc e S => exact h
  | stuck => exact h
/-- an evaluation's end -/
theorem Post.here {d : α} {v : β} {Q : β → Hp → Prop} (h : Post C W RV Γ ρ G H σ (.ok d S) Q) {ρ' : List Addr} {G' H' : Hp} (m : Mem C Γ S ρ' G' H' σ) (n : Nx ρ G H ρ' G' H') (c : RV H ρ' G' H' d v) : Q v H' := h v ρ' G' H' m n c
theorem Post.at {d : α} {v : β} {Q : β → Hp → Prop} (h : Post C W RV Γ ρ G H σ (.ok d S) Q) (m : Mem C Γ S ρ G H σ) (c : RV H ρ G H d v) : Q v H := h v ρ G H m .refl c
end

/-! ### an expression by what it evaluates to -/
def tE (C : Cn) (W : WX) (RV : RVT D V) (δ : De) : TE := fun σ H Q => ∃ Γ S ρ G, Mem C Γ S ρ G H σ ∧ Post C W RV Γ ρ G H σ (δ Γ S) Q
def tT (C : Cn) (W : WX) (δ : Dt) : TT := fun σ H Q => ∃ Γ S ρ G, Mem C Γ S ρ G H σ ∧ Post C W RB Γ ρ G H σ (δ Γ S) Q
def tA (C : Cn) (W : WX) (δ : Da) : TA := fun σ H Q => ∃ Γ S ρ G, Mem C Γ S ρ G H σ ∧ Post C W (RA C) Γ ρ G H σ (δ Γ S) Q
def DE (X : Cx) (cls : Nat → Addr) (W : WX) (e : Expr) (δ : De) : Prop := PE X e (tE ⟨X.K, cls⟩ W (RS ⟨X.K, cls⟩) δ)
def DO (X : Cx) (cls : Nat → Addr) (W : WX) (e : Expr) (δ : De) : Prop := PE X e (tE ⟨X.K, cls⟩ W (RO ⟨X.K, cls⟩) δ)
def DF (X : Cx) (cls : Nat → Addr) (W : WX) (e : Expr) (δ : De) : Prop := PE X e (tE ⟨X.K, cls⟩ W (RF ⟨X.K, cls⟩) δ)
def DT (X : Cx) (cls : Nat → Addr) (W : WX) (e : Expr) (δ : Dt) : Prop := PT X e (tT ⟨X.K, cls⟩ W δ)
def DW (X : Cx) (cls : Nat → Addr) (W : WX) (e : Expr) (δ : Dt) : Prop := PW X e (tT ⟨X.K, cls⟩ W δ)
def DA (X : Cx) (cls : Nat → Addr) (W : WX) (es : List Expr) (δ : Da) : Prop := PA X es (tA ⟨X.K, cls⟩ W δ)

theorem PE.weak {X : Cx} {e : Expr} {t t' : TE} (h : PE X e t) (i : ∀ σ H Q, t' σ H Q → t σ H Q) : PE X e t' := ⟨fun pins s σ H Q I h' => h.run pins s σ H Q I (i σ H Q h')⟩
theorem PT.weak {X : Cx} {e : Expr} {t t' : TT} (h : PT X e t) (i : ∀ σ H Q, t' σ H Q → t σ H Q) : PT X e t' := ⟨fun pins s σ H Q I h' => h.run pins s σ H Q I (i σ H Q h')⟩
theorem PW.weak {X : Cx} {e : Expr} {t t' : TT} (h : PW X e t) (i : ∀ σ H Q, t' σ H Q → t σ H Q) : PW X e t' := ⟨fun w pins s σ H Q I h' => h.run w pins s σ H Q I (i σ H Q h')⟩
theorem PA.weak {X : Cx} {e : List Expr} {t t' : TA} (h : PA X e t) (i : ∀ σ H Q, t' σ H Q → t σ H Q) : PA X e t' := ⟨fun p pins s σ H Q I h' => h.run p pins s σ H Q I (i σ H Q h')⟩
theorem PS.weak {X : Cx} {e : Stmt} {t t' : TS} (h : PS X e t) (i : ∀ D σ H, t' D σ H → t D σ H) : PS X e t' := ⟨fun pins s σ H D I h' => h.run pins s σ H D I (i D σ H h')⟩
theorem PSs.weak {X : Cx} {e : List Stmt} {t t' : TS} (h : PSs X e t) (i : ∀ D σ H, t' D σ H → t D σ H) : PSs X e t' := ⟨fun pins s σ H D I h' => h.run pins s σ H D I (i D σ H h')⟩

/-! ### reading -/
def deref (S : List D) : D → D
  | .ptr k => match S[k]? with | some d => d | none => .ptr k
  | d => d
/-- how a value reads at the heap -/
def RT (C : Cn) (ρ : List Addr) (G H : Hp) (d : D) (v : V) : Prop := match d with
  | .lst xs => ∃ a vs, v = V.ref a ∧ H a = some (.lst vs) ∧ Reps C ρ G xs vs
  | .dct ks xs => ∃ a vs, v = V.ref a ∧ H a = some (.dK (ks.zip vs)) ∧ ks.length = xs.length ∧ Reps C ρ G xs vs
  | .ins c ns xs => ∃ a dx vs, v = V.ref a ∧ H a = some (.ins (C.cls c) dx (ns.zip vs)) ∧ ns.length = xs.length ∧ Reps C ρ G xs vs
  | d => Rep C ρ G d v
theorem ObAt.rt {a : Addr} : ∀ {d : D}, ObAt C ρ G H a d → RT C ρ G H d (V.ref a)
  | .lst xs, ⟨vs, h, r⟩ => ⟨a, vs, rfl, h, r⟩
  | .dct ks xs, ⟨vs, h, l, r⟩ => ⟨a, vs, rfl, h, l, r⟩
  | .ins c ns xs, ⟨dx, vs, h, l, r⟩ => ⟨a, dx, vs, rfl, h, l, r⟩
theorem Rep.rt (e : Sub G H) : ∀ {d : D} {v : V}, Rep C ρ G d v → RT C ρ G H d v
  | .non, _, h => h
  | .bl _, _, h => h
  | .int _, _, h => h
  | .str _, _, h => h
  | .tup _, _, h => h
  | .ptr _, _, h => h
  | .scr _, _, h => h
  | .lst xs, _, h => by
    rw [Rep] at h
    obtain ⟨a, vs, rfl, h1, h2⟩ := h
    exact ⟨a, vs, rfl, e _ _ h1, h2⟩
  | .dct ks xs, _, h => by
    rw [Rep] at h
    obtain ⟨a, vs, rfl, h1, l, h2⟩ := h
    exact ⟨a, vs, rfl, e _ _ h1, l, h2⟩
  | .ins c ns xs, _, h => by
    rw [Rep] at h
    obtain ⟨a, dx, vs, rfl, h1, l, h2⟩ := h
    exact ⟨a, dx, vs, rfl, e _ _ h1, l, h2⟩
theorem Mem.read {Γ : List Sl} {S : List D} {σ : L2.St} {H0 : Hp} {d : D} {v : V} (m : Mem C Γ S ρ G H σ) (r : RO C H0 ρ G H d v) : RT C ρ G H (deref S d) v := by
  rcases r with r | ⟨a, rfl, n, r⟩
  · cases d with
    | ptr k =>
      unfold deref
      rw [Rep] at r
      obtain ⟨a, h1, rfl⟩ := r
      have hk : k < S.length := by rw [← m.len]; exact (List.getElem?_eq_some_iff.mp h1).1
      obtain ⟨b, hb, r⟩ := m.sto k S[k] (List.getElem?_eq_getElem hk)
      rw [h1] at hb; cases hb
      show RT C ρ G H (match S[k]? with | some d => d | none => D.ptr k) (V.ref a)
      rw [List.getElem?_eq_getElem hk]
      exact r.rt
    | _ => exact r.rt m.sub
  · cases d with
    | lst _ => exact r.rt
    | dct _ _ => exact r.rt
    | ins _ _ _ => exact r.rt
    | _ => exact (show False from r).elim
/-- readable still, behind a step -/
theorem RO.step {H0 H1 : Hp} {d : D} {v : V} (n : Nx ρ G H ρ' G' H') (r : RO C H0 ρ G H d v) : RO C H1 ρ' G' H' d v := by
  rcases r with r | ⟨a, rfl, na, r⟩
  · exact .inl (r.mono n.ext n.pre)
  · obtain ⟨o, ho⟩ := r.some
    refine .inr ⟨a, rfl, fun z => ?_, r.mono n.ext n.pre fun o q => n.keep a o q na⟩
    rcases n.fre a z with z | z
    · exact na z
    · rw [ho] at z; cases z

section
variable {v : V}
theorem rep_non : Rep C ρ G .non v ↔ v = .non := by rw [Rep]
theorem rep_bl {b : Bool} : Rep C ρ G (.bl b) v ↔ v = .bl b := by rw [Rep]
theorem rep_int {b : Int} : Rep C ρ G (.int b) v ↔ v = .int b := by rw [Rep]
theorem rep_str {b : Str} : Rep C ρ G (.str b) v ↔ v = .str b := by rw [Rep]
theorem rep_tup {xs : List D} : Rep C ρ G (.tup xs) v ↔ ∃ a vs, v = V.ref a ∧ SqT C.K G a vs ∧ Reps C ρ G xs vs := by rw [Rep]
theorem rep_lst {xs : List D} : Rep C ρ G (.lst xs) v ↔ ∃ a vs, v = V.ref a ∧ G a = some (.lst vs) ∧ Reps C ρ G xs vs := by rw [Rep]
theorem rep_ptr {i : Nat} : Rep C ρ G (.ptr i) v ↔ ∃ a, ρ[i]? = some a ∧ v = V.ref a := by rw [Rep]
theorem rep_scr {ns : List Int} : Rep C ρ G (.scr ns) v ↔ ∃ a, v = V.ref a ∧ SqL C.K G a (ns.map V.int) := by rw [Rep]
theorem rt_non : RT C ρ G H .non v ↔ v = .non := rep_non (C := C) (ρ := ρ) (G := G)
theorem rt_bl {b : Bool} : RT C ρ G H (.bl b) v ↔ v = .bl b := rep_bl (C := C) (ρ := ρ) (G := G)
theorem rt_int {b : Int} : RT C ρ G H (.int b) v ↔ v = .int b := rep_int (C := C) (ρ := ρ) (G := G)
theorem rt_str {b : Str} : RT C ρ G H (.str b) v ↔ v = .str b := rep_str (C := C) (ρ := ρ) (G := G)
theorem rt_tup {xs : List D} : RT C ρ G H (.tup xs) v ↔ ∃ a vs, v = V.ref a ∧ SqT C.K G a vs ∧ Reps C ρ G xs vs := rep_tup (C := C) (ρ := ρ) (G := G)
theorem rt_ptr {i : Nat} : RT C ρ G H (.ptr i) v ↔ ∃ a, ρ[i]? = some a ∧ v = V.ref a := rep_ptr (C := C) (ρ := ρ) (G := G)
theorem rt_scr {ns : List Int} : RT C ρ G H (.scr ns) v ↔ ∃ a, v = V.ref a ∧ SqL C.K G a (ns.map V.int) := rep_scr (C := C) (ρ := ρ) (G := G)
end
/-! ### a new object -/
theorem Mem.new {Γ : List Sl} {S : List D} {σ : L2.St} {p : Addr} {o : HO} (m : Mem C Γ S ρ G H σ) (hp : H p = none) : Mem C Γ S ρ G (upd H p o) σ ∧ Nx ρ G H ρ G (upd H p o) ∧ p ∉ ρ ∧ G p = none := by
  have gp : G p = none := by
    cases q : G p with
    | none => rfl
    | some u => rw [m.sub _ _ q] at hp; cases hp
  have k : Sub H (upd H p o) := fun a u h => by rw [upd_ne (ne_of_none h hp)]; exact h
  have np : p ∉ ρ := fun z => by
    obtain ⟨i, hi⟩ := List.mem_iff_getElem?.mp z
    have hi2 : i < S.length := by rw [← m.len]; exact (List.getElem?_eq_some_iff.mp hi).1
    obtain ⟨a, ha, r⟩ := m.sto i S[i] (List.getElem?_eq_getElem hi2)
    rw [hi] at ha; cases ha
    obtain ⟨o, ho⟩ := r.some
    rw [ho] at hp; cases hp
  have n : Nx ρ G H ρ G (upd H p o) := ⟨List.prefix_refl _, .refl, fun _ _ h => .inl h, fun a u h _ => k a u h, fun a h => by
    by_cases e : a = p
    · subst e; exact hp
    · rw [upd_ne e] at h; exact h, fun _ h => .inl h⟩
  exact ⟨⟨m.sub.trans k, m.val, fun i d h => by
    obtain ⟨a, e, r, g, q⟩ := m.own i d h
    exact ⟨a, e, r.mono .refl (List.prefix_refl _) fun o h => k _ _ h, g, q⟩, m.inj, fun i d h => by
    obtain ⟨a, e, r⟩ := m.sto i d h
    exact ⟨a, e, r.mono .refl (List.prefix_refl _) fun o h => k _ _ h⟩, m.stG, m.len, m.nd, m.wid⟩, n, np, gp⟩
/-- what is new is settled -/
theorem Mem.settle {Γ : List Sl} {S S' : List D} {σ : L2.St} {p : Addr} {o : HO} {ρ0 : List Addr} {G0 H0 : Hp} (m0 : Mem C Γ S ρ0 G0 H0 σ) (n : Nx ρ0 G0 H0 ρ G H) (m : Mem C Γ S' ρ G H σ) (h0 : H0 p = none) (hg : G p = none) (hp : p ∉ ρ) (ho : H p = some o) :
    Mem C Γ S' ρ (upd G p o) H σ ∧ Nx ρ0 G0 H0 ρ (upd G p o) H ∧ Sub G (upd G p o) := by
  have k : Sub G (upd G p o) := fun a u h => by rw [upd_ne (ne_of_none h hg)]; exact h
  refine ⟨⟨fun a u h => ?_, fun i d h => ?_, fun i d h => ?_, m.inj, fun i d h => ?_, fun a h => ?_, m.len, m.nd, m.wid⟩, ⟨n.pre, n.ext.trans k, fun a u h => ?_, n.keep, n.live, n.fre⟩, k⟩
  · by_cases e : a = p
    · subst e; rw [upd_same] at h; cases h; exact ho
    · rw [upd_ne e] at h; exact m.sub _ _ h
  · obtain ⟨v, e, r⟩ := m.val i d h
    exact ⟨v, e, r.mono k (List.prefix_refl _)⟩
  · obtain ⟨a, e, r, g, q⟩ := m.own i d h
    obtain ⟨a0, e0, r0, _, _⟩ := m0.own i d h
    rw [e] at e0; cases e0
    obtain ⟨u, hu⟩ := r0.some
    have ne : a ≠ p := fun z => by rw [z, h0] at hu; cases hu
    exact ⟨a, e, r.mono k (List.prefix_refl _) fun _ h => h, by rw [upd_ne ne]; exact g, q⟩
  · obtain ⟨a, e, r⟩ := m.sto i d h
    exact ⟨a, e, r.mono k (List.prefix_refl _) fun _ h => h⟩
  · rw [upd_ne (fun z => hp (by rw [← z]; exact h))]; exact m.stG a h
  · by_cases e : a = p
    · subst e; exact .inr h0
    · rw [upd_ne e] at h; exact n.new a u h
theorem RF.settle {Γ : List Sl} {S S' : List D} {σ : L2.St} {ρ0 : List Addr} {G0 H0 : Hp} {d : D} {v : V} (m0 : Mem C Γ S ρ0 G0 H0 σ) (n : Nx ρ0 G0 H0 ρ G H) (m : Mem C Γ S' ρ G H σ) (r : RF C H0 ρ G H d v) :
    ∃ G', Mem C Γ S' ρ G' H σ ∧ Nx ρ0 G0 H0 ρ G' H ∧ Rep C ρ G' d v := by
  obtain ⟨a, rfl, na, h0, hg, r⟩ := r
  obtain ⟨o, ho⟩ := r.some
  obtain ⟨m', n', k⟩ := Mem.settle m0 n m h0 hg na ho
  refine ⟨_, m', n', ObAt.rep ?_⟩
  refine r.mono k (List.prefix_refl _) fun u hu => ?_
  rw [ho] at hu; cases hu
  exact upd_same
end
end DL

namespace DL
open PySem L2

/-! ### operations on data -/
mutual
def toPy : D → Option PyData
  | .non => some .none
  | .bl b => some (.bool b)
  | .int i => some (.int i)
  | .str x => some (.str x)
  | .lst xs => (toPys xs).map .list
  | .tup xs => (toPys xs).map .tuple
  | .dct _ _ => none
  | .ins _ _ _ => none
  | .ptr _ => none
  | .scr _ => none
def toPys : List D → Option (List PyData)
  | [] => some []
  | x :: xs => (toPy x).bind fun p => (toPys xs).map fun q => p :: q
end
section
variable {C : Cn} {ρ : List Addr} {G H : Hp}
mutual
theorem dp_of (e : Sub G H) : ∀ (d : D) (v : V) (p : PyData), Rep C ρ G d v → toPy d = some p → Dp C.K H v p
  | .non, _, _, h, k => by rw [Rep] at h; rw [toPy] at k; cases k; subst h; exact .non
  | .bl _, _, _, h, k => by rw [Rep] at h; rw [toPy] at k; cases k; subst h; exact .bl _
  | .int _, _, _, h, k => by rw [Rep] at h; rw [toPy] at k; cases k; subst h; exact .int _
  | .str _, _, _, h, k => by rw [Rep] at h; rw [toPy] at k; cases k; subst h; exact .str _
  | .lst xs, _, p, h, k => by
    rw [Rep] at h
    obtain ⟨a, vs, rfl, h1, h2⟩ := h
    rw [toPy] at k
    cases q : toPys xs with
    | none => rw [q] at k; cases k
    | some ps =>
      rw [q] at k; cases k
      exact .lst (SqL.of (e _ _ h1)) (dps_of e xs vs ps h2 q)
  | .tup xs, _, p, h, k => by
    rw [Rep] at h
    obtain ⟨a, vs, rfl, h1, h2⟩ := h
    rw [toPy] at k
    cases q : toPys xs with
    | none => rw [q] at k; cases k
    | some ps =>
      rw [q] at k; cases k
      exact .tup (e.sqT h1) (dps_of e xs vs ps h2 q)
  | .dct _ _, _, _, _, k => by rw [toPy] at k; cases k
  | .ins _ _ _, _, _, _, k => by rw [toPy] at k; cases k
  | .ptr _, _, _, _, k => by rw [toPy] at k; cases k
  | .scr _, _, _, _, k => by rw [toPy] at k; cases k
theorem dps_of (e : Sub G H) : ∀ (ds : List D) (vs : List V) (ps : List PyData), Reps C ρ G ds vs → toPys ds = some ps → DpAll C.K H vs ps
  | [], _, _, h, k => by rw [h.inv0]; rw [toPys] at k; cases k; exact .nil
  | x :: xs, _, ps, h, k => by
    obtain ⟨v, r, rfl, h1, h2⟩ := h.inv
    rw [toPys] at k
    cases q : toPy x with
    | none => rw [q] at k; cases k
    | some p =>
      cases q2 : toPys xs with
      | none => rw [q, q2] at k; cases k
      | some ps' =>
        rw [q, q2] at k; cases k
        exact .cons (dp_of e x v p h1 q) (dps_of e xs r ps' h2 q2)
end
theorem dp_rt (e : Sub G H) {d : D} {v : V} {p : PyData} (h : RT C ρ G H d v) (k : toPy d = some p) : Dp C.K H v p := by
  cases d with
  | lst xs =>
    obtain ⟨a, vs, rfl, h1, h2⟩ := h
    rw [toPy] at k
    cases q : toPys xs with
    | none => rw [q] at k; cases k
    | some ps =>
      rw [q] at k; cases k
      exact .lst (SqL.of h1) (dps_of e xs vs ps h2 q)
  | dct _ _ => rw [toPy] at k; cases k
  | ins _ _ _ => rw [toPy] at k; cases k
  | _ => exact dp_of e _ _ _ h k
end

def dEqP (a b : D) : Option Bool := match toPy a, toPy b with
  | some p, some q => if SeqAt.shaped p = true ∧ SeqAt.shaped q = true then some (PyData.eqv p q) else none
  | _, _ => none
def dEq : D → D → Option Bool
  | .str a, .str b => some (a == b)
  | a, b => dEqP a b
theorem dEq_cases (a b : D) : (∃ x y, a = .str x ∧ b = .str y ∧ dEq a b = some (x == y)) ∨ dEq a b = dEqP a b := by
  cases a <;> first | exact .inr rfl | (cases b <;> first | exact .inr rfl | exact .inl ⟨_, _, rfl, rfl, rfl⟩)
def cEq (a b : D) : Option D := (dEq a b).map .bl
def cNe (a b : D) : Option D := (dEq a b).map fun k => .bl (!k)
def cLt : D → D → Option D
  | .int i, .int j => some (.bl (decide (i < j)))
  | .str i, .str j => some (.bl (decide (i.cps.toList < j.cps.toList)))
  | _, _ => none
def cLe : D → D → Option D
  | .int i, .int j => some (.bl (decide (i ≤ j)))
  | .str i, .str j => some (.bl (!decide (j.cps.toList < i.cps.toList)))
  | _, _ => none
def cGt : D → D → Option D
  | .int i, .int j => some (.bl (decide (j < i)))
  | .str i, .str j => some (.bl (decide (j.cps.toList < i.cps.toList)))
  | _, _ => none
def cGe : D → D → Option D
  | .int i, .int j => some (.bl (decide (j ≤ i)))
  | .str i, .str j => some (.bl (!decide (i.cps.toList < j.cps.toList)))
  | _, _ => none
def isNon : D → Bool | .non => true | _ => false
def cIs : D → D → Option D | a, .non => some (.bl (isNon a)) | _, _ => none
def cIsNot : D → D → Option D | a, .non => some (.bl (!isNon a)) | _, _ => none
def dAdd : D → D → Option D
  | .int i, .int j => some (.int (i + j))
  | .str a, .str b => if a.length + b.length ≤ sizeLine then some (.str (a ++ b)) else none
  | .lst a, .lst b => if a.length + b.length ≤ sizeLine then some (.lst (a ++ b)) else none
  | .tup a, .tup b => if a.length + b.length ≤ sizeLine then some (.tup (a ++ b)) else none
  | _, _ => none
def dSub : D → D → Option D
  | .int i, .int j => some (.int (i - j))
  | _, _ => none
def mulOk (i j : Int) : Prop := (-(2 ^ 64) < i ∧ i < 2 ^ 64) ∨ (-(2 ^ 64) < j ∧ j < 2 ^ 64)
instance (i j : Int) : Decidable (mulOk i j) := by unfold mulOk; infer_instance
def dMul : D → D → Option D
  | .int i, .int j => if mulOk i j then some (.int (i * j)) else none
  | .lst xs, .int k => if -(2 ^ 63) ≤ k ∧ k < 2 ^ 63 ∧ xs.length * k.toNat ≤ sizeLine then some (.lst (List.replicate k.toNat xs).flatten) else none
  | .tup xs, .int k => if 1 ≤ k ∧ k ≤ 1000 ∧ xs.length ≤ 1000 then some (.tup (List.replicate k.toNat xs).flatten) else none
  | _, _ => none
def dDiv : D → D → Option D
  | .int i, .int j => if 0 < j ∧ j < 1073741824 then some (.int (i / j)) else none
  | _, _ => none
def dMod : D → D → Option D
  | .int i, .int j => if 0 < j then some (.int (i % j)) else none
  | _, _ => none
def dPow : D → D → Option D
  | .int i, .int j => if 0 ≤ j ∧ j ≤ 1000000 ∧ i.natAbs < 2 ^ 64 then some (.int (i ^ j.toNat)) else none
  | _, _ => none
def dNeg : D → Option D
  | .int i => some (.int (-i))
  | _ => none
def keyD : D → Option Key
  | .int i => some (.inl i)
  | .str x => some (.inr x)
  | _ => none
/-- the value of a key -/
def dGet : List Key → List D → Key → Option D
  | k :: ks, x :: xs, q => if k = q then some x else dGet ks xs q
  | _, _, _ => none
def dIdx : D → D → Option D
  | .lst xs, .int i => atI xs i
  | .tup xs, .int i => atI xs i
  | .scr ns, .int i => (atI ns i).map .int
  | .str x, .int i => if x.length ≤ sizeLine then (atI x.cps.toList i).map fun c => .str ⟨#[c]⟩ else none
  | _, _ => none
def dLen : D → Option D
  | .lst xs => some (.int xs.length)
  | .tup xs => some (.int xs.length)
  | .scr xs => some (.int xs.length)
  | .str x => if x.length ≤ sizeLine then some (.int x.length) else none
  | _ => none
def dTruth : D → Option Bool
  | .non => some false
  | .bl b => some b
  | .int i => some (i != 0)
  | .str x => if x.length ≤ sizeLine then some ((x.length : Int) != 0) else none
  | .lst xs => some !xs.isEmpty
  | .tup xs => some !xs.isEmpty
  | .dct ks _ => some !ks.isEmpty
  | _ => none
/-- things that == compares at once -/
def flatD : D → Bool
  | .non | .bl _ | .int _ | .str _ => true
  | _ => false
def eqF : D → D → Bool
  | .non, .non => true
  | .bl a, .bl b => a == b
  | .bl a, .int j => (if a then 1 else 0) == j
  | .int i, .bl b => i == (if b then 1 else 0)
  | .int i, .int j => i == j
  | .str x, .str y => decide (x = y)
  | _, _ => false
def inF (x : D) (xs : List D) : Bool := xs.any fun y => eqF y x
def dIn : D → D → Option Bool
  | x, .lst xs => if flatD x ∧ xs.all flatD then some (inF x xs) else none
  | x, .tup xs => if flatD x ∧ xs.all flatD then some (inF x xs) else none
  | .str x, .str y => if x.length = 1 then some (decide (x.cps.getD 0 0 ∈ y.cps.toList)) else none
  | _, _ => none
def cIn (a b : D) : Option D := (dIn a b).map .bl
def cNotIn (a b : D) : Option D := (dIn a b).map fun k => .bl (!k)
def cutD (xs : List D) (lo hi : Option Int) : List D := (xs.drop (HT.sIx xs.length 0 lo)).take (HT.sIx xs.length xs.length hi - HT.sIx xs.length 0 lo)

/-! ### the forms of expressions -/
def eV (i : Nat) : De := fun Γ S => match Γ[i]? with | some (.val d) => .ok d S | _ => .stuck
def oV (i : Nat) : De := fun Γ S => match Γ[i]? with | some (.val d) => .ok d S | some (.own d) => .ok d S | _ => .stuck
def eC (d : D) : De := fun _ S => .ok d S
def ofO {α : Type} (o : Option α) (S : List D) : Res α := match o with | some d => .ok d S | none => .stuck
@[simp] theorem ofO_some {α : Type} (a : α) (S : List D) : ofO (some a) S = .ok a S := Eq.trans rfl rfl
@[simp] theorem ofO_none {α : Type} (S : List D) : ofO (none : Option α) S = .stuck := Eq.trans rfl rfl
def eOp (f : D → D → Option D) (a b : De) : De := fun Γ S => (a Γ S).bind fun x S1 => (b Γ S1).bind fun y S2 => ofO (f (deref S2 x) (deref S2 y)) S2
def eUn (f : D → Option D) (a : De) : De := fun Γ S => (a Γ S).bind fun x S1 => ofO (f (deref S1 x)) S1
def asB : D → Option Bool | .bl b => some b | _ => none
def tB (a : De) : Dt := fun Γ S => (a Γ S).bind fun x S1 => ofO (asB x) S1
def tTru (a : De) : Dt := fun Γ S => (a Γ S).bind fun x S1 => ofO (dTruth (deref S1 x)) S1
def tAndD (a b : Dt) : Dt := fun Γ S => (a Γ S).bind fun x S1 => if x then b Γ S1 else .ok false S1
def tOrD (a b : Dt) : Dt := fun Γ S => (a Γ S).bind fun x S1 => if x then .ok true S1 else b Γ S1
def tNotD (a : Dt) : Dt := fun Γ S => (a Γ S).bind fun x S1 => .ok (!x) S1
def eIf (t : Dt) (a b : De) : De := fun Γ S => (t Γ S).bind fun x S1 => if x then a Γ S1 else b Γ S1
def eAnd (a b : De) : De := fun Γ S => (a Γ S).bind fun x S1 => match asB x with | some true => b Γ S1 | some false => .ok (.bl false) S1 | none => .stuck
def eOr (a b : De) : De := fun Γ S => (a Γ S).bind fun x S1 => match asB x with | some true => .ok (.bl true) S1 | some false => b Γ S1 | none => .stuck
def eNot (a : De) : De := fun Γ S => (a Γ S).bind fun x S1 => match asB x with | some b => .ok (.bl (!b)) S1 | none => .stuck
def aNil : Da := fun _ S => .ok [] S
def aCons (a : De) (r : Da) : Da := fun Γ S => (a Γ S).bind fun x S1 => (r Γ S1).bind fun xs S2 => .ok (x :: xs) S2
def eCall (F : List D → List D → Res D) (a : Da) : De := fun Γ S => (a Γ S).bind fun ds S1 => F ds S1
def eTup (a : Da) : De := fun Γ S => (a Γ S).bind fun ds S1 => .ok (.tup ds) S1
def eLst (a : Da) : De := fun Γ S => (a Γ S).bind fun ds S1 => .ok (.lst ds) S1
/-- a list that is kept in the store -/
def eBox (a : De) : De := fun Γ S => (a Γ S).bind fun d S1 => .ok (.ptr S1.length) (S1 ++ [d])

section
variable {X : Cx} {cls : Nat → Addr} {W : WX} {e a b c : Expr} {es : List Expr} {pos : Pos} {δ δa δb δc : De} {τ τa τb : Dt} {α : Da}
theorem de_o (h : DE X cls W e δ) : DO X cls W e δ := PE.weak h fun σ H Q ⟨Γ, S, ρ, G, m, p⟩ => ⟨Γ, S, ρ, G, m, p.conv fun _ _ _ _ _ r => .inl r⟩
theorem df_o (h : DF X cls W e δ) : DO X cls W e δ := PE.weak h fun σ H Q ⟨Γ, S, ρ, G, m, p⟩ => ⟨Γ, S, ρ, G, m, p.conv fun _ _ _ _ _ ⟨a, e, n, _, _, r⟩ => .inr ⟨a, e, n, r⟩⟩
theorem df_e (h : DF X cls W e δ) : DE X cls W e δ := PE.weak h fun σ H Q ⟨Γ, S, ρ, G, m, p⟩ => ⟨Γ, S, ρ, G, m, by
  cases q : δ Γ S with
  | ok d S' =>
    rw [q] at p
    intro v ρ' G' H' m' n' r
    obtain ⟨G2, m2, n2, r2⟩ := RF.settle m n' m' r
    exact p v ρ' G2 H' m2 n2 r2
  | exc x S' => rw [q] at p; exact p
  | stuck => rw [q] at p; exact p⟩

theorem de_v (i : Nat) {x : Str} (hN : X.N[i]? = some x := by rfl) (hv : Vis X.env.scope x := by first | exact Or.inl rfl | exact Or.inr (Or.inl rfl) | exact Or.inr (Or.inr rfl)) (hd : (x == ("__debug__" : Str)) = false := by decide)
    (hcd : (x == ("__classdict__" : Str)) = false := by decide) : DE X cls W (.Name x pos) (eV i) := PE.weak (pv i hN hv hd hcd) fun σ H Q ⟨Γ, S, ρ, G, m, p⟩ => by
  unfold eV at p
  split at p
  · rename_i d hd
    obtain ⟨v, e, r⟩ := m.val i d hd
    exact ⟨v, e, p.at m r⟩
  · exact p.elim
theorem do_v (i : Nat) {x : Str} (hN : X.N[i]? = some x := by rfl) (hv : Vis X.env.scope x := by first | exact Or.inl rfl | exact Or.inr (Or.inl rfl) | exact Or.inr (Or.inr rfl)) (hd : (x == ("__debug__" : Str)) = false := by decide)
    (hcd : (x == ("__classdict__" : Str)) = false := by decide) : DO X cls W (.Name x pos) (oV i) := PE.weak (pv i hN hv hd hcd) fun σ H Q ⟨Γ, S, ρ, G, m, p⟩ => by
  unfold oV at p
  split at p
  · rename_i d hd
    obtain ⟨v, e, r⟩ := m.val i d hd
    exact ⟨v, e, p.at m (.inl r)⟩
  · rename_i d hd
    obtain ⟨a, e, r, _, na⟩ := m.own i d hd
    exact ⟨_, e, p.at m (.inr ⟨a, rfl, na, r⟩)⟩
  · exact p.elim
/-- a constant, or a name of the module -/
theorem de_c {v : V} {d : D} (h : PE X e (tC v)) (r : ∀ ρ G, Rep ⟨X.K, cls⟩ ρ G d v) : DE X cls W e (eC d) := PE.weak h fun σ H Q ⟨Γ, S, ρ, G, m, p⟩ => p.at m (r ρ G)
theorem de_int {i j} : DE X cls W (.Constant (.int i) j pos) (eC (.int i)) := de_c pe_int fun _ _ => by rw [Rep]
theorem de_bl {i j} : DE X cls W (.Constant (.bool i) j pos) (eC (.bl i)) := de_c pe_bl fun _ _ => by rw [Rep]
theorem de_non {j} : DE X cls W (.Constant .none j pos) (eC .non) := de_c pe_non fun _ _ => by rw [Rep]
theorem de_str {x j} : DE X cls W (.Constant (.str x) j pos) (eC (.str x)) := de_c pe_str fun _ _ => by rw [Rep]

/-- what an operation must do -/
def R2Ok (C : Cn) (RV : RVT D V) (R : R2) (f : D → D → Option D) : Prop := ∀ (S : List D) (ρ : List Addr) (G H : Hp) (x y : V) (d dx dy : D) (Q : VK), MemS C S ρ G H → RT C ρ G H dx x → RT C ρ G H dy y → f dx dy = some d →
  (∀ v ρ' G' H', MemS C S ρ' G' H' → Nx ρ G H ρ' G' H' → RV H ρ' G' H' d v → Q v H') → R x y H Q
def R1Ok (C : Cn) (RV : RVT D V) (R : V → Hp → VK → Prop) (f : D → Option D) : Prop := ∀ (S : List D) (ρ : List Addr) (G H : Hp) (x : V) (d dx : D) (Q : VK), MemS C S ρ G H → RT C ρ G H dx x → f dx = some d →
  (∀ v ρ' G' H', MemS C S ρ' G' H' → Nx ρ G H ρ' G' H' → RV H ρ' G' H' d v → Q v H') → R x H Q
theorem ofO_post {C : Cn} {W : WX} {α β : Type} {RV : RVT α β} {Γ : List Sl} {ρ : List Addr} {G H : Hp} {σ : L2.St} {o : Option α} {S : List D} {Q : β → Hp → Prop} (h : Post C W RV Γ ρ G H σ (ofO o S) Q) : ∃ d, o = some d ∧ Post C W RV Γ ρ G H σ (.ok d S) Q := by
  cases o with
  | none => exact h.elim
  | some d => exact ⟨d, rfl, h⟩
theorem x_op {RV : RVT D V} (bk : Back RV) {R : R2} {f : D → D → Option D} (ho : R2Ok ⟨X.K, cls⟩ RV R f) {σ : L2.St} {H : Hp} {Q : VK} (h : tE ⟨X.K, cls⟩ W RV (eOp f δa δb) σ H Q) :
    tE ⟨X.K, cls⟩ W (RO ⟨X.K, cls⟩) δa σ H fun x H1 => tE ⟨X.K, cls⟩ W (RO ⟨X.K, cls⟩) δb σ H1 fun y H2 => R x y H2 Q := by
  obtain ⟨Γ, S, ρ, G, m, p⟩ := h
  refine ⟨Γ, S, ρ, G, m, (Post.seq bk p).mono fun x H1 ⟨dx, S1, ρ1, G1, m1, n1, r1, p1⟩ => ⟨Γ, S1, ρ1, G1, m1, (Post.seq bk p1).mono fun y H2 ⟨dy, S2, ρ2, G2, m2, n2, r2, p2⟩ => ?_⟩⟩
  obtain ⟨d, hd, p3⟩ := ofO_post p2
  exact ho S2 ρ2 G2 H2 x y d _ _ Q m2.toS (m2.read (H0 := H1) (r1.step n2)) (m2.read r2) hd fun v ρ' G' H' m' n' r' => p3.here (m2.step n' m') n' r'
theorem de_op {op : Operator} {R : R2} {f : D → D → Option D} (ho : OpR X (binaryOp op) R) (hf : R2Ok ⟨X.K, cls⟩ (RS ⟨X.K, cls⟩) R f) (ha : DO X cls W a δa) (hb : DO X cls W b δb) : DE X cls W (.BinOp a op b pos) (eOp f δa δb) :=
  PE.weak (pe_op ho ha hb) fun _ _ _ h => x_op back_RS hf h
theorem df_op {op : Operator} {R : R2} {f : D → D → Option D} (ho : OpR X (binaryOp op) R) (hf : R2Ok ⟨X.K, cls⟩ (RF ⟨X.K, cls⟩) R f) (ha : DO X cls W a δa) (hb : DO X cls W b δb) : DF X cls W (.BinOp a op b pos) (eOp f δa δb) :=
  PE.weak (pe_op ho ha hb) fun _ _ _ h => x_op back_RF hf h
theorem de_cmp {op : CmpOp} {R : R2} {f : D → D → Option D} (ho : OpR X (compareOp op) R) (hf : R2Ok ⟨X.K, cls⟩ (RS ⟨X.K, cls⟩) R f) (ha : DO X cls W a δa) (hb : DO X cls W b δb) (hm : behindInMarks op b = false) : DE X cls W (.Compare a [op] [b] pos) (eOp f δa δb) :=
  PE.weak (pe_cmpR ho ha hb hm) fun _ _ _ h => x_op back_RS hf h
theorem dt_cmp {op : CmpOp} {R : R2} {f : D → D → Option D} (ho : OpR X (compareOp op) R) (hf : R2Ok ⟨X.K, cls⟩ (RS ⟨X.K, cls⟩) R f) (ha : DO X cls W a δa) (hb : DO X cls W b δb) (hm : behindInMarks op b = false) : DT X cls W (.Compare a [op] [b] pos) (tB (eOp f δa δb)) :=
  PT.weak (pt_cmpR ho ha hb hm) fun σ H Q ⟨Γ, S, ρ, G, m, p⟩ => by
    refine x_op (W := W) (δa := δa) (δb := δb) (cls := cls) back_RS hf ⟨Γ, S, ρ, G, m, (Post.seq back_RB p).mono fun v H1 ⟨d, S1, ρ1, G1, m1, n1, r1, p1⟩ => ?_⟩
    obtain ⟨k, hk, p2⟩ := ofO_post p1
    cases d <;> try cases hk
    have e : v = .bl k := rep_bl.mp r1
    exact ⟨k, e, p2.at m1 rfl⟩
theorem de_ix {R : R2} {f : D → D → Option D} (ho : IxR X R) (hf : R2Ok ⟨X.K, cls⟩ (RS ⟨X.K, cls⟩) R f) (ha : DO X cls W a δa) (hb : DO X cls W b δb) (hs : PlainIx b := by exact fun _ _ => rfl) : DE X cls W (.Subscript a b pos) (eOp f δa δb) :=
  PE.weak (pe_ix ho ha hb hs) fun _ _ _ h => x_op back_RS hf h
theorem x_un {RV : RVT D V} (bk : Back RV) {R : V → Hp → VK → Prop} {f : D → Option D} (ho : R1Ok ⟨X.K, cls⟩ RV R f) {σ : L2.St} {H : Hp} {Q : VK} (h : tE ⟨X.K, cls⟩ W RV (eUn f δa) σ H Q) :
    tE ⟨X.K, cls⟩ W (RO ⟨X.K, cls⟩) δa σ H fun x H1 => R x H1 Q := by
  obtain ⟨Γ, S, ρ, G, m, p⟩ := h
  refine ⟨Γ, S, ρ, G, m, (Post.seq bk p).mono fun x H1 ⟨dx, S1, ρ1, G1, m1, n1, r1, p1⟩ => ?_⟩
  obtain ⟨d, hd, p3⟩ := ofO_post p1
  exact ho S1 ρ1 G1 H1 x d _ Q m1.toS (m1.read r1) hd fun v ρ' G' H' m' n' r' => p3.here (m1.step n' m') n' r'
theorem de_un {op : UnaryOp} {R : V → Hp → VK → Prop} {f : D → Option D} (ho : UnR X (unaryOp op) R) (hf : R1Ok ⟨X.K, cls⟩ (RS ⟨X.K, cls⟩) R f) (ha : DO X cls W a δa) : DE X cls W (.UnaryOp op a pos) (eUn f δa) :=
  PE.weak (pe_un ho ha) fun _ _ _ h => x_un back_RS hf h
/-- a test that is a value's truth -/
theorem dt_tru (ha : DO X cls W a δa) (he : ∀ whole, isTrue a X.env whole = (do let v ← whole; standAt a.pos; holding [v] (truthy v)) := by intro _; rfl) : DT X cls W a (tTru δa) :=
  PT.weak (pt_truth ha he) fun σ H Q ⟨Γ, S, ρ, G, m, p⟩ => ⟨Γ, S, ρ, G, m, (Post.seq back_RB p).mono fun x H1 ⟨dx, S1, ρ1, G1, m1, n1, r1, p1⟩ => by
    obtain ⟨k, hk, p2⟩ := ofO_post p1
    refine ⟨k, ?_, p2.at m1 rfl⟩
    have rt := m1.read r1
    generalize deref S1 dx = dd at hk rt
    cases dd with
    | non => rw [rt_non] at rt; subst rt; exact (Option.some.inj hk).symm
    | bl b => rw [rt_bl] at rt; subst rt; exact (Option.some.inj hk).symm
    | int b => rw [rt_int] at rt; subst rt; exact (Option.some.inj hk).symm
    | str b =>
      rw [rt_str] at rt; subst rt
      rw [dTruth] at hk
      split at hk
      · rename_i hz; exact ⟨hz, (Option.some.inj hk).symm⟩
      · cases hk
    | lst xs =>
      obtain ⟨p, vs, rfl, h1, h2⟩ := rt
      refine .inl ⟨vs, SqL.of h1, ?_⟩
      rw [← Option.some.inj hk]
      have := h2.length
      cases xs <;> cases vs <;> simp_all
    | tup xs =>
      rw [rt_tup] at rt
      obtain ⟨p, vs, rfl, h1, h2⟩ := rt
      refine .inr (.inl ⟨vs, m1.sub.sqT h1, ?_⟩)
      rw [← Option.some.inj hk]
      have := h2.length
      cases xs <;> cases vs <;> simp_all
    | dct ks xs =>
      obtain ⟨p, vs, rfl, h1, l, h2⟩ := rt
      refine .inr (.inr ⟨_, h1, ?_⟩)
      rw [← Option.some.inj hk]
      have := h2.length
      cases xs <;> cases vs <;> cases ks <;> simp_all
    | _ => cases hk⟩
theorem dt_val (ha : DE X cls W a δa) (he : ∀ whole, isTrue a X.env whole = (do let v ← whole; standAt a.pos; holding [v] (truthy v)) := by intro _; rfl) : DT X cls W a (tB δa) :=
  PT.weak (pt_val ha he) fun σ H Q ⟨Γ, S, ρ, G, m, p⟩ => ⟨Γ, S, ρ, G, m, (Post.seq back_RB p).mono fun x H1 ⟨dx, S1, ρ1, G1, m1, n1, r1, p1⟩ => by
    obtain ⟨k, hk, p2⟩ := ofO_post p1
    cases dx <;> try cases hk
    have e : x = .bl k := rep_bl.mp r1
    exact ⟨k, e, p2.at m1 rfl⟩⟩
/-! and, or, not in tests -/
theorem dw_t (h : DW X cls W e τ) : DT X cls W e τ := PW.pt h
theorem dw_and1 (ha : DT X cls W a τ) : DW X cls W (.BoolOp .And [a] pos) τ := pw_and1 ha
theorem dw_or1 (ha : DT X cls W a τ) : DW X cls W (.BoolOp .Or [a] pos) τ := pw_or1 ha
theorem dw_and {rest : List Expr} (ha : DT X cls W a τa) (hb : DW X cls W (.BoolOp .And (b :: rest) pos) τb) : DW X cls W (.BoolOp .And (a :: b :: rest) pos) (tAndD τa τb) :=
  PW.weak (pw_and ha hb) fun σ H Q ⟨Γ, S, ρ, G, m, p⟩ => ⟨Γ, S, ρ, G, m, (Post.seq (RV := RB) back_RB p).mono fun k H1 ⟨k', S1, ρ1, G1, m1, n1, r1, p1⟩ => by
    have e1 : k' = k := r1
    subst e1
    cases k' with
    | true => exact iteT ⟨Γ, S1, ρ1, G1, m1, p1⟩
    | false => exact iteF (p1.at m1 rfl)⟩
theorem dw_or {rest : List Expr} (ha : DT X cls W a τa) (hb : DW X cls W (.BoolOp .Or (b :: rest) pos) τb) : DW X cls W (.BoolOp .Or (a :: b :: rest) pos) (tOrD τa τb) :=
  PW.weak (pw_or ha hb) fun σ H Q ⟨Γ, S, ρ, G, m, p⟩ => ⟨Γ, S, ρ, G, m, (Post.seq (RV := RB) back_RB p).mono fun k H1 ⟨k', S1, ρ1, G1, m1, n1, r1, p1⟩ => by
    have e1 : k' = k := r1
    subst e1
    cases k' with
    | true => exact iteT (p1.at m1 rfl)
    | false => exact iteF ⟨Γ, S1, ρ1, G1, m1, p1⟩⟩
theorem dt_not (ha : DT X cls W a τ) : DT X cls W (.UnaryOp .Not a pos) (tNotD τ) :=
  PT.weak (pt_not ha) fun σ H Q ⟨Γ, S, ρ, G, m, p⟩ => ⟨Γ, S, ρ, G, m, (Post.seq (RV := RB) back_RB p).mono fun k H1 ⟨k', S1, ρ1, G1, m1, n1, r1, p1⟩ => by
    have e1 : k' = k := r1
    subst e1
    exact p1.at m1 rfl⟩
/-! and, or, not as values, of truth values -/
theorem de_one {op} (h : DE X cls W a δ) : DE X cls W (.BoolOp op [a] pos) δ := pe_one h
theorem de_and {rest : List Expr} (ha : DE X cls W a δa) (hb : DE X cls W (.BoolOp .And (b :: rest) pos) δb) : DE X cls W (.BoolOp .And (a :: b :: rest) pos) (eAnd δa δb) :=
  PE.weak (pe_and ha hb) fun σ H Q ⟨Γ, S, ρ, G, m, p⟩ => ⟨Γ, S, ρ, G, m, (Post.seq back_RS p).mono fun x H1 ⟨dx, S1, ρ1, G1, m1, n1, r1, p1⟩ => by
    cases dx with
    | bl k =>
      have e : x = .bl k := rep_bl.mp r1
      refine ⟨k, e, ?_⟩
      cases k with
      | true => exact iteT ⟨Γ, S1, ρ1, G1, m1, p1⟩
      | false => exact iteF (p1.at m1 (rep_bl.mpr rfl))
    | _ => exact p1.elim⟩
theorem de_or {rest : List Expr} (ha : DE X cls W a δa) (hb : DE X cls W (.BoolOp .Or (b :: rest) pos) δb) : DE X cls W (.BoolOp .Or (a :: b :: rest) pos) (eOr δa δb) :=
  PE.weak (pe_or ha hb) fun σ H Q ⟨Γ, S, ρ, G, m, p⟩ => ⟨Γ, S, ρ, G, m, (Post.seq back_RS p).mono fun x H1 ⟨dx, S1, ρ1, G1, m1, n1, r1, p1⟩ => by
    cases dx with
    | bl k =>
      have e : x = .bl k := rep_bl.mp r1
      refine ⟨k, e, ?_⟩
      cases k with
      | true => exact iteT (p1.at m1 (rep_bl.mpr rfl))
      | false => exact iteF ⟨Γ, S1, ρ1, G1, m1, p1⟩
    | _ => exact p1.elim⟩
theorem de_not (ha : DE X cls W a δa) : DE X cls W (.UnaryOp .Not a pos) (eNot δa) :=
  PE.weak (pe_not ha) fun σ H Q ⟨Γ, S, ρ, G, m, p⟩ => ⟨Γ, S, ρ, G, m, (Post.seq back_RS p).mono fun x H1 ⟨dx, S1, ρ1, G1, m1, n1, r1, p1⟩ => by
    cases dx with
    | bl k =>
      have e : x = .bl k := rep_bl.mp r1
      exact ⟨k, e, p1.at m1 (rep_bl.mpr rfl)⟩
    | _ => exact p1.elim⟩
theorem de_if (hc : DT X cls W c τ) (ha : DE X cls W a δa) (hb : DE X cls W b δb) : DE X cls W (.IfExp c a b pos) (eIf τ δa δb) :=
  PE.weak (pe_ifExp hc ha hb) fun σ H Q ⟨Γ, S, ρ, G, m, p⟩ => ⟨Γ, S, ρ, G, m, (Post.seq (RV := RB) back_RS p).mono fun k H1 ⟨k', S1, ρ1, G1, m1, n1, r1, p1⟩ => by
    have e1 : k' = k := r1
    subst e1
    cases k' with
    | true => exact iteT ⟨Γ, S1, ρ1, G1, m1, p1⟩
    | false => exact iteF ⟨Γ, S1, ρ1, G1, m1, p1⟩⟩
/-! arguments, displays -/
theorem da_nil : DA X cls W [] aNil := PA.weak pa_nil fun σ H Q ⟨Γ, S, ρ, G, m, p⟩ => p.at m Reps.nil
theorem da_cons (ha : DE X cls W e δ) (hr : DA X cls W es α) (hs : starEach (e :: es) X.env = (false, eval e X.env) :: starEach es X.env := by rfl) : DA X cls W (e :: es) (aCons δ α) :=
  PA.weak (pa_cons ha hr hs) fun σ H Q ⟨Γ, S, ρ, G, m, p⟩ => ⟨Γ, S, ρ, G, m, (Post.seq back_RA p).mono fun x H1 ⟨dx, S1, ρ1, G1, m1, n1, r1, p1⟩ => ⟨Γ, S1, ρ1, G1, m1, (Post.seq back_RA p1).mono fun xs H2 ⟨ds, S2, ρ2, G2, m2, n2, r2, p2⟩ =>
    p2.at m2 (Reps.cons (r1.mono n2.ext n2.pre) r2)⟩⟩
theorem da_len : ∀ {es : List Expr} {α : Da}, True := fun {_ _} => trivial
theorem x_new {C : Cn} {Γ : List Sl} {S : List D} {ρ : List Addr} {G H : Hp} {σ : L2.St} (m : Mem C Γ S ρ G H σ) {ds : List D} {vs : List V} (r : Reps C ρ G ds vs) {p : Addr} (hp : H p = none) :
    Mem C Γ S ρ G (upd H p (.lst vs)) σ ∧ Nx ρ G H ρ G (upd H p (.lst vs)) ∧ RF C H ρ G (upd H p (.lst vs)) (.lst ds) (V.ref p) := by
  obtain ⟨m', n', np, gp⟩ := m.new (o := .lst vs) hp
  exact ⟨m', n', p, rfl, np, hp, gp, vs, upd_same, r⟩
theorem x_newT {C : Cn} {Γ : List Sl} {S : List D} {ρ : List Addr} {G H : Hp} {σ : L2.St} (m : Mem C Γ S ρ G H σ) {ds : List D} {vs : List V} (r : Reps C ρ G ds vs) {p : Addr} (hp : H p = none) :
    ∃ G', Mem C Γ S ρ G' (upd H p (.tup vs)) σ ∧ Nx ρ G H ρ G' (upd H p (.tup vs)) ∧ Rep C ρ G' (.tup ds) (V.ref p) := by
  obtain ⟨m', n', np, gp⟩ := m.new (o := .tup vs) hp
  obtain ⟨m2, n2, k⟩ := Mem.settle m n' m' hp gp np upd_same
  exact ⟨_, m2, n2, by rw [Rep]; exact ⟨p, vs, rfl, SqT.of upd_same, Reps.mono k (List.prefix_refl _) _ _ r⟩⟩
theorem df_lst (h : DA X cls W es α) (hl : ∀ Γ S ds S', α Γ S = .ok ds S' → ds.length ≤ sizeLine) : DF X cls W (.List es pos) (eLst α) :=
  PE.weak (pe_lst h) fun σ H Q ⟨Γ, S, ρ, G, m, p⟩ => ⟨Γ, S, ρ, G, m, by
    unfold eLst at p
    cases q : α Γ S with
    | ok ds S1 =>
      rw [q] at p
      intro vs ρ1 G1 H1 m1 n1 r1
      refine ⟨by rw [← r1.length]; exact hl _ _ _ _ q, fun l hlp => ?_⟩
      obtain ⟨m2, n2, r2⟩ := x_new m1 r1 hlp
      exact p _ _ _ _ m2 (n1.trans n2) (back_RF _ _ _ _ _ _ _ n1.live r2)
    | exc x S1 => rw [q] at p; exact p
    | stuck => rw [q] at p; exact p⟩
theorem de_tup {x1} (h : DA X cls W es α) (hl : ∀ Γ S ds S', α Γ S = .ok ds S' → ds.length ≤ sizeLine) : DE X cls W (.Tuple es x1 pos) (eTup α) :=
  PE.weak (pe_tup h) fun σ H Q ⟨Γ, S, ρ, G, m, p⟩ => ⟨Γ, S, ρ, G, m, by
    unfold eTup at p
    cases q : α Γ S with
    | ok ds S1 =>
      rw [q] at p
      intro vs ρ1 G1 H1 m1 n1 r1
      refine ⟨by rw [← r1.length]; exact hl _ _ _ _ q, fun l hlp => ?_⟩
      obtain ⟨G2, m2, n2, r2⟩ := x_newT m1 r1 hlp
      exact p _ _ _ _ m2 (n1.trans n2) r2
    | exc x S1 => rw [q] at p; exact p
    | stuck => rw [q] at p; exact p⟩
/-- the number of written arguments -/
inductive ALen : Da → Nat → Prop
  | nil : ALen aNil 0
  | cons {δ : De} {α : Da} {n : Nat} (h : ALen α n) : ALen (aCons δ α) (n + 1)
theorem ALen.le {α : Da} {n : Nat} (h : ALen α n) : ∀ Γ S ds S', α Γ S = .ok ds S' → ds.length = n := by
  induction h with
  | nil => intro Γ S ds S' e; cases e; rfl
  | @cons δ α n h ih =>
    intro Γ S ds S' e
    unfold aCons at e
    cases q : δ Γ S with
    | ok d S1 =>
      rw [q] at e
      cases q2 : α Γ S1 with
      | ok ds2 S2 =>
        simp only [Res.bind_ok, q2] at e
        cases e
        rw [List.length_cons, ih _ _ _ _ q2]
      | exc _ _ => simp only [Res.bind_ok, q2] at e; cases e
      | stuck => simp only [Res.bind_ok, q2] at e; cases e
    | exc _ _ => rw [q] at e; cases e
    | stuck => rw [q] at e; cases e
theorem ALen.line {α : Da} {n : Nat} (h : ALen α n) (hn : n ≤ 1000) : ∀ Γ S ds S', α Γ S = .ok ds S' → ds.length ≤ sizeLine := fun Γ S ds S' e => by
  rw [h.le _ _ _ _ e]; exact Nat.le_of_lt (small1000 hn)
end
end DL

namespace DL
open PySem L2

theorem R2Ok.or {C : Cn} {RV : RVT D V} {R R' : R2} {f f' g : D → D → Option D} (h : R2Ok C RV R f) (h' : R2Ok C RV R' f') (hg : ∀ a b d, g a b = some d → f a b = some d ∨ f' a b = some d) :
    R2Ok C RV (fun x y H Q => R x y H Q ∨ R' x y H Q) g := fun S ρ G H x y d dx dy Q m rx ry e q => by
  rcases hg _ _ _ e with e | e
  · exact .inl (h S ρ G H x y d dx dy Q m rx ry e q)
  · exact .inr (h' S ρ G H x y d dx dy Q m rx ry e q)

section
variable {X : Cx} {cls : Nat → Addr} {C : Cn}
/-! ### ints -/
def onI (P : Int → Int → Bool) (g : Int → Int → Int) : D → D → Option D
  | .int i, .int j => if P i j then some (.int (g i j)) else none
  | _, _ => none
theorem ok_I {Pr : Int → Int → Prop} {P : Int → Int → Bool} {g : Int → Int → Int} (h : ∀ i j, P i j = true → Pr i j) : R2Ok C (RS C) (rI Pr fun i j => .int (g i j)) (onI P g) := fun S ρ G H x y d dx dy Q m rx ry e q => by
  cases dx <;> try cases e
  rename_i i
  cases dy <;> try cases e
  rename_i j
  rw [rt_int] at rx ry
  subst rx ry
  simp only [onI] at e
  split at e
  · rename_i hp
    cases e
    exact ⟨i, j, rfl, rfl, h i j hp, q _ _ _ _ m .refl (rep_int.mpr rfl)⟩
  · cases e
theorem ok_I0 {g : Int → Int → Int} : R2Ok C (RS C) (rI0 fun i j => .int (g i j)) (onI (fun _ _ => true) g) := fun S ρ G H x y d dx dy Q m rx ry e q => by
  cases dx <;> try cases e
  rename_i i
  cases dy <;> try cases e
  rename_i j
  rw [rt_int] at rx ry
  subst rx ry
  exact ⟨i, j, rfl, rfl, q _ _ _ _ m .refl (rep_int.mpr rfl)⟩
/-! ### texts, lists, tuples put together -/
def onS : D → D → Option D
  | .str a, .str b => if a.length + b.length ≤ sizeLine then some (.str (a ++ b)) else none
  | _, _ => none
theorem ok_S : R2Ok C (RS C) (fun x y H Q => ∃ i j, x = .str i ∧ y = .str j ∧ i.length + j.length ≤ sizeLine ∧ Q (.str (i ++ j)) H) onS := fun S ρ G H x y d dx dy Q m rx ry e q => by
  cases dx <;> try cases e
  rename_i i
  cases dy <;> try cases e
  rename_i j
  rw [rt_str] at rx ry
  subst rx ry
  simp only [onS] at e
  split at e
  · rename_i hp
    cases e
    exact ⟨i, j, rfl, rfl, hp, q _ _ _ _ m .refl (rep_str.mpr rfl)⟩
  · cases e
def onL : D → D → Option D
  | .lst a, .lst b => if a.length + b.length ≤ sizeLine then some (.lst (a ++ b)) else none
  | _, _ => none
theorem ok_LF : R2Ok C (RF C) rCat onL := fun S ρ G H x y d dx dy Q m rx ry e q => by
  cases dx <;> try cases e
  rename_i xs
  cases dy <;> try cases e
  rename_i ys
  obtain ⟨a, vs, rfl, h1, r1⟩ := rx
  obtain ⟨b, ws, rfl, h2, r2⟩ := ry
  simp only [onL] at e
  split at e
  · rename_i hp
    cases e
    refine ⟨a, b, vs, ws, rfl, rfl, h1, h2, by rw [← r1.length, ← r2.length]; exact hp, fun p hp => ?_⟩
    obtain ⟨m2, n2, r⟩ := x_new m (r1.append r2) hp
    exact q _ _ _ _ m2 n2 r
  · cases e
theorem rf_rs {R : R2} {f : D → D → Option D} (h : R2Ok C (RF C) R f) : R2Ok C (RS C) R f := fun S ρ G H x y d dx dy Q m rx ry e q =>
  h S ρ G H x y d dx dy Q m rx ry e fun v ρ' G' H' m' n' r => by
    obtain ⟨G2, m2, n2, r2⟩ := RF.settle m n' m' r
    exact q _ _ _ _ m2 n2 r2
theorem rf_rs1 {R : V → Hp → VK → Prop} {f : D → Option D} (h : R1Ok C (RF C) R f) : R1Ok C (RS C) R f := fun S ρ G H x d dx Q m rx e q =>
  h S ρ G H x d dx Q m rx e fun v ρ' G' H' m' n' r => by
    obtain ⟨G2, m2, n2, r2⟩ := RF.settle m n' m' r
    exact q _ _ _ _ m2 n2 r2
def onT : D → D → Option D
  | .tup a, .tup b => if a.length + b.length ≤ sizeLine then some (.tup (a ++ b)) else none
  | _, _ => none
theorem ok_T : R2Ok C (RS C) (rCatA C.K) onT := fun S ρ G H x y d dx dy Q m rx ry e q => by
  cases dx <;> try cases e
  rename_i xs
  cases dy <;> try cases e
  rename_i ys
  rw [rt_tup] at rx ry
  obtain ⟨a, vs, rfl, h1, r1⟩ := rx
  obtain ⟨b, ws, rfl, h2, r2⟩ := ry
  simp only [onT] at e
  split at e
  · rename_i hp
    cases e
    refine ⟨a, b, vs, ws, rfl, rfl, m.sub.sqT h1, m.sub.sqT h2, by rw [← r1.length, ← r2.length]; exact hp, fun e0 => ?_, fun _ e0 => ?_, fun _ _ p hp => ?_⟩
    · subst e0
      have z := r1.length
      cases xs with
      | nil => exact q _ _ _ _ m .refl (rep_tup.mpr ⟨b, ws, rfl, h2, r2⟩)
      | cons _ _ => cases z
    · subst e0
      have z := r2.length
      cases ys with
      | nil => rw [List.append_nil] at q; exact q _ _ _ _ m .refl (rep_tup.mpr ⟨a, vs, rfl, h1, r1⟩)
      | cons _ _ => cases z
    · obtain ⟨G2, m2, n2, r⟩ := x_newT m (r1.append r2) hp
      exact q _ _ _ _ m2 n2 r
  · cases e
theorem dAdd_cases (a b d : D) (h : dAdd a b = some d) : onI (fun _ _ => true) (fun i j => i + j) a b = some d ∨ onS a b = some d ∨ onL a b = some d ∨ onT a b = some d := by
  cases a <;> cases b <;> first | exact .inl h | exact .inr (.inl h) | exact .inr (.inr (.inl h)) | exact .inr (.inr (.inr h)) | cases h
theorem de_add {W : WX} {a b : Expr} {pos : Pos} {δa δb : De} (ha : DO X cls W a δa) (hb : DO X cls W b δb) : DE X cls W (.BinOp a .Add b pos) (eOp dAdd δa δb) :=
  de_op (op_add.or (op_add_str.or (op_cat.or op_catA))) (ok_I0.or (g := dAdd) (f' := fun a b => if (onS a b).isSome then onS a b else if (onL a b).isSome then onL a b else onT a b) (ok_S.or (f' := fun a b => if (onL a b).isSome then onL a b else onT a b) ((rf_rs ok_LF).or (f' := onT) ok_T (fun a b d h => by
      by_cases z : (onL a b).isSome
      · rw [if_pos z] at h; exact .inl h
      · rw [if_neg z] at h; exact .inr h)) (fun a b d h => by
      by_cases z : (onS a b).isSome
      · rw [if_pos z] at h; exact .inl h
      · rw [if_neg z] at h; exact .inr h)) (fun a b d h => by
      rcases dAdd_cases a b d h with h | h | h | h
      · exact .inl h
      · exact .inr (by rw [h]; rfl)
      · exact .inr (by cases a <;> cases b <;> first | cases h | (show (if (Option.isSome none) = true then _ else if (onL _ _).isSome = true then _ else _) = _; rw [h]; rfl))
      · exact .inr (by cases a <;> cases b <;> first | cases h | (show (if (Option.isSome none) = true then _ else if (Option.isSome none) = true then _ else _) = _; exact h)))) ha hb
theorem df_cat {W : WX} {a b : Expr} {pos : Pos} {δa δb : De} (ha : DO X cls W a δa) (hb : DO X cls W b δb) : DF X cls W (.BinOp a .Add b pos) (eOp onL δa δb) := df_op op_cat ok_LF ha hb
theorem de_sub {W : WX} {a b : Expr} {pos : Pos} {δa δb : De} (ha : DO X cls W a δa) (hb : DO X cls W b δb) : DE X cls W (.BinOp a .Sub b pos) (eOp (onI (fun _ _ => true) fun i j => i - j) δa δb) := de_op op_sub ok_I0 ha hb
abbrev fDiv : D → D → Option D := onI (fun _ j => decide (0 < j ∧ j < 1073741824)) fun i j => i / j
abbrev fMod : D → D → Option D := onI (fun _ j => decide (0 < j)) fun i j => i % j
def fPow : D → D → Option D := onI (fun i j => decide (0 ≤ j ∧ j ≤ 1000000 ∧ i.natAbs < 2 ^ 64)) fun i j => i ^ j.toNat
def P18 : Int := 10 ^ 18
theorem fPow_18 : fPow (.int 10) (.int 18) = some (.int P18) := rfl
abbrev fMulI : D → D → Option D := onI (fun i j => decide (mulOk i j)) fun i j => i * j
abbrev fSub : D → D → Option D := onI (fun _ _ => true) fun i j => i - j
theorem de_div {W : WX} {a b : Expr} {pos : Pos} {δa δb : De} (ha : DO X cls W a δa) (hb : DO X cls W b δb) : DE X cls W (.BinOp a .FloorDiv b pos) (eOp fDiv δa δb) := de_op op_fdiv (ok_I fun i j h => of_decide_eq_true (p := 0 < j ∧ j < 1073741824) h) ha hb
theorem de_mod {W : WX} {a b : Expr} {pos : Pos} {δa δb : De} (ha : DO X cls W a δa) (hb : DO X cls W b δb) : DE X cls W (.BinOp a .Mod b pos) (eOp fMod δa δb) := de_op op_mod (ok_I fun i j h => of_decide_eq_true h) ha hb
theorem de_pow {W : WX} {a b : Expr} {pos : Pos} {δa δb : De} (ha : DO X cls W a δa) (hb : DO X cls W b δb) : DE X cls W (.BinOp a .Pow b pos) (eOp fPow δa δb) := de_op op_pow (ok_I fun i j h => of_decide_eq_true (p := 0 ≤ j ∧ j ≤ 1000000 ∧ i.natAbs < 2 ^ 64) h) ha hb
/-! ### times -/
def onLM : D → D → Option D
  | .lst xs, .int k => if -(2 ^ 63) ≤ k ∧ k < 2 ^ 63 ∧ xs.length * k.toNat ≤ sizeLine then some (.lst (List.replicate k.toNat xs).flatten) else none
  | _, _ => none
theorem ok_LM : R2Ok C (RF C) rRep onLM := fun S ρ G H x y d dx dy Q m rx ry e q => by
  cases dx <;> try cases e
  rename_i xs
  cases dy <;> try cases e
  rename_i k
  obtain ⟨a, vs, rfl, h1, r1⟩ := rx
  rw [rt_int] at ry
  subst ry
  simp only [onLM] at e
  split at e
  · rename_i hp
    cases e
    refine ⟨a, k, vs, rfl, rfl, h1, hp.1, hp.2.1, by rw [← r1.length]; exact hp.2.2, fun p hp => ?_⟩
    obtain ⟨m2, n2, r⟩ := x_new m (r1.rep _) hp
    exact q _ _ _ _ m2 n2 r
  · cases e
end
end DL

namespace DL
open PySem PySem.Spec PyProof.Rows L2

section
variable {X : Cx} {cls : Nat → Addr} {C : Cn} {W : WX} {a b c e : Expr} {pos : Pos} {δa δb δc δ : De}
/-- a comparison's answer is a truth value -/
theorem ok_B {R : R2} {f : D → D → Option D} {g : D → D → Option Bool} (hg : ∀ x y, f x y = (g x y).map D.bl)
    (h : ∀ (S : List D) ρ G H x y dx dy k (Q : VK), MemS C S ρ G H → RT C ρ G H dx x → RT C ρ G H dy y → g dx dy = some k → Q (.bl k) H → R x y H Q) : R2Ok C (RS C) R f := fun S ρ G H x y d dx dy Q m rx ry e q => by
  rw [hg] at e
  cases z : g dx dy with
  | none => rw [z] at e; cases e
  | some k =>
    rw [z] at e; cases e
    exact h S ρ G H x y dx dy k Q m rx ry z (q _ _ _ _ m .refl (rep_bl.mpr rfl))
theorem ok_eq : R2Ok C (RS C) (fun x y H Q => rEqD C.K x y H Q ∨ rEq x y H Q) cEq := ok_B (g := dEq) (fun _ _ => rfl) fun S ρ G H x y dx dy k Q m rx ry e q => by
  rcases dEq_cases dx dy with ⟨a, b, rfl, rfl, z⟩ | z
  · rw [z] at e; cases e
    rw [rt_str] at rx ry; subst rx; subst ry
    exact .inr ⟨rfl, by have w : decide (V.str a = V.str b) = (a == b) := by { rw [Bool.eq_iff_iff]; simp }; rw [w]; exact q⟩
  · rw [z] at e
    unfold dEqP at e
    split at e
    · rename_i p1 p2 h1 h2
      split at e
      · rename_i hs
        cases e
        exact .inl ⟨p1, p2, dp_rt m.sub rx h1, dp_rt m.sub ry h2, hs.1, hs.2, q⟩
      · cases e
    · cases e
theorem ok_ne : R2Ok C (RS C) (fun x y H Q => rNeD C.K x y H Q ∨ rNe x y H Q) cNe := ok_B (g := fun a b => (dEq a b).map not) (fun a b => by unfold cNe; cases dEq a b <;> rfl) fun S ρ G H x y dx dy k Q m rx ry e q => by
  rcases dEq_cases dx dy with ⟨a, b, rfl, rfl, z⟩ | z
  · rw [z] at e; cases e
    rw [rt_str] at rx ry; subst rx; subst ry
    exact .inr ⟨rfl, by have w : decide (V.str a = V.str b) = (a == b) := by { rw [Bool.eq_iff_iff]; simp }; rw [w]; exact q⟩
  · rw [z] at e
    unfold dEqP at e
    split at e
    · rename_i p1 p2 h1 h2
      split at e
      · rename_i hs
        cases e
        exact .inl ⟨p1, p2, dp_rt m.sub rx h1, dp_rt m.sub ry h2, hs.1, hs.2, q⟩
      · cases e
    · cases e
theorem dt_eq (hu : X.A.units + 64 < cLine) (ha : DO X cls W a δa) (hb : DO X cls W b δb) : DT X cls W (.Compare a [.Eq] [b] pos) (tB (eOp cEq δa δb)) := dt_cmp ((op_eqD hu).or op_eq) ok_eq ha hb (nomark _)
theorem dt_ne (hu : X.A.units + 64 < cLine) (ha : DO X cls W a δa) (hb : DO X cls W b δb) : DT X cls W (.Compare a [.NotEq] [b] pos) (tB (eOp cNe δa δb)) := dt_cmp ((op_neD hu).or op_ne) ok_ne ha hb (nomark _)
theorem de_eq (hu : X.A.units + 64 < cLine) (ha : DO X cls W a δa) (hb : DO X cls W b δb) : DE X cls W (.Compare a [.Eq] [b] pos) (eOp cEq δa δb) := de_cmp ((op_eqD hu).or op_eq) ok_eq ha hb (nomark _)
theorem de_ne (hu : X.A.units + 64 < cLine) (ha : DO X cls W a δa) (hb : DO X cls W b δb) : DE X cls W (.Compare a [.NotEq] [b] pos) (eOp cNe δa δb) := de_cmp ((op_neD hu).or op_ne) ok_ne ha hb (nomark _)
/-! order -/
def rOrd (p : Int → Int → Bool) (q : Str → Str → Bool) : R2 := fun x y H Q => (∃ i j, x = .int i ∧ y = .int j ∧ Q (.bl (p i j)) H) ∨ ∃ i j, x = .str i ∧ y = .str j ∧ Q (.bl (q i j)) H
def dOrd (p : Int → Int → Bool) (q : Str → Str → Bool) : D → D → Option D
  | .int i, .int j => some (.bl (p i j))
  | .str i, .str j => some (.bl (q i j))
  | _, _ => none
theorem ok_ord {p : Int → Int → Bool} {q : Str → Str → Bool} : R2Ok C (RS C) (rOrd p q) (dOrd p q) := fun S ρ G H x y d dx dy Q m rx ry e k => by
  cases dx <;> try cases e
  · rename_i i
    cases dy <;> try cases e
    rename_i j
    rw [rt_int] at rx ry
    exact .inl ⟨i, j, rx, ry, k _ _ _ _ m .refl (rep_bl.mpr rfl)⟩
  · rename_i i
    cases dy <;> try cases e
    rename_i j
    rw [rt_str] at rx ry
    exact .inr ⟨i, j, rx, ry, k _ _ _ _ m .refl (rep_bl.mpr rfl)⟩
abbrev oLt : D → D → Option D := dOrd (fun i j => decide (i < j)) fun i j => decide (i.cps.toList < j.cps.toList)
abbrev oLe : D → D → Option D := dOrd (fun i j => decide (i ≤ j)) fun i j => !decide (j.cps.toList < i.cps.toList)
abbrev oGt : D → D → Option D := dOrd (fun i j => decide (j < i)) fun i j => decide (j.cps.toList < i.cps.toList)
abbrev oGe : D → D → Option D := dOrd (fun i j => decide (j ≤ i)) fun i j => !decide (i.cps.toList < j.cps.toList)
theorem or_lt : OpR X (compareOp .Lt) (rOrd (fun i j => decide (i < j)) fun i j => decide (i.cps.toList < j.cps.toList)) := op_lt.or op_lt_str
theorem or_le : OpR X (compareOp .LtE) (rOrd (fun i j => decide (i ≤ j)) fun i j => !decide (j.cps.toList < i.cps.toList)) := op_le.or op_le_str
theorem or_gt : OpR X (compareOp .Gt) (rOrd (fun i j => decide (j < i)) fun i j => decide (j.cps.toList < i.cps.toList)) := op_gt.or op_gt_str
theorem or_ge : OpR X (compareOp .GtE) (rOrd (fun i j => decide (j ≤ i)) fun i j => !decide (i.cps.toList < j.cps.toList)) := op_ge.or op_ge_str
theorem dt_lt (ha : DO X cls W a δa) (hb : DO X cls W b δb) : DT X cls W (.Compare a [.Lt] [b] pos) (tB (eOp oLt δa δb)) := dt_cmp or_lt ok_ord ha hb (nomark _)
theorem dt_le (ha : DO X cls W a δa) (hb : DO X cls W b δb) : DT X cls W (.Compare a [.LtE] [b] pos) (tB (eOp oLe δa δb)) := dt_cmp or_le ok_ord ha hb (nomark _)
theorem dt_gt (ha : DO X cls W a δa) (hb : DO X cls W b δb) : DT X cls W (.Compare a [.Gt] [b] pos) (tB (eOp oGt δa δb)) := dt_cmp or_gt ok_ord ha hb (nomark _)
theorem dt_ge (ha : DO X cls W a δa) (hb : DO X cls W b δb) : DT X cls W (.Compare a [.GtE] [b] pos) (tB (eOp oGe δa δb)) := dt_cmp or_ge ok_ord ha hb (nomark _)
theorem de_lt (ha : DO X cls W a δa) (hb : DO X cls W b δb) : DE X cls W (.Compare a [.Lt] [b] pos) (eOp oLt δa δb) := de_cmp or_lt ok_ord ha hb (nomark _)
theorem de_le (ha : DO X cls W a δa) (hb : DO X cls W b δb) : DE X cls W (.Compare a [.LtE] [b] pos) (eOp oLe δa δb) := de_cmp or_le ok_ord ha hb (nomark _)
theorem de_gt (ha : DO X cls W a δa) (hb : DO X cls W b δb) : DE X cls W (.Compare a [.Gt] [b] pos) (eOp oGt δa δb) := de_cmp or_gt ok_ord ha hb (nomark _)
theorem de_ge (ha : DO X cls W a δa) (hb : DO X cls W b δb) : DE X cls W (.Compare a [.GtE] [b] pos) (eOp oGe δa δb) := de_cmp or_ge ok_ord ha hb (nomark _)
/-- a ≤ b ≤ c -/
def eChain (f g : D → D → Option D) (a b c : De) : De := fun Γ S => (a Γ S).bind fun x S1 => (b Γ S1).bind fun y S2 => (ofO (f (deref S2 x) (deref S2 y)) S2).bind fun k S3 => match asB k with
  | some true => (c Γ S3).bind fun z S4 => ofO (g (deref S4 y) (deref S4 z)) S4
  | some false => .ok (.bl false) S3
  | none => .stuck
/-! is None -/
theorem rep_isNon {ρ : List Addr} {G : Hp} : ∀ {d : D} {v : V}, Rep C ρ G d v → decide (v = .non) = isNon d := fun {d v} h => by
  cases d <;> rw [Rep] at h
  · subst h; rfl
  · subst h; rfl
  · subst h; rfl
  · subst h; rfl
  · obtain ⟨_, _, rfl, _⟩ := h; rfl
  · obtain ⟨_, _, rfl, _⟩ := h; rfl
  · obtain ⟨_, _, rfl, _⟩ := h; rfl
  · obtain ⟨_, _, _, rfl, _⟩ := h; rfl
  · obtain ⟨_, _, rfl⟩ := h; rfl
  · obtain ⟨_, rfl, _⟩ := h; rfl
theorem rt_isNon {ρ : List Addr} {G H : Hp} {d : D} {v : V} (h : RT C ρ G H d v) : decide (v = .non) = isNon d := by
  cases d with
  | lst _ => obtain ⟨_, _, rfl, _⟩ := h; rfl
  | dct _ _ => obtain ⟨_, _, rfl, _⟩ := h; rfl
  | ins _ _ _ => obtain ⟨_, _, _, rfl, _⟩ := h; rfl
  | _ => exact rep_isNon (C := C) (ρ := ρ) (G := G) h
theorem ok_isN : R2Ok C (RS C) (fun x y H Q => y = .non ∧ Q (.bl (decide (x = .non))) H) cIs := fun S ρ G H x y d dx dy Q m rx ry e q => by
  have hy : dy = .non := by cases dy <;> first | rfl | (cases dx <;> cases e)
  subst hy
  rw [rt_non] at ry
  replace e : some (D.bl (isNon dx)) = some d := by cases dx <;> exact e
  cases e
  exact ⟨ry, by rw [rt_isNon rx]; exact q _ _ _ _ m .refl (rep_bl.mpr rfl)⟩
theorem ok_notN : R2Ok C (RS C) (fun x y H Q => y = .non ∧ Q (.bl (!decide (x = .non))) H) cIsNot := fun S ρ G H x y d dx dy Q m rx ry e q => by
  have hy : dy = .non := by cases dy <;> first | rfl | (cases dx <;> cases e)
  subst hy
  rw [rt_non] at ry
  replace e : some (D.bl (!isNon dx)) = some d := by cases dx <;> exact e
  cases e
  exact ⟨ry, by rw [rt_isNon rx]; exact q _ _ _ _ m .refl (rep_bl.mpr rfl)⟩
theorem dt_isN (ha : DO X cls W a δa) (hb : DO X cls W b δb) : DT X cls W (.Compare a [.Is] [b] pos) (tB (eOp cIs δa δb)) := dt_cmp op_isN ok_isN ha hb (nomark _)
theorem dt_notN (ha : DO X cls W a δa) (hb : DO X cls W b δb) : DT X cls W (.Compare a [.IsNot] [b] pos) (tB (eOp cIsNot δa δb)) := dt_cmp op_notN ok_notN ha hb (nomark _)
theorem de_isN (ha : DO X cls W a δa) (hb : DO X cls W b δb) : DE X cls W (.Compare a [.Is] [b] pos) (eOp cIs δa δb) := de_cmp op_isN ok_isN ha hb (nomark _)
theorem de_notN (ha : DO X cls W a δa) (hb : DO X cls W b δb) : DE X cls W (.Compare a [.IsNot] [b] pos) (eOp cIsNot δa δb) := de_cmp op_notN ok_notN ha hb (nomark _)
/-! in -/
theorem rep_flat {ρ : List Addr} {G : Hp} {d : D} {v : V} (f : flatD d = true) (h : Rep C ρ G d v) : flatV v = true ∧ (d = .non ∧ v = .non ∨ (∃ b, d = .bl b ∧ v = .bl b) ∨ (∃ i, d = .int i ∧ v = .int i) ∨ ∃ x, d = .str x ∧ v = .str x) := by
  cases d <;> try cases f
  · rw [rep_non] at h; subst h; exact ⟨rfl, .inl ⟨rfl, rfl⟩⟩
  · rw [rep_bl] at h; subst h; exact ⟨rfl, .inr (.inl ⟨_, rfl, rfl⟩)⟩
  · rw [rep_int] at h; subst h; exact ⟨rfl, .inr (.inr (.inl ⟨_, rfl, rfl⟩))⟩
  · rw [rep_str] at h; subst h; exact ⟨rfl, .inr (.inr (.inr ⟨_, rfl, rfl⟩))⟩
theorem eqV_D {ρ : List Addr} {G : Hp} {d1 d2 : D} {v1 v2 : V} (f1 : flatD d1 = true) (f2 : flatD d2 = true) (h1 : Rep C ρ G d1 v1) (h2 : Rep C ρ G d2 v2) : eqV v1 v2 = eqF d1 d2 := by
  obtain ⟨_, h1⟩ := rep_flat f1 h1
  obtain ⟨_, h2⟩ := rep_flat f2 h2
  rcases h1 with ⟨rfl, rfl⟩ | ⟨_, rfl, rfl⟩ | ⟨_, rfl, rfl⟩ | ⟨_, rfl, rfl⟩ <;> rcases h2 with ⟨rfl, rfl⟩ | ⟨_, rfl, rfl⟩ | ⟨_, rfl, rfl⟩ | ⟨_, rfl, rfl⟩ <;> first | rfl | (unfold eqV eqF; simp) | (unfold eqV eqF; rfl)
theorem reps_flat {ρ : List Addr} {G : Hp} : ∀ {ds : List D} {vs : List V}, Reps C ρ G ds vs → ds.all flatD = true → vs.all flatV = true
  | [], _, h, _ => by rw [h.inv0]; rfl
  | d :: ds, _, h, f => by
    obtain ⟨v, r, rfl, h1, h2⟩ := h.inv
    rw [List.all_cons, Bool.and_eq_true] at f ⊢
    exact ⟨(rep_flat f.1 h1).1, reps_flat h2 f.2⟩
theorem inV_D {ρ : List Addr} {G : Hp} {d : D} {v : V} (f : flatD d = true) (h : Rep C ρ G d v) : ∀ {ds : List D} {vs : List V}, Reps C ρ G ds vs → ds.all flatD = true → inV v vs = inF d ds
  | [], _, h, _ => by rw [h.inv0]; rfl
  | d' :: ds, _, h', f' => by
    obtain ⟨v', r, rfl, h1, h2⟩ := h'.inv
    rw [List.all_cons, Bool.and_eq_true] at f'
    unfold inV inF
    rw [List.any_cons, List.any_cons, eqV_D f'.1 f h1 h]
    exact congrArg _ (inV_D f h h2 f'.2)
def rInA (K : PySem.W.Frag) (neg : Bool) : R2 := fun x y H Q => rIn K neg x y H Q ∨ (if neg then rNotInS x y H Q else rInS x y H Q)
theorem flat_rep {ρ : List Addr} {G H : Hp} {d : D} {v : V} (f : flatD d = true) (h : RT C ρ G H d v) : Rep C ρ G d v := by
  cases d <;> first | exact h | cases f
theorem ok_inG {neg : Bool} {f : D → D → Option D} (hf : ∀ x y, f x y = (dIn x y).map fun k => D.bl (if neg then !k else k)) : R2Ok C (RS C) (rInA C.K neg) f := ok_B (g := fun x y => (dIn x y).map fun k => if neg then !k else k) (fun x y => by rw [hf]; cases dIn x y <;> rfl) fun S ρ G H x y dx dy k Q m rx ry e q => by
  cases z : dIn dx dy with
  | none => rw [z] at e; cases e
  | some k0 =>
    rw [z] at e
    have e : (if neg then !k0 else k0) = k := Option.some.inj e
    subst e
    unfold dIn at z
    split at z
    · rename_i d xs
      split at z
      · rename_i hf
        cases z
        obtain ⟨a, vs, rfl, h1, h2⟩ := ry
        have r := flat_rep hf.1 rx
        refine .inl ⟨a, vs, rfl, .inl (SqL.of h1), (rep_flat hf.1 r).1, reps_flat h2 hf.2, ?_⟩
        rw [inV_D hf.1 r h2 hf.2]; exact q
      · cases z
    · rename_i d xs
      split at z
      · rename_i hf
        cases z
        rw [rt_tup] at ry
        obtain ⟨a, vs, rfl, h1, h2⟩ := ry
        have r := flat_rep hf.1 rx
        refine .inl ⟨a, vs, rfl, .inr (m.sub.sqT h1), (rep_flat hf.1 r).1, reps_flat h2 hf.2, ?_⟩
        rw [inV_D hf.1 r h2 hf.2]; exact q
      · cases z
    · rename_i x y
      split at z
      · rename_i hl
        cases z
        rw [rt_str] at rx ry
        subst rx ry
        obtain ⟨⟨l⟩⟩ := x
        have hl : l.length = 1 := hl
        obtain ⟨c, rfl⟩ : ∃ c, l = [c] := by
          cases l with
          | nil => cases hl
          | cons c r => cases r with
            | nil => exact ⟨c, rfl⟩
            | cons _ _ => cases hl
        refine .inr ?_
        cases neg with
        | true => exact ⟨c, y, rfl, rfl, q⟩
        | false => exact ⟨c, y, rfl, rfl, q⟩
      · cases z
    · cases z
theorem ok_in : R2Ok C (RS C) (rInA C.K false) cIn := ok_inG fun _ _ => rfl
theorem ok_notIn : R2Ok C (RS C) (rInA C.K true) cNotIn := ok_inG fun _ _ => rfl
theorem or_in : OpR X (compareOp .In) (rInA X.K false) := op_in_seq.or op_inS
theorem or_notIn : OpR X (compareOp .NotIn) (rInA X.K true) := op_notIn_seq.or op_notInS
theorem dt_in (ha : DO X cls W a δa) (hb : DO X cls W b δb) (hm : behindInMarks .In b = false) : DT X cls W (.Compare a [.In] [b] pos) (tB (eOp cIn δa δb)) := dt_cmp or_in ok_in ha hb hm
theorem dt_notIn (ha : DO X cls W a δa) (hb : DO X cls W b δb) (hm : behindInMarks .NotIn b = false) : DT X cls W (.Compare a [.NotIn] [b] pos) (tB (eOp cNotIn δa δb)) := dt_cmp or_notIn ok_notIn ha hb hm
theorem de_in (ha : DO X cls W a δa) (hb : DO X cls W b δb) (hm : behindInMarks .In b = false) : DE X cls W (.Compare a [.In] [b] pos) (eOp cIn δa δb) := de_cmp or_in ok_in ha hb hm
theorem de_notIn (ha : DO X cls W a δa) (hb : DO X cls W b δb) (hm : behindInMarks .NotIn b = false) : DE X cls W (.Compare a [.NotIn] [b] pos) (eOp cNotIn δa δb) := de_cmp or_notIn ok_notIn ha hb hm
end
end DL

namespace DL
open PySem PySem.Spec PyProof.Rows L2

/-! ### tuple * int: once, or of nothing -/
theorem tuple_mulS (l : Addr) (items : Array Value) (n : Nat) (dd : Option Addr) (sl : Array (Option Value)) (x : Int) (u : Tok) (c0 : (decide (x < -(2 ^ 63)) || decide (x ≥ 2 ^ 63)) = false) (c1 : (items.isEmpty || x == 1) = true) :
    Meets (Builtin.«tuple.__mul__» ⟨[.ref l, .int x u], []⟩) (fun _ R s => s.heap.get? l = some { cls := .type "tuple", dict := dd, data := .seq items n, slots := sl } ∧ R (.ok (.ret (Value.ref l))) s) :=
  .of_wp fun prog w A R s h => by
    obtain ⟨hp, g, d, tk, os⟩ := s
    obtain ⟨hl, h⟩ := h
    have f1 := AutoSeq1.idx_int
    wp_walk using wpAny_loadPart' hl
    repeat (first
      | (refine wpAny_ite_false (decide_eq_false (by rw [c0]; exact Bool.false_ne_true)) ?_; wp_walk using wpAny_loadPart' hl)
      | (refine wpAny_ite_true (decide_eq_true c1) ?_; wp_walk using wpAny_loadPart' hl))
    exact ⟨_, rfl, h⟩
def rRepS (K : PySem.W.Frag) : R2 := fun x y H Q => ∃ l k xs, x = .ref l ∧ y = .int k ∧ SqT K H l xs ∧ -(2 ^ 63) ≤ k ∧ k < 2 ^ 63 ∧ (xs = [] ∨ k = 1) ∧ Q (.ref l) H
theorem op_repS {X : Cx} : OpR X (binaryOp .Mult) (rRepS X.K) := by
  intro pins s σ H x y v u Q I rx ry h
  obtain ⟨l, k, xs, rfl, rfl, hT, h1, h2, hz, q⟩ := h
  cases rx
  obtain ⟨t, rfl⟩ := ry
  obtain ⟨its, r, ⟨⟨cls, dd, data, sl⟩, ho, hc, n, hd⟩, hs⟩ := I.tuple hT
  simp only at hc hd
  subst hc hd
  have c0 : (decide (k < -(2 ^ 63)) || decide (k ≥ 2 ^ 63)) = false := by
    rw [decide_eq_false (by omega), decide_eq_false (by omega)] <;> rfl
  have c1 : (its.toArray.isEmpty || k == 1) = true := by
    rcases hz with rfl | rfl
    · cases r; rfl
    · simp
  exact wpAny_binaryOp_repeat_ref (T := "tuple") (U := "int") (by decide) ⟨_, ho, rfl⟩ (fun s' => typeIs_int s' k t) noFill_tuple_mul F.fills_int_mul F.slot_int_rmul repeat_tuple F.slot_int_index.lookup
    (call_meets F.slot_int_rmul (typeIs_int s k t) F.entry_int_rmul (F.args_int_rmul_2 _ _) (int_rmul_tuple k t l its.toArray n dd sl)
      ⟨ho, rfl, ⟨_, ho, rfl⟩, call_meets F.slot_tuple_mul ⟨_, ho, rfl⟩ F.entry_tuple_mul (F.args_tuple_mul_2 _ _) (tuple_mulS l its.toArray n dd sl k t c0 c1) ⟨ho, ⟨.ref l, H, I, rfl, q⟩⟩⟩)

section
variable {X : Cx} {cls : Nat → Addr} {C : Cn} {W : WX} {a b c e : Expr} {pos : Pos} {δa δb δc δ : De}
def onTM : D → D → Option D
  | .tup xs, .int k => if 1 ≤ k ∧ k ≤ 1000 ∧ xs.length ≤ 1000 then some (.tup (List.replicate k.toNat xs).flatten) else none
  | _, _ => none
theorem ok_TM : R2Ok C (RS C) (fun x y H Q => rRepS C.K x y H Q ∨ rRepT C.K x y H Q) onTM := fun S ρ G H x y d dx dy Q m rx ry e q => by
  cases dx <;> try cases e
  rename_i xs
  cases dy <;> try cases e
  rename_i k
  rw [rt_tup] at rx
  obtain ⟨a, vs, rfl, h1, r1⟩ := rx
  rw [rt_int] at ry
  subst ry
  simp only [onTM] at e
  split at e
  · rename_i hp
    cases e
    have hl := r1.length
    by_cases hx : vs = []
    · subst hx
      have e0 : xs = [] := by cases xs with
        | nil => rfl
        | cons _ _ => cases hl
      subst e0
      refine .inl ⟨a, k, [], rfl, rfl, m.sub.sqT h1, by omega, by omega, .inl rfl, q _ _ _ _ m .refl (rep_tup.mpr ⟨a, [], rfl, h1, ?_⟩)⟩
      have z : (List.replicate k.toNat ([] : List D)).flatten = [] := by induction k.toNat with
        | zero => rfl
        | succ n ih => rw [List.replicate_succ, List.flatten_cons, ih]; rfl
      rw [z]; exact .nil
    · by_cases hk : k = 1
      · subst hk
        refine .inl ⟨a, 1, vs, rfl, rfl, m.sub.sqT h1, by decide, by decide, .inr rfl, q _ _ _ _ m .refl (rep_tup.mpr ⟨a, vs, rfl, h1, ?_⟩)⟩
        simpa using r1
      · refine .inr ⟨a, k, vs, rfl, rfl, m.sub.sqT h1, hx, by omega, hp.2.1, by omega, fun p hpn => ?_⟩
        obtain ⟨G2, m2, n2, r⟩ := x_newT m (r1.rep k.toNat) hpn
        exact q _ _ _ _ m2 n2 r
  · cases e
theorem dMul_cases (a b d : D) (h : dMul a b = some d) : fMulI a b = some d ∨ onLM a b = some d ∨ onTM a b = some d := by
  cases a <;> cases b <;> first
    | exact .inr (.inl h)
    | exact .inr (.inr h)
    | (cases h; done)
    | (refine .inl ?_
       simp only [dMul] at h
       split at h
       · rename_i hm
         show (if decide (mulOk _ _) = true then _ else _) = _
         rw [if_pos (decide_eq_true hm)]; exact h
       · cases h)
theorem de_mul (ha : DO X cls W a δa) (hb : DO X cls W b δb) : DE X cls W (.BinOp a .Mult b pos) (eOp dMul δa δb) :=
  de_op (op_mul.or (op_rep.or (op_repS.or op_repT))) ((ok_I fun i j h => of_decide_eq_true (p := mulOk i j) h).or (g := dMul) (f' := fun a b => if (onLM a b).isSome then onLM a b else onTM a b) ((rf_rs ok_LM).or (f' := onTM) ok_TM (fun a b d h => by
      by_cases z : (onLM a b).isSome
      · rw [if_pos z] at h; exact .inl h
      · rw [if_neg z] at h; exact .inr h)) (fun a b d h => by
      rcases dMul_cases a b d h with h | h | h
      · exact .inl h
      · exact .inr (by rw [h]; rfl)
      · exact .inr (by cases a <;> cases b <;> first | cases h | (show (if (Option.isSome none) = true then _ else _) = _; exact h)))) ha hb
theorem de_neg (ha : DO X cls W a δa) : DE X cls W (.UnaryOp .USub a pos) (eUn dNeg δa) := de_un un_neg (fun S ρ G H x d dx Q m rx e q => by
  cases dx <;> try cases e
  rw [rt_int] at rx
  subst rx
  exact ⟨_, rfl, q _ _ _ _ m .refl (rep_int.mpr rfl)⟩) ha

/-! ### places -/
theorem atI_reps {ρ : List Addr} {G : Hp} {ds : List D} {vs : List V} (r : Reps C ρ G ds vs) {i : Int} {d : D} (h : atI ds i = some d) : ∃ v, atI vs i = some v ∧ Rep C ρ G d v := by
  unfold atI at h ⊢
  rw [r.length] at h
  cases z : ixN vs.length i with
  | none => rw [z] at h; cases h
  | some j =>
    rw [z] at h
    obtain ⟨v, hv, rv⟩ := r.get (i := j) h
    exact ⟨v, hv, rv⟩
theorem atI_map {α β : Type} (f : α → β) (xs : List α) (i : Int) : atI (xs.map f) i = (atI xs i).map f := by
  unfold atI
  rw [List.length_map]
  cases ixN xs.length i with
  | none => rfl
  | some j => simp
theorem ok_ix : R2Ok C (RS C) (rIx C.K) dIdx := fun S ρ G H x y d dx dy Q m rx ry e q => by
  cases dx <;> try cases e
  · cases dy <;> try cases e
    rename_i x i
    rw [rt_str] at rx; rw [rt_int] at ry
    subst rx ry
    simp only [dIdx] at e
    split at e
    · rename_i hz
      cases z : atI x.cps.toList i with
      | none => rw [z] at e; cases e
      | some c =>
        rw [z] at e; cases e
        exact .inr (.inr ⟨x, i, c, rfl, rfl, hz, z, q _ _ _ _ m .refl (rep_str.mpr rfl)⟩)
    · cases e
  · cases dy <;> try cases e
    rename_i xs i
    rw [rt_int] at ry
    subst ry
    obtain ⟨a, vs, rfl, h1, r1⟩ := rx
    obtain ⟨v, hv, rv⟩ := atI_reps r1 (show atI xs i = some d from e)
    exact .inl ⟨a, vs, i, v, rfl, rfl, SqL.of h1, hv, q _ _ _ _ m .refl rv⟩
  · cases dy <;> try cases e
    rename_i xs i
    rw [rt_int] at ry
    subst ry
    rw [rt_tup] at rx
    obtain ⟨a, vs, rfl, h1, r1⟩ := rx
    obtain ⟨v, hv, rv⟩ := atI_reps r1 (show atI xs i = some d from e)
    exact .inr (.inl ⟨a, vs, i, v, rfl, rfl, m.sub.sqT h1, hv, q _ _ _ _ m .refl rv⟩)
  · cases dy <;> try cases e
    rename_i xs i
    rw [rt_int] at ry
    subst ry
    rw [rt_scr] at rx
    obtain ⟨a, rfl, h1⟩ := rx
    replace e : (atI xs i).map D.int = some d := e
    cases z : atI xs i with
    | none => rw [z] at e; cases e
    | some n =>
      rw [z] at e; cases e
      exact .inl ⟨a, _, i, .int n, rfl, rfl, m.sub.sqL h1, by rw [atI_map, z]; rfl, q _ _ _ _ m .refl (rep_int.mpr rfl)⟩
theorem de_sub_ (ha : DO X cls W a δa) (hb : DO X cls W b δb) (hs : PlainIx b := by exact fun _ _ => rfl) : DE X cls W (.Subscript a b pos) (eOp dIdx δa δb) := de_ix ix_seq ok_ix ha hb hs

/-! ### slices -/
def RQ {α : Type} : RVT α α := fun _ _ _ _ a b => a = b
theorem back_RQ {α : Type} : Back (RQ (α := α)) := fun _ _ _ _ _ _ _ _ h => h
abbrev Dp_ := List Sl → List D → Res (Option Int)
def tP (C : Cn) (W : WX) (δ : Dp_) : TO := fun σ H Q => ∃ Γ S ρ G, Mem C Γ S ρ G H σ ∧ Post C W RQ Γ ρ G H σ (δ Γ S) Q
def DP (X : Cx) (cls : Nat → Addr) (W : WX) (e : Option Expr) (δ : Dp_) : Prop := PO X e (tP ⟨X.K, cls⟩ W δ)
theorem PO.weak {X : Cx} {e : Option Expr} {t t' : TO} (h : PO X e t) (i : ∀ σ H Q, t' σ H Q → t σ H Q) : PO X e t' := ⟨fun pins s σ H Q I h' => h.run pins s σ H Q I (i σ H Q h')⟩
def pNo : Dp_ := fun _ S => .ok none S
def asI : D → Option Int | .int i => some i | _ => none
def pSo (a : De) : Dp_ := fun Γ S => (a Γ S).bind fun x S1 => ofO ((asI x).map some) S1
theorem dp_no : DP X cls W none pNo := PO.weak po_none fun σ H Q ⟨Γ, S, ρ, G, m, p⟩ => p.at m rfl
theorem dp_so (ha : DE X cls W a δa) : DP X cls W (some a) (pSo δa) := PO.weak (po_some ha) fun σ H Q ⟨Γ, S, ρ, G, m, p⟩ => ⟨Γ, S, ρ, G, m, (Post.seq back_RQ p).mono fun x H1 ⟨dx, S1, ρ1, G1, m1, n1, r1, p1⟩ => by
  obtain ⟨k, hk, p2⟩ := ofO_post p1
  cases dx <;> try cases hk
  exact ⟨_, rep_int.mp r1, p2.at m1 rfl⟩⟩
def dCut (d : D) (lo hi : Option Int) : Option D := match d with
  | .lst xs => some (.lst (cutD xs lo hi))
  | .tup xs => some (.tup (cutD xs lo hi))
  | .str x => if x.length ≤ sizeLine then some (.str (cutS x lo hi)) else none
  | _ => none
def onlyL (d : D) (lo hi : Option Int) : Option D := match d with
  | .lst xs => some (.lst (cutD xs lo hi))
  | _ => none
def eCut (f : D → Option Int → Option Int → Option D) (a : De) (lo hi : Dp_) : De := fun Γ S => (a Γ S).bind fun x S1 => (lo Γ S1).bind fun l S2 => (hi Γ S2).bind fun h S3 => ofO (f (deref S3 x) l h) S3
theorem Reps.cut {ρ : List Addr} {G : Hp} {ds : List D} {vs : List V} (r : Reps C ρ G ds vs) (lo hi : Option Int) : Reps C ρ G (cutD ds lo hi) (cutV vs lo hi) := by
  unfold cutD cutV
  rw [r.length]
  exact (r.drop _).take _
theorem x_cut {RV : RVT D V} (bk : Back RV) {lo hi : Dp_} {R : V → Option Int → Option Int → Hp → VK → Prop} {f : D → Option Int → Option Int → Option D}
    (ho : ∀ (S : List D) ρ G H x dx l h d (Q : VK), MemS ⟨X.K, cls⟩ S ρ G H → RT ⟨X.K, cls⟩ ρ G H dx x → f dx l h = some d → (∀ v ρ' G' H', MemS ⟨X.K, cls⟩ S ρ' G' H' → Nx ρ G H ρ' G' H' → RV H ρ' G' H' d v → Q v H') → R x l h H Q)
    {σ : L2.St} {H : Hp} {Q : VK} (h : tE ⟨X.K, cls⟩ W RV (eCut f δa lo hi) σ H Q) : tSl R (tE ⟨X.K, cls⟩ W (RO ⟨X.K, cls⟩) δa) (tP ⟨X.K, cls⟩ W lo) (tP ⟨X.K, cls⟩ W hi) σ H Q := by
  obtain ⟨Γ, S, ρ, G, m, p⟩ := h
  refine ⟨Γ, S, ρ, G, m, (Post.seq bk p).mono fun x H1 ⟨dx, S1, ρ1, G1, m1, n1, r1, p1⟩ => ⟨Γ, S1, ρ1, G1, m1, (Post.seq (RV := RQ) bk p1).mono fun l H2 ⟨l', S2, ρ2, G2, m2, n2, r2, p2⟩ => ⟨Γ, S2, ρ2, G2, m2, (Post.seq (RV := RQ) bk p2).mono fun h H3 ⟨h', S3, ρ3, G3, m3, n3, r3, p3⟩ => ?_⟩⟩⟩
  have e2 : l' = l := r2
  have e3 : h' = h := r3
  subst e2 e3
  obtain ⟨d, hd, p4⟩ := ofO_post p3
  exact ho S3 ρ3 G3 H3 x _ l' h' d Q m3.toS (m3.read (H0 := H1) ((r1.step (H1 := H1) n2).step n3)) hd fun v ρ' G' H' m' n' r' => p4.here (m3.step n' m') n' r'
theorem de_cut {lo hi : Option Expr} {δl δh : Dp_} {p2 : Pos} (ha : DO X cls W a δa) (hl : DP X cls W lo δl) (hh : DP X cls W hi δh) : DE X cls W (.Subscript a (.Slice lo hi none p2) pos) (eCut dCut δa δl δh) :=
  PE.weak (pe_slice (sl_list.or (sl_tupA.or sl_str)) ha hl hh) fun σ H Q h => x_cut back_RS (fun S ρ G H x dx l h d Q m rx e q => by
    cases dx <;> try cases e
    · rw [rt_str] at rx
      subst rx
      simp only [dCut] at e
      split at e
      · rename_i hz
        cases e
        exact .inr (.inr ⟨_, rfl, hz, q _ _ _ _ m .refl (rep_str.mpr rfl)⟩)
      · cases e
    · obtain ⟨a, vs, rfl, h1, r1⟩ := rx
      refine .inl ⟨a, vs, rfl, SqL.of h1, fun p hp => ?_⟩
      obtain ⟨m2, n2, r⟩ := x_new m (r1.cut l h) hp
      obtain ⟨G2, m3, n3, r3⟩ := RF.settle m n2 m2 r
      exact q _ _ _ _ m3 n3 r3
    · rw [rt_tup] at rx
      obtain ⟨a, vs, rfl, h1, r1⟩ := rx
      refine .inr (.inl ⟨a, vs, rfl, m.sub.sqT h1, fun hw => ?_, fun _ p hp => ?_⟩)
      · have z : cutV vs l h = vs := by
          unfold cutV
          rw [hw.1, hw.2]; simp
        exact q _ _ _ _ m .refl (rep_tup.mpr ⟨a, vs, rfl, h1, by rw [← z]; exact r1.cut l h⟩)
      · obtain ⟨G2, m2, n2, r⟩ := x_newT m (r1.cut l h) hp
        exact q _ _ _ _ m2 n2 r) h
theorem df_cut {lo hi : Option Expr} {δl δh : Dp_} {p2 : Pos} (ha : DO X cls W a δa) (hl : DP X cls W lo δl) (hh : DP X cls W hi δh) : DF X cls W (.Subscript a (.Slice lo hi none p2) pos) (eCut onlyL δa δl δh) :=
  PE.weak (pe_slice sl_list ha hl hh) fun σ H Q h => x_cut back_RF (fun S ρ G H x dx l h d Q m rx e q => by
    cases dx <;> try cases e
    obtain ⟨a, vs, rfl, h1, r1⟩ := rx
    refine ⟨a, vs, rfl, SqL.of h1, fun p hp => ?_⟩
    obtain ⟨m2, n2, r⟩ := x_new m (r1.cut l h) hp
    exact q _ _ _ _ m2 n2 r) h

/-! ### built-in calls -/
def RC1 (C : Cn) (RV : RVT D V) (R : List V → Hp → VK → Prop) (f : D → Option D) : Prop := ∀ (S : List D) (ρ : List Addr) (G H : Hp) (x : V) (d dx : D) (Q : VK), MemS C S ρ G H → RT C ρ G H dx x → f dx = some d →
  (∀ v ρ' G' H', MemS C S ρ' G' H' → Nx ρ G H ρ' G' H' → RV H ρ' G' H' d v → Q v H') → R [x] H Q
def RC2 (C : Cn) (RV : RVT D V) (R : List V → Hp → VK → Prop) (f : D → D → Option D) : Prop := ∀ (S : List D) (ρ : List Addr) (G H : Hp) (x y : V) (d dx dy : D) (Q : VK), MemS C S ρ G H → RT C ρ G H dx x → RT C ρ G H dy y → f dx dy = some d →
  (∀ v ρ' G' H', MemS C S ρ' G' H' → Nx ρ G H ρ' G' H' → RV H ρ' G' H' d v → Q v H') → R [x, y] H Q
theorem x_c1 {RV : RVT D V} (bk : Back RV) {R : List V → Hp → VK → Prop} {f : D → Option D} (h : PE X e (tCB R (tCons (tE ⟨X.K, cls⟩ W (RO ⟨X.K, cls⟩) δa) tNil))) (ho : RC1 ⟨X.K, cls⟩ RV R f) : PE X e (tE ⟨X.K, cls⟩ W RV (eUn f δa)) :=
  PE.weak h fun σ H Q h => x_un (R := fun x H Q => R [x] H Q) bk (fun S ρ G H x d dx Q m rx e q => ho S ρ G H x d dx Q m rx e q) h
theorem x_c2 {RV : RVT D V} (bk : Back RV) {R : List V → Hp → VK → Prop} {f : D → D → Option D} (h : PE X e (tCB R (tCons (tE ⟨X.K, cls⟩ W (RO ⟨X.K, cls⟩) δa) (tCons (tE ⟨X.K, cls⟩ W (RO ⟨X.K, cls⟩) δb) tNil)))) (ho : RC2 ⟨X.K, cls⟩ RV R f) : PE X e (tE ⟨X.K, cls⟩ W RV (eOp f δa δb)) :=
  PE.weak h fun σ H Q h => x_op (R := fun x y H Q => R [x, y] H Q) bk (fun S ρ G H x y d dx dy Q m rx ry e q => ho S ρ G H x y d dx dy Q m rx ry e q) h
theorem da1 (ha : DO X cls W a δa) (hs : starEach [a] X.env = (false, eval a X.env) :: starEach [] X.env := by rfl) : PA X [a] (tCons (tE ⟨X.K, cls⟩ W (RO ⟨X.K, cls⟩) δa) tNil) := pa_cons ha pa_nil hs
theorem da2 (ha : DO X cls W a δa) (hb : DO X cls W b δb) (hs : starEach [a, b] X.env = (false, eval a X.env) :: starEach [b] X.env := by rfl) (hs2 : starEach [b] X.env = (false, eval b X.env) :: starEach [] X.env := by rfl) : PA X [a, b] (tCons (tE ⟨X.K, cls⟩ W (RO ⟨X.K, cls⟩) δa) (tCons (tE ⟨X.K, cls⟩ W (RO ⟨X.K, cls⟩) δb) tNil)) := pa_cons ha (pa_cons hb pa_nil hs2) hs
theorem rc_len : RC1 C (RS C) (fun xs H Q => (∃ p ys, xs = [.ref p] ∧ (SqL C.K H p ys ∨ SqT C.K H p ys) ∧ Q (.int ys.length) H) ∨ ∃ z, xs = [.str z] ∧ z.length ≤ sizeLine ∧ Q (.int z.length) H) dLen := fun S ρ G H x d dx Q m rx e q => by
  cases dx <;> try cases e
  · rw [rt_str] at rx; subst rx
    simp only [dLen] at e
    split at e
    · cases e; exact .inr ⟨_, rfl, by assumption, q _ _ _ _ m .refl (rep_int.mpr rfl)⟩
    · cases e
  · obtain ⟨a, vs, rfl, h1, r1⟩ := rx
    exact .inl ⟨a, vs, rfl, .inl (SqL.of h1), q _ _ _ _ m .refl (rep_int.mpr (by rw [r1.length]))⟩
  · rw [rt_tup] at rx
    obtain ⟨a, vs, rfl, h1, r1⟩ := rx
    exact .inl ⟨a, vs, rfl, .inr (m.sub.sqT h1), q _ _ _ _ m .refl (rep_int.mpr (by rw [r1.length]))⟩
  · rw [rt_scr] at rx
    obtain ⟨a, rfl, h1⟩ := rx
    exact .inl ⟨a, _, rfl, .inl (m.sub.sqL h1), q _ _ _ _ m .refl (rep_int.mpr (by rw [List.length_map]))⟩
variable {p : Pos}
theorem de_len (hg : Gl X "len") (hm : X.mg "len" = none) (ha : DO X cls W a δa) (he : starEach [a] X.env = (false, eval a X.env) :: starEach [] X.env := by rfl) (hpl : (backTo pos (starEach [] X.env)).any (·.1) = false := by rfl) : DE X cls W (.Call (.Name "len" p) [a] [] pos) (eUn dLen δa) :=
  x_c1 back_RS (pe_callB (call_len_seq.or call_len_str) hg hm PySem.boot_len (da1 ha he) (by decide) (by decide) he hpl) rc_len
def dInt : D → Option D
  | .int i => some (.int i)
  | .bl b => some (.int (if b then 1 else 0))
  | .str x => if x.length ≤ 640 then (PySem.intText? x).map .int else none
  | _ => none
theorem rc_int : RC1 C (RS C) (fun xs H Q => ((∃ i, xs = [.int i] ∧ Q (.int i) H) ∨ ∃ k, xs = [.bl k] ∧ Q (.int (if k then 1 else 0)) H) ∨ ∃ a n, xs = [.str a] ∧ PySem.intText? a = some n ∧ a.length ≤ 640 ∧ Q (.int n) H) dInt := fun S ρ G H x d dx Q m rx e q => by
  cases dx <;> try cases e
  · rw [rt_bl] at rx; subst rx; exact .inl (.inr ⟨_, rfl, q _ _ _ _ m .refl (rep_int.mpr rfl)⟩)
  · rw [rt_int] at rx; subst rx; exact .inl (.inl ⟨_, rfl, q _ _ _ _ m .refl (rep_int.mpr rfl)⟩)
  · rename_i x
    rw [rt_str] at rx; subst rx
    simp only [dInt] at e
    split at e
    · cases z : PySem.intText? x with
      | none => rw [z] at e; cases e
      | some n => rw [z] at e; cases e; exact .inr ⟨_, n, rfl, z, by assumption, q _ _ _ _ m .refl (rep_int.mpr rfl)⟩
    · cases e
theorem de_intc (hg : Gl X "int") (hm : X.mg "int" = none) (ha : DO X cls W a δa) (he : starEach [a] X.env = (false, eval a X.env) :: starEach [] X.env := by rfl) (hpl : (backTo pos (starEach [] X.env)).any (·.1) = false := by rfl) : DE X cls W (.Call (.Name "int" p) [a] [] pos) (eUn dInt δa) :=
  x_c1 back_RS (pe_callTy (call_int1.or call_int_str) hg hm (by decide +kernel) (da1 ha he) (by decide) (by decide) he hpl) rc_int
def dTuple : D → Option D
  | .lst xs => some (.tup xs)
  | .tup xs => some (.tup xs)
  | _ => none
theorem rc_tuple : RC1 C (RS C) (fun xs H Q => ∃ p ys, xs = [.ref p] ∧ ((SqL C.K H p ys ∧ ∀ l, H l = none → Q (.ref l) (upd H l (.tup ys))) ∨ (SqT C.K H p ys ∧ Q (.ref p) H))) dTuple := fun S ρ G H x d dx Q m rx e q => by
  cases dx <;> try cases e
  · obtain ⟨a, vs, rfl, h1, r1⟩ := rx
    refine ⟨a, vs, rfl, .inl ⟨SqL.of h1, fun l hl => ?_⟩⟩
    obtain ⟨G2, m2, n2, r⟩ := x_newT m r1 hl
    exact q _ _ _ _ m2 n2 r
  · rw [rt_tup] at rx
    obtain ⟨a, vs, rfl, h1, r1⟩ := rx
    exact ⟨a, vs, rfl, .inr ⟨m.sub.sqT h1, q _ _ _ _ m .refl (rep_tup.mpr ⟨a, vs, rfl, h1, r1⟩)⟩⟩
theorem de_tuple (hg : Gl X "tuple") (hm : X.mg "tuple" = none) (ha : DO X cls W a δa) (he : starEach [a] X.env = (false, eval a X.env) :: starEach [] X.env := by rfl) (hpl : (backTo pos (starEach [] X.env)).any (·.1) = false := by rfl) : DE X cls W (.Call (.Name "tuple" p) [a] [] pos) (eUn dTuple δa) :=
  x_c1 back_RS (pe_callTy call_tuple_of hg hm (by decide +kernel) (da1 ha he) (by decide) (by decide) he hpl) rc_tuple
def dList : D → Option D
  | .lst xs => some (.lst xs)
  | .tup xs => some (.lst xs)
  | _ => none
theorem rc_list : RC1 C (RF C) (fun xs H Q => ∃ p ys, xs = [.ref p] ∧ (SqL C.K H p ys ∨ SqT C.K H p ys) ∧ ∀ l, H l = none → Q (.ref l) (upd H l (.lst ys))) dList := fun S ρ G H x d dx Q m rx e q => by
  cases dx <;> try cases e
  · obtain ⟨a, vs, rfl, h1, r1⟩ := rx
    refine ⟨a, vs, rfl, .inl (SqL.of h1), fun l hl => ?_⟩
    obtain ⟨m2, n2, r⟩ := x_new m r1 hl
    exact q _ _ _ _ m2 n2 r
  · rw [rt_tup] at rx
    obtain ⟨a, vs, rfl, h1, r1⟩ := rx
    refine ⟨a, vs, rfl, .inr (m.sub.sqT h1), fun l hl => ?_⟩
    obtain ⟨m2, n2, r⟩ := x_new m r1 hl
    exact q _ _ _ _ m2 n2 r
theorem df_list (hg : Gl X "list") (hm : X.mg "list" = none) (ha : DO X cls W a δa) (he : starEach [a] X.env = (false, eval a X.env) :: starEach [] X.env := by rfl) (hpl : (backTo pos (starEach [] X.env)).any (·.1) = false := by rfl) : DF X cls W (.Call (.Name "list" p) [a] [] pos) (eUn dList δa) :=
  x_c1 back_RF (pe_callTy call_list_of hg hm (by decide +kernel) (da1 ha he) (by decide) (by decide) he hpl) rc_list
/-! isinstance -/
def tyN : D → Option String
  | .non => some "NoneType" | .bl _ => some "bool" | .int _ => some "int" | .str _ => some "str" | .lst _ => some "list" | .tup _ => some "tuple" | .dct _ _ => some "dict" | .scr _ => some "list" | _ => none
def dIsi (T : String) (d : D) : Option D := (tyN d).bind fun t => (kitB t T).map .bl
theorem rt_tyN {ρ : List Addr} {G H : Hp} (e : Sub G H) {d : D} {v : V} {t : String} (h : RT C ρ G H d v) (k : tyN d = some t) : TyX C.K H v (.type t) := by
  cases d <;> cases k
  · rw [rt_non] at h; subst h; exact .base .non
  · rw [rt_bl] at h; subst h; exact .base (.bl _)
  · rw [rt_int] at h; subst h; exact .base (.int _)
  · rw [rt_str] at h; subst h; exact .base (.str _)
  · obtain ⟨a, vs, rfl, h1, _⟩ := h; exact .base (.lst h1)
  · rw [rt_tup] at h
    obtain ⟨a, vs, rfl, h1, _⟩ := h
    rcases e.sqT h1 with (h1 | ⟨o, h1⟩) | ⟨o, its, n, h1, h2, _⟩
    · exact .base (.tup h1)
    · exact .fTuple h1
    · exact .kTuple h1 h2
  · obtain ⟨a, vs, rfl, h1, _⟩ := h; exact .base (.dK h1)
  · rw [rt_scr] at h
    obtain ⟨a, rfl, h1⟩ := h
    rcases e.sqL h1 with (h1 | ⟨o, h1⟩) | ⟨o, its, n, h1, h2, _⟩
    · exact .base (.lst h1)
    · exact .base (.frz h1)
    · exact .kList h1 h2
theorem de_isi {T : String} {y : Str} {p2 : Pos} (hg : Gl X "isinstance") (hm : X.mg "isinstance" = none) (hgT : Gl X y) (hmT : X.mg y = none) (hvT : bootBuiltins y = some (.type T)) (ha : DO X cls W a δa)
    (hn : y ≠ "__name__" := by decide) (hdb : (y == ("__debug__" : Str)) = false := by decide)
    (he : starEach [a, .Name y p2] X.env = (false, eval a X.env) :: starEach [.Name y p2] X.env := by rfl) (he2 : starEach [.Name y p2] X.env = (false, eval (.Name y p2) X.env) :: starEach [] X.env := by rfl) (hpl : (backTo pos (starEach [.Name y p2] X.env)).any (·.1) = false := by rfl) :
    DE X cls W (.Call (.Name "isinstance" p) [a, .Name y p2] [] pos) (eUn (dIsi T) δa) :=
  PE.weak (pe_callB call_isi hg hm (by decide +kernel) (pa_cons ha (pa_cons (pe_bltn (v := .ty T) hgT hmT hvT rfl hn hdb) pa_nil he2) he) (by decide) (by decide) he hpl) fun σ H Q h =>
    x_un (R := fun x H Q => rIsi X.K [x, .ty T] H Q) back_RS (fun S ρ G H x d dx Q m rx e q => by
      unfold dIsi at e
      cases k : tyN dx with
      | none => rw [k] at e; cases e
      | some t =>
        rw [k] at e
        cases z : kitB t T with
        | none => simp only [Option.bind_some, z] at e; cases e
        | some b =>
          simp only [Option.bind_some, z] at e; cases e
          exact ⟨x, .ty T, _, _, b, rfl, .ty T, rt_tyN m.sub rx k, kit_ty z, q _ _ _ _ m .refl (rep_bl.mpr rfl)⟩) h
end
end DL

namespace DL
open PySem PySem.Spec PyProof.Rows L2

/-! ### statements -/
/-- an entry (a def's), and what has been settled since a loop began -/
structure Ent where
  ρ : List Addr
  G : Hp
  H : Hp
  B : Hp
  R : List Addr
structure SI (C : Cn) (en : Ent) (Γ : List Sl) (S : List D) (ρ : List Addr) (G H : Hp) (σ : L2.St) : Prop where
  mem : Mem C Γ S ρ G H σ
  nx : Nx en.ρ en.G en.H ρ G H
  frs : ∀ (i : Nat) (d : D) (a : Addr), Γ[i]? = some (Sl.own d) → σ[i]? = some (some (V.ref a)) → en.H a = none
  base : Sub en.B G
  basr : en.R <+: ρ
section
variable {C : Cn} {W : WX} {en : Ent} {Γ Γ' : List Sl} {S S' : List D} {ρ ρ' : List Addr} {G G' H H' : Hp} {σ σ' : L2.St}
theorem SI.step (i : SI C en Γ S ρ G H σ) (m : Mem C Γ S' ρ' G' H' σ) (n : Nx ρ G H ρ' G' H') : SI C en Γ S' ρ' G' H' σ := ⟨m, i.nx.trans n, i.frs, i.base.trans n.ext, i.basr.trans n.pre⟩
/-- what is wanted behind a statement -/
def PostS (C : Cn) (W : WX) (en : Ent) (D : Ends) : Out → Prop
  | .next Γ S => ∀ ρ G H σ, SI C en Γ S ρ G H σ → D.nx σ H
  | .brk Γ S => ∀ ρ G H σ, SI C en Γ S ρ G H σ → D.bk σ H
  | .cont Γ S => ∀ ρ G H σ, SI C en Γ S ρ G H σ → D.ct σ H
  | .ret d S => ∀ v ρ G H, MemS C S ρ G H → Nx en.ρ en.G en.H ρ G H → Rep C ρ G d v → D.rt v H
  | .exc e Γ S => ∀ cls dx ρ G H σ, SI C en Γ S ρ G H σ → ExRep C ρ G H e cls dx → W cls dx σ H
  | .stuck => False
def tS (C : Cn) (W : WX) (δ : Ds) : TS := fun D σ H => ∃ en Γ S ρ G, SI C en Γ S ρ G H σ ∧ PostS C W en D (δ Γ S)
def DS (X : Cx) (cls : Nat → Addr) (W : WX) (st : Stmt) (δ : Ds) : Prop := PS X st (tS ⟨X.K, cls⟩ W δ)
def DSs (X : Cx) (cls : Nat → Addr) (W : WX) (st : List Stmt) (δ : Ds) : Prop := PSs X st (tS ⟨X.K, cls⟩ W δ)
theorem PostS.mono {D D' : Ends} {o : Out} (h : PostS C W en D o) (h1 : ∀ σ H, D.nx σ H → D'.nx σ H) (h2 : ∀ v H, D.rt v H → D'.rt v H) (h3 : ∀ σ H, D.bk σ H → D'.bk σ H) (h4 : ∀ σ H, D.ct σ H → D'.ct σ H) : PostS C W en D' o := by
  cases o with
  | next Γ S => exact fun ρ G H σ i => h1 _ _ (h ρ G H σ i)
  | brk Γ S => exact fun ρ G H σ i => h3 _ _ (h ρ G H σ i)
  | cont Γ S => exact fun ρ G H σ i => h4 _ _ (h ρ G H σ i)
  | ret d S => exact fun v ρ G H m n r => h2 _ _ (h v ρ G H m n r)
  | exc e Γ S => exact h
  | stuck => exact h

def sNext : Ds := fun Γ S => .next Γ S
def sSeq (a b : Ds) : Ds := fun Γ S => match a Γ S with | .next Γ' S' => b Γ' S' | o => o
/-- a statement that begins with an evaluation -/
def after {α : Type} (r : Res α) (Γ : List Sl) (f : α → List D → Out) : Out := match r with
  | .ok d S => f d S
  | .exc e S => .exc e Γ S
  | .stuck => .stuck
@[simp] theorem after_ok {α : Type} (d : α) (S : List D) (Γ : List Sl) (f : α → List D → Out) : after (.ok d S) Γ f = f d S := Eq.trans rfl rfl
@[simp] theorem after_exc {α : Type} (e : Exn) (S : List D) (Γ : List Sl) (f : α → List D → Out) : after (.exc e S : Res α) Γ f = .exc e Γ S := Eq.trans rfl rfl
@[simp] theorem after_stuck {α : Type} (Γ : List Sl) (f : α → List D → Out) : after (.stuck : Res α) Γ f = .stuck := Eq.trans rfl rfl
def sExpr (e : De) : Ds := fun Γ S => after (e Γ S) Γ fun _ S1 => .next Γ S1
def sRet (e : De) : Ds := fun Γ S => after (e Γ S) Γ fun d S1 => .ret d S1
def sRetN : Ds := fun _ S => .ret .non S
def sSet (i : Nat) (e : De) : Ds := fun Γ S => after (e Γ S) Γ fun d S1 => .next (Γ.set i (.val d)) S1
def sOwn (i : Nat) (e : De) : Ds := fun Γ S => after (e Γ S) Γ fun d S1 => .next (Γ.set i (.own d)) S1
def sIf (t : Dt) (a b : Ds) : Ds := fun Γ S => after (t Γ S) Γ fun k S1 => if k then a Γ S1 else b Γ S1
def sBrk : Ds := fun Γ S => .brk Γ S
def sCont : Ds := fun Γ S => .cont Γ S

theorem post_after {α β : Type} {RV : RVT α β} {D : Ends} {r : Res α} {F : α → List DL.D → Out} {Q : β → Hp → Prop} (i : SI C en Γ S ρ G H σ) (h : PostS C W en D (after r Γ F))
    (k : ∀ d S1 ρ1 G1 H1 v, Mem C Γ S1 ρ1 G1 H1 σ → Nx ρ G H ρ1 G1 H1 → SI C en Γ S1 ρ1 G1 H1 σ → RV H ρ1 G1 H1 d v → PostS C W en D (F d S1) → Q v H1) : Post C W RV Γ ρ G H σ r Q := by
  cases r with
  | ok d S1 => exact fun v ρ1 G1 H1 m n c => k d S1 ρ1 G1 H1 v m n (i.step m n) c h
  | exc e S1 => exact fun cls dx ρ1 G1 H1 m n c => h cls dx ρ1 G1 H1 σ (i.step m n) c
  | stuck => exact h.elim
/-- a slot is set -/
theorem Mem.setv (m : Mem C Γ S ρ G H σ) (i : Nat) {d : D} {v : V} (r : Rep C ρ G d v) : Mem C (Γ.set i (.val d)) S ρ G H (σ.set i (some v)) where
  sub := m.sub
  val := fun j d' h => by
    by_cases e : i = j
    · subst e
      by_cases hl : i < Γ.length
      · rw [List.getElem?_set_self hl] at h; cases h
        exact ⟨v, List.getElem?_set_self (by rw [← m.wid]; exact hl), r⟩
      · rw [List.getElem?_eq_none (by simpa using hl)] at h; cases h
    · rw [List.getElem?_set_ne e] at h
      rw [List.getElem?_set_ne e]; exact m.val j d' h
  own := fun j d' h => by
    by_cases e : i = j
    · subst e
      by_cases hl : i < Γ.length
      · rw [List.getElem?_set_self hl] at h; cases h
      · rw [List.getElem?_eq_none (by simpa using hl)] at h; cases h
    · rw [List.getElem?_set_ne e] at h
      rw [List.getElem?_set_ne e]; exact m.own j d' h
  inj := fun j k d1 d2 a h1 h2 => by
    have ne : ∀ (j : Nat) (d' : D), (Γ.set i (Sl.val d))[j]? = some (Sl.own d') → i ≠ j ∧ Γ[j]? = some (Sl.own d') := fun j d' h => by
      by_cases e : i = j
      · subst e
        by_cases hl : i < Γ.length
        · rw [List.getElem?_set_self hl] at h; cases h
        · rw [List.getElem?_eq_none (by simpa using hl)] at h; cases h
      · rw [List.getElem?_set_ne e] at h; exact ⟨e, h⟩
    obtain ⟨n1, g1⟩ := ne j d1 h1
    obtain ⟨n2, g2⟩ := ne k d2 h2
    rw [List.getElem?_set_ne n1, List.getElem?_set_ne n2]
    exact m.inj j k d1 d2 a g1 g2
  sto := m.sto
  stG := m.stG
  len := m.len
  nd := m.nd
  wid := by rw [List.length_set, List.length_set]; exact m.wid
theorem SI.setv (s : SI C en Γ S ρ G H σ) (i : Nat) {d : D} {v : V} (r : Rep C ρ G d v) : SI C en (Γ.set i (.val d)) S ρ G H (σ.set i (some v)) := ⟨s.mem.setv i r, s.nx, fun j d' a h1 h2 => by
  by_cases e : i = j
  · subst e
    by_cases hl : i < Γ.length
    · rw [List.getElem?_set_self hl] at h1; cases h1
    · rw [List.getElem?_eq_none (by simpa using hl)] at h1; cases h1
  · rw [List.getElem?_set_ne e] at h1 h2; exact s.frs j d' a h1 h2, s.base, s.basr⟩
/-- a slot is forgotten -/
theorem SI.forget (s : SI C en Γ S ρ G H σ) (i : Nat) : SI C en (Γ.set i .non) S ρ G H σ := by
  have ne : ∀ (j : Nat) (x : Sl), x ≠ .non → (Γ.set i Sl.non)[j]? = some x → Γ[j]? = some x := fun j x hx h => by
    by_cases e : i = j
    · subst e
      by_cases hl : i < Γ.length
      · rw [List.getElem?_set_self hl] at h; cases h; exact absurd rfl hx
      · rw [List.getElem?_eq_none (by simpa using hl)] at h; cases h
    · rw [List.getElem?_set_ne e] at h; exact h
  exact ⟨⟨s.mem.sub, fun j d h => s.mem.val j d (ne j _ (fun z => nomatch z) h), fun j d h => s.mem.own j d (ne j _ (fun z => nomatch z) h), fun j k d d' a h1 h2 => s.mem.inj j k d d' a (ne j _ (fun z => nomatch z) h1) (ne k _ (fun z => nomatch z) h2), s.mem.sto, s.mem.stG, s.mem.len, s.mem.nd, by rw [List.length_set]; exact s.mem.wid⟩,
    s.nx, fun j d a h1 h2 => s.frs j d a (ne j _ (fun z => nomatch z) h1) h2, s.base, s.basr⟩
/-- a slot takes a new object for its own -/
theorem SI.seto (s : SI C en Γ S ρ G H σ) (i : Nat) {d : D} {a : Addr} (n : Nx ρ G H ρ' G' H') (m : Mem C Γ S' ρ' G' H' σ) (na : a ∉ ρ') (h0 : H a = none) (hg : G' a = none) (r : ObAt C ρ' G' H' a d) : SI C en (Γ.set i (.own d)) S' ρ' G' H' (σ.set i (some (V.ref a))) := by
  have other : ∀ (j : Nat) (d' : D) (b : Addr), Γ[j]? = some (Sl.own d') → σ[j]? = some (some (V.ref b)) → b ≠ a := fun j d' b h1 h2 z => by
    obtain ⟨b', e, r', _⟩ := s.mem.own j d' h1
    rw [h2] at e; cases e
    obtain ⟨o, ho⟩ := r'.some
    rw [z, h0] at ho; cases ho
  refine ⟨⟨m.sub, fun j d' h => ?_, fun j d' h => ?_, fun j k d1 d2 b h1 h2 e1 e2 => ?_, m.sto, m.stG, m.len, m.nd, by rw [List.length_set, List.length_set]; exact m.wid⟩, s.nx.trans n, fun j d' b h1 h2 => ?_, s.base.trans n.ext, s.basr.trans n.pre⟩
  · by_cases e : i = j
    · subst e
      by_cases hl : i < Γ.length
      · rw [List.getElem?_set_self hl] at h; cases h
      · rw [List.getElem?_eq_none (by simpa using hl)] at h; cases h
    · rw [List.getElem?_set_ne e] at h
      rw [List.getElem?_set_ne e]; exact m.val j d' h
  · by_cases e : i = j
    · subst e
      by_cases hl : i < Γ.length
      · rw [List.getElem?_set_self hl] at h; cases h
        exact ⟨a, List.getElem?_set_self (by rw [← m.wid]; exact hl), r, hg, na⟩
      · rw [List.getElem?_eq_none (by simpa using hl)] at h; cases h
    · rw [List.getElem?_set_ne e] at h
      rw [List.getElem?_set_ne e]; exact m.own j d' h
  · have split : ∀ (j : Nat) (d' : D), (Γ.set i (Sl.own d))[j]? = some (Sl.own d') → i = j ∨ (i ≠ j ∧ Γ[j]? = some (Sl.own d')) := fun j d' h => by
      by_cases e : i = j
      · exact .inl e
      · rw [List.getElem?_set_ne e] at h; exact .inr ⟨e, h⟩
    have at_i : ∀ b, i < σ.length → (σ.set i (some (V.ref a)))[i]? = some (some (V.ref b)) → b = a := fun b hl h => by
      rw [List.getElem?_set_self hl] at h; cases h; rfl
    have hi : ∀ (d' : D), (Γ.set i (Sl.own d))[i]? = some (Sl.own d') → i < σ.length := fun d' h => by
      rw [← m.wid]
      by_cases hl : i < Γ.length
      · exact hl
      · rw [List.getElem?_eq_none (by simpa using hl)] at h; cases h
    rcases split j d1 h1 with z1 | ⟨n1, g1⟩
    · subst z1
      rcases split k d2 h2 with z2 | ⟨n2, g2⟩
      · exact z2
      · rw [List.getElem?_set_ne n2] at e2
        exact absurd (at_i b (hi _ h1) e1) (other k d2 b g2 e2)
    · rw [List.getElem?_set_ne n1] at e1
      rcases split k d2 h2 with z2 | ⟨n2, g2⟩
      · subst z2
        exact absurd (at_i b (hi _ h2) e2) (other j d1 b g1 e1)
      · rw [List.getElem?_set_ne n2] at e2
        exact m.inj j k d1 d2 b g1 g2 e1 e2
  · by_cases e : i = j
    · subst e
      by_cases hl : i < Γ.length
      · rw [List.getElem?_set_self (by rw [← m.wid]; exact hl)] at h2; cases h2
        exact s.nx.live _ h0
      · rw [List.getElem?_eq_none (by simpa using hl)] at h1; cases h1
    · rw [List.getElem?_set_ne e] at h1 h2; exact s.frs j d' b h1 h2
end

section
variable {X : Cx} {cls : Nat → Addr} {W : WX} {st : Stmt} {sts : List Stmt} {e c : Expr} {pos : Pos} {δ δ1 δ2 : Ds} {ε : De} {τ : Dt}
theorem dss_nil : DSs X cls W [] sNext := PSs.weak pss_nil fun D σ H ⟨en, Γ, S, ρ, G, i, p⟩ => p ρ G H σ i
theorem dss_one (h : DS X cls W st δ) : DSs X cls W [st] δ := pss_one h
theorem dss_cons (h : DS X cls W st δ1) (h2 : DSs X cls W sts δ2) : DSs X cls W (st :: sts) (sSeq δ1 δ2) := PSs.weak (pss_cons h h2) fun D σ H ⟨en, Γ, S, ρ, G, i, p⟩ => by
  refine ⟨en, Γ, S, ρ, G, i, ?_⟩
  unfold sSeq at p
  cases q : δ1 Γ S with
  | next Γ' S' => rw [q] at p; exact fun ρ' G' H' σ' i' => ⟨en, Γ', S', ρ', G', i', p⟩
  | brk Γ' S' => rw [q] at p; exact p
  | cont Γ' S' => rw [q] at p; exact p
  | ret d S' => rw [q] at p; exact p
  | exc x Γ' S' => rw [q] at p; exact p
  | stuck => rw [q] at p; exact p
theorem ds_pass : DS X cls W (.Pass pos) sNext := PS.weak ps_pass fun D σ H ⟨en, Γ, S, ρ, G, i, p⟩ => p ρ G H σ i
theorem ds_break : DS X cls W (.Break pos) sBrk := PS.weak ps_break fun D σ H ⟨en, Γ, S, ρ, G, i, p⟩ => p ρ G H σ i
theorem ds_cont : DS X cls W (.Continue pos) sCont := PS.weak ps_continue fun D σ H ⟨en, Γ, S, ρ, G, i, p⟩ => p ρ G H σ i
theorem ds_expr (h : DE X cls W e ε) (hs : swapsWith e none pos.line X.env = pure false := by rfl) : DS X cls W (.Expr e pos) (sExpr ε) := PS.weak (ps_expr h hs) fun D σ H ⟨en, Γ, S, ρ, G, i, p⟩ =>
  ⟨Γ, S, ρ, G, i.mem, post_after i p fun d S1 ρ1 G1 H1 v m n i1 r p1 => p1 ρ1 G1 H1 σ i1⟩
theorem ds_ret (h : DE X cls W e ε) : DS X cls W (.Return (some e) pos) (sRet ε) := PS.weak (ps_ret h) fun D σ H ⟨en, Γ, S, ρ, G, i, p⟩ =>
  ⟨Γ, S, ρ, G, i.mem, post_after i p fun d S1 ρ1 G1 H1 v m n i1 r p1 => p1 v ρ1 G1 H1 m.toS i1.nx r⟩
theorem ds_retN : DS X cls W (.Return none pos) sRetN := PS.weak ps_retN fun D σ H ⟨en, Γ, S, ρ, G, i, p⟩ => p .non ρ G H i.mem.toS i.nx (rep_non.mpr rfl)
/-- the slot's object is returned -/
def sRetO (i : Nat) : Ds := fun Γ S => match Γ[i]? with | some (.own d) => .ret d S | _ => .stuck
/-- a slot's object is settled -/
theorem SI.settle {C : Cn} {en : Ent} {Γ : List Sl} {S : List D} {ρ : List Addr} {G H : Hp} {σ : L2.St} (s : SI C en Γ S ρ G H σ) {i : Nat} {d : D} (h : Γ[i]? = some (.own d)) : ∃ G', SI C en (Γ.set i (.val d)) S ρ G' H σ ∧ Sub G G' := by
  obtain ⟨a, e, r, hg, na⟩ := s.mem.own i d h
  obtain ⟨o, ho⟩ := r.some
  have hl : i < Γ.length := (List.getElem?_eq_some_iff.mp h).1
  have k : Sub G (upd G a o) := fun b u q => by rw [upd_ne (ne_of_none q hg)]; exact q
  have he : en.H a = none := s.frs i d a h e
  have spl : ∀ (j : Nat) (x : Sl), (Γ.set i (Sl.val d))[j]? = some x → (i = j ∧ x = .val d) ∨ (i ≠ j ∧ Γ[j]? = some x) := fun j x q => by
    by_cases z : i = j
    · subst z; rw [List.getElem?_set_self hl] at q; cases q; exact .inl ⟨rfl, rfl⟩
    · rw [List.getElem?_set_ne z] at q; exact .inr ⟨z, q⟩
  refine ⟨upd G a o, ⟨⟨fun b u q => ?_, fun j d' q => ?_, fun j d' q => ?_, fun j l d1 d2 b q1 q2 e1 e2 => ?_, fun j d' q => ?_, fun b q => ?_, s.mem.len, s.mem.nd, by rw [List.length_set]; exact s.mem.wid⟩, ⟨s.nx.pre, s.nx.ext.trans k, fun b u q => ?_, s.nx.keep, s.nx.live, s.nx.fre⟩, fun j d' b q1 q2 => ?_, s.base.trans k, s.basr⟩, k⟩
  · by_cases z : b = a
    · subst z; rw [upd_same] at q; cases q; exact ho
    · rw [upd_ne z] at q; exact s.mem.sub _ _ q
  · rcases spl j _ q with ⟨z, y⟩ | ⟨z, y⟩
    · subst z
      cases y
      refine ⟨_, e, ObAt.rep (r.mono k (List.prefix_refl _) fun u q => ?_)⟩
      rw [ho] at q; cases q; exact upd_same
    · obtain ⟨v, e1, r1⟩ := s.mem.val j d' y
      exact ⟨v, e1, r1.mono k (List.prefix_refl _)⟩
  · rcases spl j _ q with ⟨z, y⟩ | ⟨z, y⟩
    · cases y
    · obtain ⟨b, e1, r1, g1, n1⟩ := s.mem.own j d' y
      have ne : b ≠ a := fun w => by
        subst w
        exact z (s.mem.inj i j d d' b h y e e1)
      exact ⟨b, e1, r1.mono k (List.prefix_refl _) fun _ q => q, by rw [upd_ne ne]; exact g1, n1⟩
  · rcases spl j _ q1 with ⟨z, y⟩ | ⟨z, y⟩
    · cases y
    · rcases spl l _ q2 with ⟨z2, y2⟩ | ⟨z2, y2⟩
      · cases y2
      · exact s.mem.inj j l d1 d2 b y y2 e1 e2
  · obtain ⟨b, e1, r1⟩ := s.mem.sto j d' q
    exact ⟨b, e1, r1.mono k (List.prefix_refl _) fun _ q => q⟩
  · rw [upd_ne (fun z => na (by rw [← z]; exact q))]; exact s.mem.stG b q
  · by_cases z : b = a
    · subst z; exact .inr he
    · rw [upd_ne z] at q; exact s.nx.new b u q
  · rcases spl j _ q1 with ⟨z, y⟩ | ⟨z, y⟩
    · cases y
    · exact s.frs j d' b y q2
theorem ds_retO (i : Nat) {x : Str} {p2 : Pos} (hN : X.N[i]? = some x := by rfl) (hv : Vis X.env.scope x := by first | exact Or.inl rfl | exact Or.inr (Or.inl rfl) | exact Or.inr (Or.inr rfl)) (hd : (x == ("__debug__" : Str)) = false := by decide)
    (hcd : (x == ("__classdict__" : Str)) = false := by decide) : DS X cls W (.Return (some (.Name x p2)) pos) (sRetO i) := PS.weak (ps_ret (pv i hN hv hd hcd)) fun D σ H ⟨en, Γ, S, ρ, G, s, p⟩ => by
  unfold sRetO at p
  split at p
  · rename_i d hd
    obtain ⟨a, e, r, _, _⟩ := s.mem.own i d hd
    obtain ⟨G', s', _⟩ := s.settle hd
    have hl : i < Γ.length := (List.getElem?_eq_some_iff.mp hd).1
    obtain ⟨v, e1, r1⟩ := s'.mem.val i d (List.getElem?_set_self hl)
    rw [e] at e1; cases e1
    exact ⟨_, e, p _ ρ G' H s'.mem.toS s'.nx r1⟩
  · exact p.elim
/-- settling, as nothing of the program does it: ahead of a statement -/
def sSettle (i : Nat) : Ds := fun Γ S => match Γ[i]? with | some (.own d) => .next (Γ.set i (.val d)) S | _ => .stuck
theorem dss_settle (i : Nat) (h : DSs X cls W sts δ) : DSs X cls W sts (sSeq (sSettle i) δ) := PSs.weak h fun D σ H ⟨en, Γ, S, ρ, G, s, p⟩ => by
  unfold sSeq sSettle at p
  cases q : Γ[i]? with
  | none => rw [q] at p; exact p.elim
  | some z =>
    rw [q] at p
    cases z with
    | own d =>
      obtain ⟨G', s', _⟩ := s.settle q
      exact ⟨en, _, S, ρ, G', s', p⟩
    | val d => exact p.elim
    | non => exact p.elim
/-- forgetting slots -/
def clr : List Nat → List Sl → List Sl
  | [], Γ => Γ
  | i :: r, Γ => clr r (Γ.set i .non)
theorem SI.clr {C : Cn} {en : Ent} {S : List D} {ρ : List Addr} {G H : Hp} {σ : L2.St} : ∀ {kl : List Nat} {Γ : List Sl}, SI C en Γ S ρ G H σ → SI C en (DL.clr kl Γ) S ρ G H σ
  | [], _, s => s
  | i :: r, _, s => SI.clr (kl := r) (s.forget i)
theorem ds_set {i : Nat} {x : Str} {pos' : Pos} (hN : X.N.Nodup) (hi : X.N[i]? = some x) (hx : Loc X.env.scope x) (h : DE X cls W e ε) (hs : swapsWith e (some (.Name x pos')) pos.line X.env = pure false := by rfl)
    (hf : X.fn x = true ∨ X.env.scope.names.lookup x = some .local := by first | exact .inl rfl | exact .inr rfl | assumption) : DS X cls W (.Assign [.Name x pos'] e pos) (sSet i ε) := PS.weak (ps_set hN hi hx h hs hf) fun D σ H ⟨en, Γ, S, ρ, G, s, p⟩ =>
  ⟨Γ, S, ρ, G, s.mem, post_after s p fun d S1 ρ1 G1 H1 v m n s1 r p1 => p1 _ _ _ _ (s1.setv i r)⟩
theorem ds_own {i : Nat} {x : Str} {pos' : Pos} (hN : X.N.Nodup) (hi : X.N[i]? = some x) (hx : Loc X.env.scope x) (h : DF X cls W e ε) (hs : swapsWith e (some (.Name x pos')) pos.line X.env = pure false := by rfl)
    (hf : X.fn x = true ∨ X.env.scope.names.lookup x = some .local := by first | exact .inl rfl | exact .inr rfl | assumption) : DS X cls W (.Assign [.Name x pos'] e pos) (sOwn i ε) := PS.weak (ps_set hN hi hx h hs hf) fun D σ H ⟨en, Γ, S, ρ, G, s, p⟩ =>
  ⟨Γ, S, ρ, G, s.mem, post_after s p fun d S1 ρ1 G1 H1 v m n s1 r p1 => by
    obtain ⟨a, rfl, na, h0, hg, r⟩ := r
    exact p1 _ _ _ _ (s.seto i n m na h0 hg r)⟩
theorem ds_if {a b : List Stmt} (hc : DT X cls W c τ) (ha : DSs X cls W a δ1) (hb : DSs X cls W b δ2) : DS X cls W (.If c a b pos) (sIf τ δ1 δ2) := PS.weak (ps_if hc ha hb) fun D σ H ⟨en, Γ, S, ρ, G, s, p⟩ =>
  ⟨Γ, S, ρ, G, s.mem, post_after s p fun d S1 ρ1 G1 H1 v m n s1 r p1 => by
    have e1 : d = v := r
    subst e1
    cases d with
    | true => exact iteT ⟨en, Γ, S1, ρ1, G1, s1, p1⟩
    | false => exact iteF ⟨en, Γ, S1, ρ1, G1, s1, p1⟩⟩
end

/-! ### a def -/
def bodyRun (n : Nat) (δ : Ds) : List D → List D → Res D := fun ds S => match δ (ds.map Sl.val ++ List.replicate (n - ds.length) Sl.non) S with
  | .next _ S' => .ok .non S'
  | .ret d S' => .ok d S'
  | .exc e _ S' => .exc e S'
  | _ => .stuck
def spD (C : Cn) (np : Nat) (F : List D → List D → Res D) : Sp := fun vs H Q E => ∃ S ρ G ds, MemS C S ρ G H ∧ Reps C ρ G ds vs ∧ vs.length = np ∧ match F ds S with
  | .ok d S' => ∀ v ρ' G' H', MemS C S' ρ' G' H' → Nx ρ G H ρ' G' H' → Rep C ρ' G' d v → Q v H'
  | .exc e S' => ∀ cls dx ρ' G' H', MemS C S' ρ' G' H' → Nx ρ G H ρ' G' H' → ExRep C ρ' G' H' e cls dx → E cls dx H'
  | .stuck => False
section
variable {P : Program} {w : World} {K : PySem.W.Frag} {mg : Str → Option Value} {base : Heap} {cls : Nat → Addr}
theorem start_mem {C : Cn} {S : List D} {ρ : List Addr} {G H : Hp} {ds : List D} {vs : List V} {N : List Str} (m : MemS C S ρ G H) (r : Reps C ρ G ds vs) : Mem C (ds.map Sl.val ++ List.replicate (N.length - ds.length) Sl.non) S ρ G H (L2.start N vs) := by
  have no : ∀ (i : Nat) (d : D), (ds.map Sl.val ++ List.replicate (N.length - ds.length) Sl.non)[i]? ≠ some (Sl.own d) := fun i d h => by
    have hm := List.mem_of_getElem? h
    rcases List.mem_append.mp hm with z | z
    · obtain ⟨_, _, e⟩ := List.mem_map.mp z; cases e
    · cases (List.eq_of_mem_replicate z)
  refine ⟨m.sub, fun i d h => ?_, fun i d h => absurd h (no i d), fun i j d d' a h => absurd h (no i d), m.sto, m.stG, m.len, m.nd, ?_⟩
  · by_cases hi : i < ds.length
    · rw [List.getElem?_append_left (by simpa using hi), List.getElem?_map] at h
      cases e : ds[i]? with
      | none => rw [e] at h; cases h
      | some d0 =>
        rw [e] at h; cases h
        obtain ⟨v, hv, rv⟩ := r.get e
        refine ⟨v, ?_, rv⟩
        unfold L2.start
        rw [List.getElem?_append_left (by simpa [← r.length] using hi), List.getElem?_map, hv]
        rfl
    · rw [List.getElem?_append_right (by simpa using hi), List.getElem?_replicate] at h
      split at h <;> cases h
  · unfold L2.start
    rw [List.length_append, List.length_append, List.length_map, List.length_map, List.length_replicate, List.length_replicate, r.length]
theorem def_ok {x qual : Str} {st : Stmt} {f : Addr} {fd : FuncData} {N ps : List Str} {k : Nat} {δ : Ds} (F : Fun K x qual st f fd) (Sc : FnScope N ps (defScope st))
    (hbody : ∀ (cdv : Value) (A : Around) (outer : List Env) (s : Shared) (H : Hp) (E : XK), Room k (A.deeper (envOfC qual (defScope st) s.heap.objs.size f cdv)) →
      DSs (cxOf (L2.CX P w) P w K mg base N qual (defScope st) f cdv A outer s H E) cls (fun c d _ H => E c d H) (defBody st) δ) : FnOk P w K mg base (L2.CX P w) (k + 1) f fd ps (spD ⟨K, cls⟩ ps.length (bodyRun N.length δ)) := by
  refine F.okX Sc (fun vs H Q E h => ?_) (fun cdv A outer s H vs Q E hr h => ⟨_, hbody cdv A outer s H E hr, ?_⟩)
  · obtain ⟨_, _, _, _, _, _, h, _⟩ := h; exact h
  · obtain ⟨S, ρ, G, ds, m, r, hl, h⟩ := h
    refine ⟨⟨ρ, G, H, G, ρ⟩, _, S, ρ, G, ⟨start_mem m r, .refl, fun i d a h1 h2 => ?_, .refl, List.prefix_refl _⟩, ?_⟩
    · exfalso
      have hm := List.mem_of_getElem? h1
      rcases List.mem_append.mp hm with z | z
      · obtain ⟨_, _, e⟩ := List.mem_map.mp z; cases e
      · cases (List.eq_of_mem_replicate z)
    · unfold bodyRun at h
      cases q : δ (ds.map Sl.val ++ List.replicate (N.length - ds.length) Sl.non) S with
      | next Γ S' => rw [q] at h; exact fun ρ' G' H' σ' s' => h .non ρ' G' H' s'.mem.toS s'.nx (rep_non.mpr rfl)
      | ret d S' => rw [q] at h; exact fun v ρ' G' H' m' n' r' => h v ρ' G' H' m' n' r'
      | exc e Γ S' => rw [q] at h; exact fun c dx ρ' G' H' σ' s' er => h c dx ρ' G' H' s'.mem.toS s'.nx er
      | brk _ _ => rw [q] at h; exact h.elim
      | cont _ _ => rw [q] at h; exact h.elim
      | stuck => rw [q] at h; exact h.elim
end
/-! ### a call -/
section
variable {X : Cx} {cls : Nat → Addr} {W : WX} {k : Nat} {f : Addr} {fd : FuncData} {ps : List Str} {x : Str} {p pos : Pos} {e : Expr} {es : List Expr} {α : Da} {F : List D → List D → Res D}
theorem de_call (Fn : FnOk X.prog X.w X.K X.mg X.base (L2.CX X.prog X.w) k f fd ps (spD ⟨X.K, cls⟩ ps.length F)) (tk : Takes X W) (hr : Room k X.A) (hg : Gl X x) (hm : X.mg x = some (.ref f)) (hk : PySem.W.keepIn X.K (.ref f) = true) (hb : Binds X.K fd ps [])
    (ha : DA X cls W (e :: es) α) (hal : ALen α ps.length) (hdb : (x == ("__debug__" : Str)) = false := by decide) (he : starEach (e :: es) X.env = (false, eval e X.env) :: starEach es X.env := by rfl) (hpl : (backTo pos (starEach es X.env)).any (·.1) = false := by rfl) :
    DE X cls W (.Call (.Name x p) (e :: es) [] pos) (eCall F α) := PE.weak (pe_callS Fn hr hg hm hk hb (fun σ => passAt tk σ) ha hdb he hpl) fun σ H Q ⟨Γ, S, ρ, G, m, p⟩ => ⟨Γ, S, ρ, G, m, by
  unfold eCall at p
  cases q : α Γ S with
  | ok ds S1 =>
    rw [q] at p
    intro vs ρ1 G1 H1 m1 n1 r1
    refine ⟨S1, ρ1, G1, ds, m1.toS, r1, by rw [← r1.length]; exact hal.le _ _ _ _ q, ?_⟩
    simp only [Res.bind_ok] at p
    cases z : F ds S1 with
    | ok d S2 => rw [z] at p; exact fun v ρ2 G2 H2 m2 n2 r2 => p v ρ2 G2 H2 (m1.step n2 m2) (n1.trans n2) r2
    | exc x S2 => rw [z] at p; exact fun c dx ρ2 G2 H2 m2 n2 r2 => p c dx ρ2 G2 H2 (m1.step n2 m2) (n1.trans n2) r2
    | stuck => rw [z] at p; exact p
  | exc x S1 => rw [q] at p; exact p
  | stuck => rw [q] at p; exact p⟩
end
end DL

namespace DL
open PySem PySem.Spec PyProof.Rows L2

section
variable {C : Cn} {W : WX} {en : Ent} {Γ Γ' : List Sl} {S S' : List D} {ρ ρ' : List Addr} {G G' H H' : Hp} {σ σ' : L2.St} {a : Addr} {d d' : D} {k : Nat} {o : HO}
theorem ObAt.at {b : Addr} (h : ObAt C ρ G H b d) (ne : b ≠ a) : ObAt C ρ G (upd H a o) b d := h.mono .refl (List.prefix_refl _) fun u q => by rw [upd_ne ne]; exact q
/-- an object that no slot, no store and no settled data has -/
theorem Mem.aside (m : Mem C Γ S ρ G H σ) (hg : G a = none) (hp : a ∉ ρ) (ho : ∀ (i : Nat) (d : D) (b : Addr), Γ[i]? = some (Sl.own d) → σ[i]? = some (some (V.ref b)) → b ≠ a) : Mem C Γ S ρ G (upd H a o) σ where
  sub := fun b u h => by rw [upd_ne (ne_of_none h hg)]; exact m.sub _ _ h
  val := m.val
  own := fun i d h => by
    obtain ⟨b, e, r, g, n⟩ := m.own i d h
    exact ⟨b, e, r.at (ho i d b h e), g, n⟩
  inj := m.inj
  sto := fun i d h => by
    obtain ⟨b, e, r⟩ := m.sto i d h
    exact ⟨b, e, r.at fun z => hp (z ▸ List.mem_of_getElem? e)⟩
  stG := m.stG
  len := m.len
  nd := m.nd
  wid := m.wid
theorem Nx.aside (n : Nx ρ G H ρ' G' H') (h : H a = none) : Nx ρ G H ρ' G' (upd H' a o) := ⟨n.pre, n.ext, n.new, fun b u q nb => by rw [upd_ne (ne_of_none q h)]; exact n.keep b u q nb, fun b q => by
  by_cases e : b = a
  · subst e; exact h
  · rw [upd_ne e] at q; exact n.live b q, n.fre⟩
/-- the store's object is written -/
theorem Mem.poke (m : Mem C Γ S ρ G H σ) {d0 : D} (hk : S[k]? = some d0) (ha : ρ[k]? = some a) (r : ObAt C ρ G (upd H a o) a d') : Mem C Γ (S.set k d') ρ G (upd H a o) σ ∧ Nx ρ G H ρ G (upd H a o) := by
  have am : a ∈ ρ := List.mem_of_getElem? ha
  have hg : G a = none := m.stG a am
  refine ⟨⟨fun b u h => by rw [upd_ne (ne_of_none h hg)]; exact m.sub _ _ h, m.val, fun i d h => ?_, m.inj, fun i d h => ?_, m.stG, by rw [List.length_set]; exact m.len, m.nd, m.wid⟩,
    ⟨List.prefix_refl _, .refl, fun _ _ h => .inl h, fun b u q nb => by rw [upd_ne (fun z => nb (by rw [z]; exact am))]; exact q, fun b q => ?_, fun _ h => .inl h⟩⟩
  · obtain ⟨b, e, q, g, n⟩ := m.own i d h
    exact ⟨b, e, q.at fun z => n (z ▸ am), g, n⟩
  · by_cases e : k = i
    · subst e
      have hl : k < S.length := (List.getElem?_eq_some_iff.mp hk).1
      rw [List.getElem?_set_self hl] at h; cases h
      exact ⟨a, ha, r⟩
    · rw [List.getElem?_set_ne e] at h
      obtain ⟨b, e2, q⟩ := m.sto i d h
      refine ⟨b, e2, q.at fun z => e ?_⟩
      subst z
      obtain ⟨h1, e3⟩ := List.getElem?_eq_some_iff.mp ha
      obtain ⟨h2, e4⟩ := List.getElem?_eq_some_iff.mp e2
      exact (List.getElem_inj m.nd).mp (e3.trans e4.symm)
  · by_cases e : b = a
    · subst e; rw [upd_same] at q; cases q
    · rw [upd_ne e] at q; exact q
/-- a slot's own object is written -/
theorem SI.poke (s : SI C en Γ S ρ G H σ) {i : Nat} {d0 : D} (hi : Γ[i]? = some (Sl.own d0)) (ha : σ[i]? = some (some (V.ref a))) (r : ObAt C ρ G (upd H a o) a d') : SI C en (Γ.set i (.own d')) S ρ G (upd H a o) σ := by
  obtain ⟨b, e, q, hg, hp⟩ := s.mem.own i d0 hi
  rw [ha] at e; cases e
  have hl : i < Γ.length := (List.getElem?_eq_some_iff.mp hi).1
  have he : en.H a = none := s.frs i d0 a hi ha
  have spl : ∀ (j : Nat) (x : Sl), (Γ.set i (Sl.own d'))[j]? = some x → (i = j ∧ x = .own d') ∨ (i ≠ j ∧ Γ[j]? = some x) := fun j x q => by
    by_cases z : i = j
    · subst z; rw [List.getElem?_set_self hl] at q; cases q; exact .inl ⟨rfl, rfl⟩
    · rw [List.getElem?_set_ne z] at q; exact .inr ⟨z, q⟩
  have back : ∀ (j : Nat) (d1 : D), (Γ.set i (Sl.own d'))[j]? = some (Sl.own d1) → ∃ d2, Γ[j]? = some (Sl.own d2) := fun j d1 h => by
    rcases spl j _ h with ⟨z, _⟩ | ⟨_, y⟩
    · subst z; exact ⟨_, hi⟩
    · exact ⟨_, y⟩
  refine ⟨⟨fun b u h => by rw [upd_ne (ne_of_none h hg)]; exact s.mem.sub _ _ h, fun j d1 h => ?_, fun j d1 h => ?_, fun j l d1 d2 b h1 h2 e1 e2 => ?_, fun j d1 h => ?_, s.mem.stG, s.mem.len, s.mem.nd, by rw [List.length_set]; exact s.mem.wid⟩, s.nx.aside he, fun j d1 b h1 h2 => ?_, s.base, s.basr⟩
  · rcases spl j _ h with ⟨_, y⟩ | ⟨_, y⟩
    · cases y
    · exact s.mem.val j d1 y
  · rcases spl j _ h with ⟨z, y⟩ | ⟨z, y⟩
    · subst z; cases y; exact ⟨a, ha, r, hg, hp⟩
    · obtain ⟨b, e1, q1, g1, n1⟩ := s.mem.own j d1 y
      exact ⟨b, e1, q1.at fun w => z (s.mem.inj i j d0 d1 b hi y (w ▸ ha) e1), g1, n1⟩
  · obtain ⟨_, y1⟩ := back j d1 h1
    obtain ⟨_, y2⟩ := back l d2 h2
    exact s.mem.inj j l _ _ b y1 y2 e1 e2
  · obtain ⟨b, e1, q1⟩ := s.mem.sto j d1 h
    exact ⟨b, e1, q1.at fun z => hp (z ▸ List.mem_of_getElem? e1)⟩
  · obtain ⟨_, y1⟩ := back j d1 h1
    exact s.frs j _ b y1 h2
end

section
variable {X : Cx} {cls : Nat → Addr} {W : WX} {st : Stmt} {sts : List Stmt} {e c a b : Expr} {pos : Pos} {δ δ1 δ2 : Ds} {ε ε1 ε2 δa : De} {τ : Dt}
/-- a new list that goes into the store -/
theorem de_box (h : DF X cls W e ε) : DE X cls W e (eBox ε) := PE.weak h fun σ H Q ⟨Γ, S, ρ, G, m, p⟩ => ⟨Γ, S, ρ, G, m, by
  unfold eBox at p
  cases q : ε Γ S with
  | ok d S1 =>
    rw [q] at p
    intro v ρ1 G1 H1 m1 n1 r1
    obtain ⟨a, rfl, na, h0, hg, r⟩ := r1
    have k : ρ1 <+: ρ1 ++ [a] := List.prefix_append _ _
    refine p _ (ρ1 ++ [a]) G1 H1 ⟨m1.sub, fun i d h => ?_, fun i d h => ?_, m1.inj, fun i d h => ?_, fun b hb => ?_, by rw [List.length_append, List.length_append, m1.len] <;> rfl, ?_, m1.wid⟩ ⟨n1.pre.trans k, n1.ext, n1.new, n1.keep, n1.live, fun b hb => ?_⟩ (rep_ptr.mpr ⟨a, ?_, rfl⟩)
    · obtain ⟨v, e, r⟩ := m1.val i d h
      exact ⟨v, e, r.mono .refl k⟩
    · obtain ⟨b, e, r, g, n⟩ := m1.own i d h
      obtain ⟨b0, e0, r0, _, _⟩ := m.own i d h
      rw [e] at e0; cases e0
      obtain ⟨u, hu⟩ := r0.some
      refine ⟨b, e, r.mono .refl k fun _ h => h, g, fun z => ?_⟩
      rcases List.mem_append.mp z with z | z
      · exact n z
      · rw [List.mem_singleton] at z
        rw [z, h0] at hu; cases hu
    · by_cases hi : i < S1.length
      · rw [List.getElem?_append_left hi] at h
        obtain ⟨b, e, r⟩ := m1.sto i d h
        exact ⟨b, by rw [List.getElem?_append_left (by rw [m1.len]; exact hi)]; exact e, r.mono .refl k fun _ h => h⟩
      · rw [List.getElem?_append_right (by omega)] at h
        have e0 : i - S1.length = 0 := by
          have := (List.getElem?_eq_some_iff.mp h).1
          simp only [List.length_singleton] at this; omega
        rw [e0] at h
        cases h
        have e1 : i = ρ1.length := by rw [m1.len]; omega
        subst e1
        exact ⟨a, by rw [List.getElem?_append_right (Nat.le_refl _), Nat.sub_self] <;> rfl, r.mono .refl k fun _ h => h⟩
    · rcases List.mem_append.mp hb with z | z
      · exact m1.stG b z
      · rw [List.mem_singleton] at z; subst z; exact hg
    · rw [List.nodup_append]
      refine ⟨m1.nd, by simp, fun x hx y hy => ?_⟩
      rw [List.mem_singleton] at hy; subst hy
      exact fun z => na (z ▸ hx)
    · rcases List.mem_append.mp hb with z | z
      · exact n1.fre b z
      · rw [List.mem_singleton] at z; subst z; exact .inr h0
    · rw [← m1.len, List.getElem?_append_right (Nat.le_refl _), Nat.sub_self] <;> rfl
  | exc x S1 => rw [q] at p; exact p
  | stuck => rw [q] at p; exact p⟩
/-! ### lists that change -/
theorem own_at {C : Cn} {en : Ent} {Γ : List Sl} {S : List D} {ρ : List Addr} {G H : Hp} {σ : L2.St} (s : SI C en Γ S ρ G H σ) {i : Nat} {xs : List D} (h : Γ[i]? = some (.own (.lst xs))) : ∃ a vs, σ[i]? = some (some (V.ref a)) ∧ H a = some (.lst vs) ∧ Reps C ρ G xs vs ∧ G a = none ∧ a ∉ ρ := by
  obtain ⟨a, e, ⟨vs, h1, r⟩, g, n⟩ := s.mem.own i _ h
  exact ⟨a, vs, e, h1, r, g, n⟩
/-- found.append(e) -/
def sAppO (i : Nat) (e : De) : Ds := fun Γ S => match Γ[i]? with
  | some (.own (.lst xs)) => after (e Γ S) Γ fun d S1 => if xs.length < sizeLine then .next (Γ.set i (.own (.lst (xs ++ [d])))) S1 else .stuck
  | _ => .stuck
theorem ds_appO (i : Nat) (h : PE X c (tBM X.K "list" rAppend (tVar i) (tCons (tE ⟨X.K, cls⟩ W (RS ⟨X.K, cls⟩) ε) tNil))) (hs : swapsWith c none pos.line X.env = pure false := by rfl) : DS X cls W (.Expr c pos) (sAppO i ε) :=
  PS.weak (ps_expr h hs) fun D σ H ⟨en, Γ, S, ρ, G, s, p⟩ => by
    unfold sAppO at p
    split at p
    · rename_i xs hx
      obtain ⟨a, vs, e, h1, r, g, n⟩ := own_at s hx
      refine ⟨_, e, .inl ⟨rfl, vs, SqL.of h1⟩, Γ, S, ρ, G, s.mem, post_after s p fun d S1 ρ1 G1 H1 v m1 n1 s1 r1 p1 => ?_⟩
      obtain ⟨a', vs', e', h1', r', g', n'⟩ := own_at s1 hx
      rw [e] at e'; cases e'
      split at p1
      · rename_i hl
        refine ⟨a, vs', v, rfl, rfl, h1', by rw [← r'.length]; exact hl, ?_⟩
        exact p1 _ _ _ _ (s1.poke hx e ⟨_, upd_same, r'.append (.cons r1 .nil)⟩)
      · exact p1.elim
    · exact p.elim
/-- found[k] = e -/
def sSetO (i : Nat) (k e : De) : Ds := fun Γ S => after (e Γ S) Γ fun d S1 => match Γ[i]? with
  | some (.own (.lst xs)) => after (k Γ S1) Γ fun x S2 => match (asI x).bind (ixN xs.length) with
    | some j => .next (Γ.set i (.own (.lst (xs.set j d)))) S2
    | none => .stuck
  | _ => .stuck
theorem Reps.setv {C : Cn} {ρ : List Addr} {G : Hp} {d : D} {v : V} {xs : List D} {vs : List V} (r : Reps C ρ G xs vs) (k : Rep C ρ G d v) (j : Nat) : Reps C ρ G (xs.set j d) (vs.set j v) := Reps.set k j r
theorem ds_setO (i : Nat) {tg : Expr} (hg : PG X tg (gSub (tVar i) (tE ⟨X.K, cls⟩ W (RS ⟨X.K, cls⟩) ε1) rSetL)) (he : DE X cls W e ε2) (hs : swapsWithSole [tg] e pos.line X.env = pure false := by rfl) (hw : swappedStores [tg] e X.env = pure none := by rfl) (h1 : (assignEach [tg] X.env).map (·.2) = [assign tg X.env] := by rfl) :
    DS X cls W (.Assign [tg] e pos) (sSetO i ε1 ε2) := PS.weak (ps_asg he hg hs hw h1) fun D σ H ⟨en, Γ, S, ρ, G, s, p⟩ => ⟨Γ, S, ρ, G, s.mem, post_after s p fun d S1 ρ1 G1 H1 v m1 n1 s1 r1 p1 => by
  split at p1
  · rename_i xs hx
    obtain ⟨a, vs, e, h1, r, g, n⟩ := own_at s1 hx
    refine ⟨_, e, Γ, S1, ρ1, G1, s1.mem, post_after s1 p1 fun d2 S2 ρ2 G2 H2 v2 m2 n2 s2 r2 p2 => ?_⟩
    obtain ⟨a', vs', e', h1', r', g', n'⟩ := own_at s2 hx
    rw [e] at e'; cases e'
    cases d2 with
    | int k =>
      have ek := rep_int.mp r2
      subst ek
      split at p2
      · rename_i j hj
        exact ⟨a, vs', k, j, rfl, rfl, h1', by rw [← r'.length]; exact hj, p2 _ _ _ _ (s2.poke hx e ⟨_, upd_same, r'.setv (r1.mono n2.ext n2.pre) j⟩)⟩
      · exact p2.elim
    | _ => exact p2.elim
  · exact p1.elim⟩
/-! .. in the store -/
def sSetP (o k e : De) : Ds := fun Γ S => after (e Γ S) Γ fun d S1 => after (o Γ S1) Γ fun x S2 => after (k Γ S2) Γ fun y S3 => match x with
  | .ptr q => match S3[q]? with
    | some (.lst xs) => match (asI y).bind (ixN xs.length) with
      | some j => .next Γ (S3.set q (.lst (xs.set j d)))
      | none => .stuck
    | _ => .stuck
  | _ => .stuck
theorem sto_at {C : Cn} {Γ : List Sl} {S : List D} {ρ : List Addr} {G H : Hp} {σ : L2.St} (m : Mem C Γ S ρ G H σ) {q : Nat} {v : V} {xs : List D} (r : Rep C ρ G (.ptr q) v) (h : S[q]? = some (.lst xs)) : ∃ a vs, v = V.ref a ∧ ρ[q]? = some a ∧ H a = some (.lst vs) ∧ Reps C ρ G xs vs := by
  obtain ⟨a, ha, rfl⟩ := rep_ptr.mp r
  obtain ⟨b, hb, vs, h1, h2⟩ := m.sto q _ h
  rw [ha] at hb; cases hb
  exact ⟨a, vs, rfl, ha, h1, h2⟩
theorem ds_setP {tg : Expr} (hg : PG X tg (gSub (tE ⟨X.K, cls⟩ W (RS ⟨X.K, cls⟩) δa) (tE ⟨X.K, cls⟩ W (RS ⟨X.K, cls⟩) ε1) rSetL)) (he : DE X cls W e ε2) (hs : swapsWithSole [tg] e pos.line X.env = pure false := by rfl) (hw : swappedStores [tg] e X.env = pure none := by rfl) (h1 : (assignEach [tg] X.env).map (·.2) = [assign tg X.env] := by rfl) :
    DS X cls W (.Assign [tg] e pos) (sSetP δa ε1 ε2) := PS.weak (ps_asg he hg hs hw h1) fun D σ H ⟨en, Γ, S, ρ, G, s, p⟩ =>
  ⟨Γ, S, ρ, G, s.mem, post_after s p fun d S1 ρ1 G1 H1 v m1 n1 s1 r1 p1 => ⟨Γ, S1, ρ1, G1, s1.mem, post_after s1 p1 fun dx S2 ρ2 G2 H2 x m2 n2 s2 r2 p2 => ⟨Γ, S2, ρ2, G2, s2.mem, post_after s2 p2 fun dy S3 ρ3 G3 H3 y m3 n3 s3 r3 p3 => by
    cases dx with
    | ptr q =>
      simp only at p3
      split at p3
      · rename_i xs hx
        obtain ⟨a, vs, rfl, ha, h1, rr⟩ := sto_at m3 (Rep.mono n3.ext n3.pre _ _ r2) hx
        cases dy with
        | int k =>
          have ek := rep_int.mp r3
          subst ek
          split at p3
          · rename_i j hj
            obtain ⟨m4, n4⟩ := m3.poke (a := a) (o := .lst (vs.set j v)) (d' := .lst (xs.set j d)) hx ha ⟨_, upd_same, rr.setv ((r1.mono n2.ext n2.pre).mono n3.ext n3.pre) j⟩
            exact ⟨a, vs, k, j, rfl, rfl, h1, by rw [← rr.length]; exact hj, p3 _ _ _ _ (s3.step m4 n4)⟩
          · exact p3.elim
        | _ => exact p3.elim
      · exact p3.elim
    | _ => exact p3.elim⟩⟩⟩
/-! ### x += e -/
def sAug (i : Nat) (f : D → D → Option D) (e : De) : Ds := fun Γ S => match Γ[i]? with
  | some (.val dx) => after (e Γ S) Γ fun dy S1 => match f (deref S1 dx) (deref S1 dy) with
    | some d => .next (Γ.set i (.val d)) S1
    | none => .stuck
  | _ => .stuck
theorem ds_aug {i : Nat} {x : Str} {op : Operator} {R : R2} {f : D → D → Option D} {pos' : Pos} (hN : X.N.Nodup) (hi : X.N[i]? = some x) (hx : Loc X.env.scope x) (he : DE X cls W e ε) (ho : OpR X (inplaceOp op) R) (hf : R2Ok ⟨X.K, cls⟩ (RS ⟨X.K, cls⟩) R f)
    (hfn : X.fn x = true ∨ X.env.scope.names.lookup x = some .local := by first | exact .inl rfl | exact .inr rfl | assumption) : DS X cls W (.AugAssign (.Name x pos') op e pos) (sAug i f ε) :=
  PS.weak (ps_aug (ti := R) hN hi hx he (fun pins s σ H x y v u Q I rx ry h => ho pins s σ H x y v u Q I rx ry h) hfn) fun D σ H ⟨en, Γ, S, ρ, G, s, p⟩ => by
    unfold sAug at p
    split at p
    · rename_i dx hx
      obtain ⟨v, e, r⟩ := s.mem.val i dx hx
      refine ⟨v, e, Γ, S, ρ, G, s.mem, post_after s p fun dy S1 ρ1 G1 H1 y m1 n1 s1 r1 p1 => ?_⟩
      split at p1
      · rename_i d hd
        exact hf S1 ρ1 G1 H1 v y d _ _ _ m1.toS (m1.read (H0 := H1) (.inl (r.mono n1.ext n1.pre))) (m1.read (H0 := H1) (.inl r1)) hd fun z ρ2 G2 H2 m2 n2 r2 => p1 _ _ _ _ ((s1.step (m1.step n2 m2) n2).setv i r2)
      · exact p1.elim
    · exact p.elim
def dAddI : D → D → Option D
  | .int i, .int j => some (.int (i + j))
  | .str a, .str b => if a.length + b.length ≤ sizeLine then some (.str (a ++ b)) else none
  | _, _ => none
theorem iop_addA : OpR X (inplaceOp .Add) (fun x y H Q => rI0 (fun i j => .int (i + j)) x y H Q ∨ ∃ i j, x = .str i ∧ y = .str j ∧ i.length + j.length ≤ sizeLine ∧ Q (.str (i ++ j)) H) := iop_add.or iop_add_str
theorem ok_addI {C : Cn} : R2Ok C (RS C) (fun x y H Q => rI0 (fun i j => .int (i + j)) x y H Q ∨ ∃ i j, x = .str i ∧ y = .str j ∧ i.length + j.length ≤ sizeLine ∧ Q (.str (i ++ j)) H) dAddI := ok_I0.or (g := dAddI) ok_S fun a b d h => by
  cases a <;> cases b <;> first | exact .inl h | exact .inr h | cases h
theorem ok_subI {C : Cn} : R2Ok C (RS C) (rI0 fun i j => .int (i - j)) fSub := ok_I0

/-! ### targets of loops -/
inductive Pat where
  | nm (i : Nat) | tp (ps : List Pat)
mutual
def Pat.bind : Pat → D → List Sl → Option (List Sl)
  | .nm i, d, Γ => some (Γ.set i (.val d))
  | .tp ps, .tup ds, Γ => Pat.binds ps ds Γ
  | .tp _, _, _ => none
def Pat.binds : List Pat → List D → List Sl → Option (List Sl)
  | [], [], Γ => some Γ
  | p :: ps, d :: ds, Γ => match p.bind d Γ with
    | some Γ' => Pat.binds ps ds Γ'
    | none => none
  | [], _ :: _, _ => none
  | _ :: _, [], _ => none
end
mutual
def Pat.g (K : PySem.W.Frag) : Pat → TG
  | .nm i => gName i
  | .tp ps => gTup K ps.length (Pat.gs K ps)
def Pat.gs (K : PySem.W.Frag) : List Pat → TGs
  | [] => gNil
  | p :: ps => gCons (p.g K) (Pat.gs K ps)
end
mutual
def Pat.vars : Pat → List Nat
  | .nm i => [i]
  | .tp ps => Pat.varss ps
def Pat.varss : List Pat → List Nat
  | [] => []
  | p :: ps => p.vars ++ Pat.varss ps
end
/-- what a binding keeps -/
def Kept (vs : List Nat) (σ σ' : L2.St) : Prop := σ'.length = σ.length ∧ ∀ j, j ∉ vs → σ'[j]? = σ[j]?
def BindOk (C : Cn) (g : (L2.St → Hp → Prop) → Prop) (Γ Γ' : List Sl) (S : List D) (ρ : List Addr) (G H : Hp) (σ : L2.St) (vs : List Nat) : Prop :=
  ∀ Q : L2.St → Hp → Prop, (∀ σ', Mem C Γ' S ρ G H σ' → (∀ en, SI C en Γ S ρ G H σ → SI C en Γ' S ρ G H σ') → Kept vs σ σ' → Q σ' H) → g Q
mutual
theorem Pat.ok {C : Cn} {S : List D} {ρ : List Addr} {G H : Hp} : ∀ (p : Pat) (d : D) (v : V) (Γ Γ' : List Sl) (σ : L2.St), Mem C Γ S ρ G H σ → Rep C ρ G d v → p.bind d Γ = some Γ' → BindOk C (p.g C.K v σ H) Γ Γ' S ρ G H σ p.vars
  | .nm i, d, v, Γ, Γ', σ, m, r, e, Q, q => by
    rw [Pat.bind] at e; cases e
    rw [Pat.g]
    exact q _ (m.setv i r) (fun en s => s.setv i r) ⟨by rw [List.length_set], fun j hj => by rw [Pat.vars, List.mem_singleton] at hj; rw [List.getElem?_set_ne (Ne.symm hj)]⟩
  | .tp ps, d, v, Γ, Γ', σ, m, r, e, Q, q => by
    cases d with
    | tup ds =>
      rw [Pat.bind] at e
      rw [Pat.g]
      obtain ⟨a, vs, rfl, h1, h2⟩ := rep_tup.mp r
      have hl : ds.length = ps.length := Pat.binds_len ps ds Γ Γ' e
      refine ⟨a, vs, rfl, m.sub.sqT h1, by rw [← h2.length, hl], ?_⟩
      exact Pat.oks ps ds vs Γ Γ' σ m h2 e Q q
    | _ => rw [Pat.bind] at e <;> first | cases e | simp
theorem Pat.oks {C : Cn} {S : List D} {ρ : List Addr} {G H : Hp} : ∀ (ps : List Pat) (ds : List D) (vs : List V) (Γ Γ' : List Sl) (σ : L2.St), Mem C Γ S ρ G H σ → Reps C ρ G ds vs → Pat.binds ps ds Γ = some Γ' → BindOk C (Pat.gs C.K ps vs σ H) Γ Γ' S ρ G H σ (Pat.varss ps)
  | [], [], vs, Γ, Γ', σ, m, r, e, Q, q => by
    rw [Pat.binds] at e; cases e
    rw [Pat.gs]
    exact ⟨r.inv0, q σ m (fun _ s => s) ⟨rfl, fun _ _ => rfl⟩⟩
  | [], _ :: _, _, _, _, _, _, _, e, _, _ => by rw [Pat.binds] at e; cases e
  | _ :: _, [], _, _, _, _, _, _, e, _, _ => by rw [Pat.binds] at e; cases e
  | p :: ps, d :: ds, vs, Γ, Γ', σ, m, r, e, Q, q => by
    rw [Pat.binds] at e
    cases z : p.bind d Γ with
    | none => rw [z] at e; cases e
    | some Γ1 =>
      rw [z] at e
      obtain ⟨v, vr, rfl, r1, r2⟩ := r.inv
      rw [Pat.gs]
      refine ⟨v, vr, rfl, ?_⟩
      refine Pat.ok p d v Γ Γ1 σ m r1 z _ fun σ1 m1 s1 k1 => ?_
      refine Pat.oks ps ds vr Γ1 Γ' σ1 m1 r2 e Q fun σ2 m2 s2 k2 => q σ2 m2 (fun en s => s2 en (s1 en s)) ⟨k2.1.trans k1.1, fun j hj => ?_⟩
      rw [Pat.varss, List.mem_append] at hj
      rw [k2.2 j fun h => hj (.inr h), k1.2 j fun h => hj (.inl h)]
theorem Pat.binds_len : ∀ (ps : List Pat) (ds : List D) (Γ Γ' : List Sl), Pat.binds ps ds Γ = some Γ' → ds.length = ps.length
  | [], [], _, _, _ => rfl
  | [], _ :: _, _, _, e => by rw [Pat.binds] at e; cases e
  | _ :: _, [], _, _, e => by rw [Pat.binds] at e; cases e
  | p :: ps, d :: ds, Γ, Γ', e => by
    rw [Pat.binds] at e
    cases z : p.bind d Γ with
    | none => rw [z] at e; cases e
    | some Γ1 => rw [z] at e; rw [List.length_cons, List.length_cons, Pat.binds_len ps ds Γ1 Γ' e]
end
/-- a, b = e -/
def sBind (p : Pat) (e : De) : Ds := fun Γ S => after (e Γ S) Γ fun d S1 => match p.bind d Γ with | some Γ' => .next Γ' S1 | none => .stuck
theorem ds_bind {p : Pat} {tg : Expr} (he : DE X cls W e ε) (hg : PG X tg (p.g X.K)) (hs : swapsWithSole [tg] e pos.line X.env = pure false := by rfl) (hw : swappedStores [tg] e X.env = pure none := by rfl) (h1 : (assignEach [tg] X.env).map (·.2) = [assign tg X.env] := by rfl) : DS X cls W (.Assign [tg] e pos) (sBind p ε) :=
  PS.weak (ps_asg he hg hs hw h1) fun D σ H ⟨en, Γ, S, ρ, G, s, q⟩ => ⟨Γ, S, ρ, G, s.mem, post_after s q fun d S1 ρ1 G1 H1 v m1 n1 s1 r1 p1 => by
    split at p1
    · rename_i Γ' hb
      exact Pat.ok (C := ⟨X.K, cls⟩) p d v Γ Γ' σ m1 r1 hb _ fun σ' m' s' _ => p1 _ _ _ _ (s' en s1)
    · exact p1.elim⟩

/-! ### what is walked -/
structure SrcOk (C : Cn) (J : It) (xs : List D) (ρ0 : List Addr) (G0 : Hp) : Prop where
  go : ∀ S ρ G H i, MemS C S ρ G H → Sub G0 G → ρ0 <+: ρ → i < xs.length → J.go i H
  yld : ∀ S ρ G H i x H' d, MemS C S ρ G H → Sub G0 G → ρ0 <+: ρ → xs[i]? = some d → J.yld i H x H' → ∃ G', MemS C S ρ G' H' ∧ Nx ρ G H ρ G' H' ∧ Rep C ρ G' d x
  stop : ∀ S ρ G H, MemS C S ρ G H → Sub G0 G → ρ0 <+: ρ → J.stop xs.length H
def tI (C : Cn) (W : WX) (ι : Da) : TI := fun σ H R => ∃ Γ S ρ G, Mem C Γ S ρ G H σ ∧ match ι Γ S with
  | .ok xs S1 => ∀ J ρ1 G1 H1, Mem C Γ S1 ρ1 G1 H1 σ → Nx ρ G H ρ1 G1 H1 → SrcOk C J xs ρ1 G1 → R J H1
  | .exc e S1 => ∀ cls dx ρ' G' H', Mem C Γ S1 ρ' G' H' σ → Nx ρ G H ρ' G' H' → ExRep C ρ' G' H' e cls dx → W cls dx σ H'
  | .stuck => False
def DI (X : Cx) (cls : Nat → Addr) (W : WX) (tg iter : Expr) (ι : Da) : Prop := PI X tg iter (tI ⟨X.K, cls⟩ W ι)
theorem PI.weak {X : Cx} {tg iter : Expr} {t t' : TI} (h : PI X tg iter t) (i : ∀ σ H R, t' σ H R → t σ H R) : PI X tg iter t' := ⟨fun pins s σ H Q I h' => h.run pins s σ H Q I (i σ H Q h')⟩
def asL : D → Option (List D) | .lst xs => some xs | _ => none
def asT : D → Option (List D) | .tup xs => some xs | _ => none
def iL (a : De) : Da := fun Γ S => (a Γ S).bind fun x S1 => ofO (asL x) S1
def iT (a : De) : Da := fun Γ S => (a Γ S).bind fun x S1 => ofO (asT x) S1
def rangeD (lo : Int) (n : Nat) : List D := (List.range n).map fun (k : Nat) => .int (lo + k)
def inR (i : Int) : Bool := decide (-(2 ^ 62) ≤ i ∧ i < 2 ^ 62)
def iR1 (a : De) : Da := fun Γ S => (a Γ S).bind fun x S1 => match asI x with | some j => if inR j then .ok (rangeD 0 j.toNat) S1 else .stuck | none => .stuck
def iR2 (a b : De) : Da := fun Γ S => (a Γ S).bind fun x S1 => (b Γ S1).bind fun y S2 => match asI x, asI y with | some i, some j => if inR i ∧ inR j then .ok (rangeD i (j - i).toNat) S2 else .stuck | _, _ => .stuck
variable {tg : Expr} {p : Pos}
theorem src_list {C : Cn} {a : Addr} {xs : List D} {vs : List V} {ρ0 : List Addr} {G0 : Hp} (h : G0 a = some (.lst vs)) (q : Reps C ρ0 G0 xs vs) : SrcOk C (Itl C.K a) xs ρ0 G0 where
  go := fun S ρ G H i m s _ hi => ⟨vs, vs[i]'(by rw [← q.length]; exact hi), SqL.of (m.sub _ _ (s _ _ h)), List.getElem?_eq_getElem _⟩
  yld := fun S ρ G H i x H' d m s pr hd y => by
    obtain ⟨rfl, y⟩ := y
    obtain ⟨v, hv, rv⟩ := q.get hd
    have e := y vs (SqL.of (m.sub _ _ (s _ _ h)))
    rw [hv] at e; cases e
    exact ⟨G, m, .refl, rv.mono s pr⟩
  stop := fun S ρ G H m s _ => ⟨vs, SqL.of (m.sub _ _ (s _ _ h)), by rw [q.length]; exact Nat.le_refl _⟩
theorem src_tup {C : Cn} {a : Addr} {xs : List D} {vs : List V} {ρ0 : List Addr} {G0 : Hp} (h : SqT C.K G0 a vs) (q : Reps C ρ0 G0 xs vs) : SrcOk C (Itt C.K a) xs ρ0 G0 where
  go := fun S ρ G H i m s _ hi => ⟨vs, vs[i]'(by rw [← q.length]; exact hi), (s.trans m.sub).sqT h, List.getElem?_eq_getElem _⟩
  yld := fun S ρ G H i x H' d m s pr hd y => by
    obtain ⟨rfl, y⟩ := y
    obtain ⟨v, hv, rv⟩ := q.get hd
    have e := y vs ((s.trans m.sub).sqT h)
    rw [hv] at e; cases e
    exact ⟨G, m, .refl, rv.mono s pr⟩
  stop := fun S ρ G H m s _ => ⟨vs, (s.trans m.sub).sqT h, by rw [q.length]; exact Nat.le_refl _⟩
theorem src_range {C : Cn} {lo : Int} {n : Nat} {ρ0 : List Addr} {G0 : Hp} : SrcOk C (Itr lo n) (rangeD lo n) ρ0 G0 where
  go := fun S ρ G H i m s _ hi => by
    unfold rangeD at hi
    rw [List.length_map, List.length_range] at hi; exact hi
  yld := fun S ρ G H i x H' d m s pr hd y => by
    obtain ⟨rfl, rfl⟩ := y
    unfold rangeD at hd
    rw [List.getElem?_map] at hd
    cases z : (List.range n)[i]? with
    | none => rw [z] at hd; cases hd
    | some k =>
      rw [z] at hd; cases hd
      have e := (List.getElem?_eq_some_iff.mp z).2
      rw [List.getElem_range] at e
      subst e
      exact ⟨G, m, .refl, rep_int.mpr rfl⟩
  stop := fun S ρ G H m s _ => by
    unfold rangeD
    rw [List.length_map, List.length_range]; exact Nat.le_refl _
theorem x_iter {δ : De} {f : D → Option (List D)} {R : It → Hp → Prop} {σ : L2.St} {H : Hp} (h : tI ⟨X.K, cls⟩ W (fun Γ S => (δ Γ S).bind fun x S1 => ofO (f x) S1) σ H R) : ∃ Γ S ρ G, Mem ⟨X.K, cls⟩ Γ S ρ G H σ ∧ Post ⟨X.K, cls⟩ W (RS ⟨X.K, cls⟩) Γ ρ G H σ (δ Γ S) fun v H1 =>
    ∃ d xs ρ1 G1, Rep ⟨X.K, cls⟩ ρ1 G1 d v ∧ f d = some xs ∧ Sub G1 H1 ∧ ∀ J, SrcOk ⟨X.K, cls⟩ J xs ρ1 G1 → R J H1 := by
  obtain ⟨Γ, S, ρ, G, m, p⟩ := h
  refine ⟨Γ, S, ρ, G, m, ?_⟩
  dsimp only at p
  cases q : δ Γ S with
  | ok d S1 =>
    rw [q] at p
    simp only [Res.bind_ok] at p
    cases z : f d with
    | none => rw [z] at p; exact p.elim
    | some xs =>
      rw [z] at p
      exact fun v ρ1 G1 H1 m1 n1 r1 => ⟨d, xs, ρ1, G1, r1, z, m1.sub, fun J sk => p J ρ1 G1 H1 m1 n1 sk⟩
  | exc x S1 => rw [q] at p; exact p
  | stuck => rw [q] at p; exact p
theorem di_l (h : DE X cls W e ε) : DI X cls W tg e (iL ε) := PI.weak (pi_list h) fun σ H R h => by
  obtain ⟨Γ, S, ρ, G, m, p⟩ := x_iter h
  refine ⟨Γ, S, ρ, G, m, p.mono fun v H1 ⟨d, xs, ρ1, G1, r, hd, s, k⟩ => ?_⟩
  cases d <;> try cases hd
  obtain ⟨a, vs, rfl, h1, h2⟩ := rep_lst.mp r
  exact ⟨a, rfl, ⟨vs, SqL.of (s _ _ h1)⟩, k _ (src_list h1 h2)⟩
theorem di_t (h : DE X cls W e ε) : DI X cls W tg e (iT ε) := PI.weak (pi_tup h) fun σ H R h => by
  obtain ⟨Γ, S, ρ, G, m, p⟩ := x_iter h
  refine ⟨Γ, S, ρ, G, m, p.mono fun v H1 ⟨d, xs, ρ1, G1, r, hd, s, k⟩ => ?_⟩
  cases d <;> try cases hd
  obtain ⟨a, vs, rfl, h1, h2⟩ := rep_tup.mp r
  exact ⟨a, rfl, ⟨vs, s.sqT h1⟩, k _ (src_tup h1 h2)⟩
theorem di_r1 (hg : Gl X "range") (hm : X.mg "range" = none) (ha : DE X cls W a ε) (he : starEach [a] X.env = (false, eval a X.env) :: starEach [] X.env := by rfl) (hs : starEach [a] X.env = [(false, eval a X.env)] := by rfl) :
    DI X cls W tg (.Call (.Name "range" p) [a] [] pos) (iR1 ε) := PI.weak (pi_range1 hg hm (pa_cons ha pa_nil he) hs) fun σ H R ⟨Γ, S, ρ, G, m, p⟩ => ⟨Γ, S, ρ, G, m, by
  unfold iR1 at p
  cases q : ε Γ S with
  | ok d S1 =>
    rw [q] at p
    simp only [Res.bind_ok] at p
    intro v ρ1 G1 H1 m1 n1 r1
    cases d with
    | int j =>
      simp only [asI] at p
      split at p
      · rename_i xs S2 z
        split at z
        · rename_i hj
          cases z
          have ev := rep_int.mp r1
          subst ev
          have hj2 := of_decide_eq_true hj
          exact ⟨j, rfl, hj2.1, hj2.2, p _ ρ1 G1 H1 m1 n1 src_range⟩
        · cases z
      · rename_i z
        split at z <;> cases z
      · exact p.elim
    | _ => exact p.elim
  | exc x S1 => rw [q] at p; exact p
  | stuck => rw [q] at p; exact p⟩
theorem di_r2 (hg : Gl X "range") (hm : X.mg "range" = none) (ha : DE X cls W a ε1) (hb : DE X cls W b ε2) (he : starEach [a, b] X.env = (false, eval a X.env) :: starEach [b] X.env := by rfl) (he2 : starEach [b] X.env = (false, eval b X.env) :: starEach [] X.env := by rfl)
    (hs : starEach [a, b] X.env = [(false, eval a X.env), (false, eval b X.env)] := by rfl) (hs2 : starEach [b] X.env = [(false, eval b X.env)] := by rfl) :
    DI X cls W tg (.Call (.Name "range" p) [a, b] [] pos) (iR2 ε1 ε2) := PI.weak (pi_range2 hg hm (pa_cons ha (pa_cons hb pa_nil he2) he) hs hs2) fun σ H R ⟨Γ, S, ρ, G, m, p⟩ => ⟨Γ, S, ρ, G, m, by
  unfold iR2 at p
  cases q : ε1 Γ S with
  | ok d S1 =>
    rw [q] at p
    simp only [Res.bind_ok] at p
    intro v ρ1 G1 H1 m1 n1 r1
    refine ⟨Γ, S1, ρ1, G1, m1, ?_⟩
    cases q2 : ε2 Γ S1 with
    | ok d2 S2 =>
      rw [q2] at p
      simp only [Res.bind_ok] at p
      intro v2 ρ2 G2 H2 m2 n2 r2
      cases d with
      | int i =>
        cases d2 with
        | int j =>
          simp only [asI] at p
          split at p
          · rename_i xs S2 z
            split at z
            · rename_i hj
              cases z
              have ev := rep_int.mp r1
              have ew := rep_int.mp r2
              subst ev ew
              have h1 := of_decide_eq_true hj.1
              have h2 := of_decide_eq_true hj.2
              exact ⟨i, j, rfl, ⟨h1.1, h1.2, h2.1, h2.2⟩, p _ ρ2 G2 H2 m2 (n1.trans n2) src_range⟩
            · cases z
          · rename_i z
            split at z <;> cases z
          · exact p.elim
        | _ => exact p.elim
      | _ => exact p.elim
    | exc x S2 => rw [q2] at p; exact fun c dx ρ' G' H' m' n' r' => p c dx ρ' G' H' m' (n1.trans n') r'
    | stuck => rw [q2] at p; exact p
  | exc x S1 => rw [q] at p; exact p
  | stuck => rw [q] at p; exact p⟩

/-! ### for -/
def forD (p : Pat) (kl : List Nat) (β : Ds) : List D → Ds
  | [], Γ, S => .next Γ S
  | x :: xs, Γ, S => match p.bind x Γ with
    | none => .stuck
    | some Γ1 => match β Γ1 S with
      | .next Γ2 S2 => forD p kl β xs (clr kl Γ2) S2
      | .cont Γ2 S2 => forD p kl β xs (clr kl Γ2) S2
      | .brk Γ2 S2 => .next (clr kl Γ2) S2
      | .ret d S2 => .ret d S2
      | .exc e Γ2 S2 => .exc e Γ2 S2
      | .stuck => .stuck
def sFor (ι : Da) (p : Pat) (kl : List Nat) (β : Ds) : Ds := fun Γ S => after (ι Γ S) Γ fun xs S1 => forD p kl β xs Γ S1
theorem SI.rebase {C : Cn} {en : Ent} {Γ : List Sl} {S : List D} {ρ R : List Addr} {G H B : Hp} {σ : L2.St} (s : SI C { en with B := B, R := R } Γ S ρ G H σ) (h : Sub en.B B) (k : en.R <+: R) : SI C en Γ S ρ G H σ := ⟨s.mem, s.nx, s.frs, h.trans s.base, k.trans s.basr⟩
theorem SI.to {C : Cn} {en : Ent} {Γ : List Sl} {S : List D} {ρ : List Addr} {G H : Hp} {σ : L2.St} (s : SI C en Γ S ρ G H σ) : SI C { en with B := G, R := ρ } Γ S ρ G H σ := ⟨s.mem, s.nx, s.frs, .refl, List.prefix_refl _⟩
theorem PostS.rebase {C : Cn} {en : Ent} {B : Hp} {R : List Addr} {Dn : Ends} (h : Sub en.B B) (k : en.R <+: R) : ∀ {o : Out}, PostS C W en Dn o → PostS C W { en with B := B, R := R } Dn o
  | .next Γ S, q => fun ρ G H σ s => q ρ G H σ (s.rebase h k)
  | .brk Γ S, q => fun ρ G H σ s => q ρ G H σ (s.rebase h k)
  | .cont Γ S, q => fun ρ G H σ s => q ρ G H σ (s.rebase h k)
  | .ret d S, q => q
  | .exc e Γ S, q => fun c dx ρ G H σ s => q c dx ρ G H σ (s.rebase h k)
  | .stuck, q => q
theorem ds_for {iter : Expr} {body : List Stmt} {ι : Da} {p : Pat} {kl : List Nat} {β : Ds} (hp : PassesOwn (model X.prog X.w) X.A X.env X.xe) (hc : X.calm = true) (hi : DI X cls W tg iter ι) (hg : PG X tg (p.g X.K)) (hb : DSs X cls W body β)
    (hs : ∀ x, foldedSetIterable iter X.env x = pure x := by intro _; rfl) : DS X cls W (.For tg iter body [] pos) (sFor ι p kl β) := PS.weak (ps_for hp hc hi hg hb hs) fun Dn σ H ⟨en, Γ, S, ρ, G, s, q⟩ => ⟨Γ, S, ρ, G, s.mem, by
  unfold sFor at q
  cases z : ι Γ S with
  | exc x S1 => rw [z] at q; exact fun cls' dx ρ1 G1 H1 m n c => q cls' dx ρ1 G1 H1 σ (s.step m n) c
  | stuck => rw [z] at q; exact q.elim
  | ok xs S1 =>
    rw [z] at q
    simp only [after_ok] at q
    intro J ρ1 G1 H1 m1 n1 sk
    have s1 := s.step m1 n1
    have q1 := q.rebase (B := G1) (R := ρ1) s1.base s1.basr
    refine ⟨fun i m σ H => m = xs.length - i ∧ i ≤ xs.length ∧ ∃ Γ S ρ G, SI ⟨X.K, cls⟩ { en with B := G1, R := ρ1 } Γ S ρ G H σ ∧ PostS ⟨X.K, cls⟩ W { en with B := G1, R := ρ1 } Dn (forD p kl β (xs.drop i) Γ S),
      ⟨xs.length, by omega, Nat.zero_le _, Γ, S1, ρ1, G1, s1.to, q1⟩, fun i m σ H ⟨hm, hi, Γ, S, ρ, G, s, q⟩ => ?_⟩
    by_cases hlt : i < xs.length
    · rw [List.drop_eq_getElem_cons hlt] at q
      refine .inr ⟨sk.go S ρ G H i s.mem.toS s.base s.basr hlt, fun σ' H' => ∃ Γ S ρ G, SI ⟨X.K, cls⟩ { en with B := G1, R := ρ1 } Γ S ρ G H' σ' ∧ PostS ⟨X.K, cls⟩ W { en with B := G1, R := ρ1 } Dn (forD p kl β (xs.drop (i + 1)) Γ S),
        fun σ' H' n => ⟨xs.length - (i + 1), by omega, rfl, hlt, n⟩, fun x H' y => ?_⟩
      obtain ⟨G', m', n', r'⟩ := sk.yld S ρ G H i x H' _ s.mem.toS s.base s.basr (List.getElem?_eq_getElem hlt) y
      have mm := s.mem.step n' m'
      have s' := s.step mm n'
      rw [forD] at q
      cases hbd : p.bind xs[i] Γ with
      | none => rw [hbd] at q; exact q.elim
      | some Γ1 =>
        rw [hbd] at q
        refine Pat.ok (C := ⟨X.K, cls⟩) p xs[i] x Γ Γ1 σ mm r' hbd _ fun σ2 m2 sb kp => ?_
        refine ⟨_, Γ1, S, ρ, G', sb _ s', ?_⟩
        simp only at q
        cases hz : β Γ1 S with
        | next Γ2 S2 => rw [hz] at q; exact fun ρ3 G3 H3 σ3 s3 => ⟨_, S2, ρ3, G3, s3.clr, q⟩
        | cont Γ2 S2 => rw [hz] at q; exact fun ρ3 G3 H3 σ3 s3 => ⟨_, S2, ρ3, G3, s3.clr, q⟩
        | brk Γ2 S2 => rw [hz] at q; exact fun ρ3 G3 H3 σ3 s3 => q ρ3 G3 H3 σ3 s3.clr
        | ret d S2 => rw [hz] at q; exact q
        | exc e Γ2 S2 => rw [hz] at q; exact q
        | stuck => rw [hz] at q; exact q.elim
    · have e : i = xs.length := by omega
      subst e
      rw [List.drop_length, forD] at q
      exact .inl ⟨sk.stop S ρ G H s.mem.toS s.base s.basr, q ρ G H σ s⟩⟩
/-- forgetting, as nothing of the program does it: ahead of a statement -/
def sClr (kl : List Nat) : Ds := fun Γ S => .next (clr kl Γ) S
theorem dss_clr (kl : List Nat) (h : DSs X cls W sts δ) : DSs X cls W sts (sSeq (sClr kl) δ) := PSs.weak h fun Dn σ H ⟨en, Γ, S, ρ, G, s, p⟩ => ⟨en, _, S, ρ, G, s.clr, p⟩

/-! ### while -/
def whileD (τ : Dt) (kl : List Nat) (β : Ds) : Nat → Ds
  | 0, _, _ => .stuck
  | n + 1, Γ, S => after (τ Γ S) Γ fun k S1 => if k then (match β Γ S1 with
      | .next Γ2 S2 => whileD τ kl β n (clr kl Γ2) S2
      | .cont Γ2 S2 => whileD τ kl β n (clr kl Γ2) S2
      | .brk Γ2 S2 => .next (clr kl Γ2) S2
      | .ret d S2 => .ret d S2
      | .exc e Γ2 S2 => .exc e Γ2 S2
      | .stuck => .stuck) else .next Γ S1
theorem ds_while {body : List Stmt} {kl : List Nat} {β : Ds} {n : Nat} (hp : PassesOwn (model X.prog X.w) X.A X.env X.xe) (hc : DT X cls W c τ) (hb : DSs X cls W body β) : DS X cls W (.While c body [] pos) (whileD τ kl β n) :=
  PS.weak (ps_while hp hc hb) fun Dn σ H ⟨en, Γ, S, ρ, G, s, q⟩ => by
    refine ⟨fun m σ H => ∃ Γ S ρ G, SI ⟨X.K, cls⟩ en Γ S ρ G H σ ∧ PostS ⟨X.K, cls⟩ W en Dn (whileD τ kl β m Γ S), ⟨n, Γ, S, ρ, G, s, q⟩, fun m σ H ⟨Γ, S, ρ, G, s, q⟩ => ?_⟩
    cases m with
    | zero => exact q.elim
    | succ m =>
      rw [whileD] at q
      refine ⟨Γ, S, ρ, G, s.mem, post_after s q fun k S1 ρ1 G1 H1 v m1 n1 s1 r1 p1 => ?_⟩
      have e1 : k = v := r1
      subst e1
      cases k with
      | false => exact iteF (p1 ρ1 G1 H1 σ s1)
      | true =>
        simp only [if_true] at p1
        refine iteT ⟨fun σ' H' => ∃ Γ S ρ G, SI ⟨X.K, cls⟩ en Γ S ρ G H' σ' ∧ PostS ⟨X.K, cls⟩ W en Dn (whileD τ kl β m Γ S), fun σ' H' n => ⟨m, by omega, n⟩, en, Γ, S1, ρ1, G1, s1, ?_⟩
        cases hz : β Γ S1 with
        | next Γ2 S2 => rw [hz] at p1; exact fun ρ3 G3 H3 σ3 s3 => ⟨_, S2, ρ3, G3, s3.clr, p1⟩
        | cont Γ2 S2 => rw [hz] at p1; exact fun ρ3 G3 H3 σ3 s3 => ⟨_, S2, ρ3, G3, s3.clr, p1⟩
        | brk Γ2 S2 => rw [hz] at p1; exact fun ρ3 G3 H3 σ3 s3 => p1 ρ3 G3 H3 σ3 s3.clr
        | ret d S2 => rw [hz] at p1; exact p1
        | exc e Γ2 S2 => rw [hz] at p1; exact p1
        | stuck => rw [hz] at p1; exact p1.elim
end
end DL

namespace DL
open PySem PySem.Spec PyProof.Rows L2

/-! ### list comprehensions -/
abbrev W0 : WX := fun _ _ _ _ => False
def wipeD (Γ : List Sl) : List Nat → List Sl
  | [] => Γ
  | v :: vs => (wipeD Γ vs).set v .non
theorem wipe_out2 {σ : L2.St} {j : Nat} : ∀ {vs : List Nat}, j ∉ vs → (L2.wipe σ vs)[j]? = σ[j]?
  | [], _ => rfl
  | v :: vs, h => by
    rw [List.mem_cons, not_or] at h
    unfold L2.wipe
    rw [List.getElem?_set_ne (Ne.symm h.1), wipe_out2 h.2]
theorem wipe_in {σ : L2.St} {j : Nat} (hl : j < σ.length) : ∀ {vs : List Nat}, j ∈ vs → (L2.wipe σ vs)[j]? = some none
  | v :: vs, h => by
    unfold L2.wipe
    by_cases e : v = j
    · subst e
      rw [List.getElem?_set_self (by rw [L2.wipe_length]; exact hl)]
    · rw [List.getElem?_set_ne e]
      rcases List.mem_cons.mp h with z | z
      · exact absurd z.symm e
      · exact wipe_in hl z
theorem wipe_eq {σ σ' : L2.St} {vs : List Nat} (hl : σ'.length = σ.length) (h : ∀ j, j ∉ vs → σ'[j]? = σ[j]?) : L2.wipe σ' vs = L2.wipe σ vs := by
  apply List.ext_getElem?
  intro j
  by_cases hj : j ∈ vs
  · by_cases hlt : j < σ.length
    · rw [wipe_in (by rw [hl]; exact hlt) hj, wipe_in hlt hj]
    · rw [List.getElem?_eq_none (by rw [L2.wipe_length]; omega), List.getElem?_eq_none (by rw [L2.wipe_length]; omega)]
  · rw [wipe_out2 hj, wipe_out2 hj, h j hj]
theorem wipeD_out {Γ : List Sl} {j : Nat} {x : Sl} (hx : x ≠ .non) : ∀ {vs : List Nat}, (wipeD Γ vs)[j]? = some x → Γ[j]? = some x ∧ j ∉ vs
  | [], h => ⟨h, by simp⟩
  | v :: vs, h => by
    unfold wipeD at h
    by_cases e : v = j
    · subst e
      by_cases hl : v < (wipeD Γ vs).length
      · rw [List.getElem?_set_self hl] at h; cases h; exact absurd rfl hx
      · rw [List.getElem?_eq_none (by simpa using hl)] at h; cases h
    · rw [List.getElem?_set_ne e] at h
      obtain ⟨h1, h2⟩ := wipeD_out hx h
      exact ⟨h1, by rw [List.mem_cons, not_or]; exact ⟨fun z => e z.symm, h2⟩⟩
theorem wipeD_val {Γ : List Sl} {j : Nat} {d : D} {vs : List Nat} (h : (wipeD Γ vs)[j]? = some (Sl.val d)) : Γ[j]? = some (Sl.val d) ∧ j ∉ vs := wipeD_out (by intro z; cases z) h
theorem wipeD_own {Γ : List Sl} {j : Nat} {d : D} {vs : List Nat} (h : (wipeD Γ vs)[j]? = some (Sl.own d)) : Γ[j]? = some (Sl.own d) ∧ j ∉ vs := wipeD_out (by intro z; cases z) h
theorem wipeD_len {Γ : List Sl} : ∀ {vs : List Nat}, (wipeD Γ vs).length = Γ.length
  | [] => rfl
  | v :: vs => by unfold wipeD; rw [List.length_set, wipeD_len]
theorem Mem.wipe {C : Cn} {Γ : List Sl} {S : List D} {ρ : List Addr} {G H : Hp} {σ : L2.St} (m : Mem C Γ S ρ G H σ) (vs : List Nat) : Mem C (wipeD Γ vs) S ρ G H (L2.wipe σ vs) where
  sub := m.sub
  val := fun i d h => by
    obtain ⟨h1, h2⟩ := wipeD_val h
    rw [wipe_out2 h2]; exact m.val i d h1
  own := fun i d h => by
    obtain ⟨h1, h2⟩ := wipeD_own h
    rw [wipe_out2 h2]; exact m.own i d h1
  inj := fun i j d d' a h k h2 k2 => by
    obtain ⟨h1, n1⟩ := wipeD_own h
    obtain ⟨k1, n2⟩ := wipeD_own k
    rw [wipe_out2 n1] at h2
    rw [wipe_out2 n2] at k2
    exact m.inj i j d d' a h1 k1 h2 k2
  sto := m.sto
  stG := m.stG
  len := m.len
  nd := m.nd
  wid := by rw [wipeD_len, L2.wipe_length]; exact m.wid
/-- in a comprehension nothing may be raised -/
def nox {α : Type} (r : Res α) : Res α := match r with | .exc _ _ => .stuck | r => r
@[simp] theorem nox_ok {α : Type} (a : α) (S : List D) : nox (.ok a S) = .ok a S := Eq.trans rfl rfl
@[simp] theorem nox_exc {α : Type} (e : Exn) (S : List D) : nox (.exc e S : Res α) = .stuck := Eq.trans rfl rfl
@[simp] theorem nox_stuck {α : Type} : nox (.stuck : Res α) = .stuck := Eq.trans rfl rfl
def compD (p : Pat) (τ : Dt) (ε : De) : List D → List Sl → List D → Res (List D)
  | [], _, S => .ok [] S
  | x :: xs, Γ, S => match p.bind x Γ with
    | none => .stuck
    | some Γ1 => (nox (τ Γ1 S)).bind fun k S1 => if k then (nox (ε Γ1 S1)).bind fun d S2 => (compD p τ ε xs Γ S2).bind fun ds S3 => .ok (d :: ds) S3 else compD p τ ε xs Γ S1
def lenOk (ds : List D) : Option D := if ds.length ≤ sizeLine then some (.lst ds) else none
def eComp (ι : Da) (p : Pat) (vs : List Nat) (τ : Dt) (ε : De) : De := fun Γ S => (ι Γ S).bind fun xs S1 => (compD p τ ε xs (wipeD Γ vs) S1).bind fun ds S2 => ofO (lenOk ds) S2
def tTrue : Dt := fun _ S => .ok true S
def DTs (X : Cx) (cls : Nat → Addr) (ifs : List Expr) (τ : Dt) : Prop := PTs X ifs (tT ⟨X.K, cls⟩ W0 τ)
theorem PTs.weak {X : Cx} {e : List Expr} {t t' : TT} (h : PTs X e t) (i : ∀ σ H Q, t' σ H Q → t σ H Q) : PTs X e t' := ⟨fun pins s σ H Q I h' => h.run pins s σ H Q I (i σ H Q h')⟩
section
variable {X : Cx} {cls : Nat → Addr} {W : WX} {e c : Expr} {τ : Dt}
theorem dts_nil : DTs X cls [] tTrue := PTs.weak pts_nil fun σ H Q ⟨Γ, S, ρ, G, m, p⟩ => p.at m rfl
theorem dts_one (h : DT X cls W0 c τ) : DTs X cls [c] τ := pts_one h
end
theorem nox_post {C : Cn} {α β : Type} {RV : RVT α β} {Γ : List Sl} {ρ : List Addr} {G H : Hp} {σ : L2.St} {r : Res α} {Q : β → Hp → Prop} (h : ∀ d S1, r = .ok d S1 → ∀ v ρ' G' H', Mem C Γ S1 ρ' G' H' σ → Nx ρ G H ρ' G' H' → RV H ρ' G' H' d v → Q v H') (hs : ∃ d S1, r = .ok d S1) : Post C W0 RV Γ ρ G H σ r Q := by
  obtain ⟨d, S1, rfl⟩ := hs
  exact h d S1 rfl

section
variable {X : Cx} {cls : Nat → Addr} {W : WX}
theorem x_comp {ι : Da} {p : Pat} {τ : Dt} {ε : De} {vs : List Nat} (hv : ∀ i ∈ p.vars, i ∈ vs) {σ : L2.St} {H : Hp} {Q : VK} (h : tE ⟨X.K, cls⟩ W (RF ⟨X.K, cls⟩) (eComp ι p vs τ ε) σ H Q) :
    tLc (tI ⟨X.K, cls⟩ W ι) (p.g X.K) (tT ⟨X.K, cls⟩ W0 τ) (tE ⟨X.K, cls⟩ W0 (RS ⟨X.K, cls⟩) ε) vs σ H Q := by
  obtain ⟨Γ, S, ρ, G, m, q⟩ := h
  refine ⟨Γ, S, ρ, G, m, ?_⟩
  unfold eComp at q
  cases z : ι Γ S with
  | exc x S1 => rw [z] at q; exact q
  | stuck => rw [z] at q; exact q
  | ok xs S1 =>
    rw [z] at q
    simp only [Res.bind_ok] at q
    intro J ρ1 G1 H1 m1 n1 sk D0 hD
    have hown : ∀ (i : Nat) (d : D) (b : Addr), Γ[i]? = some (Sl.own d) → σ[i]? = some (some (V.ref b)) → b ≠ D0 := fun i d b h1 h2 e => by
      obtain ⟨b', e', r', _⟩ := m1.own i d h1
      rw [h2] at e'; cases e'
      obtain ⟨o, ho⟩ := r'.some
      rw [e, hD] at ho; cases ho
    have hownw : ∀ (i : Nat) (d : D) (b : Addr), (wipeD Γ vs)[i]? = some (Sl.own d) → (L2.wipe σ vs)[i]? = some (some (V.ref b)) → b ≠ D0 := fun i d b h1 h2 => by
      obtain ⟨k1, k2⟩ := wipeD_own h1
      rw [wipe_out2 k2] at h2
      exact hown i d b k1 h2
    have gD : G1 D0 = none := by
      cases e : G1 D0 with
      | none => rfl
      | some o => rw [m1.sub _ _ e] at hD; cases hD
    have pD : D0 ∉ ρ1 := fun e => by
      obtain ⟨i, hi⟩ := List.mem_iff_getElem?.mp e
      have hi2 : i < S1.length := by rw [← m1.len]; exact (List.getElem?_eq_some_iff.mp hi).1
      obtain ⟨a, ha, r⟩ := m1.sto i S1[i] (List.getElem?_eq_getElem hi2)
      rw [hi] at ha; cases ha
      obtain ⟨o, ho⟩ := r.some
      rw [ho] at hD; cases hD
    -- the state of the loop
    let Pv : Nat → Hp → Prop := fun i H => ∃ S ρ G acc accd, Mem ⟨X.K, cls⟩ Γ S ρ G H σ ∧ H D0 = some (.lst acc) ∧ Reps ⟨X.K, cls⟩ ρ G accd acc ∧ D0 ∉ ρ ∧ G D0 = none ∧ Nx ρ1 G1 H1 ρ G H ∧
      compD p τ ε xs (wipeD Γ vs) S1 = (compD p τ ε (xs.drop i) (wipeD Γ vs) S).bind fun ds S3 => .ok (accd ++ ds) S3
    refine ⟨fun i mm H => mm = xs.length - i ∧ i ≤ xs.length ∧ Pv i H, ⟨xs.length, by omega, Nat.zero_le _, S1, ρ1, G1, [], [], m1.aside gD pD hown, upd_same, .nil, pD, gD, Nx.refl.aside hD, ?_⟩, fun i mm H ⟨hm, hi, S, ρ, G, acc, accd, ms, hacc, racc, pD', gD', nn, eqn⟩ => ?_⟩
    · rw [List.drop_zero]
      cases compD p τ ε xs (wipeD Γ vs) S1 <;> rfl
    · have sub1 : Sub G1 G := nn.ext
      by_cases hlt : i < xs.length
      · rw [List.drop_eq_getElem_cons hlt, compD] at eqn
        refine .inr ⟨sk.go S ρ G H i ms.toS sub1 nn.pre hlt, Pv (i + 1), fun H' n => ⟨xs.length - (i + 1), by omega, rfl, hlt, n⟩, fun x H' y => ?_⟩
        obtain ⟨G', m', n', r'⟩ := sk.yld S ρ G H i x H' _ ms.toS sub1 nn.pre (List.getElem?_eq_getElem hlt) y
        have mH' := ms.step n' m'
        have mw := mH'.wipe vs
        cases hbd : p.bind xs[i] (wipeD Γ vs) with
        | none => rw [hbd] at eqn; rw [eqn] at q; exact q.elim
        | some Γ1 =>
          rw [hbd] at eqn
          simp only at eqn
          refine Pat.ok (C := ⟨X.K, cls⟩) p xs[i] x (wipeD Γ vs) Γ1 (L2.wipe σ vs) mw r' hbd _ fun σ2 m2 _ kp => ⟨?_, Γ1, S, ρ, G', m2, ?_⟩
          · rw [wipe_eq kp.1 fun j hj => kp.2 j fun h => hj (hv j h), wipe_eq (L2.wipe_length σ vs) fun j hj => wipe_out2 hj]
          · -- the test
            cases zt : τ Γ1 S with
            | exc x2 S2 => rw [zt] at eqn; rw [eqn] at q; exact q.elim
            | stuck => rw [zt] at eqn; rw [eqn] at q; exact q.elim
            | ok k S2 =>
              rw [zt] at eqn
              simp only [nox_ok, Res.bind_ok] at eqn
              intro kv ρ2 G2 H2 mm2 nn2 rk
              have ek : k = kv := rk
              subst ek
              have nnH : Nx ρ G H ρ2 G2 H2 := n'.trans nn2
              have mg2 : Mem ⟨X.K, cls⟩ Γ S2 ρ2 G2 H2 σ := ms.step nnH mm2.toS
              cases k with
              | false =>
                simp only [Bool.false_eq_true, if_false] at eqn
                refine iteF ⟨S2, ρ2, G2, acc, accd, mg2, nnH.keep _ _ hacc pD', Reps.mono nnH.ext nnH.pre _ _ racc, fun z => ?_, ?_, nn.trans nnH, eqn⟩
                · rcases nnH.fre _ z with z | z
                  · exact pD' z
                  · rw [hacc] at z; cases z
                · cases e : G2 D0 with
                  | none => rfl
                  | some o => rcases nnH.new _ _ e with z | z
                              · rw [gD'] at z; cases z
                              · rw [hacc] at z; cases z
              | true =>
                simp only [if_true] at eqn
                refine iteT ⟨Γ1, S2, ρ2, G2, mm2, ?_⟩
                cases ze : ε Γ1 S2 with
                | exc x3 S3 => rw [ze] at eqn; rw [eqn] at q; exact q.elim
                | stuck => rw [ze] at eqn; rw [eqn] at q; exact q.elim
                | ok d S3 =>
                  rw [ze] at eqn
                  simp only [nox_ok, Res.bind_ok] at eqn
                  intro dv ρ3 G3 H3 mm3 nn3 rd
                  have nn4 : Nx ρ G H ρ3 G3 H3 := nnH.trans nn3
                  have hacc3 : H3 D0 = some (.lst acc) := nn4.keep _ _ hacc pD'
                  have pD3 : D0 ∉ ρ3 := fun z => by
                    rcases nn4.fre _ z with z | z
                    · exact pD' z
                    · rw [hacc] at z; cases z
                  have gD3 : G3 D0 = none := by
                    cases e : G3 D0 with
                    | none => rfl
                    | some o => rcases nn4.new _ _ e with z | z
                                · rw [gD'] at z; cases z
                                · rw [hacc] at z; cases z
                  have mg3 : Mem ⟨X.K, cls⟩ Γ S3 ρ3 G3 H3 σ := ms.step nn4 mm3.toS
                  have eqn2 : compD p τ ε xs (wipeD Γ vs) S1 = (compD p τ ε (xs.drop (i + 1)) (wipeD Γ vs) S3).bind fun ds S3 => .ok ((accd ++ [d]) ++ ds) S3 := by
                    rw [eqn]
                    cases compD p τ ε (xs.drop (i + 1)) (wipeD Γ vs) S3 with
                    | ok ds S4 => simp only [Res.bind_ok, List.append_assoc, List.singleton_append]
                    | exc _ _ => rfl
                    | stuck => rfl
                  refine ⟨acc, hacc3, ?_, S3, ρ3, G3, acc ++ [dv], accd ++ [d], mg3.aside gD3 pD3 hown, upd_same, (Reps.mono nn4.ext nn4.pre _ _ racc).append (.cons rd .nil), pD3, gD3, (nn.trans nn4).aside hD, eqn2⟩
                  rw [eqn2] at q
                  cases zz : compD p τ ε (xs.drop (i + 1)) (wipeD Γ vs) S3 with
                  | exc _ _ =>
                    exfalso
                    have : ∀ (xs : List D) (Γ : List Sl) (S : List D) e S', compD p τ ε xs Γ S ≠ .exc e S' := by
                      intro xs
                      induction xs with
                      | nil => intro Γ S e S' h; cases h
                      | cons x xs ih =>
                        intro Γ S e S' h
                        rw [compD] at h
                        cases a1 : p.bind x Γ with
                        | none => rw [a1] at h; cases h
                        | some Γ1 =>
                          rw [a1] at h
                          simp only at h
                          cases a2 : τ Γ1 S with
                          | exc _ _ => rw [a2] at h; cases h
                          | stuck => rw [a2] at h; cases h
                          | ok k S1 =>
                            rw [a2] at h
                            simp only [nox_ok, Res.bind_ok] at h
                            cases k with
                            | false => exact ih _ _ _ _ (by simpa using h)
                            | true =>
                              simp only [if_true] at h
                              cases a3 : ε Γ1 S1 with
                              | exc _ _ => rw [a3] at h; cases h
                              | stuck => rw [a3] at h; cases h
                              | ok d S2 =>
                                rw [a3] at h
                                simp only [nox_ok, Res.bind_ok] at h
                                cases a4 : compD p τ ε xs Γ S2 with
                                | ok _ _ => rw [a4] at h; cases h
                                | stuck => rw [a4] at h; cases h
                                | exc _ _ => exact ih _ _ _ _ a4
                    exact this _ _ _ _ _ zz
                  | stuck => rw [zz] at q; exact q.elim
                  | ok ds S4 =>
                    rw [zz] at q
                    simp only [Res.bind_ok] at q
                    unfold lenOk at q
                    split at q
                    · rename_i hl
                      rw [List.length_append, List.length_append, List.length_singleton] at hl
                      rw [← racc.length]; omega
                    · exact q.elim
      · have e : i = xs.length := by omega
        subst e
        refine .inl ⟨sk.stop S ρ G H ms.toS sub1 nn.pre, ?_⟩
        rw [List.drop_length, compD] at eqn
        rw [eqn] at q
        simp only [Res.bind_ok, List.append_nil] at q
        unfold lenOk at q
        split at q
        · exact q _ ρ G H ms (n1.trans nn) ⟨D0, rfl, pD', n1.live _ hD, gD', acc, hacc, racc⟩
        · exact q.elim
theorem df_comp {elt tg iter : Expr} {ifs : List Expr} {scope : Scope} {own : List (Str × Nat)} {pos : Pos} {ι : Da} {p : Pat} {τ : Dt} {ε : De} (hc : X.calm = true) (hN : X.N.Nodup) (hi : DI X cls W tg iter ι) (ok : BlkOk X.N X.env.scope scope own) (hv : ∀ i ∈ p.vars, i ∈ own.map (·.2))
    (hg : ∀ (s : Shared) (H : Hp) (C : Addr) (cl : List (Str × Addr)) (fp : List Addr), PG (X.blk s H scope (compEnvC scope cl C X.env) fp) tg (p.g X.K)) (ht : ∀ (s : Shared) (H : Hp) (C : Addr) (cl : List (Str × Addr)) (fp : List Addr), DTs (X.blk s H scope (compEnvC scope cl C X.env) fp) cls ifs τ)
    (he : ∀ (s : Shared) (H : Hp) (C : Addr) (cl : List (Str × Addr)) (fp : List Addr), DE (X.blk s H scope (compEnvC scope cl C X.env) fp) cls W0 elt ε) (hs : ∀ x, foldedSetIterable iter X.env x = pure x := by intro _; rfl) :
    DF X cls W (.ListComp elt [⟨tg, iter, ifs, 0⟩] scope pos) (eComp ι p (own.map (·.2)) τ ε) := PE.weak (pe_lc (tt := tT ⟨X.K, cls⟩ W0 τ) (te := tE ⟨X.K, cls⟩ W0 (RS ⟨X.K, cls⟩) ε) hc hN hi ok hg ht he hs) fun σ H Q h => x_comp hv h
/-- name = [..]: settled | the slot's own -/
theorem ps_comp {i : Nat} {y : Str} {py : Pos} {elt tg iter : Expr} {ifs : List Expr} {scope : Scope} {own : List (Str × Nat)} {pos spos : Pos} {ι : Da} {p : Pat} {τ : Dt} {ε : De} (hc : X.calm = true) (hN : X.N.Nodup) (hy : X.N[i]? = some y) (hyl : X.env.scope.names.lookup y = some .local)
    (hsw : swapsWith (.ListComp elt [⟨tg, iter, ifs, 0⟩] scope pos) (some (.Name y py)) spos.line X.env = pure true) (hi : DI X cls W tg iter ι) (ok : BlkOk X.N X.env.scope scope own) (hv : ∀ i ∈ p.vars, i ∈ own.map (·.2))
    (hg : ∀ (s : Shared) (H : Hp) (C : Addr) (cl : List (Str × Addr)) (fp : List Addr), PG (X.blk s H scope (compEnvC scope cl C X.env) fp) tg (p.g X.K)) (ht : ∀ (s : Shared) (H : Hp) (C : Addr) (cl : List (Str × Addr)) (fp : List Addr), DTs (X.blk s H scope (compEnvC scope cl C X.env) fp) cls ifs τ)
    (he : ∀ (s : Shared) (H : Hp) (C : Addr) (cl : List (Str × Addr)) (fp : List Addr), DE (X.blk s H scope (compEnvC scope cl C X.env) fp) cls W0 elt ε) (hs : ∀ x, foldedSetIterable iter X.env x = pure x := by intro _; rfl) :
    PS X (.Assign [.Name y py] (.ListComp elt [⟨tg, iter, ifs, 0⟩] scope pos) spos) (tAsg (tE ⟨X.K, cls⟩ W (RF ⟨X.K, cls⟩) (eComp ι p (own.map (·.2)) τ ε)) (gName i)) := PS.weak (ps_setLc (tt := tT ⟨X.K, cls⟩ W0 τ) (te := tE ⟨X.K, cls⟩ W0 (RS ⟨X.K, cls⟩) ε) hc hN hy hyl hsw hi ok hg ht he hs) fun Dn σ H h => x_comp (Q := fun x H1 => gName i x σ H1 Dn.nx) hv h
theorem ds_setC {i : Nat} {st : Stmt} {ε : De} (h : PS X st (tAsg (tE ⟨X.K, cls⟩ W (RF ⟨X.K, cls⟩) ε) (gName i))) : DS X cls W st (sSet i ε) := PS.weak h fun D σ H ⟨en, Γ, S, ρ, G, s, p⟩ =>
  ⟨Γ, S, ρ, G, s.mem, post_after s p fun d S1 ρ1 G1 H1 v m n s1 r p1 => by
    obtain ⟨G2, m2, n2, r2⟩ := RF.settle s.mem n m r
    exact p1 _ _ _ _ ((s.step m2 n2).setv i r2)⟩
theorem ds_ownC {i : Nat} {st : Stmt} {ε : De} (h : PS X st (tAsg (tE ⟨X.K, cls⟩ W (RF ⟨X.K, cls⟩) ε) (gName i))) : DS X cls W st (sOwn i ε) := PS.weak h fun D σ H ⟨en, Γ, S, ρ, G, s, p⟩ =>
  ⟨Γ, S, ρ, G, s.mem, post_after s p fun d S1 ρ1 G1 H1 v m n s1 r p1 => by
    obtain ⟨a, rfl, na, h0, hg, r⟩ := r
    exact p1 _ _ _ _ (s.seto i n m na h0 hg r)⟩
end
end DL

namespace DL
open PySem PySem.Spec PyProof.Rows L2

/-! ### a list, a tuple or a text is walked -/
def iSeqA (K : PySem.W.Frag) (tl : TE) : TI := fun σ H R => tl σ H fun x H1 => (∃ a, x = .ref a ∧ (∃ xs, SqL K H1 a xs) ∧ R (Itl K a) H1) ∨ (∃ a, x = .ref a ∧ (∃ xs, SqT K H1 a xs) ∧ R (Itt K a) H1) ∨ ∃ z, x = .str z ∧ R (Its z) H1
theorem pi_any {X : Cx} {tg l : Expr} {tl : TE} (hl : PE X l tl) : PI X tg l (iSeqA X.K tl) := by
  refine ⟨fun pins s σ H R I h => ?_⟩
  refine thn (hl.run pins s σ H _ I h) fun v s1 ⟨x, H1, I1, r1, q1⟩ => ?_
  rcases q1 with ⟨a, e, ⟨xs, hq⟩, q⟩ | ⟨a, e, ⟨xs, hq⟩, q⟩ | ⟨z, e, q⟩
  · subst e
    cases r1
    obtain ⟨its, rv, p, hz⟩ := I1.list hq
    refine wpAny_pyIter_list p.isList ?_
    refine ⟨s1.heap.objs.size, [s1.heap.objs.size], _, _, H1, rfl, I1.kept (t' := s1.toks) fun b o e => Heap.get?_push_of_some _ e, turn_list a _, ⟨_, Heap.get?_push_size _ rfl, rfl, rfl⟩, fun b hb => ?_, q⟩
    have e : b = s1.heap.objs.size := by simpa using hb
    subst e
    exact I1.fpOk (Nat.le_refl _) (I1.hok.fresh (Nat.le_refl _))
  · subst e
    cases r1
    obtain ⟨its, rv, p, hz⟩ := I1.tuple hq
    refine wpAny_pyIter_tuple (show s1.heap.IsTuple a its.toArray from p) ?_
    refine ⟨s1.heap.objs.size, [s1.heap.objs.size], _, _, H1, rfl, I1.kept (t' := s1.toks) fun b o e => Heap.get?_push_of_some _ e, turn_tuple a _, ⟨_, Heap.get?_push_size _ rfl, rfl, rfl⟩, fun b hb => ?_, q⟩
    have e : b = s1.heap.objs.size := by simpa using hb
    subst e
    exact I1.fpOk (Nat.le_refl _) (I1.hok.fresh (Nat.le_refl _))
  · subst e
    obtain ⟨t, rfl⟩ := r1
    cases ha : z.cps.all (· < 128)
    · exact wpAny_pyIter_wide ha (pi_one (tk := s1.toks) I1 _ (turn_str _ z t "str_iterator" (.inr rfl)) ⟨_, Heap.get?_push_size _ rfl, rfl, rfl⟩ q)
    · exact wpAny_pyIter_ascii ha (pi_one (tk := s1.toks) I1 _ (turn_str _ z t "str_ascii_iterator" (.inl rfl)) ⟨_, Heap.get?_push_size _ rfl, rfl, rfl⟩ q)
def items : D → Option (List D)
  | .lst xs => some xs
  | .tup xs => some xs
  | .scr ns => some (ns.map .int)
  | .str z => some (z.cps.toList.map fun c => .str ⟨#[c]⟩)
  | _ => none
def iA (a : De) : Da := fun Γ S => (a Γ S).bind fun x S1 => ofO (items x) S1
theorem src_str {C : Cn} {z : Str} {ρ0 : List Addr} {G0 : Hp} : SrcOk C (Its z) (z.cps.toList.map fun c => .str ⟨#[c]⟩) ρ0 G0 where
  go := fun S ρ G H i m s _ hi => by
    show i < z.cps.size
    simpa using hi
  yld := fun S ρ G H i x H' d m s pr hd y => by
    obtain ⟨rfl, c, hc, rfl⟩ := y
    rw [List.getElem?_map, Array.getElem?_toList, hc] at hd
    cases hd
    exact ⟨G, m, .refl, rep_str.mpr rfl⟩
  stop := fun S ρ G H m s _ => by
    show z.cps.size ≤ _
    simp
theorem src_scr {C : Cn} {a : Addr} {ns : List Int} {ρ0 : List Addr} {G0 : Hp} (h : SqL C.K G0 a (ns.map V.int)) : SrcOk C (Itl C.K a) (ns.map .int) ρ0 G0 where
  go := fun S ρ G H i m s _ hi => ⟨ns.map V.int, (ns.map V.int)[i]'(by simpa using hi), (s.trans m.sub).sqL h, List.getElem?_eq_getElem _⟩
  yld := fun S ρ G H i x H' d m s pr hd y => by
    obtain ⟨rfl, y⟩ := y
    have e := y _ ((s.trans m.sub).sqL h)
    rw [List.getElem?_map] at hd e
    cases z : ns[i]? with
    | none => rw [z] at hd; cases hd
    | some n =>
      rw [z] at hd e
      cases hd; cases e
      exact ⟨G, m, .refl, rep_int.mpr rfl⟩
  stop := fun S ρ G H m s _ => ⟨ns.map V.int, (s.trans m.sub).sqL h, by simp⟩
section
variable {X : Cx} {cls : Nat → Addr} {W : WX} {e tg : Expr} {ε : De}
theorem di_a (h : DE X cls W e ε) : DI X cls W tg e (iA ε) := PI.weak (pi_any h) fun σ H R h => by
  obtain ⟨Γ, S, ρ, G, m, p⟩ := x_iter h
  refine ⟨Γ, S, ρ, G, m, p.mono fun v H1 ⟨d, xs, ρ1, G1, r, hd, s, k⟩ => ?_⟩
  cases d <;> try cases hd
  · rw [rep_str] at r; subst r
    exact .inr (.inr ⟨_, rfl, k _ src_str⟩)
  · obtain ⟨a, vs, rfl, h1, h2⟩ := rep_lst.mp r
    exact .inl ⟨a, rfl, ⟨vs, SqL.of (s _ _ h1)⟩, k _ (src_list h1 h2)⟩
  · obtain ⟨a, vs, rfl, h1, h2⟩ := rep_tup.mp r
    exact .inr (.inl ⟨a, rfl, ⟨vs, s.sqT h1⟩, k _ (src_tup h1 h2)⟩)
  · obtain ⟨a, rfl, h1⟩ := rep_scr.mp r
    exact .inl ⟨a, rfl, ⟨_, s.sqL h1⟩, k _ (src_scr h1)⟩
end
/-! ### names of the module -/
section
variable {X : Cx} {cls : Nat → Addr} {W : WX} {x : Str} {pos : Pos}
theorem de_gstr {z : Str} (hm : ∃ t : Tok, X.mg x = some (.str z t)) (hg : Gl X x := by rfl) (hd : (x == ("__debug__" : Str)) = false := by decide) : DE X cls W (.Name x pos) (eC (.str z)) := de_c (v := .str z) (pe_glob hg hm.choose_spec ⟨_, rfl⟩ hd) fun _ _ => rep_str.mpr rfl
theorem de_gint {z : Int} (hm : ∃ t : Tok, X.mg x = some (.int z t)) (hg : Gl X x := by rfl) (hd : (x == ("__debug__" : Str)) = false := by decide) : DE X cls W (.Name x pos) (eC (.int z)) := de_c (v := .int z) (pe_glob hg hm.choose_spec ⟨_, rfl⟩ hd) fun _ _ => rep_int.mpr rfl
/-- a written tuple of texts -/
inductive StrsV : List Str → List Value → Prop
  | nil : StrsV [] []
  | cons {z : Str} {t : Tok} {zs : List Str} {us : List Value} (h : StrsV zs us) : StrsV (z :: zs) (.str z t :: us)
theorem StrsV.vals : ∀ {zs : List Str} {us : List Value}, StrsV zs us → Vals (zs.map V.str) us
  | _, _, .nil => .nil
  | _, _, .cons (t := t) h => .cons ⟨t, rfl⟩ h.vals
theorem reps_strs {C : Cn} {ρ : List Addr} {G : Hp} : ∀ {zs : List Str}, Reps C ρ G (zs.map D.str) (zs.map V.str)
  | [] => .nil
  | z :: zs => .cons (rep_str.mpr rfl) reps_strs
theorem de_gtup {zs : List Str} (hm : ∃ a us dd n sl, X.mg x = some (.ref a) ∧ X.K.lookup a = some ⟨.type "tuple", dd, .seq us.toArray n, sl⟩ ∧ StrsV zs us ∧ us.length ≤ sizeLine)
    (hg : Gl X x := by rfl) (hd : (x == ("__debug__" : Str)) = false := by decide) : DE X cls W (.Name x pos) (eC (.tup (zs.map D.str))) := by
  obtain ⟨a, us, dd, n, sl, hm, hk, hu, hl⟩ := hm
  exact de_c (v := .ref a) (pe_glob hg hm rfl hd) fun ρ G => rep_tup.mpr ⟨a, zs.map V.str, rfl, .inr ⟨_, us.toArray, n, hk, rfl, rfl, by simpa using hl, hu.vals⟩, reps_strs⟩
end
def fuel : Nat := 1000000
/-! ### defs by the number of calls -/
abbrev Rec := Nat → List D → List D → Res D
section
variable {P : Program} {w : World} {K : PySem.W.Frag} {mg : Str → Option Value} {base : Heap} {cls : Nat → Addr}
theorem fn_stuck {k : Nat} {f : Addr} {fd : FuncData} {ps : List Str} {C : Cn} {F : List D → List D → Res D} (h : ∀ ds S, F ds S = .stuck) : FnOk P w K mg base (L2.CX P w) k f fd ps (spD C ps.length F) := by
  have no : ∀ vs H Q E, ¬ spD C ps.length F vs H Q E := fun vs H Q E h' => by
    obtain ⟨S, ρ, G, ds, _, _, _, z⟩ := h'
    rw [h] at z; exact z
  exact ⟨fun vs H Q E h => absurd h (no vs H Q E), fun A outer s H args us vs Q E _ _ _ _ h => absurd h (no vs H Q E)⟩
def spLaw (K : PySem.W.Frag) : Sp := fun vs H Q _ => ∃ (a : Addr) (ns : List Int), vs = [.ref a] ∧ SqL K H a (ns.map V.int) ∧ ns.length ≤ 63 ∧ ∀ H', Q (.bl true) H'
theorem law_imp {k : Nat} {f : Addr} {fd : FuncData} {ps : List Str} {F : List D → List D → Res D} (h : FnOk P w K mg base (L2.CX P w) k f fd ps (spD ⟨K, cls⟩ 1 F)) (hF : ∀ ns : List Int, ns.length ≤ 63 → ∃ S, F [.scr ns] [] = .ok (.bl true) S) :
    FnOk P w K mg base (L2.CX P w) k f fd ps (spLaw K) := h.imp fun vs H Q E ⟨a, ns, e, hS, hl, q⟩ => by
  subst e
  obtain ⟨S', hS'⟩ := hF ns hl
  refine ⟨[], [], H, [.scr ns], ⟨.refl, fun i d h => by simp at h, fun i d h => by simp at h, fun i j d d' a h => by simp at h, fun i d h => by simp at h, fun a h => by simp at h, rfl, List.nodup_nil, rfl⟩, .cons (rep_scr.mpr ⟨a, rfl, hS⟩) .nil, rfl, ?_⟩
  rw [hS']
  intro v ρ' G' H' m n r
  rw [rep_bl.mp r]
  exact q H'
end
end DL

namespace DL
open PySem PySem.Spec PyProof.Rows L2
/-! ### defs that run where no repr is under way -/
structure RoomG (k : Nat) (A : Around) : Prop extends Room k A where
  gd : A.guards = some []
theorem RoomG.deep {k : Nat} {A : Around} (r : RoomG (k + 1) A) (env : Env) : RoomG k (A.deeper env) := ⟨r.toRoom.deeper env, r.gd⟩
theorem RoomG.less {j k : Nat} {A : Around} (r : RoomG k A) (h : j ≤ k) : RoomG j A := ⟨r.toRoom.mono h, r.gd⟩
structure FnG (P : Program) (w : World) (K : PySem.W.Frag) (mg : Str → Option Value) (base : Heap) (k : Nat) (f : Addr) (fd : FuncData) (ps : List Str) (sp : Sp) : Prop where
  lng : ∀ vs H Q E, sp vs H Q E → vs.length = ps.length
  goes : ∀ (A : Around) (o : List Env) (s : Shared) (H : Hp) (ar : Args) (us : List Value) (vs : List V) (Q : VK) (E : XK), RoomG k A → Env0 P w K mg base A o s H → BindsTo s fd ar (ps.zip us) → Vals vs us → sp vs H Q E →
    codeAny (model P w) A (.call (.ref f) ar) (CR (L2.CX P w) o P w H s Q E) s
section
variable {P : Program} {w : World} {K : PySem.W.Frag} {mg : Str → Option Value} {base : Heap} {cls : Nat → Addr}
theorem FnG.weak {k : Nat} {f : Addr} {fd : FuncData} {ps : List Str} {sp sp2 : Sp} (F : FnG P w K mg base k f fd ps sp) (i : ∀ vs H Q E, sp2 vs H Q E → sp vs H Q E) : FnG P w K mg base k f fd ps sp2 :=
  ⟨fun vs H Q E h => F.lng vs H Q E (i _ _ _ _ h), fun A o s H ar us vs Q E r e b v h => F.goes A o s H ar us vs Q E r e b v (i _ _ _ _ h)⟩
theorem fnG_stuck {k : Nat} {f : Addr} {fd : FuncData} {ps : List Str} {C : Cn} {F : List D → List D → Res D} (h : ∀ ds S, F ds S = .stuck) : FnG P w K mg base k f fd ps (spD C ps.length F) := by
  have no : ∀ vs H Q E, ¬ spD C ps.length F vs H Q E := fun vs H Q E h' => by
    obtain ⟨S, ρ, G, ds, _, _, _, z⟩ := h'
    rw [h] at z; exact z
  exact ⟨fun vs H Q E h => absurd h (no vs H Q E), fun A o s H ar us vs Q E _ _ _ _ h => absurd h (no vs H Q E)⟩
theorem lawG_imp {k : Nat} {f : Addr} {fd : FuncData} {ps : List Str} {F : List D → List D → Res D} (h : FnG P w K mg base k f fd ps (spD ⟨K, cls⟩ 1 F)) (hF : ∀ ns : List Int, ns.length ≤ 63 → ∃ S, F [.scr ns] [] = .ok (.bl true) S) :
    FnG P w K mg base k f fd ps (spLaw K) := h.weak fun vs H Q E ⟨a, ns, e, hS, hl, q⟩ => by
  subst e
  obtain ⟨S', hS'⟩ := hF ns hl
  refine ⟨[], [], H, [.scr ns], ⟨.refl, fun i d h => by simp at h, fun i d h => by simp at h, fun i j d d' a h => by simp at h, fun i d h => by simp at h, fun a h => by simp at h, rfl, List.nodup_nil, rfl⟩, .cons (rep_scr.mpr ⟨a, rfl, hS⟩) .nil, rfl, ?_⟩
  rw [hS']
  intro v ρ' G' H' m n r
  rw [rep_bl.mp r]
  exact q H'
theorem defG_ok {x qual : Str} {st : Stmt} {f : Addr} {fd : FuncData} {N ps : List Str} {k : Nat} {δ : Ds} (F : Fun K x qual st f fd) (Sc : FnScope N ps (defScope st))
    (hbody : ∀ (cdv : Value) (A : Around) (outer : List Env) (s : Shared) (H : Hp) (E : XK), RoomG k (A.deeper (envOfC qual (defScope st) s.heap.objs.size f cdv)) →
      DSs (cxOf (L2.CX P w) P w K mg base N qual (defScope st) f cdv A outer s H E) cls (fun c d _ H => E c d H) (defBody st) δ) : FnG P w K mg base (k + 1) f fd ps (spD ⟨K, cls⟩ ps.length (bodyRun N.length δ)) := by
  obtain ⟨oc, od, kV, doc, pm, an, cdv, ct, osl, rfl, lk, hcd⟩ := F.ex
  have ln : ∀ vs H Q E, spD ⟨K, cls⟩ ps.length (bodyRun N.length δ) vs H Q E → vs.length = ps.length := fun vs H Q E h => by obtain ⟨_, _, _, _, _, _, h, _⟩ := h; exact h
  refine ⟨ln, fun A o s0 H ar us vs Q E rm e0 bd rv h => ?_⟩
  refine LamX.run_ofS lk hcd Sc rm.toRoom e0 bd rv (ln _ _ _ _ h) fun _ => ⟨_, hbody cdv A o s0 H E (rm.deep _), ?_⟩
  obtain ⟨S, ρ, G, ds, m, r, hl, h⟩ := h
  refine ⟨⟨ρ, G, H, G, ρ⟩, _, S, ρ, G, ⟨start_mem m r, .refl, fun i d a h1 h2 => ?_, .refl, List.prefix_refl _⟩, ?_⟩
  · exfalso
    have hm := List.mem_of_getElem? h1
    rcases List.mem_append.mp hm with z | z
    · obtain ⟨_, _, e⟩ := List.mem_map.mp z; cases e
    · cases (List.eq_of_mem_replicate z)
  · unfold bodyRun at h
    cases q : δ (ds.map Sl.val ++ List.replicate (N.length - ds.length) Sl.non) S with
    | next Γ S' => rw [q] at h; exact fun ρ' G' H' σ' s' => h .non ρ' G' H' s'.mem.toS s'.nx (rep_non.mpr rfl)
    | ret d S' => rw [q] at h; exact fun v ρ' G' H' m' n' r' => h v ρ' G' H' m' n' r'
    | exc e Γ S' => rw [q] at h; exact fun c dx ρ' G' H' σ' s' er => h c dx ρ' G' H' s'.mem.toS s'.nx er
    | brk _ _ => rw [q] at h; exact h.elim
    | cont _ _ => rw [q] at h; exact h.elim
    | stuck => rw [q] at h; exact h.elim
end
/-! ### a call -/
section
variable {X : Cx} {cls : Nat → Addr} {W : WX} {k : Nat} {f : Addr} {fd : FuncData} {ps : List Str} {x : Str} {p pos : Pos} {e : Expr} {es : List Expr} {α : Da} {F : List D → List D → Res D} {sp : Sp}
theorem goesG {pins : List (Addr × Obj)} {σ : L2.St} {H : Hp} {s : Shared} {Q : VK} {E : XK} {us : List Value} {vs : List V} (Fn : FnG X.prog X.w X.K X.mg X.base k f fd ps sp) (rm : RoomG k X.A) (bd : Binds X.K fd ps []) (pa : PassesAt (L2.CX X.prog X.w) X σ E)
    (I : Inv X pins σ H s) (rv : Vals vs us) (h : sp vs H Q E) : wpAny (model X.prog X.w) X.A (call (.ref f) us) (EP X pins σ Q) X.xe s := by
  have b2 : BindsTo s fd ⟨us, []⟩ (ps.zip us) := by
    have z := bd s us I.kIn (by rw [List.append_nil, ← rv.length]; exact Fn.lng _ _ _ _ h)
    rwa [List.append_nil] at z
  refine wpAny_call (codeAny_mono (Fn.goes X.A X.stack s H ⟨us, []⟩ us vs Q E rm I.env0 b2 rv h) ?_)
  rintro (er | ⟨u⟩ | _ | _ | _) s2 hq
  all_goals first | exact pa pins H s er s2 I hq | exact I.after hq | exact hq.elim
theorem exG {δ : Da} {σ : L2.St} {H : Hp} {Q : VK} (tk : Takes X W) (hal : ALen δ ps.length) (h : tE ⟨X.K, cls⟩ W (RS ⟨X.K, cls⟩) (eCall F δ) σ H Q) :
    tA ⟨X.K, cls⟩ W δ σ H fun vs H1 => spD ⟨X.K, cls⟩ ps.length F vs H1 Q (fun c d H2 => W c d σ H2) := by
  obtain ⟨Γ, S, ρ, G, m, p⟩ := h
  refine ⟨Γ, S, ρ, G, m, ?_⟩
  unfold eCall at p
  cases q : δ Γ S with
  | ok ds S1 =>
    rw [q] at p
    intro vs ρ1 G1 H1 m1 n1 r1
    refine ⟨S1, ρ1, G1, ds, m1.toS, r1, by rw [← r1.length]; exact hal.le _ _ _ _ q, ?_⟩
    simp only [Res.bind_ok] at p
    cases z : F ds S1 with
    | ok d S2 => rw [z] at p; exact fun v ρ2 G2 H2 m2 n2 r2 => p v ρ2 G2 H2 (m1.step n2 m2) (n1.trans n2) r2
    | exc x S2 => rw [z] at p; exact fun c dx ρ2 G2 H2 m2 n2 r2 => p c dx ρ2 G2 H2 (m1.step n2 m2) (n1.trans n2) r2
    | stuck => rw [z] at p; exact p
  | exc x S1 => rw [q] at p; exact p
  | stuck => rw [q] at p; exact p
theorem de_callG (Fn : FnG X.prog X.w X.K X.mg X.base k f fd ps (spD ⟨X.K, cls⟩ ps.length F)) (tk : Takes X W) (rm : RoomG k X.A) (hg : Gl X x) (hm : X.mg x = some (.ref f)) (hk : PySem.W.keepIn X.K (.ref f) = true) (bd : Binds X.K fd ps [])
    (ha : DA X cls W (e :: es) α) (hal : ALen α ps.length) (hdb : (x == ("__debug__" : Str)) = false := by decide) (he : starEach (e :: es) X.env = (false, eval e X.env) :: starEach es X.env := by rfl) (pl : (backTo pos (starEach es X.env)).any (·.1) = false := by rfl) :
    DE X cls W (.Call (.Name x p) (e :: es) [] pos) (eCall F α) := ⟨fun pins s σ H Q I h => by
  refine wpAny_Call_Name_kw (ld_glob I hg hm ?_ hdb)
  exact PySem.W.callWith_K (h₀ := X.base) I.ok.mod.kin hk (thn (ha.run pos pins s σ H _ I (exG tk hal h)) fun us s1 ⟨vs, H1, I1, rv, q⟩ => ⟨I1.kIn, goesG Fn rm bd (passAt tk σ) I1 rv q⟩) he pl⟩
theorem de_call0G (Fn : FnG X.prog X.w X.K X.mg X.base k f fd [] (spD ⟨X.K, cls⟩ 0 F)) (tk : Takes X W) (rm : RoomG k X.A) (hg : Gl X x) (hm : X.mg x = some (.ref f)) (hk : PySem.W.keepIn X.K (.ref f) = true) (bd : Binds X.K fd [] [])
    (hdb : (x == ("__debug__" : Str)) = false := by decide) : DE X cls W (.Call (.Name x p) [] [] pos) (eCall F aNil) := ⟨fun pins s σ H Q I h => by
  refine wpAny_Call_Name_kw (ld_glob I hg hm ?_ hdb)
  refine PySem.W.callWith_K0 I.kIn hk (goesG (us := []) (vs := []) Fn rm bd (passAt tk σ) I .nil ?_)
  obtain ⟨Γ, S, ρ, G, m, p⟩ := exG (ps := []) (δ := aNil) tk ALen.nil h
  exact p [] ρ G H m .refl .nil⟩
end
end DL

namespace DL
open PySem PySem.Spec PyProof.Rows L2
/-! ### the law's end -/
def scrO (vs : List Value) : Obj := { cls := .type "list", data := .seq vs.toArray }
/-- the script alone -/
def hpOne (K : PySem.W.Frag) (a : Addr) (u : HO) : Hp := fun b => if b = a ∧ K.lookup a = none then some u else none
theorem hpOne_some {K : PySem.W.Frag} {a b : Addr} {u t : HO} (h : hpOne K a u b = some t) : b = a ∧ K.lookup a = none ∧ t = u := by
  unfold hpOne at h
  split at h
  · rename_i q; cases h; exact ⟨q.1, q.2, rfl⟩
  · cases h
theorem hpOne_off {K : PySem.W.Frag} {a b : Addr} {u : HO} (h : b = a → K.lookup a ≠ none) : hpOne K a u b = none := if_neg fun q => h q.1 q.2
section
variable {P : Program} {w : World} {K : PySem.W.Frag} {mg mb : Str → Option Value} {k : Nat} {fa a : Addr} {fd : FuncData} {x : Str} {s : Shared} {vs : List Value} {ns : List Int}
theorem law_endG (kin : K.In s.heap) (mN : s.heap.Ns mainGlobals mg) (bN : s.heap.Ns builtinsNs mb) (bb : ∀ y : Str, y ≠ "__name__" → mb y = bootBuiltins y) (nl : s.heap.NoLimit) (ng : s.gens = #[])
    (ao : s.heap.get? a = some (scrO vs)) (ii : IntsAre vs ns) (il : ns.length ≤ 63) (rm : RoomG k callerA)
    (F : ∀ base : Heap, K.In base → base.Ns mainGlobals mg → FnG P w K mg base k fa fd [x] (spLaw K)) (bd : ∀ (s : Shared) (u : Value), BindsTo s fd ⟨[u], []⟩ [(x, u)]) :
    codeAny (model P w) callerA (.call (.ref fa) ⟨[.ref a], []⟩) (fun r t => r = .ok (.ret (.bool true)) ∧ OldK s.heap t.heap ∧ t.os = s.os ∧ AllBare t.gens) s := by
  have iv := vals_ints ii
  have sl : ns.length ≤ sizeLine := Nat.le_trans il (by decide)
  obtain ⟨H, eH⟩ : ∃ H, H = hpOne K a (.frz (scrO vs) (.lst (ns.map V.int))) := ⟨_, rfl⟩
  -- the heap without the script
  have low : ∀ (b : Addr) (o : Obj), s.heap.get? b = some o → (b = a → K.lookup a ≠ none) → (hidT s.heap H).get? b = some o := fun b o e n => hidT_get e (by rw [eH]; exact hpOne_off n)
  have dic : ∀ {b : Addr} {o : Obj} {es : Array DictEntry} {n : Nat}, s.heap.get? b = some o → o.data = .dict es n → (hidT s.heap H).get? b = some o := fun {b o es n} e d => low b o e fun q => by
    subst q
    rw [ao] at e; cases e
    exact (show False by have d2 : Data.seq vs.toArray _ = Data.dict es n := d; cases d2).elim
  have nsD : ∀ {b : Addr} {m : Str → Option Value}, s.heap.Ns b m → (hidT s.heap H).Ns b m := fun {b m} ⟨o, es, n, e, d, r⟩ => ⟨o, es, n, dic e d, d, r⟩
  have kinD : K.In (hidT s.heap H) := fun b o e => low b o (kin b o e) fun q => by subst q; rw [e]; exact nofun
  have md : L2.Mod K mg (hidT s.heap H) := ⟨kinD, nsD mN, ⟨mb, nsD bN, bb⟩, by obtain ⟨mc, u1, u2⟩ := nl; exact ⟨mc, nsD u1, u2⟩⟩
  have held : HOk P w H s.heap := fun b t e => by
    rw [eH] at e
    obtain ⟨rfl, _, rfl⟩ := hpOne_some e
    exact ⟨ao, by rw [List.length_map]; exact sl, vs, _, iv, ao⟩
  have ev : Env0 P w K mg (hidT s.heap H) callerA [] s H := ⟨rfl, md, fun b o e => of_hidT e, Nat.le_of_eq (hidT_size _ _), trivial, fun b z => (List.not_mem_nil z).elim, held, .of_eq ng⟩
  have sq : SqL K H a (ns.map V.int) := by
    cases q : K.lookup a with
    | none => exact .inl (.inr ⟨scrO vs, by rw [eH]; exact if_pos ⟨rfl, q⟩⟩)
    | some o =>
      have e := kin a o q
      rw [ao] at e; cases e
      exact .inr ⟨_, vs.toArray, _, q, rfl, rfl, rfl, by rw [List.size_toArray, ii.length]; exact sl, by simpa using iv⟩
  refine codeAny_mono ((F _ kinD (nsD mN)).goes callerA [] s H ⟨[.ref a], []⟩ [.ref a] [.ref a] (fun v _ => v = .bl true) (fun _ _ _ => False) rm ev (bd s (.ref a)) (.cons rfl .nil) ⟨a, ns, rfl, sq, il, fun _ => rfl⟩) ?_
  intro r t h
  match r, h with
  | .error er, h => obtain ⟨_, _, _, _, _, _, _, _, _, _, _, _, z⟩ := h; exact z.elim
  | .ok .next, h => exact h.elim
  | .ok .brk, h => exact h.elim
  | .ok .cont, h => exact h.elim
  | .ok (.ret u), h =>
    obtain ⟨v, H2, os, bare, un, held2, rv, q⟩ := h
    have qv : v = .bl true := q
    subst qv
    obtain rfl : u = Value.bool true := rv
    refine ⟨rfl, OldK.of_keep fun b o e => ?_, os, bare⟩
    cases z : H b with
    | none => exact un.keep b o e z (fun c => List.not_mem_nil c) (fun c => List.not_mem_nil c)
    | some t2 =>
      have z2 := z
      rw [eH] at z2
      obtain ⟨rfl, _, rfl⟩ := hpOne_some z2
      rw [ao] at e; cases e
      exact (held2 b _ (un.frzs b _ _ z)).1
theorem law_headG {l : PySem.W.OpenLaw} {q : Program} {loose : List Str} {XP : (Str → Option Value) → Heap → Prop} {YP : World → Heap → Prop} {d : DefRec} {K : Params → PySem.W.Frag}
    (hn : l.most = some 63) (hdf : d.params.defaults = []) (rm : RoomG k callerA) (hY : ∀ (w : World) (h : Heap), YP w h → (K w.params).In h)
    (F : ∀ (w : World) (mg : Str → Option Value) (fa : Addr) (h : Heap), (K w.params).In h → h.Ns mainGlobals mg → mg d.name = some (.ref fa) →
      ∃ fd : FuncData, (∀ (s : Shared) (u : Value), BindsTo s fd ⟨[u], []⟩ [(x, u)]) ∧ ∀ base : Heap, (K w.params).In base → base.Ns mainGlobals mg → FnG l.prog w (K w.params) mg base k fa fd [x] (spLaw (K w.params))) :
    PySem.W.WalkO q loose XP YP l.row.toRowW d [] (fun f vs => PySem.call f vs) := by
  refine Att.attach_callB hn hdf fun w s0 s1 mg mb fa o pm cd doc a vs ns G Y ho hd hcd hmg hobj hints hlen hbits hg => ?_
  obtain ⟨fd, bd, hF⟩ := F w mg fa _ (hY w _ Y) G.T.g hmg
  exact law_endG (hY w _ Y) G.T.g G.T.b G.T.builtins G.T.nolimit hg hobj hints hlen rm hF bd
end
end DL

namespace DL
open PySem PySem.Spec PyProof.Rows L2
section
variable {C : Cn} {X : Cx} {cls : Nat → Addr} {W : WX} {a b c e : Expr} {δa δb δc : De} {pos p : Pos}
/-! ### a ≤ b ≤ c -/
theorem x_chain {R R' : R2} {f g : D → D → Option D} (hf : R2Ok ⟨X.K, cls⟩ (RS ⟨X.K, cls⟩) R f) (hg : R2Ok ⟨X.K, cls⟩ (RS ⟨X.K, cls⟩) R' g) {σ : L2.St} {H : Hp} {Q : VK} (h : tE ⟨X.K, cls⟩ W (RS ⟨X.K, cls⟩) (eChain f g δa δb δc) σ H Q) :
    tChain R R' (tE ⟨X.K, cls⟩ W (RO ⟨X.K, cls⟩) δa) (tE ⟨X.K, cls⟩ W (RO ⟨X.K, cls⟩) δb) (tE ⟨X.K, cls⟩ W (RO ⟨X.K, cls⟩) δc) σ H Q := by
  obtain ⟨Γ, S, ρ, G, m, p⟩ := h
  refine ⟨Γ, S, ρ, G, m, (Post.seq back_RS p).mono fun x H1 ⟨dx, S1, ρ1, G1, m1, n1, r1, p1⟩ => ⟨Γ, S1, ρ1, G1, m1, (Post.seq back_RS p1).mono fun y H2 ⟨dy, S2, ρ2, G2, m2, n2, r2, p2⟩ => ?_⟩⟩
  cases q : f (deref S2 dx) (deref S2 dy) with
  | none => rw [q] at p2; exact p2.elim
  | some k =>
    rw [q] at p2
    simp only [ofO_some, Res.bind_ok] at p2
    refine hf S2 ρ2 G2 H2 x y k _ _ _ m2.toS (m2.read (RO.step (H1 := H2) n2 r1)) (m2.read r2) q fun v ρ3 G3 H3 m3 n3 r3 => ?_
    cases k <;> try exact p2.elim
    rename_i kb
    refine ⟨kb, rep_bl.mp r3, ?_⟩
    have m3' := m2.step n3 m3
    cases kb with
    | false => exact p2.here (S := S2) m3' n3 (rep_bl.mpr rfl)
    | true =>
      have p3 := Post.shift back_RS p2 n3
      refine ⟨Γ, S2, ρ3, G3, m3', (Post.seq back_RS p3).mono fun z H4 ⟨dz, S4, ρ4, G4, m4, n4, r4, p4⟩ => ?_⟩
      obtain ⟨d, hd, p5⟩ := ofO_post p4
      exact hg S4 ρ4 G4 H4 y z d _ _ Q m4.toS (m4.read (RO.step (H1 := H4) (n3.trans n4) r2)) (m4.read r4) hd fun v ρ5 G5 H5 m5 n5 r5 => p5.here (m4.step n5 m5) n5 r5
theorem de_chain (ha : DO X cls W a δa) (hb : DO X cls W b δb) (hc : DO X cls W c δc) (hm : lastMarks [.LtE, .LtE] [b, c] = false := by with_unfolding_all rfl) : DE X cls W (.Compare a [.LtE, .LtE] [b, c] pos) (eChain oLe oLe δa δb δc) :=
  PE.weak (pe_chain or_le or_le ha hb hc hm) fun _ _ _ h => x_chain ok_ord ok_ord h
theorem dt_chain (ha : DO X cls W a δa) (hb : DO X cls W b δb) (hc : DO X cls W c δc) (hm : lastMarks [.LtE, .LtE] [b, c] = false := by with_unfolding_all rfl) : DT X cls W (.Compare a [.LtE, .LtE] [b, c] pos) (tB (eChain oLe oLe δa δb δc)) :=
  PT.weak (pt_chain or_le or_le ha hb hc hm) fun σ H Q ⟨Γ, S, ρ, G, m, p⟩ => by
    refine x_chain (W := W) (cls := cls) ok_ord ok_ord ⟨Γ, S, ρ, G, m, (Post.seq back_RB p).mono fun v H1 ⟨d, S1, ρ1, G1, m1, n1, r1, p1⟩ => ?_⟩
    obtain ⟨k, hk, p2⟩ := ofO_post p1
    cases d <;> try cases hk
    exact ⟨k, rep_bl.mp r1, p2.at m1 rfl⟩
/-! ### abs, max, min, sum -/
def dAbs : D → Option D
  | .int i => some (.int (if i < 0 then -i else i))
  | _ => none
def dMax : D → D → Option D
  | .int i, .int j => some (.int (if j > i then j else i))
  | _, _ => none
def dMin : D → D → Option D
  | .int i, .int j => some (.int (if j < i then j else i))
  | _, _ => none
def asInts : List D → Option (List Int)
  | [] => some []
  | .int i :: r => (asInts r).map (i :: ·)
  | _ :: _ => none
def dSum : D → Option D
  | .lst xs => (asInts xs).map fun l => .int l.sum
  | _ => none
theorem reps_ints {ρ : List Addr} {G : Hp} : ∀ {ds : List D} {vs : List V} {l : List Int}, Reps C ρ G ds vs → asInts ds = some l → vs = l.map V.int
  | [], _, _, h, e => by rw [asInts] at e; cases e; exact h.inv0
  | x :: r, _, l, h, e => by
    obtain ⟨v, vs, rfl, h1, h2⟩ := h.inv
    cases x <;> rw [asInts] at e <;> try cases e
    rename_i i
    cases q : asInts r with
    | none => rw [q] at e; cases e
    | some l' =>
      rw [q] at e; cases e
      rw [reps_ints h2 q, rep_int.mp h1]; rfl
    all_goals exact nofun
theorem rc_abs : RC1 C (RS C) (fun xs H Q => ∃ i, xs = [.int i] ∧ Q (.int (if i < 0 then -i else i)) H) dAbs := fun S ρ G H x d dx Q m rx e q => by
  cases dx <;> try cases e
  rw [rt_int] at rx; subst rx
  exact ⟨_, rfl, q _ _ _ _ m .refl (rep_int.mpr rfl)⟩
theorem rc_max : RC2 C (RS C) (fun xs H Q => ∃ i j, xs = [.int i, .int j] ∧ Q (.int (if j > i then j else i)) H) dMax := fun S ρ G H x y d dx dy Q m rx ry e q => by
  cases dx <;> cases dy <;> try cases e
  rw [rt_int] at rx ry; subst rx; subst ry
  exact ⟨_, _, rfl, q _ _ _ _ m .refl (rep_int.mpr rfl)⟩
theorem rc_min : RC2 C (RS C) (fun xs H Q => ∃ i j, xs = [.int i, .int j] ∧ Q (.int (if j < i then j else i)) H) dMin := fun S ρ G H x y d dx dy Q m rx ry e q => by
  cases dx <;> cases dy <;> try cases e
  rw [rt_int] at rx ry; subst rx; subst ry
  exact ⟨_, _, rfl, q _ _ _ _ m .refl (rep_int.mpr rfl)⟩
theorem rc_sum : RC1 C (RS C) (rSum C.K) dSum := fun S ρ G H x d dx Q m rx e q => by
  cases dx <;> try cases e
  rename_i xs
  obtain ⟨a, vs, rfl, h1, r1⟩ := rx
  simp only [dSum] at e
  cases k : asInts xs with
  | none => rw [k] at e; cases e
  | some l =>
    rw [k] at e; cases e
    have z := reps_ints r1 k
    subst z
    exact ⟨a, l, rfl, SqL.of h1, q _ _ _ _ m .refl (rep_int.mpr rfl)⟩
theorem de_abs (hg : Gl X "abs") (hm : X.mg "abs" = none) (ha : DO X cls W a δa) (he : starEach [a] X.env = (false, eval a X.env) :: starEach [] X.env := by rfl) (hpl : (backTo pos (starEach [] X.env)).any (·.1) = false := by rfl) : DE X cls W (.Call (.Name "abs" p) [a] [] pos) (eUn dAbs δa) :=
  x_c1 back_RS (pe_callB call_abs hg hm (by decide +kernel) (da1 ha he) (by decide) (by decide) he hpl) rc_abs
theorem de_sum (hg : Gl X "sum") (hm : X.mg "sum" = none) (hc : X.calm = true) (ha : DO X cls W a δa) (he : starEach [a] X.env = (false, eval a X.env) :: starEach [] X.env := by rfl) (hpl : (backTo pos (starEach [] X.env)).any (·.1) = false := by rfl) : DE X cls W (.Call (.Name "sum" p) [a] [] pos) (eUn dSum δa) :=
  x_c1 back_RS (pe_callB (cr_sum hc) hg hm (by decide +kernel) (da1 ha he) (by decide) (by decide) he hpl) rc_sum
theorem de_max (hg : Gl X "max") (hm : X.mg "max" = none) (hc : X.calm = true) (ha : DO X cls W a δa) (hb : DO X cls W b δb) (he : starEach [a, b] X.env = (false, eval a X.env) :: starEach [b] X.env := by rfl) (he2 : starEach [b] X.env = (false, eval b X.env) :: starEach [] X.env := by rfl)
    (hpl : (backTo pos (starEach [b] X.env)).any (·.1) = false := by rfl) : DE X cls W (.Call (.Name "max" p) [a, b] [] pos) (eOp dMax δa δb) :=
  x_c2 back_RS (pe_callB (call_max2 hc) hg hm (by decide +kernel) (da2 ha hb he he2) (by decide) (by decide) he hpl) rc_max
theorem de_min (hg : Gl X "min") (hm : X.mg "min" = none) (hc : X.calm = true) (ha : DO X cls W a δa) (hb : DO X cls W b δb) (he : starEach [a, b] X.env = (false, eval a X.env) :: starEach [b] X.env := by rfl) (he2 : starEach [b] X.env = (false, eval b X.env) :: starEach [] X.env := by rfl)
    (hpl : (backTo pos (starEach [b] X.env)).any (·.1) = false := by rfl) : DE X cls W (.Call (.Name "min" p) [a, b] [] pos) (eOp dMin δa δb) :=
  x_c2 back_RS (pe_callB (call_min2 hc) hg hm (by decide +kernel) (da2 ha hb he he2) (by decide) (by decide) he hpl) rc_min
/-! ### repr of lists and tuples -/
def isSq : D → Bool | .lst _ => true | .tup _ => true | _ => false
def dRepr (d : D) : Option D := match toPy d with
  | some q => if isSq d = true ∧ q.showable = true ∧ q.hasDict = false ∧ q.depth ≤ 60 ∧ q.shown.length ≤ sizeLine then some (.str q.shown) else none
  | none => none
theorem call_reprG (hu : X.A.units + 64 < cLine) (gd : X.A.guards = some []) : CallR X (.builtin "repr") (fun xs H Q => ∃ a q, xs = [.ref a] ∧ Dp X.K H (.ref a) q ∧ q.showable = true ∧ q.hasDict = false ∧ q.depth ≤ 60 ∧ q.shown.length ≤ sizeLine ∧ Q (.str q.shown) H) := by
  intro pins s σ H xs us Q I r h
  obtain ⟨a, q, rfl, hd, hs, hD, hdp, hl, k⟩ := h
  obtain ⟨u, rfl, ru⟩ := vals1 r
  obtain ⟨as, rd⟩ := Dp.reads I q _ _ hd ru
  obtain rfl : u = Value.ref a := ru
  exact repr_of_reads' rd hs (fun z => by rw [hD] at z; cases z) gd (by omega) (fun _ _ z => z) (fun h' u tk hk => ⟨.str _, H, I.kept hk, ⟨_, rfl⟩, k⟩) hl
theorem rc_repr : RC1 C (RS C) (fun xs H Q => ∃ a q, xs = [.ref a] ∧ Dp C.K H (.ref a) q ∧ q.showable = true ∧ q.hasDict = false ∧ q.depth ≤ 60 ∧ q.shown.length ≤ sizeLine ∧ Q (.str q.shown) H) dRepr := fun S ρ G H x d dx Q m rx e q => by
  unfold dRepr at e
  split at e
  · rename_i y hy
    split at e
    · rename_i c
      cases e
      obtain ⟨c1, c2, c3, c4, c5⟩ := c
      have dp := dp_rt m.sub rx hy
      have : ∃ a, x = V.ref a := by
        cases dx <;> try cases c1
        · obtain ⟨a, vs, rfl, _⟩ := rx; exact ⟨a, rfl⟩
        · rw [rt_tup] at rx; obtain ⟨a, vs, rfl, _⟩ := rx; exact ⟨a, rfl⟩
      obtain ⟨a, rfl⟩ := this
      exact ⟨a, y, rfl, dp, c2, c3, c4, c5, q _ _ _ _ m .refl (rep_str.mpr rfl)⟩
    · cases e
  · cases e
theorem de_repr {k : Nat} (rm : RoomG k X.A) (hg : Gl X "repr") (hm : X.mg "repr" = none) (ha : DO X cls W a δa) (he : starEach [a] X.env = (false, eval a X.env) :: starEach [] X.env := by rfl) (hpl : (backTo pos (starEach [] X.env)).any (·.1) = false := by rfl) : DE X cls W (.Call (.Name "repr" p) [a] [] pos) (eUn dRepr δa) :=
  x_c1 back_RS (pe_callB (call_reprG rm.units rm.gd) hg hm (by decide +kernel) (da1 ha he) (by decide) (by decide) he hpl) rc_repr
end
/-! ### found.reverse() -/
section
variable {X : Cx} {cls : Nat → Addr} {W : WX} {c : Expr} {pos : Pos}
def sRevO (i : Nat) : Ds := fun Γ S => match Γ[i]? with
  | some (.own (.lst xs)) => .next (Γ.set i (.own (.lst xs.reverse))) S
  | _ => .stuck
theorem Reps.rev {C : Cn} {ρ : List Addr} {G : Hp} : ∀ {ds : List D} {vs : List V}, Reps C ρ G ds vs → Reps C ρ G ds.reverse vs.reverse
  | [], _, h => by rw [h.inv0]; exact Reps.nil
  | x :: xs, _, h => by
    obtain ⟨v, r, rfl, h1, h2⟩ := h.inv
    rw [List.reverse_cons, List.reverse_cons]
    exact (Reps.rev h2).append (.cons h1 .nil)
theorem ds_revO (i : Nat) (h : PE X c (tBM0 X.K "list" rReverse (tVar i))) (hs : swapsWith c none pos.line X.env = pure false := by rfl) : DS X cls W (.Expr c pos) (sRevO i) :=
  PS.weak (ps_expr h hs) fun D σ H ⟨en, Γ, S, ρ, G, s, p⟩ => by
    unfold sRevO at p
    split at p
    · rename_i xs hx
      obtain ⟨a, vs, e, h1, r, g, n⟩ := own_at s hx
      refine ⟨_, e, .inl ⟨rfl, vs, SqL.of h1⟩, a, vs, rfl, rfl, h1, ?_⟩
      exact p _ _ _ _ (s.poke hx e ⟨_, upd_same, r.rev⟩)
    · exact p.elim
end
end DL

namespace DL
open PySem L2

/-! ### reckoning with denotations -/
section
variable {Γ : List Sl} {S : List D} {a b c : De} {t u : Dt} {α β : Da}
@[simp] theorem x_eV {i : Nat} : eV i Γ S = match Γ[i]? with | some (.val d) => .ok d S | _ => .stuck := Eq.trans rfl rfl
@[simp] theorem x_oV {i : Nat} : oV i Γ S = match Γ[i]? with | some (.val d) => .ok d S | some (.own d) => .ok d S | _ => .stuck := Eq.trans rfl rfl
@[simp] theorem x_eC {d : D} : eC d Γ S = .ok d S := Eq.trans rfl rfl
@[simp] theorem x_eOp {f : D → D → Option D} : eOp f a b Γ S = (a Γ S).bind fun x S1 => (b Γ S1).bind fun y S2 => ofO (f (deref S2 x) (deref S2 y)) S2 := Eq.trans rfl rfl
@[simp] theorem x_eUn {f : D → Option D} : eUn f a Γ S = (a Γ S).bind fun x S1 => ofO (f (deref S1 x)) S1 := Eq.trans rfl rfl
@[simp] theorem x_tB : tB a Γ S = (a Γ S).bind fun x S1 => ofO (asB x) S1 := Eq.trans rfl rfl
@[simp] theorem x_tTru : tTru a Γ S = (a Γ S).bind fun x S1 => ofO (dTruth (deref S1 x)) S1 := Eq.trans rfl rfl
@[simp] theorem x_tAnd : tAndD t u Γ S = (t Γ S).bind fun x S1 => if x then u Γ S1 else .ok false S1 := Eq.trans rfl rfl
@[simp] theorem x_tOr : tOrD t u Γ S = (t Γ S).bind fun x S1 => if x then .ok true S1 else u Γ S1 := Eq.trans rfl rfl
@[simp] theorem x_tNot : tNotD t Γ S = (t Γ S).bind fun x S1 => .ok (!x) S1 := Eq.trans rfl rfl
@[simp] theorem x_tTrue : tTrue Γ S = .ok true S := Eq.trans rfl rfl
@[simp] theorem x_eIf : eIf t a b Γ S = (t Γ S).bind fun x S1 => if x then a Γ S1 else b Γ S1 := Eq.trans rfl rfl
@[simp] theorem x_eAnd : eAnd a b Γ S = (a Γ S).bind fun x S1 => match asB x with | some true => b Γ S1 | some false => .ok (.bl false) S1 | none => .stuck := Eq.trans rfl rfl
@[simp] theorem x_eOr : eOr a b Γ S = (a Γ S).bind fun x S1 => match asB x with | some true => .ok (.bl true) S1 | some false => b Γ S1 | none => .stuck := Eq.trans rfl rfl
@[simp] theorem x_eNot : eNot a Γ S = (a Γ S).bind fun x S1 => match asB x with | some b => .ok (.bl (!b)) S1 | none => .stuck := Eq.trans rfl rfl
@[simp] theorem x_aNil : aNil Γ S = .ok [] S := Eq.trans rfl rfl
@[simp] theorem x_aCons : aCons a α Γ S = (a Γ S).bind fun x S1 => (α Γ S1).bind fun xs S2 => .ok (x :: xs) S2 := Eq.trans rfl rfl
@[simp] theorem x_eCall {F : List D → List D → Res D} : eCall F α Γ S = (α Γ S).bind fun ds S1 => F ds S1 := Eq.trans rfl rfl
@[simp] theorem x_eTup : eTup α Γ S = (α Γ S).bind fun ds S1 => .ok (.tup ds) S1 := Eq.trans rfl rfl
@[simp] theorem x_eLst : eLst α Γ S = (α Γ S).bind fun ds S1 => .ok (.lst ds) S1 := Eq.trans rfl rfl
@[simp] theorem x_eBox : eBox a Γ S = (a Γ S).bind fun d S1 => .ok (.ptr S1.length) (S1 ++ [d]) := Eq.trans rfl rfl
@[simp] theorem x_pNo : pNo Γ S = .ok none S := Eq.trans rfl rfl
@[simp] theorem x_pSo : pSo a Γ S = (a Γ S).bind fun x S1 => ofO ((asI x).map some) S1 := Eq.trans rfl rfl
@[simp] theorem x_eCut {f : D → Option Int → Option Int → Option D} {l h : Dp_} : eCut f a l h Γ S = (a Γ S).bind fun x S1 => (l Γ S1).bind fun l S2 => (h Γ S2).bind fun h S3 => ofO (f (deref S3 x) l h) S3 := Eq.trans rfl rfl
@[simp] theorem x_eComp {p : Pat} {vs : List Nat} : eComp α p vs t a Γ S = (α Γ S).bind fun xs S1 => (compD p t a xs (wipeD Γ vs) S1).bind fun ds S2 => ofO (lenOk ds) S2 := Eq.trans rfl rfl
@[simp] theorem x_iA : iA a Γ S = (a Γ S).bind fun x S1 => ofO (items x) S1 := Eq.trans rfl rfl
@[simp] theorem x_iR1 : iR1 a Γ S = (a Γ S).bind fun x S1 => match asI x with | some j => if inR j then .ok (rangeD 0 j.toNat) S1 else .stuck | none => .stuck := Eq.trans rfl rfl
@[simp] theorem x_iR2 : iR2 a b Γ S = (a Γ S).bind fun x S1 => (b Γ S1).bind fun y S2 => match asI x, asI y with | some i, some j => if inR i ∧ inR j then .ok (rangeD i (j - i).toNat) S2 else .stuck | _, _ => .stuck := Eq.trans rfl rfl
@[simp] theorem x_asB {k : Bool} : asB (.bl k) = some k := Eq.trans rfl rfl
@[simp] theorem x_asI {k : Int} : asI (.int k) = some k := Eq.trans rfl rfl
variable {s1 s2 : Ds}
@[simp] theorem x_sNext : sNext Γ S = .next Γ S := Eq.trans rfl rfl
@[simp] theorem x_sSeq : sSeq s1 s2 Γ S = match s1 Γ S with | .next Γ' S' => s2 Γ' S' | o => o := Eq.trans rfl rfl
@[simp] theorem x_sExpr : sExpr a Γ S = after (a Γ S) Γ fun _ S1 => .next Γ S1 := Eq.trans rfl rfl
@[simp] theorem x_sRet : sRet a Γ S = after (a Γ S) Γ fun d S1 => .ret d S1 := Eq.trans rfl rfl
@[simp] theorem x_sRetN : sRetN Γ S = .ret .non S := Eq.trans rfl rfl
@[simp] theorem x_sRetO {i : Nat} : sRetO i Γ S = match Γ[i]? with | some (.own d) => .ret d S | _ => .stuck := Eq.trans rfl rfl
@[simp] theorem x_sSet {i : Nat} : sSet i a Γ S = after (a Γ S) Γ fun d S1 => .next (Γ.set i (.val d)) S1 := Eq.trans rfl rfl
@[simp] theorem x_sOwn {i : Nat} : sOwn i a Γ S = after (a Γ S) Γ fun d S1 => .next (Γ.set i (.own d)) S1 := Eq.trans rfl rfl
@[simp] theorem x_sIf : sIf t s1 s2 Γ S = after (t Γ S) Γ fun k S1 => if k then s1 Γ S1 else s2 Γ S1 := Eq.trans rfl rfl
@[simp] theorem x_sBrk : sBrk Γ S = .brk Γ S := Eq.trans rfl rfl
@[simp] theorem x_sCont : sCont Γ S = .cont Γ S := Eq.trans rfl rfl
@[simp] theorem x_sClr {kl : List Nat} : sClr kl Γ S = .next (clr kl Γ) S := Eq.trans rfl rfl
@[simp] theorem x_sSettle {i : Nat} : sSettle i Γ S = match Γ[i]? with | some (.own d) => .next (Γ.set i (.val d)) S | _ => .stuck := Eq.trans rfl rfl
@[simp] theorem x_sAppO {i : Nat} : sAppO i a Γ S = match Γ[i]? with
  | some (.own (.lst xs)) => after (a Γ S) Γ fun d S1 => if xs.length < sizeLine then .next (Γ.set i (.own (.lst (xs ++ [d])))) S1 else .stuck
  | _ => .stuck := Eq.trans rfl rfl
@[simp] theorem x_sSetO {i : Nat} {k : De} : sSetO i k a Γ S = after (a Γ S) Γ fun d S1 => match Γ[i]? with
  | some (.own (.lst xs)) => after (k Γ S1) Γ fun x S2 => match (asI x).bind (ixN xs.length) with
    | some j => .next (Γ.set i (.own (.lst (xs.set j d)))) S2
    | none => .stuck
  | _ => .stuck := Eq.trans rfl rfl
@[simp] theorem x_sSetP {o k : De} : sSetP o k a Γ S = after (a Γ S) Γ fun d S1 => after (o Γ S1) Γ fun x S2 => after (k Γ S2) Γ fun y S3 => match x with
  | .ptr q => match S3[q]? with
    | some (.lst xs) => match (asI y).bind (ixN xs.length) with
      | some j => .next Γ (S3.set q (.lst (xs.set j d)))
      | none => .stuck
    | _ => .stuck
  | _ => .stuck := Eq.trans rfl rfl
@[simp] theorem x_sAug {i : Nat} {f : D → D → Option D} : sAug i f a Γ S = match Γ[i]? with
  | some (.val dx) => after (a Γ S) Γ fun dy S1 => match f (deref S1 dx) (deref S1 dy) with
    | some d => .next (Γ.set i (.val d)) S1
    | none => .stuck
  | _ => .stuck := Eq.trans rfl rfl
@[simp] theorem x_sBind {p : Pat} : sBind p a Γ S = after (a Γ S) Γ fun d S1 => match p.bind d Γ with | some Γ' => .next Γ' S1 | none => .stuck := Eq.trans rfl rfl
@[simp] theorem x_sFor {p : Pat} {kl : List Nat} : sFor α p kl s1 Γ S = after (α Γ S) Γ fun xs S1 => forD p kl s1 xs Γ S1 := Eq.trans rfl rfl
@[simp] theorem x_bodyRun {n : Nat} {ds : List D} : bodyRun n s1 ds S = match s1 (ds.map Sl.val ++ List.replicate (n - ds.length) Sl.non) S with
  | .next _ S' => .ok .non S'
  | .ret d S' => .ok d S'
  | .exc e _ S' => .exc e S'
  | _ => .stuck := Eq.trans rfl rfl
@[simp] theorem x_clr0 : clr [] Γ = Γ := Eq.trans rfl rfl
@[simp] theorem x_clr1 {i : Nat} {r : List Nat} : clr (i :: r) Γ = clr r (Γ.set i .non) := Eq.trans rfl rfl
@[simp] theorem x_wipe0 : wipeD Γ [] = Γ := Eq.trans rfl rfl
@[simp] theorem x_wipe1 {i : Nat} {r : List Nat} : wipeD Γ (i :: r) = (wipeD Γ r).set i .non := Eq.trans rfl rfl
@[simp] theorem x_bnm {i : Nat} {d : D} : (Pat.nm i).bind d Γ = some (Γ.set i (.val d)) := by rw [Pat.bind]
@[simp] theorem x_btp {ps : List Pat} {ds : List D} : (Pat.tp ps).bind (.tup ds) Γ = Pat.binds ps ds Γ := by rw [Pat.bind]
@[simp] theorem x_bs0 : Pat.binds [] [] Γ = some Γ := by rw [Pat.binds]
@[simp] theorem x_bs1 {p : Pat} {ps : List Pat} {d : D} {ds : List D} : Pat.binds (p :: ps) (d :: ds) Γ = match p.bind d Γ with | some Γ' => Pat.binds ps ds Γ' | none => none := by
  rw [Pat.binds]; try (cases p.bind d Γ <;> rfl)
end
@[simp] theorem deref_non {S : List D} : deref S .non = .non := Eq.trans rfl rfl
@[simp] theorem deref_bl {S : List D} {b : Bool} : deref S (.bl b) = .bl b := Eq.trans rfl rfl
@[simp] theorem deref_int {S : List D} {b : Int} : deref S (.int b) = .int b := Eq.trans rfl rfl
@[simp] theorem deref_str {S : List D} {b : Str} : deref S (.str b) = .str b := Eq.trans rfl rfl
@[simp] theorem deref_lst {S : List D} {b : List D} : deref S (.lst b) = .lst b := Eq.trans rfl rfl
@[simp] theorem deref_tup {S : List D} {b : List D} : deref S (.tup b) = .tup b := Eq.trans rfl rfl
@[simp] theorem deref_dct {S : List D} {k : List Key} {b : List D} : deref S (.dct k b) = .dct k b := Eq.trans rfl rfl
@[simp] theorem deref_ins {S : List D} {c : Nat} {k : List Str} {b : List D} : deref S (.ins c k b) = .ins c k b := Eq.trans rfl rfl
@[simp] theorem deref_scr {S : List D} {b : List Int} : deref S (.scr b) = .scr b := Eq.trans rfl rfl
@[simp] theorem deref_ptr {S : List D} {k : Nat} : deref S (.ptr k) = match S[k]? with | some d => d | none => .ptr k := Eq.trans rfl rfl
@[simp] theorem onI_int {P : Int → Int → Bool} {g : Int → Int → Int} {i j : Int} : onI P g (.int i) (.int j) = if P i j then some (.int (g i j)) else none := Eq.trans rfl rfl
@[simp] theorem dOrd_int {p : Int → Int → Bool} {q : Str → Str → Bool} {i j : Int} : dOrd p q (.int i) (.int j) = some (.bl (p i j)) := Eq.trans rfl rfl
@[simp] theorem dOrd_str {p : Int → Int → Bool} {q : Str → Str → Bool} {i j : Str} : dOrd p q (.str i) (.str j) = some (.bl (q i j)) := Eq.trans rfl rfl
@[simp] theorem dAdd_int {i j : Int} : dAdd (.int i) (.int j) = some (.int (i + j)) := Eq.trans rfl rfl
@[simp] theorem dAddI_int {i j : Int} : dAddI (.int i) (.int j) = some (.int (i + j)) := Eq.trans rfl rfl
theorem dAdd_tup {a b : List D} (h : a.length + b.length ≤ 1000000) : dAdd (.tup a) (.tup b) = some (.tup (a ++ b)) := if_pos (Nat.le_trans h (by decide))
theorem dAdd_lst {a b : List D} (h : a.length + b.length ≤ 1000000) : dAdd (.lst a) (.lst b) = some (.lst (a ++ b)) := if_pos (Nat.le_trans h (by decide))
theorem onL_lst {a b : List D} (h : a.length + b.length ≤ 1000000) : onL (.lst a) (.lst b) = some (.lst (a ++ b)) := if_pos (Nat.le_trans h (by decide))
theorem dMul_int {i j : Int} (h : -(2 ^ 64) < j ∧ j < 2 ^ 64) : dMul (.int i) (.int j) = some (.int (i * j)) := if_pos (.inr h)
theorem dMul_intl {i j : Int} (h : -(2 ^ 64) < i ∧ i < 2 ^ 64) : dMul (.int i) (.int j) = some (.int (i * j)) := if_pos (.inl h)
@[simp] theorem x_fPow_18 : fPow (.int 10) (.int 18) = some (.int P18) := fPow_18
@[simp] theorem dInt_int {i : Int} : dInt (.int i) = some (.int i) := Eq.trans rfl rfl
@[simp] theorem dInt_bl {b : Bool} : dInt (.bl b) = some (.int (if b then 1 else 0)) := Eq.trans rfl rfl
@[simp] theorem dNeg_int {i : Int} : dNeg (.int i) = some (.int (-i)) := Eq.trans rfl rfl
@[simp] theorem dLen_lst {xs : List D} : dLen (.lst xs) = some (.int xs.length) := Eq.trans rfl rfl
@[simp] theorem dLen_tup {xs : List D} : dLen (.tup xs) = some (.int xs.length) := Eq.trans rfl rfl
@[simp] theorem dLen_scr {xs : List Int} : dLen (.scr xs) = some (.int xs.length) := Eq.trans rfl rfl
@[simp] theorem dIdx_lst {xs : List D} {i : Int} : dIdx (.lst xs) (.int i) = atI xs i := Eq.trans rfl rfl
@[simp] theorem dIdx_tup {xs : List D} {i : Int} : dIdx (.tup xs) (.int i) = atI xs i := Eq.trans rfl rfl
@[simp] theorem dIdx_scr {xs : List Int} {i : Int} : dIdx (.scr xs) (.int i) = (atI xs i).map .int := Eq.trans rfl rfl
@[simp] theorem dTruth_non : dTruth .non = some false := Eq.trans rfl rfl
@[simp] theorem dTruth_bl {b : Bool} : dTruth (.bl b) = some b := Eq.trans rfl rfl
@[simp] theorem dTruth_int {b : Int} : dTruth (.int b) = some (b != 0) := Eq.trans rfl rfl
@[simp] theorem dTruth_lst {b : List D} : dTruth (.lst b) = some (!b.isEmpty) := Eq.trans rfl rfl
@[simp] theorem dTruth_tup {b : List D} : dTruth (.tup b) = some (!b.isEmpty) := Eq.trans rfl rfl
@[simp] theorem dTuple_lst {b : List D} : dTuple (.lst b) = some (.tup b) := Eq.trans rfl rfl
@[simp] theorem dTuple_tup {b : List D} : dTuple (.tup b) = some (.tup b) := Eq.trans rfl rfl
@[simp] theorem dList_lst {b : List D} : dList (.lst b) = some (.lst b) := Eq.trans rfl rfl
@[simp] theorem dList_tup {b : List D} : dList (.tup b) = some (.lst b) := Eq.trans rfl rfl
@[simp] theorem dCut_lst {b : List D} {l h : Option Int} : dCut (.lst b) l h = some (.lst (cutD b l h)) := Eq.trans rfl rfl
@[simp] theorem dCut_tup {b : List D} {l h : Option Int} : dCut (.tup b) l h = some (.tup (cutD b l h)) := Eq.trans rfl rfl
@[simp] theorem onlyL_lst {b : List D} {l h : Option Int} : onlyL (.lst b) l h = some (.lst (cutD b l h)) := Eq.trans rfl rfl
@[simp] theorem items_lst {b : List D} : items (.lst b) = some b := Eq.trans rfl rfl
@[simp] theorem items_tup {b : List D} : items (.tup b) = some b := Eq.trans rfl rfl
@[simp] theorem dIsi_tup {b : List D} : dIsi "tuple" (.tup b) = some (.bl true) := by unfold dIsi tyN; rfl
theorem inR_of {i : Int} (h : -(2 ^ 62) ≤ i ∧ i < 2 ^ 62) : inR i = true := decide_eq_true h
theorem lenOk_of {ds : List D} (h : ds.length ≤ 1000000) : lenOk ds = some (.lst ds) := if_pos (Nat.le_trans h (by decide))
theorem atI_get? {α : Type} {xs : List α} {k : Nat} : atI xs (k : Int) = xs[k]? := by
  unfold atI ixN
  by_cases h : k < xs.length
  · rw [if_pos (by omega), if_pos (by omega)]; simp
  · rw [if_pos (by omega), if_neg (by omega), List.getElem?_eq_none (by omega)]; rfl
theorem atI_neg1 {α : Type} {xs : List α} : atI xs (-1) = xs.getLast? := by
  unfold atI ixN
  rw [if_neg (by omega)]
  by_cases h : 0 < xs.length
  · rw [if_pos (by omega)]
    have : (-1 + (xs.length : Int)).toNat = xs.length - 1 := by omega
    simp [this, List.getLast?_eq_getElem?]
  · have : xs = [] := List.eq_nil_of_length_eq_zero (by omega)
    subst this; rfl

/-! ### by what is wanted -/
def WR {α : Type} (r : Res α) (Q : α → List D → Prop) : Prop := match r with | .ok a S => Q a S | _ => False
def WO (o : Out) (N : List Sl → List D → Prop) (R : D → List D → Prop) : Prop := match o with
  | .next Γ S => N Γ S
  | .ret d S => R d S
  | _ => False
/-- a loop's turn: what goes on, what is returned, what breaks -/
def WT (o : Out) (N : List Sl → List D → Prop) (R : D → List D → Prop) (B : List Sl → List D → Prop) : Prop := match o with
  | .next Γ S => N Γ S
  | .cont Γ S => N Γ S
  | .brk Γ S => B Γ S
  | .ret d S => R d S
  | _ => False
theorem WR.ok {α : Type} {r : Res α} {Q : α → List D → Prop} (h : WR r Q) : ∃ a S, r = .ok a S ∧ Q a S := by
  cases r with
  | ok a S => exact ⟨a, S, rfl, h⟩
  | exc _ _ => exact h.elim
  | stuck => exact h.elim
theorem WO.mono {o : Out} {N N' : List Sl → List D → Prop} {R R' : D → List D → Prop} (h : WO o N R) (h1 : ∀ Γ S, N Γ S → N' Γ S) (h2 : ∀ d S, R d S → R' d S) : WO o N' R' := by
  cases o with
  | next _ _ => exact h1 _ _ h
  | ret _ _ => exact h2 _ _ h
  | _ => exact h
theorem WT.mono {o : Out} {N N' B B' : List Sl → List D → Prop} {R R' : D → List D → Prop} (h : WT o N R B) (h1 : ∀ Γ S, N Γ S → N' Γ S) (h2 : ∀ d S, R d S → R' d S) (h3 : ∀ Γ S, B Γ S → B' Γ S) : WT o N' R' B' := by
  cases o with
  | next _ _ => exact h1 _ _ h
  | cont _ _ => exact h1 _ _ h
  | brk _ _ => exact h3 _ _ h
  | ret _ _ => exact h2 _ _ h
  | _ => exact h
theorem forD_wp {p : Pat} {kl : List Nat} {β : Ds} {R : D → List D → Prop} {N : List Sl → List D → Prop} (I : Nat → List Sl → List D → Prop) : ∀ (xs : List D) (i : Nat) (Γ : List Sl) (S : List D), I i Γ S →
    (∀ j x Γ S, xs[j]? = some x → I (i + j) Γ S → ∃ Γ1, p.bind x Γ = some Γ1 ∧ WT (β Γ1 S) (fun Γ2 S2 => I (i + j + 1) (clr kl Γ2) S2) R (fun Γ2 S2 => N (clr kl Γ2) S2)) →
    (∀ Γ S, I (i + xs.length) Γ S → N Γ S) → WO (forD p kl β xs Γ S) N R
  | [], i, Γ, S, h, _, he => he Γ S h
  | x :: xs, i, Γ, S, h, hs, he => by
    obtain ⟨Γ1, hb, hw⟩ := hs 0 x Γ S rfl h
    rw [forD, hb]
    simp only
    have next : ∀ Γ2 S2, I (i + 0 + 1) (clr kl Γ2) S2 → WO (forD p kl β xs (clr kl Γ2) S2) N R := fun Γ2 S2 k =>
      forD_wp I xs (i + 1) _ S2 k (fun j y Γ S hy hI => by
        have := hs (j + 1) y Γ S (by simpa using hy) (by rw [show i + (j + 1) = i + 1 + j by omega]; exact hI)
        rw [show i + (j + 1) + 1 = i + 1 + j + 1 by omega] at this
        exact this) (fun Γ S hI => he Γ S (by rw [List.length_cons, show i + (xs.length + 1) = i + 1 + xs.length by omega]; exact hI))
    cases z : β Γ1 S with
    | next Γ2 S2 => rw [z] at hw; exact next Γ2 S2 hw
    | cont Γ2 S2 => rw [z] at hw; exact next Γ2 S2 hw
    | brk Γ2 S2 => rw [z] at hw; exact hw
    | ret d S2 => rw [z] at hw; exact hw
    | exc _ _ _ => rw [z] at hw; exact hw.elim
    | stuck => rw [z] at hw; exact hw.elim
/-- a comprehension whose elements are told one by one -/
theorem compD_map {p : Pat} {ε : De} {Γ : List Sl} {I : List D → Prop} {P : Nat → D → D → Prop} : ∀ (xs : List D) (i : Nat) (S : List D), I S →
    (∀ j x S, xs[j]? = some x → I S → ∃ Γ1 d S', p.bind x Γ = some Γ1 ∧ ε Γ1 S = .ok d S' ∧ I S' ∧ P (i + j) x d) →
    ∃ ds S', compD p tTrue ε xs Γ S = .ok ds S' ∧ I S' ∧ ds.length = xs.length ∧ ∀ (j : Nat) x d, xs[j]? = some x → ds[j]? = some d → P (i + j) x d
  | [], i, S, h, _ => ⟨[], S, rfl, h, rfl, fun j x d hx => by simp at hx⟩
  | x :: xs, i, S, h, hs => by
    obtain ⟨Γ1, d, S1, hb, he, hI, hP⟩ := hs 0 x S rfl h
    obtain ⟨ds, S2, h1, h2, h3, h4⟩ := compD_map xs (i + 1) S1 hI fun j y S hy hI => by
      have := hs (j + 1) y S (by simpa using hy) hI
      rw [show i + (j + 1) = i + 1 + j by omega] at this
      exact this
    refine ⟨d :: ds, S2, ?_, h2, by rw [List.length_cons, List.length_cons, h3], fun j y e hy hd => ?_⟩
    · rw [compD, hb]
      simp [he, h1]
    · cases j with
      | zero => simp at hy hd; subst hy hd; exact hP
      | succ j =>
        have := h4 j y e (by simpa using hy) (by simpa using hd)
        rw [show i + 1 + j = i + (j + 1) by omega] at this
        exact this
/-- a comprehension whose element is a function of the item -/
theorem compD_pure {p : Pat} {ε : De} {Γ : List Sl} {S : List D} {f : D → D} : ∀ (xs : List D), (∀ x ∈ xs, ∃ Γ1, p.bind x Γ = some Γ1 ∧ ε Γ1 S = .ok (f x) S) → compD p tTrue ε xs Γ S = .ok (xs.map f) S
  | [], _ => rfl
  | x :: xs, h => by
    obtain ⟨Γ1, hb, he⟩ := h x List.mem_cons_self
    rw [compD, hb]
    simp [he, compD_pure xs fun y hy => h y (List.mem_cons_of_mem _ hy)]
theorem rangeD_len {lo : Int} {n : Nat} : (rangeD lo n).length = n := by unfold rangeD; simp
theorem rangeD_get {lo : Int} {n j : Nat} {x : D} (h : (rangeD lo n)[j]? = some x) : j < n ∧ x = .int (lo + j) := by
  unfold rangeD at h
  rw [List.getElem?_map] at h
  by_cases hj : j < n
  · rw [List.getElem?_range hj] at h; cases h; exact ⟨hj, rfl⟩
  · rw [List.getElem?_eq_none (by simp; omega)] at h; cases h
theorem rangeD_mem {lo : Int} {n : Nat} {x : D} (h : x ∈ rangeD lo n) : ∃ j : Nat, j < n ∧ x = .int (lo + j) := by
  obtain ⟨j, hj⟩ := List.mem_iff_getElem?.mp h
  exact ⟨j, rangeD_get hj⟩
end DL

namespace DL
open PySem L2

/-! ### == of data without ints, without truth values -/
mutual
def okI : D → Bool
  | .non => true
  | .bl _ => true
  | .int _ => false
  | .str x => PyData.canLay0 (.str x)
  | .lst xs => okIs xs
  | .tup xs => okIs xs
  | .dct _ _ => false
  | .ins _ _ _ => false
  | .ptr _ => false
  | .scr _ => false
def okIs : List D → Bool
  | [] => true
  | x :: xs => okI x && okIs xs
end
mutual
def okB : D → Bool
  | .non => true
  | .bl _ => false
  | .int _ => true
  | .str x => PyData.canLay0 (.str x)
  | .lst xs => okBs xs
  | .tup xs => okBs xs
  | .dct _ _ => false
  | .ins _ _ _ => false
  | .ptr _ => false
  | .scr _ => false
def okBs : List D → Bool
  | [] => true
  | x :: xs => okB x && okBs xs
end
mutual
def dep : D → Nat
  | .lst xs => deps xs + 1
  | .tup xs => deps xs + 1
  | .non => 0
  | .bl _ => 0
  | .int _ => 0
  | .str _ => 0
  | .dct _ _ => 0
  | .ins _ _ _ => 0
  | .ptr _ => 0
  | .scr _ => 0
def deps : List D → Nat
  | [] => 0
  | x :: xs => max (dep x) (deps xs)
end
/-! any data -/
mutual
def okD : D → Bool
  | .non => true
  | .bl _ => true
  | .int _ => true
  | .str x => PyData.canLay0 (.str x)
  | .lst xs => okDs xs
  | .tup xs => okDs xs
  | .dct _ _ => false
  | .ins _ _ _ => false
  | .ptr _ => false
  | .scr _ => false
def okDs : List D → Bool
  | [] => true
  | x :: xs => okD x && okDs xs
end
mutual
theorem okD_py : ∀ (d : D), okD d = true → ∃ p, toPy d = some p ∧ p.canLay0 = true ∧ p.depth = dep d
  | .non, _ => ⟨_, by rw [toPy], by rw [PyData.canLay0], by rw [PyData.depth, dep]⟩
  | .bl _, _ => ⟨_, by rw [toPy], by rw [PyData.canLay0], by rw [PyData.depth, dep]⟩
  | .int _, _ => ⟨_, by rw [toPy], by rw [PyData.canLay0], by rw [PyData.depth, dep]⟩
  | .str x, h => ⟨_, by rw [toPy], by rw [okD] at h; exact h, by rw [PyData.depth, dep]⟩
  | .lst xs, h => by
    rw [okD] at h
    obtain ⟨ps, e, c, d⟩ := okDs_py xs h
    exact ⟨.list ps, by rw [toPy, e]; rfl, by rw [PyData.canLay0]; exact c, by rw [PyData.depth, dep, d]⟩
  | .tup xs, h => by
    rw [okD] at h
    obtain ⟨ps, e, c, d⟩ := okDs_py xs h
    exact ⟨.tuple ps, by rw [toPy, e]; rfl, by rw [PyData.canLay0]; exact c, by rw [PyData.depth, dep, d]⟩
  | .dct _ _, h => by rw [okD] at h; cases h
  | .ins _ _ _, h => by rw [okD] at h; cases h
  | .ptr _, h => by rw [okD] at h; cases h
  | .scr _, h => by rw [okD] at h; cases h
theorem okDs_py : ∀ (ds : List D), okDs ds = true → ∃ ps, toPys ds = some ps ∧ PyData.canLayAll0 ps = true ∧ PyData.depthAll ps = deps ds
  | [], _ => ⟨[], by rw [toPys], by rw [PyData.canLayAll0], by rw [PyData.depthAll, deps]⟩
  | x :: xs, h => by
    rw [okDs, Bool.and_eq_true] at h
    obtain ⟨p, e1, c1, d1⟩ := okD_py x h.1
    obtain ⟨ps, e2, c2, d2⟩ := okDs_py xs h.2
    exact ⟨p :: ps, by rw [toPys, e1, e2]; rfl, by rw [PyData.canLayAll0, c1, c2]; rfl, by rw [PyData.depthAll, deps, d1, d2]⟩
end
mutual
theorem okI_D : ∀ (d : D), okI d = true → okD d = true
  | .non, _ => by rw [okD]
  | .bl _, _ => by rw [okD]
  | .int _, h => by rw [okI] at h; cases h
  | .str x, h => by rw [okI] at h; rw [okD]; exact h
  | .lst xs, h => by rw [okI] at h; rw [okD]; exact okIs_D xs h
  | .tup xs, h => by rw [okI] at h; rw [okD]; exact okIs_D xs h
  | .dct _ _, h => by rw [okI] at h; cases h
  | .ins _ _ _, h => by rw [okI] at h; cases h
  | .ptr _, h => by rw [okI] at h; cases h
  | .scr _, h => by rw [okI] at h; cases h
theorem okIs_D : ∀ (d : List D), okIs d = true → okDs d = true
  | [], _ => by rw [okDs]
  | x :: xs, h => by
    rw [okIs, Bool.and_eq_true] at h
    rw [okDs, okI_D x h.1, okIs_D xs h.2]; rfl
end
mutual
theorem okB_D : ∀ (d : D), okB d = true → okD d = true
  | .non, _ => by rw [okD]
  | .int _, _ => by rw [okD]
  | .bl _, h => by rw [okB] at h; cases h
  | .str x, h => by rw [okB] at h; rw [okD]; exact h
  | .lst xs, h => by rw [okB] at h; rw [okD]; exact okBs_D xs h
  | .tup xs, h => by rw [okB] at h; rw [okD]; exact okBs_D xs h
  | .dct _ _, h => by rw [okB] at h; cases h
  | .ins _ _ _, h => by rw [okB] at h; cases h
  | .ptr _, h => by rw [okB] at h; cases h
  | .scr _, h => by rw [okB] at h; cases h
theorem okBs_D : ∀ (d : List D), okBs d = true → okDs d = true
  | [], _ => by rw [okDs]
  | x :: xs, h => by
    rw [okBs, Bool.and_eq_true] at h
    rw [okDs, okB_D x h.1, okBs_D xs h.2]; rfl
end
/-- the comparison's answer, by the two readings -/
def peq (d e : D) : Bool := match toPy d, toPy e with | some p, some q => PyData.eqv p q | _, _ => false
def peqs (d e : List D) : Bool := match toPys d, toPys e with | some p, some q => PyData.eqvAll p q | _, _ => false
theorem dEq_peq {d e : D} (h1 : okD d = true) (h2 : okD e = true) (k1 : dep d ≤ 64) (k2 : dep e ≤ 64) : dEq d e = some (peq d e) := by
  obtain ⟨p, e1, c1, d1⟩ := okD_py d h1
  obtain ⟨q, e2, c2, d2⟩ := okD_py e h2
  have s1 : SeqAt.shaped p = true := by unfold SeqAt.shaped; rw [c1, d1]; simpa using k1
  have s2 : SeqAt.shaped q = true := by unfold SeqAt.shaped; rw [c2, d2]; simpa using k2
  rcases dEq_cases d e with ⟨a, b, rfl, rfl, z⟩ | z
  · rw [z]; unfold peq; simp [toPy, PyData.eqv]
  · rw [z]
    unfold dEqP peq
    simp [e1, e2, s1, s2]
theorem peq_tup {xs ys : List D} (h1 : okDs xs = true) (h2 : okDs ys = true) : peq (.tup xs) (.tup ys) = peqs xs ys := by
  obtain ⟨p, e1, _, _⟩ := okDs_py xs h1
  obtain ⟨q, e2, _, _⟩ := okDs_py ys h2
  unfold peq peqs
  rw [toPy, toPy, e1, e2]
  simp [PyData.eqv]
theorem peq_lst {xs ys : List D} (h1 : okDs xs = true) (h2 : okDs ys = true) : peq (.lst xs) (.lst ys) = peqs xs ys := by
  obtain ⟨p, e1, _, _⟩ := okDs_py xs h1
  obtain ⟨q, e2, _, _⟩ := okDs_py ys h2
  unfold peq peqs
  rw [toPy, toPy, e1, e2]
  simp [PyData.eqv]
theorem peqs_nil : peqs [] [] = true := by unfold peqs; simp [toPys, PyData.eqvAll]
theorem peqs_cons {x y : D} {xs ys : List D} (h1 : okD x = true) (h2 : okD y = true) (k1 : okDs xs = true) (k2 : okDs ys = true) : peqs (x :: xs) (y :: ys) = (peq x y && peqs xs ys) := by
  obtain ⟨p, e1, _, _⟩ := okD_py x h1
  obtain ⟨q, e2, _, _⟩ := okD_py y h2
  obtain ⟨ps, e3, _, _⟩ := okDs_py xs k1
  obtain ⟨qs, e4, _, _⟩ := okDs_py ys k2
  unfold peq peqs
  rw [toPys, toPys, e1, e2, e3, e4]
  simp [PyData.eqvAll]
theorem peqs_nc {y : D} {ys : List D} (h2 : okD y = true) (k2 : okDs ys = true) : peqs [] (y :: ys) = false := by
  obtain ⟨q, e2, _, _⟩ := okD_py y h2
  obtain ⟨qs, e4, _, _⟩ := okDs_py ys k2
  unfold peqs
  rw [toPys, toPys, e2, e4]
  simp [PyData.eqvAll]
theorem peqs_cn {y : D} {ys : List D} (h2 : okD y = true) (k2 : okDs ys = true) : peqs (y :: ys) [] = false := by
  obtain ⟨q, e2, _, _⟩ := okD_py y h2
  obtain ⟨qs, e4, _, _⟩ := okDs_py ys k2
  unfold peqs
  rw [toPys, toPys, e2, e4]
  simp [PyData.eqvAll]
theorem peq_bl {a b : Bool} : peq (.bl a) (.bl b) = (a == b) := by unfold peq; simp [toPy, PyData.eqv]
theorem peq_int {a b : Int} : peq (.int a) (.int b) = (a == b) := by unfold peq; simp [toPy, PyData.eqv]
theorem peq_str {a b : Str} : peq (.str a) (.str b) = (a == b) := by unfold peq; simp [toPy, PyData.eqv]
theorem peq_lt {xs ys : List D} : peq (.lst xs) (.tup ys) = false := by
  simp only [peq, toPy]; cases toPys xs <;> cases toPys ys <;> simp [PyData.eqv]
theorem peq_tl {xs ys : List D} : peq (.tup xs) (.lst ys) = false := by
  simp only [peq, toPy]; cases toPys xs <;> cases toPys ys <;> simp [PyData.eqv]
def flatI : D → Bool | .non => true | .bl _ => true | .int _ => true | .str _ => true | _ => false
theorem peq_lf {xs : List D} {e : D} (h : flatI e = true) : peq (.lst xs) e = false := by
  cases e <;> first | (cases h; done) | (simp only [peq, toPy]; cases toPys xs <;> simp [PyData.eqv])
theorem peq_tf {xs : List D} {e : D} (h : flatI e = true) : peq (.tup xs) e = false := by
  cases e <;> first | (cases h; done) | (simp only [peq, toPy]; cases toPys xs <;> simp [PyData.eqv])
theorem peq_fl {xs : List D} {e : D} (h : flatI e = true) : peq e (.lst xs) = false := by
  cases e <;> first | (cases h; done) | (simp only [peq, toPy]; cases toPys xs <;> simp [PyData.eqv])
theorem peq_ft {xs : List D} {e : D} (h : flatI e = true) : peq e (.tup xs) = false := by
  cases e <;> first | (cases h; done) | (simp only [peq, toPy]; cases toPys xs <;> simp [PyData.eqv])
mutual
theorem peq_I : ∀ (d e : D), okI d = true → okI e = true → (peq d e = true ↔ d = e)
  | .int _, _, h, _ => by rw [okI] at h; cases h
  | .dct _ _, _, h, _ => by rw [okI] at h; cases h
  | .ins _ _ _, _, h, _ => by rw [okI] at h; cases h
  | .ptr _, _, h, _ => by rw [okI] at h; cases h
  | .scr _, _, h, _ => by rw [okI] at h; cases h
  | .lst xs, .lst ys, h, k => by
    rw [okI] at h k
    rw [peq_lst (okIs_D _ h) (okIs_D _ k), peqs_I xs ys h k]; simp
  | .tup xs, .tup ys, h, k => by
    rw [okI] at h k
    rw [peq_tup (okIs_D _ h) (okIs_D _ k), peqs_I xs ys h k]; simp
  | .lst xs, .tup ys, h, k => by rw [peq_lt]; simp
  | .tup xs, .lst ys, h, k => by rw [peq_tl]; simp
  | .lst xs, e, h, k => by
    cases e <;> first | (rw [okI] at k; cases k; done) | (rw [peq_lf rfl]; simp; done) | (rw [peq_lt]; simp; done) | (rw [okI] at h k; rw [peq_lst (okIs_D _ h) (okIs_D _ k), peqs_I xs _ h k]; simp)
  | .tup xs, e, h, k => by
    cases e <;> first | (rw [okI] at k; cases k; done) | (rw [peq_tf rfl]; simp; done) | (rw [peq_tl]; simp; done) | (rw [okI] at h k; rw [peq_tup (okIs_D _ h) (okIs_D _ k), peqs_I xs _ h k]; simp)
  | .non, e, h, k => by
    cases e <;> first | (rw [okI] at k; cases k; done) | (rw [peq_fl rfl]; simp; done) | (rw [peq_ft rfl]; simp; done) | (simp [peq, toPy, PyData.eqv])
  | .bl _, e, h, k => by
    cases e <;> first | (rw [okI] at k; cases k; done) | (rw [peq_fl rfl]; simp; done) | (rw [peq_ft rfl]; simp; done) | (simp [peq, toPy, PyData.eqv])
  | .str _, e, h, k => by
    cases e <;> first | (rw [okI] at k; cases k; done) | (rw [peq_fl rfl]; simp; done) | (rw [peq_ft rfl]; simp; done) | (simp [peq, toPy, PyData.eqv])
theorem peqs_I : ∀ (d e : List D), okIs d = true → okIs e = true → (peqs d e = true ↔ d = e)
  | [], [], _, _ => by rw [peqs_nil]; simp
  | [], y :: ys, _, k => by
    rw [okIs, Bool.and_eq_true] at k
    rw [peqs_nc (okI_D _ k.1) (okIs_D _ k.2)]; simp
  | y :: ys, [], k, _ => by
    rw [okIs, Bool.and_eq_true] at k
    rw [peqs_cn (okI_D _ k.1) (okIs_D _ k.2)]; simp
  | x :: xs, y :: ys, h, k => by
    rw [okIs, Bool.and_eq_true] at h k
    rw [peqs_cons (okI_D _ h.1) (okI_D _ k.1) (okIs_D _ h.2) (okIs_D _ k.2), Bool.and_eq_true, peq_I x y h.1 k.1, peqs_I xs ys h.2 k.2]
    simp
end
mutual
theorem peq_B : ∀ (d e : D), okB d = true → okB e = true → (peq d e = true ↔ d = e)
  | .bl _, _, h, _ => by rw [okB] at h; cases h
  | .dct _ _, _, h, _ => by rw [okB] at h; cases h
  | .ins _ _ _, _, h, _ => by rw [okB] at h; cases h
  | .ptr _, _, h, _ => by rw [okB] at h; cases h
  | .scr _, _, h, _ => by rw [okB] at h; cases h
  | .lst xs, .lst ys, h, k => by
    rw [okB] at h k
    rw [peq_lst (okBs_D _ h) (okBs_D _ k), peqs_B xs ys h k]; simp
  | .tup xs, .tup ys, h, k => by
    rw [okB] at h k
    rw [peq_tup (okBs_D _ h) (okBs_D _ k), peqs_B xs ys h k]; simp
  | .lst xs, .tup ys, h, k => by rw [peq_lt]; simp
  | .tup xs, .lst ys, h, k => by rw [peq_tl]; simp
  | .lst xs, e, h, k => by
    cases e <;> first | (rw [okB] at k; cases k; done) | (rw [peq_lf rfl]; simp; done) | (rw [peq_lt]; simp; done) | (rw [okB] at h k; rw [peq_lst (okBs_D _ h) (okBs_D _ k), peqs_B xs _ h k]; simp)
  | .tup xs, e, h, k => by
    cases e <;> first | (rw [okB] at k; cases k; done) | (rw [peq_tf rfl]; simp; done) | (rw [peq_tl]; simp; done) | (rw [okB] at h k; rw [peq_tup (okBs_D _ h) (okBs_D _ k), peqs_B xs _ h k]; simp)
  | .non, e, h, k => by
    cases e <;> first | (rw [okB] at k; cases k; done) | (rw [peq_fl rfl]; simp; done) | (rw [peq_ft rfl]; simp; done) | (simp [peq, toPy, PyData.eqv])
  | .int _, e, h, k => by
    cases e <;> first | (rw [okB] at k; cases k; done) | (rw [peq_fl rfl]; simp; done) | (rw [peq_ft rfl]; simp; done) | (simp [peq, toPy, PyData.eqv])
  | .str _, e, h, k => by
    cases e <;> first | (rw [okB] at k; cases k; done) | (rw [peq_fl rfl]; simp; done) | (rw [peq_ft rfl]; simp; done) | (simp [peq, toPy, PyData.eqv])
theorem peqs_B : ∀ (d e : List D), okBs d = true → okBs e = true → (peqs d e = true ↔ d = e)
  | [], [], _, _ => by rw [peqs_nil]; simp
  | [], y :: ys, _, k => by
    rw [okBs, Bool.and_eq_true] at k
    rw [peqs_nc (okB_D _ k.1) (okBs_D _ k.2)]; simp
  | y :: ys, [], k, _ => by
    rw [okBs, Bool.and_eq_true] at k
    rw [peqs_cn (okB_D _ k.1) (okBs_D _ k.2)]; simp
  | x :: xs, y :: ys, h, k => by
    rw [okBs, Bool.and_eq_true] at h k
    rw [peqs_cons (okB_D _ h.1) (okB_D _ k.1) (okBs_D _ h.2) (okBs_D _ k.2), Bool.and_eq_true, peq_B x y h.1 k.1, peqs_B xs ys h.2 k.2]
    simp
end

/-- == of two such data -/
theorem dEq_I {d e : D} [Decidable (d = e)] (h1 : okI d = true) (h2 : okI e = true) (k1 : dep d ≤ 64) (k2 : dep e ≤ 64) : dEq d e = some (decide (d = e)) := by
  rw [dEq_peq (okI_D _ h1) (okI_D _ h2) k1 k2]
  congr 1
  rw [Bool.eq_iff_iff, peq_I d e h1 h2, decide_eq_true_iff]
theorem dEq_B {d e : D} [Decidable (d = e)] (h1 : okB d = true) (h2 : okB e = true) (k1 : dep d ≤ 64) (k2 : dep e ≤ 64) : dEq d e = some (decide (d = e)) := by
  rw [dEq_peq (okB_D _ h1) (okB_D _ h2) k1 k2]
  congr 1
  rw [Bool.eq_iff_iff, peq_B d e h1 h2, decide_eq_true_iff]
end DL

namespace DL
open PySem L2
@[simp] theorem x_sRevO {i : Nat} {Γ : List Sl} {S : List D} : sRevO i Γ S = match Γ[i]? with
  | some (.own (.lst xs)) => .next (Γ.set i (.own (.lst xs.reverse))) S
  | _ => .stuck := Eq.trans rfl rfl
@[simp] theorem dAbs_int {i : Int} : dAbs (.int i) = some (.int (if i < 0 then -i else i)) := Eq.trans rfl rfl
@[simp] theorem dMax_int {i j : Int} : dMax (.int i) (.int j) = some (.int (if j > i then j else i)) := Eq.trans rfl rfl
@[simp] theorem dMin_int {i j : Int} : dMin (.int i) (.int j) = some (.int (if j < i then j else i)) := Eq.trans rfl rfl
theorem asInts_map (l : List Int) : asInts (l.map D.int) = some l := by
  induction l with
  | nil => rfl
  | cons x r ih => rw [List.map_cons, asInts, ih]; rfl
theorem dSum_map (l : List Int) : dSum (.lst (l.map D.int)) = some (.int l.sum) := by
  show (asInts (l.map D.int)).map (fun l => D.int l.sum) = _; rw [asInts_map]; rfl
@[simp] theorem x_eChain {f g : D → D → Option D} {a b c : De} {Γ : List Sl} {S : List D} : eChain f g a b c Γ S = (a Γ S).bind fun x S1 => (b Γ S1).bind fun y S2 => (ofO (f (deref S2 x) (deref S2 y)) S2).bind fun k S3 => match asB k with
  | some true => (c Γ S3).bind fun z S4 => ofO (g (deref S4 y) (deref S4 z)) S4
  | some false => .ok (.bl false) S3
  | none => .stuck := Eq.trans rfl rfl
@[simp] theorem dEq_str {a b : Str} : dEq (.str a) (.str b) = some (a == b) := Eq.trans rfl rfl
@[simp] theorem cEq_str {a b : Str} : cEq (.str a) (.str b) = some (.bl (a == b)) := Eq.trans rfl rfl
@[simp] theorem cNe_str {a b : Str} : cNe (.str a) (.str b) = some (.bl (!(a == b))) := Eq.trans rfl rfl
theorem dEq_int' (a b : Int) : dEq (.int a) (.int b) = some (a == b) := by
  rw [dEq_peq (by rw [okD]) (by rw [okD]) (by rw [dep]; decide) (by rw [dep]; decide), peq_int]
theorem dEq_bl' (a b : Bool) : dEq (.bl a) (.bl b) = some (a == b) := by
  rw [dEq_peq (by rw [okD]) (by rw [okD]) (by rw [dep]; decide) (by rw [dep]; decide), peq_bl]
@[simp] theorem cEq_i2 (a b : Int) : cEq (.int a) (.int b) = some (.bl (a == b)) := by unfold cEq; rw [dEq_int']; rfl
@[simp] theorem cNe_i2 (a b : Int) : cNe (.int a) (.int b) = some (.bl (a != b)) := by unfold cNe; rw [dEq_int']; rfl
@[simp] theorem cEq_b2 (a b : Bool) : cEq (.bl a) (.bl b) = some (.bl (a == b)) := by unfold cEq; rw [dEq_bl']; rfl
@[simp] theorem cNe_b2 (a b : Bool) : cNe (.bl a) (.bl b) = some (.bl (a != b)) := by unfold cNe; rw [dEq_bl']; rfl
/-- a place drawn -/
theorem pick {xs : List D} {r : Int} (h0 : 0 ≤ r) (h1 : r < xs.length) : ∃ d ∈ xs, atI xs r = some d := by
  obtain ⟨k, rfl⟩ : ∃ k : Nat, r = (k : Int) := ⟨r.toNat, by omega⟩
  have hk : k < xs.length := by omega
  exact ⟨xs[k], List.getElem_mem hk, by rw [atI_get?, List.getElem?_eq_getElem hk]⟩
theorem pickS {xs : List Str} {r : Int} (h0 : 0 ≤ r) (h1 : r < xs.length) : ∃ x ∈ xs, atI (xs.map D.str) r = some (.str x) := by
  obtain ⟨d, hd, e⟩ := pick (xs := xs.map D.str) h0 (by rw [List.length_map]; exact h1)
  obtain ⟨x, hx, rfl⟩ := List.mem_map.mp hd
  exact ⟨x, hx, e⟩
theorem pickI {xs : List Int} {r : Int} (h0 : 0 ≤ r) (h1 : r < xs.length) : ∃ x ∈ xs, atI (xs.map D.int) r = some (.int x) := by
  obtain ⟨d, hd, e⟩ := pick (xs := xs.map D.int) h0 (by rw [List.length_map]; exact h1)
  obtain ⟨x, hx, rfl⟩ := List.mem_map.mp hd
  exact ⟨x, hx, e⟩
theorem dEq_same {d : D} (h : okB d = true) (k : dep d ≤ 64) : dEq d d = some true := by
  haveI : Decidable (d = d) := .isTrue rfl
  rw [dEq_B h h k k]
  exact congrArg some (decide_eq_true rfl)
end DL

namespace DL
open PySem L2
/-! ### messages as data -/
inductive Ky where
  | i (n : Int) | s (x : Str)
def eK : Ky → D
  | .i n => .int n
  | .s x => .str x
mutual
inductive Nd where
  | text (x : Str) | shw (n : Str) | num
  | sel (n : Str) (cs : List Cs) (o : List Nd)
  | plu (n : Str) (f : Int) (cs : List Cs) (o : List Nd)
inductive Cs where
  | mk (k : Ky) (m : List Nd)
end
mutual
def eN : Nd → D
  | .text x => .tup [.str "text", .str x]
  | .shw n => .tup [.str "show", .str n]
  | .num => .tup [.str "number"]
  | .sel n cs o => .tup [.str "select", .str n, .lst (eCs cs), .lst (eL o)]
  | .plu n f cs o => .tup [.str "plural", .str n, .int f, .lst (eCs cs), .lst (eL o)]
def eL : List Nd → List D
  | [] => []
  | n :: r => eN n :: eL r
def eC1 : Cs → D
  | .mk k m => .tup [eK k, .lst (eL m)]
def eCs : List Cs → List D
  | [] => []
  | c :: r => eC1 c :: eCs r
end
theorem eL_map (m : List Nd) : eL m = m.map eN := by
  induction m with
  | nil => rw [eL]; rfl
  | cons n r ih => rw [eL, ih]; rfl
theorem eCs_map (m : List Cs) : eCs m = m.map eC1 := by
  induction m with
  | nil => rw [eCs]; rfl
  | cons n r ih => rw [eCs, ih]; rfl
@[simp] theorem eL_nil : eL [] = [] := by rw [eL]
@[simp] theorem eCs_nil : eCs [] = [] := by rw [eCs]
@[simp] theorem eL_len (m : List Nd) : (eL m).length = m.length := by rw [eL_map, List.length_map]
@[simp] theorem eCs_len (m : List Cs) : (eCs m).length = m.length := by rw [eCs_map, List.length_map]
theorem eL_app (a b : List Nd) : eL (a ++ b) = eL a ++ eL b := by simp only [eL_map, List.map_append]
theorem eCs_app (a b : List Cs) : eCs (a ++ b) = eCs a ++ eCs b := by simp only [eCs_map, List.map_append]
theorem eCs_rev (a : List Cs) : (eCs a).reverse = eCs a.reverse := by simp only [eCs_map, List.map_reverse]
theorem eL_one (n : Nd) : eL [n] = [eN n] := by rw [eL, eL]
theorem eCs_one (n : Cs) : eCs [n] = [eC1 n] := by rw [eCs, eCs]
/-! ### what a message must be -/
def sOk (x : Str) : Bool := PyData.canLay0 (.str x)
def iOk (i : Int) : Bool := decide (i.natAbs < 2 ^ 64)
def kOk : Ky → Bool
  | .i n => iOk n
  | .s x => sOk x
mutual
def nOk : Nd → Bool
  | .text x => sOk x
  | .shw n => sOk n
  | .num => true
  | .sel n cs o => sOk n && csOk cs && lOk o
  | .plu n f cs o => sOk n && iOk f && csOk cs && lOk o
def lOk : List Nd → Bool
  | [] => true
  | n :: r => nOk n && lOk r
def cOk : Cs → Bool
  | .mk k m => kOk k && lOk m
def csOk : List Cs → Bool
  | [] => true
  | c :: r => cOk c && csOk r
end
/-! how deep -/
mutual
def nH : Nd → Nat
  | .sel _ cs o => max (csH cs) (lH o) + 1
  | .plu _ _ cs o => max (csH cs) (lH o) + 1
  | .text _ => 0
  | .shw _ => 0
  | .num => 0
def lH : List Nd → Nat
  | [] => 0
  | n :: r => max (nH n) (lH r)
def cH : Cs → Nat
  | .mk _ m => lH m
def csH : List Cs → Nat
  | [] => 0
  | c :: r => max (cH c) (csH r)
end
/-! how great -/
def kW : Ky → Nat
  | .i n => (toString n : Str).length
  | .s x => 10 * x.length + 2
mutual
def nW : Nd → Nat
  | .text x => 10 * x.length + 40
  | .shw n => 10 * n.length + 40
  | .num => 40
  | .sel n cs o => 10 * n.length + csW cs + lW o + 60
  | .plu n f cs o => 10 * n.length + (toString f : Str).length + csW cs + lW o + 60
def lW : List Nd → Nat
  | [] => 0
  | n :: r => nW n + lW r
def cW : Cs → Nat
  | .mk k m => kW k + lW m + 20
def csW : List Cs → Nat
  | [] => 0
  | c :: r => cW c + csW r
end
theorem lOk_app (a b : List Nd) : lOk (a ++ b) = (lOk a && lOk b) := by
  induction a with
  | nil => simp [lOk]
  | cons n r ih => rw [List.cons_append, lOk, lOk, ih, Bool.and_assoc]
theorem csOk_app (a b : List Cs) : csOk (a ++ b) = (csOk a && csOk b) := by
  induction a with
  | nil => simp [csOk]
  | cons n r ih => rw [List.cons_append, csOk, csOk, ih, Bool.and_assoc]
theorem lH_app (a b : List Nd) : lH (a ++ b) = max (lH a) (lH b) := by
  induction a with
  | nil => simp [lH]
  | cons n r ih => rw [List.cons_append, lH, lH, ih, Nat.max_assoc]
theorem csH_app (a b : List Cs) : csH (a ++ b) = max (csH a) (csH b) := by
  induction a with
  | nil => simp [csH]
  | cons n r ih => rw [List.cons_append, csH, csH, ih, Nat.max_assoc]
theorem lW_app (a b : List Nd) : lW (a ++ b) = lW a + lW b := by
  induction a with
  | nil => simp [lW]
  | cons n r ih => rw [List.cons_append, lW, lW, ih, Nat.add_assoc]
theorem csW_app (a b : List Cs) : csW (a ++ b) = csW a + csW b := by
  induction a with
  | nil => simp [csW]
  | cons n r ih => rw [List.cons_append, csW, csW, ih, Nat.add_assoc]
theorem nW_pos (n : Nd) : 40 ≤ nW n := by cases n <;> rw [nW] <;> omega
theorem cW_pos (n : Cs) : 20 ≤ cW n := by cases n; rw [cW]; omega
theorem lW_len (m : List Nd) : 40 * m.length ≤ lW m := by
  induction m with
  | nil => simp
  | cons n r ih => rw [lW, List.length_cons]; have := nW_pos n; omega
theorem csW_len (m : List Cs) : 20 * m.length ≤ csW m := by
  induction m with
  | nil => simp
  | cons n r ih => rw [csW, List.length_cons]; have := cW_pos n; omega
theorem kOk_B (k : Ky) (h : kOk k = true) : okB (eK k) = true := by
  cases k with
  | i n => rw [eK, okB]
  | s x => rw [eK, okB]; exact h
theorem kDep (k : Ky) : dep (eK k) = 0 := by cases k <;> rw [eK, dep]
theorem text_ok : PyData.canLay0 (.str "text") = true := by decide +kernel
theorem show_ok : PyData.canLay0 (.str "show") = true := by decide +kernel
theorem number_ok : PyData.canLay0 (.str "number") = true := by decide +kernel
theorem select_ok : PyData.canLay0 (.str "select") = true := by decide +kernel
theorem plural_ok : PyData.canLay0 (.str "plural") = true := by decide +kernel
mutual
theorem nOk_B : ∀ n : Nd, nOk n = true → okB (eN n) = true
  | .text x, h => by rw [nOk] at h; simp [eN, okB, okBs, text_ok]; exact h
  | .shw x, h => by rw [nOk] at h; simp [eN, okB, okBs, show_ok]; exact h
  | .num, _ => by simp [eN, okB, okBs, number_ok]
  | .sel n cs o, h => by
    rw [nOk, Bool.and_eq_true, Bool.and_eq_true] at h
    simp [eN, okB, okBs, select_ok, csOk_B cs h.1.2, lOk_B o h.2]; exact h.1.1
  | .plu n f cs o, h => by
    rw [nOk, Bool.and_eq_true, Bool.and_eq_true, Bool.and_eq_true] at h
    simp [eN, okB, okBs, plural_ok, csOk_B cs h.1.2, lOk_B o h.2]; exact h.1.1.1
theorem lOk_B : ∀ m : List Nd, lOk m = true → okBs (eL m) = true
  | [], _ => by rw [eL, okBs]
  | n :: r, h => by
    rw [lOk, Bool.and_eq_true] at h
    rw [eL, okBs, nOk_B n h.1, lOk_B r h.2]; rfl
theorem cOk_B : ∀ c : Cs, cOk c = true → okB (eC1 c) = true
  | .mk k m, h => by
    rw [cOk, Bool.and_eq_true] at h
    simp [eC1, okB, okBs, kOk_B k h.1, lOk_B m h.2]
theorem csOk_B : ∀ m : List Cs, csOk m = true → okBs (eCs m) = true
  | [], _ => by rw [eCs, okBs]
  | n :: r, h => by
    rw [csOk, Bool.and_eq_true] at h
    rw [eCs, okBs, cOk_B n h.1, csOk_B r h.2]; rfl
end
mutual
theorem nDep : ∀ n : Nd, dep (eN n) ≤ 4 * nH n + 1
  | .text x => by simp [eN, dep, deps]
  | .shw x => by simp [eN, dep, deps]
  | .num => by simp [eN, dep, deps]
  | .sel n cs o => by
    have h1 := csDep cs
    have h2 := lDep o
    simp only [eN, dep, deps, nH]
    omega
  | .plu n f cs o => by
    have h1 := csDep cs
    have h2 := lDep o
    simp only [eN, dep, deps, nH]
    omega
theorem lDep : ∀ m : List Nd, deps (eL m) ≤ 4 * lH m + 1
  | [] => by simp [eL, deps]
  | n :: r => by
    have h1 := nDep n
    have h2 := lDep r
    simp only [eL, deps, lH]
    omega
theorem cDep : ∀ c : Cs, dep (eC1 c) ≤ 4 * cH c + 3
  | .mk k m => by
    have h2 := lDep m
    have := kDep k
    simp only [eC1, dep, deps, cH]
    omega
theorem csDep : ∀ m : List Cs, deps (eCs m) ≤ 4 * csH m + 3
  | [] => by simp [eCs, deps]
  | n :: r => by
    have h1 := cDep n
    have h2 := csDep r
    simp only [eCs, deps, csH]
    omega
end
end DL

namespace DL
open PySem L2
/-! ### how long a repr is -/
mutual
def shW : D → Nat
  | .non => 4
  | .bl _ => 5
  | .int i => (toString i : Str).length
  | .str x => 10 * x.length + 2
  | .lst xs => shWs xs + 2
  | .tup xs => shWs xs + 2
  | .dct _ _ => 0
  | .ins _ _ _ => 0
  | .ptr _ => 0
  | .scr _ => 0
def shWs : List D → Nat
  | [] => 0
  | x :: xs => shW x + 2 + shWs xs
end
mutual
def okR : D → Bool
  | .non => true
  | .bl _ => true
  | .int i => decide (i.natAbs < 2 ^ 64)
  | .str x => PyData.canLay0 (.str x)
  | .lst xs => okRs xs
  | .tup xs => okRs xs
  | .dct _ _ => false
  | .ins _ _ _ => false
  | .ptr _ => false
  | .scr _ => false
def okRs : List D → Bool
  | [] => true
  | x :: xs => okR x && okRs xs
end
def tot : List Str → Nat
  | [] => 0
  | t :: r => t.length + 2 + tot r
theorem textFrom_tot : ∀ (ts : List Str) (k : Nat) (acc : Str), (textFrom k acc ts).length ≤ acc.length + tot ts
  | [], _, acc => by rw [textFrom, tot]; omega
  | t :: r, k, acc => by
    rw [textFrom, tot]
    have ih := textFrom_tot r (k + 1) (acc ++ (if k > 0 then ", " else "" : String) ++ t)
    have e : (acc ++ ((if k > 0 then ", " else "" : String) : Str) ++ t).length = acc.length + ((if k > 0 then ", " else "" : String) : Str).length + t.length := by
      rw [strLen_append, strLen_append]
    have e2 : (((if k > 0 then ", " else "" : String) : Str)).length ≤ 2 := by split <;> decide
    omega
theorem join_tot : ∀ (ts : List Str), (Str.join ", " ts).length ≤ tot ts
  | [] => by show (0 : Nat) ≤ _; exact Nat.zero_le _
  | [t] => by
    have e : Str.join ", " [t] = t := rfl
    rw [e, tot, tot]; omega
  | t :: u :: r => by
    have ih := join_tot (u :: r)
    have e : Str.join ", " (t :: u :: r) = t ++ ", " ++ Str.join ", " (u :: r) := rfl
    rw [e, strLen_append, strLen_append, tot]
    have e2 : ((", " : String) : Str).length = 2 := rfl
    omega
theorem list_tot (ts : List Str) : (listText ts).length ≤ tot ts + 2 := by
  unfold listText
  rw [strLen_append]
  have h := textFrom_tot ts 0 "["
  have e1 : (("[" : String) : Str).length = 1 := rfl
  have e2 : (("]" : String) : Str).length = 1 := rfl
  omega
theorem tuple_tot (ts : List Str) : (tupleText ts).length ≤ tot ts + 2 := by
  unfold tupleText
  rw [strLen_append, strLen_append]
  have e1 : (("(" : String) : Str).length = 1 := rfl
  rw [e1]
  match ts with
  | [] => decide
  | [t] =>
    have e : Str.join ", " [t] = t := rfl
    have e2 : (((if [t].length == 1 then ",)" else ")" : String) : Str)).length = 2 := rfl
    rw [e, e2, tot, tot]; omega
  | t :: u :: r =>
    have h := join_tot (t :: u :: r)
    have e2 : (((if (t :: u :: r).length == 1 then ",)" else ")" : String) : Str)).length ≤ 1 := by
      have : ((t :: u :: r).length == 1) = false := by simp
      rw [this]; decide
    omega
theorem log_lt {n : Nat} (h : n < 2 ^ 64) : n.log2 < 1920 := by
  by_cases z : n = 0
  · subst z; decide
  · exact Nat.lt_of_lt_of_le ((Nat.log2_lt z).mpr h) (by decide)
theorem str_sh {x : Str} (h : PyData.canLay0 (.str x) = true) : (reprText x).length ≤ 10 * x.length + 2 := by
  refine _root_.PySem.StrLaws.reprText_len x fun c hc => ?_
  rw [PyData.canLay0] at h
  have h2 : x.cps.all (fun k => decide (k < 0x110000)) = true := h
  rw [← Array.all_toList, List.all_eq_true] at h2
  have := h2 c hc
  rw [decide_eq_true_iff] at this
  exact Nat.lt_trans this (by decide)
mutual
theorem okR_py : ∀ d : D, okR d = true → ∃ p, toPy d = some p ∧ p.showable = true ∧ p.hasDict = false ∧ p.depth = dep d ∧ p.shown.length ≤ shW d
  | .non, _ => ⟨.none, by rw [toPy], by rw [PyData.showable], by rw [PyData.hasDict], by rw [PyData.depth, dep], by rw [PyData.shown, shW]; decide⟩
  | .bl b, _ => ⟨.bool b, by rw [toPy], by rw [PyData.showable], by rw [PyData.hasDict], by rw [PyData.depth, dep], by rw [PyData.shown, shW]; cases b <;> decide⟩
  | .int i, h => ⟨.int i, by rw [toPy], by rw [okR, decide_eq_true_iff] at h; rw [PyData.showable, decide_eq_true_iff]; exact log_lt h, by rw [PyData.hasDict], by rw [PyData.depth, dep], by rw [PyData.shown, shW]; exact Nat.le_refl _⟩
  | .str x, h => ⟨.str x, by rw [toPy], by rw [PyData.showable], by rw [PyData.hasDict], by rw [PyData.depth, dep], by rw [okR] at h; rw [PyData.shown, shW]; exact str_sh h⟩
  | .lst xs, h => by
    rw [okR] at h
    obtain ⟨ps, e, a, b, c, d⟩ := okRs_py xs h
    exact ⟨.list ps, by rw [toPy, e]; rfl, by rw [PyData.showable]; exact a, by rw [PyData.hasDict]; exact b, by rw [PyData.depth, dep, c], by rw [PyData.shown, shW]; exact Nat.le_trans (list_tot _) (by omega)⟩
  | .tup xs, h => by
    rw [okR] at h
    obtain ⟨ps, e, a, b, c, d⟩ := okRs_py xs h
    exact ⟨.tuple ps, by rw [toPy, e]; rfl, by rw [PyData.showable]; exact a, by rw [PyData.hasDict]; exact b, by rw [PyData.depth, dep, c], by rw [PyData.shown, shW]; exact Nat.le_trans (tuple_tot _) (by omega)⟩
  | .dct _ _, h => by rw [okR] at h; cases h
  | .ins _ _ _, h => by rw [okR] at h; cases h
  | .ptr _, h => by rw [okR] at h; cases h
  | .scr _, h => by rw [okR] at h; cases h
theorem okRs_py : ∀ ds : List D, okRs ds = true → ∃ ps, toPys ds = some ps ∧ PyData.showableAll ps = true ∧ PyData.hasDictAll ps = false ∧ PyData.depthAll ps = deps ds ∧ tot (PyData.shownAll ps) ≤ shWs ds
  | [], _ => ⟨[], by rw [toPys], by rw [PyData.showableAll], by rw [PyData.hasDictAll], by rw [PyData.depthAll, deps], by rw [PyData.shownAll, tot]; exact Nat.zero_le _⟩
  | x :: xs, h => by
    rw [okRs, Bool.and_eq_true] at h
    obtain ⟨p, e1, a1, b1, c1, d1⟩ := okR_py x h.1
    obtain ⟨ps, e2, a2, b2, c2, d2⟩ := okRs_py xs h.2
    exact ⟨p :: ps, by rw [toPys, e1, e2]; rfl, by rw [PyData.showableAll, a1, a2]; rfl, by rw [PyData.hasDictAll, b1, b2]; rfl, by rw [PyData.depthAll, deps, c1, c2], by rw [PyData.shownAll, tot, shWs]; omega⟩
end
theorem dRepr_ok {d : D} (sq : isSq d = true) (h : okR d = true) (hd : dep d ≤ 60) (hw : shW d ≤ sizeLine) : ∃ t, dRepr d = some (.str t) := by
  obtain ⟨p, e, a, b, c, l⟩ := okR_py d h
  refine ⟨p.shown, ?_⟩
  unfold dRepr
  rw [e]
  simp only
  rw [if_pos ⟨sq, a, b, by omega, by omega⟩]
/-! messages -/
theorem kOk_R (k : Ky) (h : kOk k = true) : okR (eK k) = true := by
  cases k with
  | i n => rw [eK, okR]; exact h
  | s x => rw [eK, okR]; exact h
mutual
theorem nOk_R : ∀ n : Nd, nOk n = true → okR (eN n) = true
  | .text x, h => by rw [nOk] at h; simp [eN, okR, okRs, text_ok]; exact h
  | .shw x, h => by rw [nOk] at h; simp [eN, okR, okRs, show_ok]; exact h
  | .num, _ => by simp [eN, okR, okRs, number_ok]
  | .sel n cs o, h => by
    rw [nOk, Bool.and_eq_true, Bool.and_eq_true] at h
    simp [eN, okR, okRs, select_ok, csOk_R cs h.1.2, lOk_R o h.2]; exact h.1.1
  | .plu n f cs o, h => by
    rw [nOk, Bool.and_eq_true, Bool.and_eq_true, Bool.and_eq_true] at h
    have hf := h.1.1.2
    unfold iOk at hf
    rw [eN, okR, okRs, okRs, okRs, okRs, okRs, okRs, okR, okR, okR, okR, okR, plural_ok, hf, csOk_R cs h.1.2, lOk_R o h.2]
    show (true && (PyData.canLay0 (.str n) && _)) = true
    rw [show PyData.canLay0 (.str n) = true from h.1.1.1]; rfl
theorem lOk_R : ∀ m : List Nd, lOk m = true → okRs (eL m) = true
  | [], _ => by rw [eL, okRs]
  | n :: r, h => by
    rw [lOk, Bool.and_eq_true] at h
    rw [eL, okRs, nOk_R n h.1, lOk_R r h.2]; rfl
theorem cOk_R : ∀ c : Cs, cOk c = true → okR (eC1 c) = true
  | .mk k m, h => by
    rw [cOk, Bool.and_eq_true] at h
    simp [eC1, okR, okRs, kOk_R k h.1, lOk_R m h.2]
theorem csOk_R : ∀ m : List Cs, csOk m = true → okRs (eCs m) = true
  | [], _ => by rw [eCs, okRs]
  | n :: r, h => by
    rw [csOk, Bool.and_eq_true] at h
    rw [eCs, okRs, cOk_R n h.1, csOk_R r h.2]; rfl
end
theorem kW_sh (k : Ky) : shW (eK k) = kW k := by cases k <;> rw [eK, shW, kW]
theorem l_text : ("text" : Str).length = 4 := by decide +kernel
theorem l_show : ("show" : Str).length = 4 := by decide +kernel
theorem l_number : ("number" : Str).length = 6 := by decide +kernel
theorem l_select : ("select" : Str).length = 6 := by decide +kernel
theorem l_plural : ("plural" : Str).length = 6 := by decide +kernel
mutual
theorem nW_sh : ∀ n : Nd, shW (eN n) + 2 ≤ 3 * nW n
  | .text x => by simp only [eN, shW, shWs, nW, l_text]; omega
  | .shw x => by simp only [eN, shW, shWs, nW, l_show]; omega
  | .num => by simp only [eN, shW, shWs, nW, l_number]; omega
  | .sel n cs o => by
    have h1 := csW_sh cs
    have h2 := lW_sh o
    simp only [eN, shW, shWs, nW, l_select]; omega
  | .plu n f cs o => by
    have h1 := csW_sh cs
    have h2 := lW_sh o
    simp only [eN, shW, shWs, nW, l_plural]; omega
theorem lW_sh : ∀ m : List Nd, shWs (eL m) ≤ 3 * lW m
  | [] => by simp [eL, shWs]
  | n :: r => by
    have h1 := nW_sh n
    have h2 := lW_sh r
    have := nW_pos n
    simp only [eL, shWs, lW]; omega
theorem cW_sh : ∀ c : Cs, shW (eC1 c) + 2 ≤ 3 * cW c
  | .mk k m => by
    have h2 := lW_sh m
    have := kW_sh k
    simp only [eC1, shW, shWs, cW]; omega
theorem csW_sh : ∀ m : List Cs, shWs (eCs m) ≤ 3 * csW m
  | [] => by simp [eCs, shWs]
  | n :: r => by
    have h1 := cW_sh n
    have h2 := csW_sh r
    simp only [eCs, shWs, csW]; omega
end
theorem msg_repr {m : List Nd} (h : lOk m = true) (hh : lH m ≤ 10) (hw : lW m ≤ 5000000) : ∃ t, dRepr (.lst (eL m)) = some (.str t) := by
  refine dRepr_ok rfl (by rw [okR]; exact lOk_R m h) ?_ ?_
  · have := lDep m
    rw [dep]; omega
  · have := lW_sh m
    rw [shW]; show _ ≤ 16777216; omega
theorem msg_same {m : List Nd} (h : lOk m = true) (hh : lH m ≤ 10) : dEq (.lst (eL m)) (.lst (eL m)) = some true := by
  refine dEq_same (by rw [okB]; exact lOk_B m h) ?_
  have := lDep m
  rw [dep]; omega
end DL

namespace DL
open PySem L2
/-! ### messages in plain form -/
def isT : Nd → Bool
  | .text _ => true
  | _ => false
def lastT (m : List Nd) : Bool := match m.getLast? with
  | some n => isT n
  | none => false
/-- one node behind what was found -/
def plS (acc : List Nd) (n : Nd) (n' : Nd) : List Nd := match n with
  | .text x => match acc.getLast? with
    | some (.text y) => acc.dropLast ++ [.text (y ++ x)]
    | _ => if x = "" then acc else acc ++ [.text x]
  | _ => acc ++ [n']
mutual
def plN : Nd → Nd
  | .text x => .text x
  | .shw n => .shw n
  | .num => .num
  | .sel n cs o => .sel n (plCs cs) (plA [] o)
  | .plu n f cs o => .plu n f (plCs cs) (plA [] o)
def plA : List Nd → List Nd → List Nd
  | acc, [] => acc
  | acc, n :: r => plA (plS acc n (plN n)) r
def plC : Cs → Cs
  | .mk k m => .mk k (plA [] m)
def plCs : List Cs → List Cs
  | [] => []
  | c :: r => plC c :: plCs r
end
theorem plCs_map (m : List Cs) : plCs m = m.map plC := by
  induction m with
  | nil => rw [plCs]; rfl
  | cons n r ih => rw [plCs, ih]; rfl
theorem plA_app (acc a b : List Nd) : plA acc (a ++ b) = plA (plA acc a) b := by
  induction a generalizing acc with
  | nil => rw [List.nil_append, plA]
  | cons n r ih => rw [List.cons_append, plA, plA, ih]
/-! the plain ones -/
mutual
def gN : Nd → Prop
  | .text x => x ≠ ""
  | .shw _ => True
  | .num => True
  | .sel _ cs o => gCs cs ∧ gL o
  | .plu _ _ cs o => gCs cs ∧ gL o
def gL : List Nd → Prop
  | [] => True
  | n :: r => gN n ∧ gL r ∧ (isT n = true → ∀ y, r.head? = some y → isT y = false)
def gC : Cs → Prop
  | .mk _ m => gL m
def gCs : List Cs → Prop
  | [] => True
  | c :: r => gC c ∧ gCs r
end
theorem gL_snoc {m : List Nd} {n : Nd} (h : gL m) (hn : gN n) (hl : lastT m = true → isT n = false) : gL (m ++ [n]) := by
  induction m with
  | nil => rw [List.nil_append, gL]; exact ⟨hn, by rw [gL]; trivial, fun _ y z => by cases z⟩
  | cons x r ih =>
    rw [gL] at h
    obtain ⟨h1, h2, h3⟩ := h
    rw [List.cons_append, gL]
    refine ⟨h1, ih h2 fun z => hl ?_, fun z y hy => ?_⟩
    · cases r with
      | nil => exact (show false = true from z) |> fun w => by cases w
      | cons a b => exact z
    · cases r with
      | nil =>
        cases hy
        exact hl z
      | cons a b => exact h3 z y hy
theorem gCs_snoc {m : List Cs} {c : Cs} (h : gCs m) (hc : gC c) : gCs (m ++ [c]) := by
  induction m with
  | nil => rw [List.nil_append, gCs]; exact ⟨hc, by rw [gCs]; trivial⟩
  | cons x r ih => rw [gCs] at h; rw [List.cons_append, gCs]; exact ⟨h.1, ih h.2⟩
theorem gCs_rev {m : List Cs} (h : gCs m) : gCs m.reverse := by
  induction m with
  | nil => exact h
  | cons x r ih => rw [gCs] at h; rw [List.reverse_cons]; exact gCs_snoc (ih h.2) h.1
theorem gL_left {a b : List Nd} (h : gL (a ++ b)) : gL a := by
  induction a with
  | nil => rw [gL]; trivial
  | cons x r ih =>
    rw [List.cons_append, gL] at h
    obtain ⟨h1, h2, h3⟩ := h
    rw [gL]
    exact ⟨h1, ih h2, fun z y hy => h3 z y (by cases r with | nil => cases hy | cons a b => exact hy)⟩
theorem gL_mid {a b : List Nd} {n : Nd} (h : gL (a ++ n :: b)) : gN n ∧ (lastT a = true → isT n = false) := by
  induction a with
  | nil => rw [List.nil_append, gL] at h; exact ⟨h.1, fun z => by cases z⟩
  | cons x r ih =>
    rw [List.cons_append, gL] at h
    obtain ⟨h1, h2, h3⟩ := h
    refine ⟨(ih h2).1, fun z => ?_⟩
    cases r with
    | nil => exact h3 z n rfl
    | cons a b => exact (ih h2).2 z
theorem lastT_snoc (a : List Nd) (n : Nd) : lastT (a ++ [n]) = isT n := by unfold lastT; rw [List.getLast?_concat]
theorem str_app_nil (y : Str) : y ++ ("" : Str) = y := by
  show Str.append y "" = y
  obtain ⟨a⟩ := y
  show (⟨a ++ #[]⟩ : Str) = ⟨a⟩
  rw [Array.append_empty]
theorem plS_plain {acc : List Nd} {n : Nd} (hn : gN n) (hl : lastT acc = true → isT n = false) : plS acc n n = acc ++ [n] := by
  cases n with
  | text x =>
    rw [gN] at hn
    unfold plS
    cases q : acc.getLast? with
    | none => simp only; rw [if_neg hn]
    | some l =>
      cases l with
      | text y => exact absurd (hl (by unfold lastT; rw [q]; rfl)) (by simp [isT])
      | _ => simp only; rw [if_neg hn]
  | _ => rfl
/-- an empty text makes no difference -/
theorem plS_nil (n n' : Nd) : plS [] n n' = match n with | .text x => if x = "" then [] else [.text x] | _ => [n'] := by
  cases n <;> rfl
theorem plS_concat (a : List Nd) (l n n' : Nd) : plS (a ++ [l]) n n' = match n, l with
    | .text x, .text y => a ++ [.text (y ++ x)]
    | .text x, _ => if x = "" then a ++ [l] else a ++ [l] ++ [.text x]
    | _, _ => a ++ [l] ++ [n'] := by
  cases n <;> try rfl
  unfold plS
  rw [List.getLast?_concat]
  cases l <;> simp
theorem plS_empty (acc : List Nd) (n' : Nd) : plS acc (.text "") n' = acc := by
  rcases List.eq_nil_or_concat acc with rfl | ⟨a, l, rfl⟩
  · rfl
  · rw [List.concat_eq_append, plS_concat]
    cases l <;> simp [str_app_nil]
mutual
theorem plN_same : ∀ n : Nd, gN n → plN n = n
  | .text x, _ => by rw [plN]
  | .shw n, _ => by rw [plN]
  | .num, _ => by rw [plN]
  | .sel n cs o, h => by
    rw [gN] at h
    rw [plN, plCs_same cs h.1, plA_same [] o (by rw [List.nil_append]; exact h.2)]; rfl
  | .plu n f cs o, h => by
    rw [gN] at h
    rw [plN, plCs_same cs h.1, plA_same [] o (by rw [List.nil_append]; exact h.2)]; rfl
theorem plA_same : ∀ (acc m : List Nd), gL (acc ++ m) → plA acc m = acc ++ m
  | acc, [], _ => by rw [plA, List.append_nil]
  | acc, n :: r, h => by
    obtain ⟨h1, h2⟩ := gL_mid h
    rw [plA, plN_same n h1, plS_plain h1 h2, plA_same (acc ++ [n]) r (by rw [List.append_assoc]; exact h), List.append_assoc]; rfl
theorem plC_same : ∀ c : Cs, gC c → plC c = c
  | .mk k m, h => by
    rw [gC] at h
    rw [plC, plA_same [] m (by rw [List.nil_append]; exact h)]; rfl
theorem plCs_same : ∀ m : List Cs, gCs m → plCs m = m
  | [], _ => by rw [plCs]
  | c :: r, h => by
    rw [gCs] at h
    rw [plCs, plC_same c h.1, plCs_same r h.2]
end
end DL

namespace PV
section
open PySem PySem.Spec PyProof.Rows L2 DL
/-! the text -/
def topS (i : Nat) : Stmt := PySem.Challenge.pw_messageways_k00_plain_messages_and_sizes.main.body.getD i (.Pass ⟨0, 0, 0, 0⟩)
abbrev s_1 : Stmt := topS 5  -- cases_of
abbrev N_1 : List Str := ["node"]
theorem sc_1 : FnScope N_1 ["node"] (defScope s_1) := ⟨rfl, rfl, rfl, by decide +kernel, rfl, by decide +kernel, by decide +kernel⟩
abbrev s_2 : Stmt := topS 6  -- other_of
abbrev N_2 : List Str := ["node"]
theorem sc_2 : FnScope N_2 ["node"] (defScope s_2) := ⟨rfl, rfl, rfl, by decide +kernel, rfl, by decide +kernel, by decide +kernel⟩
abbrev s_3 : Stmt := topS 7  -- inner_messages
abbrev N_3 : List Str := ["node", "key", "message"]
theorem sc_3 : FnScope N_3 ["node"] (defScope s_3) := ⟨rfl, rfl, rfl, by decide +kernel, rfl, by decide +kernel, by decide +kernel⟩
abbrev s_4 : Stmt := topS 8  -- plain_node
abbrev N_4 : List Str := ["node", "cases", "key", "message"]
theorem sc_4 : FnScope N_4 ["node"] (defScope s_4) := ⟨rfl, rfl, rfl, by decide +kernel, rfl, by decide +kernel, by decide +kernel⟩
abbrev s_5 : Stmt := topS 9  -- plain
abbrev N_5 : List Str := ["message", "found", "node"]
theorem sc_5 : FnScope N_5 ["message"] (defScope s_5) := ⟨rfl, rfl, rfl, by decide +kernel, rfl, by decide +kernel, by decide +kernel⟩
abbrev s_9 : Stmt := topS 10  -- size_of
abbrev N_9 : List Str := ["message", "total", "node", "inner"]
theorem sc_9 : FnScope N_9 ["message"] (defScope s_9) := ⟨rfl, rfl, rfl, by decide +kernel, rfl, by decide +kernel, by decide +kernel⟩
abbrev s_1000 : Stmt := topS 12  -- _law_cell
abbrev N_1000 : List Str := ["_law_script", "_law_k"]
theorem sc_1000 : FnScope N_1000 ["_law_script", "_law_k"] (defScope s_1000) := ⟨rfl, rfl, rfl, by decide +kernel, rfl, by decide +kernel, by decide +kernel⟩
abbrev s_1001 : Stmt := topS 13  -- _law_digits
abbrev N_1001 : List Str := ["_law_script", "_law_first", "_law_last", "_law_digits_here", "_law_k", "_law_cell_here", "_law_turn", "_law_seed"]
theorem sc_1001 : FnScope N_1001 ["_law_script", "_law_first", "_law_last"] (defScope s_1001) := ⟨rfl, rfl, rfl, by decide +kernel, rfl, by decide +kernel, by decide +kernel⟩
abbrev s_1002 : Stmt := topS 14  -- _law_draw
abbrev N_1002 : List Str := ["_law_box", "_law_many", "_law_at"]
theorem sc_1002 : FnScope N_1002 ["_law_box", "_law_many"] (defScope s_1002) := ⟨rfl, rfl, rfl, by decide +kernel, rfl, by decide +kernel, by decide +kernel⟩
abbrev s_1003 : Stmt := topS 15  -- _law_string
abbrev N_1003 : List Str := ["_law_box"]
theorem sc_1003 : FnScope N_1003 ["_law_box"] (defScope s_1003) := ⟨rfl, rfl, rfl, by decide +kernel, rfl, by decide +kernel, by decide +kernel⟩
abbrev s_1004 : Stmt := topS 16  -- _law_select
abbrev N_1004 : List Str := ["_law_box", "_law_depth", "_law_inside", "_law_cases", "_law_word"]
theorem sc_1004 : FnScope N_1004 ["_law_box", "_law_depth", "_law_inside"] (defScope s_1004) := ⟨rfl, rfl, rfl, by decide +kernel, rfl, by decide +kernel, by decide +kernel⟩
abbrev s_1005 : Stmt := topS 17  -- _law_plural
abbrev N_1005 : List Str := ["_law_box", "_law_depth", "_law_cases", "_law_key"]
theorem sc_1005 : FnScope N_1005 ["_law_box", "_law_depth"] (defScope s_1005) := ⟨rfl, rfl, rfl, by decide +kernel, rfl, by decide +kernel, by decide +kernel⟩
abbrev s_1006 : Stmt := topS 18  -- _law_message
abbrev N_1006 : List Str := ["_law_box", "_law_depth", "_law_inside", "_law_message_here", "_law_turn", "_law_kind"]
theorem sc_1006 : FnScope N_1006 ["_law_box", "_law_depth", "_law_inside"] (defScope s_1006) := ⟨rfl, rfl, rfl, by decide +kernel, rfl, by decide +kernel, by decide +kernel⟩
abbrev s_1007 : Stmt := topS 19  -- _law_cut
abbrev N_1007 : List Str := ["_law_box", "_law_message_here", "_law_found", "_law_node", "_law_at", "_law_cases", "_law_key", "_law_inner"]
theorem sc_1007 : FnScope N_1007 ["_law_box", "_law_message_here"] (defScope s_1007) := ⟨rfl, rfl, rfl, by decide +kernel, rfl, by decide +kernel, by decide +kernel⟩
abbrev s_1008 : Stmt := topS 20  -- _law_size
abbrev N_1008 : List Str := ["_law_message_here", "_law_size_here", "_law_node", "_law_key", "_law_inner"]
theorem sc_1008 : FnScope N_1008 ["_law_message_here"] (defScope s_1008) := ⟨rfl, rfl, rfl, by decide +kernel, rfl, by decide +kernel, by decide +kernel⟩
abbrev s_1009 : Stmt := topS 21  -- law
abbrev N_1009 : List Str := ["_law_script", "_law_box", "_law_message_here", "_law_cut_here", "_law_kept", "_law_told", "_law_node", "_law_inner", "_law_key", "_law_one"]
theorem sc_1009 : FnScope N_1009 ["_law_script"] (defScope s_1009) := ⟨rfl, rfl, rfl, by decide +kernel, rfl, by decide +kernel, by decide +kernel⟩
/-! what each def computes -/
def B_1 (R : Rec) : List D → List D → Res D := bodyRun 1 (sRet (eOp dIdx (eV 0) (eUn dNeg (eC (.int 2)))))  -- cases_of
def B_2 (R : Rec) : List D → List D → Res D := bodyRun 1 (sRet (eOp dIdx (eV 0) (eUn dNeg (eC (.int 1)))))  -- other_of
def C_3_1 (R : Rec) : De := (eV 2)
theorem e_C_3_1 (R : Rec) (Γ : List Sl) (S : List D) : C_3_1 R Γ S = (eV 2) Γ S := rfl
def B_3 (R : Rec) : List D → List D → Res D := bodyRun 3 (sSeq (sIf (tB (eOp cNotIn (eOp dIdx (eV 0) (eC (.int 0))) (eC (.tup [.str "select", .str "plural"])))) (sRet (eLst aNil)) sNext) (sRet (eOp dAdd (eComp (iA (eCall (R 1) (aCons (eV 0) aNil))) (.tp [(.nm 1), (.nm 2)]) [1, 2] tTrue (C_3_1 R)) (eLst (aCons (eCall (R 2) (aCons (eV 0) aNil)) aNil)))))  -- inner_messages
def C_4_1 (R : Rec) : De := (eTup (aCons (eV 2) (aCons (eCall (R 5) (aCons (eV 3) aNil)) aNil)))
theorem e_C_4_1 (R : Rec) (Γ : List Sl) (S : List D) : C_4_1 R Γ S = (eTup (aCons (eV 2) (aCons (eCall (R 5) (aCons (eV 3) aNil)) aNil))) Γ S := rfl
def B_4 (R : Rec) : List D → List D → Res D := bodyRun 4 (sSeq (sIf (tB (eOp cNotIn (eOp dIdx (eV 0) (eC (.int 0))) (eC (.tup [.str "select", .str "plural"])))) (sRet (eV 0)) sNext) (sSeq (sSet 1 (eComp (iA (eCall (R 1) (aCons (eV 0) aNil))) (.tp [(.nm 2), (.nm 3)]) [2, 3] tTrue (C_4_1 R))) (sRet (eOp dAdd (eCut dCut (eV 0) pNo (pSo (eUn dNeg (eC (.int 2))))) (eTup (aCons (eV 1) (aCons (eCall (R 5) (aCons (eCall (R 2) (aCons (eV 0) aNil)) aNil)) aNil)))))))  -- plain_node
def L_5_1 (R : Rec) : Ds := (sIf (tAndD (tB (eOp cEq (eOp dIdx (eV 2) (eC (.int 0))) (eC (.str "text")))) (tAndD (tTru (oV 1)) (tB (eOp cEq (eOp dIdx (eOp dIdx (oV 1) (eUn dNeg (eC (.int 1)))) (eC (.int 0))) (eC (.str "text")))))) (sSetO 1 (eUn dNeg (eC (.int 1))) (eTup (aCons (eC (.str "text")) (aCons (eOp dAdd (eOp dIdx (eOp dIdx (oV 1) (eUn dNeg (eC (.int 1)))) (eC (.int 1))) (eOp dIdx (eV 2) (eC (.int 1)))) aNil)))) (sIf (tB (eOp cNe (eV 2) (eTup (aCons (eC (.str "text")) (aCons (eC (.str "")) aNil))))) (sAppO 1 (eCall (R 4) (aCons (eV 2) aNil))) sNext))
theorem e_L_5_1 (R : Rec) (Γ : List Sl) (S : List D) : L_5_1 R Γ S = (sIf (tAndD (tB (eOp cEq (eOp dIdx (eV 2) (eC (.int 0))) (eC (.str "text")))) (tAndD (tTru (oV 1)) (tB (eOp cEq (eOp dIdx (eOp dIdx (oV 1) (eUn dNeg (eC (.int 1)))) (eC (.int 0))) (eC (.str "text")))))) (sSetO 1 (eUn dNeg (eC (.int 1))) (eTup (aCons (eC (.str "text")) (aCons (eOp dAdd (eOp dIdx (eOp dIdx (oV 1) (eUn dNeg (eC (.int 1)))) (eC (.int 1))) (eOp dIdx (eV 2) (eC (.int 1)))) aNil)))) (sIf (tB (eOp cNe (eV 2) (eTup (aCons (eC (.str "text")) (aCons (eC (.str "")) aNil))))) (sAppO 1 (eCall (R 4) (aCons (eV 2) aNil))) sNext)) Γ S := rfl
def B_5 (R : Rec) : List D → List D → Res D := bodyRun 3 (sSeq (sOwn 1 (eLst aNil)) (sSeq (sFor (iA (eV 0)) (.nm 2) [2] (L_5_1 R)) (sRetO 1)))  -- plain
def C_9_1 (R : Rec) : De := (eCall (R 9) (aCons (eV 3) aNil))
theorem e_C_9_1 (R : Rec) (Γ : List Sl) (S : List D) : C_9_1 R Γ S = (eCall (R 9) (aCons (eV 3) aNil)) Γ S := rfl
def L_9_2 (R : Rec) : Ds := (sIf (tB (eOp cEq (eOp dIdx (eV 2) (eC (.int 0))) (eC (.str "text")))) (sAug 1 dAddI (eUn dLen (eOp dIdx (eV 2) (eC (.int 1))))) (sAug 1 dAddI (eOp dAdd (eC (.int 1)) (eUn dSum (eComp (iA (eCall (R 3) (aCons (eV 2) aNil))) (.nm 3) [3] tTrue (C_9_1 R))))))
theorem e_L_9_2 (R : Rec) (Γ : List Sl) (S : List D) : L_9_2 R Γ S = (sIf (tB (eOp cEq (eOp dIdx (eV 2) (eC (.int 0))) (eC (.str "text")))) (sAug 1 dAddI (eUn dLen (eOp dIdx (eV 2) (eC (.int 1))))) (sAug 1 dAddI (eOp dAdd (eC (.int 1)) (eUn dSum (eComp (iA (eCall (R 3) (aCons (eV 2) aNil))) (.nm 3) [3] tTrue (C_9_1 R)))))) Γ S := rfl
def B_9 (R : Rec) : List D → List D → Res D := bodyRun 4 (sSeq (sSet 1 (eC (.int 0))) (sSeq (sFor (iA (eV 0)) (.nm 2) [2] (L_9_2 R)) (sRet (eV 1))))  -- size_of
def B_1000 (R : Rec) : List D → List D → Res D := bodyRun 2 (sSeq (sIf (tB (eOp oLt (eV 1) (eUn dLen (eV 0)))) (sRet (eOp dIdx (eV 0) (eV 1))) sNext) (sRet (eC (.int 0))))  -- _law_cell
def L_1001_1 (R : Rec) : Ds := (sIf (tB (eOp oGt (eV 5) (eC (.int 0)))) (sSeq (sAppO 3 (eOp fMod (eUn dInt (eV 5)) (eC (.int 1000)))) (sSet 5 (eOp fDiv (eV 5) (eC (.int 1000))))) sNext)
theorem e_L_1001_1 (R : Rec) (Γ : List Sl) (S : List D) : L_1001_1 R Γ S = (sIf (tB (eOp oGt (eV 5) (eC (.int 0)))) (sSeq (sAppO 3 (eOp fMod (eUn dInt (eV 5)) (eC (.int 1000)))) (sSet 5 (eOp fDiv (eV 5) (eC (.int 1000))))) sNext) Γ S := rfl
def L_1001_2 (R : Rec) : Ds := (sSeq (sSet 7 (eOp fMod (eUn dInt (eOp dAdd (eOp dAdd (eOp dMul (eV 7) (eC (.int 16807))) (eOp dMul (eC (.int 7)) (eV 6))) (eC (.int 1)))) (eC (.int 2147483647)))) (sAppO 3 (eOp fMod (eUn dInt (eOp fDiv (eV 7) (eC (.int 997)))) (eC (.int 1000)))))
theorem e_L_1001_2 (R : Rec) (Γ : List Sl) (S : List D) : L_1001_2 R Γ S = (sSeq (sSet 7 (eOp fMod (eUn dInt (eOp dAdd (eOp dAdd (eOp dMul (eV 7) (eC (.int 16807))) (eOp dMul (eC (.int 7)) (eV 6))) (eC (.int 1)))) (eC (.int 2147483647)))) (sAppO 3 (eOp fMod (eUn dInt (eOp fDiv (eV 7) (eC (.int 997)))) (eC (.int 1000))))) Γ S := rfl
def L_1001_3 (R : Rec) : Ds := (sSeq (sSet 5 (eCall (R 1000) (aCons (eV 0) (aCons (eV 4) aNil)))) (sSeq (sIf (tB (eOp oLt (eV 5) (eC (.int 0)))) (sSet 5 (eOp fSub (eC (.int 1)) (eOp dMul (eC (.int 2)) (eV 5)))) sNext) (sIf (tB (eOp oGe (eV 5) (eOp fPow (eC (.int 10)) (eC (.int 18))))) (sFor (iR1 (eC (.int 60))) (.nm 6) [6] (L_1001_1 R)) (sSeq (sSet 7 (eOp fMod (eUn dInt (eOp dAdd (eOp dAdd (eOp dMul (eV 5) (eC (.int 48271))) (eOp dMul (eV 4) (eC (.int 69621)))) (eC (.int 11)))) (eC (.int 2147483647)))) (sSeq (sClr [6]) (sFor (iR1 (eC (.int 12))) (.nm 6) [6] (L_1001_2 R)))))))
theorem e_L_1001_3 (R : Rec) (Γ : List Sl) (S : List D) : L_1001_3 R Γ S = (sSeq (sSet 5 (eCall (R 1000) (aCons (eV 0) (aCons (eV 4) aNil)))) (sSeq (sIf (tB (eOp oLt (eV 5) (eC (.int 0)))) (sSet 5 (eOp fSub (eC (.int 1)) (eOp dMul (eC (.int 2)) (eV 5)))) sNext) (sIf (tB (eOp oGe (eV 5) (eOp fPow (eC (.int 10)) (eC (.int 18))))) (sFor (iR1 (eC (.int 60))) (.nm 6) [6] (L_1001_1 R)) (sSeq (sSet 7 (eOp fMod (eUn dInt (eOp dAdd (eOp dAdd (eOp dMul (eV 5) (eC (.int 48271))) (eOp dMul (eV 4) (eC (.int 69621)))) (eC (.int 11)))) (eC (.int 2147483647)))) (sSeq (sClr [6]) (sFor (iR1 (eC (.int 12))) (.nm 6) [6] (L_1001_2 R))))))) Γ S := rfl
def B_1001 (R : Rec) : List D → List D → Res D := bodyRun 8 (sSeq (sOwn 3 (eLst aNil)) (sSeq (sFor (iR2 (eV 1) (eV 2)) (.nm 4) [4, 5, 6, 7] (L_1001_3 R)) (sRetO 3)))  -- _law_digits
def B_1002 (R : Rec) : List D → List D → Res D := bodyRun 3 (sSeq (sSet 2 (eOp dIdx (eV 0) (eC (.int 1)))) (sSeq (sSetP (eV 0) (eC (.int 1)) (eOp dAdd (eV 2) (eC (.int 1)))) (sSeq (sIf (tB (eOp oLt (eV 2) (eUn dLen (eOp dIdx (eV 0) (eC (.int 0)))))) (sRet (eOp fMod (eUn dInt (eOp dIdx (eOp dIdx (eV 0) (eC (.int 0))) (eV 2))) (eV 1))) sNext) (sRet (eC (.int 0))))))  -- _law_draw
def B_1003 (R : Rec) : List D → List D → Res D := bodyRun 1 (sRet (eOp dIdx (eLst (aCons (eC (.str "a")) (aCons (eC (.str "b ")) (aCons (eC (.str " files")) (aCons (eC (.str "'")) (aCons (eC (.str "{x}")) (aCons (eC (.str "#")) (aCons (eC (.str "a'{'")) (aCons (eC (.str "1\n2")) (aCons (eC (.str "other {")) (aCons (eC (.str "~")) aNil))))))))))) (eCall (R 1002) (aCons (eV 0) (aCons (eC (.int 10)) aNil)))))  -- _law_string
def L_1004_1 (R : Rec) : Ds := (sIf (tB (eOp cEq (eCall (R 1002) (aCons (eV 0) (aCons (eC (.int 3)) aNil))) (eC (.int 0)))) (sAppO 3 (eTup (aCons (eV 4) (aCons (eCall (R 1006) (aCons (eV 0) (aCons (eOp fSub (eV 1) (eC (.int 1))) (aCons (eV 2) aNil)))) aNil)))) sNext)
theorem e_L_1004_1 (R : Rec) (Γ : List Sl) (S : List D) : L_1004_1 R Γ S = (sIf (tB (eOp cEq (eCall (R 1002) (aCons (eV 0) (aCons (eC (.int 3)) aNil))) (eC (.int 0)))) (sAppO 3 (eTup (aCons (eV 4) (aCons (eCall (R 1006) (aCons (eV 0) (aCons (eOp fSub (eV 1) (eC (.int 1))) (aCons (eV 2) aNil)))) aNil)))) sNext) Γ S := rfl
def B_1004 (R : Rec) : List D → List D → Res D := bodyRun 5 (sSeq (sOwn 3 (eLst aNil)) (sSeq (sFor (iA (eLst (aCons (eC (.str "a")) (aCons (eC (.str "one")) (aCons (eC (.str "select")) aNil))))) (.nm 4) [4] (L_1004_1 R)) (sSeq (sSettle 3) (sRet (eTup (aCons (eC (.str "select")) (aCons (eOp dIdx (eLst (aCons (eC (.str "w")) (aCons (eC (.str "kind")) aNil))) (eCall (R 1002) (aCons (eV 0) (aCons (eC (.int 2)) aNil)))) (aCons (eV 3) (aCons (eCall (R 1006) (aCons (eV 0) (aCons (eOp fSub (eV 1) (eC (.int 1))) (aCons (eV 2) aNil)))) aNil)))))))))  -- _law_select
def L_1005_1 (R : Rec) : Ds := (sIf (tB (eOp cEq (eCall (R 1002) (aCons (eV 0) (aCons (eC (.int 5)) aNil))) (eC (.int 0)))) (sAppO 2 (eTup (aCons (eV 3) (aCons (eCall (R 1006) (aCons (eV 0) (aCons (eOp fSub (eV 1) (eC (.int 1))) (aCons (eC (.bl true)) aNil)))) aNil)))) sNext)
theorem e_L_1005_1 (R : Rec) (Γ : List Sl) (S : List D) : L_1005_1 R Γ S = (sIf (tB (eOp cEq (eCall (R 1002) (aCons (eV 0) (aCons (eC (.int 5)) aNil))) (eC (.int 0)))) (sAppO 2 (eTup (aCons (eV 3) (aCons (eCall (R 1006) (aCons (eV 0) (aCons (eOp fSub (eV 1) (eC (.int 1))) (aCons (eC (.bl true)) aNil)))) aNil)))) sNext) Γ S := rfl
def B_1005 (R : Rec) : List D → List D → Res D := bodyRun 4 (sSeq (sOwn 2 (eLst aNil)) (sSeq (sFor (iA (eLst (aCons (eC (.int 0)) (aCons (eC (.int 1)) (aCons (eC (.int 2)) (aCons (eC (.int 12)) (aCons (eC (.str "zero")) (aCons (eC (.str "one")) (aCons (eC (.str "two")) (aCons (eC (.str "few")) (aCons (eC (.str "many")) aNil))))))))))) (.nm 3) [3] (L_1005_1 R)) (sSeq (sIf (tB (eOp cEq (eCall (R 1002) (aCons (eV 0) (aCons (eC (.int 3)) aNil))) (eC (.int 0)))) (sRevO 2) sNext) (sSeq (sSettle 2) (sRet (eTup (aCons (eC (.str "plural")) (aCons (eOp dIdx (eLst (aCons (eC (.str "n")) (aCons (eC (.str "count")) aNil))) (eCall (R 1002) (aCons (eV 0) (aCons (eC (.int 2)) aNil)))) (aCons (eOp dIdx (eLst (aCons (eC (.int 0)) (aCons (eC (.int 0)) (aCons (eC (.int 1)) (aCons (eC (.int 2)) aNil))))) (eCall (R 1002) (aCons (eV 0) (aCons (eC (.int 4)) aNil)))) (aCons (eV 2) (aCons (eCall (R 1006) (aCons (eV 0) (aCons (eOp fSub (eV 1) (eC (.int 1))) (aCons (eC (.bl true)) aNil)))) aNil)))))))))))  -- _law_plural
def L_1006_1 (R : Rec) : Ds := (sSeq (sSet 5 (eCall (R 1002) (aCons (eV 0) (aCons (eC (.int 8)) aNil)))) (sIf (tOrD (tB (eOp oLt (eV 5) (eC (.int 3)))) (tAndD (tB (eOp cEq (eV 1) (eC (.int 0)))) (tB (eOp oGt (eV 5) (eC (.int 4)))))) (sIf (tOrD (tB (eOp cEq (eUn dLen (oV 3)) (eC (.int 0)))) (tB (eOp cNe (eOp dIdx (eOp dIdx (oV 3) (eUn dNeg (eC (.int 1)))) (eC (.int 0))) (eC (.str "text"))))) (sAppO 3 (eTup (aCons (eC (.str "text")) (aCons (eCall (R 1003) (aCons (eV 0) aNil)) aNil)))) sNext) (sIf (tB (eOp cEq (eV 5) (eC (.int 3)))) (sAppO 3 (eTup (aCons (eC (.str "show")) (aCons (eOp dIdx (eLst (aCons (eC (.str "n")) (aCons (eC (.str "w")) (aCons (eC (.str "who")) (aCons (eC (.str "count")) aNil))))) (eCall (R 1002) (aCons (eV 0) (aCons (eC (.int 4)) aNil)))) aNil)))) (sIf (tB (eOp cEq (eV 5) (eC (.int 4)))) (sIf (tTru (eV 2)) (sAppO 3 (eTup (aCons (eC (.str "number")) aNil))) sNext) (sIf (tB (eOp oLt (eV 5) (eC (.int 7)))) (sAppO 3 (eCall (R 1005) (aCons (eV 0) (aCons (eV 1) aNil)))) (sAppO 3 (eCall (R 1004) (aCons (eV 0) (aCons (eV 1) (aCons (eV 2) aNil))))))))))
theorem e_L_1006_1 (R : Rec) (Γ : List Sl) (S : List D) : L_1006_1 R Γ S = (sSeq (sSet 5 (eCall (R 1002) (aCons (eV 0) (aCons (eC (.int 8)) aNil)))) (sIf (tOrD (tB (eOp oLt (eV 5) (eC (.int 3)))) (tAndD (tB (eOp cEq (eV 1) (eC (.int 0)))) (tB (eOp oGt (eV 5) (eC (.int 4)))))) (sIf (tOrD (tB (eOp cEq (eUn dLen (oV 3)) (eC (.int 0)))) (tB (eOp cNe (eOp dIdx (eOp dIdx (oV 3) (eUn dNeg (eC (.int 1)))) (eC (.int 0))) (eC (.str "text"))))) (sAppO 3 (eTup (aCons (eC (.str "text")) (aCons (eCall (R 1003) (aCons (eV 0) aNil)) aNil)))) sNext) (sIf (tB (eOp cEq (eV 5) (eC (.int 3)))) (sAppO 3 (eTup (aCons (eC (.str "show")) (aCons (eOp dIdx (eLst (aCons (eC (.str "n")) (aCons (eC (.str "w")) (aCons (eC (.str "who")) (aCons (eC (.str "count")) aNil))))) (eCall (R 1002) (aCons (eV 0) (aCons (eC (.int 4)) aNil)))) aNil)))) (sIf (tB (eOp cEq (eV 5) (eC (.int 4)))) (sIf (tTru (eV 2)) (sAppO 3 (eTup (aCons (eC (.str "number")) aNil))) sNext) (sIf (tB (eOp oLt (eV 5) (eC (.int 7)))) (sAppO 3 (eCall (R 1005) (aCons (eV 0) (aCons (eV 1) aNil)))) (sAppO 3 (eCall (R 1004) (aCons (eV 0) (aCons (eV 1) (aCons (eV 2) aNil)))))))))) Γ S := rfl
def B_1006 (R : Rec) : List D → List D → Res D := bodyRun 6 (sSeq (sOwn 3 (eLst aNil)) (sSeq (sFor (iR1 (eCall (R 1002) (aCons (eV 0) (aCons (eC (.int 4)) aNil)))) (.nm 4) [4, 5] (L_1006_1 R)) (sRetO 3)))  -- _law_message
def C_1007_1 (R : Rec) : De := (eTup (aCons (eV 6) (aCons (eCall (R 1007) (aCons (eV 0) (aCons (eV 7) aNil))) aNil)))
theorem e_C_1007_1 (R : Rec) (Γ : List Sl) (S : List D) : C_1007_1 R Γ S = (eTup (aCons (eV 6) (aCons (eCall (R 1007) (aCons (eV 0) (aCons (eV 7) aNil))) aNil))) Γ S := rfl
def L_1007_2 (R : Rec) : Ds := (sSeq (sIf (tB (eOp cEq (eOp dIdx (eV 3) (eC (.int 0))) (eC (.str "text")))) (sSeq (sSet 4 (eCall (R 1002) (aCons (eV 0) (aCons (eOp dAdd (eUn dLen (eOp dIdx (eV 3) (eC (.int 1)))) (eC (.int 1))) aNil)))) (sOwn 2 (eOp onL (oV 2) (eLst (aCons (eTup (aCons (eC (.str "text")) (aCons (eCut dCut (eOp dIdx (eV 3) (eC (.int 1))) pNo (pSo (eV 4))) aNil))) (aCons (eTup (aCons (eC (.str "text")) (aCons (eCut dCut (eOp dIdx (eV 3) (eC (.int 1))) (pSo (eV 4)) pNo) aNil))) aNil)))))) (sIf (tB (eOp cIn (eOp dIdx (eV 3) (eC (.int 0))) (eTup (aCons (eC (.str "select")) (aCons (eC (.str "plural")) aNil))))) (sSeq (sSet 5 (eComp (iA (eOp dIdx (eV 3) (eUn dNeg (eC (.int 2))))) (.tp [(.nm 6), (.nm 7)]) [6, 7] tTrue (C_1007_1 R))) (sAppO 2 (eOp dAdd (eCut dCut (eV 3) pNo (pSo (eUn dNeg (eC (.int 2))))) (eTup (aCons (eV 5) (aCons (eCall (R 1007) (aCons (eV 0) (aCons (eOp dIdx (eV 3) (eUn dNeg (eC (.int 1)))) aNil))) aNil)))))) (sAppO 2 (eV 3)))) (sIf (tB (eOp cEq (eCall (R 1002) (aCons (eV 0) (aCons (eC (.int 4)) aNil))) (eC (.int 0)))) (sAppO 2 (eTup (aCons (eC (.str "text")) (aCons (eC (.str "")) aNil)))) sNext))
theorem e_L_1007_2 (R : Rec) (Γ : List Sl) (S : List D) : L_1007_2 R Γ S = (sSeq (sIf (tB (eOp cEq (eOp dIdx (eV 3) (eC (.int 0))) (eC (.str "text")))) (sSeq (sSet 4 (eCall (R 1002) (aCons (eV 0) (aCons (eOp dAdd (eUn dLen (eOp dIdx (eV 3) (eC (.int 1)))) (eC (.int 1))) aNil)))) (sOwn 2 (eOp onL (oV 2) (eLst (aCons (eTup (aCons (eC (.str "text")) (aCons (eCut dCut (eOp dIdx (eV 3) (eC (.int 1))) pNo (pSo (eV 4))) aNil))) (aCons (eTup (aCons (eC (.str "text")) (aCons (eCut dCut (eOp dIdx (eV 3) (eC (.int 1))) (pSo (eV 4)) pNo) aNil))) aNil)))))) (sIf (tB (eOp cIn (eOp dIdx (eV 3) (eC (.int 0))) (eTup (aCons (eC (.str "select")) (aCons (eC (.str "plural")) aNil))))) (sSeq (sSet 5 (eComp (iA (eOp dIdx (eV 3) (eUn dNeg (eC (.int 2))))) (.tp [(.nm 6), (.nm 7)]) [6, 7] tTrue (C_1007_1 R))) (sAppO 2 (eOp dAdd (eCut dCut (eV 3) pNo (pSo (eUn dNeg (eC (.int 2))))) (eTup (aCons (eV 5) (aCons (eCall (R 1007) (aCons (eV 0) (aCons (eOp dIdx (eV 3) (eUn dNeg (eC (.int 1)))) aNil))) aNil)))))) (sAppO 2 (eV 3)))) (sIf (tB (eOp cEq (eCall (R 1002) (aCons (eV 0) (aCons (eC (.int 4)) aNil))) (eC (.int 0)))) (sAppO 2 (eTup (aCons (eC (.str "text")) (aCons (eC (.str "")) aNil)))) sNext)) Γ S := rfl
def B_1007 (R : Rec) : List D → List D → Res D := bodyRun 8 (sSeq (sOwn 2 (eLst aNil)) (sSeq (sFor (iA (eV 1)) (.nm 3) [3, 4, 5] (L_1007_2 R)) (sRetO 2)))  -- _law_cut
def L_1008_1 (R : Rec) : Ds := (sSet 1 (eOp dAdd (eV 1) (eCall (R 1008) (aCons (eV 4) aNil))))
theorem e_L_1008_1 (R : Rec) (Γ : List Sl) (S : List D) : L_1008_1 R Γ S = (sSet 1 (eOp dAdd (eV 1) (eCall (R 1008) (aCons (eV 4) aNil)))) Γ S := rfl
def L_1008_2 (R : Rec) : Ds := (sSeq (sIf (tB (eOp cEq (eOp dIdx (eV 2) (eC (.int 0))) (eC (.str "text")))) (sSet 1 (eOp dAdd (eV 1) (eUn dLen (eOp dIdx (eV 2) (eC (.int 1)))))) (sSet 1 (eOp dAdd (eV 1) (eC (.int 1))))) (sIf (tB (eOp cIn (eOp dIdx (eV 2) (eC (.int 0))) (eTup (aCons (eC (.str "select")) (aCons (eC (.str "plural")) aNil))))) (sSeq (sFor (iA (eOp dIdx (eV 2) (eUn dNeg (eC (.int 2))))) (.tp [(.nm 3), (.nm 4)]) [3, 4] (L_1008_1 R)) (sSet 1 (eOp dAdd (eV 1) (eCall (R 1008) (aCons (eOp dIdx (eV 2) (eUn dNeg (eC (.int 1)))) aNil))))) sNext))
theorem e_L_1008_2 (R : Rec) (Γ : List Sl) (S : List D) : L_1008_2 R Γ S = (sSeq (sIf (tB (eOp cEq (eOp dIdx (eV 2) (eC (.int 0))) (eC (.str "text")))) (sSet 1 (eOp dAdd (eV 1) (eUn dLen (eOp dIdx (eV 2) (eC (.int 1)))))) (sSet 1 (eOp dAdd (eV 1) (eC (.int 1))))) (sIf (tB (eOp cIn (eOp dIdx (eV 2) (eC (.int 0))) (eTup (aCons (eC (.str "select")) (aCons (eC (.str "plural")) aNil))))) (sSeq (sFor (iA (eOp dIdx (eV 2) (eUn dNeg (eC (.int 2))))) (.tp [(.nm 3), (.nm 4)]) [3, 4] (L_1008_1 R)) (sSet 1 (eOp dAdd (eV 1) (eCall (R 1008) (aCons (eOp dIdx (eV 2) (eUn dNeg (eC (.int 1)))) aNil))))) sNext)) Γ S := rfl
def B_1008 (R : Rec) : List D → List D → Res D := bodyRun 5 (sSeq (sSet 1 (eC (.int 0))) (sSeq (sFor (iA (eV 0)) (.nm 2) [2, 3, 4] (L_1008_2 R)) (sRet (eV 1))))  -- _law_size
def C_1009_1 (R : Rec) : De := (eV 9)
theorem e_C_1009_1 (R : Rec) (Γ : List Sl) (S : List D) : C_1009_1 R Γ S = (eV 9) Γ S := rfl
def L_1009_2 (R : Rec) : Ds := (sSeq (sSet 7 (eLst aNil)) (sSeq (sIf (tB (eOp cIn (eOp dIdx (eV 6) (eC (.int 0))) (eTup (aCons (eC (.str "select")) (aCons (eC (.str "plural")) aNil))))) (sSeq (sSet 7 (eOp dAdd (eComp (iA (eOp dIdx (eV 6) (eUn dNeg (eC (.int 2))))) (.tp [(.nm 8), (.nm 9)]) [8, 9] tTrue (C_1009_1 R)) (eLst (aCons (eOp dIdx (eV 6) (eUn dNeg (eC (.int 1)))) aNil)))) (sIf (tOrD (tB (eOp cNe (eCall (R 1) (aCons (eV 6) aNil)) (eOp dIdx (eV 6) (eUn dNeg (eC (.int 2)))))) (tB (eOp cNe (eCall (R 2) (aCons (eV 6) aNil)) (eOp dIdx (eV 6) (eUn dNeg (eC (.int 1))))))) (sRet (eC (.bl false))) sNext)) sNext) (sIf (tB (eOp cNe (eCall (R 3) (aCons (eV 6) aNil)) (eV 7))) (sRet (eC (.bl false))) sNext)))
theorem e_L_1009_2 (R : Rec) (Γ : List Sl) (S : List D) : L_1009_2 R Γ S = (sSeq (sSet 7 (eLst aNil)) (sSeq (sIf (tB (eOp cIn (eOp dIdx (eV 6) (eC (.int 0))) (eTup (aCons (eC (.str "select")) (aCons (eC (.str "plural")) aNil))))) (sSeq (sSet 7 (eOp dAdd (eComp (iA (eOp dIdx (eV 6) (eUn dNeg (eC (.int 2))))) (.tp [(.nm 8), (.nm 9)]) [8, 9] tTrue (C_1009_1 R)) (eLst (aCons (eOp dIdx (eV 6) (eUn dNeg (eC (.int 1)))) aNil)))) (sIf (tOrD (tB (eOp cNe (eCall (R 1) (aCons (eV 6) aNil)) (eOp dIdx (eV 6) (eUn dNeg (eC (.int 2)))))) (tB (eOp cNe (eCall (R 2) (aCons (eV 6) aNil)) (eOp dIdx (eV 6) (eUn dNeg (eC (.int 1))))))) (sRet (eC (.bl false))) sNext)) sNext) (sIf (tB (eOp cNe (eCall (R 3) (aCons (eV 6) aNil)) (eV 7))) (sRet (eC (.bl false))) sNext))) Γ S := rfl
def B_1009 (R : Rec) : List D → List D → Res D := bodyRun 10 (sSeq (sSet 1 (eBox (eLst (aCons (eCall (R 1001) (aCons (eV 0) (aCons (eC (.int 0)) (aCons (eC (.int 63)) aNil)))) (aCons (eC (.int 0)) aNil))))) (sSeq (sSet 2 (eCall (R 1006) (aCons (eV 1) (aCons (eC (.int 2)) (aCons (eC (.bl false)) aNil))))) (sSeq (sSet 3 (eCall (R 1007) (aCons (eV 1) (aCons (eV 2) aNil)))) (sSeq (sSet 4 (eUn dRepr (eV 3))) (sSeq (sSet 5 (eCall (R 5) (aCons (eV 3) aNil))) (sSeq (sIf (tOrD (tNotD (tTru (eUn (dIsi "list") (eV 5)))) (tOrD (tB (eOp cNe (eV 5) (eV 2))) (tOrD (tB (eOp cNe (eCall (R 5) (aCons (eV 2) aNil)) (eV 2))) (tB (eOp cNe (eUn dRepr (eV 3)) (eV 4)))))) (sRet (eC (.bl false))) sNext) (sSeq (sIf (tB (eOp cNe (eCall (R 9) (aCons (eV 2) aNil)) (eCall (R 1008) (aCons (eV 2) aNil)))) (sRet (eC (.bl false))) sNext) (sSeq (sFor (iA (eV 2)) (.nm 6) [6, 7] (L_1009_2 R)) (sRet (eC (.bl true)))))))))))  -- law
def tab (R : Rec) : Rec := fun i => match i with
  | 1 => B_1 R
  | 2 => B_2 R
  | 3 => B_3 R
  | 4 => B_4 R
  | 5 => B_5 R
  | 9 => B_9 R
  | 1000 => B_1000 R
  | 1001 => B_1001 R
  | 1002 => B_1002 R
  | 1003 => B_1003 R
  | 1004 => B_1004 R
  | 1005 => B_1005 R
  | 1006 => B_1006 R
  | 1007 => B_1007 R
  | 1008 => B_1008 R
  | 1009 => B_1009 R
  | _ => fun _ _ => .stuck
def run : Nat → Rec
  | 0 => fun _ _ _ => .stuck
  | n + 1 => tab (run n)
theorem run_1 (n : Nat) : run (n + 1) 1 = B_1 (run n) := rfl
theorem run_2 (n : Nat) : run (n + 1) 2 = B_2 (run n) := rfl
theorem run_3 (n : Nat) : run (n + 1) 3 = B_3 (run n) := rfl
theorem run_4 (n : Nat) : run (n + 1) 4 = B_4 (run n) := rfl
theorem run_5 (n : Nat) : run (n + 1) 5 = B_5 (run n) := rfl
theorem run_9 (n : Nat) : run (n + 1) 9 = B_9 (run n) := rfl
theorem run_1000 (n : Nat) : run (n + 1) 1000 = B_1000 (run n) := rfl
theorem run_1001 (n : Nat) : run (n + 1) 1001 = B_1001 (run n) := rfl
theorem run_1002 (n : Nat) : run (n + 1) 1002 = B_1002 (run n) := rfl
theorem run_1003 (n : Nat) : run (n + 1) 1003 = B_1003 (run n) := rfl
theorem run_1004 (n : Nat) : run (n + 1) 1004 = B_1004 (run n) := rfl
theorem run_1005 (n : Nat) : run (n + 1) 1005 = B_1005 (run n) := rfl
theorem run_1006 (n : Nat) : run (n + 1) 1006 = B_1006 (run n) := rfl
theorem run_1007 (n : Nat) : run (n + 1) 1007 = B_1007 (run n) := rfl
theorem run_1008 (n : Nat) : run (n + 1) 1008 = B_1008 (run n) := rfl
theorem run_1009 (n : Nat) : run (n + 1) 1009 = B_1009 (run n) := rfl
/-! the top -/
structure Top (K : PySem.W.Frag) (mg : Str → Option Value) (A : Nat → Addr) (FD : Nat → FuncData) : Prop where
  b_int : mg "int" = none
  b_isinstance : mg "isinstance" = none
  b_len : mg "len" = none
  b_list : mg "list" = none
  b_range : mg "range" = none
  b_repr : mg "repr" = none
  b_sum : mg "sum" = none
  c_TEXT : ∃ t : Tok, mg "TEXT" = some (.str "text" t)
  c_CHOICES : ∃ a us dd n sl, mg "CHOICES" = some (.ref a) ∧ K.lookup a = some ⟨.type "tuple", dd, .seq us.toArray n, sl⟩ ∧ StrsV ["select", "plural"] us ∧ us.length ≤ sizeLine
  f_1 : Fun K "cases_of" "cases_of" s_1 (A 1) (FD 1)
  g_1 : mg "cases_of" = some (.ref (A 1))
  n_1 : Binds K (FD 1) ["node"] []
  f_2 : Fun K "other_of" "other_of" s_2 (A 2) (FD 2)
  g_2 : mg "other_of" = some (.ref (A 2))
  n_2 : Binds K (FD 2) ["node"] []
  f_3 : Fun K "inner_messages" "inner_messages" s_3 (A 3) (FD 3)
  g_3 : mg "inner_messages" = some (.ref (A 3))
  n_3 : Binds K (FD 3) ["node"] []
  f_4 : Fun K "plain_node" "plain_node" s_4 (A 4) (FD 4)
  g_4 : mg "plain_node" = some (.ref (A 4))
  n_4 : Binds K (FD 4) ["node"] []
  f_5 : Fun K "plain" "plain" s_5 (A 5) (FD 5)
  g_5 : mg "plain" = some (.ref (A 5))
  n_5 : Binds K (FD 5) ["message"] []
  f_9 : Fun K "size_of" "size_of" s_9 (A 9) (FD 9)
  g_9 : mg "size_of" = some (.ref (A 9))
  n_9 : Binds K (FD 9) ["message"] []
  f_1000 : Fun K "_law_cell" "_law_cell" s_1000 (A 1000) (FD 1000)
  g_1000 : mg "_law_cell" = some (.ref (A 1000))
  n_1000 : Binds K (FD 1000) ["_law_script", "_law_k"] []
  f_1001 : Fun K "_law_digits" "_law_digits" s_1001 (A 1001) (FD 1001)
  g_1001 : mg "_law_digits" = some (.ref (A 1001))
  n_1001 : Binds K (FD 1001) ["_law_script", "_law_first", "_law_last"] []
  f_1002 : Fun K "_law_draw" "_law_draw" s_1002 (A 1002) (FD 1002)
  g_1002 : mg "_law_draw" = some (.ref (A 1002))
  n_1002 : Binds K (FD 1002) ["_law_box", "_law_many"] []
  f_1003 : Fun K "_law_string" "_law_string" s_1003 (A 1003) (FD 1003)
  g_1003 : mg "_law_string" = some (.ref (A 1003))
  n_1003 : Binds K (FD 1003) ["_law_box"] []
  f_1004 : Fun K "_law_select" "_law_select" s_1004 (A 1004) (FD 1004)
  g_1004 : mg "_law_select" = some (.ref (A 1004))
  n_1004 : Binds K (FD 1004) ["_law_box", "_law_depth", "_law_inside"] []
  f_1005 : Fun K "_law_plural" "_law_plural" s_1005 (A 1005) (FD 1005)
  g_1005 : mg "_law_plural" = some (.ref (A 1005))
  n_1005 : Binds K (FD 1005) ["_law_box", "_law_depth"] []
  f_1006 : Fun K "_law_message" "_law_message" s_1006 (A 1006) (FD 1006)
  g_1006 : mg "_law_message" = some (.ref (A 1006))
  n_1006 : Binds K (FD 1006) ["_law_box", "_law_depth", "_law_inside"] []
  f_1007 : Fun K "_law_cut" "_law_cut" s_1007 (A 1007) (FD 1007)
  g_1007 : mg "_law_cut" = some (.ref (A 1007))
  n_1007 : Binds K (FD 1007) ["_law_box", "_law_message_here"] []
  f_1008 : Fun K "_law_size" "_law_size" s_1008 (A 1008) (FD 1008)
  g_1008 : mg "_law_size" = some (.ref (A 1008))
  n_1008 : Binds K (FD 1008) ["_law_message_here"] []
  f_1009 : Fun K "law" "law" s_1009 (A 1009) (FD 1009)
  g_1009 : mg "law" = some (.ref (A 1009))
  n_1009 : Binds K (FD 1009) ["_law_script"] []
structure All (P : Program) (w : World) (K : PySem.W.Frag) (mg : Str → Option Value) (base : Heap) (cls : Nat → Addr) (A : Nat → Addr) (FD : Nat → FuncData) (n : Nat) (R : Rec) : Prop where
  k_1 : FnG P w K mg base n (A 1) (FD 1) ["node"] (spD ⟨K, cls⟩ 1 (R 1))
  k_2 : FnG P w K mg base n (A 2) (FD 2) ["node"] (spD ⟨K, cls⟩ 1 (R 2))
  k_3 : FnG P w K mg base n (A 3) (FD 3) ["node"] (spD ⟨K, cls⟩ 1 (R 3))
  k_4 : FnG P w K mg base n (A 4) (FD 4) ["node"] (spD ⟨K, cls⟩ 1 (R 4))
  k_5 : FnG P w K mg base n (A 5) (FD 5) ["message"] (spD ⟨K, cls⟩ 1 (R 5))
  k_9 : FnG P w K mg base n (A 9) (FD 9) ["message"] (spD ⟨K, cls⟩ 1 (R 9))
  k_1000 : FnG P w K mg base n (A 1000) (FD 1000) ["_law_script", "_law_k"] (spD ⟨K, cls⟩ 2 (R 1000))
  k_1001 : FnG P w K mg base n (A 1001) (FD 1001) ["_law_script", "_law_first", "_law_last"] (spD ⟨K, cls⟩ 3 (R 1001))
  k_1002 : FnG P w K mg base n (A 1002) (FD 1002) ["_law_box", "_law_many"] (spD ⟨K, cls⟩ 2 (R 1002))
  k_1003 : FnG P w K mg base n (A 1003) (FD 1003) ["_law_box"] (spD ⟨K, cls⟩ 1 (R 1003))
  k_1004 : FnG P w K mg base n (A 1004) (FD 1004) ["_law_box", "_law_depth", "_law_inside"] (spD ⟨K, cls⟩ 3 (R 1004))
  k_1005 : FnG P w K mg base n (A 1005) (FD 1005) ["_law_box", "_law_depth"] (spD ⟨K, cls⟩ 2 (R 1005))
  k_1006 : FnG P w K mg base n (A 1006) (FD 1006) ["_law_box", "_law_depth", "_law_inside"] (spD ⟨K, cls⟩ 3 (R 1006))
  k_1007 : FnG P w K mg base n (A 1007) (FD 1007) ["_law_box", "_law_message_here"] (spD ⟨K, cls⟩ 2 (R 1007))
  k_1008 : FnG P w K mg base n (A 1008) (FD 1008) ["_law_message_here"] (spD ⟨K, cls⟩ 1 (R 1008))
  k_1009 : FnG P w K mg base n (A 1009) (FD 1009) ["_law_script"] (spD ⟨K, cls⟩ 1 (R 1009))
section
variable {P : Program} {w : World} {K : PySem.W.Frag} {mg : Str → Option Value} {base : Heap} {cls : Nat → Addr} {A : Nat → Addr} {FD : Nat → FuncData} {n : Nat} {R : Rec}
/-- cases_of -/
theorem W_1 (T : Top K mg A FD) (a : All P w K mg base cls A FD n R) : FnG P w K mg base (n + 1) (A 1) (FD 1) ["node"] (spD ⟨K, cls⟩ 1 (B_1 R)) :=
  defG_ok T.f_1 sc_1 fun cdv A' outer s H E hr => by
    have tk := takes_of (X := cxOf (L2.CX P w) P w K mg base N_1 "cases_of" (defScope s_1) (A 1) cdv A' outer s H E) rfl rfl rfl rfl
    exact (dss_one (ds_ret (de_sub_ (de_o (de_v 0)) (de_o (de_neg (de_o de_int))))))
/-- other_of -/
theorem W_2 (T : Top K mg A FD) (a : All P w K mg base cls A FD n R) : FnG P w K mg base (n + 1) (A 2) (FD 2) ["node"] (spD ⟨K, cls⟩ 1 (B_2 R)) :=
  defG_ok T.f_2 sc_2 fun cdv A' outer s H E hr => by
    have tk := takes_of (X := cxOf (L2.CX P w) P w K mg base N_2 "other_of" (defScope s_2) (A 2) cdv A' outer s H E) rfl rfl rfl rfl
    exact (dss_one (ds_ret (de_sub_ (de_o (de_v 0)) (de_o (de_neg (de_o de_int))))))
/-- inner_messages -/
theorem W_3 (T : Top K mg A FD) (a : All P w K mg base cls A FD n R) : FnG P w K mg base (n + 1) (A 3) (FD 3) ["node"] (spD ⟨K, cls⟩ 1 (B_3 R)) :=
  defG_ok T.f_3 sc_3 fun cdv A' outer s H E hr => by
    have tk := takes_of (X := cxOf (L2.CX P w) P w K mg base N_3 "inner_messages" (defScope s_3) (A 3) cdv A' outer s H E) rfl rfl rfl rfl
    exact (dss_cons (ds_if (dt_notIn (de_o (de_sub_ (de_o (de_v 0)) (de_o de_int))) (de_o (de_gtup (zs := ["select", "plural"]) T.c_CHOICES)) rfl) (dss_one (ds_ret (df_e (df_lst da_nil ((ALen.nil).line (by decide)))))) dss_nil) (dss_one (ds_ret (de_add (df_o (df_comp (own := [("key", 1), ("message", 2)]) (p := (.tp [(.nm 1), (.nm 2)])) (ι := (iA (eCall (R 1) (aCons (eV 0) aNil)))) (τ := tTrue) (ε := C_3_1 R) rfl sc_3.nd (di_a (de_callG a.k_1 tk hr rfl T.g_1 T.f_1.kp T.n_1 (da_cons (de_v 0) da_nil) (ALen.cons ALen.nil))) (blkOk_by (N := N_3) (sc := defScope s_3) (own := [("key", 1), ("message", 2)]) (by decide +kernel)) (by decide) (fun _ _ _ _ _ => (pg_tup rfl (pgs_cons (pg_name (i := 1) sc_3.nd rfl (by first | exact Or.inl rfl | exact Or.inr rfl)) (pgs_cons (pg_name (i := 2) sc_3.nd rfl (by first | exact Or.inl rfl | exact Or.inr rfl)) pgs_nil)))) (fun _ _ _ _ _ => dts_nil) (fun _ _ _ _ _ => (de_v 2)))) (df_o (df_lst (da_cons (de_callG a.k_2 tk hr rfl T.g_2 T.f_2.kp T.n_2 (da_cons (de_v 0) da_nil) (ALen.cons ALen.nil)) da_nil) ((ALen.cons ALen.nil).line (by decide))))))))
/-- plain_node -/
theorem W_4 (T : Top K mg A FD) (a : All P w K mg base cls A FD n R) : FnG P w K mg base (n + 1) (A 4) (FD 4) ["node"] (spD ⟨K, cls⟩ 1 (B_4 R)) :=
  defG_ok T.f_4 sc_4 fun cdv A' outer s H E hr => by
    have tk := takes_of (X := cxOf (L2.CX P w) P w K mg base N_4 "plain_node" (defScope s_4) (A 4) cdv A' outer s H E) rfl rfl rfl rfl
    exact (dss_cons (ds_if (dt_notIn (de_o (de_sub_ (de_o (de_v 0)) (de_o de_int))) (de_o (de_gtup (zs := ["select", "plural"]) T.c_CHOICES)) rfl) (dss_one (ds_ret (de_v 0))) dss_nil) (dss_cons (ds_setC (ps_comp (i := 1) (own := [("key", 2), ("message", 3)]) (p := (.tp [(.nm 2), (.nm 3)])) (ι := (iA (eCall (R 1) (aCons (eV 0) aNil)))) (τ := tTrue) (ε := C_4_1 R) rfl sc_4.nd rfl rfl (sw_true rfl rfl rfl (by decide +kernel)) (di_a (de_callG a.k_1 tk hr rfl T.g_1 T.f_1.kp T.n_1 (da_cons (de_v 0) da_nil) (ALen.cons ALen.nil))) (blkOk_by (N := N_4) (sc := defScope s_4) (own := [("key", 2), ("message", 3)]) (by decide +kernel)) (by decide) (fun _ _ _ _ _ => (pg_tup rfl (pgs_cons (pg_name (i := 2) sc_4.nd rfl (by first | exact Or.inl rfl | exact Or.inr rfl)) (pgs_cons (pg_name (i := 3) sc_4.nd rfl (by first | exact Or.inl rfl | exact Or.inr rfl)) pgs_nil)))) (fun _ _ _ _ _ => dts_nil) (fun _ _ _ _ _ => (de_tup (da_cons (de_v 2) (da_cons (de_callG a.k_5 takes0 hr rfl T.g_5 T.f_5.kp T.n_5 (da_cons (de_v 3) da_nil) (ALen.cons ALen.nil)) da_nil)) ((ALen.cons (ALen.cons ALen.nil)).line (by decide)))))) (dss_one (ds_ret (de_add (de_o (de_cut (de_o (de_v 0)) dp_no (dp_so (de_neg (de_o de_int))))) (de_o (de_tup (da_cons (de_v 1) (da_cons (de_callG a.k_5 tk hr rfl T.g_5 T.f_5.kp T.n_5 (da_cons (de_callG a.k_2 tk hr rfl T.g_2 T.f_2.kp T.n_2 (da_cons (de_v 0) da_nil) (ALen.cons ALen.nil)) da_nil) (ALen.cons ALen.nil)) da_nil)) ((ALen.cons (ALen.cons ALen.nil)).line (by decide)))))))))
/-- plain -/
theorem W_5 (T : Top K mg A FD) (a : All P w K mg base cls A FD n R) : FnG P w K mg base (n + 1) (A 5) (FD 5) ["message"] (spD ⟨K, cls⟩ 1 (B_5 R)) :=
  defG_ok T.f_5 sc_5 fun cdv A' outer s H E hr => by
    have tk := takes_of (X := cxOf (L2.CX P w) P w K mg base N_5 "plain" (defScope s_5) (A 5) cdv A' outer s H E) rfl rfl rfl rfl
    exact (dss_cons (ds_own (i := 1) sc_5.nd rfl (by first | exact Or.inl rfl | exact Or.inr rfl) (df_lst da_nil ((ALen.nil).line (by decide)))) (dss_cons (ds_for (passes_of rfl) rfl (di_a (de_v 0)) (pg_name (i := 2) sc_5.nd rfl (by first | exact Or.inl rfl | exact Or.inr rfl)) (dss_one (ds_if (dw_t (dw_and (dt_eq hr.units (de_o (de_sub_ (de_o (de_v 2)) (de_o de_int))) (de_o (de_gstr T.c_TEXT))) (dw_and (dt_tru (do_v 1)) (dw_and1 (dt_eq hr.units (de_o (de_sub_ (de_o (de_sub_ (do_v 1) (de_o (de_neg (de_o de_int))))) (de_o de_int))) (de_o (de_gstr T.c_TEXT))))))) (dss_one (ds_setO 1 (pg_sub (pv 1) (de_neg (de_o de_int)) set_list) (de_tup (da_cons (de_gstr T.c_TEXT) (da_cons (de_add (de_o (de_sub_ (de_o (de_sub_ (do_v 1) (de_o (de_neg (de_o de_int))))) (de_o de_int))) (de_o (de_sub_ (de_o (de_v 2)) (de_o de_int)))) da_nil)) ((ALen.cons (ALen.cons ALen.nil)).line (by decide))))) (dss_one (ds_if (dt_ne hr.units (de_o (de_v 2)) (de_o (de_tup (da_cons (de_gstr T.c_TEXT) (da_cons de_str da_nil)) ((ALen.cons (ALen.cons ALen.nil)).line (by decide))))) (dss_one (ds_appO 1 (pe_bm PySem.F.plainAttrs_list PySem.F.slot_list_append PySem.F.type_list_append mt_append (pv 1) (pa_cons (de_callG a.k_4 tk hr rfl T.g_4 T.f_4.kp T.n_4 (da_cons (de_v 2) da_nil) (ALen.cons ALen.nil)) pa_nil)))) dss_nil))))) (dss_one (ds_retO 1))))
/-- size_of -/
theorem W_9 (T : Top K mg A FD) (a : All P w K mg base cls A FD n R) : FnG P w K mg base (n + 1) (A 9) (FD 9) ["message"] (spD ⟨K, cls⟩ 1 (B_9 R)) :=
  defG_ok T.f_9 sc_9 fun cdv A' outer s H E hr => by
    have tk := takes_of (X := cxOf (L2.CX P w) P w K mg base N_9 "size_of" (defScope s_9) (A 9) cdv A' outer s H E) rfl rfl rfl rfl
    exact (dss_cons (ds_set (i := 1) sc_9.nd rfl (by first | exact Or.inl rfl | exact Or.inr rfl) de_int) (dss_cons (ds_for (passes_of rfl) rfl (di_a (de_v 0)) (pg_name (i := 2) sc_9.nd rfl (by first | exact Or.inl rfl | exact Or.inr rfl)) (dss_one (ds_if (dt_eq hr.units (de_o (de_sub_ (de_o (de_v 2)) (de_o de_int))) (de_o (de_gstr T.c_TEXT))) (dss_one (ds_aug (i := 1) sc_9.nd rfl (by first | exact Or.inl rfl | exact Or.inr rfl) (de_len rfl T.b_len (de_o (de_sub_ (de_o (de_v 2)) (de_o de_int)))) iop_addA ok_addI)) (dss_one (ds_aug (i := 1) sc_9.nd rfl (by first | exact Or.inl rfl | exact Or.inr rfl) (de_add (de_o de_int) (de_o (de_sum rfl T.b_sum rfl (df_o (df_comp (own := [("inner", 3)]) (p := (.nm 3)) (ι := (iA (eCall (R 3) (aCons (eV 2) aNil)))) (τ := tTrue) (ε := C_9_1 R) rfl sc_9.nd (di_a (de_callG a.k_3 tk hr rfl T.g_3 T.f_3.kp T.n_3 (da_cons (de_v 2) da_nil) (ALen.cons ALen.nil))) (blkOk_by (N := N_9) (sc := defScope s_9) (own := [("inner", 3)]) (by decide +kernel)) (by decide) (fun _ _ _ _ _ => (pg_name (i := 3) sc_9.nd rfl (by first | exact Or.inl rfl | exact Or.inr rfl))) (fun _ _ _ _ _ => dts_nil) (fun _ _ _ _ _ => (de_callG a.k_9 takes0 hr rfl T.g_9 T.f_9.kp T.n_9 (da_cons (de_v 3) da_nil) (ALen.cons ALen.nil)))))))) iop_addA ok_addI))))) (dss_one (ds_ret (de_v 1)))))
/-- _law_cell -/
theorem W_1000 (T : Top K mg A FD) (a : All P w K mg base cls A FD n R) : FnG P w K mg base (n + 1) (A 1000) (FD 1000) ["_law_script", "_law_k"] (spD ⟨K, cls⟩ 2 (B_1000 R)) :=
  defG_ok T.f_1000 sc_1000 fun cdv A' outer s H E hr => by
    have tk := takes_of (X := cxOf (L2.CX P w) P w K mg base N_1000 "_law_cell" (defScope s_1000) (A 1000) cdv A' outer s H E) rfl rfl rfl rfl
    exact (dss_cons (ds_if (dt_lt (de_o (de_v 1)) (de_o (de_len rfl T.b_len (de_o (de_v 0))))) (dss_one (ds_ret (de_sub_ (de_o (de_v 0)) (de_o (de_v 1))))) dss_nil) (dss_one (ds_ret de_int)))
/-- _law_digits -/
theorem W_1001 (T : Top K mg A FD) (a : All P w K mg base cls A FD n R) : FnG P w K mg base (n + 1) (A 1001) (FD 1001) ["_law_script", "_law_first", "_law_last"] (spD ⟨K, cls⟩ 3 (B_1001 R)) :=
  defG_ok T.f_1001 sc_1001 fun cdv A' outer s H E hr => by
    have tk := takes_of (X := cxOf (L2.CX P w) P w K mg base N_1001 "_law_digits" (defScope s_1001) (A 1001) cdv A' outer s H E) rfl rfl rfl rfl
    exact (dss_cons (ds_own (i := 3) sc_1001.nd rfl (by first | exact Or.inl rfl | exact Or.inr rfl) (df_lst da_nil ((ALen.nil).line (by decide)))) (dss_cons (ds_for (passes_of rfl) rfl (di_r2 rfl T.b_range (de_v 1) (de_v 2)) (pg_name (i := 4) sc_1001.nd rfl (by first | exact Or.inl rfl | exact Or.inr rfl)) (dss_cons (ds_set (i := 5) sc_1001.nd rfl (by first | exact Or.inl rfl | exact Or.inr rfl) (de_callG a.k_1000 tk hr rfl T.g_1000 T.f_1000.kp T.n_1000 (da_cons (de_v 0) (da_cons (de_v 4) da_nil)) (ALen.cons (ALen.cons ALen.nil)))) (dss_cons (ds_if (dt_lt (de_o (de_v 5)) (de_o de_int)) (dss_one (ds_set (i := 5) sc_1001.nd rfl (by first | exact Or.inl rfl | exact Or.inr rfl) (de_sub (de_o de_int) (de_o (de_mul (de_o de_int) (de_o (de_v 5))))))) dss_nil) (dss_one (ds_if (dt_ge (de_o (de_v 5)) (de_o (de_pow (de_o de_int) (de_o de_int)))) (dss_one (ds_for (passes_of rfl) rfl (di_r1 rfl T.b_range de_int) (pg_name (i := 6) sc_1001.nd rfl (by first | exact Or.inl rfl | exact Or.inr rfl)) (dss_one (ds_if (dt_gt (de_o (de_v 5)) (de_o de_int)) (dss_cons (ds_appO 3 (pe_bm PySem.F.plainAttrs_list PySem.F.slot_list_append PySem.F.type_list_append mt_append (pv 3) (pa_cons (de_mod (de_o (de_intc rfl T.b_int (de_o (de_v 5)))) (de_o de_int)) pa_nil))) (dss_one (ds_set (i := 5) sc_1001.nd rfl (by first | exact Or.inl rfl | exact Or.inr rfl) (de_div (de_o (de_v 5)) (de_o de_int))))) dss_nil)))) (dss_cons (ds_set (i := 7) sc_1001.nd rfl (by first | exact Or.inl rfl | exact Or.inr rfl) (de_mod (de_o (de_intc rfl T.b_int (de_o (de_add (de_o (de_add (de_o (de_mul (de_o (de_v 5)) (de_o de_int))) (de_o (de_mul (de_o (de_v 4)) (de_o de_int))))) (de_o de_int))))) (de_o de_int))) (dss_clr [6] (dss_one (ds_for (passes_of rfl) rfl (di_r1 rfl T.b_range de_int) (pg_name (i := 6) sc_1001.nd rfl (by first | exact Or.inl rfl | exact Or.inr rfl)) (dss_cons (ds_set (i := 7) sc_1001.nd rfl (by first | exact Or.inl rfl | exact Or.inr rfl) (de_mod (de_o (de_intc rfl T.b_int (de_o (de_add (de_o (de_add (de_o (de_mul (de_o (de_v 7)) (de_o de_int))) (de_o (de_mul (de_o de_int) (de_o (de_v 6)))))) (de_o de_int))))) (de_o de_int))) (dss_one (ds_appO 3 (pe_bm PySem.F.plainAttrs_list PySem.F.slot_list_append PySem.F.type_list_append mt_append (pv 3) (pa_cons (de_mod (de_o (de_intc rfl T.b_int (de_o (de_div (de_o (de_v 7)) (de_o de_int))))) (de_o de_int)) pa_nil)))))))))))))) (dss_one (ds_retO 3))))
/-- _law_draw -/
theorem W_1002 (T : Top K mg A FD) (a : All P w K mg base cls A FD n R) : FnG P w K mg base (n + 1) (A 1002) (FD 1002) ["_law_box", "_law_many"] (spD ⟨K, cls⟩ 2 (B_1002 R)) :=
  defG_ok T.f_1002 sc_1002 fun cdv A' outer s H E hr => by
    have tk := takes_of (X := cxOf (L2.CX P w) P w K mg base N_1002 "_law_draw" (defScope s_1002) (A 1002) cdv A' outer s H E) rfl rfl rfl rfl
    exact (dss_cons (ds_set (i := 2) sc_1002.nd rfl (by first | exact Or.inl rfl | exact Or.inr rfl) (de_sub_ (de_o (de_v 0)) (de_o de_int))) (dss_cons (ds_setP (pg_sub (de_v 0) de_int set_list) (de_add (de_o (de_v 2)) (de_o de_int))) (dss_cons (ds_if (dt_lt (de_o (de_v 2)) (de_o (de_len rfl T.b_len (de_o (de_sub_ (de_o (de_v 0)) (de_o de_int)))))) (dss_one (ds_ret (de_mod (de_o (de_intc rfl T.b_int (de_o (de_sub_ (de_o (de_sub_ (de_o (de_v 0)) (de_o de_int))) (de_o (de_v 2)))))) (de_o (de_v 1))))) dss_nil) (dss_one (ds_ret de_int)))))
/-- _law_string -/
theorem W_1003 (T : Top K mg A FD) (a : All P w K mg base cls A FD n R) : FnG P w K mg base (n + 1) (A 1003) (FD 1003) ["_law_box"] (spD ⟨K, cls⟩ 1 (B_1003 R)) :=
  defG_ok T.f_1003 sc_1003 fun cdv A' outer s H E hr => by
    have tk := takes_of (X := cxOf (L2.CX P w) P w K mg base N_1003 "_law_string" (defScope s_1003) (A 1003) cdv A' outer s H E) rfl rfl rfl rfl
    exact (dss_one (ds_ret (de_sub_ (df_o (df_lst (da_cons de_str (da_cons de_str (da_cons de_str (da_cons de_str (da_cons de_str (da_cons de_str (da_cons de_str (da_cons de_str (da_cons de_str (da_cons de_str da_nil)))))))))) ((ALen.cons (ALen.cons (ALen.cons (ALen.cons (ALen.cons (ALen.cons (ALen.cons (ALen.cons (ALen.cons (ALen.cons ALen.nil)))))))))).line (by decide)))) (de_o (de_callG a.k_1002 tk hr rfl T.g_1002 T.f_1002.kp T.n_1002 (da_cons (de_v 0) (da_cons de_int da_nil)) (ALen.cons (ALen.cons ALen.nil)))))))
/-- _law_select -/
theorem W_1004 (T : Top K mg A FD) (a : All P w K mg base cls A FD n R) : FnG P w K mg base (n + 1) (A 1004) (FD 1004) ["_law_box", "_law_depth", "_law_inside"] (spD ⟨K, cls⟩ 3 (B_1004 R)) :=
  defG_ok T.f_1004 sc_1004 fun cdv A' outer s H E hr => by
    have tk := takes_of (X := cxOf (L2.CX P w) P w K mg base N_1004 "_law_select" (defScope s_1004) (A 1004) cdv A' outer s H E) rfl rfl rfl rfl
    exact (dss_cons (ds_own (i := 3) sc_1004.nd rfl (by first | exact Or.inl rfl | exact Or.inr rfl) (df_lst da_nil ((ALen.nil).line (by decide)))) (dss_cons (ds_for (passes_of rfl) rfl (di_a (df_e (df_lst (da_cons de_str (da_cons de_str (da_cons de_str da_nil))) ((ALen.cons (ALen.cons (ALen.cons ALen.nil))).line (by decide))))) (pg_name (i := 4) sc_1004.nd rfl (by first | exact Or.inl rfl | exact Or.inr rfl)) (dss_one (ds_if (dt_eq hr.units (de_o (de_callG a.k_1002 tk hr rfl T.g_1002 T.f_1002.kp T.n_1002 (da_cons (de_v 0) (da_cons de_int da_nil)) (ALen.cons (ALen.cons ALen.nil)))) (de_o de_int)) (dss_one (ds_appO 3 (pe_bm PySem.F.plainAttrs_list PySem.F.slot_list_append PySem.F.type_list_append mt_append (pv 3) (pa_cons (de_tup (da_cons (de_v 4) (da_cons (de_callG a.k_1006 tk hr rfl T.g_1006 T.f_1006.kp T.n_1006 (da_cons (de_v 0) (da_cons (de_sub (de_o (de_v 1)) (de_o de_int)) (da_cons (de_v 2) da_nil))) (ALen.cons (ALen.cons (ALen.cons ALen.nil)))) da_nil)) ((ALen.cons (ALen.cons ALen.nil)).line (by decide))) pa_nil)))) dss_nil))) (dss_settle 3 (dss_one (ds_ret (de_tup (da_cons de_str (da_cons (de_sub_ (df_o (df_lst (da_cons de_str (da_cons de_str da_nil)) ((ALen.cons (ALen.cons ALen.nil)).line (by decide)))) (de_o (de_callG a.k_1002 tk hr rfl T.g_1002 T.f_1002.kp T.n_1002 (da_cons (de_v 0) (da_cons de_int da_nil)) (ALen.cons (ALen.cons ALen.nil))))) (da_cons (de_v 3) (da_cons (de_callG a.k_1006 tk hr rfl T.g_1006 T.f_1006.kp T.n_1006 (da_cons (de_v 0) (da_cons (de_sub (de_o (de_v 1)) (de_o de_int)) (da_cons (de_v 2) da_nil))) (ALen.cons (ALen.cons (ALen.cons ALen.nil)))) da_nil)))) ((ALen.cons (ALen.cons (ALen.cons (ALen.cons ALen.nil)))).line (by decide))))))))
/-- _law_plural -/
theorem W_1005 (T : Top K mg A FD) (a : All P w K mg base cls A FD n R) : FnG P w K mg base (n + 1) (A 1005) (FD 1005) ["_law_box", "_law_depth"] (spD ⟨K, cls⟩ 2 (B_1005 R)) :=
  defG_ok T.f_1005 sc_1005 fun cdv A' outer s H E hr => by
    have tk := takes_of (X := cxOf (L2.CX P w) P w K mg base N_1005 "_law_plural" (defScope s_1005) (A 1005) cdv A' outer s H E) rfl rfl rfl rfl
    exact (dss_cons (ds_own (i := 2) sc_1005.nd rfl (by first | exact Or.inl rfl | exact Or.inr rfl) (df_lst da_nil ((ALen.nil).line (by decide)))) (dss_cons (ds_for (passes_of rfl) rfl (di_a (df_e (df_lst (da_cons de_int (da_cons de_int (da_cons de_int (da_cons de_int (da_cons de_str (da_cons de_str (da_cons de_str (da_cons de_str (da_cons de_str da_nil))))))))) ((ALen.cons (ALen.cons (ALen.cons (ALen.cons (ALen.cons (ALen.cons (ALen.cons (ALen.cons (ALen.cons ALen.nil))))))))).line (by decide))))) (pg_name (i := 3) sc_1005.nd rfl (by first | exact Or.inl rfl | exact Or.inr rfl)) (dss_one (ds_if (dt_eq hr.units (de_o (de_callG a.k_1002 tk hr rfl T.g_1002 T.f_1002.kp T.n_1002 (da_cons (de_v 0) (da_cons de_int da_nil)) (ALen.cons (ALen.cons ALen.nil)))) (de_o de_int)) (dss_one (ds_appO 2 (pe_bm PySem.F.plainAttrs_list PySem.F.slot_list_append PySem.F.type_list_append mt_append (pv 2) (pa_cons (de_tup (da_cons (de_v 3) (da_cons (de_callG a.k_1006 tk hr rfl T.g_1006 T.f_1006.kp T.n_1006 (da_cons (de_v 0) (da_cons (de_sub (de_o (de_v 1)) (de_o de_int)) (da_cons de_bl da_nil))) (ALen.cons (ALen.cons (ALen.cons ALen.nil)))) da_nil)) ((ALen.cons (ALen.cons ALen.nil)).line (by decide))) pa_nil)))) dss_nil))) (dss_cons (ds_if (dt_eq hr.units (de_o (de_callG a.k_1002 tk hr rfl T.g_1002 T.f_1002.kp T.n_1002 (da_cons (de_v 0) (da_cons de_int da_nil)) (ALen.cons (ALen.cons ALen.nil)))) (de_o de_int)) (dss_one (ds_revO 2 (pe_bm0 PySem.F.plainAttrs_list PySem.F.slot_list_reverse PySem.F.type_list_reverse mt_reverse (pv 2)))) dss_nil) (dss_settle 2 (dss_one (ds_ret (de_tup (da_cons de_str (da_cons (de_sub_ (df_o (df_lst (da_cons de_str (da_cons de_str da_nil)) ((ALen.cons (ALen.cons ALen.nil)).line (by decide)))) (de_o (de_callG a.k_1002 tk hr rfl T.g_1002 T.f_1002.kp T.n_1002 (da_cons (de_v 0) (da_cons de_int da_nil)) (ALen.cons (ALen.cons ALen.nil))))) (da_cons (de_sub_ (df_o (df_lst (da_cons de_int (da_cons de_int (da_cons de_int (da_cons de_int da_nil)))) ((ALen.cons (ALen.cons (ALen.cons (ALen.cons ALen.nil)))).line (by decide)))) (de_o (de_callG a.k_1002 tk hr rfl T.g_1002 T.f_1002.kp T.n_1002 (da_cons (de_v 0) (da_cons de_int da_nil)) (ALen.cons (ALen.cons ALen.nil))))) (da_cons (de_v 2) (da_cons (de_callG a.k_1006 tk hr rfl T.g_1006 T.f_1006.kp T.n_1006 (da_cons (de_v 0) (da_cons (de_sub (de_o (de_v 1)) (de_o de_int)) (da_cons de_bl da_nil))) (ALen.cons (ALen.cons (ALen.cons ALen.nil)))) da_nil))))) ((ALen.cons (ALen.cons (ALen.cons (ALen.cons (ALen.cons ALen.nil))))).line (by decide)))))))))
/-- _law_message -/
theorem W_1006 (T : Top K mg A FD) (a : All P w K mg base cls A FD n R) : FnG P w K mg base (n + 1) (A 1006) (FD 1006) ["_law_box", "_law_depth", "_law_inside"] (spD ⟨K, cls⟩ 3 (B_1006 R)) :=
  defG_ok T.f_1006 sc_1006 fun cdv A' outer s H E hr => by
    have tk := takes_of (X := cxOf (L2.CX P w) P w K mg base N_1006 "_law_message" (defScope s_1006) (A 1006) cdv A' outer s H E) rfl rfl rfl rfl
    exact (dss_cons (ds_own (i := 3) sc_1006.nd rfl (by first | exact Or.inl rfl | exact Or.inr rfl) (df_lst da_nil ((ALen.nil).line (by decide)))) (dss_cons (ds_for (passes_of rfl) rfl (di_r1 rfl T.b_range (de_callG a.k_1002 tk hr rfl T.g_1002 T.f_1002.kp T.n_1002 (da_cons (de_v 0) (da_cons de_int da_nil)) (ALen.cons (ALen.cons ALen.nil)))) (pg_name (i := 4) sc_1006.nd rfl (by first | exact Or.inl rfl | exact Or.inr rfl)) (dss_cons (ds_set (i := 5) sc_1006.nd rfl (by first | exact Or.inl rfl | exact Or.inr rfl) (de_callG a.k_1002 tk hr rfl T.g_1002 T.f_1002.kp T.n_1002 (da_cons (de_v 0) (da_cons de_int da_nil)) (ALen.cons (ALen.cons ALen.nil)))) (dss_one (ds_if (dw_t (dw_or (dt_lt (de_o (de_v 5)) (de_o de_int)) (dw_or1 (dw_t (dw_and (dt_eq hr.units (de_o (de_v 1)) (de_o de_int)) (dw_and1 (dt_gt (de_o (de_v 5)) (de_o de_int)))))))) (dss_one (ds_if (dw_t (dw_or (dt_eq hr.units (de_o (de_len rfl T.b_len (do_v 3))) (de_o de_int)) (dw_or1 (dt_ne hr.units (de_o (de_sub_ (de_o (de_sub_ (do_v 3) (de_o (de_neg (de_o de_int))))) (de_o de_int))) (de_o de_str))))) (dss_one (ds_appO 3 (pe_bm PySem.F.plainAttrs_list PySem.F.slot_list_append PySem.F.type_list_append mt_append (pv 3) (pa_cons (de_tup (da_cons de_str (da_cons (de_callG a.k_1003 tk hr rfl T.g_1003 T.f_1003.kp T.n_1003 (da_cons (de_v 0) da_nil) (ALen.cons ALen.nil)) da_nil)) ((ALen.cons (ALen.cons ALen.nil)).line (by decide))) pa_nil)))) dss_nil)) (dss_one (ds_if (dt_eq hr.units (de_o (de_v 5)) (de_o de_int)) (dss_one (ds_appO 3 (pe_bm PySem.F.plainAttrs_list PySem.F.slot_list_append PySem.F.type_list_append mt_append (pv 3) (pa_cons (de_tup (da_cons de_str (da_cons (de_sub_ (df_o (df_lst (da_cons de_str (da_cons de_str (da_cons de_str (da_cons de_str da_nil)))) ((ALen.cons (ALen.cons (ALen.cons (ALen.cons ALen.nil)))).line (by decide)))) (de_o (de_callG a.k_1002 tk hr rfl T.g_1002 T.f_1002.kp T.n_1002 (da_cons (de_v 0) (da_cons de_int da_nil)) (ALen.cons (ALen.cons ALen.nil))))) da_nil)) ((ALen.cons (ALen.cons ALen.nil)).line (by decide))) pa_nil)))) (dss_one (ds_if (dt_eq hr.units (de_o (de_v 5)) (de_o de_int)) (dss_one (ds_if (dt_tru (de_o (de_v 2))) (dss_one (ds_appO 3 (pe_bm PySem.F.plainAttrs_list PySem.F.slot_list_append PySem.F.type_list_append mt_append (pv 3) (pa_cons (de_tup (da_cons de_str da_nil) ((ALen.cons ALen.nil).line (by decide))) pa_nil)))) dss_nil)) (dss_one (ds_if (dt_lt (de_o (de_v 5)) (de_o de_int)) (dss_one (ds_appO 3 (pe_bm PySem.F.plainAttrs_list PySem.F.slot_list_append PySem.F.type_list_append mt_append (pv 3) (pa_cons (de_callG a.k_1005 tk hr rfl T.g_1005 T.f_1005.kp T.n_1005 (da_cons (de_v 0) (da_cons (de_v 1) da_nil)) (ALen.cons (ALen.cons ALen.nil))) pa_nil)))) (dss_one (ds_appO 3 (pe_bm PySem.F.plainAttrs_list PySem.F.slot_list_append PySem.F.type_list_append mt_append (pv 3) (pa_cons (de_callG a.k_1004 tk hr rfl T.g_1004 T.f_1004.kp T.n_1004 (da_cons (de_v 0) (da_cons (de_v 1) (da_cons (de_v 2) da_nil))) (ALen.cons (ALen.cons (ALen.cons ALen.nil)))) pa_nil)))))))))))))) (dss_one (ds_retO 3))))
/-- _law_cut -/
theorem W_1007 (T : Top K mg A FD) (a : All P w K mg base cls A FD n R) : FnG P w K mg base (n + 1) (A 1007) (FD 1007) ["_law_box", "_law_message_here"] (spD ⟨K, cls⟩ 2 (B_1007 R)) :=
  defG_ok T.f_1007 sc_1007 fun cdv A' outer s H E hr => by
    have tk := takes_of (X := cxOf (L2.CX P w) P w K mg base N_1007 "_law_cut" (defScope s_1007) (A 1007) cdv A' outer s H E) rfl rfl rfl rfl
    exact (dss_cons (ds_own (i := 2) sc_1007.nd rfl (by first | exact Or.inl rfl | exact Or.inr rfl) (df_lst da_nil ((ALen.nil).line (by decide)))) (dss_cons (ds_for (passes_of rfl) rfl (di_a (de_v 1)) (pg_name (i := 3) sc_1007.nd rfl (by first | exact Or.inl rfl | exact Or.inr rfl)) (dss_cons (ds_if (dt_eq hr.units (de_o (de_sub_ (de_o (de_v 3)) (de_o de_int))) (de_o de_str)) (dss_cons (ds_set (i := 4) sc_1007.nd rfl (by first | exact Or.inl rfl | exact Or.inr rfl) (de_callG a.k_1002 tk hr rfl T.g_1002 T.f_1002.kp T.n_1002 (da_cons (de_v 0) (da_cons (de_add (de_o (de_len rfl T.b_len (de_o (de_sub_ (de_o (de_v 3)) (de_o de_int))))) (de_o de_int)) da_nil)) (ALen.cons (ALen.cons ALen.nil)))) (dss_one (ds_own (i := 2) sc_1007.nd rfl (by first | exact Or.inl rfl | exact Or.inr rfl) (df_cat (do_v 2) (df_o (df_lst (da_cons (de_tup (da_cons de_str (da_cons (de_cut (de_o (de_sub_ (de_o (de_v 3)) (de_o de_int))) dp_no (dp_so (de_v 4))) da_nil)) ((ALen.cons (ALen.cons ALen.nil)).line (by decide))) (da_cons (de_tup (da_cons de_str (da_cons (de_cut (de_o (de_sub_ (de_o (de_v 3)) (de_o de_int))) (dp_so (de_v 4)) dp_no) da_nil)) ((ALen.cons (ALen.cons ALen.nil)).line (by decide))) da_nil)) ((ALen.cons (ALen.cons ALen.nil)).line (by decide)))))))) (dss_one (ds_if (dt_in (de_o (de_sub_ (de_o (de_v 3)) (de_o de_int))) (de_o (de_tup (da_cons de_str (da_cons de_str da_nil)) ((ALen.cons (ALen.cons ALen.nil)).line (by decide)))) rfl) (dss_cons (ds_setC (ps_comp (i := 5) (own := [("_law_key", 6), ("_law_inner", 7)]) (p := (.tp [(.nm 6), (.nm 7)])) (ι := (iA (eOp dIdx (eV 3) (eUn dNeg (eC (.int 2)))))) (τ := tTrue) (ε := C_1007_1 R) rfl sc_1007.nd rfl rfl (sw_true rfl rfl rfl (by decide +kernel)) (di_a (de_sub_ (de_o (de_v 3)) (de_o (de_neg (de_o de_int))))) (blkOk_by (N := N_1007) (sc := defScope s_1007) (own := [("_law_key", 6), ("_law_inner", 7)]) (by decide +kernel)) (by decide) (fun _ _ _ _ _ => (pg_tup rfl (pgs_cons (pg_name (i := 6) sc_1007.nd rfl (by first | exact Or.inl rfl | exact Or.inr rfl)) (pgs_cons (pg_name (i := 7) sc_1007.nd rfl (by first | exact Or.inl rfl | exact Or.inr rfl)) pgs_nil)))) (fun _ _ _ _ _ => dts_nil) (fun _ _ _ _ _ => (de_tup (da_cons (de_v 6) (da_cons (de_callG a.k_1007 takes0 hr rfl T.g_1007 T.f_1007.kp T.n_1007 (da_cons (de_v 0) (da_cons (de_v 7) da_nil)) (ALen.cons (ALen.cons ALen.nil))) da_nil)) ((ALen.cons (ALen.cons ALen.nil)).line (by decide)))))) (dss_one (ds_appO 2 (pe_bm PySem.F.plainAttrs_list PySem.F.slot_list_append PySem.F.type_list_append mt_append (pv 2) (pa_cons (de_add (de_o (de_cut (de_o (de_v 3)) dp_no (dp_so (de_neg (de_o de_int))))) (de_o (de_tup (da_cons (de_v 5) (da_cons (de_callG a.k_1007 tk hr rfl T.g_1007 T.f_1007.kp T.n_1007 (da_cons (de_v 0) (da_cons (de_sub_ (de_o (de_v 3)) (de_o (de_neg (de_o de_int)))) da_nil)) (ALen.cons (ALen.cons ALen.nil))) da_nil)) ((ALen.cons (ALen.cons ALen.nil)).line (by decide))))) pa_nil))))) (dss_one (ds_appO 2 (pe_bm PySem.F.plainAttrs_list PySem.F.slot_list_append PySem.F.type_list_append mt_append (pv 2) (pa_cons (de_v 3) pa_nil))))))) (dss_one (ds_if (dt_eq hr.units (de_o (de_callG a.k_1002 tk hr rfl T.g_1002 T.f_1002.kp T.n_1002 (da_cons (de_v 0) (da_cons de_int da_nil)) (ALen.cons (ALen.cons ALen.nil)))) (de_o de_int)) (dss_one (ds_appO 2 (pe_bm PySem.F.plainAttrs_list PySem.F.slot_list_append PySem.F.type_list_append mt_append (pv 2) (pa_cons (de_tup (da_cons de_str (da_cons de_str da_nil)) ((ALen.cons (ALen.cons ALen.nil)).line (by decide))) pa_nil)))) dss_nil)))) (dss_one (ds_retO 2))))
/-- _law_size -/
theorem W_1008 (T : Top K mg A FD) (a : All P w K mg base cls A FD n R) : FnG P w K mg base (n + 1) (A 1008) (FD 1008) ["_law_message_here"] (spD ⟨K, cls⟩ 1 (B_1008 R)) :=
  defG_ok T.f_1008 sc_1008 fun cdv A' outer s H E hr => by
    have tk := takes_of (X := cxOf (L2.CX P w) P w K mg base N_1008 "_law_size" (defScope s_1008) (A 1008) cdv A' outer s H E) rfl rfl rfl rfl
    exact (dss_cons (ds_set (i := 1) sc_1008.nd rfl (by first | exact Or.inl rfl | exact Or.inr rfl) de_int) (dss_cons (ds_for (passes_of rfl) rfl (di_a (de_v 0)) (pg_name (i := 2) sc_1008.nd rfl (by first | exact Or.inl rfl | exact Or.inr rfl)) (dss_cons (ds_if (dt_eq hr.units (de_o (de_sub_ (de_o (de_v 2)) (de_o de_int))) (de_o de_str)) (dss_one (ds_set (i := 1) sc_1008.nd rfl (by first | exact Or.inl rfl | exact Or.inr rfl) (de_add (de_o (de_v 1)) (de_o (de_len rfl T.b_len (de_o (de_sub_ (de_o (de_v 2)) (de_o de_int)))))))) (dss_one (ds_set (i := 1) sc_1008.nd rfl (by first | exact Or.inl rfl | exact Or.inr rfl) (de_add (de_o (de_v 1)) (de_o de_int))))) (dss_one (ds_if (dt_in (de_o (de_sub_ (de_o (de_v 2)) (de_o de_int))) (de_o (de_tup (da_cons de_str (da_cons de_str da_nil)) ((ALen.cons (ALen.cons ALen.nil)).line (by decide)))) rfl) (dss_cons (ds_for (passes_of rfl) rfl (di_a (de_sub_ (de_o (de_v 2)) (de_o (de_neg (de_o de_int))))) (pg_tup rfl (pgs_cons (pg_name (i := 3) sc_1008.nd rfl (by first | exact Or.inl rfl | exact Or.inr rfl)) (pgs_cons (pg_name (i := 4) sc_1008.nd rfl (by first | exact Or.inl rfl | exact Or.inr rfl)) pgs_nil))) (dss_one (ds_set (i := 1) sc_1008.nd rfl (by first | exact Or.inl rfl | exact Or.inr rfl) (de_add (de_o (de_v 1)) (de_o (de_callG a.k_1008 tk hr rfl T.g_1008 T.f_1008.kp T.n_1008 (da_cons (de_v 4) da_nil) (ALen.cons ALen.nil))))))) (dss_one (ds_set (i := 1) sc_1008.nd rfl (by first | exact Or.inl rfl | exact Or.inr rfl) (de_add (de_o (de_v 1)) (de_o (de_callG a.k_1008 tk hr rfl T.g_1008 T.f_1008.kp T.n_1008 (da_cons (de_sub_ (de_o (de_v 2)) (de_o (de_neg (de_o de_int)))) da_nil) (ALen.cons ALen.nil))))))) dss_nil)))) (dss_one (ds_ret (de_v 1)))))
/-- law -/
theorem W_1009 (T : Top K mg A FD) (a : All P w K mg base cls A FD n R) : FnG P w K mg base (n + 1) (A 1009) (FD 1009) ["_law_script"] (spD ⟨K, cls⟩ 1 (B_1009 R)) :=
  defG_ok T.f_1009 sc_1009 fun cdv A' outer s H E hr => by
    have tk := takes_of (X := cxOf (L2.CX P w) P w K mg base N_1009 "law" (defScope s_1009) (A 1009) cdv A' outer s H E) rfl rfl rfl rfl
    exact (dss_cons (ds_set (i := 1) sc_1009.nd rfl (by first | exact Or.inl rfl | exact Or.inr rfl) (de_box (df_lst (da_cons (de_callG a.k_1001 tk hr rfl T.g_1001 T.f_1001.kp T.n_1001 (da_cons (de_v 0) (da_cons de_int (da_cons de_int da_nil))) (ALen.cons (ALen.cons (ALen.cons ALen.nil)))) (da_cons de_int da_nil)) ((ALen.cons (ALen.cons ALen.nil)).line (by decide))))) (dss_cons (ds_set (i := 2) sc_1009.nd rfl (by first | exact Or.inl rfl | exact Or.inr rfl) (de_callG a.k_1006 tk hr rfl T.g_1006 T.f_1006.kp T.n_1006 (da_cons (de_v 1) (da_cons de_int (da_cons de_bl da_nil))) (ALen.cons (ALen.cons (ALen.cons ALen.nil))))) (dss_cons (ds_set (i := 3) sc_1009.nd rfl (by first | exact Or.inl rfl | exact Or.inr rfl) (de_callG a.k_1007 tk hr rfl T.g_1007 T.f_1007.kp T.n_1007 (da_cons (de_v 1) (da_cons (de_v 2) da_nil)) (ALen.cons (ALen.cons ALen.nil)))) (dss_cons (ds_set (i := 4) sc_1009.nd rfl (by first | exact Or.inl rfl | exact Or.inr rfl) (de_repr hr rfl T.b_repr (de_o (de_v 3)))) (dss_cons (ds_set (i := 5) sc_1009.nd rfl (by first | exact Or.inl rfl | exact Or.inr rfl) (de_callG a.k_5 tk hr rfl T.g_5 T.f_5.kp T.n_5 (da_cons (de_v 3) da_nil) (ALen.cons ALen.nil))) (dss_cons (ds_if (dw_t (dw_or (dt_not (dt_tru (de_o (de_isi rfl T.b_isinstance rfl T.b_list (by decide +kernel) (de_o (de_v 5)))))) (dw_or (dt_ne hr.units (de_o (de_v 5)) (de_o (de_v 2))) (dw_or (dt_ne hr.units (de_o (de_callG a.k_5 tk hr rfl T.g_5 T.f_5.kp T.n_5 (da_cons (de_v 2) da_nil) (ALen.cons ALen.nil))) (de_o (de_v 2))) (dw_or1 (dt_ne hr.units (de_o (de_repr hr rfl T.b_repr (de_o (de_v 3)))) (de_o (de_v 4)))))))) (dss_one (ds_ret de_bl)) dss_nil) (dss_cons (ds_if (dt_ne hr.units (de_o (de_callG a.k_9 tk hr rfl T.g_9 T.f_9.kp T.n_9 (da_cons (de_v 2) da_nil) (ALen.cons ALen.nil))) (de_o (de_callG a.k_1008 tk hr rfl T.g_1008 T.f_1008.kp T.n_1008 (da_cons (de_v 2) da_nil) (ALen.cons ALen.nil)))) (dss_one (ds_ret de_bl)) dss_nil) (dss_cons (ds_for (passes_of rfl) rfl (di_a (de_v 2)) (pg_name (i := 6) sc_1009.nd rfl (by first | exact Or.inl rfl | exact Or.inr rfl)) (dss_cons (ds_set (i := 7) sc_1009.nd rfl (by first | exact Or.inl rfl | exact Or.inr rfl) (df_e (df_lst da_nil ((ALen.nil).line (by decide))))) (dss_cons (ds_if (dt_in (de_o (de_sub_ (de_o (de_v 6)) (de_o de_int))) (de_o (de_tup (da_cons de_str (da_cons de_str da_nil)) ((ALen.cons (ALen.cons ALen.nil)).line (by decide)))) rfl) (dss_cons (ds_set (i := 7) sc_1009.nd rfl (by first | exact Or.inl rfl | exact Or.inr rfl) (de_add (df_o (df_comp (own := [("_law_key", 8), ("_law_one", 9)]) (p := (.tp [(.nm 8), (.nm 9)])) (ι := (iA (eOp dIdx (eV 6) (eUn dNeg (eC (.int 2)))))) (τ := tTrue) (ε := C_1009_1 R) rfl sc_1009.nd (di_a (de_sub_ (de_o (de_v 6)) (de_o (de_neg (de_o de_int))))) (blkOk_by (N := N_1009) (sc := defScope s_1009) (own := [("_law_key", 8), ("_law_one", 9)]) (by decide +kernel)) (by decide) (fun _ _ _ _ _ => (pg_tup rfl (pgs_cons (pg_name (i := 8) sc_1009.nd rfl (by first | exact Or.inl rfl | exact Or.inr rfl)) (pgs_cons (pg_name (i := 9) sc_1009.nd rfl (by first | exact Or.inl rfl | exact Or.inr rfl)) pgs_nil)))) (fun _ _ _ _ _ => dts_nil) (fun _ _ _ _ _ => (de_v 9)))) (df_o (df_lst (da_cons (de_sub_ (de_o (de_v 6)) (de_o (de_neg (de_o de_int)))) da_nil) ((ALen.cons ALen.nil).line (by decide)))))) (dss_one (ds_if (dw_t (dw_or (dt_ne hr.units (de_o (de_callG a.k_1 tk hr rfl T.g_1 T.f_1.kp T.n_1 (da_cons (de_v 6) da_nil) (ALen.cons ALen.nil))) (de_o (de_sub_ (de_o (de_v 6)) (de_o (de_neg (de_o de_int)))))) (dw_or1 (dt_ne hr.units (de_o (de_callG a.k_2 tk hr rfl T.g_2 T.f_2.kp T.n_2 (da_cons (de_v 6) da_nil) (ALen.cons ALen.nil))) (de_o (de_sub_ (de_o (de_v 6)) (de_o (de_neg (de_o de_int))))))))) (dss_one (ds_ret de_bl)) dss_nil))) dss_nil) (dss_one (ds_if (dt_ne hr.units (de_o (de_callG a.k_3 tk hr rfl T.g_3 T.f_3.kp T.n_3 (da_cons (de_v 6) da_nil) (ALen.cons ALen.nil))) (de_o (de_v 7))) (dss_one (ds_ret de_bl)) dss_nil))))) (dss_one (ds_ret de_bl))))))))))
theorem all (T : Top K mg A FD) : ∀ n, All P w K mg base cls A FD n (run n)
  | 0 => ⟨fnG_stuck fun _ _ => rfl, fnG_stuck fun _ _ => rfl, fnG_stuck fun _ _ => rfl, fnG_stuck fun _ _ => rfl, fnG_stuck fun _ _ => rfl, fnG_stuck fun _ _ => rfl, fnG_stuck fun _ _ => rfl, fnG_stuck fun _ _ => rfl, fnG_stuck fun _ _ => rfl, fnG_stuck fun _ _ => rfl, fnG_stuck fun _ _ => rfl, fnG_stuck fun _ _ => rfl, fnG_stuck fun _ _ => rfl, fnG_stuck fun _ _ => rfl, fnG_stuck fun _ _ => rfl, fnG_stuck fun _ _ => rfl⟩
  | n + 1 => ⟨W_1 T (all T n), W_2 T (all T n), W_3 T (all T n), W_4 T (all T n), W_5 T (all T n), W_9 T (all T n), W_1000 T (all T n), W_1001 T (all T n), W_1002 T (all T n), W_1003 T (all T n), W_1004 T (all T n), W_1005 T (all T n), W_1006 T (all T n), W_1007 T (all T n), W_1008 T (all T n), W_1009 T (all T n)⟩
end
theorem all_mk {l : PySem.W.OpenLaw} {w : World} {K : PySem.W.Frag} {h : Heap} {mg : Str → Option Value} {fa : Addr} (X : K.In h) (G : h.Ns mainGlobals mg) (hfa : mg "law" = some (.ref fa))
    {f1 : Addr} {od1 an1 : Option Addr} {sl1 : Array (Option Value)} {oc1 kV1 dc1 pm1 cd1 ct1 : Value}
    (a1 : PySem.W.nsIn K mainGlobals "cases_of" = some (some (.ref f1))) (l1 : K.lookup f1 = some ⟨oc1, od1, .func (PySem.W.fnOf "cases_of" "cases_of" (defArgs s_1) (defBody s_1) (defScope s_1) .none kV1 dc1 pm1 an1 cd1 ct1), sl1⟩) (c1 : PySem.W.codeIn K cd1 "cases_of" = true) (k1 : PySem.W.keepIn K (.ref f1) = true)
    {f2 : Addr} {od2 an2 : Option Addr} {sl2 : Array (Option Value)} {oc2 kV2 dc2 pm2 cd2 ct2 : Value}
    (a2 : PySem.W.nsIn K mainGlobals "other_of" = some (some (.ref f2))) (l2 : K.lookup f2 = some ⟨oc2, od2, .func (PySem.W.fnOf "other_of" "other_of" (defArgs s_2) (defBody s_2) (defScope s_2) .none kV2 dc2 pm2 an2 cd2 ct2), sl2⟩) (c2 : PySem.W.codeIn K cd2 "other_of" = true) (k2 : PySem.W.keepIn K (.ref f2) = true)
    {f3 : Addr} {od3 an3 : Option Addr} {sl3 : Array (Option Value)} {oc3 kV3 dc3 pm3 cd3 ct3 : Value}
    (a3 : PySem.W.nsIn K mainGlobals "inner_messages" = some (some (.ref f3))) (l3 : K.lookup f3 = some ⟨oc3, od3, .func (PySem.W.fnOf "inner_messages" "inner_messages" (defArgs s_3) (defBody s_3) (defScope s_3) .none kV3 dc3 pm3 an3 cd3 ct3), sl3⟩) (c3 : PySem.W.codeIn K cd3 "inner_messages" = true) (k3 : PySem.W.keepIn K (.ref f3) = true)
    {f4 : Addr} {od4 an4 : Option Addr} {sl4 : Array (Option Value)} {oc4 kV4 dc4 pm4 cd4 ct4 : Value}
    (a4 : PySem.W.nsIn K mainGlobals "plain_node" = some (some (.ref f4))) (l4 : K.lookup f4 = some ⟨oc4, od4, .func (PySem.W.fnOf "plain_node" "plain_node" (defArgs s_4) (defBody s_4) (defScope s_4) .none kV4 dc4 pm4 an4 cd4 ct4), sl4⟩) (c4 : PySem.W.codeIn K cd4 "plain_node" = true) (k4 : PySem.W.keepIn K (.ref f4) = true)
    {f5 : Addr} {od5 an5 : Option Addr} {sl5 : Array (Option Value)} {oc5 kV5 dc5 pm5 cd5 ct5 : Value}
    (a5 : PySem.W.nsIn K mainGlobals "plain" = some (some (.ref f5))) (l5 : K.lookup f5 = some ⟨oc5, od5, .func (PySem.W.fnOf "plain" "plain" (defArgs s_5) (defBody s_5) (defScope s_5) .none kV5 dc5 pm5 an5 cd5 ct5), sl5⟩) (c5 : PySem.W.codeIn K cd5 "plain" = true) (k5 : PySem.W.keepIn K (.ref f5) = true)
    {f9 : Addr} {od9 an9 : Option Addr} {sl9 : Array (Option Value)} {oc9 kV9 dc9 pm9 cd9 ct9 : Value}
    (a9 : PySem.W.nsIn K mainGlobals "size_of" = some (some (.ref f9))) (l9 : K.lookup f9 = some ⟨oc9, od9, .func (PySem.W.fnOf "size_of" "size_of" (defArgs s_9) (defBody s_9) (defScope s_9) .none kV9 dc9 pm9 an9 cd9 ct9), sl9⟩) (c9 : PySem.W.codeIn K cd9 "size_of" = true) (k9 : PySem.W.keepIn K (.ref f9) = true)
    {f1000 : Addr} {od1000 an1000 : Option Addr} {sl1000 : Array (Option Value)} {oc1000 kV1000 dc1000 pm1000 cd1000 ct1000 : Value}
    (a1000 : PySem.W.nsIn K mainGlobals "_law_cell" = some (some (.ref f1000))) (l1000 : K.lookup f1000 = some ⟨oc1000, od1000, .func (PySem.W.fnOf "_law_cell" "_law_cell" (defArgs s_1000) (defBody s_1000) (defScope s_1000) .none kV1000 dc1000 pm1000 an1000 cd1000 ct1000), sl1000⟩) (c1000 : PySem.W.codeIn K cd1000 "_law_cell" = true) (k1000 : PySem.W.keepIn K (.ref f1000) = true)
    {f1001 : Addr} {od1001 an1001 : Option Addr} {sl1001 : Array (Option Value)} {oc1001 kV1001 dc1001 pm1001 cd1001 ct1001 : Value}
    (a1001 : PySem.W.nsIn K mainGlobals "_law_digits" = some (some (.ref f1001))) (l1001 : K.lookup f1001 = some ⟨oc1001, od1001, .func (PySem.W.fnOf "_law_digits" "_law_digits" (defArgs s_1001) (defBody s_1001) (defScope s_1001) .none kV1001 dc1001 pm1001 an1001 cd1001 ct1001), sl1001⟩) (c1001 : PySem.W.codeIn K cd1001 "_law_digits" = true) (k1001 : PySem.W.keepIn K (.ref f1001) = true)
    {f1002 : Addr} {od1002 an1002 : Option Addr} {sl1002 : Array (Option Value)} {oc1002 kV1002 dc1002 pm1002 cd1002 ct1002 : Value}
    (a1002 : PySem.W.nsIn K mainGlobals "_law_draw" = some (some (.ref f1002))) (l1002 : K.lookup f1002 = some ⟨oc1002, od1002, .func (PySem.W.fnOf "_law_draw" "_law_draw" (defArgs s_1002) (defBody s_1002) (defScope s_1002) .none kV1002 dc1002 pm1002 an1002 cd1002 ct1002), sl1002⟩) (c1002 : PySem.W.codeIn K cd1002 "_law_draw" = true) (k1002 : PySem.W.keepIn K (.ref f1002) = true)
    {f1003 : Addr} {od1003 an1003 : Option Addr} {sl1003 : Array (Option Value)} {oc1003 kV1003 dc1003 pm1003 cd1003 ct1003 : Value}
    (a1003 : PySem.W.nsIn K mainGlobals "_law_string" = some (some (.ref f1003))) (l1003 : K.lookup f1003 = some ⟨oc1003, od1003, .func (PySem.W.fnOf "_law_string" "_law_string" (defArgs s_1003) (defBody s_1003) (defScope s_1003) .none kV1003 dc1003 pm1003 an1003 cd1003 ct1003), sl1003⟩) (c1003 : PySem.W.codeIn K cd1003 "_law_string" = true) (k1003 : PySem.W.keepIn K (.ref f1003) = true)
    {f1004 : Addr} {od1004 an1004 : Option Addr} {sl1004 : Array (Option Value)} {oc1004 kV1004 dc1004 pm1004 cd1004 ct1004 : Value}
    (a1004 : PySem.W.nsIn K mainGlobals "_law_select" = some (some (.ref f1004))) (l1004 : K.lookup f1004 = some ⟨oc1004, od1004, .func (PySem.W.fnOf "_law_select" "_law_select" (defArgs s_1004) (defBody s_1004) (defScope s_1004) .none kV1004 dc1004 pm1004 an1004 cd1004 ct1004), sl1004⟩) (c1004 : PySem.W.codeIn K cd1004 "_law_select" = true) (k1004 : PySem.W.keepIn K (.ref f1004) = true)
    {f1005 : Addr} {od1005 an1005 : Option Addr} {sl1005 : Array (Option Value)} {oc1005 kV1005 dc1005 pm1005 cd1005 ct1005 : Value}
    (a1005 : PySem.W.nsIn K mainGlobals "_law_plural" = some (some (.ref f1005))) (l1005 : K.lookup f1005 = some ⟨oc1005, od1005, .func (PySem.W.fnOf "_law_plural" "_law_plural" (defArgs s_1005) (defBody s_1005) (defScope s_1005) .none kV1005 dc1005 pm1005 an1005 cd1005 ct1005), sl1005⟩) (c1005 : PySem.W.codeIn K cd1005 "_law_plural" = true) (k1005 : PySem.W.keepIn K (.ref f1005) = true)
    {f1006 : Addr} {od1006 an1006 : Option Addr} {sl1006 : Array (Option Value)} {oc1006 kV1006 dc1006 pm1006 cd1006 ct1006 : Value}
    (a1006 : PySem.W.nsIn K mainGlobals "_law_message" = some (some (.ref f1006))) (l1006 : K.lookup f1006 = some ⟨oc1006, od1006, .func (PySem.W.fnOf "_law_message" "_law_message" (defArgs s_1006) (defBody s_1006) (defScope s_1006) .none kV1006 dc1006 pm1006 an1006 cd1006 ct1006), sl1006⟩) (c1006 : PySem.W.codeIn K cd1006 "_law_message" = true) (k1006 : PySem.W.keepIn K (.ref f1006) = true)
    {f1007 : Addr} {od1007 an1007 : Option Addr} {sl1007 : Array (Option Value)} {oc1007 kV1007 dc1007 pm1007 cd1007 ct1007 : Value}
    (a1007 : PySem.W.nsIn K mainGlobals "_law_cut" = some (some (.ref f1007))) (l1007 : K.lookup f1007 = some ⟨oc1007, od1007, .func (PySem.W.fnOf "_law_cut" "_law_cut" (defArgs s_1007) (defBody s_1007) (defScope s_1007) .none kV1007 dc1007 pm1007 an1007 cd1007 ct1007), sl1007⟩) (c1007 : PySem.W.codeIn K cd1007 "_law_cut" = true) (k1007 : PySem.W.keepIn K (.ref f1007) = true)
    {f1008 : Addr} {od1008 an1008 : Option Addr} {sl1008 : Array (Option Value)} {oc1008 kV1008 dc1008 pm1008 cd1008 ct1008 : Value}
    (a1008 : PySem.W.nsIn K mainGlobals "_law_size" = some (some (.ref f1008))) (l1008 : K.lookup f1008 = some ⟨oc1008, od1008, .func (PySem.W.fnOf "_law_size" "_law_size" (defArgs s_1008) (defBody s_1008) (defScope s_1008) .none kV1008 dc1008 pm1008 an1008 cd1008 ct1008), sl1008⟩) (c1008 : PySem.W.codeIn K cd1008 "_law_size" = true) (k1008 : PySem.W.keepIn K (.ref f1008) = true)
    {f1009 : Addr} {od1009 an1009 : Option Addr} {sl1009 : Array (Option Value)} {oc1009 kV1009 dc1009 pm1009 cd1009 ct1009 : Value}
    (a1009 : PySem.W.nsIn K mainGlobals "law" = some (some (.ref f1009))) (l1009 : K.lookup f1009 = some ⟨oc1009, od1009, .func (PySem.W.fnOf "law" "law" (defArgs s_1009) (defBody s_1009) (defScope s_1009) .none kV1009 dc1009 pm1009 an1009 cd1009 ct1009), sl1009⟩) (c1009 : PySem.W.codeIn K cd1009 "law" = true) (k1009 : PySem.W.keepIn K (.ref f1009) = true)
    (z_int : PySem.W.nsIn K mainGlobals "int" = some none)
    (z_isinstance : PySem.W.nsIn K mainGlobals "isinstance" = some none)
    (z_len : PySem.W.nsIn K mainGlobals "len" = some none)
    (z_list : PySem.W.nsIn K mainGlobals "list" = some none)
    (z_range : PySem.W.nsIn K mainGlobals "range" = some none)
    (z_repr : PySem.W.nsIn K mainGlobals "repr" = some none)
    (z_sum : PySem.W.nsIn K mainGlobals "sum" = some none)
    {t_TEXT : Tok} (q_TEXT : PySem.W.nsIn K mainGlobals "TEXT" = some (some (.str "text" t_TEXT)))
    {a_CHOICES : Addr} {t0_CHOICES t1_CHOICES : Tok} {dd_CHOICES : Option Addr} {n_CHOICES : Nat} {sl_CHOICES : Array (Option Value)} (q_CHOICES : PySem.W.nsIn K mainGlobals "CHOICES" = some (some (.ref a_CHOICES))) (r_CHOICES : K.lookup a_CHOICES = some ⟨.type "tuple", dd_CHOICES, .seq #[.str "select" t0_CHOICES, .str "plural" t1_CHOICES] n_CHOICES, sl_CHOICES⟩)
    (hlaw : ∀ ns : List Int, ns.length ≤ 63 → ∃ S, run 40 1009 [.scr ns] [] = .ok (.bl true) S) :
    ∃ fd : FuncData, (∀ (s : Shared) (v : Value), BindsTo s fd ⟨[v], []⟩ [("_law_script", v)]) ∧ ∀ base : Heap, K.In base → base.Ns mainGlobals mg → FnG l.prog w K mg base 40 fa fd ["_law_script"] (DL.spLaw K) := by
  have e := hfa.symm.trans (PySem.W.mg_of X G a1009)
  cases e
  let A : Nat → Addr := fun i => match i with
    | 1 => f1
    | 2 => f2
    | 3 => f3
    | 4 => f4
    | 5 => f5
    | 9 => f9
    | 1000 => f1000
    | 1001 => f1001
    | 1002 => f1002
    | 1003 => f1003
    | 1004 => f1004
    | 1005 => f1005
    | 1006 => f1006
    | 1007 => f1007
    | 1008 => f1008
    | 1009 => fa
    | _ => 0
  let FD : Nat → FuncData := fun i => match i with
    | 1 => (PySem.W.fnOf "cases_of" "cases_of" (defArgs s_1) (defBody s_1) (defScope s_1) .none kV1 dc1 pm1 an1 cd1 ct1)
    | 2 => (PySem.W.fnOf "other_of" "other_of" (defArgs s_2) (defBody s_2) (defScope s_2) .none kV2 dc2 pm2 an2 cd2 ct2)
    | 3 => (PySem.W.fnOf "inner_messages" "inner_messages" (defArgs s_3) (defBody s_3) (defScope s_3) .none kV3 dc3 pm3 an3 cd3 ct3)
    | 4 => (PySem.W.fnOf "plain_node" "plain_node" (defArgs s_4) (defBody s_4) (defScope s_4) .none kV4 dc4 pm4 an4 cd4 ct4)
    | 5 => (PySem.W.fnOf "plain" "plain" (defArgs s_5) (defBody s_5) (defScope s_5) .none kV5 dc5 pm5 an5 cd5 ct5)
    | 9 => (PySem.W.fnOf "size_of" "size_of" (defArgs s_9) (defBody s_9) (defScope s_9) .none kV9 dc9 pm9 an9 cd9 ct9)
    | 1000 => (PySem.W.fnOf "_law_cell" "_law_cell" (defArgs s_1000) (defBody s_1000) (defScope s_1000) .none kV1000 dc1000 pm1000 an1000 cd1000 ct1000)
    | 1001 => (PySem.W.fnOf "_law_digits" "_law_digits" (defArgs s_1001) (defBody s_1001) (defScope s_1001) .none kV1001 dc1001 pm1001 an1001 cd1001 ct1001)
    | 1002 => (PySem.W.fnOf "_law_draw" "_law_draw" (defArgs s_1002) (defBody s_1002) (defScope s_1002) .none kV1002 dc1002 pm1002 an1002 cd1002 ct1002)
    | 1003 => (PySem.W.fnOf "_law_string" "_law_string" (defArgs s_1003) (defBody s_1003) (defScope s_1003) .none kV1003 dc1003 pm1003 an1003 cd1003 ct1003)
    | 1004 => (PySem.W.fnOf "_law_select" "_law_select" (defArgs s_1004) (defBody s_1004) (defScope s_1004) .none kV1004 dc1004 pm1004 an1004 cd1004 ct1004)
    | 1005 => (PySem.W.fnOf "_law_plural" "_law_plural" (defArgs s_1005) (defBody s_1005) (defScope s_1005) .none kV1005 dc1005 pm1005 an1005 cd1005 ct1005)
    | 1006 => (PySem.W.fnOf "_law_message" "_law_message" (defArgs s_1006) (defBody s_1006) (defScope s_1006) .none kV1006 dc1006 pm1006 an1006 cd1006 ct1006)
    | 1007 => (PySem.W.fnOf "_law_cut" "_law_cut" (defArgs s_1007) (defBody s_1007) (defScope s_1007) .none kV1007 dc1007 pm1007 an1007 cd1007 ct1007)
    | 1008 => (PySem.W.fnOf "_law_size" "_law_size" (defArgs s_1008) (defBody s_1008) (defScope s_1008) .none kV1008 dc1008 pm1008 an1008 cd1008 ct1008)
    | 1009 => (PySem.W.fnOf "law" "law" (defArgs s_1009) (defBody s_1009) (defScope s_1009) .none kV1009 dc1009 pm1009 an1009 cd1009 ct1009)
    | _ => (PySem.W.fnOf "law" "law" (defArgs s_1009) (defBody s_1009) (defScope s_1009) .none kV1009 dc1009 pm1009 an1009 cd1009 ct1009)
  have T : Top K mg A FD := {
    b_int := PySem.W.mg_none_of X G z_int
    b_isinstance := PySem.W.mg_none_of X G z_isinstance
    b_len := PySem.W.mg_none_of X G z_len
    b_list := PySem.W.mg_none_of X G z_list
    b_range := PySem.W.mg_none_of X G z_range
    b_repr := PySem.W.mg_none_of X G z_repr
    b_sum := PySem.W.mg_none_of X G z_sum
    c_TEXT := ⟨_, PySem.W.mg_of X G q_TEXT⟩
    c_CHOICES := ⟨_, [.str "select" t0_CHOICES, .str "plural" t1_CHOICES], _, _, _, PySem.W.mg_of X G q_CHOICES, r_CHOICES, by repeat constructor, (by decide : 2 ≤ sizeLine)⟩
    f_1 := fun_mk (st := s_1) l1 c1 k1
    g_1 := PySem.W.mg_of X G a1
    n_1 := (fun_mk (st := s_1) l1 c1 k1).binds fun _ _ _ _ _ _ us hl => match us, hl with | [_], _ => rfl
    f_2 := fun_mk (st := s_2) l2 c2 k2
    g_2 := PySem.W.mg_of X G a2
    n_2 := (fun_mk (st := s_2) l2 c2 k2).binds fun _ _ _ _ _ _ us hl => match us, hl with | [_], _ => rfl
    f_3 := fun_mk (st := s_3) l3 c3 k3
    g_3 := PySem.W.mg_of X G a3
    n_3 := (fun_mk (st := s_3) l3 c3 k3).binds fun _ _ _ _ _ _ us hl => match us, hl with | [_], _ => rfl
    f_4 := fun_mk (st := s_4) l4 c4 k4
    g_4 := PySem.W.mg_of X G a4
    n_4 := (fun_mk (st := s_4) l4 c4 k4).binds fun _ _ _ _ _ _ us hl => match us, hl with | [_], _ => rfl
    f_5 := fun_mk (st := s_5) l5 c5 k5
    g_5 := PySem.W.mg_of X G a5
    n_5 := (fun_mk (st := s_5) l5 c5 k5).binds fun _ _ _ _ _ _ us hl => match us, hl with | [_], _ => rfl
    f_9 := fun_mk (st := s_9) l9 c9 k9
    g_9 := PySem.W.mg_of X G a9
    n_9 := (fun_mk (st := s_9) l9 c9 k9).binds fun _ _ _ _ _ _ us hl => match us, hl with | [_], _ => rfl
    f_1000 := fun_mk (st := s_1000) l1000 c1000 k1000
    g_1000 := PySem.W.mg_of X G a1000
    n_1000 := (fun_mk (st := s_1000) l1000 c1000 k1000).binds fun _ _ _ _ _ _ us hl => match us, hl with | [_, _], _ => rfl
    f_1001 := fun_mk (st := s_1001) l1001 c1001 k1001
    g_1001 := PySem.W.mg_of X G a1001
    n_1001 := (fun_mk (st := s_1001) l1001 c1001 k1001).binds fun _ _ _ _ _ _ us hl => match us, hl with | [_, _, _], _ => rfl
    f_1002 := fun_mk (st := s_1002) l1002 c1002 k1002
    g_1002 := PySem.W.mg_of X G a1002
    n_1002 := (fun_mk (st := s_1002) l1002 c1002 k1002).binds fun _ _ _ _ _ _ us hl => match us, hl with | [_, _], _ => rfl
    f_1003 := fun_mk (st := s_1003) l1003 c1003 k1003
    g_1003 := PySem.W.mg_of X G a1003
    n_1003 := (fun_mk (st := s_1003) l1003 c1003 k1003).binds fun _ _ _ _ _ _ us hl => match us, hl with | [_], _ => rfl
    f_1004 := fun_mk (st := s_1004) l1004 c1004 k1004
    g_1004 := PySem.W.mg_of X G a1004
    n_1004 := (fun_mk (st := s_1004) l1004 c1004 k1004).binds fun _ _ _ _ _ _ us hl => match us, hl with | [_, _, _], _ => rfl
    f_1005 := fun_mk (st := s_1005) l1005 c1005 k1005
    g_1005 := PySem.W.mg_of X G a1005
    n_1005 := (fun_mk (st := s_1005) l1005 c1005 k1005).binds fun _ _ _ _ _ _ us hl => match us, hl with | [_, _], _ => rfl
    f_1006 := fun_mk (st := s_1006) l1006 c1006 k1006
    g_1006 := PySem.W.mg_of X G a1006
    n_1006 := (fun_mk (st := s_1006) l1006 c1006 k1006).binds fun _ _ _ _ _ _ us hl => match us, hl with | [_, _, _], _ => rfl
    f_1007 := fun_mk (st := s_1007) l1007 c1007 k1007
    g_1007 := PySem.W.mg_of X G a1007
    n_1007 := (fun_mk (st := s_1007) l1007 c1007 k1007).binds fun _ _ _ _ _ _ us hl => match us, hl with | [_, _], _ => rfl
    f_1008 := fun_mk (st := s_1008) l1008 c1008 k1008
    g_1008 := PySem.W.mg_of X G a1008
    n_1008 := (fun_mk (st := s_1008) l1008 c1008 k1008).binds fun _ _ _ _ _ _ us hl => match us, hl with | [_], _ => rfl
    f_1009 := fun_mk (st := s_1009) l1009 c1009 k1009
    g_1009 := PySem.W.mg_of X G a1009
    n_1009 := (fun_mk (st := s_1009) l1009 c1009 k1009).binds fun _ _ _ _ _ _ us hl => match us, hl with | [_], _ => rfl }
  refine ⟨(PySem.W.fnOf "law" "law" (defArgs s_1009) (defBody s_1009) (defScope s_1009) .none kV1009 dc1009 pm1009 an1009 cd1009 ct1009), fun s v => .of_eq rfl, fun base _ _ => ?_⟩
  exact lawG_imp (cls := fun _ => 0) ((all (P := l.prog) (w := w) (base := base) (cls := fun _ => 0) T 40).k_1009) hlaw
end
section
open PySem L2 DL
/-! ### the law's draws -/
theorem run_cell (n : Nat) (ns : List Int) (k : Nat) (S : List D) : run (n + 1) 1000 [.scr ns, .int k] S = .ok (.int (ns.getD k 0)) S := by
  rw [run_1000]
  by_cases h : k < ns.length
  · have h2 : atI ns (k : Int) = some (ns[k]) := by rw [atI_get?, List.getElem?_eq_getElem h]
    simp [B_1000, h, h2]
  · simp [B_1000, h]
theorem digits_loop1 (n : Nat) (a0 a1 a2 : Sl) (kk : Sl) (b : Sl) : ∀ (xs : List D) (ds : List D) (c : Int), ds.length + xs.length ≤ 1000000 → (∀ d ∈ ds, ∃ i : Int, d = .int i) → 0 ≤ c →
    ∃ es c', forD (.nm 6) [6] (L_1001_1 (run n)) xs [a0, a1, a2, .own (.lst ds), kk, .val (.int c), .non, b] [] = .next [a0, a1, a2, .own (.lst es), kk, .val (.int c'), .non, b] [] ∧ es.length ≤ ds.length + xs.length ∧ (∀ d ∈ es, ∃ i : Int, d = .int i)
  | [], ds, c, h, hd, hc => ⟨ds, c, rfl, Nat.le_refl _, hd⟩
  | x :: xs, ds, c, h, hd, hc => by
    rw [List.length_cons] at h
    have hsz : ds.length < sizeLine := by rw [sizeLine_eq]; omega
    rw [forD]
    by_cases hp : 0 < c
    · obtain ⟨es, c', h1, h2, h3⟩ := digits_loop1 n a0 a1 a2 kk b xs (ds ++ [.int (c % 1000)]) (c / 1000) (by rw [List.length_append, List.length_singleton]; omega) (fun d hm => by
        rcases List.mem_append.mp hm with z | z
        · exact hd d z
        · rw [List.mem_singleton] at z; exact ⟨_, z⟩) (Int.ediv_nonneg hc (by decide))
      refine ⟨es, c', ?_, ?_, h3⟩
      · simp [e_L_1001_1, hp, hsz]
        exact h1
      · rw [List.length_append, List.length_singleton] at h2
        rw [List.length_cons]; omega
    · obtain ⟨es, c', h1, h2, h3⟩ := digits_loop1 n a0 a1 a2 kk b xs ds c (by omega) hd hc
      refine ⟨es, c', ?_, by rw [List.length_cons]; omega, h3⟩
      simp [e_L_1001_1, hp]
      exact h1
theorem digits_loop2 (n : Nat) (a0 a1 a2 : Sl) (kk : Sl) (b : Sl) : ∀ (m : Nat) (lo : Int) (ds : List D) (c : Int), ds.length + m ≤ 1000000 → (∀ d ∈ ds, ∃ i : Int, d = .int i) →
    ∃ es c', forD (.nm 6) [6] (L_1001_2 (run n)) ((List.range' 0 m).map fun (k : Nat) => D.int (lo + k)) [a0, a1, a2, .own (.lst ds), kk, b, .non, .val (.int c)] [] = .next [a0, a1, a2, .own (.lst es), kk, b, .non, .val (.int c')] [] ∧ es.length ≤ ds.length + m ∧ (∀ d ∈ es, ∃ i : Int, d = .int i)
  | 0, lo, ds, c, h, hd => ⟨ds, c, rfl, Nat.le_refl _, hd⟩
  | m + 1, lo, ds, c, h, hd => by
    have hsz : ds.length < sizeLine := by rw [sizeLine_eq]; omega
    obtain ⟨es, c', h1, h2, h3⟩ := digits_loop2 n a0 a1 a2 kk b m (lo + 1) (ds ++ [.int ((((c * 16807 + 7 * lo) + 1) % 2147483647) / 997 % 1000)]) (((c * 16807 + 7 * lo) + 1) % 2147483647) (by rw [List.length_append, List.length_singleton]; omega) (fun d hm => by
        rcases List.mem_append.mp hm with z | z
        · exact hd d z
        · rw [List.mem_singleton] at z; exact ⟨_, z⟩)
    have e : ((List.range' 0 (m + 1)).map fun (k : Nat) => D.int (lo + k)) = .int lo :: ((List.range' 0 m).map fun (k : Nat) => D.int (lo + 1 + k)) := by
      rw [List.range'_succ, List.map_cons]
      have z : List.range' (0 + 1) m = (List.range' 0 m).map (fun x => 1 + x) := by rw [List.map_add_range']
      rw [z, List.map_map]
      simp
      intro a _
      omega
    refine ⟨es, c', ?_, ?_, h3⟩
    · rw [e, forD]
      have k1 : dMul (.int c) (.int 16807) = some (.int (c * 16807)) := dMul_int (by decide)
      have k2 : dMul (.int 7) (.int lo) = some (.int (7 * lo)) := dMul_intl (by decide)
      simp [e_L_1001_2, hsz, k1, k2]
      exact h1
    · rw [List.length_append, List.length_singleton] at h2; omega
theorem rangeD_range' (lo : Int) (n : Nat) : rangeD lo n = (List.range' 0 n).map fun (k : Nat) => D.int (lo + k) := by
  unfold rangeD; rw [List.range_eq_range']
theorem digits_loop3 (n : Nat) (ns : List Int) (m : Nat) : ∀ (k0 : Nat) (ds : List D), ds.length + 60 * m ≤ 1000000 → k0 + m ≤ 63 → (∀ d ∈ ds, ∃ i : Int, d = .int i) →
    ∃ es, forD (.nm 4) [4, 5, 6, 7] (L_1001_3 (run (n + 1))) ((List.range' k0 m).map fun (k : Nat) => D.int k) [.val (.scr ns), .val (.int 0), .val (.int 63), .own (.lst ds), .non, .non, .non, .non] [] = .next [.val (.scr ns), .val (.int 0), .val (.int 63), .own (.lst es), .non, .non, .non, .non] [] ∧ es.length ≤ ds.length + 60 * m ∧ (∀ d ∈ es, ∃ i : Int, d = .int i) := by
  induction m with
  | zero => exact fun k0 ds h hk hd => ⟨ds, rfl, Nat.le_refl _, hd⟩
  | succ m ih =>
    intro k0 ds h hk hd
    rw [List.range'_succ, List.map_cons, forD]
    have hcell : run (n + 1) 1000 [.scr ns, .int (k0 : Int)] [] = .ok (.int (ns.getD k0 0)) [] := run_cell n ns k0 []
    generalize hc : ns.getD k0 0 = c0 at hcell
    -- the cell without its sign
    obtain ⟨c, hcv, hpos⟩ : ∃ c : Int, (if c0 < 0 then 1 - 2 * c0 else c0) = c ∧ 0 ≤ c := ⟨_, rfl, by split <;> omega⟩
    have k1 : dMul (.int 2) (.int c0) = some (.int (2 * c0)) := dMul_intl (by decide)
    have hr : ∀ (x : List D) (es : List D), (∀ d ∈ es, ∃ i : Int, d = .int i) → es.length ≤ ds.length + 60 → ∃ fs, forD (.nm 4) [4, 5, 6, 7] (L_1001_3 (run (n + 1))) ((List.range' (k0 + 1) m).map fun (k : Nat) => D.int k) [.val (.scr ns), .val (.int 0), .val (.int 63), .own (.lst es), .non, .non, .non, .non] [] = .next [.val (.scr ns), .val (.int 0), .val (.int 63), .own (.lst fs), .non, .non, .non, .non] [] ∧ fs.length ≤ ds.length + 60 * (m + 1) ∧ (∀ d ∈ fs, ∃ i : Int, d = .int i) := fun _ es h1 h2 => by
      obtain ⟨fs, e, l, q⟩ := ih (k0 + 1) es (by omega) (by omega) h1
      exact ⟨fs, e, by omega, q⟩
    by_cases hb' : P18 ≤ c
    · obtain ⟨es, c', h1, h2, h3⟩ := digits_loop1 (n + 1) (.val (.scr ns)) (.val (.int 0)) (.val (.int 63)) (.val (.int (k0 : Int))) .non (rangeD 0 60) ds c (by rw [rangeD_len]; omega) hd hpos
      rw [rangeD_len] at h2
      obtain ⟨fs, e, l, q⟩ := hr [] es h3 h2
      refine ⟨fs, ?_, l, q⟩
      have i60 : inR 60 = true := by decide
      by_cases hn : c0 < 0
      · rw [if_pos hn] at hcv
        subst hcv
        simp [e_L_1001_3, hcell, hn, k1, hb', i60, h1, e]
      · rw [if_neg hn] at hcv
        subst hcv
        simp [e_L_1001_3, hcell, hn, k1, hb', i60, h1, e]
    · obtain ⟨es, c', h1, h2, h3⟩ := digits_loop2 (n + 1) (.val (.scr ns)) (.val (.int 0)) (.val (.int 63)) (.val (.int (k0 : Int))) (.val (.int c)) 12 0 ds ((c * 48271 + (k0 : Int) * 69621 + 11) % 2147483647) (by omega) hd
      rw [← rangeD_range'] at h1
      obtain ⟨fs, e, l, q⟩ := hr [] es h3 (by omega)
      refine ⟨fs, ?_, l, q⟩
      have i12 : inR 12 = true := by decide
      have k2 : dMul (.int c) (.int 48271) = some (.int (c * 48271)) := dMul_int (by decide)
      have k3 : dMul (.int (k0 : Int)) (.int 69621) = some (.int ((k0 : Int) * 69621)) := dMul_int (by decide)
      by_cases hn : c0 < 0
      · rw [if_pos hn] at hcv
        subst hcv
        simp [e_L_1001_3, hcell, hn, k1, hb', i12, k2, k3, h1, e]
      · rw [if_neg hn] at hcv
        subst hcv
        simp [e_L_1001_3, hcell, hn, k1, hb', i12, k2, k3, h1, e]
/-- the digits: some ints -/
theorem run_digits (n : Nat) (ns : List Int) : ∃ ds : List Int, run (n + 2) 1001 [.scr ns, .int 0, .int 63] [] = .ok (.lst (ds.map .int)) [] ∧ ds.length ≤ 3780 := by
  obtain ⟨es, h1, h2, h3⟩ := digits_loop3 n ns 63 0 [] (by decide) (by decide) (fun d h => by cases h)
  have e : ∀ es : List D, (∀ d ∈ es, ∃ i : Int, d = .int i) → ∃ ds : List Int, es = ds.map .int := by
    intro es
    induction es with
    | nil => exact fun _ => ⟨[], rfl⟩
    | cons x xs ih =>
      intro h
      obtain ⟨i, rfl⟩ := h x List.mem_cons_self
      obtain ⟨ds, rfl⟩ := ih fun d hd => h d (List.mem_cons_of_mem _ hd)
      exact ⟨i :: ds, rfl⟩
  obtain ⟨ds, rfl⟩ := e es h3
  refine ⟨ds, ?_, by simpa using h2⟩
  rw [run_1001]
  have i0 : inR 0 = true := by decide
  have i63 : inR 63 = true := by decide
  have hr : rangeD 0 63 = (List.range' 0 63).map fun (k : Nat) => D.int k := by unfold rangeD; rw [List.range_eq_range']; simp
  simp [B_1001, i0, i63, hr] at h1 ⊢
  simp [h1]
/-! ### the box -/
def box (ds : List Int) (k : Nat) : D := .lst [.lst (ds.map .int), .int k]
def Bx (S : List D) : Prop := ∃ ds k, S = [box ds k]
theorem run_draw (n : Nat) (m : Int) (hm : 0 < m) (S : List D) (hS : Bx S) : ∃ (r : Int) (S' : List D), run (n + 1) 1002 [.ptr 0, .int m] S = .ok (.int r) S' ∧ Bx S' ∧ 0 ≤ r ∧ r < m := by
  obtain ⟨ds, k, rfl⟩ := hS
  rw [run_1002]
  have a1 : ∀ (x y : D), atI [x, y] 1 = some y := fun x y => rfl
  have a0 : ∀ (x y : D), atI [x, y] 0 = some x := fun x y => rfl
  have x2 : ixN 2 1 = some 1 := rfl
  have hk : (k : Int) + 1 = ((k + 1 : Nat) : Int) := by omega
  by_cases h : k < ds.length
  · have g : atI (ds.map D.int) (k : Int) = some (.int ds[k]) := by rw [atI_get?, List.getElem?_map, List.getElem?_eq_getElem h]; rfl
    refine ⟨ds[k] % m, [box ds (k + 1)], ?_, ⟨ds, k + 1, rfl⟩, Int.emod_nonneg _ (by omega), Int.emod_lt_of_pos _ hm⟩
    simp [B_1002, box, a1, a0, x2, h, g, hm]
  · refine ⟨0, [box ds (k + 1)], ?_, ⟨ds, k + 1, rfl⟩, Int.le_refl _, hm⟩
    simp [B_1002, box, a1, a0, x2, h]
theorem Bx.mk (ds : List Int) : Bx [.lst [.lst (ds.map .int), .int 0]] := ⟨ds, 0, rfl⟩

end
section
open PySem L2 DL
/-! ### messages: what the small defs answer -/
def tag : Nd → Str
  | .text _ => "text"
  | .shw _ => "show"
  | .num => "number"
  | .sel _ _ _ => "select"
  | .plu _ _ _ _ => "plural"
theorem at1_0 (a : D) : atI [a] 0 = some a := rfl
theorem at2_0 (a b : D) : atI [a, b] 0 = some a := rfl
theorem at2_1 (a b : D) : atI [a, b] 1 = some b := rfl
theorem at4_0 (a b c d : D) : atI [a, b, c, d] 0 = some a := rfl
theorem at5_0 (a b c d e : D) : atI [a, b, c, d, e] 0 = some a := rfl
theorem at4_m1 (a b c d : D) : atI [a, b, c, d] (-1) = some d := rfl
theorem at5_m1 (a b c d e : D) : atI [a, b, c, d, e] (-1) = some e := rfl
theorem at4_m2 (a b c d : D) : atI [a, b, c, d] (-2) = some c := rfl
theorem at5_m2 (a b c d e : D) : atI [a, b, c, d, e] (-2) = some d := rfl
@[simp] theorem tag0 (n : Nd) : dIdx (eN n) (.int 0) = some (.str (tag n)) := by cases n <;> rw [eN] <;> rfl
@[simp] theorem text1 (x : Str) : dIdx (eN (.text x)) (.int 1) = some (.str x) := by rw [eN]; rfl
@[simp] theorem ref_eN (n : Nd) (S : List D) : deref S (eN n) = eN n := by cases n <;> rw [eN] <;> rfl
theorem s_tt : (("text" : Str) == "text") = true := by decide +kernel
theorem s_st : (("show" : Str) == "text") = false := by decide +kernel
theorem s_nt : (("number" : Str) == "text") = false := by decide +kernel
theorem s_lt : (("select" : Str) == "text") = false := by decide +kernel
theorem s_pt : (("plural" : Str) == "text") = false := by decide +kernel
theorem tag_text (n : Nd) : (tag n == ("text" : Str)) = isT n := by cases n <;> first | exact s_tt | exact s_st | exact s_nt | exact s_lt | exact s_pt
def isC : Nd → Bool
  | .sel _ _ _ => true
  | .plu _ _ _ _ => true
  | _ => false
theorem in_t : inF (.str "text") [.str "select", .str "plural"] = false := by decide +kernel
theorem in_s : inF (.str "show") [.str "select", .str "plural"] = false := by decide +kernel
theorem in_n : inF (.str "number") [.str "select", .str "plural"] = false := by decide +kernel
theorem in_l : inF (.str "select") [.str "select", .str "plural"] = true := by decide +kernel
theorem in_p : inF (.str "plural") [.str "select", .str "plural"] = true := by decide +kernel
theorem tag_dIn (n : Nd) : dIn (.str (tag n)) (.tup [.str "select", .str "plural"]) = some (isC n) := by
  have h : inF (.str (tag n)) [.str "select", .str "plural"] = isC n := by cases n <;> first | exact in_t | exact in_s | exact in_n | exact in_l | exact in_p
  rw [← h]
  show (if flatD (.str (tag n)) = true ∧ [D.str "select", .str "plural"].all flatD = true then some (inF (.str (tag n)) [.str "select", .str "plural"]) else none) = _
  exact if_pos ⟨rfl, rfl⟩
theorem tag_in (n : Nd) : cIn (.str (tag n)) (.tup [.str "select", .str "plural"]) = some (.bl (isC n)) := by
  unfold cIn; rw [tag_dIn]; rfl
theorem tag_notIn (n : Nd) : cNotIn (.str (tag n)) (.tup [.str "select", .str "plural"]) = some (.bl (!isC n)) := by
  unfold cNotIn; rw [tag_dIn]; rfl
theorem empty_ok : PyData.canLay0 (.str "") = true := by decide +kernel
def isE : Nd → Bool
  | .text x => x == ""
  | _ => false
theorem ne_empty (n : Nd) (h : nOk n = true) (hh : nH n ≤ 10) : cNe (eN n) (.tup [.str "text", .str ""]) = some (.bl (!isE n)) := by
  have e : (.tup [.str "text", .str ""] : D) = eN (.text "") := by rw [eN]
  have d2 : nOk (.text "") = true := by rw [nOk]; exact empty_ok
  have k : dEq (eN n) (eN (.text "")) = some (isE n) := by
    haveI : Decidable (eN n = eN (.text "")) := Classical.propDecidable _
    have dn := nDep n
    have d0 := nDep (.text "")
    rw [dEq_B (nOk_B n h) (nOk_B _ d2) (by omega) (by rw [nH] at d0; omega)]
    congr 1
    rw [Bool.eq_iff_iff, decide_eq_true_iff]
    have q1 : ¬ ("show" : Str) = "text" := by decide +kernel
    cases n with
    | text x => simp [eN, isE]
    | shw x => simp [eN, isE, q1]
    | num => simp [eN, isE]
    | sel x cs o => simp [eN, isE]
    | plu x f cs o => simp [eN, isE]
  rw [e]; unfold cNe; rw [k]; rfl
theorem run_cases (n : Nat) (nd : Nd) (cs : List Cs) (o : List Nd) (S : List D) (h : (∃ x, nd = .sel x cs o) ∨ ∃ x f, nd = .plu x f cs o) : run (n + 1) 1 [eN nd] S = .ok (.lst (eCs cs)) S := by
  rw [run_1]
  rcases h with ⟨x, rfl⟩ | ⟨x, f, rfl⟩ <;> simp [B_1, eN, at4_m2, at5_m2]
theorem run_other (n : Nat) (nd : Nd) (cs : List Cs) (o : List Nd) (S : List D) (h : (∃ x, nd = .sel x cs o) ∨ ∃ x f, nd = .plu x f cs o) : run (n + 1) 2 [eN nd] S = .ok (.lst (eL o)) S := by
  rw [run_2]
  rcases h with ⟨x, rfl⟩ | ⟨x, f, rfl⟩ <;> simp [B_2, eN, at4_m1, at5_m1]
theorem W_le {a : Nat} (h : a ≤ 5000000) : a ≤ sizeLine := Nat.le_trans h (by decide)
/-! plain -/
theorem s0 : ¬ sizeLine = 0 := by decide
theorem ixm1 (k : Nat) : ixN (k + 1) (-1) = some k := by
  unfold ixN
  rw [if_neg (by omega), if_pos (by omega)]
  congr 1; omega
theorem set_last (a : List Nd) (l : Nd) (d : D) : (eL a ++ [eN l]).set a.length d = eL a ++ [d] := by
  rw [List.set_append_right _ _ (by rw [eL_len]; exact Nat.le_refl _), eL_len, Nat.sub_self]; rfl
theorem pl_step (R : Rec) (m0 : D) (acc : List Nd) (n : Nd) (S : List D) (hR : R 4 [eN n] S = .ok (eN (plN n)) S) (h : nOk n = true) (hh : nH n ≤ 10) (hw : lW acc + nW n ≤ 5000000) :
    L_5_1 R [.val m0, .own (.lst (eL acc)), .val (eN n)] S = .next [.val m0, .own (.lst (eL (plS acc n (plN n)))), .val (eN n)] S := by
  have ne := ne_empty n h hh
  have ln := lW_len acc
  have hl : acc.length < sizeLine := Nat.lt_of_le_of_lt (show acc.length ≤ 5000000 by omega) (by decide)
  have tn := tag_text n
  rw [e_L_5_1]
  rcases List.eq_nil_or_concat acc with rfl | ⟨a, l, rfl⟩
  · have one : eL [plN n] = [eN (plN n)] := eL_one _
    cases n with
    | text x =>
      by_cases hx : x = ""
      · subst hx
        simp [tn, isT, ne, isE, plS]
      · have hx2 : (x == "") = false := by simpa using hx
        rw [plN] at hR one
        simp [tn, isT, ne, isE, plS, hx, hx2, hR, one, s0]
    | _ => simp [tn, isT, ne, isE, plS, hR, one, s0]
  · rw [List.concat_eq_append] at hl hw ln ⊢
    have ea : eL (a ++ [l]) = eL a ++ [eN l] := by rw [eL_app, eL_one]
    have la : atI (eL a ++ [eN l]) (-1) = some (eN l) := by rw [atI_neg1, List.getLast?_concat]
    have tl := tag_text l
    have hl2 : a.length + 1 < sizeLine := by rw [List.length_append] at hl; exact hl
    have ix := ixm1 a.length
    have st := set_last a l
    have e2 : ∀ z, eL (a ++ [l, z]) = eL a ++ [eN l, eN z] := fun z => by rw [eL_app, eL, eL_one]
    have e3 : ∀ z, eL (a ++ [z]) = eL a ++ [eN z] := fun z => by rw [eL_app, eL_one]
    rw [plS_concat]
    cases n with
    | text x =>
      cases l with
      | text y =>
        have sz : y.length + x.length ≤ sizeLine := W_le (by
          rw [lW_app] at hw
          simp only [lW, nW] at hw; omega)
        have da : dAdd (.str y) (.str x) = some (.str (y ++ x)) := if_pos sz
        have en : eN (.text (y ++ x)) = .tup [.str "text", .str (y ++ x)] := by rw [eN]
        simp [tn, isT, ne, isE, ea, la, tl, ix, st, da, e3, en]
      | _ =>
        by_cases hx : x = ""
        · subst hx
          simp [tn, isT, ne, isE, ea, la, tl]
        · have hx2 : (x == "") = false := by simpa using hx
          rw [plN] at hR
          simp [tn, isT, ne, isE, ea, la, tl, hx, hx2, hR, hl2, e2]
    | _ => simp [tn, isT, ne, isE, ea, la, tl, hR, hl2, e2]

end
section
open PySem L2 DL
/-! plain: weights -/
theorem lW_one (n : Nd) : lW [n] = nW n := by rw [lW, lW]; rfl
theorem plS_W (acc : List Nd) (n n' : Nd) (h : nW n' ≤ nW n) : lW (plS acc n n') ≤ lW acc + nW n := by
  rcases List.eq_nil_or_concat acc with rfl | ⟨a, l, rfl⟩
  · cases n with
    | text x =>
      rw [plS_nil]
      simp only
      split
      · rw [lW]; omega
      · rw [lW_one]; omega
    | _ => rw [plS_nil]; simp only; rw [lW_one]; omega
  · rw [List.concat_eq_append, plS_concat]
    cases n with
    | text x =>
      cases l with
      | text y =>
        simp only
        rw [lW_app, lW_app, lW_one, lW_one, nW, nW, nW, strLen_append]; omega
      | _ =>
        simp only
        split
        · omega
        · rw [lW_app, lW_one]; omega
    | _ => simp only; rw [lW_app _ [_], lW_one]; omega
mutual
theorem plN_W : ∀ n : Nd, nW (plN n) ≤ nW n
  | .text x => by rw [plN]; exact Nat.le_refl _
  | .shw n => by rw [plN]; exact Nat.le_refl _
  | .num => by rw [plN]; exact Nat.le_refl _
  | .sel n cs o => by
    have h1 := plCs_W cs
    have h2 := plA_W [] o
    rw [lW] at h2
    rw [plN, nW, nW]; omega
  | .plu n f cs o => by
    have h1 := plCs_W cs
    have h2 := plA_W [] o
    rw [lW] at h2
    rw [plN, nW, nW]; omega
theorem plA_W : ∀ (acc m : List Nd), lW (plA acc m) ≤ lW acc + lW m
  | acc, [] => by rw [plA]; omega
  | acc, n :: r => by
    have h1 := plN_W n
    have h2 := plA_W (plS acc n (plN n)) r
    have h3 := plS_W acc n (plN n) h1
    rw [plA, lW]; omega
theorem plC_W : ∀ c : Cs, cW (plC c) ≤ cW c
  | .mk k m => by
    have h2 := plA_W [] m
    rw [lW] at h2
    rw [plC, cW, cW]; omega
theorem plCs_W : ∀ m : List Cs, csW (plCs m) ≤ csW m
  | [] => by rw [plCs]; exact Nat.le_refl _
  | c :: r => by
    have h1 := plC_W c
    have h2 := plCs_W r
    rw [plCs, csW, csW]; omega
end
theorem pl_loop (R : Rec) (m0 : D) (S : List D) : ∀ (m acc : List Nd), (∀ n ∈ m, R 4 [eN n] S = .ok (eN (plN n)) S) → lOk m = true → lH m ≤ 10 → lW acc + lW m ≤ 5000000 →
    forD (.nm 2) [2] (L_5_1 R) (eL m) [.val m0, .own (.lst (eL acc)), .non] S = .next [.val m0, .own (.lst (eL (plA acc m))), .non] S
  | [], acc, _, _, _, _ => by rw [eL, plA, forD]
  | n :: r, acc, hR, ho, hh, hw => by
    rw [lOk, Bool.and_eq_true] at ho
    rw [lH] at hh
    rw [lW] at hw
    have hs := pl_step R m0 acc n S (hR n List.mem_cons_self) ho.1 (by omega) (by omega)
    have ih := pl_loop R m0 S r (plS acc n (plN n)) (fun x hx => hR x (List.mem_cons_of_mem _ hx)) ho.2 (by omega) (by have := plS_W acc n (plN n) (plN_W n); omega)
    rw [eL, plA, forD, x_bnm]
    simp only [List.set]
    rw [hs]
    simp only [x_clr1, x_clr0, List.set]
    exact ih
theorem mem_lOk {m : List Nd} {n : Nd} (h : n ∈ m) (ho : lOk m = true) : nOk n = true := by
  induction m with
  | nil => cases h
  | cons x r ih =>
    rw [lOk, Bool.and_eq_true] at ho
    rcases List.mem_cons.mp h with rfl | h
    · exact ho.1
    · exact ih h ho.2
theorem mem_lH {m : List Nd} {n : Nd} (h : n ∈ m) : nH n ≤ lH m := by
  induction m with
  | nil => cases h
  | cons x r ih =>
    rw [lH]
    rcases List.mem_cons.mp h with rfl | h
    · omega
    · have := ih h; omega
theorem mem_lW {m : List Nd} {n : Nd} (h : n ∈ m) : nW n ≤ lW m := by
  induction m with
  | nil => cases h
  | cons x r ih =>
    rw [lW]
    rcases List.mem_cons.mp h with rfl | h
    · omega
    · have := ih h; omega
theorem mem_csOk {m : List Cs} {n : Cs} (h : n ∈ m) (ho : csOk m = true) : cOk n = true := by
  induction m with
  | nil => cases h
  | cons x r ih =>
    rw [csOk, Bool.and_eq_true] at ho
    rcases List.mem_cons.mp h with rfl | h
    · exact ho.1
    · exact ih h ho.2
theorem mem_csH {m : List Cs} {n : Cs} (h : n ∈ m) : cH n ≤ csH m := by
  induction m with
  | nil => cases h
  | cons x r ih =>
    rw [csH]
    rcases List.mem_cons.mp h with rfl | h
    · omega
    · have := ih h; omega
theorem mem_csW {m : List Cs} {n : Cs} (h : n ∈ m) : cW n ≤ csW m := by
  induction m with
  | nil => cases h
  | cons x r ih =>
    rw [csW]
    rcases List.mem_cons.mp h with rfl | h
    · omega
    · have := ih h; omega
def cKey : Cs → Ky | .mk k _ => k
def cMsg : Cs → List Nd | .mk _ m => m
theorem eC1_eq (c : Cs) : eC1 c = .tup [eK (cKey c), .lst (eL (cMsg c))] := by cases c; rw [eC1]; rfl
@[simp] theorem ref_eK (k : Ky) (S : List D) : deref S (eK k) = eK k := by cases k <;> rfl
/-- a comprehension over cases -/
theorem comp_cases {ε : De} {Γ : List Sl} {S : List D} {i j : Nat} (f : Cs → D) (cs : List Cs) (h : ∀ c ∈ cs, ε ((Γ.set i (.val (eK (cKey c)))).set j (.val (.lst (eL (cMsg c))))) S = .ok (f c) S) :
    compD (.tp [.nm i, .nm j]) tTrue ε (eCs cs) Γ S = .ok (cs.map f) S := by
  have key : ∀ (xs : List Cs), (∀ c ∈ xs, c ∈ cs) → compD (.tp [.nm i, .nm j]) tTrue ε (eCs xs) Γ S = .ok (xs.map f) S := fun xs => by
    induction xs with
    | nil => intro _; rw [eCs]; rfl
    | cons c r ih =>
      intro hm
      have hc := h c (hm c List.mem_cons_self)
      have hr := ih fun x hx => hm x (List.mem_cons_of_mem _ hx)
      rw [eCs, compD, eC1_eq]
      simp [hc, hr]
  exact key cs fun c h => h
theorem lenOk_le {ds : List D} (h : ds.length ≤ 5000000) : lenOk ds = some (.lst ds) := if_pos (W_le h)
theorem pn_choice (R : Rec) (S : List D) (nd : Nd) (cs : List Cs) (o : List Nd) (h : (∃ x, nd = .sel x cs o) ∨ ∃ x f, nd = .plu x f cs o)
    (h1 : R 1 [eN nd] S = .ok (.lst (eCs cs)) S) (h2 : R 2 [eN nd] S = .ok (.lst (eL o)) S) (hc : ∀ c ∈ cs, R 5 [.lst (eL (cMsg c))] S = .ok (.lst (eL (plA [] (cMsg c)))) S) (ho : R 5 [.lst (eL o)] S = .ok (.lst (eL (plA [] o))) S) (hl : cs.length ≤ 5000000) :
    B_4 R [eN nd] S = .ok (eN (plN nd)) S := by
  have comp := comp_cases (ε := C_4_1 R) (Γ := [.val (eN nd), .non, .non, .non]) (S := S) (i := 2) (j := 3) (fun c => eC1 (plC c)) cs fun c hcm => by
    have := hc c hcm
    cases c with
    | mk k m =>
      simp only [cMsg, cKey] at this ⊢
      simp [e_C_4_1, this, plC, eC1]
  have em : cs.map (fun c => eC1 (plC c)) = eCs (plCs cs) := by rw [eCs_map, plCs_map, List.map_map]; rfl
  rw [em] at comp
  have lk : lenOk (eCs (plCs cs)) = some (.lst (eCs (plCs cs))) := lenOk_le (by rw [eCs_len, plCs_map, List.length_map]; exact hl)
  have tg := tag_notIn nd
  have ic : isC nd = true := by rcases h with ⟨x, rfl⟩ | ⟨x, f, rfl⟩ <;> rfl
  rcases h with ⟨x, rfl⟩ | ⟨x, f, rfl⟩
  · have c1 : dCut (eN (.sel x cs o)) none (some (-2)) = some (.tup [.str "select", .str x]) := by rw [eN]; rfl
    have c2 : dAdd (.tup [.str "select", .str x]) (.tup [.lst (eCs (plCs cs)), .lst (eL (plA [] o))]) = some (.tup [.str "select", .str x, .lst (eCs (plCs cs)), .lst (eL (plA [] o))]) := rfl
    rw [plN, show eN (.sel x (plCs cs) (plA [] o)) = .tup [.str "select", .str x, .lst (eCs (plCs cs)), .lst (eL (plA [] o))] by rw [eN]]
    simp [B_4, tg, ic, h1, comp, lk, c1, h2, ho, c2]
  · have c1 : dCut (eN (.plu x f cs o)) none (some (-2)) = some (.tup [.str "plural", .str x, .int f]) := by rw [eN]; rfl
    have c2 : dAdd (.tup [.str "plural", .str x, .int f]) (.tup [.lst (eCs (plCs cs)), .lst (eL (plA [] o))]) = some (.tup [.str "plural", .str x, .int f, .lst (eCs (plCs cs)), .lst (eL (plA [] o))]) := rfl
    rw [plN, show eN (.plu x f (plCs cs) (plA [] o)) = .tup [.str "plural", .str x, .int f, .lst (eCs (plCs cs)), .lst (eL (plA [] o))] by rw [eN]]
    simp [B_4, tg, ic, h1, comp, lk, c1, h2, ho, c2]
theorem plain_both : ∀ n : Nat, (∀ (nd : Nd) (S : List D), nOk nd = true → nH nd ≤ 10 → nW nd ≤ 5000000 → 2 * nH nd + 1 ≤ n → run n 4 [eN nd] S = .ok (eN (plN nd)) S) ∧
    (∀ (m : List Nd) (S : List D), lOk m = true → lH m ≤ 10 → lW m ≤ 5000000 → 2 * lH m + 2 ≤ n → run n 5 [.lst (eL m)] S = .ok (.lst (eL (plA [] m))) S)
  | 0 => ⟨fun nd S _ _ _ h => by omega, fun m S _ _ _ h => by omega⟩
  | n + 1 => by
    obtain ⟨ih1, ih2⟩ := plain_both n
    refine ⟨fun nd S ho hh hw hn => ?_, fun m S ho hh hw hn => ?_⟩
    · rw [run_4]
      have ch : ∀ (cs : List Cs) (o : List Nd), ((∃ x, nd = .sel x cs o) ∨ ∃ x f, nd = .plu x f cs o) → csOk cs = true → lOk o = true → nH nd = max (csH cs) (lH o) + 1 → csW cs + lW o ≤ nW nd → B_4 (run n) [eN nd] S = .ok (eN (plN nd)) S := fun cs o hd oc oo e1 e2 => by
        obtain ⟨k, rfl⟩ : ∃ k, n = k + 1 := ⟨n - 1, by omega⟩
        have cl := csW_len cs
        refine pn_choice (run (k + 1)) S nd cs o hd (run_cases k nd cs o S hd) (run_other k nd cs o S hd) (fun c hc => ?_) (ih2 o S oo (by omega) (by omega) (by omega)) (by omega)
        have a1 := mem_csOk hc oc
        have a2 := mem_csH hc
        have a3 := mem_csW hc
        cases c with
        | mk k2 m2 =>
          rw [cOk, Bool.and_eq_true] at a1
          rw [cH] at a2
          rw [cW] at a3
          exact ih2 m2 S a1.2 (by omega) (by omega) (by omega)
      have tg := tag_notIn nd
      cases nd with
      | text x => simp [B_4, tg, isC, plN]
      | shw x => simp [B_4, tg, isC, plN]
      | num => simp [B_4, tg, isC, plN]
      | sel x cs o =>
        rw [nOk, Bool.and_eq_true, Bool.and_eq_true] at ho
        exact ch cs o (.inl ⟨x, rfl⟩) ho.1.2 ho.2 (by rw [nH]) (by rw [nW]; omega)
      | plu x f cs o =>
        rw [nOk, Bool.and_eq_true, Bool.and_eq_true, Bool.and_eq_true] at ho
        exact ch cs o (.inr ⟨x, f, rfl⟩) ho.1.2 ho.2 (by rw [nH]) (by rw [nW]; omega)
    · rw [run_5]
      have lp := pl_loop (run n) (.lst (eL m)) S m [] (fun nd hx => ih1 nd S (mem_lOk hx ho) (by have := mem_lH hx; omega) (by have := mem_lW hx; omega) (by have := mem_lH hx; omega)) ho hh (by rw [lW]; omega)
      rw [eL_nil] at lp
      simp [B_5, lp]

end
section
open PySem L2 DL
/-! ### sizes and inner messages -/
def inner : Nd → List (List Nd)
  | .sel _ cs o => cs.map cMsg ++ [o]
  | .plu _ _ cs o => cs.map cMsg ++ [o]
  | .text _ => []
  | .shw _ => []
  | .num => []
def eM (m : List Nd) : D := .lst (eL m)
@[simp] theorem ref_eM (m : List Nd) (S : List D) : deref S (eM m) = eM m := rfl
theorem comp_msgs (cs : List Cs) (ε : De) (Γ : List Sl) (S : List D) (i j : Nat) (h : ∀ c ∈ cs, ε ((Γ.set i (.val (eK (cKey c)))).set j (.val (.lst (eL (cMsg c))))) S = .ok (eM (cMsg c)) S) :
    compD (.tp [.nm i, .nm j]) tTrue ε (eCs cs) Γ S = .ok ((cs.map cMsg).map eM) S := by
  rw [comp_cases (fun c => eM (cMsg c)) cs h, List.map_map]; rfl
theorem run_inner (n : Nat) (nd : Nd) (S : List D) (hw : nW nd ≤ 5000000) : run (n + 2) 3 [eN nd] S = .ok (.lst ((inner nd).map eM)) S := by
  rw [run_3]
  have tg := tag_notIn nd
  have ch : ∀ (cs : List Cs) (o : List Nd), ((∃ x, nd = .sel x cs o) ∨ ∃ x f, nd = .plu x f cs o) → cs.length ≤ 4000000 → isC nd = true → inner nd = cs.map cMsg ++ [o] → B_3 (run (n + 1)) [eN nd] S = .ok (.lst ((inner nd).map eM)) S := fun cs o hd hl ic e => by
    have r1 := run_cases n nd cs o S hd
    have r2 := run_other n nd cs o S hd
    have comp := comp_msgs cs (C_3_1 (run (n + 1))) [.val (eN nd), .non, .non] S 1 2 fun c hc => by simp [e_C_3_1, eM]
    have lk : lenOk ((cs.map cMsg).map eM) = some (.lst ((cs.map cMsg).map eM)) := lenOk_le (by simp only [List.length_map]; omega)
    have ad : dAdd (.lst ((cs.map cMsg).map eM)) (.lst [.lst (eL o)]) = some (.lst ((cs.map cMsg).map eM ++ [.lst (eL o)])) := if_pos (W_le (by simp only [List.length_map, List.length_cons, List.length_nil]; omega))
    have em : (inner nd).map eM = (cs.map cMsg).map eM ++ [.lst (eL o)] := by rw [e, List.map_append]; rfl
    rw [em]
    simp only [List.map_map] at comp lk ad ⊢
    simp [B_3, tg, ic, r1, comp, lk, r2, ad]
  cases nd with
  | text x => simp [B_3, tg, isC, inner]
  | shw x => simp [B_3, tg, isC, inner]
  | num => simp [B_3, tg, isC, inner]
  | sel x cs o =>
    have cl := csW_len cs
    rw [nW] at hw
    exact ch cs o (.inl ⟨x, rfl⟩) (by omega) rfl rfl
  | plu x f cs o =>
    have cl := csW_len cs
    rw [nW] at hw
    exact ch cs o (.inr ⟨x, f, rfl⟩) (by omega) rfl rfl
mutual
def szN : Nd → Nat
  | .text x => x.length
  | .shw _ => 1
  | .num => 1
  | .sel _ cs o => 1 + szCs cs + szL o
  | .plu _ _ cs o => 1 + szCs cs + szL o
def szL : List Nd → Nat
  | [] => 0
  | n :: r => szN n + szL r
def szC : Cs → Nat
  | .mk _ m => szL m
def szCs : List Cs → Nat
  | [] => 0
  | c :: r => szC c + szCs r
end
theorem szC_eq (c : Cs) : szC c = szL (cMsg c) := by cases c; rw [szC]; rfl
theorem szCs_sum (cs : List Cs) : ((cs.map cMsg).map fun m => (szL m : Int)).sum = (szCs cs : Int) := by
  induction cs with
  | nil => rw [szCs]; rfl
  | cons c r ih => rw [List.map_cons, List.map_cons, List.sum_cons, ih, szCs, szC_eq, Int.natCast_add]
theorem inner_sum (nd : Nd) (h : isC nd = true) : 1 + ((inner nd).map fun m => (szL m : Int)).sum = (szN nd : Int) := by
  cases nd with
  | text x => cases h
  | shw x => cases h
  | num => cases h
  | sel x cs o => rw [inner, List.map_append, List.sum_append, szCs_sum, szN]; simp; omega
  | plu x f cs o => rw [inner, List.map_append, List.sum_append, szCs_sum, szN]; simp; omega
theorem inner_nil (nd : Nd) (h : isC nd = false) : inner nd = [] := by cases nd <;> first | rfl | cases h
theorem inner_facts (nd : Nd) : ∀ m ∈ inner nd, lH m + 1 ≤ nH nd ∧ lW m ≤ nW nd := fun m hm => by
  have key : ∀ (cs : List Cs) (o : List Nd), m ∈ cs.map cMsg ++ [o] → lH m ≤ max (csH cs) (lH o) ∧ lW m ≤ csW cs + lW o := fun cs o h => by
    rcases List.mem_append.mp h with h | h
    · obtain ⟨c, hc, rfl⟩ := List.mem_map.mp h
      have a2 := mem_csH hc
      have a3 := mem_csW hc
      cases c with
      | mk k m2 =>
        rw [cH] at a2
        rw [cW] at a3
        simp only [cMsg]
        omega
    · obtain rfl := List.mem_singleton.mp h
      omega
  cases nd with
  | text x => cases hm
  | shw x => cases hm
  | num => cases hm
  | sel x cs o => have := key cs o hm; rw [nH, nW]; omega
  | plu x f cs o => have := key cs o hm; rw [nH, nW]; omega
theorem inner_len (nd : Nd) (hw : nW nd ≤ 5000000) : (inner nd).length ≤ 5000000 := by
  cases nd with
  | text x => exact Nat.zero_le _
  | shw x => exact Nat.zero_le _
  | num => exact Nat.zero_le _
  | sel x cs o =>
    have cl := csW_len cs
    rw [nW] at hw
    simp [inner]; omega
  | plu x f cs o =>
    have cl := csW_len cs
    rw [nW] at hw
    simp [inner]; omega
theorem comp_sizes {ε : De} {Γ : List Sl} {S : List D} {i : Nat} (ms : List (List Nd)) (h : ∀ m ∈ ms, ε (Γ.set i (.val (eM m))) S = .ok (.int (szL m)) S) :
    compD (.nm i) tTrue ε (ms.map eM) Γ S = .ok ((ms.map fun m => (szL m : Int)).map D.int) S := by
  induction ms with
  | nil => rfl
  | cons m r ih =>
    have hm := h m List.mem_cons_self
    have hr := ih fun x hx => h x (List.mem_cons_of_mem _ hx)
    rw [List.map_cons, compD]
    simp [hm] at hr ⊢
    simp [hr]
theorem sz_step (n : Nat) (m0 : D) (t : Nat) (nd : Nd) (S : List D) (hw : nW nd ≤ 5000000) (hR : ∀ m ∈ inner nd, run (n + 2) 9 [eM m] S = .ok (.int (szL m)) S) :
    L_9_2 (run (n + 2)) [.val m0, .val (.int t), .val (eN nd), .non] S = .next [.val m0, .val (.int ((t + szN nd : Nat) : Int)), .val (eN nd), .non] S := by
  have tn := tag_text nd
  have ri := run_inner n nd S hw
  have comp := comp_sizes (ε := C_9_1 (run (n + 2))) (Γ := [.val m0, .val (.int t), .val (eN nd), .non]) (S := S) (i := 3) (inner nd) fun m hm => by simp [e_C_9_1, hR m hm]
  have il := inner_len nd hw
  have lk : lenOk ((inner nd |>.map fun m => (szL m : Int)).map D.int) = some (.lst ((inner nd |>.map fun m => (szL m : Int)).map D.int)) := lenOk_le (by simp only [List.length_map]; exact il)
  have sm := dSum_map ((inner nd).map fun m => (szL m : Int))
  have is := inner_sum nd
  have ie := inner_nil nd
  rw [e_L_9_2]
  have ai : ∀ i j : Int, dAddI (.int i) (.int j) = some (.int (i + j)) := fun _ _ => rfl
  have ad : ∀ i j : Int, dAdd (.int i) (.int j) = some (.int (i + j)) := fun _ _ => rfl
  have oth : isT nd = false → 1 + ((inner nd).map fun m => (szL m : Int)).sum = (szN nd : Int) := fun ht => by
    cases nd with
    | text x => cases ht
    | shw x => rw [szN]; rfl
    | num => rw [szN]; rfl
    | sel x cs o => exact is rfl
    | plu x f cs o => exact is rfl
  by_cases ht : isT nd = true
  · cases nd with
    | text x =>
      have xl : x.length ≤ sizeLine := W_le (by rw [nW] at hw; omega)
      have dl : dLen (.str x) = some (.int (x.length : Int)) := if_pos xl
      simp [tn, isT, dl, ai, szN]
    | _ => cases ht
  · have ht : isT nd = false := by simpa using ht
    have o := oth ht
    simp only [List.map_map] at comp lk sm o
    simp [tn, ht, ri, comp, lk, sm, ad, ai, o]
theorem sz_loop (n : Nat) (m0 : D) (S : List D) : ∀ (m : List Nd) (t : Nat), lW m ≤ 5000000 → (∀ nd ∈ m, ∀ k ∈ inner nd, run (n + 2) 9 [eM k] S = .ok (.int (szL k)) S) →
    forD (.nm 2) [2] (L_9_2 (run (n + 2))) (eL m) [.val m0, .val (.int t), .non, .non] S = .next [.val m0, .val (.int ((t + szL m : Nat) : Int)), .non, .non] S
  | [], t, _, _ => by rw [eL, szL, forD]; rfl
  | nd :: r, t, hw, hR => by
    rw [lW] at hw
    have hs := sz_step n m0 t nd S (by omega) (hR nd List.mem_cons_self)
    have ih := sz_loop n m0 S r (t + szN nd) (by omega) (fun x hx => hR x (List.mem_cons_of_mem _ hx))
    rw [eL, szL, forD, x_bnm]
    simp only [List.set]
    rw [hs]
    simp only [x_clr1, x_clr0, List.set]
    rw [ih, Nat.add_assoc]
theorem run_size : ∀ (n : Nat) (m : List Nd) (S : List D), lW m ≤ 5000000 → lH m + 3 ≤ n → run n 9 [eM m] S = .ok (.int (szL m)) S
  | 0, m, S, _, h => by omega
  | n + 1, m, S, hw, hn => by
    obtain ⟨k, rfl⟩ : ∃ k, n = k + 2 := ⟨n - 2, by omega⟩
    rw [run_9]
    have lp := sz_loop k (eM m) S m 0 hw fun nd hx q hq => by
      have f := inner_facts nd q hq
      have h1 := mem_lH hx
      have h2 := mem_lW hx
      exact run_size (k + 2) q S (by omega) (by omega)
    rw [Nat.zero_add] at lp
    unfold eM at lp ⊢
    simp [B_9] at lp ⊢
    simp [lp]
/-! the law's own -/
theorem lsz_cases (R : Rec) (S : List D) (v0 v2 : Sl) : ∀ (cs : List Cs) (t : Nat), (∀ c ∈ cs, R 1008 [eM (cMsg c)] S = .ok (.int (szL (cMsg c))) S) →
    forD (.tp [.nm 3, .nm 4]) [3, 4] (L_1008_1 R) (eCs cs) [v0, .val (.int t), v2, .non, .non] S = .next [v0, .val (.int ((t + szCs cs : Nat) : Int)), v2, .non, .non] S
  | [], t, _ => by rw [eCs, szCs, forD]; rfl
  | c :: r, t, h => by
    have hc := h c List.mem_cons_self
    have ih := lsz_cases R S v0 v2 r (t + szC c) fun x hx => h x (List.mem_cons_of_mem _ hx)
    rw [eCs, forD, eC1_eq]
    rw [szC_eq] at ih
    unfold eM at hc
    have ad : ∀ i j : Int, dAdd (.int i) (.int j) = some (.int (i + j)) := fun _ _ => rfl
    simp [e_L_1008_1, hc, ad] at ih ⊢
    rw [ih, szCs, szC_eq]
    simp [Int.add_assoc]
theorem lsz_step (R : Rec) (m0 : D) (t : Nat) (nd : Nd) (S : List D) (hw : nW nd ≤ 5000000) (hR : ∀ m ∈ inner nd, R 1008 [eM m] S = .ok (.int (szL m)) S) :
    L_1008_2 R [.val m0, .val (.int t), .val (eN nd), .non, .non] S = .next [.val m0, .val (.int ((t + szN nd : Nat) : Int)), .val (eN nd), .non, .non] S := by
  have tn := tag_text nd
  have tg := tag_in nd
  have ad : ∀ i j : Int, dAdd (.int i) (.int j) = some (.int (i + j)) := fun _ _ => rfl
  have ch : ∀ (cs : List Cs) (o : List Nd), inner nd = cs.map cMsg ++ [o] → isC nd = true → isT nd = false → szN nd = 1 + szCs cs + szL o → dIdx (eN nd) (.int (-2)) = some (.lst (eCs cs)) → dIdx (eN nd) (.int (-1)) = some (.lst (eL o)) →
      L_1008_2 R [.val m0, .val (.int t), .val (eN nd), .non, .non] S = .next [.val m0, .val (.int ((t + szN nd : Nat) : Int)), .val (eN nd), .non, .non] S := fun cs o e ic it es i2 i1 => by
    have lp := lsz_cases R S (.val m0) (.val (eN nd)) cs (t + 1) fun c hc => hR _ (by rw [e]; exact List.mem_append_left _ (List.mem_map_of_mem hc))
    have ho := hR o (by rw [e]; exact List.mem_append_right _ List.mem_cons_self)
    unfold eM at ho
    rw [e_L_1008_2, es]
    simp [tn, it, tg, ic, i2, i1, ad, ho] at lp ⊢
    simp [lp, ad, ho, i1, Int.add_assoc]
  cases nd with
  | text x =>
    have xl : x.length ≤ sizeLine := W_le (by rw [nW] at hw; omega)
    have dl : dLen (.str x) = some (.int (x.length : Int)) := if_pos xl
    rw [e_L_1008_2]
    simp [tn, tg, isT, isC, dl, ad, szN]
  | shw x => rw [e_L_1008_2]; simp [tn, tg, isT, isC, ad, szN]
  | num => rw [e_L_1008_2]; simp [tn, tg, isT, isC, ad, szN]
  | sel x cs o => exact ch cs o rfl rfl rfl (by rw [szN]) (by rw [eN]; rfl) (by rw [eN]; rfl)
  | plu x f cs o => exact ch cs o rfl rfl rfl (by rw [szN]) (by rw [eN]; rfl) (by rw [eN]; rfl)
theorem lsz_loop (R : Rec) (m0 : D) (S : List D) : ∀ (m : List Nd) (t : Nat), lW m ≤ 5000000 → (∀ nd ∈ m, ∀ k ∈ inner nd, R 1008 [eM k] S = .ok (.int (szL k)) S) →
    forD (.nm 2) [2, 3, 4] (L_1008_2 R) (eL m) [.val m0, .val (.int t), .non, .non, .non] S = .next [.val m0, .val (.int ((t + szL m : Nat) : Int)), .non, .non, .non] S
  | [], t, _, _ => by rw [eL, szL, forD]; rfl
  | nd :: r, t, hw, hR => by
    rw [lW] at hw
    have hs := lsz_step R m0 t nd S (by omega) (hR nd List.mem_cons_self)
    have ih := lsz_loop R m0 S r (t + szN nd) (by omega) (fun x hx => hR x (List.mem_cons_of_mem _ hx))
    rw [eL, szL, forD, x_bnm]
    simp only [List.set]
    rw [hs]
    simp only [x_clr1, x_clr0, List.set]
    rw [ih, Nat.add_assoc]
theorem run_lsize : ∀ (n : Nat) (m : List Nd) (S : List D), lW m ≤ 5000000 → lH m + 1 ≤ n → run n 1008 [eM m] S = .ok (.int (szL m)) S
  | 0, m, S, _, h => by omega
  | n + 1, m, S, hw, hn => by
    rw [run_1008]
    have lp := lsz_loop (run n) (eM m) S m 0 hw fun nd hx q hq => by
      have f := inner_facts nd q hq
      have h1 := mem_lH hx
      have h2 := mem_lW hx
      exact run_lsize n q S (by omega) (by omega)
    rw [Nat.zero_add] at lp
    unfold eM at lp ⊢
    simp [B_1008] at lp ⊢
    simp [lp]

end
section
open PySem L2 DL
/-! ### messages that are drawn -/
structure GM (d w : Nat) (m : List Nd) : Prop where
  g : gL m
  ok : lOk m = true
  h : lH m ≤ d
  w : lW m ≤ w
def txts : List Str := ["a", "b ", " files", "'", "{x}", "#", "a'{'", "1\n2", "other {", "~"]
theorem txts_ok : ∀ x ∈ txts, sOk x = true ∧ x.length ≤ 10 ∧ x ≠ "" := by
  have h : txts.all (fun x => sOk x && decide (x.length ≤ 10) && decide (x ≠ "")) = true := by decide +kernel
  intro x hx
  have := List.all_eq_true.mp h x hx
  simpa [and_assoc] using this
theorem run_string (n : Nat) (S : List D) (hS : Bx S) : ∃ (x : Str) (S' : List D), run (n + 2) 1003 [.ptr 0] S = .ok (.str x) S' ∧ Bx S' ∧ sOk x = true ∧ x.length ≤ 10 ∧ x ≠ "" := by
  rw [run_1003]
  obtain ⟨r, S1, h1, hS1, r0, r1⟩ := run_draw n 10 (by decide) S hS
  obtain ⟨x, hx, e⟩ := pickS (xs := txts) r0 (by exact r1)
  have e2 : atI [D.str "a", .str "b ", .str " files", .str "'", .str "{x}", .str "#", .str "a'{'", .str "1\n2", .str "other {", .str "~"] r = some (.str x) := e
  exact ⟨x, S1, by simp [B_1003, h1, e2], hS1, txts_ok x hx⟩
theorem names_ok : ∀ x ∈ (["w", "kind", "n", "count", "who"] : List Str), sOk x = true ∧ x.length ≤ 10 := by
  have h : (["w", "kind", "n", "count", "who"] : List Str).all (fun x => sOk x && decide (x.length ≤ 10)) = true := by decide +kernel
  intro x hx
  have := List.all_eq_true.mp h x hx
  simpa using this
/-- what a message's maker promises -/
def MkM (R : Rec) (d w : Nat) : Prop := ∀ (ins : Bool) (S : List D), Bx S → ∃ (m : List Nd) (S' : List D), R 1006 [.ptr 0, .int d, .bl ins] S = .ok (eM m) S' ∧ Bx S' ∧ GM d w m
structure GC (d w j : Nat) (cs : List Cs) : Prop where
  g : gCs cs
  ok : csOk cs = true
  h : csH cs ≤ d
  w : csW cs ≤ j * w
  l : cs.length ≤ j
theorem GC.nil (d w : Nat) : GC d w 0 [] := ⟨by rw [gCs]; trivial, by rw [csOk], by rw [csH]; omega, by rw [csW]; omega, Nat.le_refl _⟩
theorem GC.more {d w j : Nat} {cs : List Cs} (h : GC d w j cs) : GC d w (j + 1) cs := ⟨h.g, h.ok, h.h, by have := h.w; rw [Nat.succ_mul]; omega, by have := h.l; omega⟩
theorem GC.snoc {d w j : Nat} {cs : List Cs} {k : Ky} {m : List Nd} (h : GC d (w + 100) j cs) (hk : kOk k = true) (hkw : kW k ≤ 70) (hm : GM d w m) : GC d (w + 100) (j + 1) (cs ++ [.mk k m]) where
  g := gCs_snoc h.g (by rw [gC]; exact hm.g)
  ok := by rw [csOk_app, h.ok, csOk, csOk, cOk, hk, hm.ok]; rfl
  h := by have := h.h; have := hm.h; rw [csH_app, csH, csH, cH]; omega
  w := by have := h.w; have := hm.w; rw [csW_app, csW, csW, cW, Nat.succ_mul]; omega
  l := by have := h.l; rw [List.length_append]; show cs.length + 1 ≤ _; omega
theorem GC.rev {d w j : Nat} {cs : List Cs} (h : GC d w j cs) : GC d w j cs.reverse where
  g := gCs_rev h.g
  ok := by
    have key : ∀ xs : List Cs, csOk xs.reverse = csOk xs := fun xs => by
      induction xs with
      | nil => rfl
      | cons x r ih => rw [List.reverse_cons, csOk_app, ih, csOk, csOk, csOk, Bool.and_true, Bool.and_comm]
    rw [key]; exact h.ok
  h := by
    have key : ∀ xs : List Cs, csH xs.reverse = csH xs := fun xs => by
      induction xs with
      | nil => rfl
      | cons x r ih => rw [List.reverse_cons, csH_app, ih, csH, csH, csH]; omega
    rw [key]; exact h.h
  w := by
    have key : ∀ xs : List Cs, csW xs.reverse = csW xs := fun xs => by
      induction xs with
      | nil => rfl
      | cons x r ih => rw [List.reverse_cons, csW_app, ih, csW, csW, csW]; omega
    rw [key]; exact h.w
  l := by rw [List.length_reverse]; exact h.l
def selKs : List Str := ["a", "one", "select"]
theorem selKs_ok : ∀ x ∈ selKs, kOk (.s x) = true ∧ kW (.s x) ≤ 70 := by
  have h : selKs.all (fun x => sOk x && decide (10 * x.length + 2 ≤ 70)) = true := by decide +kernel
  intro x hx
  have := List.all_eq_true.mp h x hx
  simpa [kOk, kW] using this
theorem sel_loop (n d w : Nat) (ins : Bool) (hM : MkM (run (n + 1)) d w) (S : List D) (hS : Bx S) :
    WO (forD (.nm 4) [4] (L_1004_1 (run (n + 1))) (selKs.map D.str) [.val (.ptr 0), .val (.int ((d + 1 : Nat) : Int)), .val (.bl ins), .own (.lst []), .non] S)
      (fun Γ S2 => ∃ cs, Γ = [.val (.ptr 0), .val (.int ((d + 1 : Nat) : Int)), .val (.bl ins), .own (.lst (eCs cs)), .non] ∧ Bx S2 ∧ GC d (w + 100) 3 cs) (fun _ _ => False) := by
  refine forD_wp (fun j Γ S2 => ∃ cs, Γ = [.val (.ptr 0), .val (.int ((d + 1 : Nat) : Int)), .val (.bl ins), .own (.lst (eCs cs)), .non] ∧ Bx S2 ∧ GC d (w + 100) j cs) _ 0 _ S ⟨[], by rw [eCs], hS, GC.nil _ _⟩ (fun j x Γ S2 hx ⟨cs, hΓ, hS2, hc⟩ => ?_) (fun Γ S2 h => by simpa [selKs] using h)
  subst hΓ
  rw [List.getElem?_map] at hx
  cases hk : selKs[j]? with
  | none => rw [hk] at hx; cases hx
  | some k =>
    rw [hk] at hx; cases hx
    rw [Nat.zero_add] at hc
    obtain ⟨k1, k2⟩ := selKs_ok k (List.mem_of_getElem? hk)
    have hj : j < 3 := (List.getElem?_eq_some_iff.mp hk).1
    refine ⟨_, x_bnm, ?_⟩
    rw [e_L_1004_1]
    obtain ⟨r, S3, h3, hS3, _, _⟩ := run_draw n 3 (by decide) S2 hS2
    by_cases hr : r = 0
    · subst hr
      obtain ⟨m, S4, h4, hS4, gm⟩ := hM ins S3 hS3
      have hl : cs.length < sizeLine := Nat.lt_of_le_of_lt (show cs.length ≤ 5000000 by have := hc.l; omega) (by decide)
      have e2 : eCs cs ++ [.tup [.str k, .lst (eL m)]] = eCs (cs ++ [.mk (.s k) m]) := by rw [eCs_app, eCs_one, eC1, eK]
      have sb : ((d : Int) + 1 - 1) = (d : Int) := by omega
      unfold eM at h4
      simp [h3, sb, h4, hl, e2, WT]
      exact ⟨_, rfl, hS4, hc.snoc k1 k2 gm⟩
    · have hr2 : (r == 0) = false := by simpa using hr
      simp [h3, hr, hr2, WT]
      exact ⟨cs, rfl, hS3, hc.more⟩
theorem run_select (n d w : Nat) (ins : Bool) (hM : MkM (run (n + 1)) d w) (S : List D) (hS : Bx S) : ∃ (nd : Nd) (S' : List D), run (n + 2) 1004 [.ptr 0, .int ((d + 1 : Nat) : Int), .bl ins] S = .ok (eN nd) S' ∧ Bx S' ∧ gN nd ∧ nOk nd = true ∧ nH nd ≤ d + 1 ∧ nW nd ≤ 10 * (w + 100) ∧ isT nd = false := by
  rw [run_1004]
  have lp := sel_loop n d w ins hM S hS
  revert lp
  generalize hf : forD (.nm 4) [4] (L_1004_1 (run (n + 1))) (selKs.map D.str) [.val (.ptr 0), .val (.int ((d + 1 : Nat) : Int)), .val (.bl ins), .own (.lst []), .non] S = o
  intro lp
  cases o with
  | next Γ S1 =>
    obtain ⟨cs, rfl, hS1, hc⟩ := lp
    obtain ⟨r, S2, h2, hS2, r0, r1⟩ := run_draw n 2 (by decide) S1 hS1
    obtain ⟨x, hx, e⟩ := pickS (xs := ["w", "kind"]) r0 (by exact r1)
    obtain ⟨m, S3, h3, hS3, gm⟩ := hM ins S2 hS2
    have nx := names_ok x (by rcases List.mem_cons.mp hx with h | h; · simp [h]
                              · rcases List.mem_cons.mp h with h | h; · simp [h]
                                · cases h)
    have sb : ((d : Int) + 1 - 1) = (d : Int) := by omega
    have e2 : atI [D.str "w", .str "kind"] r = some (.str x) := e
    have f2 : forD (.nm 4) [4] (L_1004_1 (run (n + 1))) [.str "a", .str "one", .str "select"] [.val (.ptr 0), .val (.int ((d : Int) + 1)), .val (.bl ins), .own (.lst []), .non] S = .next [.val (.ptr 0), .val (.int ((d : Int) + 1)), .val (.bl ins), .own (.lst (eCs cs)), .non] S1 := hf
    unfold eM at h3
    refine ⟨.sel x cs m, S3, ?_, hS3, ?_, ?_, ?_, ?_, rfl⟩
    · rw [eN]
      simp [B_1004, f2, h2, e2, sb, h3]
    · rw [gN]; exact ⟨hc.g, gm.g⟩
    · rw [nOk, nx.1, hc.ok, gm.ok]; rfl
    · have := hc.h; have := gm.h; rw [nH]; omega
    · have := hc.w; have := gm.w; have := nx.2; rw [nW]; omega
  | _ => exact lp.elim

def pluKs : List Ky := [.i 0, .i 1, .i 2, .i 12, .s "zero", .s "one", .s "two", .s "few", .s "many"]
theorem pluKs_ok : ∀ x ∈ pluKs, kOk x = true ∧ kW x ≤ 70 := by
  have h : pluKs.all (fun x => kOk x && decide (kW x ≤ 70)) = true := by decide +kernel
  intro x hx
  have := List.all_eq_true.mp h x hx
  simpa using this
theorem plu_loop (n d w : Nat) (hM : MkM (run (n + 1)) d w) (S : List D) (hS : Bx S) :
    WO (forD (.nm 3) [3] (L_1005_1 (run (n + 1))) (pluKs.map eK) [.val (.ptr 0), .val (.int ((d + 1 : Nat) : Int)), .own (.lst []), .non] S)
      (fun Γ S2 => ∃ cs, Γ = [.val (.ptr 0), .val (.int ((d + 1 : Nat) : Int)), .own (.lst (eCs cs)), .non] ∧ Bx S2 ∧ GC d (w + 100) 9 cs) (fun _ _ => False) := by
  refine forD_wp (fun j Γ S2 => ∃ cs, Γ = [.val (.ptr 0), .val (.int ((d + 1 : Nat) : Int)), .own (.lst (eCs cs)), .non] ∧ Bx S2 ∧ GC d (w + 100) j cs) _ 0 _ S ⟨[], by rw [eCs], hS, GC.nil _ _⟩ (fun j x Γ S2 hx ⟨cs, hΓ, hS2, hc⟩ => ?_) (fun Γ S2 h => by simpa [pluKs] using h)
  subst hΓ
  rw [List.getElem?_map] at hx
  cases hk : pluKs[j]? with
  | none => rw [hk] at hx; cases hx
  | some k =>
    rw [hk] at hx; cases hx
    rw [Nat.zero_add] at hc
    obtain ⟨k1, k2⟩ := pluKs_ok k (List.mem_of_getElem? hk)
    have hj : j < 9 := (List.getElem?_eq_some_iff.mp hk).1
    refine ⟨_, x_bnm, ?_⟩
    rw [e_L_1005_1]
    obtain ⟨r, S3, h3, hS3, _, _⟩ := run_draw n 5 (by decide) S2 hS2
    by_cases hr : r = 0
    · subst hr
      obtain ⟨m, S4, h4, hS4, gm⟩ := hM true S3 hS3
      have hl : cs.length < sizeLine := Nat.lt_of_le_of_lt (show cs.length ≤ 5000000 by have := hc.l; omega) (by decide)
      have e2 : eCs cs ++ [.tup [eK k, .lst (eL m)]] = eCs (cs ++ [.mk k m]) := by rw [eCs_app, eCs_one, eC1]
      have sb : ((d : Int) + 1 - 1) = (d : Int) := by omega
      unfold eM at h4
      simp [h3, sb, h4, hl, e2, WT]
      exact ⟨_, rfl, hS4, hc.snoc k1 k2 gm⟩
    · have hr2 : (r == 0) = false := by simpa using hr
      simp [h3, hr, hr2, WT]
      exact ⟨cs, rfl, hS3, hc.more⟩
theorem run_plural (n d w : Nat) (hM : MkM (run (n + 1)) d w) (S : List D) (hS : Bx S) : ∃ (nd : Nd) (S' : List D), run (n + 2) 1005 [.ptr 0, .int ((d + 1 : Nat) : Int)] S = .ok (eN nd) S' ∧ Bx S' ∧ gN nd ∧ nOk nd = true ∧ nH nd ≤ d + 1 ∧ nW nd ≤ 10 * (w + 110) ∧ isT nd = false := by
  rw [run_1005]
  have lp := plu_loop n d w hM S hS
  revert lp
  generalize hf : forD (.nm 3) [3] (L_1005_1 (run (n + 1))) (pluKs.map eK) [.val (.ptr 0), .val (.int ((d + 1 : Nat) : Int)), .own (.lst []), .non] S = o
  intro lp
  cases o with
  | next Γ S1 =>
    obtain ⟨cs, rfl, hS1, hc⟩ := lp
    obtain ⟨q, S1', hq, hS1', _, _⟩ := run_draw n 3 (by decide) S1 hS1
    obtain ⟨r, S2, h2, hS2, r0, r1⟩ := run_draw n 2 (by decide) S1' hS1'
    obtain ⟨x, hx, e⟩ := pickS (xs := ["n", "count"]) r0 (by exact r1)
    obtain ⟨t, S2', h2', hS2', t0, t1⟩ := run_draw n 4 (by decide) S2 hS2
    obtain ⟨f, hf2, ef⟩ := pickI (xs := [0, 0, 1, 2]) t0 (by exact t1)
    obtain ⟨m, S3, h3, hS3, gm⟩ := hM true S2' hS2'
    have nx := names_ok x (by rcases List.mem_cons.mp hx with h | h; · simp [h]
                              · rcases List.mem_cons.mp h with h | h; · simp [h]
                                · cases h)
    have fo : iOk f = true ∧ (toString f : Str).length ≤ 10 := by
      have h : ([0, 0, 1, 2] : List Int).all (fun f => iOk f && decide ((toString f : Str).length ≤ 10)) = true := by decide +kernel
      have := List.all_eq_true.mp h f hf2
      simpa using this
    have sb : ((d : Int) + 1 - 1) = (d : Int) := by omega
    have e2 : atI [D.str "n", .str "count"] r = some (.str x) := e
    have e3 : atI [D.int 0, .int 0, .int 1, .int 2] t = some (.int f) := ef
    have f2 : forD (.nm 3) [3] (L_1005_1 (run (n + 1))) [.int 0, .int 1, .int 2, .int 12, .str "zero", .str "one", .str "two", .str "few", .str "many"] [.val (.ptr 0), .val (.int ((d : Int) + 1)), .own (.lst []), .non] S = .next [.val (.ptr 0), .val (.int ((d : Int) + 1)), .own (.lst (eCs cs)), .non] S1 := hf
    unfold eM at h3
    obtain ⟨cs2, hc2, he⟩ : ∃ cs2, GC d (w + 100) 9 cs2 ∧ (if q == 0 then (eCs cs).reverse else eCs cs) = eCs cs2 := by
      by_cases z : q = 0
      · exact ⟨cs.reverse, hc.rev, by rw [if_pos (by simpa using z)]; exact eCs_rev cs⟩
      · exact ⟨cs, hc, by rw [if_neg (by simpa using z)]⟩
    refine ⟨.plu x f cs2 m, S3, ?_, hS3, ?_, ?_, ?_, ?_, rfl⟩
    · rw [eN, ← he]
      by_cases z : q = 0
      · subst z
        simp [B_1005, f2, hq, h2, e2, h2', e3, sb, h3]
      · have z2 : (q == 0) = false := by simpa using z
        simp [B_1005, f2, hq, z, z2, h2, e2, h2', e3, sb, h3]
    · rw [gN]; exact ⟨hc2.g, gm.g⟩
    · rw [nOk, nx.1, fo.1, hc2.ok, gm.ok]; rfl
    · have := hc2.h; have := gm.h; rw [nH]; omega
    · have := hc2.w; have := gm.w; have := nx.2; have := fo.2; rw [nW]; omega
  | _ => exact lp.elim

end
section
open PySem L2 DL
/-! ### a message that is drawn -/
structure GJ (d w j : Nat) (m : List Nd) : Prop where
  g : gL m
  ok : lOk m = true
  h : lH m ≤ d
  w : lW m ≤ j * w
  l : m.length ≤ j
theorem GJ.nil (d w : Nat) : GJ d w 0 [] := ⟨by rw [gL]; trivial, by rw [lOk], by rw [lH]; omega, by rw [lW]; omega, Nat.le_refl _⟩
theorem GJ.more {d w j : Nat} {m : List Nd} (h : GJ d w j m) : GJ d w (j + 1) m := ⟨h.g, h.ok, h.h, by have := h.w; rw [Nat.succ_mul]; omega, by have := h.l; omega⟩
theorem GJ.snoc {d w j : Nat} {m : List Nd} {n : Nd} (h : GJ d w j m) (hg : gN n) (ho : nOk n = true) (hh : nH n ≤ d) (hw : nW n ≤ w) (hl : lastT m = true → isT n = false) : GJ d w (j + 1) (m ++ [n]) where
  g := gL_snoc h.g hg hl
  ok := by rw [lOk_app, h.ok, lOk, lOk, ho]; rfl
  h := by have := h.h; rw [lH_app, lH, lH]; omega
  w := by have := h.w; rw [lW_app, lW_one, Nat.succ_mul]; omega
  l := by have := h.l; rw [List.length_append]; show m.length + 1 ≤ _; omega
theorem last_cond (m : List Nd) : (lastT m = false ∧ (m = [] ∨ ∃ a l, m = a ++ [l] ∧ isT l = false)) ∨ (lastT m = true ∧ ∃ a l, m = a ++ [l] ∧ isT l = true) := by
  rcases List.eq_nil_or_concat m with rfl | ⟨a, l, rfl⟩
  · exact .inl ⟨rfl, .inl rfl⟩
  · rw [List.concat_eq_append, lastT_snoc]
    cases h : isT l with
    | false => exact .inl ⟨rfl, .inr ⟨a, l, rfl, h⟩⟩
    | true => exact .inr ⟨rfl, a, l, rfl, h⟩
def msgG (d : Nat) (ins : Bool) (m : List Nd) : List Sl := [.val (.ptr 0), .val (.int (d : Int)), .val (.bl ins), .own (.lst (eL m)), .non, .non]
theorem msg_step (k d w v j : Nat) (hv : 140 ≤ v) (ins : Bool) (hM : ∀ d', d = d' + 1 → MkM (run (k + 1)) d' w ∧ 10 * (w + 110) ≤ v) (m : List Nd) (S : List D) (t : D) (hS : Bx S) (hj : j ≤ 3) (h : GJ d v j m) :
    WT (L_1006_1 (run (k + 2)) [.val (.ptr 0), .val (.int (d : Int)), .val (.bl ins), .own (.lst (eL m)), .val t, .non] S)
      (fun Γ2 S2 => ∃ m2, clr [4, 5] Γ2 = msgG d ins m2 ∧ Bx S2 ∧ GJ d v (j + 1) m2) (fun _ _ => False) (fun _ _ => False) := by
  obtain ⟨q, S1, h1, hS1, q0, q8⟩ := run_draw (k + 1) 8 (by decide) S hS
  replace h1 : run (k + 2) 1002 [.ptr 0, .int 8] S = .ok (.int q) S1 := h1
  have hl : m.length < sizeLine := Nat.lt_of_le_of_lt (show m.length ≤ 5000000 by have := h.l; omega) (by decide)
  have e1 : ∀ n, eL m ++ [eN n] = eL (m ++ [n]) := fun n => by rw [eL_app, eL_one]
  rw [e_L_1006_1]
  -- a text
  have txt : (q < 3 ∨ (d = 0 ∧ 4 < q)) → WT (sIf (tOrD (tB (eOp cEq (eUn dLen (oV 3)) (eC (.int 0)))) (tB (eOp cNe (eOp dIdx (eOp dIdx (oV 3) (eUn dNeg (eC (.int 1)))) (eC (.int 0))) (eC (.str "text"))))) (sAppO 3 (eTup (aCons (eC (.str "text")) (aCons (eCall (run (k + 2) 1003) (aCons (eV 0) aNil)) aNil)))) sNext [.val (.ptr 0), .val (.int (d : Int)), .val (.bl ins), .own (.lst (eL m)), .val t, .val (.int q)] S1)
      (fun Γ2 S2 => ∃ m2, clr [4, 5] Γ2 = msgG d ins m2 ∧ Bx S2 ∧ GJ d v (j + 1) m2) (fun _ _ => False) (fun _ _ => False) := fun _ => by
    obtain ⟨x, S2, h2, hS2, x1, x2, x3⟩ := run_string k S1 hS1
    have ex := e1 (.text x)
    have en : eN (.text x) = .tup [.str "text", .str x] := by rw [eN]
    rw [en] at ex
    have gx : lastT m = false → GJ d v (j + 1) (m ++ [.text x]) := fun hlt => h.snoc (by rw [gN]; exact x3) (by rw [nOk]; exact x1) (by rw [nH]; omega) (by rw [nW]; omega) fun z => by rw [hlt] at z; cases z
    rcases last_cond m with ⟨hlt, hm | ⟨a, l, hm, tl⟩⟩ | ⟨hlt, a, l, hm, tl⟩
    · have g2 := gx hlt
      subst hm
      simp at ex
      simp [h2, WT, s0, ex]
      exact ⟨_, rfl, hS2, g2⟩
    · have g2 := gx hlt
      have la : atI (eL a ++ [eN l]) (-1) = some (eN l) := by rw [atI_neg1, List.getLast?_concat]
      have tn := tag_text l
      have em : eL m = eL a ++ [eN l] := by rw [hm, eL_app, eL_one]
      have ml : m.length = a.length + 1 := by rw [hm, List.length_append]; rfl
      rw [em] at ex
      have hl3 : a.length + 1 < sizeLine := by rw [← ml]; exact hl
      have nz : ¬ ((a.length : Int) + 1 = 0) := by omega
      have nz2 : (((a.length : Int) + 1) == 0) = false := by simpa using nz
      rw [em]
      simp [h2, WT, la, tn, tl, hl3, nz, nz2] at ex ⊢
      rw [ex]
      exact ⟨_, rfl, hS2, g2⟩
    · have la : atI (eL a ++ [eN l]) (-1) = some (eN l) := by rw [atI_neg1, List.getLast?_concat]
      have tn := tag_text l
      have em : eL m = eL a ++ [eN l] := by rw [hm, eL_app, eL_one]
      have nz : ¬ ((a.length : Int) + 1 = 0) := by omega
      have nz2 : (((a.length : Int) + 1) == 0) = false := by simpa using nz
      have g2 := h.more
      rw [hm] at g2
      rw [em]
      simp [WT, la, tn, tl, nz, nz2]
      exact ⟨a ++ [l], by unfold msgG; rw [eL_app, eL_one], hS1, g2⟩
  by_cases c1 : q < 3
  · have t1 := txt (.inl c1)
    simp only [x_sSeq, x_sSet, x_eCall, x_aCons, x_aNil, x_eV, x_eC] 
    simp [h1, c1] at t1 ⊢
    exact t1
  · by_cases c2 : d = 0 ∧ 4 < q
    · have t1 := txt (.inr c2)
      obtain ⟨c3, c4⟩ := c2
      subst c3
      simp [h1, c1, c4] at t1 ⊢
      exact t1
    · by_cases c3 : q = 3
      · subst c3
        obtain ⟨r, S2, h2, hS2, r0, r1⟩ := run_draw (k + 1) 4 (by decide) S1 hS1
        replace h2 : run (k + 2) 1002 [.ptr 0, .int 4] S1 = .ok (.int r) S2 := h2
        obtain ⟨x, hx, e⟩ := pickS (xs := ["n", "w", "who", "count"]) r0 (by exact r1)
        have e2 : atI [D.str "n", .str "w", .str "who", .str "count"] r = some (.str x) := e
        have nx := names_ok x (by simp at hx ⊢; rcases hx with h | h | h | h <;> simp [h])
        have ex := e1 (.shw x)
        have en : eN (.shw x) = .tup [.str "show", .str x] := by rw [eN]
        rw [en] at ex
        simp [h1, h2, e2, hl, ex, WT]
        exact ⟨_, rfl, hS2, h.snoc (by rw [gN]; trivial) (by rw [nOk]; exact nx.1) (by rw [nH]; omega) (by have := nx.2; rw [nW]; omega) fun _ => rfl⟩
      · have c3b : (q == 3) = false := by simpa using c3
        by_cases c4 : q = 4
        · subst c4
          have ex := e1 .num
          have en : eN .num = .tup [.str "number"] := by rw [eN]
          rw [en] at ex
          cases ins with
          | true =>
            simp [h1, hl, ex, WT]
            exact ⟨_, rfl, hS1, h.snoc (by rw [gN]; trivial) (by rw [nOk]) (by rw [nH]; omega) (by rw [nW]; omega) fun _ => rfl⟩
          | false =>
            simp [h1, WT]
            exact ⟨m, rfl, hS1, h.more⟩
        · have c4b : (q == 4) = false := by simpa using c4
          have hd : d ≠ 0 := fun z => c2 ⟨z, by omega⟩
          obtain ⟨d', rfl⟩ : ∃ d', d = d' + 1 := ⟨d - 1, by omega⟩
          have dz : ¬ ((d' : Int) + 1 = 0) := by omega
          have dz2 : (((d' : Int) + 1) == 0) = false := by simpa using dz
          by_cases c5 : q < 7
          · obtain ⟨nd, S2, h2, hS2, n1, n2, n3, n4, n5⟩ := run_plural k d' w (hM d' rfl).1 S1 hS1
            have ex := e1 nd
            simp at h2
            simp [h1, c1, c3, c3b, c4, c4b, dz, dz2, c5, h2, hl, ex, WT]
            exact ⟨_, rfl, hS2, h.snoc n1 n2 n3 (by have := (hM d' rfl).2; omega) fun _ => n5⟩
          · obtain ⟨nd, S2, h2, hS2, n1, n2, n3, n4, n5⟩ := run_select k d' w ins (hM d' rfl).1 S1 hS1
            have ex := e1 nd
            simp at h2
            simp [h1, c1, c3, c3b, c4, c4b, dz, dz2, c5, h2, hl, ex, WT]
            exact ⟨_, rfl, hS2, h.snoc n1 n2 n3 (by have := (hM d' rfl).2; omega) fun _ => n5⟩

end
section
open PySem L2 DL
theorem msg_run (k d w v : Nat) (hv : 140 ≤ v) (ins : Bool) (hM : ∀ d', d = d' + 1 → MkM (run (k + 1)) d' w ∧ 10 * (w + 110) ≤ v) (S : List D) (hS : Bx S) : ∃ (m : List Nd) (S' : List D), run (k + 3) 1006 [.ptr 0, .int d, .bl ins] S = .ok (eM m) S' ∧ Bx S' ∧ GM d (3 * v) m := by
  rw [run_1006]
  obtain ⟨q, S1, h1, hS1, q0, q4⟩ := run_draw (k + 1) 4 (by decide) S hS
  replace h1 : run (k + 2) 1002 [.ptr 0, .int 4] S = .ok (.int q) S1 := h1
  have iq : inR q = true := inR_of (by omega)
  have lp := forD_wp (p := .nm 4) (kl := [4, 5]) (β := L_1006_1 (run (k + 2))) (R := fun _ _ => False) (N := fun Γ S2 => ∃ m2, Γ = msgG d ins m2 ∧ Bx S2 ∧ GJ d v q.toNat m2)
    (fun j Γ S2 => ∃ m2, Γ = msgG d ins m2 ∧ Bx S2 ∧ GJ d v j m2) (rangeD 0 q.toNat) 0 (msgG d ins []) S1 ⟨[], rfl, hS1, GJ.nil _ _⟩
    (fun j x Γ S2 hx ⟨m2, hΓ, hS2, hg⟩ => by
      subst hΓ
      rw [Nat.zero_add] at hg
      have hj : j < (rangeD 0 q.toNat).length := (List.getElem?_eq_some_iff.mp hx).1
      rw [rangeD_len] at hj
      refine ⟨_, x_bnm, ?_⟩
      rw [Nat.zero_add]
      exact (msg_step k d w v j hv ins hM m2 S2 x hS2 (by omega) hg).mono (fun _ _ h => h) (fun _ _ h => h) (fun _ _ h => h.elim))
    (fun Γ S2 h => by rw [rangeD_len, Nat.zero_add] at h; exact h)
  revert lp
  generalize hf : forD (.nm 4) [4, 5] (L_1006_1 (run (k + 2))) (rangeD 0 q.toNat) (msgG d ins []) S1 = o
  intro lp
  unfold msgG at hf
  rw [eL_nil] at hf
  cases o with
  | next Γ S2 =>
    obtain ⟨m2, rfl, hS2, hg⟩ := lp
    refine ⟨m2, S2, ?_, hS2, hg.g, hg.ok, hg.h, ?_⟩
    · unfold msgG at hf
      simp [B_1006, h1, iq, hf, eM]
    · have := hg.w
      exact Nat.le_trans this (Nat.mul_le_mul_right _ (by omega))
  | _ => exact lp.elim
def wM : Nat → Nat
  | 0 => 3 * 140
  | d + 1 => 3 * (10 * (wM d + 110))
theorem mkM : ∀ (d n : Nat), 2 * d + 3 ≤ n → MkM (run n) d (wM d) := by
  intro d
  induction d with
  | zero =>
    intro n hn ins S hS
    obtain ⟨k, rfl⟩ : ∃ k, n = k + 3 := ⟨n - 3, by omega⟩
    exact msg_run k 0 0 140 (by omega) ins (fun d' e => by omega) S hS
  | succ d ih =>
    intro n hn ins S hS
    obtain ⟨k, rfl⟩ : ∃ k, n = k + 3 := ⟨n - 3, by omega⟩
    exact msg_run k (d + 1) (wM d) (10 * (wM d + 110)) (by omega) ins (fun d' e => by { have z : d' = d := (by omega); subst z; exact ⟨ih (k + 1) (by omega), Nat.le_refl _⟩ }) S hS
theorem wM2 : wM 2 = 480300 := by decide

end
section
open PySem L2 DL
/-! ### cuts -/
def preS (x : Str) (k : Nat) : Str := ⟨(x.cps.toList.take k).toArray⟩
def sufS (x : Str) (k : Nat) : Str := ⟨(x.cps.toList.drop k).toArray⟩
theorem len_toList (x : Str) : x.cps.toList.length = x.length := by simp [Str.length]
theorem cut_pre (x : Str) (k : Nat) (h : k ≤ x.length) : cutS x none (some (k : Int)) = preS x k := by
  unfold cutS preS
  rw [HT.sIx_nat, HT.sIx_none, List.drop_zero, Nat.sub_zero, Nat.min_eq_left h]
theorem cut_suf (x : Str) (k : Nat) (h : k ≤ x.length) : cutS x (some (k : Int)) none = sufS x k := by
  unfold cutS sufS
  rw [HT.sIx_nat, HT.sIx_none, Nat.min_eq_left h, List.take_of_length_le (by rw [List.length_drop, len_toList]; exact Nat.le_refl _)]
theorem pre_suf (x : Str) (k : Nat) : preS x k ++ sufS x k = x := by
  show Str.append (preS x k) (sufS x k) = x
  obtain ⟨a⟩ := x
  show (⟨(a.toList.take k).toArray ++ (a.toList.drop k).toArray⟩ : Str) = ⟨a⟩
  congr 1
  rw [List.append_toArray, List.take_append_drop]
theorem sOk_iff (x : Str) : sOk x = true ↔ ∀ c ∈ x.cps.toList, c < 0x110000 := by
  have h : sOk x = x.cps.all (fun c => decide (c < 0x110000)) := rfl
  rw [h, ← Array.all_toList, List.all_eq_true]
  simp only [decide_eq_true_iff]
theorem pre_ok {x : Str} (k : Nat) (h : sOk x = true) : sOk (preS x k) = true := by
  rw [sOk_iff] at h ⊢
  exact fun c hc => h c (List.mem_of_mem_take hc)
theorem suf_ok {x : Str} (k : Nat) (h : sOk x = true) : sOk (sufS x k) = true := by
  rw [sOk_iff] at h ⊢
  exact fun c hc => h c (List.mem_of_mem_drop hc)
theorem pre_suf_len (x : Str) (k : Nat) : (preS x k).length + (sufS x k).length = x.length := by
  rw [← strLen_append, pre_suf]
/-- two pieces of a text, put behind -/
theorem two_pieces {dn : List Nd} {a b x : Str} (e : a ++ b = x) (hx : x ≠ "") (hl : lastT dn = false) : plA dn [.text a, .text b] = dn ++ [.text x] := by
  have g : plS dn (.text x) (.text x) = dn ++ [.text x] := plS_plain (by rw [gN]; exact hx) fun z => by rw [hl] at z; cases z
  rw [plA, plA, plA, plN, plN]
  by_cases ha : a = ""
  · subst ha
    rw [plS_empty]
    have : b = x := by
      rw [← e]
      show b = Str.append "" b
      obtain ⟨z⟩ := b
      show (⟨z⟩ : Str) = ⟨#[] ++ z⟩
      rw [Array.empty_append]
    rw [this, g]
  · rw [plS_plain (n := .text a) (by rw [gN]; exact ha) (fun z => by rw [hl] at z; cases z), plS_concat]
    simp only
    rw [e]
/-- what a cut promises -/
structure Cut (m c : List Nd) : Prop where
  p : plA [] c = m
  ok : lOk c = true
  h : lH c ≤ lH m
  w : lW c ≤ 6 * lW m
def MkC (R : Rec) (h : Nat) : Prop := ∀ (m : List Nd) (S : List D), gL m → lOk m = true → lW m ≤ 700000 → lH m < h → Bx S → ∃ (c : List Nd) (S' : List D), R 1007 [.ptr 0, eM m] S = .ok (eM c) S' ∧ Bx S' ∧ Cut m c
structure CutC (cs ds : List Cs) : Prop where
  p : plCs ds = cs
  ok : csOk ds = true
  h : csH ds ≤ csH cs
  w : csW ds ≤ 6 * csW cs
  l : ds.length = cs.length
theorem cut_cases (R : Rec) (h : Nat) (hM : MkC R h) (Γ : List Sl) (hΓ : Γ[0]? = some (.val (.ptr 0))) (h8 : Γ.length = 8) : ∀ (cs : List Cs) (S : List D), gCs cs → csOk cs = true → csW cs ≤ 700000 → csH cs < h → Bx S →
    ∃ (ds : List Cs) (S' : List D), compD (.tp [.nm 6, .nm 7]) tTrue (C_1007_1 R) (eCs cs) Γ S = .ok (eCs ds) S' ∧ Bx S' ∧ CutC cs ds
  | [], S, _, _, _, _, hS => ⟨[], S, by rw [eCs]; rfl, hS, ⟨by rw [plCs], by rw [csOk], by omega, by rw [csW]; omega, rfl⟩⟩
  | .mk k m :: r, S, hg, ho, hw, hh, hS => by
    rw [gCs, gC] at hg
    rw [csOk, Bool.and_eq_true, cOk, Bool.and_eq_true] at ho
    rw [csW, cW] at hw
    rw [csH, cH] at hh
    obtain ⟨c, S1, h1, hS1, hc⟩ := hM m S hg.1 ho.1.2 (by omega) (by omega) hS
    obtain ⟨ds, S2, h2, hS2, hd⟩ := cut_cases R h hM Γ hΓ h8 r S1 hg.2 ho.2 (by omega) (by omega) hS1
    refine ⟨.mk k c :: ds, S2, ?_, hS2, ⟨by rw [plCs, plC, hc.p, hd.p], by rw [csOk, cOk, ho.1.1, hc.ok, hd.ok]; rfl, ?_, ?_, by rw [List.length_cons, List.length_cons, hd.l]⟩⟩
    · obtain ⟨a0, a1, a2, a3, a4, a5, a6, a7, rfl⟩ : ∃ a0 a1 a2 a3 a4 a5 a6 a7, Γ = [a0, a1, a2, a3, a4, a5, a6, a7] := by
        match Γ, h8 with
        | [a0, a1, a2, a3, a4, a5, a6, a7], _ => exact ⟨a0, a1, a2, a3, a4, a5, a6, a7, rfl⟩
      have e0 : a0 = .val (.ptr 0) := Option.some.inj hΓ
      subst e0
      rw [eCs, compD, eC1, eCs, eC1]
      unfold eM at h1
      simp [e_C_1007_1, h1] at h2 ⊢
      simp [h2]
    · have := hc.h; have := hd.h; rw [csH, csH, cH, cH]; omega
    · have := hc.w; have := hd.w; rw [csW, csW, cW, cW]; omega
def cutG (m c : List Nd) : List Sl := [.val (.ptr 0), .val (eM m), .own (.lst (eL c)), .non, .non, .non, .non, .non]
structure CutJ (dn c : List Nd) (H : Nat) : Prop where
  p : plA [] c = dn
  ok : lOk c = true
  h : lH c ≤ H
  w : lW c ≤ 6 * lW dn
theorem cut_end (k : Nat) (m : List Nd) (dn c : List Nd) (n : Nd) (H : Nat) (a4 a5 : Sl) (S : List D) (hS : Bx S) (hj : plA [] c = dn ++ [n]) (ho : lOk c = true) (hh : lH c ≤ H) (hw : lW c + 40 ≤ 6 * lW (dn ++ [n])) (hl : lW c ≤ 4500000) :
    WT (sIf (tB (eOp cEq (eCall (run (k + 2) 1002) (aCons (eV 0) (aCons (eC (.int 4)) aNil))) (eC (.int 0)))) (sAppO 2 (eTup (aCons (eC (.str "text")) (aCons (eC (.str "")) aNil)))) sNext [.val (.ptr 0), .val (eM m), .own (.lst (eL c)), .val (eN n), a4, a5, .non, .non] S)
      (fun Γ2 S2 => ∃ c2, clr [3, 4, 5] Γ2 = cutG m c2 ∧ Bx S2 ∧ CutJ (dn ++ [n]) c2 H) (fun _ _ => False) (fun _ _ => False) := by
  obtain ⟨q, S1, h1, hS1, _, _⟩ := run_draw (k + 1) 4 (by decide) S hS
  replace h1 : run (k + 2) 1002 [.ptr 0, .int 4] S = .ok (.int q) S1 := h1
  have ln := lW_len c
  have sl : c.length < sizeLine := Nat.lt_of_le_of_lt (show c.length ≤ 5000000 by omega) (by decide)
  by_cases hq : q = 0
  · subst hq
    have e1 : eL c ++ [.tup [.str "text", .str ""]] = eL (c ++ [.text ""]) := by rw [eL_app, eL_one, eN]
    simp [h1, sl, e1, WT]
    refine ⟨_, rfl, hS1, ⟨?_, ?_, ?_, ?_⟩⟩
    · rw [plA_app, hj, plA, plA, plN, plS_empty]
    · rw [lOk_app, ho, lOk, lOk, nOk, show sOk "" = true from empty_ok]; rfl
    · rw [lH_app, lH, lH, nH]; omega
    · rw [lW_app c, lW_one, nW]; have : ("" : Str).length = 0 := rfl; omega
  · have hq2 : (q == 0) = false := by simpa using hq
    simp [h1, hq, hq2, WT]
    exact ⟨c, rfl, hS1, ⟨hj, ho, hh, by omega⟩⟩

theorem cut_step (k h : Nat) (hM : MkC (run (k + 2)) h) (m dn c : List Nd) (n : Nd) (H : Nat) (S : List D) (hS : Bx S) (hj : CutJ dn c H) (hg : gN n) (hlt : lastT dn = true → isT n = false) (ho : nOk n = true) (hw : lW (dn ++ [n]) ≤ 700000) (hh : nH n ≤ H) (hh2 : nH n ≤ h) :
    WT (L_1007_2 (run (k + 2)) [.val (.ptr 0), .val (eM m), .own (.lst (eL c)), .val (eN n), .non, .non, .non, .non] S)
      (fun Γ2 S2 => ∃ c2, clr [3, 4, 5] Γ2 = cutG m c2 ∧ Bx S2 ∧ CutJ (dn ++ [n]) c2 H) (fun _ _ => False) (fun _ _ => False) := by
  have tn := tag_text n
  have tg := tag_in n
  have lw : lW (dn ++ [n]) = lW dn + nW n := by rw [lW_app, lW_one]
  have hjw := hj.w
  have ln := lW_len c
  have np := nW_pos n
  have sl : c.length < sizeLine := Nat.lt_of_le_of_lt (show c.length ≤ 5000000 by omega) (by decide)
  -- the rest of the turn
  have fin := fun (a4 a5 : Sl) (c2 : List Nd) (S2 : List D) (hS2 : Bx S2) (e1 : plA [] c2 = dn ++ [n]) (e2 : lOk c2 = true) (e3 : lH c2 ≤ H) (e4 : lW c2 + 40 ≤ 6 * lW (dn ++ [n])) => cut_end k m dn c2 n H a4 a5 S2 hS2 e1 e2 e3 e4 (by omega)
  rw [e_L_1007_2]
  by_cases ht : isT n = true
  · cases n with
    | text x =>
      rw [nW] at lw np
      rw [nOk] at ho
      rw [gN] at hg
      have xl : x.length ≤ sizeLine := W_le (by omega)
      obtain ⟨q, S1, h1, hS1, q0, q1⟩ := run_draw (k + 1) ((x.length : Int) + 1) (by omega) S hS
      replace h1 : run (k + 2) 1002 [.ptr 0, .int ((x.length : Int) + 1)] S = .ok (.int q) S1 := h1
      obtain ⟨u, rfl⟩ : ∃ u : Nat, q = (u : Int) := ⟨q.toNat, by omega⟩
      have hu : u ≤ x.length := by omega
      have dl : dLen (.str x) = some (.int (x.length : Int)) := if_pos xl
      have c1 : dCut (.str x) none (some (u : Int)) = some (.str (preS x u)) := by
        show (if x.length ≤ sizeLine then some (D.str (cutS x none (some (u : Int)))) else none) = _
        rw [if_pos xl, cut_pre x u hu]
      have c2 : dCut (.str x) (some (u : Int)) none = some (.str (sufS x u)) := by
        show (if x.length ≤ sizeLine then some (D.str (cutS x (some (u : Int)) none)) else none) = _
        rw [if_pos xl, cut_suf x u hu]
      have e1 : eL c ++ [.tup [.str "text", .str (preS x u)], .tup [.str "text", .str (sufS x u)]] = eL (c ++ [.text (preS x u), .text (sufS x u)]) := by rw [eL_app, eL, eL_one, eN, eN]
      have oL : onL (.lst (eL c)) (.lst [.tup [.str "text", .str (preS x u)], .tup [.str "text", .str (sufS x u)]]) = some (.lst (eL (c ++ [.text (preS x u), .text (sufS x u)]))) := by
        rw [← e1]
        exact if_pos (W_le (by rw [eL_len]; show c.length + 2 ≤ _; omega))
      have pl := pre_suf_len x u
      have f := fin (.val (.int u)) .non (c ++ [.text (preS x u), .text (sufS x u)]) S1 hS1
        (by rw [plA_app, hj.p]; exact two_pieces (pre_suf x u) hg (by cases z : lastT dn with | false => rfl | true => exact absurd (hlt z) (by simp [isT])))
        (by rw [lOk_app, hj.ok, lOk, lOk, lOk, nOk, nOk, pre_ok u ho, suf_ok u ho]; rfl)
        (by have := hj.h; rw [lH_app, lH, lH, lH, nH, nH]; omega)
        (by rw [lw, lW_app, lW, lW_one, nW, nW]; omega)
      unfold eM at f ⊢
      simp [tn, isT, dl, h1, c1, c2, oL] at f ⊢
      exact f
    | _ => cases ht
  · have ht : isT n = false := by simpa using ht
    by_cases hc : isC n = true
    · have ch : ∀ (cs : List Cs) (o : List Nd) (mk : List Cs → List Nd → Nd) (pre : List D), gCs cs → gL o → csOk cs = true → lOk o = true → csW cs + lW o + 40 ≤ nW n → (∀ a b, eN (mk a b) = .tup (pre ++ [.lst (eCs a), .lst (eL b)])) → pre.length ≤ 10 →
          dCut (eN n) none (some (-2)) = some (.tup pre) → dIdx (eN n) (.int (-2)) = some (.lst (eCs cs)) → dIdx (eN n) (.int (-1)) = some (.lst (eL o)) → nH n = max (csH cs) (lH o) + 1 →
          (∀ ds p, CutC cs ds → Cut o p → plN (mk ds p) = n ∧ nOk (mk ds p) = true ∧ nH (mk ds p) ≤ nH n ∧ nW (mk ds p) + 100 ≤ 6 * nW n ∧ isT (mk ds p) = false) →
          WT (sSeq (sIf (tB (eOp cEq (eOp dIdx (eV 3) (eC (.int 0))) (eC (.str "text")))) (sSeq (sSet 4 (eCall (run (k + 2) 1002) (aCons (eV 0) (aCons (eOp dAdd (eUn dLen (eOp dIdx (eV 3) (eC (.int 1)))) (eC (.int 1))) aNil)))) (sOwn 2 (eOp onL (oV 2) (eLst (aCons (eTup (aCons (eC (.str "text")) (aCons (eCut dCut (eOp dIdx (eV 3) (eC (.int 1))) pNo (pSo (eV 4))) aNil))) (aCons (eTup (aCons (eC (.str "text")) (aCons (eCut dCut (eOp dIdx (eV 3) (eC (.int 1))) (pSo (eV 4)) pNo) aNil))) aNil)))))) (sIf (tB (eOp cIn (eOp dIdx (eV 3) (eC (.int 0))) (eTup (aCons (eC (.str "select")) (aCons (eC (.str "plural")) aNil))))) (sSeq (sSet 5 (eComp (iA (eOp dIdx (eV 3) (eUn dNeg (eC (.int 2))))) (.tp [(.nm 6), (.nm 7)]) [6, 7] tTrue (C_1007_1 (run (k + 2))))) (sAppO 2 (eOp dAdd (eCut dCut (eV 3) pNo (pSo (eUn dNeg (eC (.int 2))))) (eTup (aCons (eV 5) (aCons (eCall (run (k + 2) 1007) (aCons (eV 0) (aCons (eOp dIdx (eV 3) (eUn dNeg (eC (.int 1)))) aNil))) aNil)))))) (sAppO 2 (eV 3)))) (sIf (tB (eOp cEq (eCall (run (k + 2) 1002) (aCons (eV 0) (aCons (eC (.int 4)) aNil))) (eC (.int 0)))) (sAppO 2 (eTup (aCons (eC (.str "text")) (aCons (eC (.str "")) aNil)))) sNext) [.val (.ptr 0), .val (eM m), .own (.lst (eL c)), .val (eN n), .non, .non, .non, .non] S)
            (fun Γ2 S2 => ∃ c2, clr [3, 4, 5] Γ2 = cutG m c2 ∧ Bx S2 ∧ CutJ (dn ++ [n]) c2 H) (fun _ _ => False) (fun _ _ => False) := fun cs o mk pre g1 g2 o1 o2 w1 em pl d1 i2 i1 nh all => by
        obtain ⟨ds, S1, h1, hS1, hd⟩ := cut_cases (run (k + 2)) h hM [.val (.ptr 0), .val (eM m), .own (.lst (eL c)), .val (eN n), .non, .non, .non, .non] rfl rfl cs S g1 o1 (by omega) (by omega) hS
        obtain ⟨p, S2, h2, hS2, hp⟩ := hM o S1 g2 o2 (by omega) (by omega) hS1
        obtain ⟨k1, k2, k3, k4, k5⟩ := all ds p hd hp
        have cl := csW_len cs
        have lk : lenOk (eCs ds) = some (.lst (eCs ds)) := lenOk_le (by rw [eCs_len, hd.l]; omega)
        have ad : dAdd (.tup pre) (.tup [.lst (eCs ds), .lst (eL p)]) = some (eN (mk ds p)) := by rw [em]; exact if_pos (W_le (by show pre.length + 2 ≤ _; omega))
        have e1 : eL c ++ [eN (mk ds p)] = eL (c ++ [mk ds p]) := by rw [eL_app, eL_one]
        have f := fin .non (.val (.lst (eCs ds))) (c ++ [mk ds p]) S2 hS2
          (by
            rw [plA_app, hj.p, plA, plA, k1]
            cases z : mk ds p with
            | text y => rw [z] at k5; cases k5
            | _ => rfl)
          (by rw [lOk_app, hj.ok, lOk, lOk, k2]; rfl)
          (by have := hj.h; rw [lH_app, lH, lH]; omega)
          (by rw [lw, lW_app, lW_one]; omega)
        unfold eM at f h1 h2 ⊢
        simp [tn, ht, tg, hc, i2, h1, lk, d1, i1, h2, ad, sl, e1] at f ⊢
        exact f
      cases n with
      | text x => cases hc
      | shw x => cases hc
      | num => cases hc
      | sel x cs o =>
        rw [gN] at hg
        rw [nOk, Bool.and_eq_true, Bool.and_eq_true] at ho
        refine ch cs o (fun a b => .sel x a b) [.str "select", .str x] hg.1 hg.2 ho.1.2 ho.2 (by rw [nW]; omega) (fun a b => by rw [eN]; rfl) (show 2 ≤ 10 by decide) (by rw [eN]; rfl) (by rw [eN]; rfl) (by rw [eN]; rfl) (by rw [nH]) fun ds p hd hp => ⟨?_, ?_, ?_, ?_, rfl⟩
        · rw [plN, hd.p, hp.p]
        · rw [nOk, ho.1.1, hd.ok, hp.ok]; rfl
        · have := hd.h; have := hp.h; rw [nH, nH]; omega
        · have := hd.w; have := hp.w; rw [nW, nW]; omega
      | plu x f cs o =>
        rw [gN] at hg
        rw [nOk, Bool.and_eq_true, Bool.and_eq_true, Bool.and_eq_true] at ho
        refine ch cs o (fun a b => .plu x f a b) [.str "plural", .str x, .int f] hg.1 hg.2 ho.1.2 ho.2 (by rw [nW]; omega) (fun a b => by rw [eN]; rfl) (show 3 ≤ 10 by decide) (by rw [eN]; rfl) (by rw [eN]; rfl) (by rw [eN]; rfl) (by rw [nH]) fun ds p hd hp => ⟨?_, ?_, ?_, ?_, rfl⟩
        · rw [plN, hd.p, hp.p]
        · rw [nOk, ho.1.1.1, ho.1.1.2, hd.ok, hp.ok]; rfl
        · have := hd.h; have := hp.h; rw [nH, nH]; omega
        · have := hd.w; have := hp.w; rw [nW, nW]; omega
    · have hc : isC n = false := by simpa using hc
      have e1 : eL c ++ [eN n] = eL (c ++ [n]) := by rw [eL_app, eL_one]
      have f := fin .non .non (c ++ [n]) S hS
        (by
          rw [plA_app, hj.p, plA, plA, plN_same n hg]
          exact plS_plain hg hlt)
        (by rw [lOk_app, hj.ok, lOk, lOk, ho]; rfl)
        (by have := hj.h; rw [lH_app, lH, lH]; omega)
        (by rw [lw, lW_app, lW_one]; omega)
      unfold eM at f ⊢
      simp [tn, ht, tg, hc, sl, e1] at f ⊢
      exact f

end
section
open PySem L2 DL
theorem take_snoc {m : List Nd} {j : Nat} {n : Nd} (h : m[j]? = some n) : m.take (j + 1) = m.take j ++ [n] := by rw [List.take_add_one, h]; rfl
theorem lW_take (m : List Nd) (j : Nat) : lW (m.take j) ≤ lW m := by
  have h : lW m = lW (m.take j) + lW (m.drop j) := by rw [← lW_app, List.take_append_drop]
  omega
theorem mkC : ∀ (h n : Nat), h + 2 ≤ n → MkC (run n) h := by
  intro h n
  induction n generalizing h with
  | zero => intro hn; omega
  | succ n ih =>
    intro hn m S hg ho hw hh hS
    obtain ⟨k, rfl⟩ : ∃ k, n = k + 2 := ⟨n - 2, by omega⟩
    rw [run_1007]
    have lp := forD_wp (p := .nm 3) (kl := [3, 4, 5]) (β := L_1007_2 (run (k + 2))) (R := fun _ _ => False) (N := fun Γ S2 => ∃ c, Γ = cutG m c ∧ Bx S2 ∧ CutJ m c (lH m))
      (fun j Γ S2 => ∃ c, Γ = cutG m c ∧ Bx S2 ∧ CutJ (m.take j) c (lH m)) (eL m) 0 (cutG m []) S ⟨[], rfl, hS, ⟨by rw [plA]; rfl, by rw [lOk], by rw [lH]; omega, by rw [lW]; omega⟩⟩
      (fun j x Γ S2 hx ⟨c, hΓ, hS2, hj⟩ => by
        subst hΓ
        rw [Nat.zero_add] at hj
        rw [eL_map, List.getElem?_map] at hx
        cases hm : m[j]? with
        | none => rw [hm] at hx; cases hx
        | some nd =>
          rw [hm] at hx; cases hx
          have mem := List.mem_of_getElem? hm
          have ts := take_snoc hm
          have gl : gL (m.take j ++ nd :: m.drop (j + 1)) := by
            have e : m.take j ++ nd :: m.drop (j + 1) = m := by
              have e2 := List.take_append_drop (j + 1) m
              rw [ts, List.append_assoc] at e2
              exact e2
            rw [e]; exact hg
          obtain ⟨g1, g2⟩ := gL_mid gl
          refine ⟨_, x_bnm, ?_⟩
          rw [Nat.zero_add, ts]
          have h1 := mem_lH mem
          have h2 := lW_take m (j + 1)
          rw [ts] at h2
          exact (cut_step k (h - 1) (ih (h - 1) (by omega)) m (m.take j) c nd (lH m) S2 hS2 hj g1 g2 (mem_lOk mem ho) (by omega) h1 (by omega)).mono (fun _ _ h => h) (fun _ _ h => h) (fun _ _ h => h.elim))
      (fun Γ S2 ⟨c, e, b, q⟩ => ⟨c, e, b, by rw [Nat.zero_add, eL_len, List.take_length] at q; exact q⟩)
    revert lp
    generalize hf : forD (.nm 3) [3, 4, 5] (L_1007_2 (run (k + 2))) (eL m) (cutG m []) S = o
    intro lp
    unfold cutG at hf
    rw [eL_nil] at hf
    cases o with
    | next Γ S2 =>
      obtain ⟨c, rfl, hS2, q⟩ := lp
      refine ⟨c, S2, ?_, hS2, q.p, q.ok, q.h, q.w⟩
      unfold cutG eM at hf
      simp [B_1007, hf, eM]
    | _ => exact lp.elim

/-! ### the law itself -/
theorem kinds_same {cs : List Cs} (h : csOk cs = true) (hh : csH cs ≤ 10) : dEq (.lst (eCs cs)) (.lst (eCs cs)) = some true := by
  refine dEq_same (by rw [okB]; exact csOk_B cs h) ?_
  have := csDep cs
  rw [dep]; omega
theorem inner_okB (nd : Nd) (h : nOk nd = true) (hh : nH nd ≤ 10) : dEq (.lst ((inner nd).map eM)) (.lst ((inner nd).map eM)) = some true := by
  have key : ∀ ms : List (List Nd), (∀ m ∈ ms, lOk m = true ∧ lH m ≤ 10) → okBs (ms.map eM) = true ∧ deps (ms.map eM) ≤ 45 := fun ms => by
    induction ms with
    | nil => intro _; exact ⟨by rw [List.map_nil, okBs], by rw [List.map_nil, deps]; omega⟩
    | cons m r ih =>
      intro hm
      obtain ⟨a, b⟩ := hm m List.mem_cons_self
      obtain ⟨c, d⟩ := ih fun x hx => hm x (List.mem_cons_of_mem _ hx)
      have ld := lDep m
      refine ⟨?_, ?_⟩
      · rw [List.map_cons, okBs, c, eM, okB, lOk_B m a]; rfl
      · rw [List.map_cons, deps, eM, dep]; omega
  have all : ∀ m ∈ inner nd, lOk m = true ∧ lH m ≤ 10 := fun m hm => by
    have f := inner_facts nd m hm
    refine ⟨?_, by omega⟩
    have k2 : ∀ (cs : List Cs) (o : List Nd), csOk cs = true → lOk o = true → m ∈ cs.map cMsg ++ [o] → lOk m = true := fun cs o h1 h2 hm => by
      rcases List.mem_append.mp hm with hm | hm
      · obtain ⟨c, hc, rfl⟩ := List.mem_map.mp hm
        have := mem_csOk hc h1
        cases c with
        | mk k m2 => rw [cOk, Bool.and_eq_true] at this; exact this.2
      · obtain rfl := List.mem_singleton.mp hm
        exact h2
    cases nd with
    | text x => cases hm
    | shw x => cases hm
    | num => cases hm
    | sel x cs o => rw [nOk, Bool.and_eq_true, Bool.and_eq_true] at h; exact k2 cs o h.1.2 h.2 hm
    | plu x f cs o => rw [nOk, Bool.and_eq_true, Bool.and_eq_true, Bool.and_eq_true] at h; exact k2 cs o h.1.2 h.2 hm
  obtain ⟨a, b⟩ := key _ all
  exact dEq_same (by rw [okB]; exact a) (by rw [dep]; omega)
def lawG (ns : List Int) (m c : List Nd) (t : Str) : List Sl := [.val (.scr ns), .val (.ptr 0), .val (eM m), .val (eM c), .val (.str t), .val (eM m), .non, .non, .non, .non]
theorem law_turn (n : Nat) (ns : List Int) (m c : List Nd) (t : Str) (nd : Nd) (S : List D) (ho : nOk nd = true) (hh : nH nd ≤ 10) (hw : nW nd ≤ 5000000) :
    L_1009_2 (run (n + 2)) [.val (.scr ns), .val (.ptr 0), .val (eM m), .val (eM c), .val (.str t), .val (eM m), .val (eN nd), .non, .non, .non] S = .next [.val (.scr ns), .val (.ptr 0), .val (eM m), .val (eM c), .val (.str t), .val (eM m), .val (eN nd), .val (.lst ((inner nd).map eM)), .non, .non] S := by
  have tg := tag_in nd
  have ri := run_inner n nd S hw
  have sm : cNe (.lst ((inner nd).map eM)) (.lst ((inner nd).map eM)) = some (.bl false) := by unfold cNe; rw [inner_okB nd ho hh]; rfl
  rw [e_L_1009_2]
  have ch : ∀ (cs : List Cs) (o : List Nd), ((∃ x, nd = .sel x cs o) ∨ ∃ x f, nd = .plu x f cs o) → csOk cs = true → lOk o = true → isC nd = true → inner nd = cs.map cMsg ++ [o] → csW cs ≤ 5000000 → dIdx (eN nd) (.int (-2)) = some (.lst (eCs cs)) → dIdx (eN nd) (.int (-1)) = some (.lst (eL o)) → csH cs ≤ 10 → lH o ≤ 10 →
      (sSeq (sSet 7 (eLst aNil)) (sSeq (sIf (tB (eOp cIn (eOp dIdx (eV 6) (eC (.int 0))) (eTup (aCons (eC (.str "select")) (aCons (eC (.str "plural")) aNil))))) (sSeq (sSet 7 (eOp dAdd (eComp (iA (eOp dIdx (eV 6) (eUn dNeg (eC (.int 2))))) (.tp [(.nm 8), (.nm 9)]) [8, 9] tTrue (C_1009_1 (run (n + 2)))) (eLst (aCons (eOp dIdx (eV 6) (eUn dNeg (eC (.int 1)))) aNil)))) (sIf (tOrD (tB (eOp cNe (eCall (run (n + 2) 1) (aCons (eV 6) aNil)) (eOp dIdx (eV 6) (eUn dNeg (eC (.int 2)))))) (tB (eOp cNe (eCall (run (n + 2) 2) (aCons (eV 6) aNil)) (eOp dIdx (eV 6) (eUn dNeg (eC (.int 1))))))) (sRet (eC (.bl false))) sNext)) sNext) (sIf (tB (eOp cNe (eCall (run (n + 2) 3) (aCons (eV 6) aNil)) (eV 7))) (sRet (eC (.bl false))) sNext)))
        [.val (.scr ns), .val (.ptr 0), .val (eM m), .val (eM c), .val (.str t), .val (eM m), .val (eN nd), .non, .non, .non] S = .next [.val (.scr ns), .val (.ptr 0), .val (eM m), .val (eM c), .val (.str t), .val (eM m), .val (eN nd), .val (.lst ((inner nd).map eM)), .non, .non] S := fun cs o hd h1 h2 ic e cw i2 i1 h3 h4 => by
    have r1 := run_cases (n + 1) nd cs o S hd
    have r2 := run_other (n + 1) nd cs o S hd
    replace r1 : run (n + 2) 1 [eN nd] S = .ok (.lst (eCs cs)) S := r1
    replace r2 : run (n + 2) 2 [eN nd] S = .ok (.lst (eL o)) S := r2
    have cl := csW_len cs
    have comp := comp_msgs cs (C_1009_1 (run (n + 2))) [.val (.scr ns), .val (.ptr 0), .val (eM m), .val (eM c), .val (.str t), .val (eM m), .val (eN nd), .val (.lst []), .non, .non] S 8 9 fun q hq => by simp [e_C_1009_1, eM]
    have lk : lenOk ((cs.map cMsg).map eM) = some (.lst ((cs.map cMsg).map eM)) := lenOk_le (by simp only [List.length_map]; omega)
    have ad : dAdd (.lst ((cs.map cMsg).map eM)) (.lst [.lst (eL o)]) = some (.lst ((inner nd).map eM)) := by
      rw [e, List.map_append]
      exact if_pos (W_le (by simp only [List.length_map, List.length_cons, List.length_nil]; omega))
    have s1 : cNe (.lst (eCs cs)) (.lst (eCs cs)) = some (.bl false) := by unfold cNe; rw [kinds_same h1 h3]; rfl
    have s2 : cNe (.lst (eL o)) (.lst (eL o)) = some (.bl false) := by unfold cNe; rw [msg_same h2 h4]; rfl
    simp only [List.map_map] at comp lk ad
    simp [tg, ic, i2, i1, comp, lk, ad, r1, r2, s1, s2, ri, sm]
  cases nd with
  | text x => simp [tg, isC, ri, sm, inner] at sm ⊢; simp [tg, isC, ri, sm, inner]
  | shw x => simp [tg, isC, ri, sm, inner] at sm ⊢; simp [tg, isC, ri, sm, inner]
  | num => simp [tg, isC, ri, sm, inner] at sm ⊢; simp [tg, isC, ri, sm, inner]
  | sel x cs o =>
    rw [nOk, Bool.and_eq_true, Bool.and_eq_true] at ho
    rw [nH] at hh
    rw [nW] at hw
    exact ch cs o (.inl ⟨x, rfl⟩) ho.1.2 ho.2 rfl rfl (by omega) (by rw [eN]; rfl) (by rw [eN]; rfl) (by omega) (by omega)
  | plu x f cs o =>
    rw [nOk, Bool.and_eq_true, Bool.and_eq_true, Bool.and_eq_true] at ho
    rw [nH] at hh
    rw [nW] at hw
    exact ch cs o (.inr ⟨x, f, rfl⟩) ho.1.2 ho.2 rfl rfl (by omega) (by rw [eN]; rfl) (by rw [eN]; rfl) (by omega) (by omega)

end
section
open PySem L2 DL
theorem law_loop (n : Nat) (ns : List Int) (m0 c : List Nd) (t : Str) (S : List D) : ∀ m : List Nd, lOk m = true → lH m ≤ 10 → lW m ≤ 5000000 →
    forD (.nm 6) [6, 7] (L_1009_2 (run (n + 2))) (eL m) (lawG ns m0 c t) S = .next (lawG ns m0 c t) S
  | [], _, _, _ => by rw [eL, forD]
  | nd :: r, ho, hh, hw => by
    rw [lOk, Bool.and_eq_true] at ho
    rw [lH] at hh
    rw [lW] at hw
    have ht := law_turn n ns m0 c t nd S ho.1 (by omega) (by omega)
    have ih := law_loop n ns m0 c t S r ho.2 (by omega) (by omega)
    rw [eL, forD, x_bnm]
    unfold lawG at ih ⊢
    simp only [List.set]
    rw [ht]
    simp only [x_clr1, x_clr0, List.set]
    exact ih
theorem law_true : ∀ ns : List Int, ns.length ≤ 63 → ∃ S, run 40 1009 [.scr ns] [] = .ok (.bl true) S := fun ns _ => by
  obtain ⟨ds, h1, _⟩ := run_digits 37 ns
  rw [run_1009]
  obtain ⟨m, S1, h2, hS1, gm⟩ := mkM 2 39 (by omega) false [box ds 0] ⟨ds, 0, rfl⟩
  have gw := gm.w
  rw [wM2] at gw
  have gh := gm.h
  obtain ⟨c, S2, h3, hS2, ct⟩ := mkC 5 39 (by omega) m S1 gm.g gm.ok (by omega) (by omega) hS1
  have cw := ct.w
  have ch := ct.h
  obtain ⟨t, h4⟩ := msg_repr ct.ok (by omega) (by omega)
  have h5 := (plain_both 39).2 c S2 ct.ok (by omega) (by omega) (by omega)
  rw [ct.p] at h5
  have h6 := (plain_both 39).2 m S2 gm.ok (by omega) (by omega) (by omega)
  rw [plA_same [] m (by rw [List.nil_append]; exact gm.g), List.nil_append] at h6
  have h7 := run_size 39 m S2 (by omega) (by omega)
  have h8 := run_lsize 39 m S2 (by omega) (by omega)
  have lp := law_loop 37 ns m c t S2 m gm.ok (by omega) (by omega)
  replace lp : forD (.nm 6) [6, 7] (L_1009_2 (run 39)) (eL m) (lawG ns m c t) S2 = .next (lawG ns m c t) S2 := lp
  have sm : cNe (.lst (eL m)) (.lst (eL m)) = some (.bl false) := by unfold cNe; rw [msg_same gm.ok (by omega)]; rfl
  have il : dIsi "list" (.lst (eL m)) = some (.bl true) := by unfold dIsi tyN; rfl
  refine ⟨S2, ?_⟩
  unfold eM box at h2
  unfold eM at h3 h7 h8
  unfold lawG eM at lp
  simp at h2 h3 lp
  simp [B_1009, h1, h2, h3, h4, h5, h6, h7, h8, il, sm, lp]

end
end PV
open PySem PySem.W PyProof.Rows
set_option maxRecDepth 100000 in
set_option maxHeartbeats 0 in
theorem PySem.Challenge.cw_messageways_k00_plain_messages_and_sizes_holds : PySem.Challenge.rw_messageways_k00_plain_messages_and_sizes.Holds := by
  w_on; o_law; k_head; (case hw => w_witness2)
  k_fill
  refine DL.law_headG (l := PySem.Challenge.rw_messageways_k00_plain_messages_and_sizes) (k := 40) (x := "_law_script") rfl rfl ⟨⟨rfl, by decide, by decide⟩, rfl⟩ (fun w h Y => PySem.W.kIn_of Y) ?F
  case F =>
    intro w mg fa h KX G hmg
    refine' PV.all_mk KX G hmg ?a1 ?l1 ?c1 ?k1 ?a2 ?l2 ?c2 ?k2 ?a3 ?l3 ?c3 ?k3 ?a4 ?l4 ?c4 ?k4 ?a5 ?l5 ?c5 ?k5 ?a9 ?l9 ?c9 ?k9 ?a1000 ?l1000 ?c1000 ?k1000 ?a1001 ?l1001 ?c1001 ?k1001 ?a1002 ?l1002 ?c1002 ?k1002 ?a1003 ?l1003 ?c1003 ?k1003 ?a1004 ?l1004 ?c1004 ?k1004 ?a1005 ?l1005 ?c1005 ?k1005 ?a1006 ?l1006 ?c1006 ?k1006 ?a1007 ?l1007 ?c1007 ?k1007 ?a1008 ?l1008 ?c1008 ?k1008 ?a1009 ?l1009 ?c1009 ?k1009 ?z_int ?z_isinstance ?z_len ?z_list ?z_range ?z_repr ?z_sum ?q_TEXT ?q_CHOICES ?r_CHOICES PV.law_true
    (case a1 => k_is)
    (case l1 => k_is)
    (case c1 => k_is)
    (case k1 => k_is)
    (case a2 => k_is)
    (case l2 => k_is)
    (case c2 => k_is)
    (case k2 => k_is)
    (case a3 => k_is)
    (case l3 => k_is)
    (case c3 => k_is)
    (case k3 => k_is)
    (case a4 => k_is)
    (case l4 => k_is)
    (case c4 => k_is)
    (case k4 => k_is)
    (case a5 => k_is)
    (case l5 => k_is)
    (case c5 => k_is)
    (case k5 => k_is)
    (case a9 => k_is)
    (case l9 => k_is)
    (case c9 => k_is)
    (case k9 => k_is)
    (case a1000 => k_is)
    (case l1000 => k_is)
    (case c1000 => k_is)
    (case k1000 => k_is)
    (case a1001 => k_is)
    (case l1001 => k_is)
    (case c1001 => k_is)
    (case k1001 => k_is)
    (case a1002 => k_is)
    (case l1002 => k_is)
    (case c1002 => k_is)
    (case k1002 => k_is)
    (case a1003 => k_is)
    (case l1003 => k_is)
    (case c1003 => k_is)
    (case k1003 => k_is)
    (case a1004 => k_is)
    (case l1004 => k_is)
    (case c1004 => k_is)
    (case k1004 => k_is)
    (case a1005 => k_is)
    (case l1005 => k_is)
    (case c1005 => k_is)
    (case k1005 => k_is)
    (case a1006 => k_is)
    (case l1006 => k_is)
    (case c1006 => k_is)
    (case k1006 => k_is)
    (case a1007 => k_is)
    (case l1007 => k_is)
    (case c1007 => k_is)
    (case k1007 => k_is)
    (case a1008 => k_is)
    (case l1008 => k_is)
    (case c1008 => k_is)
    (case k1008 => k_is)
    (case a1009 => k_is)
    (case l1009 => k_is)
    (case c1009 => k_is)
    (case k1009 => k_is)
    (case z_int => k_is)
    (case z_isinstance => k_is)
    (case z_len => k_is)
    (case z_list => k_is)
    (case z_range => k_is)
    (case z_repr => k_is)
    (case z_sum => k_is)
    (case q_TEXT => k_is)
    (case q_CHOICES => k_is)
    (case r_CHOICES => k_is)
