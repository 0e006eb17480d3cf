import PyProof.Rows.All
import Wide.All
import OpenK.AllK
import Wide.FinOn
import HandS.ForMost
import HandS.ForExc
import HandS.IsInst
import HandS.Wide
import HandS.TupAny
import HandS.TupMul
import HandS.Text
import HandS.Steps
import HandS.Iter
import HandS.Lambda
import HandS.EndBits
import HandS.RaiseMore
import HandS.Dict
import HandS.More
import HandS.ListItems
import KE.KExcSuper
import HandS.ExcField
import HandS.ExcIs
import HandS.ExcBuiltin
import PyProof.ReprRoads
import KE.KExcIs
import HandS.DictComp
import PyProof.StrLawsRepr
import PySem.Challenge.RW_messageways_k01_kinds_of_names
set_option Elab.async false
set_option linter.all false
set_option maxRecDepth 100000
set_option maxHeartbeats 4000000
namespace DL
open PySem L2

/-! ### data -/
inductive D where
  | non | bl (b : Bool) | int (i : Int) | str (x : Str)
  | lst (xs : List D) | tup (xs : List D) | dct (ks : List Key) (xs : List D)
  | ins (c : Nat) (ns : List Str) (xs : List D) | ptr (i : Nat) | scr (ns : List Int)

/-- what is fixed: the written part, the classes by number -/
structure Cn where
  K : PySem.W.Frag
  cls : Nat → Addr

mutual
def Rep (C : Cn) (ρ : List Addr) (G : Hp) : D → V → Prop
  | .non, v => v = .non
  | .bl b, v => v = .bl b
  | .int i, v => v = .int i
  | .str x, v => v = .str x
  | .lst xs, v => ∃ a vs, v = .ref a ∧ G a = some (.lst vs) ∧ Reps C ρ G xs vs
  | .tup xs, v => ∃ a vs, v = .ref a ∧ SqT C.K G a vs ∧ Reps C ρ G xs vs
  | .dct ks xs, v => ∃ a vs, v = .ref a ∧ G a = some (.dK (ks.zip vs)) ∧ ks.length = xs.length ∧ Reps C ρ G xs vs
  | .ins c ns xs, v => ∃ a dx vs, v = .ref a ∧ G a = some (.ins (C.cls (c + 3)) dx (ns.zip vs)) ∧ ns.length = xs.length ∧ Reps C ρ G xs vs
  | .ptr i, v => ∃ a, ρ[i]? = some a ∧ v = .ref a
  | .scr ns, v => ∃ a, v = .ref a ∧ SqL C.K G a (ns.map V.int)
def Reps (C : Cn) (ρ : List Addr) (G : Hp) : List D → List V → Prop
  | [], vs => vs = []
  | x :: xs, vs => ∃ v r, vs = v :: r ∧ Rep C ρ G x v ∧ Reps C ρ G xs r
end

section
variable {C : Cn} {ρ ρ' : List Addr} {G G' H H' : Hp}

def Sub (G G' : Hp) : Prop := ∀ a o, G a = some o → G' a = some o
theorem Sub.refl : Sub G G := fun _ _ h => h
theorem Sub.trans {G1 G2 G3 : Hp} (a : Sub G1 G2) (b : Sub G2 G3) : Sub G1 G3 := fun x o h => b x o (a x o h)
theorem Sub.sqT {K : PySem.W.Frag} {a : Addr} {xs : List V} (e : Sub G G') (h : SqT K G a xs) : SqT K G' a xs := by
  rcases h with (h | ⟨o, h⟩) | h
  · exact .inl (.inl (e _ _ h))
  · exact .inl (.inr ⟨o, e _ _ h⟩)
  · exact .inr h
theorem Sub.sqL {K : PySem.W.Frag} {a : Addr} {xs : List V} (e : Sub G G') (h : SqL K G a xs) : SqL K G' a xs := by
  rcases h with (h | ⟨o, h⟩) | h
  · exact .inl (.inl (e _ _ h))
  · exact .inl (.inr ⟨o, e _ _ h⟩)
  · exact .inr h

mutual
theorem Rep.mono (e : Sub G G') (p : ρ <+: ρ') : ∀ (d : D) (v : V), Rep C ρ G d v → Rep C ρ' G' d v
  | .non, _, h => by rw [Rep] at h ⊢; exact h
  | .bl _, _, h => by rw [Rep] at h ⊢; exact h
  | .int _, _, h => by rw [Rep] at h ⊢; exact h
  | .str _, _, h => by rw [Rep] at h ⊢; exact h
  | .lst xs, _, h => by
    rw [Rep] at h ⊢
    obtain ⟨a, vs, rfl, h1, h2⟩ := h
    exact ⟨a, vs, rfl, e _ _ h1, Reps.mono e p xs vs h2⟩
  | .tup xs, _, h => by
    rw [Rep] at h ⊢
    obtain ⟨a, vs, rfl, h1, h2⟩ := h
    exact ⟨a, vs, rfl, e.sqT h1, Reps.mono e p xs vs h2⟩
  | .dct ks xs, _, h => by
    rw [Rep] at h ⊢
    obtain ⟨a, vs, rfl, h1, h3, h2⟩ := h
    exact ⟨a, vs, rfl, e _ _ h1, h3, Reps.mono e p xs vs h2⟩
  | .ins c ns xs, _, h => by
    rw [Rep] at h ⊢
    obtain ⟨a, dx, vs, rfl, h1, h3, h2⟩ := h
    exact ⟨a, dx, vs, rfl, e _ _ h1, h3, Reps.mono e p xs vs h2⟩
  | .ptr i, _, h => by
    rw [Rep] at h ⊢
    obtain ⟨a, h1, rfl⟩ := h
    obtain ⟨t, rfl⟩ := p
    exact ⟨a, by rw [List.getElem?_append_left (List.getElem?_eq_some_iff.mp h1).1]; exact h1, rfl⟩
  | .scr ns, _, h => by
    rw [Rep] at h ⊢
    obtain ⟨a, rfl, h1⟩ := h
    exact ⟨a, rfl, e.sqL h1⟩
theorem Reps.mono (e : Sub G G') (p : ρ <+: ρ') : ∀ (ds : List D) (vs : List V), Reps C ρ G ds vs → Reps C ρ' G' ds vs
  | [], _, h => by rw [Reps] at h ⊢; exact h
  | x :: xs, _, h => by
    rw [Reps] at h ⊢
    obtain ⟨v, r, rfl, h1, h2⟩ := h
    exact ⟨v, r, rfl, Rep.mono e p x v h1, Reps.mono e p xs r h2⟩
end

theorem Reps.nil : Reps C ρ G [] [] := by rw [Reps]
theorem Reps.cons {x : D} {xs : List D} {v : V} {vs : List V} (h : Rep C ρ G x v) (t : Reps C ρ G xs vs) : Reps C ρ G (x :: xs) (v :: vs) := by rw [Reps]; exact ⟨v, vs, rfl, h, t⟩
theorem Reps.inv {x : D} {xs : List D} {vs : List V} (h : Reps C ρ G (x :: xs) vs) : ∃ v r, vs = v :: r ∧ Rep C ρ G x v ∧ Reps C ρ G xs r := by rw [Reps] at h; exact h
theorem Reps.inv0 {vs : List V} (h : Reps C ρ G [] vs) : vs = [] := by rw [Reps] at h; exact h
theorem Reps.length : ∀ {ds : List D} {vs : List V}, Reps C ρ G ds vs → ds.length = vs.length
  | [], _, h => by rw [h.inv0]; rfl
  | x :: xs, _, h => by
    obtain ⟨v, r, rfl, _, h2⟩ := h.inv
    rw [List.length_cons, List.length_cons, Reps.length h2]
theorem Reps.get : ∀ {ds : List D} {vs : List V} {i : Nat} {d : D}, Reps C ρ G ds vs → ds[i]? = some d → ∃ v, vs[i]? = some v ∧ Rep C ρ G d v
  | [], _, _, _, _, e => by simp at e
  | x :: xs, _, 0, d, h, e => by
    obtain ⟨v, r, rfl, h1, h2⟩ := h.inv
    simp at e; subst e
    exact ⟨v, rfl, h1⟩
  | x :: xs, _, i + 1, d, h, e => by
    obtain ⟨v, r, rfl, h1, h2⟩ := h.inv
    simpa using Reps.get (i := i) h2 (by simpa using e)
theorem Reps.get' : ∀ {ds : List D} {vs : List V} {i : Nat} {v : V}, Reps C ρ G ds vs → vs[i]? = some v → ∃ d, ds[i]? = some d ∧ Rep C ρ G d v
  | [], _, _, _, h, e => by rw [h.inv0] at e; simp at e
  | x :: xs, _, 0, d, h, e => by
    obtain ⟨v, r, rfl, h1, h2⟩ := h.inv
    simp at e; subst e
    exact ⟨x, rfl, h1⟩
  | x :: xs, _, i + 1, d, h, e => by
    obtain ⟨v, r, rfl, h1, h2⟩ := h.inv
    simpa using Reps.get' (i := i) h2 (by simpa using e)
theorem Reps.append : ∀ {ds es : List D} {vs ws : List V}, Reps C ρ G ds vs → Reps C ρ G es ws → Reps C ρ G (ds ++ es) (vs ++ ws)
  | [], _, _, _, h, k => by rw [h.inv0]; exact k
  | x :: xs, _, _, _, h, k => by
    obtain ⟨v, r, rfl, h1, h2⟩ := h.inv
    exact .cons h1 (Reps.append h2 k)
theorem Reps.take : ∀ {ds : List D} {vs : List V} (n : Nat), Reps C ρ G ds vs → Reps C ρ G (ds.take n) (vs.take n)
  | _, _, 0, _ => by simpa using Reps.nil
  | [], _, n + 1, h => by rw [h.inv0]; exact Reps.nil
  | x :: xs, _, n + 1, h => by
    obtain ⟨v, r, rfl, h1, h2⟩ := h.inv
    exact .cons h1 (Reps.take n h2)
theorem Reps.drop : ∀ {ds : List D} {vs : List V} (n : Nat), Reps C ρ G ds vs → Reps C ρ G (ds.drop n) (vs.drop n)
  | _, _, 0, h => h
  | [], _, n + 1, h => by rw [h.inv0]; exact Reps.nil
  | x :: xs, _, n + 1, h => by
    obtain ⟨v, r, rfl, h1, h2⟩ := h.inv
    exact Reps.drop n h2
theorem Reps.set {d : D} {v : V} (k : Rep C ρ G d v) : ∀ {ds : List D} {vs : List V} (n : Nat), Reps C ρ G ds vs → Reps C ρ G (ds.set n d) (vs.set n v)
  | [], _, n, h => by rw [h.inv0]; exact Reps.nil
  | x :: xs, _, 0, h => by
    obtain ⟨v, r, rfl, h1, h2⟩ := h.inv
    exact .cons k h2
  | x :: xs, _, n + 1, h => by
    obtain ⟨v, r, rfl, h1, h2⟩ := h.inv
    exact .cons h1 (Reps.set k n h2)
theorem Reps.reverse : ∀ {ds : List D} {vs : List V}, Reps C ρ G ds vs → Reps C ρ G ds.reverse vs.reverse
  | [], _, h => by rw [h.inv0]; exact Reps.nil
  | x :: xs, _, h => by
    obtain ⟨v, r, rfl, h1, h2⟩ := h.inv
    rw [List.reverse_cons, List.reverse_cons]
    exact (Reps.reverse h2).append (.cons h1 .nil)
theorem Reps.rep {ds : List D} {vs : List V} (h : Reps C ρ G ds vs) : ∀ k : Nat, Reps C ρ G (List.replicate k ds).flatten (List.replicate k vs).flatten
  | 0 => .nil
  | k + 1 => by
    rw [List.replicate_succ, List.replicate_succ, List.flatten_cons, List.flatten_cons]
    exact h.append (Reps.rep h k)
theorem Reps.dropLast {ds : List D} {vs : List V} (h : Reps C ρ G ds vs) : Reps C ρ G ds.dropLast vs.dropLast := by
  rw [List.dropLast_eq_take, List.dropLast_eq_take, h.length]; exact h.take _

/-! ### what stands at an address that may change -/
def ObAt (C : Cn) (ρ : List Addr) (G H : Hp) (a : Addr) : D → Prop
  | .lst xs => ∃ vs, H a = some (.lst vs) ∧ Reps C ρ G xs vs
  | .dct ks xs => ∃ vs, H a = some (.dK (ks.zip vs)) ∧ ks.length = xs.length ∧ Reps C ρ G xs vs
  | .ins c ns xs => ∃ dx vs, H a = some (.ins (C.cls (c + 3)) dx (ns.zip vs)) ∧ ns.length = xs.length ∧ Reps C ρ G xs vs
  | _ => False
theorem ObAt.mono {a : Addr} (e : Sub G G') (p : ρ <+: ρ') (k : ∀ o, H a = some o → H' a = some o) : ∀ {d : D}, ObAt C ρ G H a d → ObAt C ρ' G' H' a d
  | .lst xs, ⟨vs, h, r⟩ => ⟨vs, k _ h, Reps.mono e p _ _ r⟩
  | .dct ks xs, ⟨vs, h, l, r⟩ => ⟨vs, k _ h, l, Reps.mono e p _ _ r⟩
  | .ins c ns xs, ⟨dx, vs, h, l, r⟩ => ⟨dx, vs, k _ h, l, Reps.mono e p _ _ r⟩
theorem ObAt.some {a : Addr} : ∀ {d : D}, ObAt C ρ G H a d → ∃ o, H a = some o
  | .lst xs, ⟨vs, h, _⟩ => ⟨_, h⟩
  | .dct ks xs, ⟨vs, h, _⟩ => ⟨_, h⟩
  | .ins c ns xs, ⟨dx, vs, h, _⟩ => ⟨_, h⟩
/-- an object that changes no more -/
theorem ObAt.rep {a : Addr} : ∀ {d : D}, ObAt C ρ G G a d → Rep C ρ G d (V.ref a)
  | .lst xs, ⟨vs, h, r⟩ => by rw [Rep]; exact ⟨a, vs, rfl, h, r⟩
  | .dct ks xs, ⟨vs, h, l, r⟩ => by rw [Rep]; exact ⟨a, vs, rfl, h, l, r⟩
  | .ins c ns xs, ⟨dx, vs, h, l, r⟩ => by rw [Rep]; exact ⟨a, dx, vs, rfl, h, l, r⟩

/-! ### the slots -/
structure Exn where
  c : Nat
  ns : List Str
  fs : List D
inductive Sl where
  | non | val (d : D) | own (d : D) | xcp (x : Exn)
/-- the exception that is handled: it stands at C.cls 0, its dict, if it has one, at C.cls 1 less one, its class is C.cls 2 -/
def XOk (C : Cn) (ρ : List Addr) (G : Hp) (x : Exn) : Prop := C.cls 2 = C.cls (x.c + 3) ∧ (x.fs = [] → C.cls 1 = 0) ∧ (x.fs ≠ [] → ∃ d vs, C.cls 1 = d + 1 ∧ G d = some (.xd (x.ns.zip vs)) ∧ x.ns.length = x.fs.length ∧ Reps C ρ G x.fs vs)
theorem XOk.mono {x : Exn} (e : Sub G G') (p : ρ <+: ρ') (h : XOk C ρ G x) : XOk C ρ' G' x := ⟨h.1, h.2.1, fun z => by
  obtain ⟨d, vs, q, a, b, c⟩ := h.2.2 z
  exact ⟨d, vs, q, e _ _ a, b, Reps.mono e p _ _ c⟩⟩

structure Mem (C : Cn) (Γ : List Sl) (S : List D) (ρ : List Addr) (G H : Hp) (σ : L2.St) : Prop where
  sub : Sub G H
  val : ∀ (i : Nat) (d : D), Γ[i]? = some (Sl.val d) → ∃ v, σ[i]? = some (some v) ∧ Rep C ρ G d v
  own : ∀ (i : Nat) (d : D), Γ[i]? = some (Sl.own d) → ∃ a, σ[i]? = some (some (V.ref a)) ∧ ObAt C ρ G H a d ∧ G a = none ∧ a ∉ ρ
  inj : ∀ (i j : Nat) (d d' : D) (a : Addr), Γ[i]? = some (Sl.own d) → Γ[j]? = some (Sl.own d') → σ[i]? = some (some (V.ref a)) → σ[j]? = some (some (V.ref a)) → i = j
  sto : ∀ (i : Nat) (d : D), S[i]? = some d → ∃ a, ρ[i]? = some a ∧ ObAt C ρ G H a d
  stG : ∀ a ∈ ρ, G a = none
  len : ρ.length = S.length
  nd : ρ.Nodup
  wid : Γ.length = σ.length
  xcp : ∀ (i : Nat) (x : Exn), Γ[i]? = some (Sl.xcp x) → σ[i]? = some (some (V.ref (C.cls 0))) ∧ XOk C ρ G x

/-- what an expression does to the memory -/
structure Nx (ρ : List Addr) (G H : Hp) (ρ' : List Addr) (G' H' : Hp) : Prop where
  pre : ρ <+: ρ'
  ext : Sub G G'
  new : ∀ a o, G' a = some o → G a = some o ∨ H a = none
  keep : ∀ a o, H a = some o → a ∉ ρ → H' a = some o
  live : ∀ a, H' a = none → H a = none
  fre : ∀ a ∈ ρ', a ∈ ρ ∨ H a = none
theorem Nx.refl : Nx ρ G H ρ G H := ⟨List.prefix_refl _, .refl, fun _ _ h => .inl h, fun _ _ h _ => h, fun _ h => h, fun _ h => .inl h⟩
theorem Nx.trans {ρ1 ρ2 ρ3 : List Addr} {G1 G2 G3 H1 H2 H3 : Hp} (x : Nx ρ1 G1 H1 ρ2 G2 H2) (y : Nx ρ2 G2 H2 ρ3 G3 H3) : Nx ρ1 G1 H1 ρ3 G3 H3 where
  pre := x.pre.trans y.pre
  ext := x.ext.trans y.ext
  new := fun a o h => by
    rcases y.new a o h with h | h
    · exact x.new a o h
    · exact .inr (x.live a h)
  keep := fun a o h n => by
    refine y.keep a o (x.keep a o h n) fun m => ?_
    rcases x.fre a m with z | z
    · exact n z
    · rw [h] at z; cases z
  live := fun a h => x.live a (y.live a h)
  fre := fun a m => by
    rcases y.fre a m with z | z
    · exact x.fre a z
    · exact .inr (x.live a z)

/-- the memory alone (a callee's) -/
abbrev MemS (C : Cn) (S : List D) (ρ : List Addr) (G H : Hp) : Prop := Mem C [] S ρ G H []
theorem Mem.toS {Γ : List Sl} {S : List D} {σ : L2.St} (m : Mem C Γ S ρ G H σ) : MemS C S ρ G H :=
  ⟨m.sub, fun i d h => by simp at h, fun i d h => by simp at h, fun i j d d' a h => by simp at h, m.sto, m.stG, m.len, m.nd, rfl, fun i x h => by simp at h⟩
/-- behind a step that knows nothing of the slots -/
theorem Mem.step {Γ : List Sl} {S S' : List D} {σ : L2.St} (m : Mem C Γ S ρ G H σ) (n : Nx ρ G H ρ' G' H') (m' : MemS C S' ρ' G' H') : Mem C Γ S' ρ' G' H' σ where
  sub := m'.sub
  val := fun i d h => by
    obtain ⟨v, e, r⟩ := m.val i d h
    exact ⟨v, e, r.mono n.ext n.pre⟩
  own := fun i d h => by
    obtain ⟨a, e, r, g, p⟩ := m.own i d h
    obtain ⟨o, ho⟩ := r.some
    refine ⟨a, e, r.mono n.ext n.pre fun o q => n.keep a o q p, ?_, fun z => ?_⟩
    · cases q : G' a with
      | none => rfl
      | some o' =>
        rcases n.new a o' q with z | z
        · rw [g] at z; cases z
        · rw [ho] at z; cases z
    · rcases n.fre a z with z | z
      · exact p z
      · rw [ho] at z; cases z
  inj := m.inj
  sto := m'.sto
  stG := m'.stG
  len := m'.len
  nd := m'.nd
  wid := m.wid
  xcp := fun i x h => ⟨(m.xcp i x h).1, (m.xcp i x h).2.mono n.ext n.pre⟩

/-! ### results -/
inductive Res (α : Type) where
  | ok (a : α) (S : List D)
  | exc (e : Exn) (S : List D)
  | stuck
def Res.bind {α β : Type} (r : Res α) (f : α → List D → Res β) : Res β := match r with
  | .ok a S => f a S
  | .exc e S => .exc e S
  | .stuck => .stuck
@[simp] theorem Res.bind_ok {α β : Type} (a : α) (S : List D) (f : α → List D → Res β) : (Res.ok a S).bind f = f a S := Eq.trans rfl rfl
@[simp] theorem Res.bind_exc {α β : Type} (e : Exn) (S : List D) (f : α → List D → Res β) : (Res.exc e S : Res α).bind f = .exc e S := Eq.trans rfl rfl
@[simp] theorem Res.bind_stuck {α β : Type} (f : α → List D → Res β) : (Res.stuck : Res α).bind f = .stuck := Eq.trans rfl rfl

abbrev De := List Sl → List D → Res D
abbrev Da := List Sl → List D → Res (List D)
abbrev Dt := List Sl → List D → Res Bool
inductive Out where
  | next (Γ : List Sl) (S : List D) | ret (d : D) (S : List D) | brk (Γ : List Sl) (S : List D) | cont (Γ : List Sl) (S : List D) | exc (e : Exn) (Γ : List Sl) (S : List D) | stuck
abbrev Ds := List Sl → List D → Out

/-- an exception as it lies -/
def ExRep (C : Cn) (ρ : List Addr) (G H : Hp) (e : Exn) (cls : Value) (dx : Option Addr) : Prop :=
  cls = .ref (C.cls (e.c + 3)) ∧ (e.fs = [] → dx = none) ∧ (e.fs ≠ [] → ∃ d vs, dx = some d ∧ G d = some (.xd (e.ns.zip vs)) ∧ e.ns.length = e.fs.length ∧ Reps C ρ G e.fs vs)

/-- what is wanted behind an evaluation (RV: how the value lies) -/
abbrev RVT (α β : Type) := Hp → List Addr → Hp → Hp → α → β → Prop
def Post (C : Cn) (W : WX) {α β : Type} (RV : RVT α β) (Γ : List Sl) (ρ : List Addr) (G H : Hp) (σ : L2.St) (r : Res α) (Q : β → Hp → Prop) : Prop := match r with
  | .ok d S' => ∀ v ρ' G' H', Mem C Γ S' ρ' G' H' σ → Nx ρ G H ρ' G' H' → RV H ρ' G' H' d v → Q v H'
  | .exc e S' => ∀ cls dx ρ' G' H', Mem C Γ S' ρ' G' H' σ → Nx ρ G H ρ' G' H' → ExRep C ρ' G' H' e cls dx → W cls dx σ H'
  | .stuck => False
/-- settled -/
def RS (C : Cn) : RVT D V := fun _ ρ G _ d v => Rep C ρ G d v
/-- readable: settled, or an object of a slot's own -/
def RO (C : Cn) : RVT D V := fun _ ρ G H d v => Rep C ρ G d v ∨ ∃ a, v = V.ref a ∧ a ∉ ρ ∧ ObAt C ρ G H a d
/-- new -/
def RF (C : Cn) : RVT D V := fun H0 ρ G H d v => ∃ a, v = V.ref a ∧ a ∉ ρ ∧ H0 a = none ∧ G a = none ∧ ObAt C ρ G H a d
def RB : RVT Bool Bool := fun _ _ _ _ b c => b = c
def RA (C : Cn) : RVT (List D) (List V) := fun _ ρ G _ ds vs => Reps C ρ G ds vs
/-- the start may lie further back -/
def Back {α β : Type} (RV : RVT α β) : Prop := ∀ (H0 H1 : Hp) ρ G H d v, (∀ a, H1 a = none → H0 a = none) → RV H1 ρ G H d v → RV H0 ρ G H d v
theorem back_RS : Back (RS C) := fun _ _ _ _ _ _ _ _ h => h
theorem back_RO : Back (RO C) := fun _ _ _ _ _ _ _ _ h => h
theorem back_RF : Back (RF C) := fun _ _ _ _ _ _ _ k ⟨a, e, n, z, r⟩ => ⟨a, e, n, k a z, r⟩
theorem back_RB : Back RB := fun _ _ _ _ _ _ _ _ h => h
theorem back_RA : Back (RA C) := fun _ _ _ _ _ _ _ _ h => h

section
variable {W : WX} {α β γ δ : Type} {RV : RVT α β} {RV2 : RVT γ δ} {Γ : List Sl} {S : List D} {σ : L2.St}
theorem Post.mono {r : Res α} {Q Q' : β → Hp → Prop} (h : Post C W RV Γ ρ G H σ r Q) (q : ∀ v H', Q v H' → Q' v H') : Post C W RV Γ ρ G H σ r Q' := by
  cases r with
  | ok d S => exact fun v ρ' G' H' a b c => q _ _ (h v ρ' G' H' a b c)
  | exc e S => exact h
  | stuck => exact h
theorem Post.conv {RV' : RVT α β} {r : Res α} {Q : β → Hp → Prop} (h : Post C W RV' Γ ρ G H σ r Q) (c : ∀ ρ' G' H' d v, RV H ρ' G' H' d v → RV' H ρ' G' H' d v) : Post C W RV Γ ρ G H σ r Q := by
  cases r with
  | ok d S => exact fun v ρ' G' H' a b z => h v ρ' G' H' a b (c _ _ _ _ _ z)
  | exc e S => exact h
  | stuck => exact h
theorem Post.shift (bk : Back RV) {r : Res α} {Q : β → Hp → Prop} (h : Post C W RV Γ ρ G H σ r Q) {ρ1 : List Addr} {G1 H1 : Hp} (n : Nx ρ G H ρ1 G1 H1) : Post C W RV Γ ρ1 G1 H1 σ r Q := by
  cases r with
  | ok d S => exact fun v ρ' G' H' a b c => h v ρ' G' H' a (n.trans b) (bk _ _ _ _ _ _ _ n.live c)
  | exc e S => exact fun cls dx ρ' G' H' a b c => h cls dx ρ' G' H' a (n.trans b) c
  | stuck => exact h
/-- one evaluation ahead of another -/
theorem Post.seq (bk : Back RV2) {r : Res α} {f : α → List D → Res γ} {Q : δ → Hp → Prop} (h : Post C W RV2 Γ ρ G H σ (r.bind f) Q) :
    Post C W RV Γ ρ G H σ r (fun v H1 => ∃ d S1 ρ1 G1, Mem C Γ S1 ρ1 G1 H1 σ ∧ Nx ρ G H ρ1 G1 H1 ∧ RV H ρ1 G1 H1 d v ∧ Post C W RV2 Γ ρ1 G1 H1 σ (f d S1) Q) := by
  cases r with
  | ok d S => exact fun v ρ1 G1 H1 m n c => ⟨d, S, ρ1, G1, m, n, c, Post.shift bk h n⟩
  | exc e S => exact h
  | stuck => exact h
/-- an evaluation's end -/
theorem Post.here {d : α} {v : β} {Q : β → Hp → Prop} (h : Post C W RV Γ ρ G H σ (.ok d S) Q) {ρ' : List Addr} {G' H' : Hp} (m : Mem C Γ S ρ' G' H' σ) (n : Nx ρ G H ρ' G' H') (c : RV H ρ' G' H' d v) : Q v H' := h v ρ' G' H' m n c
theorem Post.at {d : α} {v : β} {Q : β → Hp → Prop} (h : Post C W RV Γ ρ G H σ (.ok d S) Q) (m : Mem C Γ S ρ G H σ) (c : RV H ρ G H d v) : Q v H := h v ρ G H m .refl c
end

/-! ### an expression by what it evaluates to -/
def tE (C : Cn) (W : WX) (RV : RVT D V) (δ : De) : TE := fun σ H Q => ∃ Γ S ρ G, Mem C Γ S ρ G H σ ∧ Post C W RV Γ ρ G H σ (δ Γ S) Q
def tT (C : Cn) (W : WX) (δ : Dt) : TT := fun σ H Q => ∃ Γ S ρ G, Mem C Γ S ρ G H σ ∧ Post C W RB Γ ρ G H σ (δ Γ S) Q
def tA (C : Cn) (W : WX) (δ : Da) : TA := fun σ H Q => ∃ Γ S ρ G, Mem C Γ S ρ G H σ ∧ Post C W (RA C) Γ ρ G H σ (δ Γ S) Q
def DE (X : Cx) (cls : Nat → Addr) (W : WX) (e : Expr) (δ : De) : Prop := PE X e (tE ⟨X.K, cls⟩ W (RS ⟨X.K, cls⟩) δ)
def DO (X : Cx) (cls : Nat → Addr) (W : WX) (e : Expr) (δ : De) : Prop := PE X e (tE ⟨X.K, cls⟩ W (RO ⟨X.K, cls⟩) δ)
def DF (X : Cx) (cls : Nat → Addr) (W : WX) (e : Expr) (δ : De) : Prop := PE X e (tE ⟨X.K, cls⟩ W (RF ⟨X.K, cls⟩) δ)
def DT (X : Cx) (cls : Nat → Addr) (W : WX) (e : Expr) (δ : Dt) : Prop := PT X e (tT ⟨X.K, cls⟩ W δ)
def DW (X : Cx) (cls : Nat → Addr) (W : WX) (e : Expr) (δ : Dt) : Prop := PW X e (tT ⟨X.K, cls⟩ W δ)
def DA (X : Cx) (cls : Nat → Addr) (W : WX) (es : List Expr) (δ : Da) : Prop := PA X es (tA ⟨X.K, cls⟩ W δ)

theorem PE.weak {X : Cx} {e : Expr} {t t' : TE} (h : PE X e t) (i : ∀ σ H Q, t' σ H Q → t σ H Q) : PE X e t' := ⟨fun pins s σ H Q I h' => h.run pins s σ H Q I (i σ H Q h')⟩
theorem PT.weak {X : Cx} {e : Expr} {t t' : TT} (h : PT X e t) (i : ∀ σ H Q, t' σ H Q → t σ H Q) : PT X e t' := ⟨fun pins s σ H Q I h' => h.run pins s σ H Q I (i σ H Q h')⟩
theorem PW.weak {X : Cx} {e : Expr} {t t' : TT} (h : PW X e t) (i : ∀ σ H Q, t' σ H Q → t σ H Q) : PW X e t' := ⟨fun w pins s σ H Q I h' => h.run w pins s σ H Q I (i σ H Q h')⟩
theorem PA.weak {X : Cx} {e : List Expr} {t t' : TA} (h : PA X e t) (i : ∀ σ H Q, t' σ H Q → t σ H Q) : PA X e t' := ⟨fun p pins s σ H Q I h' => h.run p pins s σ H Q I (i σ H Q h')⟩
theorem PS.weak {X : Cx} {e : Stmt} {t t' : TS} (h : PS X e t) (i : ∀ D σ H, t' D σ H → t D σ H) : PS X e t' := ⟨fun pins s σ H D I h' => h.run pins s σ H D I (i D σ H h')⟩
theorem PSs.weak {X : Cx} {e : List Stmt} {t t' : TS} (h : PSs X e t) (i : ∀ D σ H, t' D σ H → t D σ H) : PSs X e t' := ⟨fun pins s σ H D I h' => h.run pins s σ H D I (i D σ H h')⟩

/-! ### reading -/
def deref (S : List D) : D → D
  | .ptr k => match S[k]? with | some d => d | none => .ptr k
  | d => d
/-- how a value reads at the heap -/
def RT (C : Cn) (ρ : List Addr) (G H : Hp) (d : D) (v : V) : Prop := match d with
  | .lst xs => ∃ a vs, v = V.ref a ∧ H a = some (.lst vs) ∧ Reps C ρ G xs vs
  | .dct ks xs => ∃ a vs, v = V.ref a ∧ H a = some (.dK (ks.zip vs)) ∧ ks.length = xs.length ∧ Reps C ρ G xs vs
  | .ins c ns xs => ∃ a dx vs, v = V.ref a ∧ H a = some (.ins (C.cls (c + 3)) dx (ns.zip vs)) ∧ ns.length = xs.length ∧ Reps C ρ G xs vs
  | d => Rep C ρ G d v
theorem ObAt.rt {a : Addr} : ∀ {d : D}, ObAt C ρ G H a d → RT C ρ G H d (V.ref a)
  | .lst xs, ⟨vs, h, r⟩ => ⟨a, vs, rfl, h, r⟩
  | .dct ks xs, ⟨vs, h, l, r⟩ => ⟨a, vs, rfl, h, l, r⟩
  | .ins c ns xs, ⟨dx, vs, h, l, r⟩ => ⟨a, dx, vs, rfl, h, l, r⟩
theorem Rep.rt (e : Sub G H) : ∀ {d : D} {v : V}, Rep C ρ G d v → RT C ρ G H d v
  | .non, _, h => h
  | .bl _, _, h => h
  | .int _, _, h => h
  | .str _, _, h => h
  | .tup _, _, h => h
  | .ptr _, _, h => h
  | .scr _, _, h => h
  | .lst xs, _, h => by
    rw [Rep] at h
    obtain ⟨a, vs, rfl, h1, h2⟩ := h
    exact ⟨a, vs, rfl, e _ _ h1, h2⟩
  | .dct ks xs, _, h => by
    rw [Rep] at h
    obtain ⟨a, vs, rfl, h1, l, h2⟩ := h
    exact ⟨a, vs, rfl, e _ _ h1, l, h2⟩
  | .ins c ns xs, _, h => by
    rw [Rep] at h
    obtain ⟨a, dx, vs, rfl, h1, l, h2⟩ := h
    exact ⟨a, dx, vs, rfl, e _ _ h1, l, h2⟩
theorem Mem.read {Γ : List Sl} {S : List D} {σ : L2.St} {H0 : Hp} {d : D} {v : V} (m : Mem C Γ S ρ G H σ) (r : RO C H0 ρ G H d v) : RT C ρ G H (deref S d) v := by
  rcases r with r | ⟨a, rfl, n, r⟩
  · cases d with
    | ptr k =>
      unfold deref
      rw [Rep] at r
      obtain ⟨a, h1, rfl⟩ := r
      have hk : k < S.length := by rw [← m.len]; exact (List.getElem?_eq_some_iff.mp h1).1
      obtain ⟨b, hb, r⟩ := m.sto k S[k] (List.getElem?_eq_getElem hk)
      rw [h1] at hb; cases hb
      show RT C ρ G H (match S[k]? with | some d => d | none => D.ptr k) (V.ref a)
      rw [List.getElem?_eq_getElem hk]
      exact r.rt
    | _ => exact r.rt m.sub
  · cases d with
    | lst _ => exact r.rt
    | dct _ _ => exact r.rt
    | ins _ _ _ => exact r.rt
    | _ => exact (show False from r).elim
/-- readable still, behind a step -/
theorem RO.step {H0 H1 : Hp} {d : D} {v : V} (n : Nx ρ G H ρ' G' H') (r : RO C H0 ρ G H d v) : RO C H1 ρ' G' H' d v := by
  rcases r with r | ⟨a, rfl, na, r⟩
  · exact .inl (r.mono n.ext n.pre)
  · obtain ⟨o, ho⟩ := r.some
    refine .inr ⟨a, rfl, fun z => ?_, r.mono n.ext n.pre fun o q => n.keep a o q na⟩
    rcases n.fre a z with z | z
    · exact na z
    · rw [ho] at z; cases z

section
variable {v : V}
theorem rep_non : Rep C ρ G .non v ↔ v = .non := by rw [Rep]
theorem rep_bl {b : Bool} : Rep C ρ G (.bl b) v ↔ v = .bl b := by rw [Rep]
theorem rep_int {b : Int} : Rep C ρ G (.int b) v ↔ v = .int b := by rw [Rep]
theorem rep_str {b : Str} : Rep C ρ G (.str b) v ↔ v = .str b := by rw [Rep]
theorem rep_tup {xs : List D} : Rep C ρ G (.tup xs) v ↔ ∃ a vs, v = V.ref a ∧ SqT C.K G a vs ∧ Reps C ρ G xs vs := by rw [Rep]
theorem rep_lst {xs : List D} : Rep C ρ G (.lst xs) v ↔ ∃ a vs, v = V.ref a ∧ G a = some (.lst vs) ∧ Reps C ρ G xs vs := by rw [Rep]
theorem rep_ptr {i : Nat} : Rep C ρ G (.ptr i) v ↔ ∃ a, ρ[i]? = some a ∧ v = V.ref a := by rw [Rep]
theorem rep_scr {ns : List Int} : Rep C ρ G (.scr ns) v ↔ ∃ a, v = V.ref a ∧ SqL C.K G a (ns.map V.int) := by rw [Rep]
theorem rt_non : RT C ρ G H .non v ↔ v = .non := rep_non (C := C) (ρ := ρ) (G := G)
theorem rt_bl {b : Bool} : RT C ρ G H (.bl b) v ↔ v = .bl b := rep_bl (C := C) (ρ := ρ) (G := G)
theorem rt_int {b : Int} : RT C ρ G H (.int b) v ↔ v = .int b := rep_int (C := C) (ρ := ρ) (G := G)
theorem rt_str {b : Str} : RT C ρ G H (.str b) v ↔ v = .str b := rep_str (C := C) (ρ := ρ) (G := G)
theorem rt_tup {xs : List D} : RT C ρ G H (.tup xs) v ↔ ∃ a vs, v = V.ref a ∧ SqT C.K G a vs ∧ Reps C ρ G xs vs := rep_tup (C := C) (ρ := ρ) (G := G)
theorem rt_ptr {i : Nat} : RT C ρ G H (.ptr i) v ↔ ∃ a, ρ[i]? = some a ∧ v = V.ref a := rep_ptr (C := C) (ρ := ρ) (G := G)
theorem rt_scr {ns : List Int} : RT C ρ G H (.scr ns) v ↔ ∃ a, v = V.ref a ∧ SqL C.K G a (ns.map V.int) := rep_scr (C := C) (ρ := ρ) (G := G)
end
/-! ### a new object -/
theorem Mem.new {Γ : List Sl} {S : List D} {σ : L2.St} {p : Addr} {o : HO} (m : Mem C Γ S ρ G H σ) (hp : H p = none) : Mem C Γ S ρ G (upd H p o) σ ∧ Nx ρ G H ρ G (upd H p o) ∧ p ∉ ρ ∧ G p = none := by
  have gp : G p = none := by
    cases q : G p with
    | none => rfl
    | some u => rw [m.sub _ _ q] at hp; cases hp
  have k : Sub H (upd H p o) := fun a u h => by rw [upd_ne (ne_of_none h hp)]; exact h
  have np : p ∉ ρ := fun z => by
    obtain ⟨i, hi⟩ := List.mem_iff_getElem?.mp z
    have hi2 : i < S.length := by rw [← m.len]; exact (List.getElem?_eq_some_iff.mp hi).1
    obtain ⟨a, ha, r⟩ := m.sto i S[i] (List.getElem?_eq_getElem hi2)
    rw [hi] at ha; cases ha
    obtain ⟨o, ho⟩ := r.some
    rw [ho] at hp; cases hp
  have n : Nx ρ G H ρ G (upd H p o) := ⟨List.prefix_refl _, .refl, fun _ _ h => .inl h, fun a u h _ => k a u h, fun a h => by
    by_cases e : a = p
    · subst e; exact hp
    · rw [upd_ne e] at h; exact h, fun _ h => .inl h⟩
  exact ⟨⟨m.sub.trans k, m.val, fun i d h => by
    obtain ⟨a, e, r, g, q⟩ := m.own i d h
    exact ⟨a, e, r.mono .refl (List.prefix_refl _) fun o h => k _ _ h, g, q⟩, m.inj, fun i d h => by
    obtain ⟨a, e, r⟩ := m.sto i d h
    exact ⟨a, e, r.mono .refl (List.prefix_refl _) fun o h => k _ _ h⟩, m.stG, m.len, m.nd, m.wid, m.xcp⟩, n, np, gp⟩
/-- what is new is settled -/
theorem Mem.settle {Γ : List Sl} {S S' : List D} {σ : L2.St} {p : Addr} {o : HO} {ρ0 : List Addr} {G0 H0 : Hp} (m0 : Mem C Γ S ρ0 G0 H0 σ) (n : Nx ρ0 G0 H0 ρ G H) (m : Mem C Γ S' ρ G H σ) (h0 : H0 p = none) (hg : G p = none) (hp : p ∉ ρ) (ho : H p = some o) :
    Mem C Γ S' ρ (upd G p o) H σ ∧ Nx ρ0 G0 H0 ρ (upd G p o) H ∧ Sub G (upd G p o) := by
  have k : Sub G (upd G p o) := fun a u h => by rw [upd_ne (ne_of_none h hg)]; exact h
  refine ⟨⟨fun a u h => ?_, fun i d h => ?_, fun i d h => ?_, m.inj, fun i d h => ?_, fun a h => ?_, m.len, m.nd, m.wid, fun i x h => ⟨(m.xcp i x h).1, (m.xcp i x h).2.mono k (List.prefix_refl _)⟩⟩, ⟨n.pre, n.ext.trans k, fun a u h => ?_, n.keep, n.live, n.fre⟩, k⟩
  · by_cases e : a = p
    · subst e; rw [upd_same] at h; cases h; exact ho
    · rw [upd_ne e] at h; exact m.sub _ _ h
  · obtain ⟨v, e, r⟩ := m.val i d h
    exact ⟨v, e, r.mono k (List.prefix_refl _)⟩
  · obtain ⟨a, e, r, g, q⟩ := m.own i d h
    obtain ⟨a0, e0, r0, _, _⟩ := m0.own i d h
    rw [e] at e0; cases e0
    obtain ⟨u, hu⟩ := r0.some
    have ne : a ≠ p := fun z => by rw [z, h0] at hu; cases hu
    exact ⟨a, e, r.mono k (List.prefix_refl _) fun _ h => h, by rw [upd_ne ne]; exact g, q⟩
  · obtain ⟨a, e, r⟩ := m.sto i d h
    exact ⟨a, e, r.mono k (List.prefix_refl _) fun _ h => h⟩
  · rw [upd_ne (fun z => hp (by rw [← z]; exact h))]; exact m.stG a h
  · by_cases e : a = p
    · subst e; exact .inr h0
    · rw [upd_ne e] at h; exact n.new a u h
theorem RF.settle {Γ : List Sl} {S S' : List D} {σ : L2.St} {ρ0 : List Addr} {G0 H0 : Hp} {d : D} {v : V} (m0 : Mem C Γ S ρ0 G0 H0 σ) (n : Nx ρ0 G0 H0 ρ G H) (m : Mem C Γ S' ρ G H σ) (r : RF C H0 ρ G H d v) :
    ∃ G', Mem C Γ S' ρ G' H σ ∧ Nx ρ0 G0 H0 ρ G' H ∧ Rep C ρ G' d v := by
  obtain ⟨a, rfl, na, h0, hg, r⟩ := r
  obtain ⟨o, ho⟩ := r.some
  obtain ⟨m', n', k⟩ := Mem.settle m0 n m h0 hg na ho
  refine ⟨_, m', n', ObAt.rep ?_⟩
  refine r.mono k (List.prefix_refl _) fun u hu => ?_
  rw [ho] at hu; cases hu
  exact upd_same
end
end DL

namespace DL
open PySem L2

/-! ### operations on data -/
mutual
def toPy : D → Option PyData
  | .non => some .none
  | .bl b => some (.bool b)
  | .int i => some (.int i)
  | .str x => some (.str x)
  | .lst xs => (toPys xs).map .list
  | .tup xs => (toPys xs).map .tuple
  | .dct _ _ => none
  | .ins _ _ _ => none
  | .ptr _ => none
  | .scr _ => none
def toPys : List D → Option (List PyData)
  | [] => some []
  | x :: xs => (toPy x).bind fun p => (toPys xs).map fun q => p :: q
end
section
variable {C : Cn} {ρ : List Addr} {G H : Hp}
mutual
theorem dp_of (e : Sub G H) : ∀ (d : D) (v : V) (p : PyData), Rep C ρ G d v → toPy d = some p → Dp C.K H v p
  | .non, _, _, h, k => by rw [Rep] at h; rw [toPy] at k; cases k; subst h; exact .non
  | .bl _, _, _, h, k => by rw [Rep] at h; rw [toPy] at k; cases k; subst h; exact .bl _
  | .int _, _, _, h, k => by rw [Rep] at h; rw [toPy] at k; cases k; subst h; exact .int _
  | .str _, _, _, h, k => by rw [Rep] at h; rw [toPy] at k; cases k; subst h; exact .str _
  | .lst xs, _, p, h, k => by
    rw [Rep] at h
    obtain ⟨a, vs, rfl, h1, h2⟩ := h
    rw [toPy] at k
    cases q : toPys xs with
    | none => rw [q] at k; cases k
    | some ps =>
      rw [q] at k; cases k
      exact .lst (SqL.of (e _ _ h1)) (dps_of e xs vs ps h2 q)
  | .tup xs, _, p, h, k => by
    rw [Rep] at h
    obtain ⟨a, vs, rfl, h1, h2⟩ := h
    rw [toPy] at k
    cases q : toPys xs with
    | none => rw [q] at k; cases k
    | some ps =>
      rw [q] at k; cases k
      exact .tup (e.sqT h1) (dps_of e xs vs ps h2 q)
  | .dct _ _, _, _, _, k => by rw [toPy] at k; cases k
  | .ins _ _ _, _, _, _, k => by rw [toPy] at k; cases k
  | .ptr _, _, _, _, k => by rw [toPy] at k; cases k
  | .scr _, _, _, _, k => by rw [toPy] at k; cases k
theorem dps_of (e : Sub G H) : ∀ (ds : List D) (vs : List V) (ps : List PyData), Reps C ρ G ds vs → toPys ds = some ps → DpAll C.K H vs ps
  | [], _, _, h, k => by rw [h.inv0]; rw [toPys] at k; cases k; exact .nil
  | x :: xs, _, ps, h, k => by
    obtain ⟨v, r, rfl, h1, h2⟩ := h.inv
    rw [toPys] at k
    cases q : toPy x with
    | none => rw [q] at k; cases k
    | some p =>
      cases q2 : toPys xs with
      | none => rw [q, q2] at k; cases k
      | some ps' =>
        rw [q, q2] at k; cases k
        exact .cons (dp_of e x v p h1 q) (dps_of e xs r ps' h2 q2)
end
theorem dp_rt (e : Sub G H) {d : D} {v : V} {p : PyData} (h : RT C ρ G H d v) (k : toPy d = some p) : Dp C.K H v p := by
  cases d with
  | lst xs =>
    obtain ⟨a, vs, rfl, h1, h2⟩ := h
    rw [toPy] at k
    cases q : toPys xs with
    | none => rw [q] at k; cases k
    | some ps =>
      rw [q] at k; cases k
      exact .lst (SqL.of h1) (dps_of e xs vs ps h2 q)
  | dct _ _ => rw [toPy] at k; cases k
  | ins _ _ _ => rw [toPy] at k; cases k
  | _ => exact dp_of e _ _ _ h k
end

def dEqP (a b : D) : Option Bool := match toPy a, toPy b with
  | some p, some q => if SeqAt.shaped p = true ∧ SeqAt.shaped q = true then some (PyData.eqv p q) else none
  | _, _ => none
def dEq : D → D → Option Bool
  | .str a, .str b => some (a == b)
  | a, b => dEqP a b
theorem dEq_cases (a b : D) : (∃ x y, a = .str x ∧ b = .str y ∧ dEq a b = some (x == y)) ∨ dEq a b = dEqP a b := by
  cases a <;> first | exact .inr rfl | (cases b <;> first | exact .inr rfl | exact .inl ⟨_, _, rfl, rfl, rfl⟩)
def cEq (a b : D) : Option D := (dEq a b).map .bl
def cNe (a b : D) : Option D := (dEq a b).map fun k => .bl (!k)
def cLt : D → D → Option D
  | .int i, .int j => some (.bl (decide (i < j)))
  | .str i, .str j => some (.bl (decide (i.cps.toList < j.cps.toList)))
  | _, _ => none
def cLe : D → D → Option D
  | .int i, .int j => some (.bl (decide (i ≤ j)))
  | .str i, .str j => some (.bl (!decide (j.cps.toList < i.cps.toList)))
  | _, _ => none
def cGt : D → D → Option D
  | .int i, .int j => some (.bl (decide (j < i)))
  | .str i, .str j => some (.bl (decide (j.cps.toList < i.cps.toList)))
  | _, _ => none
def cGe : D → D → Option D
  | .int i, .int j => some (.bl (decide (j ≤ i)))
  | .str i, .str j => some (.bl (!decide (i.cps.toList < j.cps.toList)))
  | _, _ => none
def isNon : D → Bool | .non => true | _ => false
def cIs : D → D → Option D | a, .non => some (.bl (isNon a)) | _, _ => none
def cIsNot : D → D → Option D | a, .non => some (.bl (!isNon a)) | _, _ => none
def dAdd : D → D → Option D
  | .int i, .int j => some (.int (i + j))
  | .str a, .str b => if a.length + b.length ≤ sizeLine then some (.str (a ++ b)) else none
  | .lst a, .lst b => if a.length + b.length ≤ sizeLine then some (.lst (a ++ b)) else none
  | .tup a, .tup b => if a.length + b.length ≤ sizeLine then some (.tup (a ++ b)) else none
  | _, _ => none
def dSub : D → D → Option D
  | .int i, .int j => some (.int (i - j))
  | _, _ => none
def mulOk (i j : Int) : Prop := (-(2 ^ 64) < i ∧ i < 2 ^ 64) ∨ (-(2 ^ 64) < j ∧ j < 2 ^ 64)
instance (i j : Int) : Decidable (mulOk i j) := by unfold mulOk; infer_instance
def dMul : D → D → Option D
  | .int i, .int j => if mulOk i j then some (.int (i * j)) else none
  | .lst xs, .int k => if -(2 ^ 63) ≤ k ∧ k < 2 ^ 63 ∧ xs.length * k.toNat ≤ sizeLine then some (.lst (List.replicate k.toNat xs).flatten) else none
  | .tup xs, .int k => if 1 ≤ k ∧ k ≤ 1000 ∧ xs.length ≤ 1000 then some (.tup (List.replicate k.toNat xs).flatten) else none
  | _, _ => none
def dDiv : D → D → Option D
  | .int i, .int j => if 0 < j ∧ j < 1073741824 then some (.int (i / j)) else none
  | _, _ => none
def dMod : D → D → Option D
  | .int i, .int j => if 0 < j then some (.int (i % j)) else none
  | _, _ => none
def dPow : D → D → Option D
  | .int i, .int j => if 0 ≤ j ∧ j ≤ 1000000 ∧ i.natAbs < 2 ^ 64 then some (.int (i ^ j.toNat)) else none
  | _, _ => none
def dNeg : D → Option D
  | .int i => some (.int (-i))
  | _ => none
def keyD : D → Option Key
  | .int i => some (.inl i)
  | .str x => some (.inr x)
  | _ => none
/-- the value of a key -/
def dGet : List Key → List D → Key → Option D
  | k :: ks, x :: xs, q => if k = q then some x else dGet ks xs q
  | _, _, _ => none
def dIdx : D → D → Option D
  | .lst xs, .int i => atI xs i
  | .tup xs, .int i => atI xs i
  | .scr ns, .int i => (atI ns i).map .int
  | .str x, .int i => if x.length ≤ sizeLine then (atI x.cps.toList i).map fun c => .str ⟨#[c]⟩ else none
  | _, _ => none
def dLen : D → Option D
  | .lst xs => some (.int xs.length)
  | .tup xs => some (.int xs.length)
  | .scr xs => some (.int xs.length)
  | .str x => if x.length ≤ sizeLine then some (.int x.length) else none
  | _ => none
def dTruth : D → Option Bool
  | .non => some false
  | .bl b => some b
  | .int i => some (i != 0)
  | .str x => if x.length ≤ sizeLine then some ((x.length : Int) != 0) else none
  | .lst xs => some !xs.isEmpty
  | .tup xs => some !xs.isEmpty
  | .dct ks _ => some !ks.isEmpty
  | _ => none
/-- things that == compares at once -/
def flatD : D → Bool
  | .non | .bl _ | .int _ | .str _ => true
  | _ => false
def eqF : D → D → Bool
  | .non, .non => true
  | .bl a, .bl b => a == b
  | .bl a, .int j => (if a then 1 else 0) == j
  | .int i, .bl b => i == (if b then 1 else 0)
  | .int i, .int j => i == j
  | .str x, .str y => decide (x = y)
  | _, _ => false
def inF (x : D) (xs : List D) : Bool := xs.any fun y => eqF y x
def dIn : D → D → Option Bool
  | x, .lst xs => if flatD x ∧ xs.all flatD then some (inF x xs) else none
  | x, .tup xs => if flatD x ∧ xs.all flatD then some (inF x xs) else none
  | .str x, .str y => if x.length = 1 then some (decide (x.cps.getD 0 0 ∈ y.cps.toList)) else none
  | _, _ => none
def cIn (a b : D) : Option D := (dIn a b).map .bl
def cNotIn (a b : D) : Option D := (dIn a b).map fun k => .bl (!k)
def cutD (xs : List D) (lo hi : Option Int) : List D := (xs.drop (HT.sIx xs.length 0 lo)).take (HT.sIx xs.length xs.length hi - HT.sIx xs.length 0 lo)

/-! ### the forms of expressions -/
def eV (i : Nat) : De := fun Γ S => match Γ[i]? with | some (.val d) => .ok d S | _ => .stuck
def oV (i : Nat) : De := fun Γ S => match Γ[i]? with | some (.val d) => .ok d S | some (.own d) => .ok d S | _ => .stuck
def eC (d : D) : De := fun _ S => .ok d S
def ofO {α : Type} (o : Option α) (S : List D) : Res α := match o with | some d => .ok d S | none => .stuck
@[simp] theorem ofO_some {α : Type} (a : α) (S : List D) : ofO (some a) S = .ok a S := Eq.trans rfl rfl
@[simp] theorem ofO_none {α : Type} (S : List D) : ofO (none : Option α) S = .stuck := Eq.trans rfl rfl
def eOp (f : D → D → Option D) (a b : De) : De := fun Γ S => (a Γ S).bind fun x S1 => (b Γ S1).bind fun y S2 => ofO (f (deref S2 x) (deref S2 y)) S2
def eUn (f : D → Option D) (a : De) : De := fun Γ S => (a Γ S).bind fun x S1 => ofO (f (deref S1 x)) S1
def asB : D → Option Bool | .bl b => some b | _ => none
def tB (a : De) : Dt := fun Γ S => (a Γ S).bind fun x S1 => ofO (asB x) S1
def tTru (a : De) : Dt := fun Γ S => (a Γ S).bind fun x S1 => ofO (dTruth (deref S1 x)) S1
def tAndD (a b : Dt) : Dt := fun Γ S => (a Γ S).bind fun x S1 => if x then b Γ S1 else .ok false S1
def tOrD (a b : Dt) : Dt := fun Γ S => (a Γ S).bind fun x S1 => if x then .ok true S1 else b Γ S1
def tNotD (a : Dt) : Dt := fun Γ S => (a Γ S).bind fun x S1 => .ok (!x) S1
def eIf (t : Dt) (a b : De) : De := fun Γ S => (t Γ S).bind fun x S1 => if x then a Γ S1 else b Γ S1
def eAnd (a b : De) : De := fun Γ S => (a Γ S).bind fun x S1 => match asB x with | some true => b Γ S1 | some false => .ok (.bl false) S1 | none => .stuck
def eOr (a b : De) : De := fun Γ S => (a Γ S).bind fun x S1 => match asB x with | some true => .ok (.bl true) S1 | some false => b Γ S1 | none => .stuck
def eNot (a : De) : De := fun Γ S => (a Γ S).bind fun x S1 => match asB x with | some b => .ok (.bl (!b)) S1 | none => .stuck
def aNil : Da := fun _ S => .ok [] S
def aCons (a : De) (r : Da) : Da := fun Γ S => (a Γ S).bind fun x S1 => (r Γ S1).bind fun xs S2 => .ok (x :: xs) S2
def eCall (F : List D → List D → Res D) (a : Da) : De := fun Γ S => (a Γ S).bind fun ds S1 => F ds S1
def eTup (a : Da) : De := fun Γ S => (a Γ S).bind fun ds S1 => .ok (.tup ds) S1
def eLst (a : Da) : De := fun Γ S => (a Γ S).bind fun ds S1 => .ok (.lst ds) S1
/-- a list that is kept in the store -/
def eBox (a : De) : De := fun Γ S => (a Γ S).bind fun d S1 => .ok (.ptr S1.length) (S1 ++ [d])

section
variable {X : Cx} {cls : Nat → Addr} {W : WX} {e a b c : Expr} {es : List Expr} {pos : Pos} {δ δa δb δc : De} {τ τa τb : Dt} {α : Da}
theorem de_o (h : DE X cls W e δ) : DO X cls W e δ := PE.weak h fun σ H Q ⟨Γ, S, ρ, G, m, p⟩ => ⟨Γ, S, ρ, G, m, p.conv fun _ _ _ _ _ r => .inl r⟩
theorem df_o (h : DF X cls W e δ) : DO X cls W e δ := PE.weak h fun σ H Q ⟨Γ, S, ρ, G, m, p⟩ => ⟨Γ, S, ρ, G, m, p.conv fun _ _ _ _ _ ⟨a, e, n, _, _, r⟩ => .inr ⟨a, e, n, r⟩⟩
theorem df_e (h : DF X cls W e δ) : DE X cls W e δ := PE.weak h fun σ H Q ⟨Γ, S, ρ, G, m, p⟩ => ⟨Γ, S, ρ, G, m, by
  cases q : δ Γ S with
  | ok d S' =>
    rw [q] at p
    intro v ρ' G' H' m' n' r
    obtain ⟨G2, m2, n2, r2⟩ := RF.settle m n' m' r
    exact p v ρ' G2 H' m2 n2 r2
  | exc x S' => rw [q] at p; exact p
  | stuck => rw [q] at p; exact p⟩

theorem de_v (i : Nat) {x : Str} (hN : X.N[i]? = some x := by rfl) (hv : Vis X.env.scope x := by first | exact Or.inl rfl | exact Or.inr (Or.inl rfl) | exact Or.inr (Or.inr rfl)) (hd : (x == ("__debug__" : Str)) = false := by decide)
    (hcd : (x == ("__classdict__" : Str)) = false := by decide) : DE X cls W (.Name x pos) (eV i) := PE.weak (pv i hN hv hd hcd) fun σ H Q ⟨Γ, S, ρ, G, m, p⟩ => by
  unfold eV at p
  split at p
  · rename_i d hd
    obtain ⟨v, e, r⟩ := m.val i d hd
    exact ⟨v, e, p.at m r⟩
  · exact p.elim
theorem do_v (i : Nat) {x : Str} (hN : X.N[i]? = some x := by rfl) (hv : Vis X.env.scope x := by first | exact Or.inl rfl | exact Or.inr (Or.inl rfl) | exact Or.inr (Or.inr rfl)) (hd : (x == ("__debug__" : Str)) = false := by decide)
    (hcd : (x == ("__classdict__" : Str)) = false := by decide) : DO X cls W (.Name x pos) (oV i) := PE.weak (pv i hN hv hd hcd) fun σ H Q ⟨Γ, S, ρ, G, m, p⟩ => by
  unfold oV at p
  split at p
  · rename_i d hd
    obtain ⟨v, e, r⟩ := m.val i d hd
    exact ⟨v, e, p.at m (.inl r)⟩
  · rename_i d hd
    obtain ⟨a, e, r, _, na⟩ := m.own i d hd
    exact ⟨_, e, p.at m (.inr ⟨a, rfl, na, r⟩)⟩
  · exact p.elim
/-- a constant, or a name of the module -/
theorem de_c {v : V} {d : D} (h : PE X e (tC v)) (r : ∀ ρ G, Rep ⟨X.K, cls⟩ ρ G d v) : DE X cls W e (eC d) := PE.weak h fun σ H Q ⟨Γ, S, ρ, G, m, p⟩ => p.at m (r ρ G)
theorem de_int {i j} : DE X cls W (.Constant (.int i) j pos) (eC (.int i)) := de_c pe_int fun _ _ => by rw [Rep]
theorem de_bl {i j} : DE X cls W (.Constant (.bool i) j pos) (eC (.bl i)) := de_c pe_bl fun _ _ => by rw [Rep]
theorem de_non {j} : DE X cls W (.Constant .none j pos) (eC .non) := de_c pe_non fun _ _ => by rw [Rep]
theorem de_str {x j} : DE X cls W (.Constant (.str x) j pos) (eC (.str x)) := de_c pe_str fun _ _ => by rw [Rep]

/-- what an operation must do -/
def R2Ok (C : Cn) (RV : RVT D V) (R : R2) (f : D → D → Option D) : Prop := ∀ (S : List D) (ρ : List Addr) (G H : Hp) (x y : V) (d dx dy : D) (Q : VK), MemS C S ρ G H → RT C ρ G H dx x → RT C ρ G H dy y → f dx dy = some d →
  (∀ v ρ' G' H', MemS C S ρ' G' H' → Nx ρ G H ρ' G' H' → RV H ρ' G' H' d v → Q v H') → R x y H Q
def R1Ok (C : Cn) (RV : RVT D V) (R : V → Hp → VK → Prop) (f : D → Option D) : Prop := ∀ (S : List D) (ρ : List Addr) (G H : Hp) (x : V) (d dx : D) (Q : VK), MemS C S ρ G H → RT C ρ G H dx x → f dx = some d →
  (∀ v ρ' G' H', MemS C S ρ' G' H' → Nx ρ G H ρ' G' H' → RV H ρ' G' H' d v → Q v H') → R x H Q
theorem ofO_post {C : Cn} {W : WX} {α β : Type} {RV : RVT α β} {Γ : List Sl} {ρ : List Addr} {G H : Hp} {σ : L2.St} {o : Option α} {S : List D} {Q : β → Hp → Prop} (h : Post C W RV Γ ρ G H σ (ofO o S) Q) : ∃ d, o = some d ∧ Post C W RV Γ ρ G H σ (.ok d S) Q := by
  cases o with
  | none => exact h.elim
  | some d => exact ⟨d, rfl, h⟩
theorem x_op {RV : RVT D V} (bk : Back RV) {R : R2} {f : D → D → Option D} (ho : R2Ok ⟨X.K, cls⟩ RV R f) {σ : L2.St} {H : Hp} {Q : VK} (h : tE ⟨X.K, cls⟩ W RV (eOp f δa δb) σ H Q) :
    tE ⟨X.K, cls⟩ W (RO ⟨X.K, cls⟩) δa σ H fun x H1 => tE ⟨X.K, cls⟩ W (RO ⟨X.K, cls⟩) δb σ H1 fun y H2 => R x y H2 Q := by
  obtain ⟨Γ, S, ρ, G, m, p⟩ := h
  refine ⟨Γ, S, ρ, G, m, (Post.seq bk p).mono fun x H1 ⟨dx, S1, ρ1, G1, m1, n1, r1, p1⟩ => ⟨Γ, S1, ρ1, G1, m1, (Post.seq bk p1).mono fun y H2 ⟨dy, S2, ρ2, G2, m2, n2, r2, p2⟩ => ?_⟩⟩
  obtain ⟨d, hd, p3⟩ := ofO_post p2
  exact ho S2 ρ2 G2 H2 x y d _ _ Q m2.toS (m2.read (H0 := H1) (r1.step n2)) (m2.read r2) hd fun v ρ' G' H' m' n' r' => p3.here (m2.step n' m') n' r'
theorem de_op {op : Operator} {R : R2} {f : D → D → Option D} (ho : OpR X (binaryOp op) R) (hf : R2Ok ⟨X.K, cls⟩ (RS ⟨X.K, cls⟩) R f) (ha : DO X cls W a δa) (hb : DO X cls W b δb) : DE X cls W (.BinOp a op b pos) (eOp f δa δb) :=
  PE.weak (pe_op ho ha hb) fun _ _ _ h => x_op back_RS hf h
theorem df_op {op : Operator} {R : R2} {f : D → D → Option D} (ho : OpR X (binaryOp op) R) (hf : R2Ok ⟨X.K, cls⟩ (RF ⟨X.K, cls⟩) R f) (ha : DO X cls W a δa) (hb : DO X cls W b δb) : DF X cls W (.BinOp a op b pos) (eOp f δa δb) :=
  PE.weak (pe_op ho ha hb) fun _ _ _ h => x_op back_RF hf h
theorem de_cmp {op : CmpOp} {R : R2} {f : D → D → Option D} (ho : OpR X (compareOp op) R) (hf : R2Ok ⟨X.K, cls⟩ (RS ⟨X.K, cls⟩) R f) (ha : DO X cls W a δa) (hb : DO X cls W b δb) (hm : behindInMarks op b = false) : DE X cls W (.Compare a [op] [b] pos) (eOp f δa δb) :=
  PE.weak (pe_cmpR ho ha hb hm) fun _ _ _ h => x_op back_RS hf h
theorem dt_cmp {op : CmpOp} {R : R2} {f : D → D → Option D} (ho : OpR X (compareOp op) R) (hf : R2Ok ⟨X.K, cls⟩ (RS ⟨X.K, cls⟩) R f) (ha : DO X cls W a δa) (hb : DO X cls W b δb) (hm : behindInMarks op b = false) : DT X cls W (.Compare a [op] [b] pos) (tB (eOp f δa δb)) :=
  PT.weak (pt_cmpR ho ha hb hm) fun σ H Q ⟨Γ, S, ρ, G, m, p⟩ => by
    refine x_op (W := W) (δa := δa) (δb := δb) (cls := cls) back_RS hf ⟨Γ, S, ρ, G, m, (Post.seq back_RB p).mono fun v H1 ⟨d, S1, ρ1, G1, m1, n1, r1, p1⟩ => ?_⟩
    obtain ⟨k, hk, p2⟩ := ofO_post p1
    cases d <;> try cases hk
    have e : v = .bl k := rep_bl.mp r1
    exact ⟨k, e, p2.at m1 rfl⟩
theorem de_ix {R : R2} {f : D → D → Option D} (ho : IxR X R) (hf : R2Ok ⟨X.K, cls⟩ (RS ⟨X.K, cls⟩) R f) (ha : DO X cls W a δa) (hb : DO X cls W b δb) (hs : PlainIx b := by exact fun _ _ => rfl) : DE X cls W (.Subscript a b pos) (eOp f δa δb) :=
  PE.weak (pe_ix ho ha hb hs) fun _ _ _ h => x_op back_RS hf h
theorem x_un {RV : RVT D V} (bk : Back RV) {R : V → Hp → VK → Prop} {f : D → Option D} (ho : R1Ok ⟨X.K, cls⟩ RV R f) {σ : L2.St} {H : Hp} {Q : VK} (h : tE ⟨X.K, cls⟩ W RV (eUn f δa) σ H Q) :
    tE ⟨X.K, cls⟩ W (RO ⟨X.K, cls⟩) δa σ H fun x H1 => R x H1 Q := by
  obtain ⟨Γ, S, ρ, G, m, p⟩ := h
  refine ⟨Γ, S, ρ, G, m, (Post.seq bk p).mono fun x H1 ⟨dx, S1, ρ1, G1, m1, n1, r1, p1⟩ => ?_⟩
  obtain ⟨d, hd, p3⟩ := ofO_post p1
  exact ho S1 ρ1 G1 H1 x d _ Q m1.toS (m1.read r1) hd fun v ρ' G' H' m' n' r' => p3.here (m1.step n' m') n' r'
theorem de_un {op : UnaryOp} {R : V → Hp → VK → Prop} {f : D → Option D} (ho : UnR X (unaryOp op) R) (hf : R1Ok ⟨X.K, cls⟩ (RS ⟨X.K, cls⟩) R f) (ha : DO X cls W a δa) : DE X cls W (.UnaryOp op a pos) (eUn f δa) :=
  PE.weak (pe_un ho ha) fun _ _ _ h => x_un back_RS hf h
/-- a test that is a value's truth -/
theorem dt_tru (ha : DO X cls W a δa) (he : ∀ whole, isTrue a X.env whole = (do let v ← whole; standAt a.pos; holding [v] (truthy v)) := by intro _; rfl) : DT X cls W a (tTru δa) :=
  PT.weak (pt_truth ha he) fun σ H Q ⟨Γ, S, ρ, G, m, p⟩ => ⟨Γ, S, ρ, G, m, (Post.seq back_RB p).mono fun x H1 ⟨dx, S1, ρ1, G1, m1, n1, r1, p1⟩ => by
    obtain ⟨k, hk, p2⟩ := ofO_post p1
    refine ⟨k, ?_, p2.at m1 rfl⟩
    have rt := m1.read r1
    generalize deref S1 dx = dd at hk rt
    cases dd with
    | non => rw [rt_non] at rt; subst rt; exact (Option.some.inj hk).symm
    | bl b => rw [rt_bl] at rt; subst rt; exact (Option.some.inj hk).symm
    | int b => rw [rt_int] at rt; subst rt; exact (Option.some.inj hk).symm
    | str b =>
      rw [rt_str] at rt; subst rt
      rw [dTruth] at hk
      split at hk
      · rename_i hz; exact ⟨hz, (Option.some.inj hk).symm⟩
      · cases hk
    | lst xs =>
      obtain ⟨p, vs, rfl, h1, h2⟩ := rt
      refine .inl ⟨vs, SqL.of h1, ?_⟩
      rw [← Option.some.inj hk]
      have := h2.length
      cases xs <;> cases vs <;> simp_all
    | tup xs =>
      rw [rt_tup] at rt
      obtain ⟨p, vs, rfl, h1, h2⟩ := rt
      refine .inr (.inl ⟨vs, m1.sub.sqT h1, ?_⟩)
      rw [← Option.some.inj hk]
      have := h2.length
      cases xs <;> cases vs <;> simp_all
    | dct ks xs =>
      obtain ⟨p, vs, rfl, h1, l, h2⟩ := rt
      refine .inr (.inr ⟨_, h1, ?_⟩)
      rw [← Option.some.inj hk]
      have := h2.length
      cases xs <;> cases vs <;> cases ks <;> simp_all
    | _ => cases hk⟩
theorem dt_val (ha : DE X cls W a δa) (he : ∀ whole, isTrue a X.env whole = (do let v ← whole; standAt a.pos; holding [v] (truthy v)) := by intro _; rfl) : DT X cls W a (tB δa) :=
  PT.weak (pt_val ha he) fun σ H Q ⟨Γ, S, ρ, G, m, p⟩ => ⟨Γ, S, ρ, G, m, (Post.seq back_RB p).mono fun x H1 ⟨dx, S1, ρ1, G1, m1, n1, r1, p1⟩ => by
    obtain ⟨k, hk, p2⟩ := ofO_post p1
    cases dx <;> try cases hk
    have e : x = .bl k := rep_bl.mp r1
    exact ⟨k, e, p2.at m1 rfl⟩⟩
/-! and, or, not in tests -/
theorem dw_t (h : DW X cls W e τ) : DT X cls W e τ := PW.pt h
theorem dw_and1 (ha : DT X cls W a τ) : DW X cls W (.BoolOp .And [a] pos) τ := pw_and1 ha
theorem dw_or1 (ha : DT X cls W a τ) : DW X cls W (.BoolOp .Or [a] pos) τ := pw_or1 ha
theorem dw_and {rest : List Expr} (ha : DT X cls W a τa) (hb : DW X cls W (.BoolOp .And (b :: rest) pos) τb) : DW X cls W (.BoolOp .And (a :: b :: rest) pos) (tAndD τa τb) :=
  PW.weak (pw_and ha hb) fun σ H Q ⟨Γ, S, ρ, G, m, p⟩ => ⟨Γ, S, ρ, G, m, (Post.seq (RV := RB) back_RB p).mono fun k H1 ⟨k', S1, ρ1, G1, m1, n1, r1, p1⟩ => by
    have e1 : k' = k := r1
    subst e1
    cases k' with
    | true => exact iteT ⟨Γ, S1, ρ1, G1, m1, p1⟩
    | false => exact iteF (p1.at m1 rfl)⟩
theorem dw_or {rest : List Expr} (ha : DT X cls W a τa) (hb : DW X cls W (.BoolOp .Or (b :: rest) pos) τb) : DW X cls W (.BoolOp .Or (a :: b :: rest) pos) (tOrD τa τb) :=
  PW.weak (pw_or ha hb) fun σ H Q ⟨Γ, S, ρ, G, m, p⟩ => ⟨Γ, S, ρ, G, m, (Post.seq (RV := RB) back_RB p).mono fun k H1 ⟨k', S1, ρ1, G1, m1, n1, r1, p1⟩ => by
    have e1 : k' = k := r1
    subst e1
    cases k' with
    | true => exact iteT (p1.at m1 rfl)
    | false => exact iteF ⟨Γ, S1, ρ1, G1, m1, p1⟩⟩
theorem dt_not (ha : DT X cls W a τ) : DT X cls W (.UnaryOp .Not a pos) (tNotD τ) :=
  PT.weak (pt_not ha) fun σ H Q ⟨Γ, S, ρ, G, m, p⟩ => ⟨Γ, S, ρ, G, m, (Post.seq (RV := RB) back_RB p).mono fun k H1 ⟨k', S1, ρ1, G1, m1, n1, r1, p1⟩ => by
    have e1 : k' = k := r1
    subst e1
    exact p1.at m1 rfl⟩
/-! and, or, not as values, of truth values -/
theorem de_one {op} (h : DE X cls W a δ) : DE X cls W (.BoolOp op [a] pos) δ := pe_one h
theorem de_and {rest : List Expr} (ha : DE X cls W a δa) (hb : DE X cls W (.BoolOp .And (b :: rest) pos) δb) : DE X cls W (.BoolOp .And (a :: b :: rest) pos) (eAnd δa δb) :=
  PE.weak (pe_and ha hb) fun σ H Q ⟨Γ, S, ρ, G, m, p⟩ => ⟨Γ, S, ρ, G, m, (Post.seq back_RS p).mono fun x H1 ⟨dx, S1, ρ1, G1, m1, n1, r1, p1⟩ => by
    cases dx with
    | bl k =>
      have e : x = .bl k := rep_bl.mp r1
      refine ⟨k, e, ?_⟩
      cases k with
      | true => exact iteT ⟨Γ, S1, ρ1, G1, m1, p1⟩
      | false => exact iteF (p1.at m1 (rep_bl.mpr rfl))
    | _ => exact p1.elim⟩
theorem de_or {rest : List Expr} (ha : DE X cls W a δa) (hb : DE X cls W (.BoolOp .Or (b :: rest) pos) δb) : DE X cls W (.BoolOp .Or (a :: b :: rest) pos) (eOr δa δb) :=
  PE.weak (pe_or ha hb) fun σ H Q ⟨Γ, S, ρ, G, m, p⟩ => ⟨Γ, S, ρ, G, m, (Post.seq back_RS p).mono fun x H1 ⟨dx, S1, ρ1, G1, m1, n1, r1, p1⟩ => by
    cases dx with
    | bl k =>
      have e : x = .bl k := rep_bl.mp r1
      refine ⟨k, e, ?_⟩
      cases k with
      | true => exact iteT (p1.at m1 (rep_bl.mpr rfl))
      | false => exact iteF ⟨Γ, S1, ρ1, G1, m1, p1⟩
    | _ => exact p1.elim⟩
theorem de_not (ha : DE X cls W a δa) : DE X cls W (.UnaryOp .Not a pos) (eNot δa) :=
  PE.weak (pe_not ha) fun σ H Q ⟨Γ, S, ρ, G, m, p⟩ => ⟨Γ, S, ρ, G, m, (Post.seq back_RS p).mono fun x H1 ⟨dx, S1, ρ1, G1, m1, n1, r1, p1⟩ => by
    cases dx with
    | bl k =>
      have e : x = .bl k := rep_bl.mp r1
      exact ⟨k, e, p1.at m1 (rep_bl.mpr rfl)⟩
    | _ => exact p1.elim⟩
theorem de_if (hc : DT X cls W c τ) (ha : DE X cls W a δa) (hb : DE X cls W b δb) : DE X cls W (.IfExp c a b pos) (eIf τ δa δb) :=
  PE.weak (pe_ifExp hc ha hb) fun σ H Q ⟨Γ, S, ρ, G, m, p⟩ => ⟨Γ, S, ρ, G, m, (Post.seq (RV := RB) back_RS p).mono fun k H1 ⟨k', S1, ρ1, G1, m1, n1, r1, p1⟩ => by
    have e1 : k' = k := r1
    subst e1
    cases k' with
    | true => exact iteT ⟨Γ, S1, ρ1, G1, m1, p1⟩
    | false => exact iteF ⟨Γ, S1, ρ1, G1, m1, p1⟩⟩
/-! arguments, displays -/
theorem da_nil : DA X cls W [] aNil := PA.weak pa_nil fun σ H Q ⟨Γ, S, ρ, G, m, p⟩ => p.at m Reps.nil
theorem da_cons (ha : DE X cls W e δ) (hr : DA X cls W es α) (hs : starEach (e :: es) X.env = (false, eval e X.env) :: starEach es X.env := by rfl) : DA X cls W (e :: es) (aCons δ α) :=
  PA.weak (pa_cons ha hr hs) fun σ H Q ⟨Γ, S, ρ, G, m, p⟩ => ⟨Γ, S, ρ, G, m, (Post.seq back_RA p).mono fun x H1 ⟨dx, S1, ρ1, G1, m1, n1, r1, p1⟩ => ⟨Γ, S1, ρ1, G1, m1, (Post.seq back_RA p1).mono fun xs H2 ⟨ds, S2, ρ2, G2, m2, n2, r2, p2⟩ =>
    p2.at m2 (Reps.cons (r1.mono n2.ext n2.pre) r2)⟩⟩
theorem da_len : ∀ {es : List Expr} {α : Da}, True := fun {_ _} => trivial
theorem x_new {C : Cn} {Γ : List Sl} {S : List D} {ρ : List Addr} {G H : Hp} {σ : L2.St} (m : Mem C Γ S ρ G H σ) {ds : List D} {vs : List V} (r : Reps C ρ G ds vs) {p : Addr} (hp : H p = none) :
    Mem C Γ S ρ G (upd H p (.lst vs)) σ ∧ Nx ρ G H ρ G (upd H p (.lst vs)) ∧ RF C H ρ G (upd H p (.lst vs)) (.lst ds) (V.ref p) := by
  obtain ⟨m', n', np, gp⟩ := m.new (o := .lst vs) hp
  exact ⟨m', n', p, rfl, np, hp, gp, vs, upd_same, r⟩
theorem x_newT {C : Cn} {Γ : List Sl} {S : List D} {ρ : List Addr} {G H : Hp} {σ : L2.St} (m : Mem C Γ S ρ G H σ) {ds : List D} {vs : List V} (r : Reps C ρ G ds vs) {p : Addr} (hp : H p = none) :
    ∃ G', Mem C Γ S ρ G' (upd H p (.tup vs)) σ ∧ Nx ρ G H ρ G' (upd H p (.tup vs)) ∧ Rep C ρ G' (.tup ds) (V.ref p) := by
  obtain ⟨m', n', np, gp⟩ := m.new (o := .tup vs) hp
  obtain ⟨m2, n2, k⟩ := Mem.settle m n' m' hp gp np upd_same
  exact ⟨_, m2, n2, by rw [Rep]; exact ⟨p, vs, rfl, SqT.of upd_same, Reps.mono k (List.prefix_refl _) _ _ r⟩⟩
theorem df_lst (h : DA X cls W es α) (hl : ∀ Γ S ds S', α Γ S = .ok ds S' → ds.length ≤ sizeLine) : DF X cls W (.List es pos) (eLst α) :=
  PE.weak (pe_lst h) fun σ H Q ⟨Γ, S, ρ, G, m, p⟩ => ⟨Γ, S, ρ, G, m, by
    unfold eLst at p
    cases q : α Γ S with
    | ok ds S1 =>
      rw [q] at p
      intro vs ρ1 G1 H1 m1 n1 r1
      refine ⟨by rw [← r1.length]; exact hl _ _ _ _ q, fun l hlp => ?_⟩
      obtain ⟨m2, n2, r2⟩ := x_new m1 r1 hlp
      exact p _ _ _ _ m2 (n1.trans n2) (back_RF _ _ _ _ _ _ _ n1.live r2)
    | exc x S1 => rw [q] at p; exact p
    | stuck => rw [q] at p; exact p⟩
theorem de_tup {x1} (h : DA X cls W es α) (hl : ∀ Γ S ds S', α Γ S = .ok ds S' → ds.length ≤ sizeLine) : DE X cls W (.Tuple es x1 pos) (eTup α) :=
  PE.weak (pe_tup h) fun σ H Q ⟨Γ, S, ρ, G, m, p⟩ => ⟨Γ, S, ρ, G, m, by
    unfold eTup at p
    cases q : α Γ S with
    | ok ds S1 =>
      rw [q] at p
      intro vs ρ1 G1 H1 m1 n1 r1
      refine ⟨by rw [← r1.length]; exact hl _ _ _ _ q, fun l hlp => ?_⟩
      obtain ⟨G2, m2, n2, r2⟩ := x_newT m1 r1 hlp
      exact p _ _ _ _ m2 (n1.trans n2) r2
    | exc x S1 => rw [q] at p; exact p
    | stuck => rw [q] at p; exact p⟩
/-- the number of written arguments -/
inductive ALen : Da → Nat → Prop
  | nil : ALen aNil 0
  | cons {δ : De} {α : Da} {n : Nat} (h : ALen α n) : ALen (aCons δ α) (n + 1)
theorem ALen.le {α : Da} {n : Nat} (h : ALen α n) : ∀ Γ S ds S', α Γ S = .ok ds S' → ds.length = n := by
  induction h with
  | nil => intro Γ S ds S' e; cases e; rfl
  | @cons δ α n h ih =>
    intro Γ S ds S' e
    unfold aCons at e
    cases q : δ Γ S with
    | ok d S1 =>
      rw [q] at e
      cases q2 : α Γ S1 with
      | ok ds2 S2 =>
        simp only [Res.bind_ok, q2] at e
        cases e
        rw [List.length_cons, ih _ _ _ _ q2]
      | exc _ _ => simp only [Res.bind_ok, q2] at e; cases e
      | stuck => simp only [Res.bind_ok, q2] at e; cases e
    | exc _ _ => rw [q] at e; cases e
    | stuck => rw [q] at e; cases e
theorem ALen.line {α : Da} {n : Nat} (h : ALen α n) (hn : n ≤ 1000) : ∀ Γ S ds S', α Γ S = .ok ds S' → ds.length ≤ sizeLine := fun Γ S ds S' e => by
  rw [h.le _ _ _ _ e]; exact Nat.le_of_lt (small1000 hn)
end
end DL

namespace DL
open PySem L2

theorem R2Ok.or {C : Cn} {RV : RVT D V} {R R' : R2} {f f' g : D → D → Option D} (h : R2Ok C RV R f) (h' : R2Ok C RV R' f') (hg : ∀ a b d, g a b = some d → f a b = some d ∨ f' a b = some d) :
    R2Ok C RV (fun x y H Q => R x y H Q ∨ R' x y H Q) g := fun S ρ G H x y d dx dy Q m rx ry e q => by
  rcases hg _ _ _ e with e | e
  · exact .inl (h S ρ G H x y d dx dy Q m rx ry e q)
  · exact .inr (h' S ρ G H x y d dx dy Q m rx ry e q)

section
variable {X : Cx} {cls : Nat → Addr} {C : Cn}
/-! ### ints -/
def onI (P : Int → Int → Bool) (g : Int → Int → Int) : D → D → Option D
  | .int i, .int j => if P i j then some (.int (g i j)) else none
  | _, _ => none
theorem ok_I {Pr : Int → Int → Prop} {P : Int → Int → Bool} {g : Int → Int → Int} (h : ∀ i j, P i j = true → Pr i j) : R2Ok C (RS C) (rI Pr fun i j => .int (g i j)) (onI P g) := fun S ρ G H x y d dx dy Q m rx ry e q => by
  cases dx <;> try cases e
  rename_i i
  cases dy <;> try cases e
  rename_i j
  rw [rt_int] at rx ry
  subst rx ry
  simp only [onI] at e
  split at e
  · rename_i hp
    cases e
    exact ⟨i, j, rfl, rfl, h i j hp, q _ _ _ _ m .refl (rep_int.mpr rfl)⟩
  · cases e
theorem ok_I0 {g : Int → Int → Int} : R2Ok C (RS C) (rI0 fun i j => .int (g i j)) (onI (fun _ _ => true) g) := fun S ρ G H x y d dx dy Q m rx ry e q => by
  cases dx <;> try cases e
  rename_i i
  cases dy <;> try cases e
  rename_i j
  rw [rt_int] at rx ry
  subst rx ry
  exact ⟨i, j, rfl, rfl, q _ _ _ _ m .refl (rep_int.mpr rfl)⟩
/-! ### texts, lists, tuples put together -/
def onS : D → D → Option D
  | .str a, .str b => if a.length + b.length ≤ sizeLine then some (.str (a ++ b)) else none
  | _, _ => none
theorem ok_S : R2Ok C (RS C) (fun x y H Q => ∃ i j, x = .str i ∧ y = .str j ∧ i.length + j.length ≤ sizeLine ∧ Q (.str (i ++ j)) H) onS := fun S ρ G H x y d dx dy Q m rx ry e q => by
  cases dx <;> try cases e
  rename_i i
  cases dy <;> try cases e
  rename_i j
  rw [rt_str] at rx ry
  subst rx ry
  simp only [onS] at e
  split at e
  · rename_i hp
    cases e
    exact ⟨i, j, rfl, rfl, hp, q _ _ _ _ m .refl (rep_str.mpr rfl)⟩
  · cases e
def onL : D → D → Option D
  | .lst a, .lst b => if a.length + b.length ≤ sizeLine then some (.lst (a ++ b)) else none
  | _, _ => none
theorem ok_LF : R2Ok C (RF C) rCat onL := fun S ρ G H x y d dx dy Q m rx ry e q => by
  cases dx <;> try cases e
  rename_i xs
  cases dy <;> try cases e
  rename_i ys
  obtain ⟨a, vs, rfl, h1, r1⟩ := rx
  obtain ⟨b, ws, rfl, h2, r2⟩ := ry
  simp only [onL] at e
  split at e
  · rename_i hp
    cases e
    refine ⟨a, b, vs, ws, rfl, rfl, h1, h2, by rw [← r1.length, ← r2.length]; exact hp, fun p hp => ?_⟩
    obtain ⟨m2, n2, r⟩ := x_new m (r1.append r2) hp
    exact q _ _ _ _ m2 n2 r
  · cases e
theorem rf_rs {R : R2} {f : D → D → Option D} (h : R2Ok C (RF C) R f) : R2Ok C (RS C) R f := fun S ρ G H x y d dx dy Q m rx ry e q =>
  h S ρ G H x y d dx dy Q m rx ry e fun v ρ' G' H' m' n' r => by
    obtain ⟨G2, m2, n2, r2⟩ := RF.settle m n' m' r
    exact q _ _ _ _ m2 n2 r2
theorem rf_rs1 {R : V → Hp → VK → Prop} {f : D → Option D} (h : R1Ok C (RF C) R f) : R1Ok C (RS C) R f := fun S ρ G H x d dx Q m rx e q =>
  h S ρ G H x d dx Q m rx e fun v ρ' G' H' m' n' r => by
    obtain ⟨G2, m2, n2, r2⟩ := RF.settle m n' m' r
    exact q _ _ _ _ m2 n2 r2
def onT : D → D → Option D
  | .tup a, .tup b => if a.length + b.length ≤ sizeLine then some (.tup (a ++ b)) else none
  | _, _ => none
theorem ok_T : R2Ok C (RS C) (rCatA C.K) onT := fun S ρ G H x y d dx dy Q m rx ry e q => by
  cases dx <;> try cases e
  rename_i xs
  cases dy <;> try cases e
  rename_i ys
  rw [rt_tup] at rx ry
  obtain ⟨a, vs, rfl, h1, r1⟩ := rx
  obtain ⟨b, ws, rfl, h2, r2⟩ := ry
  simp only [onT] at e
  split at e
  · rename_i hp
    cases e
    refine ⟨a, b, vs, ws, rfl, rfl, m.sub.sqT h1, m.sub.sqT h2, by rw [← r1.length, ← r2.length]; exact hp, fun e0 => ?_, fun _ e0 => ?_, fun _ _ p hp => ?_⟩
    · subst e0
      have z := r1.length
      cases xs with
      | nil => exact q _ _ _ _ m .refl (rep_tup.mpr ⟨b, ws, rfl, h2, r2⟩)
      | cons _ _ => cases z
    · subst e0
      have z := r2.length
      cases ys with
      | nil => rw [List.append_nil] at q; exact q _ _ _ _ m .refl (rep_tup.mpr ⟨a, vs, rfl, h1, r1⟩)
      | cons _ _ => cases z
    · obtain ⟨G2, m2, n2, r⟩ := x_newT m (r1.append r2) hp
      exact q _ _ _ _ m2 n2 r
  · cases e
theorem dAdd_cases (a b d : D) (h : dAdd a b = some d) : onI (fun _ _ => true) (fun i j => i + j) a b = some d ∨ onS a b = some d ∨ onL a b = some d ∨ onT a b = some d := by
  cases a <;> cases b <;> first | exact .inl h | exact .inr (.inl h) | exact .inr (.inr (.inl h)) | exact .inr (.inr (.inr h)) | cases h
theorem de_add {W : WX} {a b : Expr} {pos : Pos} {δa δb : De} (ha : DO X cls W a δa) (hb : DO X cls W b δb) : DE X cls W (.BinOp a .Add b pos) (eOp dAdd δa δb) :=
  de_op (op_add.or (op_add_str.or (op_cat.or op_catA))) (ok_I0.or (g := dAdd) (f' := fun a b => if (onS a b).isSome then onS a b else if (onL a b).isSome then onL a b else onT a b) (ok_S.or (f' := fun a b => if (onL a b).isSome then onL a b else onT a b) ((rf_rs ok_LF).or (f' := onT) ok_T (fun a b d h => by
      by_cases z : (onL a b).isSome
      · rw [if_pos z] at h; exact .inl h
      · rw [if_neg z] at h; exact .inr h)) (fun a b d h => by
      by_cases z : (onS a b).isSome
      · rw [if_pos z] at h; exact .inl h
      · rw [if_neg z] at h; exact .inr h)) (fun a b d h => by
      rcases dAdd_cases a b d h with h | h | h | h
      · exact .inl h
      · exact .inr (by rw [h]; rfl)
      · exact .inr (by cases a <;> cases b <;> first | cases h | (show (if (Option.isSome none) = true then _ else if (onL _ _).isSome = true then _ else _) = _; rw [h]; rfl))
      · exact .inr (by cases a <;> cases b <;> first | cases h | (show (if (Option.isSome none) = true then _ else if (Option.isSome none) = true then _ else _) = _; exact h)))) ha hb
theorem df_cat {W : WX} {a b : Expr} {pos : Pos} {δa δb : De} (ha : DO X cls W a δa) (hb : DO X cls W b δb) : DF X cls W (.BinOp a .Add b pos) (eOp onL δa δb) := df_op op_cat ok_LF ha hb
theorem de_sub {W : WX} {a b : Expr} {pos : Pos} {δa δb : De} (ha : DO X cls W a δa) (hb : DO X cls W b δb) : DE X cls W (.BinOp a .Sub b pos) (eOp (onI (fun _ _ => true) fun i j => i - j) δa δb) := de_op op_sub ok_I0 ha hb
abbrev fDiv : D → D → Option D := onI (fun _ j => decide (0 < j ∧ j < 1073741824)) fun i j => i / j
abbrev fMod : D → D → Option D := onI (fun _ j => decide (0 < j)) fun i j => i % j
def fPow : D → D → Option D := onI (fun i j => decide (0 ≤ j ∧ j ≤ 1000000 ∧ i.natAbs < 2 ^ 64)) fun i j => i ^ j.toNat
def P18 : Int := 10 ^ 18
theorem fPow_18 : fPow (.int 10) (.int 18) = some (.int P18) := rfl
abbrev fMulI : D → D → Option D := onI (fun i j => decide (mulOk i j)) fun i j => i * j
abbrev fSub : D → D → Option D := onI (fun _ _ => true) fun i j => i - j
theorem de_div {W : WX} {a b : Expr} {pos : Pos} {δa δb : De} (ha : DO X cls W a δa) (hb : DO X cls W b δb) : DE X cls W (.BinOp a .FloorDiv b pos) (eOp fDiv δa δb) := de_op op_fdiv (ok_I fun i j h => of_decide_eq_true (p := 0 < j ∧ j < 1073741824) h) ha hb
theorem de_mod {W : WX} {a b : Expr} {pos : Pos} {δa δb : De} (ha : DO X cls W a δa) (hb : DO X cls W b δb) : DE X cls W (.BinOp a .Mod b pos) (eOp fMod δa δb) := de_op op_mod (ok_I fun i j h => of_decide_eq_true h) ha hb
theorem de_pow {W : WX} {a b : Expr} {pos : Pos} {δa δb : De} (ha : DO X cls W a δa) (hb : DO X cls W b δb) : DE X cls W (.BinOp a .Pow b pos) (eOp fPow δa δb) := de_op op_pow (ok_I fun i j h => of_decide_eq_true (p := 0 ≤ j ∧ j ≤ 1000000 ∧ i.natAbs < 2 ^ 64) h) ha hb
/-! ### times -/
def onLM : D → D → Option D
  | .lst xs, .int k => if -(2 ^ 63) ≤ k ∧ k < 2 ^ 63 ∧ xs.length * k.toNat ≤ sizeLine then some (.lst (List.replicate k.toNat xs).flatten) else none
  | _, _ => none
theorem ok_LM : R2Ok C (RF C) rRep onLM := fun S ρ G H x y d dx dy Q m rx ry e q => by
  cases dx <;> try cases e
  rename_i xs
  cases dy <;> try cases e
  rename_i k
  obtain ⟨a, vs, rfl, h1, r1⟩ := rx
  rw [rt_int] at ry
  subst ry
  simp only [onLM] at e
  split at e
  · rename_i hp
    cases e
    refine ⟨a, k, vs, rfl, rfl, h1, hp.1, hp.2.1, by rw [← r1.length]; exact hp.2.2, fun p hp => ?_⟩
    obtain ⟨m2, n2, r⟩ := x_new m (r1.rep _) hp
    exact q _ _ _ _ m2 n2 r
  · cases e
end
end DL

namespace DL
open PySem PySem.Spec PyProof.Rows L2

section
variable {X : Cx} {cls : Nat → Addr} {C : Cn} {W : WX} {a b c e : Expr} {pos : Pos} {δa δb δc δ : De}
/-- a comparison's answer is a truth value -/
theorem ok_B {R : R2} {f : D → D → Option D} {g : D → D → Option Bool} (hg : ∀ x y, f x y = (g x y).map D.bl)
    (h : ∀ (S : List D) ρ G H x y dx dy k (Q : VK), MemS C S ρ G H → RT C ρ G H dx x → RT C ρ G H dy y → g dx dy = some k → Q (.bl k) H → R x y H Q) : R2Ok C (RS C) R f := fun S ρ G H x y d dx dy Q m rx ry e q => by
  rw [hg] at e
  cases z : g dx dy with
  | none => rw [z] at e; cases e
  | some k =>
    rw [z] at e; cases e
    exact h S ρ G H x y dx dy k Q m rx ry z (q _ _ _ _ m .refl (rep_bl.mpr rfl))
theorem ok_eq : R2Ok C (RS C) (fun x y H Q => rEqD C.K x y H Q ∨ rEq x y H Q) cEq := ok_B (g := dEq) (fun _ _ => rfl) fun S ρ G H x y dx dy k Q m rx ry e q => by
  rcases dEq_cases dx dy with ⟨a, b, rfl, rfl, z⟩ | z
  · rw [z] at e; cases e
    rw [rt_str] at rx ry; subst rx; subst ry
    exact .inr ⟨rfl, by have w : decide (V.str a = V.str b) = (a == b) := by { rw [Bool.eq_iff_iff]; simp }; rw [w]; exact q⟩
  · rw [z] at e
    unfold dEqP at e
    split at e
    · rename_i p1 p2 h1 h2
      split at e
      · rename_i hs
        cases e
        exact .inl ⟨p1, p2, dp_rt m.sub rx h1, dp_rt m.sub ry h2, hs.1, hs.2, q⟩
      · cases e
    · cases e
theorem ok_ne : R2Ok C (RS C) (fun x y H Q => rNeD C.K x y H Q ∨ rNe x y H Q) cNe := ok_B (g := fun a b => (dEq a b).map not) (fun a b => by unfold cNe; cases dEq a b <;> rfl) fun S ρ G H x y dx dy k Q m rx ry e q => by
  rcases dEq_cases dx dy with ⟨a, b, rfl, rfl, z⟩ | z
  · rw [z] at e; cases e
    rw [rt_str] at rx ry; subst rx; subst ry
    exact .inr ⟨rfl, by have w : decide (V.str a = V.str b) = (a == b) := by { rw [Bool.eq_iff_iff]; simp }; rw [w]; exact q⟩
  · rw [z] at e
    unfold dEqP at e
    split at e
    · rename_i p1 p2 h1 h2
      split at e
      · rename_i hs
        cases e
        exact .inl ⟨p1, p2, dp_rt m.sub rx h1, dp_rt m.sub ry h2, hs.1, hs.2, q⟩
      · cases e
    · cases e
theorem dt_eq (hu : X.A.units + 64 < cLine) (ha : DO X cls W a δa) (hb : DO X cls W b δb) : DT X cls W (.Compare a [.Eq] [b] pos) (tB (eOp cEq δa δb)) := dt_cmp ((op_eqD hu).or op_eq) ok_eq ha hb (nomark _)
theorem dt_ne (hu : X.A.units + 64 < cLine) (ha : DO X cls W a δa) (hb : DO X cls W b δb) : DT X cls W (.Compare a [.NotEq] [b] pos) (tB (eOp cNe δa δb)) := dt_cmp ((op_neD hu).or op_ne) ok_ne ha hb (nomark _)
theorem de_eq (hu : X.A.units + 64 < cLine) (ha : DO X cls W a δa) (hb : DO X cls W b δb) : DE X cls W (.Compare a [.Eq] [b] pos) (eOp cEq δa δb) := de_cmp ((op_eqD hu).or op_eq) ok_eq ha hb (nomark _)
theorem de_ne (hu : X.A.units + 64 < cLine) (ha : DO X cls W a δa) (hb : DO X cls W b δb) : DE X cls W (.Compare a [.NotEq] [b] pos) (eOp cNe δa δb) := de_cmp ((op_neD hu).or op_ne) ok_ne ha hb (nomark _)
/-! order -/
def rOrd (p : Int → Int → Bool) (q : Str → Str → Bool) : R2 := fun x y H Q => (∃ i j, x = .int i ∧ y = .int j ∧ Q (.bl (p i j)) H) ∨ ∃ i j, x = .str i ∧ y = .str j ∧ Q (.bl (q i j)) H
def dOrd (p : Int → Int → Bool) (q : Str → Str → Bool) : D → D → Option D
  | .int i, .int j => some (.bl (p i j))
  | .str i, .str j => some (.bl (q i j))
  | _, _ => none
theorem ok_ord {p : Int → Int → Bool} {q : Str → Str → Bool} : R2Ok C (RS C) (rOrd p q) (dOrd p q) := fun S ρ G H x y d dx dy Q m rx ry e k => by
  cases dx <;> try cases e
  · rename_i i
    cases dy <;> try cases e
    rename_i j
    rw [rt_int] at rx ry
    exact .inl ⟨i, j, rx, ry, k _ _ _ _ m .refl (rep_bl.mpr rfl)⟩
  · rename_i i
    cases dy <;> try cases e
    rename_i j
    rw [rt_str] at rx ry
    exact .inr ⟨i, j, rx, ry, k _ _ _ _ m .refl (rep_bl.mpr rfl)⟩
abbrev oLt : D → D → Option D := dOrd (fun i j => decide (i < j)) fun i j => decide (i.cps.toList < j.cps.toList)
abbrev oLe : D → D → Option D := dOrd (fun i j => decide (i ≤ j)) fun i j => !decide (j.cps.toList < i.cps.toList)
abbrev oGt : D → D → Option D := dOrd (fun i j => decide (j < i)) fun i j => decide (j.cps.toList < i.cps.toList)
abbrev oGe : D → D → Option D := dOrd (fun i j => decide (j ≤ i)) fun i j => !decide (i.cps.toList < j.cps.toList)
theorem or_lt : OpR X (compareOp .Lt) (rOrd (fun i j => decide (i < j)) fun i j => decide (i.cps.toList < j.cps.toList)) := op_lt.or op_lt_str
theorem or_le : OpR X (compareOp .LtE) (rOrd (fun i j => decide (i ≤ j)) fun i j => !decide (j.cps.toList < i.cps.toList)) := op_le.or op_le_str
theorem or_gt : OpR X (compareOp .Gt) (rOrd (fun i j => decide (j < i)) fun i j => decide (j.cps.toList < i.cps.toList)) := op_gt.or op_gt_str
theorem or_ge : OpR X (compareOp .GtE) (rOrd (fun i j => decide (j ≤ i)) fun i j => !decide (i.cps.toList < j.cps.toList)) := op_ge.or op_ge_str
theorem dt_lt (ha : DO X cls W a δa) (hb : DO X cls W b δb) : DT X cls W (.Compare a [.Lt] [b] pos) (tB (eOp oLt δa δb)) := dt_cmp or_lt ok_ord ha hb (nomark _)
theorem dt_le (ha : DO X cls W a δa) (hb : DO X cls W b δb) : DT X cls W (.Compare a [.LtE] [b] pos) (tB (eOp oLe δa δb)) := dt_cmp or_le ok_ord ha hb (nomark _)
theorem dt_gt (ha : DO X cls W a δa) (hb : DO X cls W b δb) : DT X cls W (.Compare a [.Gt] [b] pos) (tB (eOp oGt δa δb)) := dt_cmp or_gt ok_ord ha hb (nomark _)
theorem dt_ge (ha : DO X cls W a δa) (hb : DO X cls W b δb) : DT X cls W (.Compare a [.GtE] [b] pos) (tB (eOp oGe δa δb)) := dt_cmp or_ge ok_ord ha hb (nomark _)
theorem de_lt (ha : DO X cls W a δa) (hb : DO X cls W b δb) : DE X cls W (.Compare a [.Lt] [b] pos) (eOp oLt δa δb) := de_cmp or_lt ok_ord ha hb (nomark _)
theorem de_le (ha : DO X cls W a δa) (hb : DO X cls W b δb) : DE X cls W (.Compare a [.LtE] [b] pos) (eOp oLe δa δb) := de_cmp or_le ok_ord ha hb (nomark _)
theorem de_gt (ha : DO X cls W a δa) (hb : DO X cls W b δb) : DE X cls W (.Compare a [.Gt] [b] pos) (eOp oGt δa δb) := de_cmp or_gt ok_ord ha hb (nomark _)
theorem de_ge (ha : DO X cls W a δa) (hb : DO X cls W b δb) : DE X cls W (.Compare a [.GtE] [b] pos) (eOp oGe δa δb) := de_cmp or_ge ok_ord ha hb (nomark _)
/-- a ≤ b ≤ c -/
def eChain (f g : D → D → Option D) (a b c : De) : De := fun Γ S => (a Γ S).bind fun x S1 => (b Γ S1).bind fun y S2 => (ofO (f (deref S2 x) (deref S2 y)) S2).bind fun k S3 => match asB k with
  | some true => (c Γ S3).bind fun z S4 => ofO (g (deref S4 y) (deref S4 z)) S4
  | some false => .ok (.bl false) S3
  | none => .stuck
/-! is None -/
theorem rep_isNon {ρ : List Addr} {G : Hp} : ∀ {d : D} {v : V}, Rep C ρ G d v → decide (v = .non) = isNon d := fun {d v} h => by
  cases d <;> rw [Rep] at h
  · subst h; rfl
  · subst h; rfl
  · subst h; rfl
  · subst h; rfl
  · obtain ⟨_, _, rfl, _⟩ := h; rfl
  · obtain ⟨_, _, rfl, _⟩ := h; rfl
  · obtain ⟨_, _, rfl, _⟩ := h; rfl
  · obtain ⟨_, _, _, rfl, _⟩ := h; rfl
  · obtain ⟨_, _, rfl⟩ := h; rfl
  · obtain ⟨_, rfl, _⟩ := h; rfl
theorem rt_isNon {ρ : List Addr} {G H : Hp} {d : D} {v : V} (h : RT C ρ G H d v) : decide (v = .non) = isNon d := by
  cases d with
  | lst _ => obtain ⟨_, _, rfl, _⟩ := h; rfl
  | dct _ _ => obtain ⟨_, _, rfl, _⟩ := h; rfl
  | ins _ _ _ => obtain ⟨_, _, _, rfl, _⟩ := h; rfl
  | _ => exact rep_isNon (C := C) (ρ := ρ) (G := G) h
theorem ok_isN : R2Ok C (RS C) (fun x y H Q => y = .non ∧ Q (.bl (decide (x = .non))) H) cIs := fun S ρ G H x y d dx dy Q m rx ry e q => by
  have hy : dy = .non := by cases dy <;> first | rfl | (cases dx <;> cases e)
  subst hy
  rw [rt_non] at ry
  replace e : some (D.bl (isNon dx)) = some d := by cases dx <;> exact e
  cases e
  exact ⟨ry, by rw [rt_isNon rx]; exact q _ _ _ _ m .refl (rep_bl.mpr rfl)⟩
theorem ok_notN : R2Ok C (RS C) (fun x y H Q => y = .non ∧ Q (.bl (!decide (x = .non))) H) cIsNot := fun S ρ G H x y d dx dy Q m rx ry e q => by
  have hy : dy = .non := by cases dy <;> first | rfl | (cases dx <;> cases e)
  subst hy
  rw [rt_non] at ry
  replace e : some (D.bl (!isNon dx)) = some d := by cases dx <;> exact e
  cases e
  exact ⟨ry, by rw [rt_isNon rx]; exact q _ _ _ _ m .refl (rep_bl.mpr rfl)⟩
theorem dt_isN (ha : DO X cls W a δa) (hb : DO X cls W b δb) : DT X cls W (.Compare a [.Is] [b] pos) (tB (eOp cIs δa δb)) := dt_cmp op_isN ok_isN ha hb (nomark _)
theorem dt_notN (ha : DO X cls W a δa) (hb : DO X cls W b δb) : DT X cls W (.Compare a [.IsNot] [b] pos) (tB (eOp cIsNot δa δb)) := dt_cmp op_notN ok_notN ha hb (nomark _)
theorem de_isN (ha : DO X cls W a δa) (hb : DO X cls W b δb) : DE X cls W (.Compare a [.Is] [b] pos) (eOp cIs δa δb) := de_cmp op_isN ok_isN ha hb (nomark _)
theorem de_notN (ha : DO X cls W a δa) (hb : DO X cls W b δb) : DE X cls W (.Compare a [.IsNot] [b] pos) (eOp cIsNot δa δb) := de_cmp op_notN ok_notN ha hb (nomark _)
/-! in -/
theorem rep_flat {ρ : List Addr} {G : Hp} {d : D} {v : V} (f : flatD d = true) (h : Rep C ρ G d v) : flatV v = true ∧ (d = .non ∧ v = .non ∨ (∃ b, d = .bl b ∧ v = .bl b) ∨ (∃ i, d = .int i ∧ v = .int i) ∨ ∃ x, d = .str x ∧ v = .str x) := by
  cases d <;> try cases f
  · rw [rep_non] at h; subst h; exact ⟨rfl, .inl ⟨rfl, rfl⟩⟩
  · rw [rep_bl] at h; subst h; exact ⟨rfl, .inr (.inl ⟨_, rfl, rfl⟩)⟩
  · rw [rep_int] at h; subst h; exact ⟨rfl, .inr (.inr (.inl ⟨_, rfl, rfl⟩))⟩
  · rw [rep_str] at h; subst h; exact ⟨rfl, .inr (.inr (.inr ⟨_, rfl, rfl⟩))⟩
theorem eqV_D {ρ : List Addr} {G : Hp} {d1 d2 : D} {v1 v2 : V} (f1 : flatD d1 = true) (f2 : flatD d2 = true) (h1 : Rep C ρ G d1 v1) (h2 : Rep C ρ G d2 v2) : eqV v1 v2 = eqF d1 d2 := by
  obtain ⟨_, h1⟩ := rep_flat f1 h1
  obtain ⟨_, h2⟩ := rep_flat f2 h2
  rcases h1 with ⟨rfl, rfl⟩ | ⟨_, rfl, rfl⟩ | ⟨_, rfl, rfl⟩ | ⟨_, rfl, rfl⟩ <;> rcases h2 with ⟨rfl, rfl⟩ | ⟨_, rfl, rfl⟩ | ⟨_, rfl, rfl⟩ | ⟨_, rfl, rfl⟩ <;> first | rfl | (unfold eqV eqF; simp) | (unfold eqV eqF; rfl)
theorem reps_flat {ρ : List Addr} {G : Hp} : ∀ {ds : List D} {vs : List V}, Reps C ρ G ds vs → ds.all flatD = true → vs.all flatV = true
  | [], _, h, _ => by rw [h.inv0]; rfl
  | d :: ds, _, h, f => by
    obtain ⟨v, r, rfl, h1, h2⟩ := h.inv
    rw [List.all_cons, Bool.and_eq_true] at f ⊢
    exact ⟨(rep_flat f.1 h1).1, reps_flat h2 f.2⟩
theorem inV_D {ρ : List Addr} {G : Hp} {d : D} {v : V} (f : flatD d = true) (h : Rep C ρ G d v) : ∀ {ds : List D} {vs : List V}, Reps C ρ G ds vs → ds.all flatD = true → inV v vs = inF d ds
  | [], _, h, _ => by rw [h.inv0]; rfl
  | d' :: ds, _, h', f' => by
    obtain ⟨v', r, rfl, h1, h2⟩ := h'.inv
    rw [List.all_cons, Bool.and_eq_true] at f'
    unfold inV inF
    rw [List.any_cons, List.any_cons, eqV_D f'.1 f h1 h]
    exact congrArg _ (inV_D f h h2 f'.2)
def rInA (K : PySem.W.Frag) (neg : Bool) : R2 := fun x y H Q => rIn K neg x y H Q ∨ (if neg then rNotInS x y H Q else rInS x y H Q)
theorem flat_rep {ρ : List Addr} {G H : Hp} {d : D} {v : V} (f : flatD d = true) (h : RT C ρ G H d v) : Rep C ρ G d v := by
  cases d <;> first | exact h | cases f
theorem ok_inG {neg : Bool} {f : D → D → Option D} (hf : ∀ x y, f x y = (dIn x y).map fun k => D.bl (if neg then !k else k)) : R2Ok C (RS C) (rInA C.K neg) f := ok_B (g := fun x y => (dIn x y).map fun k => if neg then !k else k) (fun x y => by rw [hf]; cases dIn x y <;> rfl) fun S ρ G H x y dx dy k Q m rx ry e q => by
  cases z : dIn dx dy with
  | none => rw [z] at e; cases e
  | some k0 =>
    rw [z] at e
    have e : (if neg then !k0 else k0) = k := Option.some.inj e
    subst e
    unfold dIn at z
    split at z
    · rename_i d xs
      split at z
      · rename_i hf
        cases z
        obtain ⟨a, vs, rfl, h1, h2⟩ := ry
        have r := flat_rep hf.1 rx
        refine .inl ⟨a, vs, rfl, .inl (SqL.of h1), (rep_flat hf.1 r).1, reps_flat h2 hf.2, ?_⟩
        rw [inV_D hf.1 r h2 hf.2]; exact q
      · cases z
    · rename_i d xs
      split at z
      · rename_i hf
        cases z
        rw [rt_tup] at ry
        obtain ⟨a, vs, rfl, h1, h2⟩ := ry
        have r := flat_rep hf.1 rx
        refine .inl ⟨a, vs, rfl, .inr (m.sub.sqT h1), (rep_flat hf.1 r).1, reps_flat h2 hf.2, ?_⟩
        rw [inV_D hf.1 r h2 hf.2]; exact q
      · cases z
    · rename_i x y
      split at z
      · rename_i hl
        cases z
        rw [rt_str] at rx ry
        subst rx ry
        obtain ⟨⟨l⟩⟩ := x
        have hl : l.length = 1 := hl
        obtain ⟨c, rfl⟩ : ∃ c, l = [c] := by
          cases l with
          | nil => cases hl
          | cons c r => cases r with
            | nil => exact ⟨c, rfl⟩
            | cons _ _ => cases hl
        refine .inr ?_
        cases neg with
        | true => exact ⟨c, y, rfl, rfl, q⟩
        | false => exact ⟨c, y, rfl, rfl, q⟩
      · cases z
    · cases z
theorem ok_in : R2Ok C (RS C) (rInA C.K false) cIn := ok_inG fun _ _ => rfl
theorem ok_notIn : R2Ok C (RS C) (rInA C.K true) cNotIn := ok_inG fun _ _ => rfl
theorem or_in : OpR X (compareOp .In) (rInA X.K false) := op_in_seq.or op_inS
theorem or_notIn : OpR X (compareOp .NotIn) (rInA X.K true) := op_notIn_seq.or op_notInS
theorem dt_in (ha : DO X cls W a δa) (hb : DO X cls W b δb) (hm : behindInMarks .In b = false) : DT X cls W (.Compare a [.In] [b] pos) (tB (eOp cIn δa δb)) := dt_cmp or_in ok_in ha hb hm
theorem dt_notIn (ha : DO X cls W a δa) (hb : DO X cls W b δb) (hm : behindInMarks .NotIn b = false) : DT X cls W (.Compare a [.NotIn] [b] pos) (tB (eOp cNotIn δa δb)) := dt_cmp or_notIn ok_notIn ha hb hm
theorem de_in (ha : DO X cls W a δa) (hb : DO X cls W b δb) (hm : behindInMarks .In b = false) : DE X cls W (.Compare a [.In] [b] pos) (eOp cIn δa δb) := de_cmp or_in ok_in ha hb hm
theorem de_notIn (ha : DO X cls W a δa) (hb : DO X cls W b δb) (hm : behindInMarks .NotIn b = false) : DE X cls W (.Compare a [.NotIn] [b] pos) (eOp cNotIn δa δb) := de_cmp or_notIn ok_notIn ha hb hm
end
end DL

namespace DL
open PySem PySem.Spec PyProof.Rows L2

/-! ### tuple * int: once, or of nothing -/
theorem tuple_mulS (l : Addr) (items : Array Value) (n : Nat) (dd : Option Addr) (sl : Array (Option Value)) (x : Int) (u : Tok) (c0 : (decide (x < -(2 ^ 63)) || decide (x ≥ 2 ^ 63)) = false) (c1 : (items.isEmpty || x == 1) = true) :
    Meets (Builtin.«tuple.__mul__» ⟨[.ref l, .int x u], []⟩) (fun _ R s => s.heap.get? l = some { cls := .type "tuple", dict := dd, data := .seq items n, slots := sl } ∧ R (.ok (.ret (Value.ref l))) s) :=
  .of_wp fun prog w A R s h => by
    obtain ⟨hp, g, d, tk, os⟩ := s
    obtain ⟨hl, h⟩ := h
    have f1 := AutoSeq1.idx_int
    wp_walk using wpAny_loadPart' hl
    repeat (first
      | (refine wpAny_ite_false (decide_eq_false (by rw [c0]; exact Bool.false_ne_true)) ?_; wp_walk using wpAny_loadPart' hl)
      | (refine wpAny_ite_true (decide_eq_true c1) ?_; wp_walk using wpAny_loadPart' hl))
    exact ⟨_, rfl, h⟩
def rRepS (K : PySem.W.Frag) : R2 := fun x y H Q => ∃ l k xs, x = .ref l ∧ y = .int k ∧ SqT K H l xs ∧ -(2 ^ 63) ≤ k ∧ k < 2 ^ 63 ∧ (xs = [] ∨ k = 1) ∧ Q (.ref l) H
theorem op_repS {X : Cx} : OpR X (binaryOp .Mult) (rRepS X.K) := by
  intro pins s σ H x y v u Q I rx ry h
  obtain ⟨l, k, xs, rfl, rfl, hT, h1, h2, hz, q⟩ := h
  cases rx
  obtain ⟨t, rfl⟩ := ry
  obtain ⟨its, r, ⟨⟨cls, dd, data, sl⟩, ho, hc, n, hd⟩, hs⟩ := I.tuple hT
  simp only at hc hd
  subst hc hd
  have c0 : (decide (k < -(2 ^ 63)) || decide (k ≥ 2 ^ 63)) = false := by
    rw [decide_eq_false (by omega), decide_eq_false (by omega)] <;> rfl
  have c1 : (its.toArray.isEmpty || k == 1) = true := by
    rcases hz with rfl | rfl
    · cases r; rfl
    · simp
  exact wpAny_binaryOp_repeat_ref (T := "tuple") (U := "int") (by decide) ⟨_, ho, rfl⟩ (fun s' => typeIs_int s' k t) noFill_tuple_mul F.fills_int_mul F.slot_int_rmul repeat_tuple F.slot_int_index.lookup
    (call_meets F.slot_int_rmul (typeIs_int s k t) F.entry_int_rmul (F.args_int_rmul_2 _ _) (int_rmul_tuple k t l its.toArray n dd sl)
      ⟨ho, rfl, ⟨_, ho, rfl⟩, call_meets F.slot_tuple_mul ⟨_, ho, rfl⟩ F.entry_tuple_mul (F.args_tuple_mul_2 _ _) (tuple_mulS l its.toArray n dd sl k t c0 c1) ⟨ho, ⟨.ref l, H, I, rfl, q⟩⟩⟩)

section
variable {X : Cx} {cls : Nat → Addr} {C : Cn} {W : WX} {a b c e : Expr} {pos : Pos} {δa δb δc δ : De}
def onTM : D → D → Option D
  | .tup xs, .int k => if 1 ≤ k ∧ k ≤ 1000 ∧ xs.length ≤ 1000 then some (.tup (List.replicate k.toNat xs).flatten) else none
  | _, _ => none
theorem ok_TM : R2Ok C (RS C) (fun x y H Q => rRepS C.K x y H Q ∨ rRepT C.K x y H Q) onTM := fun S ρ G H x y d dx dy Q m rx ry e q => by
  cases dx <;> try cases e
  rename_i xs
  cases dy <;> try cases e
  rename_i k
  rw [rt_tup] at rx
  obtain ⟨a, vs, rfl, h1, r1⟩ := rx
  rw [rt_int] at ry
  subst ry
  simp only [onTM] at e
  split at e
  · rename_i hp
    cases e
    have hl := r1.length
    by_cases hx : vs = []
    · subst hx
      have e0 : xs = [] := by cases xs with
        | nil => rfl
        | cons _ _ => cases hl
      subst e0
      refine .inl ⟨a, k, [], rfl, rfl, m.sub.sqT h1, by omega, by omega, .inl rfl, q _ _ _ _ m .refl (rep_tup.mpr ⟨a, [], rfl, h1, ?_⟩)⟩
      have z : (List.replicate k.toNat ([] : List D)).flatten = [] := by induction k.toNat with
        | zero => rfl
        | succ n ih => rw [List.replicate_succ, List.flatten_cons, ih]; rfl
      rw [z]; exact .nil
    · by_cases hk : k = 1
      · subst hk
        refine .inl ⟨a, 1, vs, rfl, rfl, m.sub.sqT h1, by decide, by decide, .inr rfl, q _ _ _ _ m .refl (rep_tup.mpr ⟨a, vs, rfl, h1, ?_⟩)⟩
        simpa using r1
      · refine .inr ⟨a, k, vs, rfl, rfl, m.sub.sqT h1, hx, by omega, hp.2.1, by omega, fun p hpn => ?_⟩
        obtain ⟨G2, m2, n2, r⟩ := x_newT m (r1.rep k.toNat) hpn
        exact q _ _ _ _ m2 n2 r
  · cases e
theorem dMul_cases (a b d : D) (h : dMul a b = some d) : fMulI a b = some d ∨ onLM a b = some d ∨ onTM a b = some d := by
  cases a <;> cases b <;> first
    | exact .inr (.inl h)
    | exact .inr (.inr h)
    | (cases h; done)
    | (refine .inl ?_
       simp only [dMul] at h
       split at h
       · rename_i hm
         show (if decide (mulOk _ _) = true then _ else _) = _
         rw [if_pos (decide_eq_true hm)]; exact h
       · cases h)
theorem de_mul (ha : DO X cls W a δa) (hb : DO X cls W b δb) : DE X cls W (.BinOp a .Mult b pos) (eOp dMul δa δb) :=
  de_op (op_mul.or (op_rep.or (op_repS.or op_repT))) ((ok_I fun i j h => of_decide_eq_true (p := mulOk i j) h).or (g := dMul) (f' := fun a b => if (onLM a b).isSome then onLM a b else onTM a b) ((rf_rs ok_LM).or (f' := onTM) ok_TM (fun a b d h => by
      by_cases z : (onLM a b).isSome
      · rw [if_pos z] at h; exact .inl h
      · rw [if_neg z] at h; exact .inr h)) (fun a b d h => by
      rcases dMul_cases a b d h with h | h | h
      · exact .inl h
      · exact .inr (by rw [h]; rfl)
      · exact .inr (by cases a <;> cases b <;> first | cases h | (show (if (Option.isSome none) = true then _ else _) = _; exact h)))) ha hb
theorem de_neg (ha : DO X cls W a δa) : DE X cls W (.UnaryOp .USub a pos) (eUn dNeg δa) := de_un un_neg (fun S ρ G H x d dx Q m rx e q => by
  cases dx <;> try cases e
  rw [rt_int] at rx
  subst rx
  exact ⟨_, rfl, q _ _ _ _ m .refl (rep_int.mpr rfl)⟩) ha

/-! ### places -/
theorem atI_reps {ρ : List Addr} {G : Hp} {ds : List D} {vs : List V} (r : Reps C ρ G ds vs) {i : Int} {d : D} (h : atI ds i = some d) : ∃ v, atI vs i = some v ∧ Rep C ρ G d v := by
  unfold atI at h ⊢
  rw [r.length] at h
  cases z : ixN vs.length i with
  | none => rw [z] at h; cases h
  | some j =>
    rw [z] at h
    obtain ⟨v, hv, rv⟩ := r.get (i := j) h
    exact ⟨v, hv, rv⟩
theorem atI_map {α β : Type} (f : α → β) (xs : List α) (i : Int) : atI (xs.map f) i = (atI xs i).map f := by
  unfold atI
  rw [List.length_map]
  cases ixN xs.length i with
  | none => rfl
  | some j => simp
theorem ok_ix : R2Ok C (RS C) (rIx C.K) dIdx := fun S ρ G H x y d dx dy Q m rx ry e q => by
  cases dx <;> try cases e
  · cases dy <;> try cases e
    rename_i x i
    rw [rt_str] at rx; rw [rt_int] at ry
    subst rx ry
    simp only [dIdx] at e
    split at e
    · rename_i hz
      cases z : atI x.cps.toList i with
      | none => rw [z] at e; cases e
      | some c =>
        rw [z] at e; cases e
        exact .inr (.inr ⟨x, i, c, rfl, rfl, hz, z, q _ _ _ _ m .refl (rep_str.mpr rfl)⟩)
    · cases e
  · cases dy <;> try cases e
    rename_i xs i
    rw [rt_int] at ry
    subst ry
    obtain ⟨a, vs, rfl, h1, r1⟩ := rx
    obtain ⟨v, hv, rv⟩ := atI_reps r1 (show atI xs i = some d from e)
    exact .inl ⟨a, vs, i, v, rfl, rfl, SqL.of h1, hv, q _ _ _ _ m .refl rv⟩
  · cases dy <;> try cases e
    rename_i xs i
    rw [rt_int] at ry
    subst ry
    rw [rt_tup] at rx
    obtain ⟨a, vs, rfl, h1, r1⟩ := rx
    obtain ⟨v, hv, rv⟩ := atI_reps r1 (show atI xs i = some d from e)
    exact .inr (.inl ⟨a, vs, i, v, rfl, rfl, m.sub.sqT h1, hv, q _ _ _ _ m .refl rv⟩)
  · cases dy <;> try cases e
    rename_i xs i
    rw [rt_int] at ry
    subst ry
    rw [rt_scr] at rx
    obtain ⟨a, rfl, h1⟩ := rx
    replace e : (atI xs i).map D.int = some d := e
    cases z : atI xs i with
    | none => rw [z] at e; cases e
    | some n =>
      rw [z] at e; cases e
      exact .inl ⟨a, _, i, .int n, rfl, rfl, m.sub.sqL h1, by rw [atI_map, z]; rfl, q _ _ _ _ m .refl (rep_int.mpr rfl)⟩
theorem de_sub_ (ha : DO X cls W a δa) (hb : DO X cls W b δb) (hs : PlainIx b := by exact fun _ _ => rfl) : DE X cls W (.Subscript a b pos) (eOp dIdx δa δb) := de_ix ix_seq ok_ix ha hb hs

/-! ### slices -/
def RQ {α : Type} : RVT α α := fun _ _ _ _ a b => a = b
theorem back_RQ {α : Type} : Back (RQ (α := α)) := fun _ _ _ _ _ _ _ _ h => h
abbrev Dp_ := List Sl → List D → Res (Option Int)
def tP (C : Cn) (W : WX) (δ : Dp_) : TO := fun σ H Q => ∃ Γ S ρ G, Mem C Γ S ρ G H σ ∧ Post C W RQ Γ ρ G H σ (δ Γ S) Q
def DP (X : Cx) (cls : Nat → Addr) (W : WX) (e : Option Expr) (δ : Dp_) : Prop := PO X e (tP ⟨X.K, cls⟩ W δ)
theorem PO.weak {X : Cx} {e : Option Expr} {t t' : TO} (h : PO X e t) (i : ∀ σ H Q, t' σ H Q → t σ H Q) : PO X e t' := ⟨fun pins s σ H Q I h' => h.run pins s σ H Q I (i σ H Q h')⟩
def pNo : Dp_ := fun _ S => .ok none S
def asI : D → Option Int | .int i => some i | _ => none
def pSo (a : De) : Dp_ := fun Γ S => (a Γ S).bind fun x S1 => ofO ((asI x).map some) S1
theorem dp_no : DP X cls W none pNo := PO.weak po_none fun σ H Q ⟨Γ, S, ρ, G, m, p⟩ => p.at m rfl
theorem dp_so (ha : DE X cls W a δa) : DP X cls W (some a) (pSo δa) := PO.weak (po_some ha) fun σ H Q ⟨Γ, S, ρ, G, m, p⟩ => ⟨Γ, S, ρ, G, m, (Post.seq back_RQ p).mono fun x H1 ⟨dx, S1, ρ1, G1, m1, n1, r1, p1⟩ => by
  obtain ⟨k, hk, p2⟩ := ofO_post p1
  cases dx <;> try cases hk
  exact ⟨_, rep_int.mp r1, p2.at m1 rfl⟩⟩
def dCut (d : D) (lo hi : Option Int) : Option D := match d with
  | .lst xs => some (.lst (cutD xs lo hi))
  | .tup xs => some (.tup (cutD xs lo hi))
  | .str x => if x.length ≤ sizeLine then some (.str (cutS x lo hi)) else none
  | _ => none
def onlyL (d : D) (lo hi : Option Int) : Option D := match d with
  | .lst xs => some (.lst (cutD xs lo hi))
  | _ => none
def eCut (f : D → Option Int → Option Int → Option D) (a : De) (lo hi : Dp_) : De := fun Γ S => (a Γ S).bind fun x S1 => (lo Γ S1).bind fun l S2 => (hi Γ S2).bind fun h S3 => ofO (f (deref S3 x) l h) S3
theorem Reps.cut {ρ : List Addr} {G : Hp} {ds : List D} {vs : List V} (r : Reps C ρ G ds vs) (lo hi : Option Int) : Reps C ρ G (cutD ds lo hi) (cutV vs lo hi) := by
  unfold cutD cutV
  rw [r.length]
  exact (r.drop _).take _
theorem x_cut {RV : RVT D V} (bk : Back RV) {lo hi : Dp_} {R : V → Option Int → Option Int → Hp → VK → Prop} {f : D → Option Int → Option Int → Option D}
    (ho : ∀ (S : List D) ρ G H x dx l h d (Q : VK), MemS ⟨X.K, cls⟩ S ρ G H → RT ⟨X.K, cls⟩ ρ G H dx x → f dx l h = some d → (∀ v ρ' G' H', MemS ⟨X.K, cls⟩ S ρ' G' H' → Nx ρ G H ρ' G' H' → RV H ρ' G' H' d v → Q v H') → R x l h H Q)
    {σ : L2.St} {H : Hp} {Q : VK} (h : tE ⟨X.K, cls⟩ W RV (eCut f δa lo hi) σ H Q) : tSl R (tE ⟨X.K, cls⟩ W (RO ⟨X.K, cls⟩) δa) (tP ⟨X.K, cls⟩ W lo) (tP ⟨X.K, cls⟩ W hi) σ H Q := by
  obtain ⟨Γ, S, ρ, G, m, p⟩ := h
  refine ⟨Γ, S, ρ, G, m, (Post.seq bk p).mono fun x H1 ⟨dx, S1, ρ1, G1, m1, n1, r1, p1⟩ => ⟨Γ, S1, ρ1, G1, m1, (Post.seq (RV := RQ) bk p1).mono fun l H2 ⟨l', S2, ρ2, G2, m2, n2, r2, p2⟩ => ⟨Γ, S2, ρ2, G2, m2, (Post.seq (RV := RQ) bk p2).mono fun h H3 ⟨h', S3, ρ3, G3, m3, n3, r3, p3⟩ => ?_⟩⟩⟩
  have e2 : l' = l := r2
  have e3 : h' = h := r3
  subst e2 e3
  obtain ⟨d, hd, p4⟩ := ofO_post p3
  exact ho S3 ρ3 G3 H3 x _ l' h' d Q m3.toS (m3.read (H0 := H1) ((r1.step (H1 := H1) n2).step n3)) hd fun v ρ' G' H' m' n' r' => p4.here (m3.step n' m') n' r'
theorem de_cut {lo hi : Option Expr} {δl δh : Dp_} {p2 : Pos} (ha : DO X cls W a δa) (hl : DP X cls W lo δl) (hh : DP X cls W hi δh) : DE X cls W (.Subscript a (.Slice lo hi none p2) pos) (eCut dCut δa δl δh) :=
  PE.weak (pe_slice (sl_list.or (sl_tupA.or sl_str)) ha hl hh) fun σ H Q h => x_cut back_RS (fun S ρ G H x dx l h d Q m rx e q => by
    cases dx <;> try cases e
    · rw [rt_str] at rx
      subst rx
      simp only [dCut] at e
      split at e
      · rename_i hz
        cases e
        exact .inr (.inr ⟨_, rfl, hz, q _ _ _ _ m .refl (rep_str.mpr rfl)⟩)
      · cases e
    · obtain ⟨a, vs, rfl, h1, r1⟩ := rx
      refine .inl ⟨a, vs, rfl, SqL.of h1, fun p hp => ?_⟩
      obtain ⟨m2, n2, r⟩ := x_new m (r1.cut l h) hp
      obtain ⟨G2, m3, n3, r3⟩ := RF.settle m n2 m2 r
      exact q _ _ _ _ m3 n3 r3
    · rw [rt_tup] at rx
      obtain ⟨a, vs, rfl, h1, r1⟩ := rx
      refine .inr (.inl ⟨a, vs, rfl, m.sub.sqT h1, fun hw => ?_, fun _ p hp => ?_⟩)
      · have z : cutV vs l h = vs := by
          unfold cutV
          rw [hw.1, hw.2]; simp
        exact q _ _ _ _ m .refl (rep_tup.mpr ⟨a, vs, rfl, h1, by rw [← z]; exact r1.cut l h⟩)
      · obtain ⟨G2, m2, n2, r⟩ := x_newT m (r1.cut l h) hp
        exact q _ _ _ _ m2 n2 r) h
theorem df_cut {lo hi : Option Expr} {δl δh : Dp_} {p2 : Pos} (ha : DO X cls W a δa) (hl : DP X cls W lo δl) (hh : DP X cls W hi δh) : DF X cls W (.Subscript a (.Slice lo hi none p2) pos) (eCut onlyL δa δl δh) :=
  PE.weak (pe_slice sl_list ha hl hh) fun σ H Q h => x_cut back_RF (fun S ρ G H x dx l h d Q m rx e q => by
    cases dx <;> try cases e
    obtain ⟨a, vs, rfl, h1, r1⟩ := rx
    refine ⟨a, vs, rfl, SqL.of h1, fun p hp => ?_⟩
    obtain ⟨m2, n2, r⟩ := x_new m (r1.cut l h) hp
    exact q _ _ _ _ m2 n2 r) h

/-! ### built-in calls -/
def RC1 (C : Cn) (RV : RVT D V) (R : List V → Hp → VK → Prop) (f : D → Option D) : Prop := ∀ (S : List D) (ρ : List Addr) (G H : Hp) (x : V) (d dx : D) (Q : VK), MemS C S ρ G H → RT C ρ G H dx x → f dx = some d →
  (∀ v ρ' G' H', MemS C S ρ' G' H' → Nx ρ G H ρ' G' H' → RV H ρ' G' H' d v → Q v H') → R [x] H Q
def RC2 (C : Cn) (RV : RVT D V) (R : List V → Hp → VK → Prop) (f : D → D → Option D) : Prop := ∀ (S : List D) (ρ : List Addr) (G H : Hp) (x y : V) (d dx dy : D) (Q : VK), MemS C S ρ G H → RT C ρ G H dx x → RT C ρ G H dy y → f dx dy = some d →
  (∀ v ρ' G' H', MemS C S ρ' G' H' → Nx ρ G H ρ' G' H' → RV H ρ' G' H' d v → Q v H') → R [x, y] H Q
theorem x_c1 {RV : RVT D V} (bk : Back RV) {R : List V → Hp → VK → Prop} {f : D → Option D} (h : PE X e (tCB R (tCons (tE ⟨X.K, cls⟩ W (RO ⟨X.K, cls⟩) δa) tNil))) (ho : RC1 ⟨X.K, cls⟩ RV R f) : PE X e (tE ⟨X.K, cls⟩ W RV (eUn f δa)) :=
  PE.weak h fun σ H Q h => x_un (R := fun x H Q => R [x] H Q) bk (fun S ρ G H x d dx Q m rx e q => ho S ρ G H x d dx Q m rx e q) h
theorem x_c2 {RV : RVT D V} (bk : Back RV) {R : List V → Hp → VK → Prop} {f : D → D → Option D} (h : PE X e (tCB R (tCons (tE ⟨X.K, cls⟩ W (RO ⟨X.K, cls⟩) δa) (tCons (tE ⟨X.K, cls⟩ W (RO ⟨X.K, cls⟩) δb) tNil)))) (ho : RC2 ⟨X.K, cls⟩ RV R f) : PE X e (tE ⟨X.K, cls⟩ W RV (eOp f δa δb)) :=
  PE.weak h fun σ H Q h => x_op (R := fun x y H Q => R [x, y] H Q) bk (fun S ρ G H x y d dx dy Q m rx ry e q => ho S ρ G H x y d dx dy Q m rx ry e q) h
theorem da1 (ha : DO X cls W a δa) (hs : starEach [a] X.env = (false, eval a X.env) :: starEach [] X.env := by rfl) : PA X [a] (tCons (tE ⟨X.K, cls⟩ W (RO ⟨X.K, cls⟩) δa) tNil) := pa_cons ha pa_nil hs
theorem da2 (ha : DO X cls W a δa) (hb : DO X cls W b δb) (hs : starEach [a, b] X.env = (false, eval a X.env) :: starEach [b] X.env := by rfl) (hs2 : starEach [b] X.env = (false, eval b X.env) :: starEach [] X.env := by rfl) : PA X [a, b] (tCons (tE ⟨X.K, cls⟩ W (RO ⟨X.K, cls⟩) δa) (tCons (tE ⟨X.K, cls⟩ W (RO ⟨X.K, cls⟩) δb) tNil)) := pa_cons ha (pa_cons hb pa_nil hs2) hs
theorem rc_len : RC1 C (RS C) (fun xs H Q => (∃ p ys, xs = [.ref p] ∧ (SqL C.K H p ys ∨ SqT C.K H p ys) ∧ Q (.int ys.length) H) ∨ ∃ z, xs = [.str z] ∧ z.length ≤ sizeLine ∧ Q (.int z.length) H) dLen := fun S ρ G H x d dx Q m rx e q => by
  cases dx <;> try cases e
  · rw [rt_str] at rx; subst rx
    simp only [dLen] at e
    split at e
    · cases e; exact .inr ⟨_, rfl, by assumption, q _ _ _ _ m .refl (rep_int.mpr rfl)⟩
    · cases e
  · obtain ⟨a, vs, rfl, h1, r1⟩ := rx
    exact .inl ⟨a, vs, rfl, .inl (SqL.of h1), q _ _ _ _ m .refl (rep_int.mpr (by rw [r1.length]))⟩
  · rw [rt_tup] at rx
    obtain ⟨a, vs, rfl, h1, r1⟩ := rx
    exact .inl ⟨a, vs, rfl, .inr (m.sub.sqT h1), q _ _ _ _ m .refl (rep_int.mpr (by rw [r1.length]))⟩
  · rw [rt_scr] at rx
    obtain ⟨a, rfl, h1⟩ := rx
    exact .inl ⟨a, _, rfl, .inl (m.sub.sqL h1), q _ _ _ _ m .refl (rep_int.mpr (by rw [List.length_map]))⟩
variable {p : Pos}
theorem de_len (hg : Gl X "len") (hm : X.mg "len" = none) (ha : DO X cls W a δa) (he : starEach [a] X.env = (false, eval a X.env) :: starEach [] X.env := by rfl) (hpl : (backTo pos (starEach [] X.env)).any (·.1) = false := by rfl) : DE X cls W (.Call (.Name "len" p) [a] [] pos) (eUn dLen δa) :=
  x_c1 back_RS (pe_callB (call_len_seq.or call_len_str) hg hm PySem.boot_len (da1 ha he) (by decide) (by decide) he hpl) rc_len
def dInt : D → Option D
  | .int i => some (.int i)
  | .bl b => some (.int (if b then 1 else 0))
  | .str x => if x.length ≤ 640 then (PySem.intText? x).map .int else none
  | _ => none
theorem rc_int : RC1 C (RS C) (fun xs H Q => ((∃ i, xs = [.int i] ∧ Q (.int i) H) ∨ ∃ k, xs = [.bl k] ∧ Q (.int (if k then 1 else 0)) H) ∨ ∃ a n, xs = [.str a] ∧ PySem.intText? a = some n ∧ a.length ≤ 640 ∧ Q (.int n) H) dInt := fun S ρ G H x d dx Q m rx e q => by
  cases dx <;> try cases e
  · rw [rt_bl] at rx; subst rx; exact .inl (.inr ⟨_, rfl, q _ _ _ _ m .refl (rep_int.mpr rfl)⟩)
  · rw [rt_int] at rx; subst rx; exact .inl (.inl ⟨_, rfl, q _ _ _ _ m .refl (rep_int.mpr rfl)⟩)
  · rename_i x
    rw [rt_str] at rx; subst rx
    simp only [dInt] at e
    split at e
    · cases z : PySem.intText? x with
      | none => rw [z] at e; cases e
      | some n => rw [z] at e; cases e; exact .inr ⟨_, n, rfl, z, by assumption, q _ _ _ _ m .refl (rep_int.mpr rfl)⟩
    · cases e
theorem de_intc (hg : Gl X "int") (hm : X.mg "int" = none) (ha : DO X cls W a δa) (he : starEach [a] X.env = (false, eval a X.env) :: starEach [] X.env := by rfl) (hpl : (backTo pos (starEach [] X.env)).any (·.1) = false := by rfl) : DE X cls W (.Call (.Name "int" p) [a] [] pos) (eUn dInt δa) :=
  x_c1 back_RS (pe_callTy (call_int1.or call_int_str) hg hm (by decide +kernel) (da1 ha he) (by decide) (by decide) he hpl) rc_int
def dTuple : D → Option D
  | .lst xs => some (.tup xs)
  | .tup xs => some (.tup xs)
  | _ => none
theorem rc_tuple : RC1 C (RS C) (fun xs H Q => ∃ p ys, xs = [.ref p] ∧ ((SqL C.K H p ys ∧ ∀ l, H l = none → Q (.ref l) (upd H l (.tup ys))) ∨ (SqT C.K H p ys ∧ Q (.ref p) H))) dTuple := fun S ρ G H x d dx Q m rx e q => by
  cases dx <;> try cases e
  · obtain ⟨a, vs, rfl, h1, r1⟩ := rx
    refine ⟨a, vs, rfl, .inl ⟨SqL.of h1, fun l hl => ?_⟩⟩
    obtain ⟨G2, m2, n2, r⟩ := x_newT m r1 hl
    exact q _ _ _ _ m2 n2 r
  · rw [rt_tup] at rx
    obtain ⟨a, vs, rfl, h1, r1⟩ := rx
    exact ⟨a, vs, rfl, .inr ⟨m.sub.sqT h1, q _ _ _ _ m .refl (rep_tup.mpr ⟨a, vs, rfl, h1, r1⟩)⟩⟩
theorem de_tuple (hg : Gl X "tuple") (hm : X.mg "tuple" = none) (ha : DO X cls W a δa) (he : starEach [a] X.env = (false, eval a X.env) :: starEach [] X.env := by rfl) (hpl : (backTo pos (starEach [] X.env)).any (·.1) = false := by rfl) : DE X cls W (.Call (.Name "tuple" p) [a] [] pos) (eUn dTuple δa) :=
  x_c1 back_RS (pe_callTy call_tuple_of hg hm (by decide +kernel) (da1 ha he) (by decide) (by decide) he hpl) rc_tuple
def dList : D → Option D
  | .lst xs => some (.lst xs)
  | .tup xs => some (.lst xs)
  | _ => none
theorem rc_list : RC1 C (RF C) (fun xs H Q => ∃ p ys, xs = [.ref p] ∧ (SqL C.K H p ys ∨ SqT C.K H p ys) ∧ ∀ l, H l = none → Q (.ref l) (upd H l (.lst ys))) dList := fun S ρ G H x d dx Q m rx e q => by
  cases dx <;> try cases e
  · obtain ⟨a, vs, rfl, h1, r1⟩ := rx
    refine ⟨a, vs, rfl, .inl (SqL.of h1), fun l hl => ?_⟩
    obtain ⟨m2, n2, r⟩ := x_new m r1 hl
    exact q _ _ _ _ m2 n2 r
  · rw [rt_tup] at rx
    obtain ⟨a, vs, rfl, h1, r1⟩ := rx
    refine ⟨a, vs, rfl, .inr (m.sub.sqT h1), fun l hl => ?_⟩
    obtain ⟨m2, n2, r⟩ := x_new m r1 hl
    exact q _ _ _ _ m2 n2 r
theorem df_list (hg : Gl X "list") (hm : X.mg "list" = none) (ha : DO X cls W a δa) (he : starEach [a] X.env = (false, eval a X.env) :: starEach [] X.env := by rfl) (hpl : (backTo pos (starEach [] X.env)).any (·.1) = false := by rfl) : DF X cls W (.Call (.Name "list" p) [a] [] pos) (eUn dList δa) :=
  x_c1 back_RF (pe_callTy call_list_of hg hm (by decide +kernel) (da1 ha he) (by decide) (by decide) he hpl) rc_list
/-! isinstance -/
def tyN : D → Option String
  | .non => some "NoneType" | .bl _ => some "bool" | .int _ => some "int" | .str _ => some "str" | .lst _ => some "list" | .tup _ => some "tuple" | .dct _ _ => some "dict" | .scr _ => some "list" | _ => none
def dIsi (T : String) (d : D) : Option D := (tyN d).bind fun t => (kitB t T).map .bl
theorem rt_tyN {ρ : List Addr} {G H : Hp} (e : Sub G H) {d : D} {v : V} {t : String} (h : RT C ρ G H d v) (k : tyN d = some t) : TyX C.K H v (.type t) := by
  cases d <;> cases k
  · rw [rt_non] at h; subst h; exact .base .non
  · rw [rt_bl] at h; subst h; exact .base (.bl _)
  · rw [rt_int] at h; subst h; exact .base (.int _)
  · rw [rt_str] at h; subst h; exact .base (.str _)
  · obtain ⟨a, vs, rfl, h1, _⟩ := h; exact .base (.lst h1)
  · rw [rt_tup] at h
    obtain ⟨a, vs, rfl, h1, _⟩ := h
    rcases e.sqT h1 with (h1 | ⟨o, h1⟩) | ⟨o, its, n, h1, h2, _⟩
    · exact .base (.tup h1)
    · exact .fTuple h1
    · exact .kTuple h1 h2
  · obtain ⟨a, vs, rfl, h1, _⟩ := h; exact .base (.dK h1)
  · rw [rt_scr] at h
    obtain ⟨a, rfl, h1⟩ := h
    rcases e.sqL h1 with (h1 | ⟨o, h1⟩) | ⟨o, its, n, h1, h2, _⟩
    · exact .base (.lst h1)
    · exact .base (.frz h1)
    · exact .kList h1 h2
theorem de_isi {T : String} {y : Str} {p2 : Pos} (hg : Gl X "isinstance") (hm : X.mg "isinstance" = none) (hgT : Gl X y) (hmT : X.mg y = none) (hvT : bootBuiltins y = some (.type T)) (ha : DO X cls W a δa)
    (hn : y ≠ "__name__" := by decide) (hdb : (y == ("__debug__" : Str)) = false := by decide)
    (he : starEach [a, .Name y p2] X.env = (false, eval a X.env) :: starEach [.Name y p2] X.env := by rfl) (he2 : starEach [.Name y p2] X.env = (false, eval (.Name y p2) X.env) :: starEach [] X.env := by rfl) (hpl : (backTo pos (starEach [.Name y p2] X.env)).any (·.1) = false := by rfl) :
    DE X cls W (.Call (.Name "isinstance" p) [a, .Name y p2] [] pos) (eUn (dIsi T) δa) :=
  PE.weak (pe_callB call_isi hg hm (by decide +kernel) (pa_cons ha (pa_cons (pe_bltn (v := .ty T) hgT hmT hvT rfl hn hdb) pa_nil he2) he) (by decide) (by decide) he hpl) fun σ H Q h =>
    x_un (R := fun x H Q => rIsi X.K [x, .ty T] H Q) back_RS (fun S ρ G H x d dx Q m rx e q => by
      unfold dIsi at e
      cases k : tyN dx with
      | none => rw [k] at e; cases e
      | some t =>
        rw [k] at e
        cases z : kitB t T with
        | none => simp only [Option.bind_some, z] at e; cases e
        | some b =>
          simp only [Option.bind_some, z] at e; cases e
          exact ⟨x, .ty T, _, _, b, rfl, .ty T, rt_tyN m.sub rx k, kit_ty z, q _ _ _ _ m .refl (rep_bl.mpr rfl)⟩) h
end
end DL

namespace DL
open PySem PySem.Spec PyProof.Rows L2

/-! ### statements -/
/-- an entry (a def's), and what has been settled since a loop began -/
structure Ent where
  ρ : List Addr
  G : Hp
  H : Hp
  B : Hp
  R : List Addr
structure SI (C : Cn) (en : Ent) (Γ : List Sl) (S : List D) (ρ : List Addr) (G H : Hp) (σ : L2.St) : Prop where
  mem : Mem C Γ S ρ G H σ
  nx : Nx en.ρ en.G en.H ρ G H
  frs : ∀ (i : Nat) (d : D) (a : Addr), Γ[i]? = some (Sl.own d) → σ[i]? = some (some (V.ref a)) → en.H a = none
  base : Sub en.B G
  basr : en.R <+: ρ
section
variable {C : Cn} {W : WX} {en : Ent} {Γ Γ' : List Sl} {S S' : List D} {ρ ρ' : List Addr} {G G' H H' : Hp} {σ σ' : L2.St}
theorem SI.step (i : SI C en Γ S ρ G H σ) (m : Mem C Γ S' ρ' G' H' σ) (n : Nx ρ G H ρ' G' H') : SI C en Γ S' ρ' G' H' σ := ⟨m, i.nx.trans n, i.frs, i.base.trans n.ext, i.basr.trans n.pre⟩
/-- what is wanted behind a statement -/
def PostS (C : Cn) (W : WX) (en : Ent) (D : Ends) : Out → Prop
  | .next Γ S => ∀ ρ G H σ, SI C en Γ S ρ G H σ → D.nx σ H
  | .brk Γ S => ∀ ρ G H σ, SI C en Γ S ρ G H σ → D.bk σ H
  | .cont Γ S => ∀ ρ G H σ, SI C en Γ S ρ G H σ → D.ct σ H
  | .ret d S => ∀ v ρ G H, MemS C S ρ G H → Nx en.ρ en.G en.H ρ G H → Rep C ρ G d v → D.rt v H
  | .exc e Γ S => ∀ cls dx ρ G H σ, SI C en Γ S ρ G H σ → ExRep C ρ G H e cls dx → W cls dx σ H
  | .stuck => False
def tS (C : Cn) (W : WX) (δ : Ds) : TS := fun D σ H => ∃ en Γ S ρ G, SI C en Γ S ρ G H σ ∧ PostS C W en D (δ Γ S)
def DS (X : Cx) (cls : Nat → Addr) (W : WX) (st : Stmt) (δ : Ds) : Prop := PS X st (tS ⟨X.K, cls⟩ W δ)
def DSs (X : Cx) (cls : Nat → Addr) (W : WX) (st : List Stmt) (δ : Ds) : Prop := PSs X st (tS ⟨X.K, cls⟩ W δ)
theorem PostS.mono {D D' : Ends} {o : Out} (h : PostS C W en D o) (h1 : ∀ σ H, D.nx σ H → D'.nx σ H) (h2 : ∀ v H, D.rt v H → D'.rt v H) (h3 : ∀ σ H, D.bk σ H → D'.bk σ H) (h4 : ∀ σ H, D.ct σ H → D'.ct σ H) : PostS C W en D' o := by
  cases o with
  | next Γ S => exact fun ρ G H σ i => h1 _ _ (h ρ G H σ i)
  | brk Γ S => exact fun ρ G H σ i => h3 _ _ (h ρ G H σ i)
  | cont Γ S => exact fun ρ G H σ i => h4 _ _ (h ρ G H σ i)
  | ret d S => exact fun v ρ G H m n r => h2 _ _ (h v ρ G H m n r)
  | exc e Γ S => exact h
  | stuck => exact h

def sNext : Ds := fun Γ S => .next Γ S
def sSeq (a b : Ds) : Ds := fun Γ S => match a Γ S with | .next Γ' S' => b Γ' S' | o => o
/-- a statement that begins with an evaluation -/
def after {α : Type} (r : Res α) (Γ : List Sl) (f : α → List D → Out) : Out := match r with
  | .ok d S => f d S
  | .exc e S => .exc e Γ S
  | .stuck => .stuck
@[simp] theorem after_ok {α : Type} (d : α) (S : List D) (Γ : List Sl) (f : α → List D → Out) : after (.ok d S) Γ f = f d S := Eq.trans rfl rfl
@[simp] theorem after_exc {α : Type} (e : Exn) (S : List D) (Γ : List Sl) (f : α → List D → Out) : after (.exc e S : Res α) Γ f = .exc e Γ S := Eq.trans rfl rfl
@[simp] theorem after_stuck {α : Type} (Γ : List Sl) (f : α → List D → Out) : after (.stuck : Res α) Γ f = .stuck := Eq.trans rfl rfl
def sExpr (e : De) : Ds := fun Γ S => after (e Γ S) Γ fun _ S1 => .next Γ S1
def sRet (e : De) : Ds := fun Γ S => after (e Γ S) Γ fun d S1 => .ret d S1
def sRetN : Ds := fun _ S => .ret .non S
def sSet (i : Nat) (e : De) : Ds := fun Γ S => after (e Γ S) Γ fun d S1 => .next (Γ.set i (.val d)) S1
def sOwn (i : Nat) (e : De) : Ds := fun Γ S => after (e Γ S) Γ fun d S1 => .next (Γ.set i (.own d)) S1
def sIf (t : Dt) (a b : Ds) : Ds := fun Γ S => after (t Γ S) Γ fun k S1 => if k then a Γ S1 else b Γ S1
def sBrk : Ds := fun Γ S => .brk Γ S
def sCont : Ds := fun Γ S => .cont Γ S

theorem post_after {α β : Type} {RV : RVT α β} {D : Ends} {r : Res α} {F : α → List DL.D → Out} {Q : β → Hp → Prop} (i : SI C en Γ S ρ G H σ) (h : PostS C W en D (after r Γ F))
    (k : ∀ d S1 ρ1 G1 H1 v, Mem C Γ S1 ρ1 G1 H1 σ → Nx ρ G H ρ1 G1 H1 → SI C en Γ S1 ρ1 G1 H1 σ → RV H ρ1 G1 H1 d v → PostS C W en D (F d S1) → Q v H1) : Post C W RV Γ ρ G H σ r Q := by
  cases r with
  | ok d S1 => exact fun v ρ1 G1 H1 m n c => k d S1 ρ1 G1 H1 v m n (i.step m n) c h
  | exc e S1 => exact fun cls dx ρ1 G1 H1 m n c => h cls dx ρ1 G1 H1 σ (i.step m n) c
  | stuck => exact h.elim
/-- a slot is set -/
theorem Mem.setv (m : Mem C Γ S ρ G H σ) (i : Nat) {d : D} {v : V} (r : Rep C ρ G d v) : Mem C (Γ.set i (.val d)) S ρ G H (σ.set i (some v)) where
  sub := m.sub
  val := fun j d' h => by
    by_cases e : i = j
    · subst e
      by_cases hl : i < Γ.length
      · rw [List.getElem?_set_self hl] at h; cases h
        exact ⟨v, List.getElem?_set_self (by rw [← m.wid]; exact hl), r⟩
      · rw [List.getElem?_eq_none (by simpa using hl)] at h; cases h
    · rw [List.getElem?_set_ne e] at h
      rw [List.getElem?_set_ne e]; exact m.val j d' h
  own := fun j d' h => by
    by_cases e : i = j
    · subst e
      by_cases hl : i < Γ.length
      · rw [List.getElem?_set_self hl] at h; cases h
      · rw [List.getElem?_eq_none (by simpa using hl)] at h; cases h
    · rw [List.getElem?_set_ne e] at h
      rw [List.getElem?_set_ne e]; exact m.own j d' h
  inj := fun j k d1 d2 a h1 h2 => by
    have ne : ∀ (j : Nat) (d' : D), (Γ.set i (Sl.val d))[j]? = some (Sl.own d') → i ≠ j ∧ Γ[j]? = some (Sl.own d') := fun j d' h => by
      by_cases e : i = j
      · subst e
        by_cases hl : i < Γ.length
        · rw [List.getElem?_set_self hl] at h; cases h
        · rw [List.getElem?_eq_none (by simpa using hl)] at h; cases h
      · rw [List.getElem?_set_ne e] at h; exact ⟨e, h⟩
    obtain ⟨n1, g1⟩ := ne j d1 h1
    obtain ⟨n2, g2⟩ := ne k d2 h2
    rw [List.getElem?_set_ne n1, List.getElem?_set_ne n2]
    exact m.inj j k d1 d2 a g1 g2
  sto := m.sto
  stG := m.stG
  len := m.len
  nd := m.nd
  wid := by rw [List.length_set, List.length_set]; exact m.wid
  xcp := fun j x h => by
    by_cases e : i = j
    · subst e
      by_cases hl : i < Γ.length
      · rw [List.getElem?_set_self hl] at h; cases h
      · rw [List.getElem?_eq_none (by simpa using hl)] at h; cases h
    · rw [List.getElem?_set_ne e] at h
      rw [List.getElem?_set_ne e]; exact m.xcp j x h
theorem SI.setv (s : SI C en Γ S ρ G H σ) (i : Nat) {d : D} {v : V} (r : Rep C ρ G d v) : SI C en (Γ.set i (.val d)) S ρ G H (σ.set i (some v)) := ⟨s.mem.setv i r, s.nx, fun j d' a h1 h2 => by
  by_cases e : i = j
  · subst e
    by_cases hl : i < Γ.length
    · rw [List.getElem?_set_self hl] at h1; cases h1
    · rw [List.getElem?_eq_none (by simpa using hl)] at h1; cases h1
  · rw [List.getElem?_set_ne e] at h1 h2; exact s.frs j d' a h1 h2, s.base, s.basr⟩
/-- a slot is forgotten -/
theorem SI.forget (s : SI C en Γ S ρ G H σ) (i : Nat) : SI C en (Γ.set i .non) S ρ G H σ := by
  have ne : ∀ (j : Nat) (x : Sl), x ≠ .non → (Γ.set i Sl.non)[j]? = some x → Γ[j]? = some x := fun j x hx h => by
    by_cases e : i = j
    · subst e
      by_cases hl : i < Γ.length
      · rw [List.getElem?_set_self hl] at h; cases h; exact absurd rfl hx
      · rw [List.getElem?_eq_none (by simpa using hl)] at h; cases h
    · rw [List.getElem?_set_ne e] at h; exact h
  exact ⟨⟨s.mem.sub, fun j d h => s.mem.val j d (ne j _ (fun z => nomatch z) h), fun j d h => s.mem.own j d (ne j _ (fun z => nomatch z) h), fun j k d d' a h1 h2 => s.mem.inj j k d d' a (ne j _ (fun z => nomatch z) h1) (ne k _ (fun z => nomatch z) h2), s.mem.sto, s.mem.stG, s.mem.len, s.mem.nd, by rw [List.length_set]; exact s.mem.wid, fun j x h => s.mem.xcp j x (ne j _ (fun z => nomatch z) h)⟩,
    s.nx, fun j d a h1 h2 => s.frs j d a (ne j _ (fun z => nomatch z) h1) h2, s.base, s.basr⟩
/-- a slot takes a new object for its own -/
theorem SI.seto (s : SI C en Γ S ρ G H σ) (i : Nat) {d : D} {a : Addr} (n : Nx ρ G H ρ' G' H') (m : Mem C Γ S' ρ' G' H' σ) (na : a ∉ ρ') (h0 : H a = none) (hg : G' a = none) (r : ObAt C ρ' G' H' a d) : SI C en (Γ.set i (.own d)) S' ρ' G' H' (σ.set i (some (V.ref a))) := by
  have other : ∀ (j : Nat) (d' : D) (b : Addr), Γ[j]? = some (Sl.own d') → σ[j]? = some (some (V.ref b)) → b ≠ a := fun j d' b h1 h2 z => by
    obtain ⟨b', e, r', _⟩ := s.mem.own j d' h1
    rw [h2] at e; cases e
    obtain ⟨o, ho⟩ := r'.some
    rw [z, h0] at ho; cases ho
  refine ⟨⟨m.sub, fun j d' h => ?_, fun j d' h => ?_, fun j k d1 d2 b h1 h2 e1 e2 => ?_, m.sto, m.stG, m.len, m.nd, by rw [List.length_set, List.length_set]; exact m.wid, fun j x h => ?_⟩, s.nx.trans n, fun j d' b h1 h2 => ?_, s.base.trans n.ext, s.basr.trans n.pre⟩
  · by_cases e : i = j
    · subst e
      by_cases hl : i < Γ.length
      · rw [List.getElem?_set_self hl] at h; cases h
      · rw [List.getElem?_eq_none (by simpa using hl)] at h; cases h
    · rw [List.getElem?_set_ne e] at h
      rw [List.getElem?_set_ne e]; exact m.val j d' h
  · by_cases e : i = j
    · subst e
      by_cases hl : i < Γ.length
      · rw [List.getElem?_set_self hl] at h; cases h
        exact ⟨a, List.getElem?_set_self (by rw [← m.wid]; exact hl), r, hg, na⟩
      · rw [List.getElem?_eq_none (by simpa using hl)] at h; cases h
    · rw [List.getElem?_set_ne e] at h
      rw [List.getElem?_set_ne e]; exact m.own j d' h
  · have split : ∀ (j : Nat) (d' : D), (Γ.set i (Sl.own d))[j]? = some (Sl.own d') → i = j ∨ (i ≠ j ∧ Γ[j]? = some (Sl.own d')) := fun j d' h => by
      by_cases e : i = j
      · exact .inl e
      · rw [List.getElem?_set_ne e] at h; exact .inr ⟨e, h⟩
    have at_i : ∀ b, i < σ.length → (σ.set i (some (V.ref a)))[i]? = some (some (V.ref b)) → b = a := fun b hl h => by
      rw [List.getElem?_set_self hl] at h; cases h; rfl
    have hi : ∀ (d' : D), (Γ.set i (Sl.own d))[i]? = some (Sl.own d') → i < σ.length := fun d' h => by
      rw [← m.wid]
      by_cases hl : i < Γ.length
      · exact hl
      · rw [List.getElem?_eq_none (by simpa using hl)] at h; cases h
    rcases split j d1 h1 with z1 | ⟨n1, g1⟩
    · subst z1
      rcases split k d2 h2 with z2 | ⟨n2, g2⟩
      · exact z2
      · rw [List.getElem?_set_ne n2] at e2
        exact absurd (at_i b (hi _ h1) e1) (other k d2 b g2 e2)
    · rw [List.getElem?_set_ne n1] at e1
      rcases split k d2 h2 with z2 | ⟨n2, g2⟩
      · subst z2
        exact absurd (at_i b (hi _ h2) e2) (other j d1 b g1 e1)
      · rw [List.getElem?_set_ne n2] at e2
        exact m.inj j k d1 d2 b g1 g2 e1 e2
  · by_cases e : i = j
    · subst e
      by_cases hl : i < Γ.length
      · rw [List.getElem?_set_self hl] at h; cases h
      · rw [List.getElem?_eq_none (by simpa using hl)] at h; cases h
    · rw [List.getElem?_set_ne e] at h
      rw [List.getElem?_set_ne e]; exact m.xcp j x h
  · by_cases e : i = j
    · subst e
      by_cases hl : i < Γ.length
      · rw [List.getElem?_set_self (by rw [← m.wid]; exact hl)] at h2; cases h2
        exact s.nx.live _ h0
      · rw [List.getElem?_eq_none (by simpa using hl)] at h1; cases h1
    · rw [List.getElem?_set_ne e] at h1 h2; exact s.frs j d' b h1 h2
end

section
variable {X : Cx} {cls : Nat → Addr} {W : WX} {st : Stmt} {sts : List Stmt} {e c : Expr} {pos : Pos} {δ δ1 δ2 : Ds} {ε : De} {τ : Dt}
theorem dss_nil : DSs X cls W [] sNext := PSs.weak pss_nil fun D σ H ⟨en, Γ, S, ρ, G, i, p⟩ => p ρ G H σ i
theorem dss_one (h : DS X cls W st δ) : DSs X cls W [st] δ := pss_one h
theorem dss_cons (h : DS X cls W st δ1) (h2 : DSs X cls W sts δ2) : DSs X cls W (st :: sts) (sSeq δ1 δ2) := PSs.weak (pss_cons h h2) fun D σ H ⟨en, Γ, S, ρ, G, i, p⟩ => by
  refine ⟨en, Γ, S, ρ, G, i, ?_⟩
  unfold sSeq at p
  cases q : δ1 Γ S with
  | next Γ' S' => rw [q] at p; exact fun ρ' G' H' σ' i' => ⟨en, Γ', S', ρ', G', i', p⟩
  | brk Γ' S' => rw [q] at p; exact p
  | cont Γ' S' => rw [q] at p; exact p
  | ret d S' => rw [q] at p; exact p
  | exc x Γ' S' => rw [q] at p; exact p
  | stuck => rw [q] at p; exact p
theorem ds_pass : DS X cls W (.Pass pos) sNext := PS.weak ps_pass fun D σ H ⟨en, Γ, S, ρ, G, i, p⟩ => p ρ G H σ i
theorem ds_break : DS X cls W (.Break pos) sBrk := PS.weak ps_break fun D σ H ⟨en, Γ, S, ρ, G, i, p⟩ => p ρ G H σ i
theorem ds_cont : DS X cls W (.Continue pos) sCont := PS.weak ps_continue fun D σ H ⟨en, Γ, S, ρ, G, i, p⟩ => p ρ G H σ i
theorem ds_expr (h : DE X cls W e ε) (hs : swapsWith e none pos.line X.env = pure false := by rfl) : DS X cls W (.Expr e pos) (sExpr ε) := PS.weak (ps_expr h hs) fun D σ H ⟨en, Γ, S, ρ, G, i, p⟩ =>
  ⟨Γ, S, ρ, G, i.mem, post_after i p fun d S1 ρ1 G1 H1 v m n i1 r p1 => p1 ρ1 G1 H1 σ i1⟩
theorem ds_ret (h : DE X cls W e ε) : DS X cls W (.Return (some e) pos) (sRet ε) := PS.weak (ps_ret h) fun D σ H ⟨en, Γ, S, ρ, G, i, p⟩ =>
  ⟨Γ, S, ρ, G, i.mem, post_after i p fun d S1 ρ1 G1 H1 v m n i1 r p1 => p1 v ρ1 G1 H1 m.toS i1.nx r⟩
theorem ds_retN : DS X cls W (.Return none pos) sRetN := PS.weak ps_retN fun D σ H ⟨en, Γ, S, ρ, G, i, p⟩ => p .non ρ G H i.mem.toS i.nx (rep_non.mpr rfl)
/-- the slot's object is returned -/
def sRetO (i : Nat) : Ds := fun Γ S => match Γ[i]? with | some (.own d) => .ret d S | _ => .stuck
/-- a slot's object is settled -/
theorem SI.settle {C : Cn} {en : Ent} {Γ : List Sl} {S : List D} {ρ : List Addr} {G H : Hp} {σ : L2.St} (s : SI C en Γ S ρ G H σ) {i : Nat} {d : D} (h : Γ[i]? = some (.own d)) : ∃ G', SI C en (Γ.set i (.val d)) S ρ G' H σ ∧ Sub G G' := by
  obtain ⟨a, e, r, hg, na⟩ := s.mem.own i d h
  obtain ⟨o, ho⟩ := r.some
  have hl : i < Γ.length := (List.getElem?_eq_some_iff.mp h).1
  have k : Sub G (upd G a o) := fun b u q => by rw [upd_ne (ne_of_none q hg)]; exact q
  have he : en.H a = none := s.frs i d a h e
  have spl : ∀ (j : Nat) (x : Sl), (Γ.set i (Sl.val d))[j]? = some x → (i = j ∧ x = .val d) ∨ (i ≠ j ∧ Γ[j]? = some x) := fun j x q => by
    by_cases z : i = j
    · subst z; rw [List.getElem?_set_self hl] at q; cases q; exact .inl ⟨rfl, rfl⟩
    · rw [List.getElem?_set_ne z] at q; exact .inr ⟨z, q⟩
  refine ⟨upd G a o, ⟨⟨fun b u q => ?_, fun j d' q => ?_, fun j d' q => ?_, fun j l d1 d2 b q1 q2 e1 e2 => ?_, fun j d' q => ?_, fun b q => ?_, s.mem.len, s.mem.nd, by rw [List.length_set]; exact s.mem.wid, fun j x q => by
    rcases spl j _ q with ⟨z, y⟩ | ⟨z, y⟩
    · cases y
    · exact ⟨(s.mem.xcp j x y).1, (s.mem.xcp j x y).2.mono k (List.prefix_refl _)⟩⟩, ⟨s.nx.pre, s.nx.ext.trans k, fun b u q => ?_, s.nx.keep, s.nx.live, s.nx.fre⟩, fun j d' b q1 q2 => ?_, s.base.trans k, s.basr⟩, k⟩
  · by_cases z : b = a
    · subst z; rw [upd_same] at q; cases q; exact ho
    · rw [upd_ne z] at q; exact s.mem.sub _ _ q
  · rcases spl j _ q with ⟨z, y⟩ | ⟨z, y⟩
    · subst z
      cases y
      refine ⟨_, e, ObAt.rep (r.mono k (List.prefix_refl _) fun u q => ?_)⟩
      rw [ho] at q; cases q; exact upd_same
    · obtain ⟨v, e1, r1⟩ := s.mem.val j d' y
      exact ⟨v, e1, r1.mono k (List.prefix_refl _)⟩
  · rcases spl j _ q with ⟨z, y⟩ | ⟨z, y⟩
    · cases y
    · obtain ⟨b, e1, r1, g1, n1⟩ := s.mem.own j d' y
      have ne : b ≠ a := fun w => by
        subst w
        exact z (s.mem.inj i j d d' b h y e e1)
      exact ⟨b, e1, r1.mono k (List.prefix_refl _) fun _ q => q, by rw [upd_ne ne]; exact g1, n1⟩
  · rcases spl j _ q1 with ⟨z, y⟩ | ⟨z, y⟩
    · cases y
    · rcases spl l _ q2 with ⟨z2, y2⟩ | ⟨z2, y2⟩
      · cases y2
      · exact s.mem.inj j l d1 d2 b y y2 e1 e2
  · obtain ⟨b, e1, r1⟩ := s.mem.sto j d' q
    exact ⟨b, e1, r1.mono k (List.prefix_refl _) fun _ q => q⟩
  · rw [upd_ne (fun z => na (by rw [← z]; exact q))]; exact s.mem.stG b q
  · by_cases z : b = a
    · subst z; exact .inr he
    · rw [upd_ne z] at q; exact s.nx.new b u q
  · rcases spl j _ q1 with ⟨z, y⟩ | ⟨z, y⟩
    · cases y
    · exact s.frs j d' b y q2
theorem ds_retO (i : Nat) {x : Str} {p2 : Pos} (hN : X.N[i]? = some x := by rfl) (hv : Vis X.env.scope x := by first | exact Or.inl rfl | exact Or.inr (Or.inl rfl) | exact Or.inr (Or.inr rfl)) (hd : (x == ("__debug__" : Str)) = false := by decide)
    (hcd : (x == ("__classdict__" : Str)) = false := by decide) : DS X cls W (.Return (some (.Name x p2)) pos) (sRetO i) := PS.weak (ps_ret (pv i hN hv hd hcd)) fun D σ H ⟨en, Γ, S, ρ, G, s, p⟩ => by
  unfold sRetO at p
  split at p
  · rename_i d hd
    obtain ⟨a, e, r, _, _⟩ := s.mem.own i d hd
    obtain ⟨G', s', _⟩ := s.settle hd
    have hl : i < Γ.length := (List.getElem?_eq_some_iff.mp hd).1
    obtain ⟨v, e1, r1⟩ := s'.mem.val i d (List.getElem?_set_self hl)
    rw [e] at e1; cases e1
    exact ⟨_, e, p _ ρ G' H s'.mem.toS s'.nx r1⟩
  · exact p.elim
/-- settling, as nothing of the program does it: ahead of a statement -/
def sSettle (i : Nat) : Ds := fun Γ S => match Γ[i]? with | some (.own d) => .next (Γ.set i (.val d)) S | _ => .stuck
theorem dss_settle (i : Nat) (h : DSs X cls W sts δ) : DSs X cls W sts (sSeq (sSettle i) δ) := PSs.weak h fun D σ H ⟨en, Γ, S, ρ, G, s, p⟩ => by
  unfold sSeq sSettle at p
  cases q : Γ[i]? with
  | none => rw [q] at p; exact p.elim
  | some z =>
    rw [q] at p
    cases z with
    | own d =>
      obtain ⟨G', s', _⟩ := s.settle q
      exact ⟨en, _, S, ρ, G', s', p⟩
    | val d => exact p.elim
    | non => exact p.elim
    | xcp x => exact p.elim
/-- forgetting slots -/
def clr : List Nat → List Sl → List Sl
  | [], Γ => Γ
  | i :: r, Γ => clr r (Γ.set i .non)
theorem SI.clr {C : Cn} {en : Ent} {S : List D} {ρ : List Addr} {G H : Hp} {σ : L2.St} : ∀ {kl : List Nat} {Γ : List Sl}, SI C en Γ S ρ G H σ → SI C en (DL.clr kl Γ) S ρ G H σ
  | [], _, s => s
  | i :: r, _, s => SI.clr (kl := r) (s.forget i)
theorem ds_set {i : Nat} {x : Str} {pos' : Pos} (hN : X.N.Nodup) (hi : X.N[i]? = some x) (hx : Loc X.env.scope x) (h : DE X cls W e ε) (hs : swapsWith e (some (.Name x pos')) pos.line X.env = pure false := by rfl)
    (hf : X.fn x = true ∨ X.env.scope.names.lookup x = some .local := by first | exact .inl rfl | exact .inr rfl | assumption) : DS X cls W (.Assign [.Name x pos'] e pos) (sSet i ε) := PS.weak (ps_set hN hi hx h hs hf) fun D σ H ⟨en, Γ, S, ρ, G, s, p⟩ =>
  ⟨Γ, S, ρ, G, s.mem, post_after s p fun d S1 ρ1 G1 H1 v m n s1 r p1 => p1 _ _ _ _ (s1.setv i r)⟩
theorem ds_own {i : Nat} {x : Str} {pos' : Pos} (hN : X.N.Nodup) (hi : X.N[i]? = some x) (hx : Loc X.env.scope x) (h : DF X cls W e ε) (hs : swapsWith e (some (.Name x pos')) pos.line X.env = pure false := by rfl)
    (hf : X.fn x = true ∨ X.env.scope.names.lookup x = some .local := by first | exact .inl rfl | exact .inr rfl | assumption) : DS X cls W (.Assign [.Name x pos'] e pos) (sOwn i ε) := PS.weak (ps_set hN hi hx h hs hf) fun D σ H ⟨en, Γ, S, ρ, G, s, p⟩ =>
  ⟨Γ, S, ρ, G, s.mem, post_after s p fun d S1 ρ1 G1 H1 v m n s1 r p1 => by
    obtain ⟨a, rfl, na, h0, hg, r⟩ := r
    exact p1 _ _ _ _ (s.seto i n m na h0 hg r)⟩
theorem ds_if {a b : List Stmt} (hc : DT X cls W c τ) (ha : DSs X cls W a δ1) (hb : DSs X cls W b δ2) : DS X cls W (.If c a b pos) (sIf τ δ1 δ2) := PS.weak (ps_if hc ha hb) fun D σ H ⟨en, Γ, S, ρ, G, s, p⟩ =>
  ⟨Γ, S, ρ, G, s.mem, post_after s p fun d S1 ρ1 G1 H1 v m n s1 r p1 => by
    have e1 : d = v := r
    subst e1
    cases d with
    | true => exact iteT ⟨en, Γ, S1, ρ1, G1, s1, p1⟩
    | false => exact iteF ⟨en, Γ, S1, ρ1, G1, s1, p1⟩⟩
end

/-! ### a def -/
def bodyRun (n : Nat) (δ : Ds) : List D → List D → Res D := fun ds S => match δ (ds.map Sl.val ++ List.replicate (n - ds.length) Sl.non) S with
  | .next _ S' => .ok .non S'
  | .ret d S' => .ok d S'
  | .exc e _ S' => .exc e S'
  | _ => .stuck
def spD (C : Cn) (np : Nat) (F : List D → List D → Res D) : Sp := fun vs H Q E => ∃ S ρ G ds, MemS C S ρ G H ∧ Reps C ρ G ds vs ∧ vs.length = np ∧ match F ds S with
  | .ok d S' => ∀ v ρ' G' H', MemS C S' ρ' G' H' → Nx ρ G H ρ' G' H' → Rep C ρ' G' d v → Q v H'
  | .exc e S' => ∀ cls dx ρ' G' H', MemS C S' ρ' G' H' → Nx ρ G H ρ' G' H' → ExRep C ρ' G' H' e cls dx → E cls dx H'
  | .stuck => False
section
variable {P : Program} {w : World} {K : PySem.W.Frag} {mg : Str → Option Value} {base : Heap} {cls : Nat → Addr}
theorem start_mem {C : Cn} {S : List D} {ρ : List Addr} {G H : Hp} {ds : List D} {vs : List V} {N : List Str} (m : MemS C S ρ G H) (r : Reps C ρ G ds vs) : Mem C (ds.map Sl.val ++ List.replicate (N.length - ds.length) Sl.non) S ρ G H (L2.start N vs) := by
  have no : ∀ (i : Nat) (d : D), (ds.map Sl.val ++ List.replicate (N.length - ds.length) Sl.non)[i]? ≠ some (Sl.own d) := fun i d h => by
    have hm := List.mem_of_getElem? h
    rcases List.mem_append.mp hm with z | z
    · obtain ⟨_, _, e⟩ := List.mem_map.mp z; cases e
    · cases (List.eq_of_mem_replicate z)
  refine ⟨m.sub, fun i d h => ?_, fun i d h => absurd h (no i d), fun i j d d' a h => absurd h (no i d), m.sto, m.stG, m.len, m.nd, ?_, fun i x h => ?_⟩
  · by_cases hi : i < ds.length
    · rw [List.getElem?_append_left (by simpa using hi), List.getElem?_map] at h
      cases e : ds[i]? with
      | none => rw [e] at h; cases h
      | some d0 =>
        rw [e] at h; cases h
        obtain ⟨v, hv, rv⟩ := r.get e
        refine ⟨v, ?_, rv⟩
        unfold L2.start
        rw [List.getElem?_append_left (by simpa [← r.length] using hi), List.getElem?_map, hv]
        rfl
    · rw [List.getElem?_append_right (by simpa using hi), List.getElem?_replicate] at h
      split at h <;> cases h
  · unfold L2.start
    rw [List.length_append, List.length_append, List.length_map, List.length_map, List.length_replicate, List.length_replicate, r.length]
  · exfalso
    have hm := List.mem_of_getElem? h
    rcases List.mem_append.mp hm with z | z
    · obtain ⟨_, _, e⟩ := List.mem_map.mp z; cases e
    · cases (List.eq_of_mem_replicate z)
theorem def_ok {x qual : Str} {st : Stmt} {f : Addr} {fd : FuncData} {N ps : List Str} {k : Nat} {δ : Ds} (F : Fun K x qual st f fd) (Sc : FnScope N ps (defScope st))
    (hbody : ∀ (cdv : Value) (A : Around) (outer : List Env) (s : Shared) (H : Hp) (E : XK), Room k (A.deeper (envOfC qual (defScope st) s.heap.objs.size f cdv)) →
      DSs (cxOf (L2.CX P w) P w K mg base N qual (defScope st) f cdv A outer s H E) cls (fun c d _ H => E c d H) (defBody st) δ) : FnOk P w K mg base (L2.CX P w) (k + 1) f fd ps (spD ⟨K, cls⟩ ps.length (bodyRun N.length δ)) := by
  refine F.okX Sc (fun vs H Q E h => ?_) (fun cdv A outer s H vs Q E hr h => ⟨_, hbody cdv A outer s H E hr, ?_⟩)
  · obtain ⟨_, _, _, _, _, _, h, _⟩ := h; exact h
  · obtain ⟨S, ρ, G, ds, m, r, hl, h⟩ := h
    refine ⟨⟨ρ, G, H, G, ρ⟩, _, S, ρ, G, ⟨start_mem m r, .refl, fun i d a h1 h2 => ?_, .refl, List.prefix_refl _⟩, ?_⟩
    · exfalso
      have hm := List.mem_of_getElem? h1
      rcases List.mem_append.mp hm with z | z
      · obtain ⟨_, _, e⟩ := List.mem_map.mp z; cases e
      · cases (List.eq_of_mem_replicate z)
    · unfold bodyRun at h
      cases q : δ (ds.map Sl.val ++ List.replicate (N.length - ds.length) Sl.non) S with
      | next Γ S' => rw [q] at h; exact fun ρ' G' H' σ' s' => h .non ρ' G' H' s'.mem.toS s'.nx (rep_non.mpr rfl)
      | ret d S' => rw [q] at h; exact fun v ρ' G' H' m' n' r' => h v ρ' G' H' m' n' r'
      | exc e Γ S' => rw [q] at h; exact fun c dx ρ' G' H' σ' s' er => h c dx ρ' G' H' s'.mem.toS s'.nx er
      | brk _ _ => rw [q] at h; exact h.elim
      | cont _ _ => rw [q] at h; exact h.elim
      | stuck => rw [q] at h; exact h.elim
end
/-! ### a call -/
section
variable {X : Cx} {cls : Nat → Addr} {W : WX} {k : Nat} {f : Addr} {fd : FuncData} {ps : List Str} {x : Str} {p pos : Pos} {e : Expr} {es : List Expr} {α : Da} {F : List D → List D → Res D}
theorem de_call (Fn : FnOk X.prog X.w X.K X.mg X.base (L2.CX X.prog X.w) k f fd ps (spD ⟨X.K, cls⟩ ps.length F)) (tk : Takes X W) (hr : Room k X.A) (hg : Gl X x) (hm : X.mg x = some (.ref f)) (hk : PySem.W.keepIn X.K (.ref f) = true) (hb : Binds X.K fd ps [])
    (ha : DA X cls W (e :: es) α) (hal : ALen α ps.length) (hdb : (x == ("__debug__" : Str)) = false := by decide) (he : starEach (e :: es) X.env = (false, eval e X.env) :: starEach es X.env := by rfl) (hpl : (backTo pos (starEach es X.env)).any (·.1) = false := by rfl) :
    DE X cls W (.Call (.Name x p) (e :: es) [] pos) (eCall F α) := PE.weak (pe_callS Fn hr hg hm hk hb (fun σ => passAt tk σ) ha hdb he hpl) fun σ H Q ⟨Γ, S, ρ, G, m, p⟩ => ⟨Γ, S, ρ, G, m, by
  unfold eCall at p
  cases q : α Γ S with
  | ok ds S1 =>
    rw [q] at p
    intro vs ρ1 G1 H1 m1 n1 r1
    refine ⟨S1, ρ1, G1, ds, m1.toS, r1, by rw [← r1.length]; exact hal.le _ _ _ _ q, ?_⟩
    simp only [Res.bind_ok] at p
    cases z : F ds S1 with
    | ok d S2 => rw [z] at p; exact fun v ρ2 G2 H2 m2 n2 r2 => p v ρ2 G2 H2 (m1.step n2 m2) (n1.trans n2) r2
    | exc x S2 => rw [z] at p; exact fun c dx ρ2 G2 H2 m2 n2 r2 => p c dx ρ2 G2 H2 (m1.step n2 m2) (n1.trans n2) r2
    | stuck => rw [z] at p; exact p
  | exc x S1 => rw [q] at p; exact p
  | stuck => rw [q] at p; exact p⟩
end
end DL

namespace DL
open PySem PySem.Spec PyProof.Rows L2

section
variable {C : Cn} {W : WX} {en : Ent} {Γ Γ' : List Sl} {S S' : List D} {ρ ρ' : List Addr} {G G' H H' : Hp} {σ σ' : L2.St} {a : Addr} {d d' : D} {k : Nat} {o : HO}
theorem ObAt.at {b : Addr} (h : ObAt C ρ G H b d) (ne : b ≠ a) : ObAt C ρ G (upd H a o) b d := h.mono .refl (List.prefix_refl _) fun u q => by rw [upd_ne ne]; exact q
/-- an object that no slot, no store and no settled data has -/
theorem Mem.aside (m : Mem C Γ S ρ G H σ) (hg : G a = none) (hp : a ∉ ρ) (ho : ∀ (i : Nat) (d : D) (b : Addr), Γ[i]? = some (Sl.own d) → σ[i]? = some (some (V.ref b)) → b ≠ a) : Mem C Γ S ρ G (upd H a o) σ where
  sub := fun b u h => by rw [upd_ne (ne_of_none h hg)]; exact m.sub _ _ h
  val := m.val
  own := fun i d h => by
    obtain ⟨b, e, r, g, n⟩ := m.own i d h
    exact ⟨b, e, r.at (ho i d b h e), g, n⟩
  inj := m.inj
  sto := fun i d h => by
    obtain ⟨b, e, r⟩ := m.sto i d h
    exact ⟨b, e, r.at fun z => hp (z ▸ List.mem_of_getElem? e)⟩
  stG := m.stG
  len := m.len
  nd := m.nd
  wid := m.wid
  xcp := m.xcp
theorem Nx.aside (n : Nx ρ G H ρ' G' H') (h : H a = none) : Nx ρ G H ρ' G' (upd H' a o) := ⟨n.pre, n.ext, n.new, fun b u q nb => by rw [upd_ne (ne_of_none q h)]; exact n.keep b u q nb, fun b q => by
  by_cases e : b = a
  · subst e; exact h
  · rw [upd_ne e] at q; exact n.live b q, n.fre⟩
/-- the store's object is written -/
theorem Mem.poke (m : Mem C Γ S ρ G H σ) {d0 : D} (hk : S[k]? = some d0) (ha : ρ[k]? = some a) (r : ObAt C ρ G (upd H a o) a d') : Mem C Γ (S.set k d') ρ G (upd H a o) σ ∧ Nx ρ G H ρ G (upd H a o) := by
  have am : a ∈ ρ := List.mem_of_getElem? ha
  have hg : G a = none := m.stG a am
  refine ⟨⟨fun b u h => by rw [upd_ne (ne_of_none h hg)]; exact m.sub _ _ h, m.val, fun i d h => ?_, m.inj, fun i d h => ?_, m.stG, by rw [List.length_set]; exact m.len, m.nd, m.wid, m.xcp⟩,
    ⟨List.prefix_refl _, .refl, fun _ _ h => .inl h, fun b u q nb => by rw [upd_ne (fun z => nb (by rw [z]; exact am))]; exact q, fun b q => ?_, fun _ h => .inl h⟩⟩
  · obtain ⟨b, e, q, g, n⟩ := m.own i d h
    exact ⟨b, e, q.at fun z => n (z ▸ am), g, n⟩
  · by_cases e : k = i
    · subst e
      have hl : k < S.length := (List.getElem?_eq_some_iff.mp hk).1
      rw [List.getElem?_set_self hl] at h; cases h
      exact ⟨a, ha, r⟩
    · rw [List.getElem?_set_ne e] at h
      obtain ⟨b, e2, q⟩ := m.sto i d h
      refine ⟨b, e2, q.at fun z => e ?_⟩
      subst z
      obtain ⟨h1, e3⟩ := List.getElem?_eq_some_iff.mp ha
      obtain ⟨h2, e4⟩ := List.getElem?_eq_some_iff.mp e2
      exact (List.getElem_inj m.nd).mp (e3.trans e4.symm)
  · by_cases e : b = a
    · subst e; rw [upd_same] at q; cases q
    · rw [upd_ne e] at q; exact q
/-- a slot's own object is written -/
theorem SI.poke (s : SI C en Γ S ρ G H σ) {i : Nat} {d0 : D} (hi : Γ[i]? = some (Sl.own d0)) (ha : σ[i]? = some (some (V.ref a))) (r : ObAt C ρ G (upd H a o) a d') : SI C en (Γ.set i (.own d')) S ρ G (upd H a o) σ := by
  obtain ⟨b, e, q, hg, hp⟩ := s.mem.own i d0 hi
  rw [ha] at e; cases e
  have hl : i < Γ.length := (List.getElem?_eq_some_iff.mp hi).1
  have he : en.H a = none := s.frs i d0 a hi ha
  have spl : ∀ (j : Nat) (x : Sl), (Γ.set i (Sl.own d'))[j]? = some x → (i = j ∧ x = .own d') ∨ (i ≠ j ∧ Γ[j]? = some x) := fun j x q => by
    by_cases z : i = j
    · subst z; rw [List.getElem?_set_self hl] at q; cases q; exact .inl ⟨rfl, rfl⟩
    · rw [List.getElem?_set_ne z] at q; exact .inr ⟨z, q⟩
  have back : ∀ (j : Nat) (d1 : D), (Γ.set i (Sl.own d'))[j]? = some (Sl.own d1) → ∃ d2, Γ[j]? = some (Sl.own d2) := fun j d1 h => by
    rcases spl j _ h with ⟨z, _⟩ | ⟨_, y⟩
    · subst z; exact ⟨_, hi⟩
    · exact ⟨_, y⟩
  refine ⟨⟨fun b u h => by rw [upd_ne (ne_of_none h hg)]; exact s.mem.sub _ _ h, fun j d1 h => ?_, fun j d1 h => ?_, fun j l d1 d2 b h1 h2 e1 e2 => ?_, fun j d1 h => ?_, s.mem.stG, s.mem.len, s.mem.nd, by rw [List.length_set]; exact s.mem.wid, fun j x h => by
    rcases spl j _ h with ⟨_, y⟩ | ⟨_, y⟩
    · cases y
    · exact s.mem.xcp j x y⟩, s.nx.aside he, fun j d1 b h1 h2 => ?_, s.base, s.basr⟩
  · rcases spl j _ h with ⟨_, y⟩ | ⟨_, y⟩
    · cases y
    · exact s.mem.val j d1 y
  · rcases spl j _ h with ⟨z, y⟩ | ⟨z, y⟩
    · subst z; cases y; exact ⟨a, ha, r, hg, hp⟩
    · obtain ⟨b, e1, q1, g1, n1⟩ := s.mem.own j d1 y
      exact ⟨b, e1, q1.at fun w => z (s.mem.inj i j d0 d1 b hi y (w ▸ ha) e1), g1, n1⟩
  · obtain ⟨_, y1⟩ := back j d1 h1
    obtain ⟨_, y2⟩ := back l d2 h2
    exact s.mem.inj j l _ _ b y1 y2 e1 e2
  · obtain ⟨b, e1, q1⟩ := s.mem.sto j d1 h
    exact ⟨b, e1, q1.at fun z => hp (z ▸ List.mem_of_getElem? e1)⟩
  · obtain ⟨_, y1⟩ := back j d1 h1
    exact s.frs j _ b y1 h2
end

section
variable {X : Cx} {cls : Nat → Addr} {W : WX} {st : Stmt} {sts : List Stmt} {e c a b : Expr} {pos : Pos} {δ δ1 δ2 : Ds} {ε ε1 ε2 δa : De} {τ : Dt}
/-- a new list that goes into the store -/
theorem de_box (h : DF X cls W e ε) : DE X cls W e (eBox ε) := PE.weak h fun σ H Q ⟨Γ, S, ρ, G, m, p⟩ => ⟨Γ, S, ρ, G, m, by
  unfold eBox at p
  cases q : ε Γ S with
  | ok d S1 =>
    rw [q] at p
    intro v ρ1 G1 H1 m1 n1 r1
    obtain ⟨a, rfl, na, h0, hg, r⟩ := r1
    have k : ρ1 <+: ρ1 ++ [a] := List.prefix_append _ _
    refine p _ (ρ1 ++ [a]) G1 H1 ⟨m1.sub, fun i d h => ?_, fun i d h => ?_, m1.inj, fun i d h => ?_, fun b hb => ?_, by rw [List.length_append, List.length_append, m1.len] <;> rfl, ?_, m1.wid, fun i x h => ⟨(m1.xcp i x h).1, (m1.xcp i x h).2.mono .refl k⟩⟩ ⟨n1.pre.trans k, n1.ext, n1.new, n1.keep, n1.live, fun b hb => ?_⟩ (rep_ptr.mpr ⟨a, ?_, rfl⟩)
    · obtain ⟨v, e, r⟩ := m1.val i d h
      exact ⟨v, e, r.mono .refl k⟩
    · obtain ⟨b, e, r, g, n⟩ := m1.own i d h
      obtain ⟨b0, e0, r0, _, _⟩ := m.own i d h
      rw [e] at e0; cases e0
      obtain ⟨u, hu⟩ := r0.some
      refine ⟨b, e, r.mono .refl k fun _ h => h, g, fun z => ?_⟩
      rcases List.mem_append.mp z with z | z
      · exact n z
      · rw [List.mem_singleton] at z
        rw [z, h0] at hu; cases hu
    · by_cases hi : i < S1.length
      · rw [List.getElem?_append_left hi] at h
        obtain ⟨b, e, r⟩ := m1.sto i d h
        exact ⟨b, by rw [List.getElem?_append_left (by rw [m1.len]; exact hi)]; exact e, r.mono .refl k fun _ h => h⟩
      · rw [List.getElem?_append_right (by omega)] at h
        have e0 : i - S1.length = 0 := by
          have := (List.getElem?_eq_some_iff.mp h).1
          simp only [List.length_singleton] at this; omega
        rw [e0] at h
        cases h
        have e1 : i = ρ1.length := by rw [m1.len]; omega
        subst e1
        exact ⟨a, by rw [List.getElem?_append_right (Nat.le_refl _), Nat.sub_self] <;> rfl, r.mono .refl k fun _ h => h⟩
    · rcases List.mem_append.mp hb with z | z
      · exact m1.stG b z
      · rw [List.mem_singleton] at z; subst z; exact hg
    · rw [List.nodup_append]
      refine ⟨m1.nd, by simp, fun x hx y hy => ?_⟩
      rw [List.mem_singleton] at hy; subst hy
      exact fun z => na (z ▸ hx)
    · rcases List.mem_append.mp hb with z | z
      · exact n1.fre b z
      · rw [List.mem_singleton] at z; subst z; exact .inr h0
    · rw [← m1.len, List.getElem?_append_right (Nat.le_refl _), Nat.sub_self] <;> rfl
  | exc x S1 => rw [q] at p; exact p
  | stuck => rw [q] at p; exact p⟩
/-! ### lists that change -/
theorem own_at {C : Cn} {en : Ent} {Γ : List Sl} {S : List D} {ρ : List Addr} {G H : Hp} {σ : L2.St} (s : SI C en Γ S ρ G H σ) {i : Nat} {xs : List D} (h : Γ[i]? = some (.own (.lst xs))) : ∃ a vs, σ[i]? = some (some (V.ref a)) ∧ H a = some (.lst vs) ∧ Reps C ρ G xs vs ∧ G a = none ∧ a ∉ ρ := by
  obtain ⟨a, e, ⟨vs, h1, r⟩, g, n⟩ := s.mem.own i _ h
  exact ⟨a, vs, e, h1, r, g, n⟩
/-- found.append(e) -/
def sAppO (i : Nat) (e : De) : Ds := fun Γ S => match Γ[i]? with
  | some (.own (.lst xs)) => after (e Γ S) Γ fun d S1 => if xs.length < sizeLine then .next (Γ.set i (.own (.lst (xs ++ [d])))) S1 else .stuck
  | _ => .stuck
theorem ds_appO (i : Nat) (h : PE X c (tBM X.K "list" rAppend (tVar i) (tCons (tE ⟨X.K, cls⟩ W (RS ⟨X.K, cls⟩) ε) tNil))) (hs : swapsWith c none pos.line X.env = pure false := by rfl) : DS X cls W (.Expr c pos) (sAppO i ε) :=
  PS.weak (ps_expr h hs) fun D σ H ⟨en, Γ, S, ρ, G, s, p⟩ => by
    unfold sAppO at p
    split at p
    · rename_i xs hx
      obtain ⟨a, vs, e, h1, r, g, n⟩ := own_at s hx
      refine ⟨_, e, .inl ⟨rfl, vs, SqL.of h1⟩, Γ, S, ρ, G, s.mem, post_after s p fun d S1 ρ1 G1 H1 v m1 n1 s1 r1 p1 => ?_⟩
      obtain ⟨a', vs', e', h1', r', g', n'⟩ := own_at s1 hx
      rw [e] at e'; cases e'
      split at p1
      · rename_i hl
        refine ⟨a, vs', v, rfl, rfl, h1', by rw [← r'.length]; exact hl, ?_⟩
        exact p1 _ _ _ _ (s1.poke hx e ⟨_, upd_same, r'.append (.cons r1 .nil)⟩)
      · exact p1.elim
    · exact p.elim
/-- found[k] = e -/
def sSetO (i : Nat) (k e : De) : Ds := fun Γ S => after (e Γ S) Γ fun d S1 => match Γ[i]? with
  | some (.own (.lst xs)) => after (k Γ S1) Γ fun x S2 => match (asI x).bind (ixN xs.length) with
    | some j => .next (Γ.set i (.own (.lst (xs.set j d)))) S2
    | none => .stuck
  | _ => .stuck
theorem Reps.setv {C : Cn} {ρ : List Addr} {G : Hp} {d : D} {v : V} {xs : List D} {vs : List V} (r : Reps C ρ G xs vs) (k : Rep C ρ G d v) (j : Nat) : Reps C ρ G (xs.set j d) (vs.set j v) := Reps.set k j r
theorem ds_setO (i : Nat) {tg : Expr} (hg : PG X tg (gSub (tVar i) (tE ⟨X.K, cls⟩ W (RS ⟨X.K, cls⟩) ε1) rSetL)) (he : DE X cls W e ε2) (hs : swapsWithSole [tg] e pos.line X.env = pure false := by rfl) (hw : swappedStores [tg] e X.env = pure none := by rfl) (h1 : (assignEach [tg] X.env).map (·.2) = [assign tg X.env] := by rfl) :
    DS X cls W (.Assign [tg] e pos) (sSetO i ε1 ε2) := PS.weak (ps_asg he hg hs hw h1) fun D σ H ⟨en, Γ, S, ρ, G, s, p⟩ => ⟨Γ, S, ρ, G, s.mem, post_after s p fun d S1 ρ1 G1 H1 v m1 n1 s1 r1 p1 => by
  split at p1
  · rename_i xs hx
    obtain ⟨a, vs, e, h1, r, g, n⟩ := own_at s1 hx
    refine ⟨_, e, Γ, S1, ρ1, G1, s1.mem, post_after s1 p1 fun d2 S2 ρ2 G2 H2 v2 m2 n2 s2 r2 p2 => ?_⟩
    obtain ⟨a', vs', e', h1', r', g', n'⟩ := own_at s2 hx
    rw [e] at e'; cases e'
    cases d2 with
    | int k =>
      have ek := rep_int.mp r2
      subst ek
      split at p2
      · rename_i j hj
        exact ⟨a, vs', k, j, rfl, rfl, h1', by rw [← r'.length]; exact hj, p2 _ _ _ _ (s2.poke hx e ⟨_, upd_same, r'.setv (r1.mono n2.ext n2.pre) j⟩)⟩
      · exact p2.elim
    | _ => exact p2.elim
  · exact p1.elim⟩
/-! .. in the store -/
def sSetP (o k e : De) : Ds := fun Γ S => after (e Γ S) Γ fun d S1 => after (o Γ S1) Γ fun x S2 => after (k Γ S2) Γ fun y S3 => match x with
  | .ptr q => match S3[q]? with
    | some (.lst xs) => match (asI y).bind (ixN xs.length) with
      | some j => .next Γ (S3.set q (.lst (xs.set j d)))
      | none => .stuck
    | _ => .stuck
  | _ => .stuck
theorem sto_at {C : Cn} {Γ : List Sl} {S : List D} {ρ : List Addr} {G H : Hp} {σ : L2.St} (m : Mem C Γ S ρ G H σ) {q : Nat} {v : V} {xs : List D} (r : Rep C ρ G (.ptr q) v) (h : S[q]? = some (.lst xs)) : ∃ a vs, v = V.ref a ∧ ρ[q]? = some a ∧ H a = some (.lst vs) ∧ Reps C ρ G xs vs := by
  obtain ⟨a, ha, rfl⟩ := rep_ptr.mp r
  obtain ⟨b, hb, vs, h1, h2⟩ := m.sto q _ h
  rw [ha] at hb; cases hb
  exact ⟨a, vs, rfl, ha, h1, h2⟩
theorem ds_setP {tg : Expr} (hg : PG X tg (gSub (tE ⟨X.K, cls⟩ W (RS ⟨X.K, cls⟩) δa) (tE ⟨X.K, cls⟩ W (RS ⟨X.K, cls⟩) ε1) rSetL)) (he : DE X cls W e ε2) (hs : swapsWithSole [tg] e pos.line X.env = pure false := by rfl) (hw : swappedStores [tg] e X.env = pure none := by rfl) (h1 : (assignEach [tg] X.env).map (·.2) = [assign tg X.env] := by rfl) :
    DS X cls W (.Assign [tg] e pos) (sSetP δa ε1 ε2) := PS.weak (ps_asg he hg hs hw h1) fun D σ H ⟨en, Γ, S, ρ, G, s, p⟩ =>
  ⟨Γ, S, ρ, G, s.mem, post_after s p fun d S1 ρ1 G1 H1 v m1 n1 s1 r1 p1 => ⟨Γ, S1, ρ1, G1, s1.mem, post_after s1 p1 fun dx S2 ρ2 G2 H2 x m2 n2 s2 r2 p2 => ⟨Γ, S2, ρ2, G2, s2.mem, post_after s2 p2 fun dy S3 ρ3 G3 H3 y m3 n3 s3 r3 p3 => by
    cases dx with
    | ptr q =>
      simp only at p3
      split at p3
      · rename_i xs hx
        obtain ⟨a, vs, rfl, ha, h1, rr⟩ := sto_at m3 (Rep.mono n3.ext n3.pre _ _ r2) hx
        cases dy with
        | int k =>
          have ek := rep_int.mp r3
          subst ek
          split at p3
          · rename_i j hj
            obtain ⟨m4, n4⟩ := m3.poke (a := a) (o := .lst (vs.set j v)) (d' := .lst (xs.set j d)) hx ha ⟨_, upd_same, rr.setv ((r1.mono n2.ext n2.pre).mono n3.ext n3.pre) j⟩
            exact ⟨a, vs, k, j, rfl, rfl, h1, by rw [← rr.length]; exact hj, p3 _ _ _ _ (s3.step m4 n4)⟩
          · exact p3.elim
        | _ => exact p3.elim
      · exact p3.elim
    | _ => exact p3.elim⟩⟩⟩
/-! ### x += e -/
def sAug (i : Nat) (f : D → D → Option D) (e : De) : Ds := fun Γ S => match Γ[i]? with
  | some (.val dx) => after (e Γ S) Γ fun dy S1 => match f (deref S1 dx) (deref S1 dy) with
    | some d => .next (Γ.set i (.val d)) S1
    | none => .stuck
  | _ => .stuck
theorem ds_aug {i : Nat} {x : Str} {op : Operator} {R : R2} {f : D → D → Option D} {pos' : Pos} (hN : X.N.Nodup) (hi : X.N[i]? = some x) (hx : Loc X.env.scope x) (he : DE X cls W e ε) (ho : OpR X (inplaceOp op) R) (hf : R2Ok ⟨X.K, cls⟩ (RS ⟨X.K, cls⟩) R f)
    (hfn : X.fn x = true ∨ X.env.scope.names.lookup x = some .local := by first | exact .inl rfl | exact .inr rfl | assumption) : DS X cls W (.AugAssign (.Name x pos') op e pos) (sAug i f ε) :=
  PS.weak (ps_aug (ti := R) hN hi hx he (fun pins s σ H x y v u Q I rx ry h => ho pins s σ H x y v u Q I rx ry h) hfn) fun D σ H ⟨en, Γ, S, ρ, G, s, p⟩ => by
    unfold sAug at p
    split at p
    · rename_i dx hx
      obtain ⟨v, e, r⟩ := s.mem.val i dx hx
      refine ⟨v, e, Γ, S, ρ, G, s.mem, post_after s p fun dy S1 ρ1 G1 H1 y m1 n1 s1 r1 p1 => ?_⟩
      split at p1
      · rename_i d hd
        exact hf S1 ρ1 G1 H1 v y d _ _ _ m1.toS (m1.read (H0 := H1) (.inl (r.mono n1.ext n1.pre))) (m1.read (H0 := H1) (.inl r1)) hd fun z ρ2 G2 H2 m2 n2 r2 => p1 _ _ _ _ ((s1.step (m1.step n2 m2) n2).setv i r2)
      · exact p1.elim
    · exact p.elim
def dAddI : D → D → Option D
  | .int i, .int j => some (.int (i + j))
  | .str a, .str b => if a.length + b.length ≤ sizeLine then some (.str (a ++ b)) else none
  | _, _ => none
theorem iop_addA : OpR X (inplaceOp .Add) (fun x y H Q => rI0 (fun i j => .int (i + j)) x y H Q ∨ ∃ i j, x = .str i ∧ y = .str j ∧ i.length + j.length ≤ sizeLine ∧ Q (.str (i ++ j)) H) := iop_add.or iop_add_str
theorem ok_addI {C : Cn} : R2Ok C (RS C) (fun x y H Q => rI0 (fun i j => .int (i + j)) x y H Q ∨ ∃ i j, x = .str i ∧ y = .str j ∧ i.length + j.length ≤ sizeLine ∧ Q (.str (i ++ j)) H) dAddI := ok_I0.or (g := dAddI) ok_S fun a b d h => by
  cases a <;> cases b <;> first | exact .inl h | exact .inr h | cases h
theorem ok_subI {C : Cn} : R2Ok C (RS C) (rI0 fun i j => .int (i - j)) fSub := ok_I0

/-! ### targets of loops -/
inductive Pat where
  | nm (i : Nat) | tp (ps : List Pat)
mutual
def Pat.bind : Pat → D → List Sl → Option (List Sl)
  | .nm i, d, Γ => some (Γ.set i (.val d))
  | .tp ps, .tup ds, Γ => Pat.binds ps ds Γ
  | .tp _, _, _ => none
def Pat.binds : List Pat → List D → List Sl → Option (List Sl)
  | [], [], Γ => some Γ
  | p :: ps, d :: ds, Γ => match p.bind d Γ with
    | some Γ' => Pat.binds ps ds Γ'
    | none => none
  | [], _ :: _, _ => none
  | _ :: _, [], _ => none
end
mutual
def Pat.g (K : PySem.W.Frag) : Pat → TG
  | .nm i => gName i
  | .tp ps => gTup K ps.length (Pat.gs K ps)
def Pat.gs (K : PySem.W.Frag) : List Pat → TGs
  | [] => gNil
  | p :: ps => gCons (p.g K) (Pat.gs K ps)
end
mutual
def Pat.vars : Pat → List Nat
  | .nm i => [i]
  | .tp ps => Pat.varss ps
def Pat.varss : List Pat → List Nat
  | [] => []
  | p :: ps => p.vars ++ Pat.varss ps
end
/-- what a binding keeps -/
def Kept (vs : List Nat) (σ σ' : L2.St) : Prop := σ'.length = σ.length ∧ ∀ j, j ∉ vs → σ'[j]? = σ[j]?
def BindOk (C : Cn) (g : (L2.St → Hp → Prop) → Prop) (Γ Γ' : List Sl) (S : List D) (ρ : List Addr) (G H : Hp) (σ : L2.St) (vs : List Nat) : Prop :=
  ∀ Q : L2.St → Hp → Prop, (∀ σ', Mem C Γ' S ρ G H σ' → (∀ en, SI C en Γ S ρ G H σ → SI C en Γ' S ρ G H σ') → Kept vs σ σ' → Q σ' H) → g Q
mutual
theorem Pat.ok {C : Cn} {S : List D} {ρ : List Addr} {G H : Hp} : ∀ (p : Pat) (d : D) (v : V) (Γ Γ' : List Sl) (σ : L2.St), Mem C Γ S ρ G H σ → Rep C ρ G d v → p.bind d Γ = some Γ' → BindOk C (p.g C.K v σ H) Γ Γ' S ρ G H σ p.vars
  | .nm i, d, v, Γ, Γ', σ, m, r, e, Q, q => by
    rw [Pat.bind] at e; cases e
    rw [Pat.g]
    exact q _ (m.setv i r) (fun en s => s.setv i r) ⟨by rw [List.length_set], fun j hj => by rw [Pat.vars, List.mem_singleton] at hj; rw [List.getElem?_set_ne (Ne.symm hj)]⟩
  | .tp ps, d, v, Γ, Γ', σ, m, r, e, Q, q => by
    cases d with
    | tup ds =>
      rw [Pat.bind] at e
      rw [Pat.g]
      obtain ⟨a, vs, rfl, h1, h2⟩ := rep_tup.mp r
      have hl : ds.length = ps.length := Pat.binds_len ps ds Γ Γ' e
      refine ⟨a, vs, rfl, m.sub.sqT h1, by rw [← h2.length, hl], ?_⟩
      exact Pat.oks ps ds vs Γ Γ' σ m h2 e Q q
    | _ => rw [Pat.bind] at e <;> first | cases e | simp
theorem Pat.oks {C : Cn} {S : List D} {ρ : List Addr} {G H : Hp} : ∀ (ps : List Pat) (ds : List D) (vs : List V) (Γ Γ' : List Sl) (σ : L2.St), Mem C Γ S ρ G H σ → Reps C ρ G ds vs → Pat.binds ps ds Γ = some Γ' → BindOk C (Pat.gs C.K ps vs σ H) Γ Γ' S ρ G H σ (Pat.varss ps)
  | [], [], vs, Γ, Γ', σ, m, r, e, Q, q => by
    rw [Pat.binds] at e; cases e
    rw [Pat.gs]
    exact ⟨r.inv0, q σ m (fun _ s => s) ⟨rfl, fun _ _ => rfl⟩⟩
  | [], _ :: _, _, _, _, _, _, _, e, _, _ => by rw [Pat.binds] at e; cases e
  | _ :: _, [], _, _, _, _, _, _, e, _, _ => by rw [Pat.binds] at e; cases e
  | p :: ps, d :: ds, vs, Γ, Γ', σ, m, r, e, Q, q => by
    rw [Pat.binds] at e
    cases z : p.bind d Γ with
    | none => rw [z] at e; cases e
    | some Γ1 =>
      rw [z] at e
      obtain ⟨v, vr, rfl, r1, r2⟩ := r.inv
      rw [Pat.gs]
      refine ⟨v, vr, rfl, ?_⟩
      refine Pat.ok p d v Γ Γ1 σ m r1 z _ fun σ1 m1 s1 k1 => ?_
      refine Pat.oks ps ds vr Γ1 Γ' σ1 m1 r2 e Q fun σ2 m2 s2 k2 => q σ2 m2 (fun en s => s2 en (s1 en s)) ⟨k2.1.trans k1.1, fun j hj => ?_⟩
      rw [Pat.varss, List.mem_append] at hj
      rw [k2.2 j fun h => hj (.inr h), k1.2 j fun h => hj (.inl h)]
theorem Pat.binds_len : ∀ (ps : List Pat) (ds : List D) (Γ Γ' : List Sl), Pat.binds ps ds Γ = some Γ' → ds.length = ps.length
  | [], [], _, _, _ => rfl
  | [], _ :: _, _, _, e => by rw [Pat.binds] at e; cases e
  | _ :: _, [], _, _, e => by rw [Pat.binds] at e; cases e
  | p :: ps, d :: ds, Γ, Γ', e => by
    rw [Pat.binds] at e
    cases z : p.bind d Γ with
    | none => rw [z] at e; cases e
    | some Γ1 => rw [z] at e; rw [List.length_cons, List.length_cons, Pat.binds_len ps ds Γ1 Γ' e]
end
/-- a, b = e -/
def sBind (p : Pat) (e : De) : Ds := fun Γ S => after (e Γ S) Γ fun d S1 => match p.bind d Γ with | some Γ' => .next Γ' S1 | none => .stuck
theorem ds_bind {p : Pat} {tg : Expr} (he : DE X cls W e ε) (hg : PG X tg (p.g X.K)) (hs : swapsWithSole [tg] e pos.line X.env = pure false := by rfl) (hw : swappedStores [tg] e X.env = pure none := by rfl) (h1 : (assignEach [tg] X.env).map (·.2) = [assign tg X.env] := by rfl) : DS X cls W (.Assign [tg] e pos) (sBind p ε) :=
  PS.weak (ps_asg he hg hs hw h1) fun D σ H ⟨en, Γ, S, ρ, G, s, q⟩ => ⟨Γ, S, ρ, G, s.mem, post_after s q fun d S1 ρ1 G1 H1 v m1 n1 s1 r1 p1 => by
    split at p1
    · rename_i Γ' hb
      exact Pat.ok (C := ⟨X.K, cls⟩) p d v Γ Γ' σ m1 r1 hb _ fun σ' m' s' _ => p1 _ _ _ _ (s' en s1)
    · exact p1.elim⟩

/-! ### what is walked -/
structure SrcOk (C : Cn) (J : It) (xs : List D) (ρ0 : List Addr) (G0 : Hp) : Prop where
  go : ∀ S ρ G H i, MemS C S ρ G H → Sub G0 G → ρ0 <+: ρ → i < xs.length → J.go i H
  yld : ∀ S ρ G H i x H' d, MemS C S ρ G H → Sub G0 G → ρ0 <+: ρ → xs[i]? = some d → J.yld i H x H' → ∃ G', MemS C S ρ G' H' ∧ Nx ρ G H ρ G' H' ∧ Rep C ρ G' d x
  stop : ∀ S ρ G H, MemS C S ρ G H → Sub G0 G → ρ0 <+: ρ → J.stop xs.length H
def tI (C : Cn) (W : WX) (ι : Da) : TI := fun σ H R => ∃ Γ S ρ G, Mem C Γ S ρ G H σ ∧ match ι Γ S with
  | .ok xs S1 => ∀ J ρ1 G1 H1, Mem C Γ S1 ρ1 G1 H1 σ → Nx ρ G H ρ1 G1 H1 → SrcOk C J xs ρ1 G1 → R J H1
  | .exc e S1 => ∀ cls dx ρ' G' H', Mem C Γ S1 ρ' G' H' σ → Nx ρ G H ρ' G' H' → ExRep C ρ' G' H' e cls dx → W cls dx σ H'
  | .stuck => False
def DI (X : Cx) (cls : Nat → Addr) (W : WX) (tg iter : Expr) (ι : Da) : Prop := PI X tg iter (tI ⟨X.K, cls⟩ W ι)
theorem PI.weak {X : Cx} {tg iter : Expr} {t t' : TI} (h : PI X tg iter t) (i : ∀ σ H R, t' σ H R → t σ H R) : PI X tg iter t' := ⟨fun pins s σ H Q I h' => h.run pins s σ H Q I (i σ H Q h')⟩
def asL : D → Option (List D) | .lst xs => some xs | _ => none
def asT : D → Option (List D) | .tup xs => some xs | _ => none
def iL (a : De) : Da := fun Γ S => (a Γ S).bind fun x S1 => ofO (asL x) S1
def iT (a : De) : Da := fun Γ S => (a Γ S).bind fun x S1 => ofO (asT x) S1
def rangeD (lo : Int) (n : Nat) : List D := (List.range n).map fun (k : Nat) => .int (lo + k)
def inR (i : Int) : Bool := decide (-(2 ^ 62) ≤ i ∧ i < 2 ^ 62)
def iR1 (a : De) : Da := fun Γ S => (a Γ S).bind fun x S1 => match asI x with | some j => if inR j then .ok (rangeD 0 j.toNat) S1 else .stuck | none => .stuck
def iR2 (a b : De) : Da := fun Γ S => (a Γ S).bind fun x S1 => (b Γ S1).bind fun y S2 => match asI x, asI y with | some i, some j => if inR i ∧ inR j then .ok (rangeD i (j - i).toNat) S2 else .stuck | _, _ => .stuck
variable {tg : Expr} {p : Pos}
theorem src_list {C : Cn} {a : Addr} {xs : List D} {vs : List V} {ρ0 : List Addr} {G0 : Hp} (h : G0 a = some (.lst vs)) (q : Reps C ρ0 G0 xs vs) : SrcOk C (Itl C.K a) xs ρ0 G0 where
  go := fun S ρ G H i m s _ hi => ⟨vs, vs[i]'(by rw [← q.length]; exact hi), SqL.of (m.sub _ _ (s _ _ h)), List.getElem?_eq_getElem _⟩
  yld := fun S ρ G H i x H' d m s pr hd y => by
    obtain ⟨rfl, y⟩ := y
    obtain ⟨v, hv, rv⟩ := q.get hd
    have e := y vs (SqL.of (m.sub _ _ (s _ _ h)))
    rw [hv] at e; cases e
    exact ⟨G, m, .refl, rv.mono s pr⟩
  stop := fun S ρ G H m s _ => ⟨vs, SqL.of (m.sub _ _ (s _ _ h)), by rw [q.length]; exact Nat.le_refl _⟩
theorem src_tup {C : Cn} {a : Addr} {xs : List D} {vs : List V} {ρ0 : List Addr} {G0 : Hp} (h : SqT C.K G0 a vs) (q : Reps C ρ0 G0 xs vs) : SrcOk C (Itt C.K a) xs ρ0 G0 where
  go := fun S ρ G H i m s _ hi => ⟨vs, vs[i]'(by rw [← q.length]; exact hi), (s.trans m.sub).sqT h, List.getElem?_eq_getElem _⟩
  yld := fun S ρ G H i x H' d m s pr hd y => by
    obtain ⟨rfl, y⟩ := y
    obtain ⟨v, hv, rv⟩ := q.get hd
    have e := y vs ((s.trans m.sub).sqT h)
    rw [hv] at e; cases e
    exact ⟨G, m, .refl, rv.mono s pr⟩
  stop := fun S ρ G H m s _ => ⟨vs, (s.trans m.sub).sqT h, by rw [q.length]; exact Nat.le_refl _⟩
theorem src_range {C : Cn} {lo : Int} {n : Nat} {ρ0 : List Addr} {G0 : Hp} : SrcOk C (Itr lo n) (rangeD lo n) ρ0 G0 where
  go := fun S ρ G H i m s _ hi => by
    unfold rangeD at hi
    rw [List.length_map, List.length_range] at hi; exact hi
  yld := fun S ρ G H i x H' d m s pr hd y => by
    obtain ⟨rfl, rfl⟩ := y
    unfold rangeD at hd
    rw [List.getElem?_map] at hd
    cases z : (List.range n)[i]? with
    | none => rw [z] at hd; cases hd
    | some k =>
      rw [z] at hd; cases hd
      have e := (List.getElem?_eq_some_iff.mp z).2
      rw [List.getElem_range] at e
      subst e
      exact ⟨G, m, .refl, rep_int.mpr rfl⟩
  stop := fun S ρ G H m s _ => by
    unfold rangeD
    rw [List.length_map, List.length_range]; exact Nat.le_refl _
theorem x_iter {δ : De} {f : D → Option (List D)} {R : It → Hp → Prop} {σ : L2.St} {H : Hp} (h : tI ⟨X.K, cls⟩ W (fun Γ S => (δ Γ S).bind fun x S1 => ofO (f x) S1) σ H R) : ∃ Γ S ρ G, Mem ⟨X.K, cls⟩ Γ S ρ G H σ ∧ Post ⟨X.K, cls⟩ W (RS ⟨X.K, cls⟩) Γ ρ G H σ (δ Γ S) fun v H1 =>
    ∃ d xs ρ1 G1, Rep ⟨X.K, cls⟩ ρ1 G1 d v ∧ f d = some xs ∧ Sub G1 H1 ∧ ∀ J, SrcOk ⟨X.K, cls⟩ J xs ρ1 G1 → R J H1 := by
  obtain ⟨Γ, S, ρ, G, m, p⟩ := h
  refine ⟨Γ, S, ρ, G, m, ?_⟩
  dsimp only at p
  cases q : δ Γ S with
  | ok d S1 =>
    rw [q] at p
    simp only [Res.bind_ok] at p
    cases z : f d with
    | none => rw [z] at p; exact p.elim
    | some xs =>
      rw [z] at p
      exact fun v ρ1 G1 H1 m1 n1 r1 => ⟨d, xs, ρ1, G1, r1, z, m1.sub, fun J sk => p J ρ1 G1 H1 m1 n1 sk⟩
  | exc x S1 => rw [q] at p; exact p
  | stuck => rw [q] at p; exact p
theorem di_l (h : DE X cls W e ε) : DI X cls W tg e (iL ε) := PI.weak (pi_list h) fun σ H R h => by
  obtain ⟨Γ, S, ρ, G, m, p⟩ := x_iter h
  refine ⟨Γ, S, ρ, G, m, p.mono fun v H1 ⟨d, xs, ρ1, G1, r, hd, s, k⟩ => ?_⟩
  cases d <;> try cases hd
  obtain ⟨a, vs, rfl, h1, h2⟩ := rep_lst.mp r
  exact ⟨a, rfl, ⟨vs, SqL.of (s _ _ h1)⟩, k _ (src_list h1 h2)⟩
theorem di_t (h : DE X cls W e ε) : DI X cls W tg e (iT ε) := PI.weak (pi_tup h) fun σ H R h => by
  obtain ⟨Γ, S, ρ, G, m, p⟩ := x_iter h
  refine ⟨Γ, S, ρ, G, m, p.mono fun v H1 ⟨d, xs, ρ1, G1, r, hd, s, k⟩ => ?_⟩
  cases d <;> try cases hd
  obtain ⟨a, vs, rfl, h1, h2⟩ := rep_tup.mp r
  exact ⟨a, rfl, ⟨vs, s.sqT h1⟩, k _ (src_tup h1 h2)⟩
theorem di_r1 (hg : Gl X "range") (hm : X.mg "range" = none) (ha : DE X cls W a ε) (he : starEach [a] X.env = (false, eval a X.env) :: starEach [] X.env := by rfl) (hs : starEach [a] X.env = [(false, eval a X.env)] := by rfl) :
    DI X cls W tg (.Call (.Name "range" p) [a] [] pos) (iR1 ε) := PI.weak (pi_range1 hg hm (pa_cons ha pa_nil he) hs) fun σ H R ⟨Γ, S, ρ, G, m, p⟩ => ⟨Γ, S, ρ, G, m, by
  unfold iR1 at p
  cases q : ε Γ S with
  | ok d S1 =>
    rw [q] at p
    simp only [Res.bind_ok] at p
    intro v ρ1 G1 H1 m1 n1 r1
    cases d with
    | int j =>
      simp only [asI] at p
      split at p
      · rename_i xs S2 z
        split at z
        · rename_i hj
          cases z
          have ev := rep_int.mp r1
          subst ev
          have hj2 := of_decide_eq_true hj
          exact ⟨j, rfl, hj2.1, hj2.2, p _ ρ1 G1 H1 m1 n1 src_range⟩
        · cases z
      · rename_i z
        split at z <;> cases z
      · exact p.elim
    | _ => exact p.elim
  | exc x S1 => rw [q] at p; exact p
  | stuck => rw [q] at p; exact p⟩
theorem di_r2 (hg : Gl X "range") (hm : X.mg "range" = none) (ha : DE X cls W a ε1) (hb : DE X cls W b ε2) (he : starEach [a, b] X.env = (false, eval a X.env) :: starEach [b] X.env := by rfl) (he2 : starEach [b] X.env = (false, eval b X.env) :: starEach [] X.env := by rfl)
    (hs : starEach [a, b] X.env = [(false, eval a X.env), (false, eval b X.env)] := by rfl) (hs2 : starEach [b] X.env = [(false, eval b X.env)] := by rfl) :
    DI X cls W tg (.Call (.Name "range" p) [a, b] [] pos) (iR2 ε1 ε2) := PI.weak (pi_range2 hg hm (pa_cons ha (pa_cons hb pa_nil he2) he) hs hs2) fun σ H R ⟨Γ, S, ρ, G, m, p⟩ => ⟨Γ, S, ρ, G, m, by
  unfold iR2 at p
  cases q : ε1 Γ S with
  | ok d S1 =>
    rw [q] at p
    simp only [Res.bind_ok] at p
    intro v ρ1 G1 H1 m1 n1 r1
    refine ⟨Γ, S1, ρ1, G1, m1, ?_⟩
    cases q2 : ε2 Γ S1 with
    | ok d2 S2 =>
      rw [q2] at p
      simp only [Res.bind_ok] at p
      intro v2 ρ2 G2 H2 m2 n2 r2
      cases d with
      | int i =>
        cases d2 with
        | int j =>
          simp only [asI] at p
          split at p
          · rename_i xs S2 z
            split at z
            · rename_i hj
              cases z
              have ev := rep_int.mp r1
              have ew := rep_int.mp r2
              subst ev ew
              have h1 := of_decide_eq_true hj.1
              have h2 := of_decide_eq_true hj.2
              exact ⟨i, j, rfl, ⟨h1.1, h1.2, h2.1, h2.2⟩, p _ ρ2 G2 H2 m2 (n1.trans n2) src_range⟩
            · cases z
          · rename_i z
            split at z <;> cases z
          · exact p.elim
        | _ => exact p.elim
      | _ => exact p.elim
    | exc x S2 => rw [q2] at p; exact fun c dx ρ' G' H' m' n' r' => p c dx ρ' G' H' m' (n1.trans n') r'
    | stuck => rw [q2] at p; exact p
  | exc x S1 => rw [q] at p; exact p
  | stuck => rw [q] at p; exact p⟩

/-! ### for -/
def forD (p : Pat) (kl : List Nat) (β : Ds) : List D → Ds
  | [], Γ, S => .next Γ S
  | x :: xs, Γ, S => match p.bind x Γ with
    | none => .stuck
    | some Γ1 => match β Γ1 S with
      | .next Γ2 S2 => forD p kl β xs (clr kl Γ2) S2
      | .cont Γ2 S2 => forD p kl β xs (clr kl Γ2) S2
      | .brk Γ2 S2 => .next (clr kl Γ2) S2
      | .ret d S2 => .ret d S2
      | .exc e Γ2 S2 => .exc e Γ2 S2
      | .stuck => .stuck
def sFor (ι : Da) (p : Pat) (kl : List Nat) (β : Ds) : Ds := fun Γ S => after (ι Γ S) Γ fun xs S1 => forD p kl β xs Γ S1
theorem SI.rebase {C : Cn} {en : Ent} {Γ : List Sl} {S : List D} {ρ R : List Addr} {G H B : Hp} {σ : L2.St} (s : SI C { en with B := B, R := R } Γ S ρ G H σ) (h : Sub en.B B) (k : en.R <+: R) : SI C en Γ S ρ G H σ := ⟨s.mem, s.nx, s.frs, h.trans s.base, k.trans s.basr⟩
theorem SI.to {C : Cn} {en : Ent} {Γ : List Sl} {S : List D} {ρ : List Addr} {G H : Hp} {σ : L2.St} (s : SI C en Γ S ρ G H σ) : SI C { en with B := G, R := ρ } Γ S ρ G H σ := ⟨s.mem, s.nx, s.frs, .refl, List.prefix_refl _⟩
theorem PostS.rebase {C : Cn} {en : Ent} {B : Hp} {R : List Addr} {Dn : Ends} (h : Sub en.B B) (k : en.R <+: R) : ∀ {o : Out}, PostS C W en Dn o → PostS C W { en with B := B, R := R } Dn o
  | .next Γ S, q => fun ρ G H σ s => q ρ G H σ (s.rebase h k)
  | .brk Γ S, q => fun ρ G H σ s => q ρ G H σ (s.rebase h k)
  | .cont Γ S, q => fun ρ G H σ s => q ρ G H σ (s.rebase h k)
  | .ret d S, q => q
  | .exc e Γ S, q => fun c dx ρ G H σ s => q c dx ρ G H σ (s.rebase h k)
  | .stuck, q => q
theorem ds_for {iter : Expr} {body : List Stmt} {ι : Da} {p : Pat} {kl : List Nat} {β : Ds} (hp : PassesOwn (model X.prog X.w) X.A X.env X.xe) (hc : X.calm = true) (hi : DI X cls W tg iter ι) (hg : PG X tg (p.g X.K)) (hb : DSs X cls W body β)
    (hs : ∀ x, foldedSetIterable iter X.env x = pure x := by intro _; rfl) : DS X cls W (.For tg iter body [] pos) (sFor ι p kl β) := PS.weak (ps_for hp hc hi hg hb hs) fun Dn σ H ⟨en, Γ, S, ρ, G, s, q⟩ => ⟨Γ, S, ρ, G, s.mem, by
  unfold sFor at q
  cases z : ι Γ S with
  | exc x S1 => rw [z] at q; exact fun cls' dx ρ1 G1 H1 m n c => q cls' dx ρ1 G1 H1 σ (s.step m n) c
  | stuck => rw [z] at q; exact q.elim
  | ok xs S1 =>
    rw [z] at q
    simp only [after_ok] at q
    intro J ρ1 G1 H1 m1 n1 sk
    have s1 := s.step m1 n1
    have q1 := q.rebase (B := G1) (R := ρ1) s1.base s1.basr
    refine ⟨fun i m σ H => m = xs.length - i ∧ i ≤ xs.length ∧ ∃ Γ S ρ G, SI ⟨X.K, cls⟩ { en with B := G1, R := ρ1 } Γ S ρ G H σ ∧ PostS ⟨X.K, cls⟩ W { en with B := G1, R := ρ1 } Dn (forD p kl β (xs.drop i) Γ S),
      ⟨xs.length, by omega, Nat.zero_le _, Γ, S1, ρ1, G1, s1.to, q1⟩, fun i m σ H ⟨hm, hi, Γ, S, ρ, G, s, q⟩ => ?_⟩
    by_cases hlt : i < xs.length
    · rw [List.drop_eq_getElem_cons hlt] at q
      refine .inr ⟨sk.go S ρ G H i s.mem.toS s.base s.basr hlt, fun σ' H' => ∃ Γ S ρ G, SI ⟨X.K, cls⟩ { en with B := G1, R := ρ1 } Γ S ρ G H' σ' ∧ PostS ⟨X.K, cls⟩ W { en with B := G1, R := ρ1 } Dn (forD p kl β (xs.drop (i + 1)) Γ S),
        fun σ' H' n => ⟨xs.length - (i + 1), by omega, rfl, hlt, n⟩, fun x H' y => ?_⟩
      obtain ⟨G', m', n', r'⟩ := sk.yld S ρ G H i x H' _ s.mem.toS s.base s.basr (List.getElem?_eq_getElem hlt) y
      have mm := s.mem.step n' m'
      have s' := s.step mm n'
      rw [forD] at q
      cases hbd : p.bind xs[i] Γ with
      | none => rw [hbd] at q; exact q.elim
      | some Γ1 =>
        rw [hbd] at q
        refine Pat.ok (C := ⟨X.K, cls⟩) p xs[i] x Γ Γ1 σ mm r' hbd _ fun σ2 m2 sb kp => ?_
        refine ⟨_, Γ1, S, ρ, G', sb _ s', ?_⟩
        simp only at q
        cases hz : β Γ1 S with
        | next Γ2 S2 => rw [hz] at q; exact fun ρ3 G3 H3 σ3 s3 => ⟨_, S2, ρ3, G3, s3.clr, q⟩
        | cont Γ2 S2 => rw [hz] at q; exact fun ρ3 G3 H3 σ3 s3 => ⟨_, S2, ρ3, G3, s3.clr, q⟩
        | brk Γ2 S2 => rw [hz] at q; exact fun ρ3 G3 H3 σ3 s3 => q ρ3 G3 H3 σ3 s3.clr
        | ret d S2 => rw [hz] at q; exact q
        | exc e Γ2 S2 => rw [hz] at q; exact q
        | stuck => rw [hz] at q; exact q.elim
    · have e : i = xs.length := by omega
      subst e
      rw [List.drop_length, forD] at q
      exact .inl ⟨sk.stop S ρ G H s.mem.toS s.base s.basr, q ρ G H σ s⟩⟩
/-- forgetting, as nothing of the program does it: ahead of a statement -/
def sClr (kl : List Nat) : Ds := fun Γ S => .next (clr kl Γ) S
theorem dss_clr (kl : List Nat) (h : DSs X cls W sts δ) : DSs X cls W sts (sSeq (sClr kl) δ) := PSs.weak h fun Dn σ H ⟨en, Γ, S, ρ, G, s, p⟩ => ⟨en, _, S, ρ, G, s.clr, p⟩

/-! ### while -/
def whileD (τ : Dt) (kl : List Nat) (β : Ds) : Nat → Ds
  | 0, _, _ => .stuck
  | n + 1, Γ, S => after (τ Γ S) Γ fun k S1 => if k then (match β Γ S1 with
      | .next Γ2 S2 => whileD τ kl β n (clr kl Γ2) S2
      | .cont Γ2 S2 => whileD τ kl β n (clr kl Γ2) S2
      | .brk Γ2 S2 => .next (clr kl Γ2) S2
      | .ret d S2 => .ret d S2
      | .exc e Γ2 S2 => .exc e Γ2 S2
      | .stuck => .stuck) else .next Γ S1
theorem ds_while {body : List Stmt} {kl : List Nat} {β : Ds} {n : Nat} (hp : PassesOwn (model X.prog X.w) X.A X.env X.xe) (hc : DT X cls W c τ) (hb : DSs X cls W body β) : DS X cls W (.While c body [] pos) (whileD τ kl β n) :=
  PS.weak (ps_while hp hc hb) fun Dn σ H ⟨en, Γ, S, ρ, G, s, q⟩ => by
    refine ⟨fun m σ H => ∃ Γ S ρ G, SI ⟨X.K, cls⟩ en Γ S ρ G H σ ∧ PostS ⟨X.K, cls⟩ W en Dn (whileD τ kl β m Γ S), ⟨n, Γ, S, ρ, G, s, q⟩, fun m σ H ⟨Γ, S, ρ, G, s, q⟩ => ?_⟩
    cases m with
    | zero => exact q.elim
    | succ m =>
      rw [whileD] at q
      refine ⟨Γ, S, ρ, G, s.mem, post_after s q fun k S1 ρ1 G1 H1 v m1 n1 s1 r1 p1 => ?_⟩
      have e1 : k = v := r1
      subst e1
      cases k with
      | false => exact iteF (p1 ρ1 G1 H1 σ s1)
      | true =>
        simp only [if_true] at p1
        refine iteT ⟨fun σ' H' => ∃ Γ S ρ G, SI ⟨X.K, cls⟩ en Γ S ρ G H' σ' ∧ PostS ⟨X.K, cls⟩ W en Dn (whileD τ kl β m Γ S), fun σ' H' n => ⟨m, by omega, n⟩, en, Γ, S1, ρ1, G1, s1, ?_⟩
        cases hz : β Γ S1 with
        | next Γ2 S2 => rw [hz] at p1; exact fun ρ3 G3 H3 σ3 s3 => ⟨_, S2, ρ3, G3, s3.clr, p1⟩
        | cont Γ2 S2 => rw [hz] at p1; exact fun ρ3 G3 H3 σ3 s3 => ⟨_, S2, ρ3, G3, s3.clr, p1⟩
        | brk Γ2 S2 => rw [hz] at p1; exact fun ρ3 G3 H3 σ3 s3 => p1 ρ3 G3 H3 σ3 s3.clr
        | ret d S2 => rw [hz] at p1; exact p1
        | exc e Γ2 S2 => rw [hz] at p1; exact p1
        | stuck => rw [hz] at p1; exact p1.elim
end
end DL

namespace DL
open PySem PySem.Spec PyProof.Rows L2

/-! ### list comprehensions -/
abbrev W0 : WX := fun _ _ _ _ => False
def wipeD (Γ : List Sl) : List Nat → List Sl
  | [] => Γ
  | v :: vs => (wipeD Γ vs).set v .non
theorem wipe_out2 {σ : L2.St} {j : Nat} : ∀ {vs : List Nat}, j ∉ vs → (L2.wipe σ vs)[j]? = σ[j]?
  | [], _ => rfl
  | v :: vs, h => by
    rw [List.mem_cons, not_or] at h
    unfold L2.wipe
    rw [List.getElem?_set_ne (Ne.symm h.1), wipe_out2 h.2]
theorem wipe_in {σ : L2.St} {j : Nat} (hl : j < σ.length) : ∀ {vs : List Nat}, j ∈ vs → (L2.wipe σ vs)[j]? = some none
  | v :: vs, h => by
    unfold L2.wipe
    by_cases e : v = j
    · subst e
      rw [List.getElem?_set_self (by rw [L2.wipe_length]; exact hl)]
    · rw [List.getElem?_set_ne e]
      rcases List.mem_cons.mp h with z | z
      · exact absurd z.symm e
      · exact wipe_in hl z
theorem wipe_eq {σ σ' : L2.St} {vs : List Nat} (hl : σ'.length = σ.length) (h : ∀ j, j ∉ vs → σ'[j]? = σ[j]?) : L2.wipe σ' vs = L2.wipe σ vs := by
  apply List.ext_getElem?
  intro j
  by_cases hj : j ∈ vs
  · by_cases hlt : j < σ.length
    · rw [wipe_in (by rw [hl]; exact hlt) hj, wipe_in hlt hj]
    · rw [List.getElem?_eq_none (by rw [L2.wipe_length]; omega), List.getElem?_eq_none (by rw [L2.wipe_length]; omega)]
  · rw [wipe_out2 hj, wipe_out2 hj, h j hj]
theorem wipeD_out {Γ : List Sl} {j : Nat} {x : Sl} (hx : x ≠ .non) : ∀ {vs : List Nat}, (wipeD Γ vs)[j]? = some x → Γ[j]? = some x ∧ j ∉ vs
  | [], h => ⟨h, by simp⟩
  | v :: vs, h => by
    unfold wipeD at h
    by_cases e : v = j
    · subst e
      by_cases hl : v < (wipeD Γ vs).length
      · rw [List.getElem?_set_self hl] at h; cases h; exact absurd rfl hx
      · rw [List.getElem?_eq_none (by simpa using hl)] at h; cases h
    · rw [List.getElem?_set_ne e] at h
      obtain ⟨h1, h2⟩ := wipeD_out hx h
      exact ⟨h1, by rw [List.mem_cons, not_or]; exact ⟨fun z => e z.symm, h2⟩⟩
theorem wipeD_val {Γ : List Sl} {j : Nat} {d : D} {vs : List Nat} (h : (wipeD Γ vs)[j]? = some (Sl.val d)) : Γ[j]? = some (Sl.val d) ∧ j ∉ vs := wipeD_out (by intro z; cases z) h
theorem wipeD_own {Γ : List Sl} {j : Nat} {d : D} {vs : List Nat} (h : (wipeD Γ vs)[j]? = some (Sl.own d)) : Γ[j]? = some (Sl.own d) ∧ j ∉ vs := wipeD_out (by intro z; cases z) h
theorem wipeD_len {Γ : List Sl} : ∀ {vs : List Nat}, (wipeD Γ vs).length = Γ.length
  | [] => rfl
  | v :: vs => by unfold wipeD; rw [List.length_set, wipeD_len]
theorem Mem.wipe {C : Cn} {Γ : List Sl} {S : List D} {ρ : List Addr} {G H : Hp} {σ : L2.St} (m : Mem C Γ S ρ G H σ) (vs : List Nat) : Mem C (wipeD Γ vs) S ρ G H (L2.wipe σ vs) where
  sub := m.sub
  val := fun i d h => by
    obtain ⟨h1, h2⟩ := wipeD_val h
    rw [wipe_out2 h2]; exact m.val i d h1
  own := fun i d h => by
    obtain ⟨h1, h2⟩ := wipeD_own h
    rw [wipe_out2 h2]; exact m.own i d h1
  inj := fun i j d d' a h k h2 k2 => by
    obtain ⟨h1, n1⟩ := wipeD_own h
    obtain ⟨k1, n2⟩ := wipeD_own k
    rw [wipe_out2 n1] at h2
    rw [wipe_out2 n2] at k2
    exact m.inj i j d d' a h1 k1 h2 k2
  sto := m.sto
  stG := m.stG
  len := m.len
  nd := m.nd
  wid := by rw [wipeD_len, L2.wipe_length]; exact m.wid
  xcp := fun i x h => by
    obtain ⟨h1, h2⟩ := wipeD_out (by intro z; cases z) h
    rw [wipe_out2 h2]; exact m.xcp i x h1
/-- in a comprehension nothing may be raised -/
def nox {α : Type} (r : Res α) : Res α := match r with | .exc _ _ => .stuck | r => r
@[simp] theorem nox_ok {α : Type} (a : α) (S : List D) : nox (.ok a S) = .ok a S := Eq.trans rfl rfl
@[simp] theorem nox_exc {α : Type} (e : Exn) (S : List D) : nox (.exc e S : Res α) = .stuck := Eq.trans rfl rfl
@[simp] theorem nox_stuck {α : Type} : nox (.stuck : Res α) = .stuck := Eq.trans rfl rfl
def compD (p : Pat) (τ : Dt) (ε : De) : List D → List Sl → List D → Res (List D)
  | [], _, S => .ok [] S
  | x :: xs, Γ, S => match p.bind x Γ with
    | none => .stuck
    | some Γ1 => (nox (τ Γ1 S)).bind fun k S1 => if k then (nox (ε Γ1 S1)).bind fun d S2 => (compD p τ ε xs Γ S2).bind fun ds S3 => .ok (d :: ds) S3 else compD p τ ε xs Γ S1
def lenOk (ds : List D) : Option D := if ds.length ≤ sizeLine then some (.lst ds) else none
def eComp (ι : Da) (p : Pat) (vs : List Nat) (τ : Dt) (ε : De) : De := fun Γ S => (ι Γ S).bind fun xs S1 => (compD p τ ε xs (wipeD Γ vs) S1).bind fun ds S2 => ofO (lenOk ds) S2
def tTrue : Dt := fun _ S => .ok true S
def DTs (X : Cx) (cls : Nat → Addr) (ifs : List Expr) (τ : Dt) : Prop := PTs X ifs (tT ⟨X.K, cls⟩ W0 τ)
theorem PTs.weak {X : Cx} {e : List Expr} {t t' : TT} (h : PTs X e t) (i : ∀ σ H Q, t' σ H Q → t σ H Q) : PTs X e t' := ⟨fun pins s σ H Q I h' => h.run pins s σ H Q I (i σ H Q h')⟩
section
variable {X : Cx} {cls : Nat → Addr} {W : WX} {e c : Expr} {τ : Dt}
theorem dts_nil : DTs X cls [] tTrue := PTs.weak pts_nil fun σ H Q ⟨Γ, S, ρ, G, m, p⟩ => p.at m rfl
theorem dts_one (h : DT X cls W0 c τ) : DTs X cls [c] τ := pts_one h
end
theorem nox_post {C : Cn} {α β : Type} {RV : RVT α β} {Γ : List Sl} {ρ : List Addr} {G H : Hp} {σ : L2.St} {r : Res α} {Q : β → Hp → Prop} (h : ∀ d S1, r = .ok d S1 → ∀ v ρ' G' H', Mem C Γ S1 ρ' G' H' σ → Nx ρ G H ρ' G' H' → RV H ρ' G' H' d v → Q v H') (hs : ∃ d S1, r = .ok d S1) : Post C W0 RV Γ ρ G H σ r Q := by
  obtain ⟨d, S1, rfl⟩ := hs
  exact h d S1 rfl

section
variable {X : Cx} {cls : Nat → Addr} {W : WX}
theorem x_comp {ι : Da} {p : Pat} {τ : Dt} {ε : De} {vs : List Nat} (hv : ∀ i ∈ p.vars, i ∈ vs) {σ : L2.St} {H : Hp} {Q : VK} (h : tE ⟨X.K, cls⟩ W (RF ⟨X.K, cls⟩) (eComp ι p vs τ ε) σ H Q) :
    tLc (tI ⟨X.K, cls⟩ W ι) (p.g X.K) (tT ⟨X.K, cls⟩ W0 τ) (tE ⟨X.K, cls⟩ W0 (RS ⟨X.K, cls⟩) ε) vs σ H Q := by
  obtain ⟨Γ, S, ρ, G, m, q⟩ := h
  refine ⟨Γ, S, ρ, G, m, ?_⟩
  unfold eComp at q
  cases z : ι Γ S with
  | exc x S1 => rw [z] at q; exact q
  | stuck => rw [z] at q; exact q
  | ok xs S1 =>
    rw [z] at q
    simp only [Res.bind_ok] at q
    intro J ρ1 G1 H1 m1 n1 sk D0 hD
    have hown : ∀ (i : Nat) (d : D) (b : Addr), Γ[i]? = some (Sl.own d) → σ[i]? = some (some (V.ref b)) → b ≠ D0 := fun i d b h1 h2 e => by
      obtain ⟨b', e', r', _⟩ := m1.own i d h1
      rw [h2] at e'; cases e'
      obtain ⟨o, ho⟩ := r'.some
      rw [e, hD] at ho; cases ho
    have hownw : ∀ (i : Nat) (d : D) (b : Addr), (wipeD Γ vs)[i]? = some (Sl.own d) → (L2.wipe σ vs)[i]? = some (some (V.ref b)) → b ≠ D0 := fun i d b h1 h2 => by
      obtain ⟨k1, k2⟩ := wipeD_own h1
      rw [wipe_out2 k2] at h2
      exact hown i d b k1 h2
    have gD : G1 D0 = none := by
      cases e : G1 D0 with
      | none => rfl
      | some o => rw [m1.sub _ _ e] at hD; cases hD
    have pD : D0 ∉ ρ1 := fun e => by
      obtain ⟨i, hi⟩ := List.mem_iff_getElem?.mp e
      have hi2 : i < S1.length := by rw [← m1.len]; exact (List.getElem?_eq_some_iff.mp hi).1
      obtain ⟨a, ha, r⟩ := m1.sto i S1[i] (List.getElem?_eq_getElem hi2)
      rw [hi] at ha; cases ha
      obtain ⟨o, ho⟩ := r.some
      rw [ho] at hD; cases hD
    -- the state of the loop
    let Pv : Nat → Hp → Prop := fun i H => ∃ S ρ G acc accd, Mem ⟨X.K, cls⟩ Γ S ρ G H σ ∧ H D0 = some (.lst acc) ∧ Reps ⟨X.K, cls⟩ ρ G accd acc ∧ D0 ∉ ρ ∧ G D0 = none ∧ Nx ρ1 G1 H1 ρ G H ∧
      compD p τ ε xs (wipeD Γ vs) S1 = (compD p τ ε (xs.drop i) (wipeD Γ vs) S).bind fun ds S3 => .ok (accd ++ ds) S3
    refine ⟨fun i mm H => mm = xs.length - i ∧ i ≤ xs.length ∧ Pv i H, ⟨xs.length, by omega, Nat.zero_le _, S1, ρ1, G1, [], [], m1.aside gD pD hown, upd_same, .nil, pD, gD, Nx.refl.aside hD, ?_⟩, fun i mm H ⟨hm, hi, S, ρ, G, acc, accd, ms, hacc, racc, pD', gD', nn, eqn⟩ => ?_⟩
    · rw [List.drop_zero]
      cases compD p τ ε xs (wipeD Γ vs) S1 <;> rfl
    · have sub1 : Sub G1 G := nn.ext
      by_cases hlt : i < xs.length
      · rw [List.drop_eq_getElem_cons hlt, compD] at eqn
        refine .inr ⟨sk.go S ρ G H i ms.toS sub1 nn.pre hlt, Pv (i + 1), fun H' n => ⟨xs.length - (i + 1), by omega, rfl, hlt, n⟩, fun x H' y => ?_⟩
        obtain ⟨G', m', n', r'⟩ := sk.yld S ρ G H i x H' _ ms.toS sub1 nn.pre (List.getElem?_eq_getElem hlt) y
        have mH' := ms.step n' m'
        have mw := mH'.wipe vs
        cases hbd : p.bind xs[i] (wipeD Γ vs) with
        | none => rw [hbd] at eqn; rw [eqn] at q; exact q.elim
        | some Γ1 =>
          rw [hbd] at eqn
          simp only at eqn
          refine Pat.ok (C := ⟨X.K, cls⟩) p xs[i] x (wipeD Γ vs) Γ1 (L2.wipe σ vs) mw r' hbd _ fun σ2 m2 _ kp => ⟨?_, Γ1, S, ρ, G', m2, ?_⟩
          · rw [wipe_eq kp.1 fun j hj => kp.2 j fun h => hj (hv j h), wipe_eq (L2.wipe_length σ vs) fun j hj => wipe_out2 hj]
          · -- the test
            cases zt : τ Γ1 S with
            | exc x2 S2 => rw [zt] at eqn; rw [eqn] at q; exact q.elim
            | stuck => rw [zt] at eqn; rw [eqn] at q; exact q.elim
            | ok k S2 =>
              rw [zt] at eqn
              simp only [nox_ok, Res.bind_ok] at eqn
              intro kv ρ2 G2 H2 mm2 nn2 rk
              have ek : k = kv := rk
              subst ek
              have nnH : Nx ρ G H ρ2 G2 H2 := n'.trans nn2
              have mg2 : Mem ⟨X.K, cls⟩ Γ S2 ρ2 G2 H2 σ := ms.step nnH mm2.toS
              cases k with
              | false =>
                simp only [Bool.false_eq_true, if_false] at eqn
                refine iteF ⟨S2, ρ2, G2, acc, accd, mg2, nnH.keep _ _ hacc pD', Reps.mono nnH.ext nnH.pre _ _ racc, fun z => ?_, ?_, nn.trans nnH, eqn⟩
                · rcases nnH.fre _ z with z | z
                  · exact pD' z
                  · rw [hacc] at z; cases z
                · cases e : G2 D0 with
                  | none => rfl
                  | some o => rcases nnH.new _ _ e with z | z
                              · rw [gD'] at z; cases z
                              · rw [hacc] at z; cases z
              | true =>
                simp only [if_true] at eqn
                refine iteT ⟨Γ1, S2, ρ2, G2, mm2, ?_⟩
                cases ze : ε Γ1 S2 with
                | exc x3 S3 => rw [ze] at eqn; rw [eqn] at q; exact q.elim
                | stuck => rw [ze] at eqn; rw [eqn] at q; exact q.elim
                | ok d S3 =>
                  rw [ze] at eqn
                  simp only [nox_ok, Res.bind_ok] at eqn
                  intro dv ρ3 G3 H3 mm3 nn3 rd
                  have nn4 : Nx ρ G H ρ3 G3 H3 := nnH.trans nn3
                  have hacc3 : H3 D0 = some (.lst acc) := nn4.keep _ _ hacc pD'
                  have pD3 : D0 ∉ ρ3 := fun z => by
                    rcases nn4.fre _ z with z | z
                    · exact pD' z
                    · rw [hacc] at z; cases z
                  have gD3 : G3 D0 = none := by
                    cases e : G3 D0 with
                    | none => rfl
                    | some o => rcases nn4.new _ _ e with z | z
                                · rw [gD'] at z; cases z
                                · rw [hacc] at z; cases z
                  have mg3 : Mem ⟨X.K, cls⟩ Γ S3 ρ3 G3 H3 σ := ms.step nn4 mm3.toS
                  have eqn2 : compD p τ ε xs (wipeD Γ vs) S1 = (compD p τ ε (xs.drop (i + 1)) (wipeD Γ vs) S3).bind fun ds S3 => .ok ((accd ++ [d]) ++ ds) S3 := by
                    rw [eqn]
                    cases compD p τ ε (xs.drop (i + 1)) (wipeD Γ vs) S3 with
                    | ok ds S4 => simp only [Res.bind_ok, List.append_assoc, List.singleton_append]
                    | exc _ _ => rfl
                    | stuck => rfl
                  refine ⟨acc, hacc3, ?_, S3, ρ3, G3, acc ++ [dv], accd ++ [d], mg3.aside gD3 pD3 hown, upd_same, (Reps.mono nn4.ext nn4.pre _ _ racc).append (.cons rd .nil), pD3, gD3, (nn.trans nn4).aside hD, eqn2⟩
                  rw [eqn2] at q
                  cases zz : compD p τ ε (xs.drop (i + 1)) (wipeD Γ vs) S3 with
                  | exc _ _ =>
                    exfalso
                    have : ∀ (xs : List D) (Γ : List Sl) (S : List D) e S', compD p τ ε xs Γ S ≠ .exc e S' := by
                      intro xs
                      induction xs with
                      | nil => intro Γ S e S' h; cases h
                      | cons x xs ih =>
                        intro Γ S e S' h
                        rw [compD] at h
                        cases a1 : p.bind x Γ with
                        | none => rw [a1] at h; cases h
                        | some Γ1 =>
                          rw [a1] at h
                          simp only at h
                          cases a2 : τ Γ1 S with
                          | exc _ _ => rw [a2] at h; cases h
                          | stuck => rw [a2] at h; cases h
                          | ok k S1 =>
                            rw [a2] at h
                            simp only [nox_ok, Res.bind_ok] at h
                            cases k with
                            | false => exact ih _ _ _ _ (by simpa using h)
                            | true =>
                              simp only [if_true] at h
                              cases a3 : ε Γ1 S1 with
                              | exc _ _ => rw [a3] at h; cases h
                              | stuck => rw [a3] at h; cases h
                              | ok d S2 =>
                                rw [a3] at h
                                simp only [nox_ok, Res.bind_ok] at h
                                cases a4 : compD p τ ε xs Γ S2 with
                                | ok _ _ => rw [a4] at h; cases h
                                | stuck => rw [a4] at h; cases h
                                | exc _ _ => exact ih _ _ _ _ a4
                    exact this _ _ _ _ _ zz
                  | stuck => rw [zz] at q; exact q.elim
                  | ok ds S4 =>
                    rw [zz] at q
                    simp only [Res.bind_ok] at q
                    unfold lenOk at q
                    split at q
                    · rename_i hl
                      rw [List.length_append, List.length_append, List.length_singleton] at hl
                      rw [← racc.length]; omega
                    · exact q.elim
      · have e : i = xs.length := by omega
        subst e
        refine .inl ⟨sk.stop S ρ G H ms.toS sub1 nn.pre, ?_⟩
        rw [List.drop_length, compD] at eqn
        rw [eqn] at q
        simp only [Res.bind_ok, List.append_nil] at q
        unfold lenOk at q
        split at q
        · exact q _ ρ G H ms (n1.trans nn) ⟨D0, rfl, pD', n1.live _ hD, gD', acc, hacc, racc⟩
        · exact q.elim
theorem df_comp {elt tg iter : Expr} {ifs : List Expr} {scope : Scope} {own : List (Str × Nat)} {pos : Pos} {ι : Da} {p : Pat} {τ : Dt} {ε : De} (hc : X.calm = true) (hN : X.N.Nodup) (hi : DI X cls W tg iter ι) (ok : BlkOk X.N X.env.scope scope own) (hv : ∀ i ∈ p.vars, i ∈ own.map (·.2))
    (hg : ∀ (s : Shared) (H : Hp) (C : Addr) (cl : List (Str × Addr)) (fp : List Addr), PG (X.blk s H scope (compEnvC scope cl C X.env) fp) tg (p.g X.K)) (ht : ∀ (s : Shared) (H : Hp) (C : Addr) (cl : List (Str × Addr)) (fp : List Addr), DTs (X.blk s H scope (compEnvC scope cl C X.env) fp) cls ifs τ)
    (he : ∀ (s : Shared) (H : Hp) (C : Addr) (cl : List (Str × Addr)) (fp : List Addr), DE (X.blk s H scope (compEnvC scope cl C X.env) fp) cls W0 elt ε) (hs : ∀ x, foldedSetIterable iter X.env x = pure x := by intro _; rfl) :
    DF X cls W (.ListComp elt [⟨tg, iter, ifs, 0⟩] scope pos) (eComp ι p (own.map (·.2)) τ ε) := PE.weak (pe_lc (tt := tT ⟨X.K, cls⟩ W0 τ) (te := tE ⟨X.K, cls⟩ W0 (RS ⟨X.K, cls⟩) ε) hc hN hi ok hg ht he hs) fun σ H Q h => x_comp hv h
/-- name = [..]: settled | the slot's own -/
theorem ps_comp {i : Nat} {y : Str} {py : Pos} {elt tg iter : Expr} {ifs : List Expr} {scope : Scope} {own : List (Str × Nat)} {pos spos : Pos} {ι : Da} {p : Pat} {τ : Dt} {ε : De} (hc : X.calm = true) (hN : X.N.Nodup) (hy : X.N[i]? = some y) (hyl : X.env.scope.names.lookup y = some .local)
    (hsw : swapsWith (.ListComp elt [⟨tg, iter, ifs, 0⟩] scope pos) (some (.Name y py)) spos.line X.env = pure true) (hi : DI X cls W tg iter ι) (ok : BlkOk X.N X.env.scope scope own) (hv : ∀ i ∈ p.vars, i ∈ own.map (·.2))
    (hg : ∀ (s : Shared) (H : Hp) (C : Addr) (cl : List (Str × Addr)) (fp : List Addr), PG (X.blk s H scope (compEnvC scope cl C X.env) fp) tg (p.g X.K)) (ht : ∀ (s : Shared) (H : Hp) (C : Addr) (cl : List (Str × Addr)) (fp : List Addr), DTs (X.blk s H scope (compEnvC scope cl C X.env) fp) cls ifs τ)
    (he : ∀ (s : Shared) (H : Hp) (C : Addr) (cl : List (Str × Addr)) (fp : List Addr), DE (X.blk s H scope (compEnvC scope cl C X.env) fp) cls W0 elt ε) (hs : ∀ x, foldedSetIterable iter X.env x = pure x := by intro _; rfl) :
    PS X (.Assign [.Name y py] (.ListComp elt [⟨tg, iter, ifs, 0⟩] scope pos) spos) (tAsg (tE ⟨X.K, cls⟩ W (RF ⟨X.K, cls⟩) (eComp ι p (own.map (·.2)) τ ε)) (gName i)) := PS.weak (ps_setLc (tt := tT ⟨X.K, cls⟩ W0 τ) (te := tE ⟨X.K, cls⟩ W0 (RS ⟨X.K, cls⟩) ε) hc hN hy hyl hsw hi ok hg ht he hs) fun Dn σ H h => x_comp (Q := fun x H1 => gName i x σ H1 Dn.nx) hv h
theorem ds_setC {i : Nat} {st : Stmt} {ε : De} (h : PS X st (tAsg (tE ⟨X.K, cls⟩ W (RF ⟨X.K, cls⟩) ε) (gName i))) : DS X cls W st (sSet i ε) := PS.weak h fun D σ H ⟨en, Γ, S, ρ, G, s, p⟩ =>
  ⟨Γ, S, ρ, G, s.mem, post_after s p fun d S1 ρ1 G1 H1 v m n s1 r p1 => by
    obtain ⟨G2, m2, n2, r2⟩ := RF.settle s.mem n m r
    exact p1 _ _ _ _ ((s.step m2 n2).setv i r2)⟩
theorem ds_ownC {i : Nat} {st : Stmt} {ε : De} (h : PS X st (tAsg (tE ⟨X.K, cls⟩ W (RF ⟨X.K, cls⟩) ε) (gName i))) : DS X cls W st (sOwn i ε) := PS.weak h fun D σ H ⟨en, Γ, S, ρ, G, s, p⟩ =>
  ⟨Γ, S, ρ, G, s.mem, post_after s p fun d S1 ρ1 G1 H1 v m n s1 r p1 => by
    obtain ⟨a, rfl, na, h0, hg, r⟩ := r
    exact p1 _ _ _ _ (s.seto i n m na h0 hg r)⟩
end
end DL

namespace DL
open PySem PySem.Spec PyProof.Rows L2

/-! ### a list, a tuple or a text is walked -/
def iSeqA (K : PySem.W.Frag) (tl : TE) : TI := fun σ H R => tl σ H fun x H1 => (∃ a, x = .ref a ∧ (∃ xs, SqL K H1 a xs) ∧ R (Itl K a) H1) ∨ (∃ a, x = .ref a ∧ (∃ xs, SqT K H1 a xs) ∧ R (Itt K a) H1) ∨ ∃ z, x = .str z ∧ R (Its z) H1
theorem pi_any {X : Cx} {tg l : Expr} {tl : TE} (hl : PE X l tl) : PI X tg l (iSeqA X.K tl) := by
  refine ⟨fun pins s σ H R I h => ?_⟩
  refine thn (hl.run pins s σ H _ I h) fun v s1 ⟨x, H1, I1, r1, q1⟩ => ?_
  rcases q1 with ⟨a, e, ⟨xs, hq⟩, q⟩ | ⟨a, e, ⟨xs, hq⟩, q⟩ | ⟨z, e, q⟩
  · subst e
    cases r1
    obtain ⟨its, rv, p, hz⟩ := I1.list hq
    refine wpAny_pyIter_list p.isList ?_
    refine ⟨s1.heap.objs.size, [s1.heap.objs.size], _, _, H1, rfl, I1.kept (t' := s1.toks) fun b o e => Heap.get?_push_of_some _ e, turn_list a _, ⟨_, Heap.get?_push_size _ rfl, rfl, rfl⟩, fun b hb => ?_, q⟩
    have e : b = s1.heap.objs.size := by simpa using hb
    subst e
    exact I1.fpOk (Nat.le_refl _) (I1.hok.fresh (Nat.le_refl _))
  · subst e
    cases r1
    obtain ⟨its, rv, p, hz⟩ := I1.tuple hq
    refine wpAny_pyIter_tuple (show s1.heap.IsTuple a its.toArray from p) ?_
    refine ⟨s1.heap.objs.size, [s1.heap.objs.size], _, _, H1, rfl, I1.kept (t' := s1.toks) fun b o e => Heap.get?_push_of_some _ e, turn_tuple a _, ⟨_, Heap.get?_push_size _ rfl, rfl, rfl⟩, fun b hb => ?_, q⟩
    have e : b = s1.heap.objs.size := by simpa using hb
    subst e
    exact I1.fpOk (Nat.le_refl _) (I1.hok.fresh (Nat.le_refl _))
  · subst e
    obtain ⟨t, rfl⟩ := r1
    cases ha : z.cps.all (· < 128)
    · exact wpAny_pyIter_wide ha (pi_one (tk := s1.toks) I1 _ (turn_str _ z t "str_iterator" (.inr rfl)) ⟨_, Heap.get?_push_size _ rfl, rfl, rfl⟩ q)
    · exact wpAny_pyIter_ascii ha (pi_one (tk := s1.toks) I1 _ (turn_str _ z t "str_ascii_iterator" (.inl rfl)) ⟨_, Heap.get?_push_size _ rfl, rfl, rfl⟩ q)
def items : D → Option (List D)
  | .lst xs => some xs
  | .tup xs => some xs
  | .scr ns => some (ns.map .int)
  | .str z => some (z.cps.toList.map fun c => .str ⟨#[c]⟩)
  | _ => none
def iA (a : De) : Da := fun Γ S => (a Γ S).bind fun x S1 => ofO (items x) S1
theorem src_str {C : Cn} {z : Str} {ρ0 : List Addr} {G0 : Hp} : SrcOk C (Its z) (z.cps.toList.map fun c => .str ⟨#[c]⟩) ρ0 G0 where
  go := fun S ρ G H i m s _ hi => by
    show i < z.cps.size
    simpa using hi
  yld := fun S ρ G H i x H' d m s pr hd y => by
    obtain ⟨rfl, c, hc, rfl⟩ := y
    rw [List.getElem?_map, Array.getElem?_toList, hc] at hd
    cases hd
    exact ⟨G, m, .refl, rep_str.mpr rfl⟩
  stop := fun S ρ G H m s _ => by
    show z.cps.size ≤ _
    simp
theorem src_scr {C : Cn} {a : Addr} {ns : List Int} {ρ0 : List Addr} {G0 : Hp} (h : SqL C.K G0 a (ns.map V.int)) : SrcOk C (Itl C.K a) (ns.map .int) ρ0 G0 where
  go := fun S ρ G H i m s _ hi => ⟨ns.map V.int, (ns.map V.int)[i]'(by simpa using hi), (s.trans m.sub).sqL h, List.getElem?_eq_getElem _⟩
  yld := fun S ρ G H i x H' d m s pr hd y => by
    obtain ⟨rfl, y⟩ := y
    have e := y _ ((s.trans m.sub).sqL h)
    rw [List.getElem?_map] at hd e
    cases z : ns[i]? with
    | none => rw [z] at hd; cases hd
    | some n =>
      rw [z] at hd e
      cases hd; cases e
      exact ⟨G, m, .refl, rep_int.mpr rfl⟩
  stop := fun S ρ G H m s _ => ⟨ns.map V.int, (s.trans m.sub).sqL h, by simp⟩
section
variable {X : Cx} {cls : Nat → Addr} {W : WX} {e tg : Expr} {ε : De}
theorem di_a (h : DE X cls W e ε) : DI X cls W tg e (iA ε) := PI.weak (pi_any h) fun σ H R h => by
  obtain ⟨Γ, S, ρ, G, m, p⟩ := x_iter h
  refine ⟨Γ, S, ρ, G, m, p.mono fun v H1 ⟨d, xs, ρ1, G1, r, hd, s, k⟩ => ?_⟩
  cases d <;> try cases hd
  · rw [rep_str] at r; subst r
    exact .inr (.inr ⟨_, rfl, k _ src_str⟩)
  · obtain ⟨a, vs, rfl, h1, h2⟩ := rep_lst.mp r
    exact .inl ⟨a, rfl, ⟨vs, SqL.of (s _ _ h1)⟩, k _ (src_list h1 h2)⟩
  · obtain ⟨a, vs, rfl, h1, h2⟩ := rep_tup.mp r
    exact .inr (.inl ⟨a, rfl, ⟨vs, s.sqT h1⟩, k _ (src_tup h1 h2)⟩)
  · obtain ⟨a, rfl, h1⟩ := rep_scr.mp r
    exact .inl ⟨a, rfl, ⟨_, s.sqL h1⟩, k _ (src_scr h1)⟩
end
/-! ### names of the module -/
section
variable {X : Cx} {cls : Nat → Addr} {W : WX} {x : Str} {pos : Pos}
theorem de_gstr {z : Str} (hm : ∃ t : Tok, X.mg x = some (.str z t)) (hg : Gl X x := by rfl) (hd : (x == ("__debug__" : Str)) = false := by decide) : DE X cls W (.Name x pos) (eC (.str z)) := de_c (v := .str z) (pe_glob hg hm.choose_spec ⟨_, rfl⟩ hd) fun _ _ => rep_str.mpr rfl
theorem de_gint {z : Int} (hm : ∃ t : Tok, X.mg x = some (.int z t)) (hg : Gl X x := by rfl) (hd : (x == ("__debug__" : Str)) = false := by decide) : DE X cls W (.Name x pos) (eC (.int z)) := de_c (v := .int z) (pe_glob hg hm.choose_spec ⟨_, rfl⟩ hd) fun _ _ => rep_int.mpr rfl
/-- a written tuple of texts -/
inductive StrsV : List Str → List Value → Prop
  | nil : StrsV [] []
  | cons {z : Str} {t : Tok} {zs : List Str} {us : List Value} (h : StrsV zs us) : StrsV (z :: zs) (.str z t :: us)
theorem StrsV.vals : ∀ {zs : List Str} {us : List Value}, StrsV zs us → Vals (zs.map V.str) us
  | _, _, .nil => .nil
  | _, _, .cons (t := t) h => .cons ⟨t, rfl⟩ h.vals
theorem reps_strs {C : Cn} {ρ : List Addr} {G : Hp} : ∀ {zs : List Str}, Reps C ρ G (zs.map D.str) (zs.map V.str)
  | [] => .nil
  | z :: zs => .cons (rep_str.mpr rfl) reps_strs
theorem de_gtup {zs : List Str} (hm : ∃ a us dd n sl, X.mg x = some (.ref a) ∧ X.K.lookup a = some ⟨.type "tuple", dd, .seq us.toArray n, sl⟩ ∧ StrsV zs us ∧ us.length ≤ sizeLine)
    (hg : Gl X x := by rfl) (hd : (x == ("__debug__" : Str)) = false := by decide) : DE X cls W (.Name x pos) (eC (.tup (zs.map D.str))) := by
  obtain ⟨a, us, dd, n, sl, hm, hk, hu, hl⟩ := hm
  exact de_c (v := .ref a) (pe_glob hg hm rfl hd) fun ρ G => rep_tup.mpr ⟨a, zs.map V.str, rfl, .inr ⟨_, us.toArray, n, hk, rfl, rfl, by simpa using hl, hu.vals⟩, reps_strs⟩
end
def fuel : Nat := 1000000
/-! ### defs by the number of calls -/
abbrev Rec := Nat → List D → List D → Res D
section
variable {P : Program} {w : World} {K : PySem.W.Frag} {mg : Str → Option Value} {base : Heap} {cls : Nat → Addr}
theorem fn_stuck {k : Nat} {f : Addr} {fd : FuncData} {ps : List Str} {C : Cn} {F : List D → List D → Res D} (h : ∀ ds S, F ds S = .stuck) : FnOk P w K mg base (L2.CX P w) k f fd ps (spD C ps.length F) := by
  have no : ∀ vs H Q E, ¬ spD C ps.length F vs H Q E := fun vs H Q E h' => by
    obtain ⟨S, ρ, G, ds, _, _, _, z⟩ := h'
    rw [h] at z; exact z
  exact ⟨fun vs H Q E h => absurd h (no vs H Q E), fun A outer s H args us vs Q E _ _ _ _ h => absurd h (no vs H Q E)⟩
def spLaw (K : PySem.W.Frag) : Sp := fun vs H Q _ => ∃ (a : Addr) (ns : List Int), vs = [.ref a] ∧ SqL K H a (ns.map V.int) ∧ ns.length ≤ 63 ∧ ∀ H', Q (.bl true) H'
theorem law_imp {k : Nat} {f : Addr} {fd : FuncData} {ps : List Str} {F : List D → List D → Res D} (h : FnOk P w K mg base (L2.CX P w) k f fd ps (spD ⟨K, cls⟩ 1 F)) (hF : ∀ ns : List Int, ns.length ≤ 63 → ∃ S, F [.scr ns] [] = .ok (.bl true) S) :
    FnOk P w K mg base (L2.CX P w) k f fd ps (spLaw K) := h.imp fun vs H Q E ⟨a, ns, e, hS, hl, q⟩ => by
  subst e
  obtain ⟨S', hS'⟩ := hF ns hl
  refine ⟨[], [], H, [.scr ns], ⟨.refl, fun i d h => by simp at h, fun i d h => by simp at h, fun i j d d' a h => by simp at h, fun i d h => by simp at h, fun a h => by simp at h, rfl, List.nodup_nil, rfl, fun i x h => by simp at h⟩, .cons (rep_scr.mpr ⟨a, rfl, hS⟩) .nil, rfl, ?_⟩
  rw [hS']
  intro v ρ' G' H' m n r
  rw [rep_bl.mp r]
  exact q H'
end
end DL

namespace DL
open PySem PySem.Spec PyProof.Rows L2
/-! ### defs that run where no repr is under way -/
structure RoomG (k : Nat) (A : Around) : Prop extends Room k A where
  gd : A.guards = some []
theorem RoomG.deep {k : Nat} {A : Around} (r : RoomG (k + 1) A) (env : Env) : RoomG k (A.deeper env) := ⟨r.toRoom.deeper env, r.gd⟩
theorem RoomG.less {j k : Nat} {A : Around} (r : RoomG k A) (h : j ≤ k) : RoomG j A := ⟨r.toRoom.mono h, r.gd⟩
structure FnG (P : Program) (w : World) (K : PySem.W.Frag) (mg : Str → Option Value) (base : Heap) (k : Nat) (f : Addr) (fd : FuncData) (ps : List Str) (sp : Sp) : Prop where
  lng : ∀ vs H Q E, sp vs H Q E → vs.length = ps.length
  goes : ∀ (A : Around) (o : List Env) (s : Shared) (H : Hp) (ar : Args) (us : List Value) (vs : List V) (Q : VK) (E : XK), RoomG k A → Env0 P w K mg base A o s H → BindsTo s fd ar (ps.zip us) → Vals vs us → sp vs H Q E →
    codeAny (model P w) A (.call (.ref f) ar) (CR (L2.CX P w) o P w H s Q E) s
section
variable {P : Program} {w : World} {K : PySem.W.Frag} {mg : Str → Option Value} {base : Heap} {cls : Nat → Addr}
theorem FnG.weak {k : Nat} {f : Addr} {fd : FuncData} {ps : List Str} {sp sp2 : Sp} (F : FnG P w K mg base k f fd ps sp) (i : ∀ vs H Q E, sp2 vs H Q E → sp vs H Q E) : FnG P w K mg base k f fd ps sp2 :=
  ⟨fun vs H Q E h => F.lng vs H Q E (i _ _ _ _ h), fun A o s H ar us vs Q E r e b v h => F.goes A o s H ar us vs Q E r e b v (i _ _ _ _ h)⟩
theorem fnG_stuck {k : Nat} {f : Addr} {fd : FuncData} {ps : List Str} {C : Cn} {F : List D → List D → Res D} (h : ∀ ds S, F ds S = .stuck) : FnG P w K mg base k f fd ps (spD C ps.length F) := by
  have no : ∀ vs H Q E, ¬ spD C ps.length F vs H Q E := fun vs H Q E h' => by
    obtain ⟨S, ρ, G, ds, _, _, _, z⟩ := h'
    rw [h] at z; exact z
  exact ⟨fun vs H Q E h => absurd h (no vs H Q E), fun A o s H ar us vs Q E _ _ _ _ h => absurd h (no vs H Q E)⟩
theorem lawG_imp {k : Nat} {f : Addr} {fd : FuncData} {ps : List Str} {F : List D → List D → Res D} (h : FnG P w K mg base k f fd ps (spD ⟨K, cls⟩ 1 F)) (hF : ∀ ns : List Int, ns.length ≤ 63 → ∃ S, F [.scr ns] [] = .ok (.bl true) S) :
    FnG P w K mg base k f fd ps (spLaw K) := h.weak fun vs H Q E ⟨a, ns, e, hS, hl, q⟩ => by
  subst e
  obtain ⟨S', hS'⟩ := hF ns hl
  refine ⟨[], [], H, [.scr ns], ⟨.refl, fun i d h => by simp at h, fun i d h => by simp at h, fun i j d d' a h => by simp at h, fun i d h => by simp at h, fun a h => by simp at h, rfl, List.nodup_nil, rfl, fun i x h => by simp at h⟩, .cons (rep_scr.mpr ⟨a, rfl, hS⟩) .nil, rfl, ?_⟩
  rw [hS']
  intro v ρ' G' H' m n r
  rw [rep_bl.mp r]
  exact q H'
theorem defG_ok {x qual : Str} {st : Stmt} {f : Addr} {fd : FuncData} {N ps : List Str} {k : Nat} {δ : Ds} (F : Fun K x qual st f fd) (Sc : FnScope N ps (defScope st))
    (hbody : ∀ (cdv : Value) (A : Around) (outer : List Env) (s : Shared) (H : Hp) (E : XK), RoomG k (A.deeper (envOfC qual (defScope st) s.heap.objs.size f cdv)) →
      DSs (cxOf (L2.CX P w) P w K mg base N qual (defScope st) f cdv A outer s H E) cls (fun c d _ H => E c d H) (defBody st) δ) : FnG P w K mg base (k + 1) f fd ps (spD ⟨K, cls⟩ ps.length (bodyRun N.length δ)) := by
  obtain ⟨oc, od, kV, doc, pm, an, cdv, ct, osl, rfl, lk, hcd⟩ := F.ex
  have ln : ∀ vs H Q E, spD ⟨K, cls⟩ ps.length (bodyRun N.length δ) vs H Q E → vs.length = ps.length := fun vs H Q E h => by obtain ⟨_, _, _, _, _, _, h, _⟩ := h; exact h
  refine ⟨ln, fun A o s0 H ar us vs Q E rm e0 bd rv h => ?_⟩
  refine LamX.run_ofS lk hcd Sc rm.toRoom e0 bd rv (ln _ _ _ _ h) fun _ => ⟨_, hbody cdv A o s0 H E (rm.deep _), ?_⟩
  obtain ⟨S, ρ, G, ds, m, r, hl, h⟩ := h
  refine ⟨⟨ρ, G, H, G, ρ⟩, _, S, ρ, G, ⟨start_mem m r, .refl, fun i d a h1 h2 => ?_, .refl, List.prefix_refl _⟩, ?_⟩
  · exfalso
    have hm := List.mem_of_getElem? h1
    rcases List.mem_append.mp hm with z | z
    · obtain ⟨_, _, e⟩ := List.mem_map.mp z; cases e
    · cases (List.eq_of_mem_replicate z)
  · unfold bodyRun at h
    cases q : δ (ds.map Sl.val ++ List.replicate (N.length - ds.length) Sl.non) S with
    | next Γ S' => rw [q] at h; exact fun ρ' G' H' σ' s' => h .non ρ' G' H' s'.mem.toS s'.nx (rep_non.mpr rfl)
    | ret d S' => rw [q] at h; exact fun v ρ' G' H' m' n' r' => h v ρ' G' H' m' n' r'
    | exc e Γ S' => rw [q] at h; exact fun c dx ρ' G' H' σ' s' er => h c dx ρ' G' H' s'.mem.toS s'.nx er
    | brk _ _ => rw [q] at h; exact h.elim
    | cont _ _ => rw [q] at h; exact h.elim
    | stuck => rw [q] at h; exact h.elim
end
/-! ### a call -/
section
variable {X : Cx} {cls : Nat → Addr} {W : WX} {k : Nat} {f : Addr} {fd : FuncData} {ps : List Str} {x : Str} {p pos : Pos} {e : Expr} {es : List Expr} {α : Da} {F : List D → List D → Res D} {sp : Sp}
theorem goesG {pins : List (Addr × Obj)} {σ : L2.St} {H : Hp} {s : Shared} {Q : VK} {E : XK} {us : List Value} {vs : List V} (Fn : FnG X.prog X.w X.K X.mg X.base k f fd ps sp) (rm : RoomG k X.A) (bd : Binds X.K fd ps []) (pa : PassesAt (L2.CX X.prog X.w) X σ E)
    (I : Inv X pins σ H s) (rv : Vals vs us) (h : sp vs H Q E) : wpAny (model X.prog X.w) X.A (call (.ref f) us) (EP X pins σ Q) X.xe s := by
  have b2 : BindsTo s fd ⟨us, []⟩ (ps.zip us) := by
    have z := bd s us I.kIn (by rw [List.append_nil, ← rv.length]; exact Fn.lng _ _ _ _ h)
    rwa [List.append_nil] at z
  refine wpAny_call (codeAny_mono (Fn.goes X.A X.stack s H ⟨us, []⟩ us vs Q E rm I.env0 b2 rv h) ?_)
  rintro (er | ⟨u⟩ | _ | _ | _) s2 hq
  all_goals first | exact pa pins H s er s2 I hq | exact I.after hq | exact hq.elim
theorem exG {δ : Da} {σ : L2.St} {H : Hp} {Q : VK} (tk : Takes X W) (hal : ALen δ ps.length) (h : tE ⟨X.K, cls⟩ W (RS ⟨X.K, cls⟩) (eCall F δ) σ H Q) :
    tA ⟨X.K, cls⟩ W δ σ H fun vs H1 => spD ⟨X.K, cls⟩ ps.length F vs H1 Q (fun c d H2 => W c d σ H2) := by
  obtain ⟨Γ, S, ρ, G, m, p⟩ := h
  refine ⟨Γ, S, ρ, G, m, ?_⟩
  unfold eCall at p
  cases q : δ Γ S with
  | ok ds S1 =>
    rw [q] at p
    intro vs ρ1 G1 H1 m1 n1 r1
    refine ⟨S1, ρ1, G1, ds, m1.toS, r1, by rw [← r1.length]; exact hal.le _ _ _ _ q, ?_⟩
    simp only [Res.bind_ok] at p
    cases z : F ds S1 with
    | ok d S2 => rw [z] at p; exact fun v ρ2 G2 H2 m2 n2 r2 => p v ρ2 G2 H2 (m1.step n2 m2) (n1.trans n2) r2
    | exc x S2 => rw [z] at p; exact fun c dx ρ2 G2 H2 m2 n2 r2 => p c dx ρ2 G2 H2 (m1.step n2 m2) (n1.trans n2) r2
    | stuck => rw [z] at p; exact p
  | exc x S1 => rw [q] at p; exact p
  | stuck => rw [q] at p; exact p
theorem de_callG (Fn : FnG X.prog X.w X.K X.mg X.base k f fd ps (spD ⟨X.K, cls⟩ ps.length F)) (tk : Takes X W) (rm : RoomG k X.A) (hg : Gl X x) (hm : X.mg x = some (.ref f)) (hk : PySem.W.keepIn X.K (.ref f) = true) (bd : Binds X.K fd ps [])
    (ha : DA X cls W (e :: es) α) (hal : ALen α ps.length) (hdb : (x == ("__debug__" : Str)) = false := by decide) (he : starEach (e :: es) X.env = (false, eval e X.env) :: starEach es X.env := by rfl) (pl : (backTo pos (starEach es X.env)).any (·.1) = false := by rfl) :
    DE X cls W (.Call (.Name x p) (e :: es) [] pos) (eCall F α) := ⟨fun pins s σ H Q I h => by
  refine wpAny_Call_Name_kw (ld_glob I hg hm ?_ hdb)
  exact PySem.W.callWith_K (h₀ := X.base) I.ok.mod.kin hk (thn (ha.run pos pins s σ H _ I (exG tk hal h)) fun us s1 ⟨vs, H1, I1, rv, q⟩ => ⟨I1.kIn, goesG Fn rm bd (passAt tk σ) I1 rv q⟩) he pl⟩
theorem de_call0G (Fn : FnG X.prog X.w X.K X.mg X.base k f fd [] (spD ⟨X.K, cls⟩ 0 F)) (tk : Takes X W) (rm : RoomG k X.A) (hg : Gl X x) (hm : X.mg x = some (.ref f)) (hk : PySem.W.keepIn X.K (.ref f) = true) (bd : Binds X.K fd [] [])
    (hdb : (x == ("__debug__" : Str)) = false := by decide) : DE X cls W (.Call (.Name x p) [] [] pos) (eCall F aNil) := ⟨fun pins s σ H Q I h => by
  refine wpAny_Call_Name_kw (ld_glob I hg hm ?_ hdb)
  refine PySem.W.callWith_K0 I.kIn hk (goesG (us := []) (vs := []) Fn rm bd (passAt tk σ) I .nil ?_)
  obtain ⟨Γ, S, ρ, G, m, p⟩ := exG (ps := []) (δ := aNil) tk ALen.nil h
  exact p [] ρ G H m .refl .nil⟩
end
end DL

namespace DL
open PySem PySem.Spec PyProof.Rows L2
/-! ### the law's end -/
def scrO (vs : List Value) : Obj := { cls := .type "list", data := .seq vs.toArray }
/-- the script alone -/
def hpOne (K : PySem.W.Frag) (a : Addr) (u : HO) : Hp := fun b => if b = a ∧ K.lookup a = none then some u else none
theorem hpOne_some {K : PySem.W.Frag} {a b : Addr} {u t : HO} (h : hpOne K a u b = some t) : b = a ∧ K.lookup a = none ∧ t = u := by
  unfold hpOne at h
  split at h
  · rename_i q; cases h; exact ⟨q.1, q.2, rfl⟩
  · cases h
theorem hpOne_off {K : PySem.W.Frag} {a b : Addr} {u : HO} (h : b = a → K.lookup a ≠ none) : hpOne K a u b = none := if_neg fun q => h q.1 q.2
section
variable {P : Program} {w : World} {K : PySem.W.Frag} {mg mb : Str → Option Value} {k : Nat} {fa a : Addr} {fd : FuncData} {x : Str} {s : Shared} {vs : List Value} {ns : List Int}
theorem law_endG (kin : K.In s.heap) (mN : s.heap.Ns mainGlobals mg) (bN : s.heap.Ns builtinsNs mb) (bb : ∀ y : Str, y ≠ "__name__" → mb y = bootBuiltins y) (nl : s.heap.NoLimit) (ng : s.gens = #[])
    (ao : s.heap.get? a = some (scrO vs)) (ii : IntsAre vs ns) (il : ns.length ≤ 63) (rm : RoomG k callerA)
    (F : ∀ base : Heap, K.In base → base.Ns mainGlobals mg → FnG P w K mg base k fa fd [x] (spLaw K)) (bd : ∀ (s : Shared) (u : Value), BindsTo s fd ⟨[u], []⟩ [(x, u)]) :
    codeAny (model P w) callerA (.call (.ref fa) ⟨[.ref a], []⟩) (fun r t => r = .ok (.ret (.bool true)) ∧ OldK s.heap t.heap ∧ t.os = s.os ∧ AllBare t.gens) s := by
  have iv := vals_ints ii
  have sl : ns.length ≤ sizeLine := Nat.le_trans il (by decide)
  obtain ⟨H, eH⟩ : ∃ H, H = hpOne K a (.frz (scrO vs) (.lst (ns.map V.int))) := ⟨_, rfl⟩
  -- the heap without the script
  have low : ∀ (b : Addr) (o : Obj), s.heap.get? b = some o → (b = a → K.lookup a ≠ none) → (hidT s.heap H).get? b = some o := fun b o e n => hidT_get e (by rw [eH]; exact hpOne_off n)
  have dic : ∀ {b : Addr} {o : Obj} {es : Array DictEntry} {n : Nat}, s.heap.get? b = some o → o.data = .dict es n → (hidT s.heap H).get? b = some o := fun {b o es n} e d => low b o e fun q => by
    subst q
    rw [ao] at e; cases e
    exact (show False by have d2 : Data.seq vs.toArray _ = Data.dict es n := d; cases d2).elim
  have nsD : ∀ {b : Addr} {m : Str → Option Value}, s.heap.Ns b m → (hidT s.heap H).Ns b m := fun {b m} ⟨o, es, n, e, d, r⟩ => ⟨o, es, n, dic e d, d, r⟩
  have kinD : K.In (hidT s.heap H) := fun b o e => low b o (kin b o e) fun q => by subst q; rw [e]; exact nofun
  have md : L2.Mod K mg (hidT s.heap H) := ⟨kinD, nsD mN, ⟨mb, nsD bN, bb⟩, by obtain ⟨mc, u1, u2⟩ := nl; exact ⟨mc, nsD u1, u2⟩⟩
  have held : HOk P w H s.heap := fun b t e => by
    rw [eH] at e
    obtain ⟨rfl, _, rfl⟩ := hpOne_some e
    exact ⟨ao, by rw [List.length_map]; exact sl, vs, _, iv, ao⟩
  have ev : Env0 P w K mg (hidT s.heap H) callerA [] s H := ⟨rfl, md, fun b o e => of_hidT e, Nat.le_of_eq (hidT_size _ _), trivial, fun b z => (List.not_mem_nil z).elim, held, .of_eq ng⟩
  have sq : SqL K H a (ns.map V.int) := by
    cases q : K.lookup a with
    | none => exact .inl (.inr ⟨scrO vs, by rw [eH]; exact if_pos ⟨rfl, q⟩⟩)
    | some o =>
      have e := kin a o q
      rw [ao] at e; cases e
      exact .inr ⟨_, vs.toArray, _, q, rfl, rfl, rfl, by rw [List.size_toArray, ii.length]; exact sl, by simpa using iv⟩
  refine codeAny_mono ((F _ kinD (nsD mN)).goes callerA [] s H ⟨[.ref a], []⟩ [.ref a] [.ref a] (fun v _ => v = .bl true) (fun _ _ _ => False) rm ev (bd s (.ref a)) (.cons rfl .nil) ⟨a, ns, rfl, sq, il, fun _ => rfl⟩) ?_
  intro r t h
  match r, h with
  | .error er, h => obtain ⟨_, _, _, _, _, _, _, _, _, _, _, _, z⟩ := h; exact z.elim
  | .ok .next, h => exact h.elim
  | .ok .brk, h => exact h.elim
  | .ok .cont, h => exact h.elim
  | .ok (.ret u), h =>
    obtain ⟨v, H2, os, bare, un, held2, rv, q⟩ := h
    have qv : v = .bl true := q
    subst qv
    obtain rfl : u = Value.bool true := rv
    refine ⟨rfl, OldK.of_keep fun b o e => ?_, os, bare⟩
    cases z : H b with
    | none => exact un.keep b o e z (fun c => List.not_mem_nil c) (fun c => List.not_mem_nil c)
    | some t2 =>
      have z2 := z
      rw [eH] at z2
      obtain ⟨rfl, _, rfl⟩ := hpOne_some z2
      rw [ao] at e; cases e
      exact (held2 b _ (un.frzs b _ _ z)).1
theorem law_headG {l : PySem.W.OpenLaw} {q : Program} {loose : List Str} {XP : (Str → Option Value) → Heap → Prop} {YP : World → Heap → Prop} {d : DefRec} {K : Params → PySem.W.Frag}
    (hn : l.most = some 63) (hdf : d.params.defaults = []) (rm : RoomG k callerA) (hY : ∀ (w : World) (h : Heap), YP w h → (K w.params).In h)
    (F : ∀ (w : World) (mg : Str → Option Value) (fa : Addr) (h : Heap), (K w.params).In h → h.Ns mainGlobals mg → mg d.name = some (.ref fa) →
      ∃ fd : FuncData, (∀ (s : Shared) (u : Value), BindsTo s fd ⟨[u], []⟩ [(x, u)]) ∧ ∀ base : Heap, (K w.params).In base → base.Ns mainGlobals mg → FnG l.prog w (K w.params) mg base k fa fd [x] (spLaw (K w.params))) :
    PySem.W.WalkO q loose XP YP l.row.toRowW d [] (fun f vs => PySem.call f vs) := by
  refine Att.attach_callB hn hdf fun w s0 s1 mg mb fa o pm cd doc a vs ns G Y ho hd hcd hmg hobj hints hlen hbits hg => ?_
  obtain ⟨fd, bd, hF⟩ := F w mg fa _ (hY w _ Y) G.T.g hmg
  exact law_endG (hY w _ Y) G.T.g G.T.b G.T.builtins G.T.nolimit hg hobj hints hlen rm hF bd
end
end DL

namespace DL
open PySem PySem.Spec PyProof.Rows L2
section
variable {C : Cn} {X : Cx} {cls : Nat → Addr} {W : WX} {a b c e : Expr} {δa δb δc : De} {pos p : Pos}
/-! ### a ≤ b ≤ c -/
theorem x_chain {R R' : R2} {f g : D → D → Option D} (hf : R2Ok ⟨X.K, cls⟩ (RS ⟨X.K, cls⟩) R f) (hg : R2Ok ⟨X.K, cls⟩ (RS ⟨X.K, cls⟩) R' g) {σ : L2.St} {H : Hp} {Q : VK} (h : tE ⟨X.K, cls⟩ W (RS ⟨X.K, cls⟩) (eChain f g δa δb δc) σ H Q) :
    tChain R R' (tE ⟨X.K, cls⟩ W (RO ⟨X.K, cls⟩) δa) (tE ⟨X.K, cls⟩ W (RO ⟨X.K, cls⟩) δb) (tE ⟨X.K, cls⟩ W (RO ⟨X.K, cls⟩) δc) σ H Q := by
  obtain ⟨Γ, S, ρ, G, m, p⟩ := h
  refine ⟨Γ, S, ρ, G, m, (Post.seq back_RS p).mono fun x H1 ⟨dx, S1, ρ1, G1, m1, n1, r1, p1⟩ => ⟨Γ, S1, ρ1, G1, m1, (Post.seq back_RS p1).mono fun y H2 ⟨dy, S2, ρ2, G2, m2, n2, r2, p2⟩ => ?_⟩⟩
  cases q : f (deref S2 dx) (deref S2 dy) with
  | none => rw [q] at p2; exact p2.elim
  | some k =>
    rw [q] at p2
    simp only [ofO_some, Res.bind_ok] at p2
    refine hf S2 ρ2 G2 H2 x y k _ _ _ m2.toS (m2.read (RO.step (H1 := H2) n2 r1)) (m2.read r2) q fun v ρ3 G3 H3 m3 n3 r3 => ?_
    cases k <;> try exact p2.elim
    rename_i kb
    refine ⟨kb, rep_bl.mp r3, ?_⟩
    have m3' := m2.step n3 m3
    cases kb with
    | false => exact p2.here (S := S2) m3' n3 (rep_bl.mpr rfl)
    | true =>
      have p3 := Post.shift back_RS p2 n3
      refine ⟨Γ, S2, ρ3, G3, m3', (Post.seq back_RS p3).mono fun z H4 ⟨dz, S4, ρ4, G4, m4, n4, r4, p4⟩ => ?_⟩
      obtain ⟨d, hd, p5⟩ := ofO_post p4
      exact hg S4 ρ4 G4 H4 y z d _ _ Q m4.toS (m4.read (RO.step (H1 := H4) (n3.trans n4) r2)) (m4.read r4) hd fun v ρ5 G5 H5 m5 n5 r5 => p5.here (m4.step n5 m5) n5 r5
theorem de_chain (ha : DO X cls W a δa) (hb : DO X cls W b δb) (hc : DO X cls W c δc) (hm : lastMarks [.LtE, .LtE] [b, c] = false := by with_unfolding_all rfl) : DE X cls W (.Compare a [.LtE, .LtE] [b, c] pos) (eChain oLe oLe δa δb δc) :=
  PE.weak (pe_chain or_le or_le ha hb hc hm) fun _ _ _ h => x_chain ok_ord ok_ord h
theorem dt_chain (ha : DO X cls W a δa) (hb : DO X cls W b δb) (hc : DO X cls W c δc) (hm : lastMarks [.LtE, .LtE] [b, c] = false := by with_unfolding_all rfl) : DT X cls W (.Compare a [.LtE, .LtE] [b, c] pos) (tB (eChain oLe oLe δa δb δc)) :=
  PT.weak (pt_chain or_le or_le ha hb hc hm) fun σ H Q ⟨Γ, S, ρ, G, m, p⟩ => by
    refine x_chain (W := W) (cls := cls) ok_ord ok_ord ⟨Γ, S, ρ, G, m, (Post.seq back_RB p).mono fun v H1 ⟨d, S1, ρ1, G1, m1, n1, r1, p1⟩ => ?_⟩
    obtain ⟨k, hk, p2⟩ := ofO_post p1
    cases d <;> try cases hk
    exact ⟨k, rep_bl.mp r1, p2.at m1 rfl⟩
/-! ### abs, max, min, sum -/
def dAbs : D → Option D
  | .int i => some (.int (if i < 0 then -i else i))
  | _ => none
def dMax : D → D → Option D
  | .int i, .int j => some (.int (if j > i then j else i))
  | _, _ => none
def dMin : D → D → Option D
  | .int i, .int j => some (.int (if j < i then j else i))
  | _, _ => none
def asInts : List D → Option (List Int)
  | [] => some []
  | .int i :: r => (asInts r).map (i :: ·)
  | _ :: _ => none
def dSum : D → Option D
  | .lst xs => (asInts xs).map fun l => .int l.sum
  | _ => none
theorem reps_ints {ρ : List Addr} {G : Hp} : ∀ {ds : List D} {vs : List V} {l : List Int}, Reps C ρ G ds vs → asInts ds = some l → vs = l.map V.int
  | [], _, _, h, e => by rw [asInts] at e; cases e; exact h.inv0
  | x :: r, _, l, h, e => by
    obtain ⟨v, vs, rfl, h1, h2⟩ := h.inv
    cases x <;> rw [asInts] at e <;> try cases e
    rename_i i
    cases q : asInts r with
    | none => rw [q] at e; cases e
    | some l' =>
      rw [q] at e; cases e
      rw [reps_ints h2 q, rep_int.mp h1]; rfl
    all_goals exact nofun
theorem rc_abs : RC1 C (RS C) (fun xs H Q => ∃ i, xs = [.int i] ∧ Q (.int (if i < 0 then -i else i)) H) dAbs := fun S ρ G H x d dx Q m rx e q => by
  cases dx <;> try cases e
  rw [rt_int] at rx; subst rx
  exact ⟨_, rfl, q _ _ _ _ m .refl (rep_int.mpr rfl)⟩
theorem rc_max : RC2 C (RS C) (fun xs H Q => ∃ i j, xs = [.int i, .int j] ∧ Q (.int (if j > i then j else i)) H) dMax := fun S ρ G H x y d dx dy Q m rx ry e q => by
  cases dx <;> cases dy <;> try cases e
  rw [rt_int] at rx ry; subst rx; subst ry
  exact ⟨_, _, rfl, q _ _ _ _ m .refl (rep_int.mpr rfl)⟩
theorem rc_min : RC2 C (RS C) (fun xs H Q => ∃ i j, xs = [.int i, .int j] ∧ Q (.int (if j < i then j else i)) H) dMin := fun S ρ G H x y d dx dy Q m rx ry e q => by
  cases dx <;> cases dy <;> try cases e
  rw [rt_int] at rx ry; subst rx; subst ry
  exact ⟨_, _, rfl, q _ _ _ _ m .refl (rep_int.mpr rfl)⟩
theorem rc_sum : RC1 C (RS C) (rSum C.K) dSum := fun S ρ G H x d dx Q m rx e q => by
  cases dx <;> try cases e
  rename_i xs
  obtain ⟨a, vs, rfl, h1, r1⟩ := rx
  simp only [dSum] at e
  cases k : asInts xs with
  | none => rw [k] at e; cases e
  | some l =>
    rw [k] at e; cases e
    have z := reps_ints r1 k
    subst z
    exact ⟨a, l, rfl, SqL.of h1, q _ _ _ _ m .refl (rep_int.mpr rfl)⟩
theorem de_abs (hg : Gl X "abs") (hm : X.mg "abs" = none) (ha : DO X cls W a δa) (he : starEach [a] X.env = (false, eval a X.env) :: starEach [] X.env := by rfl) (hpl : (backTo pos (starEach [] X.env)).any (·.1) = false := by rfl) : DE X cls W (.Call (.Name "abs" p) [a] [] pos) (eUn dAbs δa) :=
  x_c1 back_RS (pe_callB call_abs hg hm (by decide +kernel) (da1 ha he) (by decide) (by decide) he hpl) rc_abs
theorem de_sum (hg : Gl X "sum") (hm : X.mg "sum" = none) (hc : X.calm = true) (ha : DO X cls W a δa) (he : starEach [a] X.env = (false, eval a X.env) :: starEach [] X.env := by rfl) (hpl : (backTo pos (starEach [] X.env)).any (·.1) = false := by rfl) : DE X cls W (.Call (.Name "sum" p) [a] [] pos) (eUn dSum δa) :=
  x_c1 back_RS (pe_callB (cr_sum hc) hg hm (by decide +kernel) (da1 ha he) (by decide) (by decide) he hpl) rc_sum
theorem de_max (hg : Gl X "max") (hm : X.mg "max" = none) (hc : X.calm = true) (ha : DO X cls W a δa) (hb : DO X cls W b δb) (he : starEach [a, b] X.env = (false, eval a X.env) :: starEach [b] X.env := by rfl) (he2 : starEach [b] X.env = (false, eval b X.env) :: starEach [] X.env := by rfl)
    (hpl : (backTo pos (starEach [b] X.env)).any (·.1) = false := by rfl) : DE X cls W (.Call (.Name "max" p) [a, b] [] pos) (eOp dMax δa δb) :=
  x_c2 back_RS (pe_callB (call_max2 hc) hg hm (by decide +kernel) (da2 ha hb he he2) (by decide) (by decide) he hpl) rc_max
theorem de_min (hg : Gl X "min") (hm : X.mg "min" = none) (hc : X.calm = true) (ha : DO X cls W a δa) (hb : DO X cls W b δb) (he : starEach [a, b] X.env = (false, eval a X.env) :: starEach [b] X.env := by rfl) (he2 : starEach [b] X.env = (false, eval b X.env) :: starEach [] X.env := by rfl)
    (hpl : (backTo pos (starEach [b] X.env)).any (·.1) = false := by rfl) : DE X cls W (.Call (.Name "min" p) [a, b] [] pos) (eOp dMin δa δb) :=
  x_c2 back_RS (pe_callB (call_min2 hc) hg hm (by decide +kernel) (da2 ha hb he he2) (by decide) (by decide) he hpl) rc_min
/-! ### repr of lists and tuples -/
def isSq : D → Bool | .lst _ => true | .tup _ => true | _ => false
def dRepr (d : D) : Option D := match toPy d with
  | some q => if isSq d = true ∧ q.showable = true ∧ q.hasDict = false ∧ q.depth ≤ 60 ∧ q.shown.length ≤ sizeLine then some (.str q.shown) else none
  | none => none
theorem call_reprG (hu : X.A.units + 64 < cLine) (gd : X.A.guards = some []) : CallR X (.builtin "repr") (fun xs H Q => ∃ a q, xs = [.ref a] ∧ Dp X.K H (.ref a) q ∧ q.showable = true ∧ q.hasDict = false ∧ q.depth ≤ 60 ∧ q.shown.length ≤ sizeLine ∧ Q (.str q.shown) H) := by
  intro pins s σ H xs us Q I r h
  obtain ⟨a, q, rfl, hd, hs, hD, hdp, hl, k⟩ := h
  obtain ⟨u, rfl, ru⟩ := vals1 r
  obtain ⟨as, rd⟩ := Dp.reads I q _ _ hd ru
  obtain rfl : u = Value.ref a := ru
  exact repr_of_reads' rd hs (fun z => by rw [hD] at z; cases z) gd (by omega) (fun _ _ z => z) (fun h' u tk hk => ⟨.str _, H, I.kept hk, ⟨_, rfl⟩, k⟩) hl
theorem rc_repr : RC1 C (RS C) (fun xs H Q => ∃ a q, xs = [.ref a] ∧ Dp C.K H (.ref a) q ∧ q.showable = true ∧ q.hasDict = false ∧ q.depth ≤ 60 ∧ q.shown.length ≤ sizeLine ∧ Q (.str q.shown) H) dRepr := fun S ρ G H x d dx Q m rx e q => by
  unfold dRepr at e
  split at e
  · rename_i y hy
    split at e
    · rename_i c
      cases e
      obtain ⟨c1, c2, c3, c4, c5⟩ := c
      have dp := dp_rt m.sub rx hy
      have : ∃ a, x = V.ref a := by
        cases dx <;> try cases c1
        · obtain ⟨a, vs, rfl, _⟩ := rx; exact ⟨a, rfl⟩
        · rw [rt_tup] at rx; obtain ⟨a, vs, rfl, _⟩ := rx; exact ⟨a, rfl⟩
      obtain ⟨a, rfl⟩ := this
      exact ⟨a, y, rfl, dp, c2, c3, c4, c5, q _ _ _ _ m .refl (rep_str.mpr rfl)⟩
    · cases e
  · cases e
theorem de_repr {k : Nat} (rm : RoomG k X.A) (hg : Gl X "repr") (hm : X.mg "repr" = none) (ha : DO X cls W a δa) (he : starEach [a] X.env = (false, eval a X.env) :: starEach [] X.env := by rfl) (hpl : (backTo pos (starEach [] X.env)).any (·.1) = false := by rfl) : DE X cls W (.Call (.Name "repr" p) [a] [] pos) (eUn dRepr δa) :=
  x_c1 back_RS (pe_callB (call_reprG rm.units rm.gd) hg hm (by decide +kernel) (da1 ha he) (by decide) (by decide) he hpl) rc_repr
end
/-! ### found.reverse() -/
section
variable {X : Cx} {cls : Nat → Addr} {W : WX} {c : Expr} {pos : Pos}
def sRevO (i : Nat) : Ds := fun Γ S => match Γ[i]? with
  | some (.own (.lst xs)) => .next (Γ.set i (.own (.lst xs.reverse))) S
  | _ => .stuck
theorem Reps.rev {C : Cn} {ρ : List Addr} {G : Hp} : ∀ {ds : List D} {vs : List V}, Reps C ρ G ds vs → Reps C ρ G ds.reverse vs.reverse
  | [], _, h => by rw [h.inv0]; exact Reps.nil
  | x :: xs, _, h => by
    obtain ⟨v, r, rfl, h1, h2⟩ := h.inv
    rw [List.reverse_cons, List.reverse_cons]
    exact (Reps.rev h2).append (.cons h1 .nil)
theorem ds_revO (i : Nat) (h : PE X c (tBM0 X.K "list" rReverse (tVar i))) (hs : swapsWith c none pos.line X.env = pure false := by rfl) : DS X cls W (.Expr c pos) (sRevO i) :=
  PS.weak (ps_expr h hs) fun D σ H ⟨en, Γ, S, ρ, G, s, p⟩ => by
    unfold sRevO at p
    split at p
    · rename_i xs hx
      obtain ⟨a, vs, e, h1, r, g, n⟩ := own_at s hx
      refine ⟨_, e, .inl ⟨rfl, vs, SqL.of h1⟩, a, vs, rfl, rfl, h1, ?_⟩
      exact p _ _ _ _ (s.poke hx e ⟨_, upd_same, r.rev⟩)
    · exact p.elim
end
end DL

namespace DL
open PySem PySem.Spec PyProof.Rows L2
/-! ### dicts -/
def dPutX : List Key → List D → Key → D → List D
  | q :: ks, x :: xs, k, d => (if q = k then d else x) :: dPutX ks xs k d
  | _, xs, _, _ => xs
def dPut (ks : List Key) (xs : List D) (k : Key) (d : D) : List Key × List D := if (ks.any fun q => decide (q = k)) = true then (ks, dPutX ks xs k d) else (ks ++ [k], xs ++ [d])
section
variable {C : Cn} {ρ : List Addr} {G H : Hp}
theorem dGet_val : ∀ {ks : List Key} {xs : List D} {vs : List V}, Reps C ρ G xs vs → ks.length = xs.length → ∀ k, match dGet ks xs k with
    | some d => ∃ v, valV (ks.zip vs) k = some v ∧ Rep C ρ G d v
    | none => valV (ks.zip vs) k = none
  | [], [], vs, r, _, k => by
    have e : dGet [] ([] : List D) k = none := by unfold dGet; rfl
    rw [e]; rfl
  | q :: ks, x :: xs, vs, r, hl, k => by
    obtain ⟨v, us, rfl, h1, h2⟩ := r.inv
    rw [dGet]
    by_cases e : q = k
    · rw [if_pos e]
      exact ⟨v, valV_pos (p := (q, v)) e, h1⟩
    · rw [if_neg e]
      have ih := dGet_val (ks := ks) h2 (by simpa using hl) k
      rw [List.zip_cons_cons, valV_neg (p := (q, v)) e]
      exact ih
theorem rt_dct {ks : List Key} {xs : List D} {v : V} : RT C ρ G H (.dct ks xs) v ↔ ∃ a vs, v = V.ref a ∧ H a = some (.dK (ks.zip vs)) ∧ ks.length = xs.length ∧ Reps C ρ G xs vs := Iff.rfl
end
section
variable {X : Cx} {cls : Nat → Addr} {W : WX} {a b c e : Expr} {δa δb δc : De} {pos p apos cpos : Pos}
def eDct0 : De := fun _ S => .ok (.dct [] []) S
theorem df_dct0 : DF X cls W (.Dict [] [] pos) eDct0 := PE.weak pe_dnewK fun σ H Q ⟨Γ, S, ρ, G, m, q⟩ => fun p hp => by
  obtain ⟨m', n', np, gp⟩ := m.new (o := .dK []) hp
  exact q (.ref p) ρ G _ m' n' ⟨p, rfl, np, hp, gp, [], upd_same, rfl, Reps.nil⟩
def keyV (d : D) (k : Key) : Prop := match d, k with
  | .int i, .inl j => i = j
  | .str x, .inr y => x = y
  | _, _ => False
theorem keyD_v {C : Cn} {ρ : List Addr} {G : Hp} {d : D} {k : Key} {v : V} (h : keyD d = some k) (r : Rep C ρ G d v) : v = kV k := by
  cases d <;> try cases h
  · rw [rep_int] at r; subst r; rfl
  · rw [rep_str] at r; subst r; rfl
theorem dget_rt {C : Cn} {ρ : List Addr} {G H : Hp} {ks : List Key} {xs : List D} {a : Addr} {vs : List V} (h1 : H a = some (.dK (ks.zip vs))) (hl : ks.length = xs.length) (r : Reps C ρ G xs vs) (q : Key) : ∃ o, DGet H a (kV q) o ∧ match dGet ks xs q with
    | some d => ∃ v, o = some v ∧ Rep C ρ G d v
    | none => o = none := by
  refine ⟨_, DGet.k h1, ?_⟩
  have k := dGet_val r hl q
  cases z : dGet ks xs q with
  | some d => rw [z] at k; exact k
  | none => rw [z] at k; exact k
/-- d.get(k, x) -/
def dGet2 (d k x : D) : Option D := match d, keyD k with
  | .dct ks xs, some q => some ((dGet ks xs q).getD x)
  | _, _ => none
def isDct : D → Bool | .dct _ _ => true | _ => false
def eGet2 (a b c : De) : De := fun Γ S => (a Γ S).bind fun x S1 => if isDct (deref S1 x) = true then (b Γ S1).bind fun y S2 => (c Γ S2).bind fun z S3 => ofO (dGet2 (deref S3 x) y z) S3 else .stuck
theorem isDct_rt {C : Cn} {ρ : List Addr} {G H : Hp} {d : D} {v : V} (h : isDct d = true) (r : RT C ρ G H d v) : ∃ a, v = V.ref a ∧ IsD H a := by
  cases d <;> try cases h
  obtain ⟨a, vs, rfl, h1, _, _⟩ := r
  exact ⟨a, rfl, .inl ⟨_, .inl h1⟩⟩
theorem de_dget2 (hu : X.A.units + 1 < cLine) (ha : DO X cls W a δa) (hb : DE X cls W b δb) (hc : DE X cls W c δc) (m : M2 X a "get" apos b c cpos) : DE X cls W (.Call (.Attribute a "get" apos) [b, c] [] cpos) (eGet2 δa δb δc) :=
  PE.weak (pe_dget2 hu ha hb hc m) fun σ H Q ⟨Γ, S, ρ, G, m, p⟩ => by
    refine ⟨Γ, S, ρ, G, m, (Post.seq back_RS p).mono fun x H1 ⟨dx, S1, ρ1, G1, m1, n1, r1, p1⟩ => ?_⟩
    split at p1
    · rename_i hd
      obtain ⟨ad, rfl, isd⟩ := isDct_rt hd (m1.read r1)
      refine ⟨ad, rfl, isd, Γ, S1, ρ1, G1, m1, (Post.seq back_RS p1).mono fun y H2 ⟨dy, S2, ρ2, G2, m2, n2, r2, p2⟩ => ⟨Γ, S2, ρ2, G2, m2, (Post.seq back_RS p2).mono fun z H3 ⟨dz, S3, ρ3, G3, m3, n3, r3, p3⟩ => ?_⟩⟩
      obtain ⟨d, hd3, p4⟩ := ofO_post p3
      have rt3 := m3.read (RO.step (H1 := H3) (n2.trans n3) r1)
      unfold dGet2 at hd3
      split at hd3
      · rename_i ks xs q e1 e2
        rw [e1] at rt3
        obtain ⟨a3, vs, e3, h3, hl, rr⟩ := rt3
        cases e3
        obtain ⟨o, g, k⟩ := dget_rt h3 hl rr q
        have ey := keyD_v e2 (r2.mono n3.ext n3.pre)
        subst ey
        refine ⟨o, g, ?_⟩
        cases z2 : dGet ks xs q with
        | some d2 =>
          rw [z2] at k hd3
          obtain ⟨v, rfl, rv⟩ := k
          cases hd3
          exact p4.at m3 rv
        | none =>
          rw [z2] at k hd3
          subst k
          cases hd3
          exact p4.at m3 r3
      · cases hd3
    · exact p1.elim
end
/-! ### found[k] = e, found a dict of the slot's own -/
section
variable {C : Cn} {ρ : List Addr} {G : Hp}
theorem zip_any : ∀ {ks : List Key} {vs : List V}, ks.length = vs.length → ∀ k, ((ks.zip vs).any fun kv => decide (kv.1 = k)) = ks.any fun q => decide (q = k)
  | [], _, _, _ => rfl
  | q :: ks, v :: vs, h, k => by
    rw [List.zip_cons_cons, List.any_cons, List.any_cons, zip_any (by simpa using h)]
theorem put_zip {d : D} {v : V} (rd : Rep C ρ G d v) {ks : List Key} {xs : List D} {vs : List V} (r : Reps C ρ G xs vs) (hl : ks.length = xs.length) (k : Key) :
    ∃ us, putK (ks.zip vs) k v = (dPut ks xs k d).1.zip us ∧ (dPut ks xs k d).1.length = (dPut ks xs k d).2.length ∧ Reps C ρ G (dPut ks xs k d).2 us := by
  have hv : ks.length = vs.length := by rw [hl, r.length]
  unfold putK dPut
  rw [zip_any hv]
  by_cases e : (ks.any fun q => decide (q = k)) = true
  · rw [if_pos e, if_pos e]
    have key : ∀ {ks : List Key} {xs : List D} {vs : List V}, Reps C ρ G xs vs → ks.length = xs.length → ∃ us, ((ks.zip vs).map fun kv => if kv.1 = k then (kv.1, v) else kv) = ks.zip us ∧ ks.length = (dPutX ks xs k d).length ∧ Reps C ρ G (dPutX ks xs k d) us := by
      intro ks
      induction ks with
      | nil =>
        intro xs vs r hl
        cases xs with
        | nil => exact ⟨[], rfl, rfl, Reps.nil⟩
        | cons _ _ => cases hl
      | cons q ks ih =>
        intro xs vs r hl
        cases xs with
        | nil => cases hl
        | cons x xs =>
          obtain ⟨w, us, rfl, h1, h2⟩ := r.inv
          obtain ⟨us2, e1, e2, e3⟩ := ih h2 (by simpa using hl)
          rw [dPutX]
          by_cases hq : q = k
          · exact ⟨v :: us2, by simp [hq, e1], by simp [e2], by rw [if_pos hq]; exact .cons rd e3⟩
          · exact ⟨w :: us2, by simp [hq, e1], by simp [e2], by rw [if_neg hq]; exact .cons h1 e3⟩
    exact key r hl
  · rw [if_neg e, if_neg e]
    refine ⟨vs ++ [v], ?_, by simp [hl], r.append (.cons rd .nil)⟩
    rw [List.zip_append hv]; rfl
end
section
variable {X : Cx} {cls : Nat → Addr} {W : WX} {a e : Expr} {ε1 ε2 : De} {pos pos' : Pos}
def sPutO (i : Nat) (k e : De) : Ds := fun Γ S => after (e Γ S) Γ fun d S1 => match Γ[i]? with
  | some (.own (.dct _ _)) => after (k Γ S1) Γ fun x S2 => match Γ[i]?, keyD x with
    | some (.own (.dct ks xs)), some q => if xs.length < sizeLine then .next (Γ.set i (.own (.dct (dPut ks xs q d).1 (dPut ks xs q d).2))) S2 else .stuck
    | _, _ => .stuck
  | _ => .stuck
theorem own_dct {C : Cn} {en : Ent} {Γ : List Sl} {S : List D} {ρ : List Addr} {G H : Hp} {σ : L2.St} (s : SI C en Γ S ρ G H σ) {i : Nat} {ks : List Key} {xs : List D} (h : Γ[i]? = some (.own (.dct ks xs))) : ∃ a vs, σ[i]? = some (some (V.ref a)) ∧ H a = some (.dK (ks.zip vs)) ∧ ks.length = xs.length ∧ Reps C ρ G xs vs ∧ G a = none ∧ a ∉ ρ := by
  obtain ⟨a, e, ⟨vs, h1, l, r⟩, g, n⟩ := s.mem.own i _ h
  exact ⟨a, vs, e, h1, l, r, g, n⟩
theorem ds_putO (i : Nat) (hu : X.A.units + 1 < cLine) (ho : PE X a (tVar i)) (hk : DE X cls W e ε1) {val : Expr} (hv : DE X cls W val ε2) (hs : swapsWith val (some (.Subscript a e pos')) pos.line X.env = pure false := by rfl) :
    DS X cls W (.Assign [.Subscript a e pos'] val pos) (sPutO i ε1 ε2) := PS.weak (ps_dput hu ho hk hv hs) fun D σ H ⟨en, Γ, S, ρ, G, s, p⟩ => ⟨Γ, S, ρ, G, s.mem, post_after s p fun d S1 ρ1 G1 H1 v m1 n1 s1 r1 p1 => by
  split at p1
  · rename_i ks0 xs0 hx
    obtain ⟨a, vs, e, h1, _, r, g, n⟩ := own_dct s1 hx
    refine ⟨_, e, Γ, S1, ρ1, G1, s1.mem, post_after s1 p1 fun d2 S2 ρ2 G2 H2 v2 m2 n2 s2 r2 p2 => ?_⟩
    split at p2
    · rename_i ks xs q hx2 hq
      obtain ⟨a', vs', e', h1', hl', r', g', n'⟩ := own_dct s2 hx2
      rw [e] at e'; cases e'
      split at p2
      · rename_i hz
        have ek := keyD_v hq r2
        subst ek
        obtain ⟨us, e1, e2, e3⟩ := put_zip (r1.mono n2.ext n2.pre) r' hl' q
        refine ⟨a, _, rfl, DPut.k h1' ?_, ?_⟩
        · rw [List.length_zip, hl', r'.length, Nat.min_self, ← r'.length]; exact hz
        · exact p2 _ _ _ _ (s2.poke hx2 e ⟨us, by rw [upd_same, e1], e2, e3⟩)
      · exact p2.elim
    · exact p2.elim
  · exact p1.elim⟩
end
/-! ### a[b], a a dict or not -/
section
variable {X : Cx} {cls : Nat → Addr} {W : WX} {a b : Expr} {δa δb : De} {pos : Pos}
theorem PE.or {e : Expr} {t t' : TE} (h : PE X e t) (h' : PE X e t') : PE X e (fun σ H Q => t σ H Q ∨ t' σ H Q) := ⟨fun pins s σ H Q I k => by
  rcases k with k | k
  · exact h.run pins s σ H Q I k
  · exact h'.run pins s σ H Q I k⟩
def dKey (d k : D) : Option D := match d, keyD k with
  | .dct ks xs, some q => dGet ks xs q
  | _, _ => none
def dIdxA (d k : D) : Option D := if isDct d = true then dKey d k else dIdx d k
theorem ok_key {C : Cn} : R2Ok C (RS C) (fun x y H Q => ∃ a v, x = .ref a ∧ DGet H a y (some v) ∧ Q v H) dKey := fun S ρ G H x y d dx dy Q m rx ry e k => by
  unfold dKey at e
  split at e
  · rename_i ks xs q hq
    obtain ⟨a, vs, rfl, h1, hl, r⟩ := rx
    obtain ⟨o, g, w⟩ := dget_rt h1 hl r q
    rw [e] at w
    obtain ⟨v, rfl, rv⟩ := w
    have ey : y = kV q := by
      cases dy <;> try cases hq
      · rw [rt_int] at ry; subst ry; rfl
      · rw [rt_str] at ry; subst ry; rfl
    subst ey
    exact ⟨a, v, rfl, g, k v _ _ _ m .refl rv⟩
  · cases e
theorem eOp_cases (Γ : List Sl) (S : List D) : eOp dIdxA δa δb Γ S = eOp dKey δa δb Γ S ∨ eOp dIdxA δa δb Γ S = eOp dIdx δa δb Γ S := by
  unfold eOp
  cases δa Γ S with
  | exc _ _ => exact .inl rfl
  | stuck => exact .inl rfl
  | ok x S1 =>
    simp only [Res.bind_ok]
    cases δb Γ S1 with
    | exc _ _ => exact .inl rfl
    | stuck => exact .inl rfl
    | ok y S2 =>
      simp only [Res.bind_ok]
      unfold dIdxA
      by_cases h : isDct (deref S2 x) = true
      · rw [if_pos h]; exact .inl rfl
      · rw [if_neg h]; exact .inr rfl
theorem de_subA (hu : X.A.units + 1 < cLine) (ha : DO X cls W a δa) (hb : DO X cls W b δb) (h0 : DE X cls W (.Subscript a b pos) (eOp dIdx δa δb)) (hs : NoSl b) : DE X cls W (.Subscript a b pos) (eOp dIdxA δa δb) :=
  PE.weak (PE.or (pe_dget hu ha hb hs) h0) fun σ H Q ⟨Γ, S, ρ, G, m, p⟩ => by
    rcases eOp_cases (δa := δa) (δb := δb) Γ S with e | e
    · rw [e] at p
      exact .inl (x_op (cls := cls) (W := W) (δa := δa) (δb := δb) back_RS ok_key ⟨Γ, S, ρ, G, m, p⟩)
    · rw [e] at p
      exact .inr ⟨Γ, S, ρ, G, m, p⟩
end
end DL

namespace DL
open PySem PySem.Spec PyProof.Rows L2
/-! ### sorted texts -/
def leS (a b : Str) : Bool := !ltCps b.cps.toList a.cps.toList
theorem leS_iff (a b : Str) : leS a b = true ↔ a.cps.toList ≤ b.cps.toList := by
  unfold leS
  rw [ltCps_eq, Bool.not_eq_true', decide_eq_false_iff_not, List.not_lt]
theorem leS_trans (a b c : Str) (h1 : leS a b = true) (h2 : leS b c = true) : leS a c = true := by
  rw [leS_iff] at *
  exact List.le_trans h1 h2
theorem leS_total (a b : Str) : (leS a b || leS b a) = true := by
  rw [Bool.or_eq_true, leS_iff, leS_iff]
  exact List.le_total _ _
theorem leS_anti (a b : Str) (h1 : leS a b = true) (h2 : leS b a = true) : a = b := by
  rw [leS_iff] at *
  have := List.le_antisymm h1 h2
  obtain ⟨⟨x⟩⟩ := a
  obtain ⟨⟨y⟩⟩ := b
  cases this; rfl
def srtS (l : List Str) : List Str := l.mergeSort leS
theorem rising_pair : ∀ (r : List Str) (x : Str), risingS x r = true → (x :: r).Pairwise fun a b => leS a b = true
  | [], x, _ => List.pairwise_singleton _ _
  | y :: r, x, h => by
    unfold risingS at h
    rw [Bool.and_eq_true] at h
    have hxy : leS x y = true := h.1
    have ih := rising_pair r y h.2
    refine List.Pairwise.cons (fun z hz => ?_) ih
    rcases List.mem_cons.mp hz with rfl | hz
    · exact hxy
    · exact leS_trans x y z hxy ((List.pairwise_cons.mp ih).1 z hz)
theorem sorted_pair (l : List Str) (h : sortedS l = true) : l.Pairwise fun a b => leS a b = true := by
  cases l with
  | nil => exact List.Pairwise.nil
  | cons x r => exact rising_pair r x h
theorem srt_uniq {ys xs : List Str} (hp : ys.Perm xs) (hs : sortedS ys = true) : ys = srtS xs :=
  List.Perm.eq_of_pairwise (le := fun a b => leS a b = true) (fun a b _ _ h1 h2 => leS_anti a b h1 h2) (sorted_pair ys hs) (List.pairwise_mergeSort leS_trans leS_total xs) (hp.trans (List.mergeSort_perm xs leS).symm)
def asStrs : List D → Option (List Str)
  | [] => some []
  | .str i :: r => (asStrs r).map (i :: ·)
  | _ :: _ => none
def keyStrs : List Key → Option (List Str)
  | [] => some []
  | .inr i :: r => (keyStrs r).map (i :: ·)
  | _ :: _ => none
theorem reps_strs2 {C : Cn} {ρ : List Addr} {G : Hp} : ∀ {ds : List D} {vs : List V} {l : List Str}, Reps C ρ G ds vs → asStrs ds = some l → vs = l.map V.str
  | [], _, _, h, e => by rw [asStrs] at e; cases e; exact h.inv0
  | x :: r, _, l, h, e => by
    obtain ⟨v, vs, rfl, h1, h2⟩ := h.inv
    cases x <;> rw [asStrs] at e <;> try cases e
    rename_i i
    cases q : asStrs r with
    | none => rw [q] at e; cases e
    | some l' =>
      rw [q] at e; cases e
      rw [reps_strs2 h2 q, rep_str.mp h1]; rfl
    all_goals exact nofun
theorem keyStrs_map : ∀ {ks : List Key} {l : List Str}, keyStrs ks = some l → ks = l.map Sum.inr
  | [], _, e => by rw [keyStrs] at e; cases e; rfl
  | x :: r, l, e => by
    cases x <;> rw [keyStrs] at e <;> try cases e
    · rename_i i
      cases q : keyStrs r with
      | none => rw [q] at e; cases e
      | some l' =>
        rw [q] at e; cases e
        rw [keyStrs_map q]; rfl
    all_goals exact nofun
theorem reps_mk {C : Cn} {ρ : List Addr} {G : Hp} : ∀ (l : List Str), Reps C ρ G (l.map D.str) (l.map V.str)
  | [] => Reps.nil
  | x :: r => .cons (rep_str.mpr rfl) (reps_mk r)
def dSorted : D → Option D
  | .lst xs => (asStrs xs).bind fun l => if l.length < 64 then some (.lst ((srtS l).map D.str)) else none
  | .dct ks _ => (keyStrs ks).bind fun l => if l.length < 64 then some (.lst ((srtS l).map D.str)) else none
  | _ => none
section
variable {C : Cn} {X : Cx} {cls : Nat → Addr} {W : WX} {a : Expr} {δa : De} {pos p : Pos}
def rSrt (K : PySem.W.Frag) : List V → Hp → VK → Prop := fun xs H Q => rSortedS K xs H Q ∨ ∃ (a : Addr) (kvs : List (Key × V)) (ks : List Str), xs = [.ref a] ∧ Rd H a (.dK kvs) ∧ kvs.map (·.1) = ks.map Sum.inr ∧ ks.length < 64 ∧
    ∀ ys p, ys.Perm ks → sortedS ys = true → H p = none → Q (.ref p) (upd H p (.lst (ys.map V.str)))
theorem rc_sorted : RC1 C (RF C) (rSrt C.K) dSorted := fun S ρ G H x d dx Q m rx e q => by
  cases dx <;> try cases e
  · rename_i xs
    obtain ⟨a, vs, rfl, h1, r1⟩ := rx
    simp only [dSorted] at e
    cases k : asStrs xs with
    | none => rw [k] at e; cases e
    | some l =>
      rw [k, Option.bind_some] at e
      split at e
      · rename_i hl
        cases e
        have z := reps_strs2 r1 k
        subst z
        refine .inl ⟨a, l, rfl, SqL.of h1, hl, fun ys p hp hs hn => ?_⟩
        obtain rfl := srt_uniq hp hs
        obtain ⟨m2, n2, r⟩ := x_new m (reps_mk (C := C) (ρ := ρ) (G := G) (srtS l)) hn
        exact q _ _ _ _ m2 n2 r
      · cases e
  · rename_i ks xs
    obtain ⟨a, vs, rfl, h1, hl0, r1⟩ := rx
    simp only [dSorted] at e
    cases k : keyStrs ks with
    | none => rw [k] at e; cases e
    | some l =>
      rw [k, Option.bind_some] at e
      split at e
      · rename_i hl
        cases e
        refine .inr ⟨a, _, l, rfl, .inl h1, ?_, hl, fun ys p hp hs hn => ?_⟩
        · rw [List.map_fst_zip (by rw [hl0, r1.length]; exact Nat.le_refl _)]; exact keyStrs_map k
        · obtain rfl := srt_uniq hp hs
          obtain ⟨m2, n2, r⟩ := x_new m (reps_mk (C := C) (ρ := ρ) (G := G) (srtS l)) hn
          exact q _ _ _ _ m2 n2 r
      · cases e
theorem call_srt (hc : X.calm = true) : CallR X (.builtin "sorted") (rSrt X.K) := fun pins s σ H xs us Q I r h => by
  rcases h with h | h
  · exact cr_sortedS pins s σ H xs us Q I r h
  · exact call_sortedD hc pins s σ H xs us Q I r h
theorem df_sorted (hg : Gl X "sorted") (hm : X.mg "sorted" = none) (hc : X.calm = true) (ha : DO X cls W a δa) (he : starEach [a] X.env = (false, eval a X.env) :: starEach [] X.env := by rfl) (hpl : (backTo pos (starEach [] X.env)).any (·.1) = false := by rfl) : DF X cls W (.Call (.Name "sorted" p) [a] [] pos) (eUn dSorted δa) :=
  x_c1 back_RF (pe_callB (call_srt hc) hg hm (by decide +kernel) (da1 ha he) (by decide) (by decide) he hpl) rc_sorted
end
end DL

namespace DL
open PySem PySem.Spec PyProof.Rows L2 LiI
/-! ### list(d.items()) -/
section
variable {C : Cn} {S : List D} {ρ : List Addr} {G G' H H' : Hp}
theorem mem_more (m : MemS C S ρ G H) (hG : Sub G G') (hH : ∀ b o, H b = some o → H' b = some o) (s : Sub G' H') (nw : ∀ a o, G' a = some o → G a = some o ∨ H a = none) : MemS C S ρ G' H' ∧ Nx ρ G H ρ G' H' := by
  have live : ∀ a, H' a = none → H a = none := fun a h => by
    cases q : H a with
    | none => rfl
    | some o => rw [hH a o q] at h; cases h
  refine ⟨⟨s, fun i d h => by simp at h, fun i d h => by simp at h, fun i j d d' a h => by simp at h, fun i d h => ?_, fun a ha => ?_, m.len, m.nd, rfl, fun i x h => by simp at h⟩, ⟨List.prefix_refl _, hG, nw, fun a o h _ => hH a o h, live, fun a h => .inl h⟩⟩
  · obtain ⟨a, e, r⟩ := m.sto i d h
    exact ⟨a, e, r.mono hG (List.prefix_refl _) fun o q => hH a o q⟩
  · cases q : G' a with
    | none => rfl
    | some o =>
      rcases nw a o q with z | z
      · rw [m.stG a ha] at z; cases z
      · obtain ⟨i, hi⟩ := List.mem_iff_getElem?.mp ha
        have hl : i < S.length := by rw [← m.len]; exact (List.getElem?_eq_some_iff.mp hi).1
        obtain ⟨b, e, r⟩ := m.sto i S[i] (List.getElem?_eq_getElem hl)
        rw [hi] at e; cases e
        obtain ⟨o2, h2⟩ := r.some
        rw [h2] at z; cases z
def keyK : Key → D
  | .inl i => .int i
  | .inr x => .str x
theorem keyK_rep (k : Key) : Rep C ρ G (keyK k) (kV k) := by
  cases k with
  | inl i => exact rep_int.mpr rfl
  | inr x => exact rep_str.mpr rfl
def itemsD : List Key → List D → List D
  | k :: ks, x :: xs => .tup [keyK k, x] :: itemsD ks xs
  | _, _ => []
theorem items_reps {F : Hp} : ∀ {ks : List Key} {xs : List D} {vs : List V} {ts : List Addr}, Reps C ρ F xs vs → ks.length = xs.length → Paired (fun (t : Addr) (q : Key × V) => F t = some (.tup [kV q.1, q.2])) ts (ks.zip vs) → Reps C ρ F (itemsD ks xs) (ts.map V.ref)
  | [], [], vs, ts, r, _, h => by
    cases h
    unfold itemsD; exact Reps.nil
  | [], x :: xs, _, _, _, hl, _ => by cases hl
  | k :: ks, [], _, _, _, hl, _ => by cases hl
  | k :: ks, x :: xs, vs, ts, r, hl, h => by
    obtain ⟨v, us, rfl, h1, h2⟩ := r.inv
    cases h with
    | cons a b =>
      unfold itemsD
      exact .cons (rep_tup.mpr ⟨_, _, rfl, .inl (.inl a), .cons (keyK_rep k) (.cons h1 .nil)⟩) (items_reps h2 (by simpa using hl) b)
end
def dItems : D → Option D
  | .dct ks xs => some (.lst (itemsD ks xs))
  | _ => none
section
variable {X : Cx} {cls : Nat → Addr} {W : WX} {a : Expr} {δa : De} {pos p apos cpos : Pos}
theorem ok_items {C : Cn} : R1Ok C (RF C) rItemsL dItems := fun S ρ G H x d dx Q m rx e q => by
  cases dx <;> try cases e
  rename_i ks xs
  obtain ⟨a, vs, rfl, h1, hl, r⟩ := rx
  refine ⟨a, _, rfl, h1, fun H' p ts hH hp ht hpt hl2 pr => ?_⟩
  obtain ⟨G', eG⟩ : ∃ G' : Hp, G' = fun b => if b ∈ ts then H' b else G b := ⟨_, rfl⟩
  have gG : Sub G G' := fun b o h => by
    have nb : b ∉ ts := fun z => by have := m.sub b o h; rw [ht b z] at this; cases this
    rw [eG]; exact (if_neg nb).trans h
  have gH : Sub G' H' := fun b o h => by
    rw [eG] at h
    by_cases z : b ∈ ts
    · exact (if_pos z).symm.trans h
    · exact hH b o (m.sub b o ((if_neg z).symm.trans h))
  have nw : ∀ b o, G' b = some o → G b = some o ∨ H b = none := fun b o h => by
    rw [eG] at h
    by_cases z : b ∈ ts
    · exact .inr (ht b z)
    · exact .inl ((if_neg z).symm.trans h)
  obtain ⟨m2, n2⟩ := mem_more m gG hH gH nw
  have gp : G' p = none := by
    rw [eG]
    refine (if_neg hpt).trans ?_
    cases z : G p with
    | none => rfl
    | some o => have := m.sub p o z; rw [hp] at this; cases this
  have np : p ∉ ρ := fun z => by
    obtain ⟨i, hi⟩ := List.mem_iff_getElem?.mp z
    have hl3 : i < S.length := by rw [← m.len]; exact (List.getElem?_eq_some_iff.mp hi).1
    obtain ⟨b, e2, r2⟩ := m.sto i S[i] (List.getElem?_eq_getElem hl3)
    rw [hi] at e2; cases e2
    obtain ⟨o2, h2⟩ := r2.some
    rw [hp] at h2; cases h2
  have pr2 : Paired (fun (t : Addr) (q : Key × V) => G' t = some (.tup [kV q.1, q.2])) ts (ks.zip vs) := by
    have key : ∀ {l : List Addr} {m : List (Key × V)}, (∀ t ∈ l, t ∈ ts) → Paired (fun (t : Addr) (q : Key × V) => H' t = some (.tup [kV q.1, q.2])) l m → Paired (fun (t : Addr) (q : Key × V) => G' t = some (.tup [kV q.1, q.2])) l m := by
      intro l m hm h
      induction h with
      | nil => exact .nil
      | cons a b ih => exact .cons (by rw [eG]; exact (if_pos (hm _ List.mem_cons_self)).trans a) (ih fun t ht => hm t (List.mem_cons_of_mem _ ht))
    exact key (fun t h => h) pr
  exact q (.ref p) ρ G' H' m2 n2 ⟨p, rfl, np, hp, gp, ts.map V.ref, hl2, items_reps (r.mono gG (List.prefix_refl _)) hl pr2⟩
theorem df_items (hg : Gl X "list") (hm : X.mg "list" = none) (hc : X.calm = true) (ha : DO X cls W a δa) (hbase : attributeBase a "items" X.env (eval a X.env) = eval a X.env := by rfl) (hline : (apos.endLine == cpos.line) = true := by rfl)
    (hs : starEach [.Call (.Attribute a "items" apos) [] [] cpos] X.env = (false, eval (.Call (.Attribute a "items" apos) [] [] cpos) X.env) :: starEach [] X.env := by rfl) :
    DF X cls W (.Call (.Name "list" p) [.Call (.Attribute a "items" apos) [] [] cpos] [] pos) (eUn dItems δa) :=
  PE.weak (pe_listItems hc ha hg hm (by decide +kernel) hbase hline hs) fun σ H Q h => x_un back_RF ok_items h
end
end DL

namespace DL
open PySem PySem.W PySem.Calls PyProof.Rows PySem.HandSPX L2
/-! ### own error classes whose __init__ says super().__init__(f"..") and self.x = x -/
def clsSt (st : Stmt) (k : Nat) : Stmt := match st with
  | .ClassDef _ _ _ body _ _ _ _ _ _ _ => body.getD k (.Pass ⟨0, 0, 0, 0⟩)
  | _ => .Pass ⟨0, 0, 0, 0⟩
/-- the value's text in an f-string -/
def ShowV (prog : Program) (w : World) (A : Around) (h0 : Heap) (v : Value) : Prop := ∀ (E : Value → Shared → Prop) (s : Shared) (Q : Value → Shared → Prop), (∀ b o, h0.get? b = some o → s.heap.get? b = some o) →
  (∀ h' u tk x, (∀ b o, s.heap.get? b = some o → h'.get? b = some o) → x.length ≤ 16000000 → Q (.str x u) { s with heap := h', toks := tk }) → wpAny (model prog w) A (formatField v Str.empty) Q E s
theorem showV_str {prog : Program} {w : World} {A : Around} {h0 : Heap} {x : Str} {t : Tok} (h : x.length ≤ 16000000) : ShowV prog w A h0 (.str x t) := fun E s Q k q =>
  wpAny_formatField_str (q s.heap t s.toks x (fun _ _ e => e) h) (q s.heap s.toks (s.toks + 1) x (fun _ _ e => e) h) (Nat.le_trans h (by decide))
theorem showV_int {prog : Program} {w : World} {A : Around} {h0 : Heap} {i : Int} {t : Tok} (h : i.natAbs.log2 < 1920) : ShowV prog w A h0 (.int i t) := fun E s Q k q =>
  wpAny_formatField_int h (q s.heap _ _ (toString i) (fun _ _ e => e) (by
    have e := int_text_length_le (k := 1920) (by decide) h
    show (Str.ofString (toString i)).length ≤ _
    rw [PySem.ofString_length]; omega))
theorem showV_data {prog : Program} {w : World} {A : Around} {h0 : Heap} {a : Addr} {d : PyData} {as : List Addr} (r : Reads h0 (.ref a) d as) (hs : d.showable = true) (hd : d.hasDict = false) (hg : A.guards = some []) (hu : A.units + (d.depth + 2) < cLine) (hl : d.shown.length ≤ 16000000) : ShowV prog w A h0 (.ref a) := fun E s Q k q =>
  formatField_of_reads r hs (fun z => by rw [hd] at z; cases z) hg hu k (fun h' u tk hk => q h' u tk _ hk hl) (Nat.le_trans hl (by decide))
inductive FParts (par : Str) : List Expr → Nat → Prop
  | nil : FParts par [] 0
  | txt {x : Str} {k : Nat} {pos : Pos} {es : List Expr} {n : Nat} (h : x.length ≤ 100) (r : FParts par es n) : FParts par (.Constant (.str x) k pos :: es) (n + 100)
  | val {q pos : Pos} {es : List Expr} {n : Nat} (r : FParts par es n) : FParts par (.FormattedValue (.Name par q) (-1) none pos :: es) (n + 16000000)
/-- the text of such an __init__ -/
structure ErrSt (st : Stmt) (par fld : Str) : Prop where
  body : ∃ (p0 p1 ap : Pos) (e1 e2 : Expr) (er : List Expr) (jp cp sp q1 q2 q3 q4 : Pos) (n : Nat), FParts par (e1 :: e2 :: er) n ∧ n ≤ 16000300 ∧ (ap.endLine == cp.line) = true ∧
    defBody st = [.Expr (.Call (.Attribute (.Call (.Name "super" p0) [] [] p1) "__init__" ap) [.JoinedStr (e1 :: e2 :: er) jp] [] cp) sp, .Assign [.Attribute (.Name "self" q1) fld q2] (.Name par q3) q4]
  scS : (defScope st).names.lookup ("self" : Str) = some .local
  scP : (defScope st).names.lookup par = some .local
  scX : (defScope st).names.lookup ("super" : Str) = some .globalImplicit
  scC : (defScope st).names.lookup ("__class__" : Str) = some .free
  ncell : ∀ x ∈ (defScope st).names, x.2 ≠ .cell
  co : (defScope st).isCoroutine = false
  gen : (defScope st).isGenerator = false
  kind : (defScope st).kind = .function
  hd : ∃ ar, ((defArgs st).posonlyargs ++ (defArgs st).args).head? = some ar ∧ ar.arg = "self"
  pd : (par == ("__debug__" : Str)) = false
  ps : par ≠ "self"
/-- what the written part says of the class at C, whose __init__ stands in the class at D -/
structure ErrTxt (prog : Program) (K : Frag) (qual : Str) (st : Stmt) (C D fI cc cda : Addr) (par fld : Str) : Prop where
  tx : ErrSt st par fld
  cls : ∃ nm q N bs bm sn sub ab col dd k0 k1 k2 k3 k5, K.lookup C = some (excClassObj nm q C N bs bm true sn sub ab col dd k0 k1 k2 k3 k5 "ValueError.__new__") ∧ refsVE bm = true
  sa : findIn K (.ref C) "__setattr__" = some (some (.builtin "object.__setattr__"))
  noN : findIn K (.ref C) fld = some none
  iC : findIn K (.ref C) "__init__" = some (some (.ref fI))
  tC : typeIn K (.ref fI) = some (.type "function")
  kC : keepIn K (.ref C) = true
  exC : subIn K (.ref C) (.type "BaseException") = some true
  veC : subIn K (.ref C) (.type "ValueError") = some true
  tyC : typeIn K (.ref C) = some (.type "type")
  sup : ks_superIn K C D "__init__" = some (some (.builtin "ValueError.__init__"))
  mCD : mroIn K C (.ref D) = some true
  clD : ∃ cd, clsIn K D = some cd
  cell : ∃ cl cld csl, K.lookup cc = some ⟨cl, cld, .cell (some (.ref D)), csl⟩
  code : ∃ ccl cdd vs ccs file tf, K.lookup cda = some ⟨ccl, cdd, .fields vs, ccs⟩ ∧ vs[2]? = some (.str file tf) ∧ ((prog.main.file : Str) == file) = true
  thp : nsIn K cStatics "thirdparty.any" = some none
  top : (prog.main.scope.names.lookup ("super" : Str)).isSome = false
  fn : ∃ (oc : Value) (od : Option Addr) (kV doc pm : Value) (an : Option Addr) (ct : Value) (osl : Array (Option Value)),
    K.lookup fI = some ⟨oc, od, .func (ksFn "__init__" qual (defArgs st) (defBody st) (defScope st) .none kV doc pm an (.ref cda) ct cc), osl⟩ ∧ codeIn K (.ref cda) qual = true ∧
    ∀ (s : Shared) (u v : Value), BindsTo s (ksFn "__init__" qual (defArgs st) (defBody st) (defScope st) .none kV doc pm an (.ref cda) ct cc) ⟨[u, v], []⟩ [("self", u), (par, v)]
structure InitEnd (fld : Str) (h h' : Heap) (x C dx t1 : Addr) (v : Value) : Prop where
  keep : ∀ b o, b ≠ x → h.get? b = some o → h'.get? b = some o
  obj : h'.get? x = some { cls := .ref C, dict := some dx, data := .fields #[.ref t1, .none, .none, .none, .bool false, .none] }
  dbig : h.objs.size ≤ dx
  dne : dx ≠ x
  ns : h'.Ns1 dx (fun y => if y = fld then some v else none)
section
variable {prog : Program} {w : World} {A : Around} {E : Value → Shared → Prop} {R : Result → Shared → Prop} {s : Shared} {K : Frag} {mg mb : Str → Option Value}
theorem ldK {M : Model} {qual : Str} {scope : Scope} {L a cc : Addr} {cd : Value} {m : Str → Option Value} {x : Str} {pos : Pos} {v : Value} {Q : Value → Shared → Prop} (hn : s.heap.Ns L m) (hv : m x = some v) (h : Q v s)
    (hk : scope.kind = .function) (hl : scope.names.lookup x = some .local) (hd : (x == ("__debug__" : Str)) = false) :
    wpAny M A (eval (.Name x pos) (ksEnv qual scope L a cd cc)) Q E s := wpAny_Name (wpAny_loadName_local hk hl hn hv h) hd
theorem fparts_join {qual : Str} {scope : Scope} {L a cc : Addr} {cd : Value} {par : Str} {v : Value} {h0 : Heap} {m : Str → Option Value} (hk : scope.kind = .function) (hl : scope.names.lookup par = some .local) (hd : (par == ("__debug__" : Str)) = false)
    (sv : ShowV prog w A h0 v) (hm : m par = some v) : ∀ {es : List Expr} {n : Nat}, FParts par es n → ∀ (acc : Str) (s : Shared) (R : Str → Shared → Prop), s.heap.Ns L m → (∀ b o, h0.get? b = some o → s.heap.get? b = some o) → acc.length + n ≤ 16000300 →
    (∀ out h' tk, (∀ b o, s.heap.get? b = some o → h'.get? b = some o) → out.length ≤ 16000300 → R out { s with heap := h', toks := tk }) → Joins (model prog w) A E (evalEach es (ksEnv qual scope L a cd cc)) acc R s := by
  intro es n f
  induction f with
  | nil =>
    intro acc s R hn k hl2 q
    have e0 : evalEach [] (ksEnv qual scope L a cd cc) = [] := by first | rfl | simp [evalEach]
    rw [e0]
    exact q acc s.heap s.toks (fun _ _ e => e) (by omega)
  | @txt x kk pos es n hx r ih =>
    intro acc s R hn k hl2 q
    have e0 : evalEach (.Constant (.str x) kk pos :: es) (ksEnv qual scope L a cd cc) = eval (.Constant (.str x) kk pos) (ksEnv qual scope L a cd cc) :: evalEach es (ksEnv qual scope L a cd cc) := by first | rfl | simp [evalEach]
    rw [e0]
    have al : (acc ++ x).length = acc.length + x.length := strLen_append _ _
    refine wpAny_Constant_str ⟨x, s.toks, rfl, by rw [al]; exact Nat.le_trans (show acc.length + x.length ≤ 16000300 by omega) (by decide), ih (acc ++ x) { s with toks := s.toks + 1 } R hn k (by rw [al]; omega) fun out h' tk hk ho => q out h' tk hk ho⟩
  | @val qp pos es n r ih =>
    intro acc s R hn k hl2 q
    have e0 : evalEach (.FormattedValue (.Name par qp) (-1) none pos :: es) (ksEnv qual scope L a cd cc) = eval (.FormattedValue (.Name par qp) (-1) none pos) (ksEnv qual scope L a cd cc) :: evalEach es (ksEnv qual scope L a cd cc) := by first | rfl | simp [evalEach]
    rw [e0]
    refine wpAny_FormattedValue_plain (ldK hn hm ?_ hk hl hd)
    refine sv E s _ k fun h' u tk x hk hx => ?_
    have al : (acc ++ x).length = acc.length + x.length := strLen_append _ _
    refine ⟨x, u, rfl, by rw [al]; exact Nat.le_trans (show acc.length + x.length ≤ 16000300 by omega) (by decide), ih (acc ++ x) { s with heap := h', toks := tk } R (hn.keeps hk) (fun b o e => hk b o (k b o e)) (by rw [al]; omega) fun out h2 tk2 hk2 ho => q out h2 tk2 (fun b o e => hk2 b o (hk b o e)) ho⟩
theorem super_at {c : Code} {o : Expr} {name : Str} {apos pos : Pos} {args : List Expr} {env : Env} {Q : Value → Shared → Prop} (hline : (apos.endLine == pos.line) = true)
    (hform : methodCallForm (args.length + ([] : List Keyword).length) (backTo pos (starEach args env)) (backToKw pos (keywordEach [] env)) = true)
    (h : PySem.wpAt (model prog w) A c (attributeBase o name env (eval o env)) (fun ov s₁ => ∀ pl, wpAny (model prog w) A (getMethod ov name pl) (fun fx s₂ => wpAny (model prog w) A (callWith pos fx.1 fx.2 (backTo pos (starEach args env)) []) Q E s₂) E s₁) E s) :
    PySem.wpAt (model prog w) A c (eval (.Call (.Attribute o name apos) args [] pos) env) Q E s := by
  rw [arm_eval_Call]
  refine PySem.wpAt_bind (ks_wpAt_mono h (fun ov s₁ h₁ => wpAt_of_wpAny (wpAny_bind (wpAny_standAt ?_))) fun _ _ x => x)
  have hpos : methodCallPos true o env apos pos = pure pos := by unfold methodCallPos; simp [hline]
  unfold methodCall
  rw [hform]
  refine wpAny_bind (wpAny_holding (wpAny_mono (h₁ _) (fun fx s₂ h₂ => ?_) fun _ _ x => x))
  exact wpAny_bind (wpAny_of_eq hpos h₂)
theorem err_init {C D fI cc cda : Addr} {par fld qual : Str} {st : Stmt} (T : ErrTxt prog K qual st C D fI cc cda par fld) {x t0 : Addr} {v : Value} (X : K.In s.heap) (G : s.heap.Ns mainGlobals mg) (hsup : mg "super" = none) (B : s.heap.Ns builtinsNs mb) (hb : mb "super" = some (.type "super"))
    (hlim : s.heap.NoLimit) (hx : s.heap.get? x = some (HandSPX.excO C t0)) (hnx : K.lookup x = none) (hroom : A.depth < recursionLimit) (sv : ∀ L, ShowV prog w (A.deeper (ksEnv qual (defScope st) L fI (.ref cda) cc)) s.heap v)
    (hq : ∀ h' tk dx t1, InitEnd fld s.heap h' x C dx t1 v → R (.ok (.ret .none)) { s with heap := h', toks := tk }) :
    codeAny (model prog w) A (.call (.ref fI) ⟨[.ref x, v], []⟩) R s := by
  obtain ⟨oc, od, kV, doc, pm, an, ct, osl, ho, hcd, hbd⟩ := T.fn
  obtain ⟨nm, q, N, bs, bm, sn, sub, ab, col, dd, k0, k1, k2, k3, k5, hC, hbm⟩ := T.cls
  obtain ⟨p0, p1, ap, e1, e2, er, jp, cp, sp, q1, q2, q3, q4, n, fp, hn16, hline, hbody⟩ := T.tx.body
  have hint : ∀ L : Addr, interactive (ksEnv qual (defScope st) L fI (.ref cda) cc) = false := fun L => by
    unfold interactive
    rw [show (ksEnv qual (defScope st) L fI (.ref cda) cc).scope.kind = .function from T.tx.kind]
    rfl
  obtain ⟨ar, har, hself⟩ := T.tx.hd
  obtain ⟨cdD, hD⟩ := T.clD
  obtain ⟨cl, cld, csl, hcell⟩ := T.cell
  obtain ⟨ccl, cdd, vs, ccs, file, tf, hcode, hvs, hfile⟩ := T.code
  have hcl : clsIn K C = some { name := nm, bases := bs, mro := .ref C :: bm, ns := N, qualname := q, hasDict := true, slotNames := sn, subclasses := sub, abstract := ab, collection := col, hasDel := false } := by unfold clsIn; rw [hC] <;> rfl
  refine ks_codeAny_call_defAt (fd := ksFn "__init__" qual (defArgs st) (defBody st) (defScope st) .none kV doc pm an (.ref cda) ct cc) (body := defBody st) (binds := [("self", .ref x), (par, v)]) hroom (X _ _ ho) rfl hlim (codeRec_of X hcd) rfl (hbd _ _ _) T.tx.ncell ?_ (fun h1 hn k => ?_) T.tx.co T.tx.gen T.tx.kind
  · intro y hy
    rcases List.mem_cons.mp hy with rfl | hy
    · exact T.tx.scS
    · rcases List.mem_cons.mp hy with rfl | hy
      · exact T.tx.scP
      · cases hy
  have m1 : (fun y => ([(("self" : Str), Value.ref x), (par, v)] : List (Str × Value)).reverse.lookup y) "self" = some (.ref x) := by
    have z : (("self" : Str) == par) = false := by simpa using fun e : ("self" : Str) = par => T.tx.ps e.symm
    simp [List.lookup, z]
  have m2 : (fun y => ([(("self" : Str), Value.ref x), (par, v)] : List (Str × Value)).reverse.lookup y) par = some v := by
    simp [List.lookup]
  have X1 : K.In h1 := X.keeps k
  have hx1 := k _ _ hx
  have hne : x ≠ C := fun z => by
    have hC1 := X _ _ hC
    rw [← z, hx] at hC1
    cases hC1
  rw [hbody]
  generalize hL : s.heap.objs.size = L at *
  show PySem.wpAt _ (A.deeper (ksEnv qual (defScope st) L fI (.ref cda) cc)) _ (execs _ (ksEnv qual (defScope st) L fI (.ref cda) cc)) _ _ _
  refine ks_wpAt_execs_cons (ks_wpAt_Expr_any (super_at hline (by rfl) ?_) (hint L))
  obtain ⟨hh, g, dr, tk, os⟩ := s
  dsimp only at *
  obtain ⟨oD, hD1, hD2⟩ : ∃ oD, h1.get? D = some oD ∧ oD.data = .cls cdD := by
    unfold clsIn at hD
    split at hD
    · rename_i c d cd' sl ho
      cases hD
      exact ⟨_, X1 _ _ ho, rfl⟩
    · cases hD
  refine ks_wpAt_super_base (env := ksEnv qual (defScope st) L fI (.ref cda) cc) T.tx.scX T.tx.scC (by decide) rfl (X1 _ _ ho) rfl har rfl (X1 _ _ hcode) rfl hvs hfile T.top ?_
  refine ks_loadName_global T.tx.kind T.tx.scX (loadGlobal_builtin (env := ksEnv qual (defScope st) L fI (.ref cda) cc) (G.keeps k) hsup (B.keeps k) hb ⟨rfl, ?_⟩)
  refine wpAny_loadName_free T.tx.kind T.tx.scC rfl ⟨_, X1 _ _ hcell, rfl⟩ ?_
  rw [hself]
  refine wpAny_loadName_local T.tx.kind T.tx.scS hn m1 ?_
  refine ks_wpAny_isType_cls hD1 hD2 ⟨rfl, ?_⟩
  refine ks_wpAny_call_super hD1 hD2 hx1 rfl (fun c e => by cases e) (looks_mroIn X1 T.mCD) (fun h2 e2' kk2 => ?_)
  have k2 : ∀ b o, hh.get? b = some o → h2.get? b = some o := fun b o e => kk2 b o (k b o e)
  have X2 : K.In h2 := X.keeps k2
  have I2 : InstAt h2 x (HandSPX.excO C t0) C none := ⟨k2 _ _ hx, rfl, rfl, trivial⟩
  have hI : Looks (model prog w) h2 (isInstance (.ref x) (.type "ValueError")) true := I2.type.andThen (looks_subIn X2 T.veC)
  have hm : ks_superIn K C D "__init__" = some (some (.builtin "ValueError.__init__")) := T.sup
  unfold ks_superIn at hm
  rw [hcl] at hm
  intro pl
  refine kxs_getMethod kxs_ValueError e2' (looks_opaque X2 T.thp) (l₀ := .ref C :: bm) (fun A Q E s k q => wpAny_bind ((looks_clsIn X2 hcl) A _ E s k (wpAny_pure q))) rfl X2 hm hI hne (by decide) ?_
  dsimp only
  generalize hu : h2.objs.size = u
  have ku : ∀ b o, h2.get? b = some o → (h2.push (kxs_mw "ValueError.__init__" x)).get? b = some o := fun b o e => Heap.get?_push_of_some _ e
  have hu3 : (h2.push (kxs_mw "ValueError.__init__" x)).get? u = some (kxs_mw "ValueError.__init__" x) := by rw [← hu]; exact Heap.get?_push_at rfl rfl
  generalize h2.push (kxs_mw "ValueError.__init__" x) = h3 at ku hu3
  have k3 : ∀ b o, hh.get? b = some o → h3.get? b = some o := fun b o e => ku b o (k2 b o e)
  have hn3 : h3.Ns L (fun y => ([(("self" : Str), Value.ref x), (par, v)] : List (Str × Value)).reverse.lookup y) := hn.keeps fun b o e => ku b o (kk2 b o e)
  refine kxs_callWith (i := "ValueError.__init__") (x := x) (by rfl) ?_
  refine evalArgs_plain ?_
  refine spliced_cons ?_
  refine wpAny_JoinedStr (pos := jp) (fparts_join T.tx.kind T.tx.scP T.tx.pd (sv L) m2 fp Str.empty _ _ hn3 k3 (by show 0 + n ≤ _; omega) fun out h4 tk4 hk4 hout => ⟨Nat.le_trans hout (by decide), ?_⟩)
  refine spliced_nil ⟨hk4 _ _ hu3, ?_⟩
  have k4 : ∀ b o, hh.get? b = some o → h4.get? b = some o := fun b o e => hk4 b o (k3 b o e)
  have X4 : K.In h4 := X.keeps k4
  have hC4 := X4 _ _ hC
  have hx4 := k4 _ _ hx
  have hu4 := hk4 _ _ hu3
  -- the call
  refine wpAny_call (codeAny_of_tree ?_)
  show wpAny _ (A.deeper (ksEnv qual (defScope st) L fI (.ref cda) cc)).in1 (callAny (.ref u) ⟨[] ++ [Value.str out tk4], []⟩) _ _ _
  simp only [callAny, List.nil_append]
  refine wpAny_bind (wpAny_load hu4 ?_)
  simp only [kxs_mw, show (Value.type "method-wrapper" == Value.type "method" || Value.type "method-wrapper" == Value.type "builtin_function_or_method" || Value.type "method-wrapper" == Value.type "method-wrapper") = true by decide, if_true]
  refine KFB.if_so (by decide) ?_
  refine wpAny_bind (check_bound_init F.excBase_ValueError.toExcCallFacts hC4 hx4 rfl ?_)
  refine wpAny_bind (wpAny_pure (wpAny_pure ?_))
  refine ⟨plainId_quiet F.excBase_ValueError.init.plain _, codeAny_builtin F.excBase_ValueError.initEntry ?_⟩
  refine exc_init_tree (cls := .ref C) (t0 := t0) (dv := none) (c2 := .none) (c3 := .none) (b4 := .bool false) hx4 (by show 1 ≤ sizeLine; decide) fun h5 k5' hx5 _ => ?_
  have k5 : ∀ b o, b ≠ x → hh.get? b = some o → h5.get? b = some o := fun b o hb e => k5' b o hb (k4 b o e)
  have hxL : L ≠ x := by rw [← hL]; exact Nat.ne_of_gt (Heap.lt_size hx)
  have hn5 : h5.Ns L (fun y => ([(("self" : Str), Value.ref x), (par, v)] : List (Str × Value)).reverse.lookup y) := by
    obtain ⟨o, es, ep, hoL, r⟩ := hn3
    exact ⟨o, es, ep, k5' _ _ hxL (hk4 _ _ hoL), r⟩
  have X5 : K.In h5 := fun a o e => k5' a o (fun z => by rw [z, hnx] at e; cases e) (X4 a o e)
  dsimp only
  refine ks_wpAt_execs_cons (wpAt_of_wpAny (plainObj_wpAny_Assign_Attribute ?_))
  refine ldK hn5 m2 (ldK hn5 m1 ?_ T.tx.kind T.tx.scS (by decide)) T.tx.kind T.tx.scP T.tx.pd
  refine set_plain X5 (ox := { cls := .ref C, dict := none, data := .fields #[.ref h4.objs.size, .none, .none, .none, .bool false, .none] }) (od := none) ⟨hx5, rfl, rfl, trivial⟩ T.sa ?_
  refine exc_osa X5 hx5 hcl (show refsVE (.ref C :: bm) = true from hbm) rfl T.noN (fun h6 tk6 dx k6 dn dne hx6 hn6 => ?_)
  refine wpAt_of_wpAny (wpAny_execs_nil (hq h6 tk6 dx h4.objs.size ⟨fun b o hb e => k6 b o hb (k5 b o hb e), hx6, ?_, dne, hn6⟩))
  have z : hh.objs.size < h5.objs.size := by rw [hL]; exact hn5.lt
  exact Nat.le_of_lt (Nat.lt_of_lt_of_le z dn)
end
end DL

namespace DL
open PySem PySem.W PySem.Calls PyProof.Rows PySem.HandSPX L2
theorem ShowV.mono {prog : Program} {w : World} {A : Around} {h0 h1 : Heap} {v : Value} (h : ShowV prog w A h0 v) (k : ∀ b o, h0.get? b = some o → h1.get? b = some o) : ShowV prog w A h1 v := fun E s Q k2 q => h E s Q (fun b o e => k2 b o (k b o e)) q
structure OwnMade (fld : Str) (h h' : Heap) (e C d : Addr) (v : Value) : Prop where
  keep : ∀ b o, h.get? b = some o → h'.get? b = some o
  new : h.objs.size ≤ e
  obj : ∃ oe vs, h'.get? e = some oe ∧ oe.cls = .ref C ∧ oe.dict = some d ∧ oe.data = .fields vs ∧ vs[1]? = some .none
  dbig : h.objs.size ≤ d
  dne : d ≠ e
  ns : h'.Ns1 d (fun y => if y = fld then some v else none)
theorem one_line (v : Value) : [v].length ≤ sizeLine := by
  rw [sizeLine_eq]; exact (by decide : 1 ≤ 16777216)
section
variable {prog : Program} {w : World} {A : Around} {E : Value → Shared → Prop} {R : Result → Shared → Prop} {s : Shared} {K : Frag} {mg mb : Str → Option Value}
theorem err_made {C D fI cc cda : Addr} {par fld qual : Str} {st : Stmt} (T : ErrTxt prog K qual st C D fI cc cda par fld) {v : Value} (X : K.In s.heap) (G : s.heap.Ns mainGlobals mg) (hsup : mg "super" = none) (B : s.heap.Ns builtinsNs mb) (hb : mb "super" = some (.type "super"))
    (hlim : s.heap.NoLimit) (hroom : A.depth + 1 < recursionLimit) (sv : ∀ L, ShowV prog w ((A.under (.builtin "type.__call__" ⟨.ref C :: [v], []⟩)).deeper (ksEnv qual (defScope st) L fI (.ref cda) cc)) s.heap v)
    (hq : ∀ h' tk e d, OwnMade fld s.heap h' e C d v → R (.ok (.ret (.ref e))) { s with heap := h', toks := tk }) :
    codeAny (model prog w) A (.call (.ref C) ⟨[v], []⟩) R s := by
  obtain ⟨nm, q, N, bs, bm, sn, sub, ab, col, dd, k0, k1, k2, k3, k5, hC, hbm⟩ := T.cls
  obtain ⟨hp, g, dr, tk, os⟩ := s
  have k : ∀ b o, hp.get? b = some o → ((hp.push (kdv_tup [v])).push (HandSPX.excO C hp.objs.size)).get? b = some o := fun b o e => Heap.get?_push_of_some _ (Heap.get?_push_of_some _ e)
  have hget : ((hp.push (kdv_tup [v])).push (HandSPX.excO C hp.objs.size)).get? (hp.objs.size + 1) = some (HandSPX.excO C hp.objs.size) := by heap_get
  have hnx : K.lookup (hp.objs.size + 1) = none := by
    cases e : K.lookup (hp.objs.size + 1) with
    | none => rfl
    | some o =>
      have z : hp.get? (hp.objs.size + 1) = some o := X _ _ e
      exact absurd (Nat.lt_of_succ_lt (Heap.lt_size z)) (Nat.lt_irrefl _)
  refine call_own F.excBase_ValueError (fun X => refsVE_contains X bm hbm) (X _ _ hC) (looks_findIn X T.iC) (fun self => bind_fn X self T.tC) (one_line v) ?_
  refine err_init (s := ⟨(hp.push (kdv_tup [v])).push (HandSPX.excO C hp.objs.size), g, dr, tk, os⟩) T (X.keeps k) (G.keeps k) hsup (B.keeps k) hb (hlim.keeps k) hget hnx ?_ (fun L => (sv L).mono k) fun h' tk' dx t1 ⟨k', hx, dn, dne, hns⟩ => ?_
  · have z : (A.under (.builtin "type.__call__" ⟨.ref C :: [v], []⟩)).depth = A.depth + 1 := make_depth
    rw [z]; exact hroom
  · have old : ∀ b o, hp.get? b = some o → h'.get? b = some o := fun b o e => k' b o (Nat.ne_of_lt (Nat.lt_succ_of_lt (Heap.lt_size e))) (k b o e)
    have z : hp.objs.size + 1 + 1 ≤ dx := by
      first
        | (simpa only [Heap.size_push] using dn)
        | exact dn
        | (have q := dn; rw [Heap.size_push, Heap.size_push] at q; exact q)
    exact ⟨rfl, hq h' tk' (hp.objs.size + 1) dx ⟨old, Nat.le_succ _, ⟨_, _, hx, rfl, rfl, rfl, rfl⟩, Nat.le_trans (Nat.le_trans (Nat.le_succ _) (Nat.le_succ _)) z, dne, hns⟩⟩
end
theorem make_guards {A : Around} {C : Addr} {us : List Value} {kw : List (Str × Value)} : (A.under (.builtin "type.__call__" ⟨.ref C :: us, kw⟩)).guards = A.guards := by
  first | rfl | simp [Around.under, Code.weight, Code.isCreation, Code.isGuard, Code.isCaller, Code.frames, Code.isFrame, guardIds]
theorem relO_fld {fld : Str} {v : V} {v' : Value} (r : RelV v v') (f : Str) : RelO (List.lookup f [(fld, v)]) (if f = fld then some v' else none) := by
  by_cases hw : f = fld
  · subst hw
    rw [if_pos rfl]
    have q : List.lookup f [(f, v)] = some v := by simp [List.lookup]
    rw [q]; exact r
  · rw [if_neg hw]
    have qw : (f == fld) = false := by simpa using hw
    have q2 : List.lookup f [(fld, v)] = none := by simp [List.lookup, qw]
    rw [q2]; trivial
/-- what an error's text can show -/
def Shows (K : Frag) (H : Hp) (v : V) : Prop := (∃ x, v = .str x ∧ x.length ≤ 16000000) ∨ (∃ i, v = .int i ∧ i.natAbs.log2 < 1920) ∨
  ∃ a q, v = .ref a ∧ Dp K H (.ref a) q ∧ q.showable = true ∧ q.hasDict = false ∧ q.depth ≤ 60 ∧ q.shown.length ≤ 16000000
def tMkErr (K : Frag) (C : Addr) (fld : Str) (ta : TA) : L2.St → Hp → XK → Prop := fun σ H Q => ta σ H fun vs H1 => ∃ v, vs = [v] ∧ Shows K H1 v ∧ ∀ d, H1 d = none → Q (.ref C) (some d) (upd H1 d (.xd [(fld, v)]))
section
variable {X : Cx}
theorem pmk_err {C D fI cc cda : Addr} {par fld qual x : Str} {st : Stmt} {a : Expr} {ta : TA} {p pos : Pos} {k : Nat} (T : ErrTxt X.prog X.K qual st C D fI cc cda par fld) (hm : X.mg x = some (.ref C)) (hsup : X.mg "super" = none) (hr : RoomG k X.A) (ha : PA X [a] ta) (hg : Gl X x)
    (hdb : (x == ("__debug__" : Str)) = false := by decide) (he : starEach (a :: []) X.env = (false, eval a X.env) :: starEach [] X.env := by rfl) (hpl : (backTo pos (starEach [] X.env)).any (·.1) = false := by rfl) :
    PMk X (.Call (.Name x p) [a] [] pos) (tMkErr X.K C fld ta) := by
  intro pins s σ H Q I h
  refine wpAny_Call_Name_kw (ld_glob I hg hm ?_ hdb)
  refine PySem.W.callWith_K (h₀ := X.base) I.ok.mod.kin T.kC (thn (ha.run pos pins s σ H _ I h) fun us s1 hh => ?_) he hpl
  obtain ⟨vs, H1, I1, r1, v, ev, shw, q1⟩ := hh
  subst ev
  refine ⟨I1.kIn, ?_⟩
  cases r1 with
  | cons rv rn =>
    rename_i v' us'
    cases rn
    show wpAny _ _ (call (.ref C) [v']) _ _ _
    have hlim := I1.nolimit
    have hG : s1.heap.Ns mainGlobals X.mg := I1.mod.glob.keeps I1.bk
    obtain ⟨mb, b1, b2⟩ := I1.mod.blt
    have hB := b1.keeps I1.bk
    have hb : mb "super" = some (.type "super") := (b2 "super" (by decide +kernel)).trans (by decide +kernel)
    have un := hr.units
    have sv : ∀ L, ShowV X.prog X.w ((X.A.under (.builtin "type.__call__" ⟨.ref C :: [v'], []⟩)).deeper (ksEnv qual (defScope st) L fI (.ref cda) cc)) s1.heap v' := fun L => by
      rcases shw with ⟨z, rfl, hz⟩ | ⟨i, rfl, hi⟩ | ⟨b, y, rfl, dp, c1, c2, c3, c4⟩
      · obtain ⟨t, rfl⟩ := rv
        exact showV_str hz
      · obtain ⟨t, rfl⟩ := rv
        exact showV_int hi
      · obtain rfl : v' = Value.ref b := rv
        obtain ⟨as, rd⟩ := Dp.reads I1 y _ _ dp (show RelV (.ref b) (.ref b) from rfl)
        have zu : (X.A.under (.builtin "type.__call__" ⟨.ref C :: [Value.ref b], []⟩)).units = X.A.units + 1 := make_units
        have zg : (X.A.under (.builtin "type.__call__" ⟨.ref C :: [Value.ref b], []⟩)).guards = X.A.guards := make_guards
        refine showV_data rd c1 c2 ?_ ?_ c4
        · show (X.A.under (.builtin "type.__call__" ⟨.ref C :: [Value.ref b], []⟩)).guards = some []
          rw [zg]; exact hr.gd
        · show (X.A.under (.builtin "type.__call__" ⟨.ref C :: [Value.ref b], []⟩)).units + 3 + (y.depth + 2) < cLine
          have := hr.toRoom.un
          rw [zu]; omega
    obtain ⟨hp, g, dr, tk, os⟩ := s1
    refine wpAny_call (err_made T I1.kIn hG hsup hB hb hlim (by have := hr.toRoom.dp; omega) sv fun h' tk' e d M => ?_)
    show MkP X pins σ Q (.ref e) ⟨h', g, dr, tk', os⟩
    obtain ⟨oe, fv, hoe, hc, hd, hdat, h1⟩ := M.obj
    have hns := M.ns
    obtain ⟨G', g1, g2⟩ := restrict h' fun b => decide (b ≠ e)
    have gk : ∀ b, b ≠ e → G'.get? b = h'.get? b := fun b hb => g1 b (decide_eq_true hb)
    have ge : G'.get? e = none := g2 e (by simp)
    have old : ∀ b o, hp.get? b = some o → G'.get? b = some o := fun b o q => (gk b (Nat.ne_of_lt (Nat.lt_of_lt_of_le (Heap.lt_size q) M.new))).trans (M.keep b o q)
    have ob : ObjOk X.prog X.w (upd H1 d (.xd [(fld, v)])) G' d (.xd [(fld, v)]) :=
      ⟨_, hns.at (fun o q => (gk d M.dne).trans q), fun f => relO_fld rv f⟩
    have J : Inv X pins σ (upd H1 d (.xd [(fld, v)])) ⟨G', g, dr, tk', os⟩ := I1.laid (t' := tk') old M.dbig ob
    refine ⟨e, oe, fv, ⟨G', g, dr, tk', os⟩, _, .ref C, some d, rfl, J, fun b o q => ?_, ge, hoe, ⟨hc, hd⟩, hdat, h1, ?_, rfl, I1.bare, raises_own T.exC T.tyC, q1 d (I1.hok.fresh M.dbig)⟩
    · by_cases hb : b = e
      · have q' : G'.get? b = some o := q
        rw [hb, ge] at q'; cases q'
      · exact (gk b hb).symm.trans q
    · rw [upd_ne (Ne.symm M.dne)]
      exact I1.hok.fresh M.new
end
/-! ### raise X(e) -/
def shOk : D → Bool
  | .str x => decide (x.length ≤ 16000000)
  | .int i => decide (i.natAbs.log2 < 1920)
  | d => match toPy d with
    | some q => isSq d && q.showable && !q.hasDict && decide (q.depth ≤ 60) && decide (q.shown.length ≤ 16000000)
    | none => false
def sRaise (c : Nat) (fld : Str) (e : De) : Ds := fun Γ S => after (e Γ S) Γ fun d S1 => if shOk d = true then .exc ⟨c, [fld], [d]⟩ Γ S1 else .stuck
theorem shOk_shows {C : Cn} {ρ : List Addr} {G H : Hp} (s : Sub G H) {d : D} {v : V} (h : shOk d = true) (r : Rep C ρ G d v) : Shows C.K H v := by
  have key : (match toPy d with
    | some q => isSq d && q.showable && !q.hasDict && decide (q.depth ≤ 60) && decide (q.shown.length ≤ 16000000)
    | none => false) = true → Shows C.K H v := fun h => by
    split at h
    · rename_i q hq
      simp only [Bool.and_eq_true, decide_eq_true_eq, Bool.not_eq_true'] at h
      obtain ⟨⟨⟨⟨h1, h2⟩, h3⟩, h4⟩, h5⟩ := h
      have dp := dp_of s d v q r hq
      have : ∃ a, v = V.ref a := by
        cases d <;> try cases h1
        · obtain ⟨a, vs, rfl, _⟩ := rep_lst.mp r; exact ⟨a, rfl⟩
        · obtain ⟨a, vs, rfl, _⟩ := rep_tup.mp r; exact ⟨a, rfl⟩
      obtain ⟨a, rfl⟩ := this
      exact .inr (.inr ⟨a, q, rfl, dp, h2, h3, h4, h5⟩)
    · cases h
  cases d with
  | str x => exact .inl ⟨x, rep_str.mp r, of_decide_eq_true h⟩
  | int i => exact .inr (.inl ⟨i, rep_int.mp r, of_decide_eq_true h⟩)
  | _ => exact key h
section
variable {X : Cx} {cls : Nat → Addr} {W : WX}
theorem ds_raise {c k : Nat} {D0 fI cc cda : Addr} {par fld qual x : Str} {st : Stmt} {a : Expr} {δ : De} {p pos pos2 : Pos} (hc : X.calm = true) (T : ErrTxt X.prog X.K qual st (cls (c + 3)) D0 fI cc cda par fld) (hm : X.mg x = some (.ref (cls (c + 3)))) (hsup : X.mg "super" = none) (hr : RoomG k X.A) (tk : Takes X W) (hg : Gl X x) (ha : DE X cls W a δ)
    (hdb : (x == ("__debug__" : Str)) = false := by decide) (he : starEach (a :: []) X.env = (false, eval a X.env) :: starEach [] X.env := by rfl) (hpl : (backTo pos (starEach [] X.env)).any (·.1) = false := by rfl) :
    DS X cls W (.Raise (some (.Call (.Name x p) [a] [] pos)) none pos2) (sRaise c fld δ) :=
  PS.weak (ps_raise hc tk (pmk_err T hm hsup hr (pa_cons ha pa_nil he) hg hdb he hpl)) fun Dn σ H ⟨en, Γ, S, ρ, G, s, p⟩ => ⟨Γ, S, ρ, G, s.mem, post_after s p fun d S1 ρ1 G1 H1 v m n s1 r p1 => by
    split at p1
    · rename_i hsh
      refine ⟨v, rfl, shOk_shows (C := ⟨X.K, cls⟩) m.sub hsh r, fun d1 hd1 => ?_⟩
      obtain ⟨m', n', np, gp⟩ := m.new (o := .xd [(fld, v)]) hd1
      obtain ⟨m2, n2, k2⟩ := Mem.settle m n' m' hd1 gp np upd_same
      exact p1 _ _ ρ1 _ _ σ (s1.step m2 n2) ⟨rfl, (fun z => by cases z), fun _ => ⟨d1, [v], rfl, upd_same, rfl, .cons (r.mono k2 (List.prefix_refl _)) .nil⟩⟩
    · exact p1.elim⟩
end
end DL

namespace DL
open PySem PySem.Spec PyProof.Rows L2
/-! ### try, except -/
def isX : Sl → Bool | .xcp _ => true | _ => false
def noX (Γ : List Sl) : Bool := Γ.all fun s => !isX s
theorem noX_get {Γ : List Sl} (h : noX Γ = true) {i : Nat} {x : Exn} (e : Γ[i]? = some (.xcp x)) : False := by
  have := List.all_eq_true.mp h _ (List.mem_of_getElem? e)
  cases this
section
variable {C C' : Cn} {ρ : List Addr} {G H : Hp}
mutual
theorem Rep.re (hK : C'.K = C.K) (hc : ∀ n, C'.cls (n + 3) = C.cls (n + 3)) : ∀ (d : D) (v : V), Rep C ρ G d v → Rep C' ρ G d v
  | .non, _, h => by rw [Rep] at h ⊢; exact h
  | .bl _, _, h => by rw [Rep] at h ⊢; exact h
  | .int _, _, h => by rw [Rep] at h ⊢; exact h
  | .str _, _, h => by rw [Rep] at h ⊢; exact h
  | .lst xs, _, h => by
    rw [Rep] at h ⊢
    obtain ⟨a, vs, rfl, h1, h2⟩ := h
    exact ⟨a, vs, rfl, h1, Reps.re hK hc xs vs h2⟩
  | .tup xs, _, h => by
    rw [Rep] at h ⊢
    obtain ⟨a, vs, rfl, h1, h2⟩ := h
    exact ⟨a, vs, rfl, by rw [hK]; exact h1, Reps.re hK hc xs vs h2⟩
  | .dct ks xs, _, h => by
    rw [Rep] at h ⊢
    obtain ⟨a, vs, rfl, h1, h3, h2⟩ := h
    exact ⟨a, vs, rfl, h1, h3, Reps.re hK hc xs vs h2⟩
  | .ins c ns xs, _, h => by
    rw [Rep] at h ⊢
    obtain ⟨a, dx, vs, rfl, h1, h3, h2⟩ := h
    exact ⟨a, dx, vs, rfl, by rw [hc]; exact h1, h3, Reps.re hK hc xs vs h2⟩
  | .ptr _, _, h => by rw [Rep] at h ⊢; exact h
  | .scr ns, _, h => by
    rw [Rep] at h ⊢
    obtain ⟨a, rfl, h1⟩ := h
    exact ⟨a, rfl, by rw [hK]; exact h1⟩
theorem Reps.re (hK : C'.K = C.K) (hc : ∀ n, C'.cls (n + 3) = C.cls (n + 3)) : ∀ (d : List D) (v : List V), Reps C ρ G d v → Reps C' ρ G d v
  | [], _, h => by rw [Reps] at h ⊢; exact h
  | x :: xs, _, h => by
    rw [Reps] at h ⊢
    obtain ⟨v, r, rfl, h1, h2⟩ := h
    exact ⟨v, r, rfl, Rep.re hK hc x v h1, Reps.re hK hc xs r h2⟩
end
theorem ObAt.re {a : Addr} (hK : C'.K = C.K) (hc : ∀ n, C'.cls (n + 3) = C.cls (n + 3)) : ∀ {d : D}, ObAt C ρ G H a d → ObAt C' ρ G H a d
  | .lst xs, ⟨vs, h, r⟩ => ⟨vs, h, Reps.re hK hc _ _ r⟩
  | .dct ks xs, ⟨vs, h, l, r⟩ => ⟨vs, h, l, Reps.re hK hc _ _ r⟩
  | .ins c ns xs, ⟨dx, vs, h, l, r⟩ => ⟨dx, vs, by rw [hc]; exact h, l, Reps.re hK hc _ _ r⟩
theorem Mem.re {Γ : List Sl} {S : List D} {σ : L2.St} (hK : C'.K = C.K) (hc : ∀ n, C'.cls (n + 3) = C.cls (n + 3)) (hx : noX Γ = true) (m : Mem C Γ S ρ G H σ) : Mem C' Γ S ρ G H σ where
  sub := m.sub
  val := fun i d h => by
    obtain ⟨v, e, r⟩ := m.val i d h
    exact ⟨v, e, r.re hK hc⟩
  own := fun i d h => by
    obtain ⟨a, e, r, z⟩ := m.own i d h
    exact ⟨a, e, r.re hK hc, z⟩
  inj := m.inj
  sto := fun i d h => by
    obtain ⟨a, e, r⟩ := m.sto i d h
    exact ⟨a, e, r.re hK hc⟩
  stG := m.stG
  len := m.len
  nd := m.nd
  wid := m.wid
  xcp := fun i x h => (noX_get hx h).elim
theorem SI.re {en : Ent} {Γ : List Sl} {S : List D} {σ : L2.St} (hK : C'.K = C.K) (hc : ∀ n, C'.cls (n + 3) = C.cls (n + 3)) (hx : noX Γ = true) (s : SI C en Γ S ρ G H σ) : SI C' en Γ S ρ G H σ := ⟨s.mem.re hK hc hx, s.nx, s.frs, s.base, s.basr⟩
/-- a slot takes the error -/
theorem SI.setx {en : Ent} {Γ : List Sl} {S : List D} {σ : L2.St} (s : SI C en Γ S ρ G H σ) (i : Nat) {x : Exn} (r : XOk C ρ G x) : SI C en (Γ.set i (.xcp x)) S ρ G H (σ.set i (some (V.ref (C.cls 0)))) := by
  have ne : ∀ (j : Nat) (y : Sl), (∀ z, y ≠ .xcp z) → (Γ.set i (Sl.xcp x))[j]? = some y → i ≠ j ∧ Γ[j]? = some y := fun j y hy h => by
    by_cases e : i = j
    · subst e
      by_cases hl : i < Γ.length
      · rw [List.getElem?_set_self hl] at h; cases h; exact absurd rfl (hy x)
      · rw [List.getElem?_eq_none (by simpa using hl)] at h; cases h
    · rw [List.getElem?_set_ne e] at h; exact ⟨e, h⟩
  refine ⟨⟨s.mem.sub, fun j d h => ?_, fun j d h => ?_, fun j k d d' a h1 h2 => ?_, s.mem.sto, s.mem.stG, s.mem.len, s.mem.nd, by rw [List.length_set, List.length_set]; exact s.mem.wid, fun j y h => ?_⟩, s.nx, fun j d a h1 h2 => ?_, s.base, s.basr⟩
  · obtain ⟨e, g⟩ := ne j (.val d) (fun z w => by cases w) h
    rw [List.getElem?_set_ne e]; exact s.mem.val j d g
  · obtain ⟨e, g⟩ := ne j (.own d) (fun z w => by cases w) h
    rw [List.getElem?_set_ne e]; exact s.mem.own j d g
  · obtain ⟨e1, g1⟩ := ne j (.own d) (fun z w => by cases w) h1
    obtain ⟨e2, g2⟩ := ne k (.own d') (fun z w => by cases w) h2
    rw [List.getElem?_set_ne e1, List.getElem?_set_ne e2]
    exact s.mem.inj j k d d' a g1 g2
  · by_cases e : i = j
    · subst e
      by_cases hl : i < Γ.length
      · rw [List.getElem?_set_self hl] at h; cases h
        exact ⟨List.getElem?_set_self (by rw [← s.mem.wid]; exact hl), r⟩
      · rw [List.getElem?_eq_none (by simpa using hl)] at h; cases h
    · rw [List.getElem?_set_ne e] at h
      rw [List.getElem?_set_ne e]; exact s.mem.xcp j y h
  · obtain ⟨e, g⟩ := ne j (.own d) (fun z w => by cases w) h1
    rw [List.getElem?_set_ne e] at h2; exact s.frs j d a g h2
/-- .. and gives it back -/
theorem SI.unset {en : Ent} {Γ : List Sl} {S : List D} {σ : L2.St} (s : SI C en Γ S ρ G H σ) (i : Nat) : SI C en (Γ.set i .non) S ρ G H (σ.set i none) := by
  have ne : ∀ (j : Nat) (y : Sl), y ≠ .non → (Γ.set i Sl.non)[j]? = some y → i ≠ j ∧ Γ[j]? = some y := fun j y hy h => by
    by_cases e : i = j
    · subst e
      by_cases hl : i < Γ.length
      · rw [List.getElem?_set_self hl] at h; cases h; exact absurd rfl hy
      · rw [List.getElem?_eq_none (by simpa using hl)] at h; cases h
    · rw [List.getElem?_set_ne e] at h; exact ⟨e, h⟩
  refine ⟨⟨s.mem.sub, fun j d h => ?_, fun j d h => ?_, fun j k d d' a h1 h2 => ?_, s.mem.sto, s.mem.stG, s.mem.len, s.mem.nd, by rw [List.length_set, List.length_set]; exact s.mem.wid, fun j y h => ?_⟩, s.nx, fun j d a h1 h2 => ?_, s.base, s.basr⟩
  · obtain ⟨e, g⟩ := ne j (.val d) (fun w => by cases w) h
    rw [List.getElem?_set_ne e]; exact s.mem.val j d g
  · obtain ⟨e, g⟩ := ne j (.own d) (fun w => by cases w) h
    rw [List.getElem?_set_ne e]; exact s.mem.own j d g
  · obtain ⟨e1, g1⟩ := ne j (.own d) (fun w => by cases w) h1
    obtain ⟨e2, g2⟩ := ne k (.own d') (fun w => by cases w) h2
    rw [List.getElem?_set_ne e1, List.getElem?_set_ne e2]
    exact s.mem.inj j k d d' a g1 g2
  · obtain ⟨e, g⟩ := ne j (.xcp y) (fun w => by cases w) h
    rw [List.getElem?_set_ne e]; exact s.mem.xcp j y g
  · obtain ⟨e, g⟩ := ne j (.own d) (fun w => by cases w) h1
    rw [List.getElem?_set_ne e] at h2; exact s.frs j d a g h2
end
/-- the classes by number, while an error is handled -/
def xcls (cls : Nat → Addr) (a : Addr) (d : Option Addr) (v : Value) : Nat → Addr
  | 0 => a
  | 1 => match d with | some d => d + 1 | none => 0
  | 2 => match v with | .ref r => r | _ => 0
  | n + 3 => cls (n + 3)
structure Su (cls cls' : Nat → Addr) (a : Addr) (oe : Obj) : Prop where
  a0 : cls' 0 = a
  z : Zc (.ref (cls' 2)) (match cls' 1 with | 0 => none | d + 1 => some d) oe
  f : ∃ vs, oe.data = .fields vs
  up : ∀ n, cls' (n + 3) = cls (n + 3)
def setxD (i : Option Nat) (e : Exn) (Γ : List Sl) : List Sl := match i with | some i => Γ.set i (.xcp e) | none => Γ
def unxD (i : Option Nat) (Γ : List Sl) : List Sl := match i with | some i => Γ.set i .non | none => Γ
def unx (i : Option Nat) : Out → Out
  | .next Γ S => if noX (unxD i Γ) then .next (unxD i Γ) S else .stuck
  | .brk Γ S => if noX (unxD i Γ) then .brk (unxD i Γ) S else .stuck
  | .cont Γ S => if noX (unxD i Γ) then .cont (unxD i Γ) S else .stuck
  | .ret d S => .ret d S
  | _ => .stuck
def sTry (i : Option Nat) (f : Nat → Option Bool) (b h : Ds) : Ds := fun Γ S => match b Γ S with
  | .exc e Γ1 S1 => match f e.c with
    | some true => if noX Γ1 then unx i (h (setxD i e Γ1) S1) else .stuck
    | some false => .exc e Γ1 S1
    | none => .stuck
  | o => o
theorem PSs.given {X : Cx} {st : List Stmt} {t : TS} {p : Prop} (h : p → PSs X st t) : PSs X st (fun D σ H => p ∧ t D σ H) := ⟨fun pins s σ H D I h' => (h h'.1).run pins s σ H D I h'.2⟩
section
variable {X : Cx} {cls : Nat → Addr} {W : WX} {x n : Str} {i : Nat} {CX : Addr} {body suite : List Stmt} {b₀ : Stmt} {np pos pos' : Pos} {δb δh : Ds} {f : Nat → Option Bool}
def tsD (X : Cx) (cls : Nat → Addr) (δh : Ds) (a : Addr) (clsv : Value) (d : Option Addr) : TS := fun D σ H => clsv = .ref (xcls cls a d clsv 2) ∧ tS ⟨X.K, xcls cls a d clsv⟩ W0 δh D σ H
theorem su_of {a : Addr} {oe : Obj} {clsv : Value} {d : Option Addr} (hz : Zc clsv d oe) (hf : ∃ vs, oe.data = .fields vs) (e : clsv = .ref (xcls cls a d clsv 2)) : Su cls (xcls cls a d clsv) a oe := ⟨rfl, by
  rw [← e]
  cases d with
  | none => exact hz
  | some d => exact hz, hf, fun n => rfl⟩
theorem try_core {C C' : Cn} {en : Ent} {Dn : Ends} {oi : Option Nat} {o : Out} (hK : C'.K = C.K) (hc : ∀ n, C'.cls (n + 3) = C.cls (n + 3)) {un : L2.St → L2.St} (hun : ∀ Γ S ρ G H σ, SI C' en Γ S ρ G H σ → SI C' en (unxD oi Γ) S ρ G H (un σ))
    (p : PostS C W en Dn (unx oi o)) : PostS C' W0 en { nx := fun σ H => Dn.nx (un σ) H, rt := Dn.rt, bk := fun σ H => Dn.bk (un σ) H, ct := fun σ H => Dn.ct (un σ) H } o := by
  have hK' := hK.symm
  have hc' : ∀ n, C.cls (n + 3) = C'.cls (n + 3) := fun n => (hc n).symm
  cases o with
  | next Γ S =>
    replace p : PostS C W en Dn (if noX (unxD oi Γ) = true then .next (unxD oi Γ) S else .stuck) := p
    split at p
    · rename_i hx
      exact fun ρ G H σ s => p ρ G H _ ((hun _ _ _ _ _ _ s).re hK' hc' hx)
    · exact p.elim
  | brk Γ S =>
    replace p : PostS C W en Dn (if noX (unxD oi Γ) = true then .brk (unxD oi Γ) S else .stuck) := p
    split at p
    · rename_i hx
      exact fun ρ G H σ s => p ρ G H _ ((hun _ _ _ _ _ _ s).re hK' hc' hx)
    · exact p.elim
  | cont Γ S =>
    replace p : PostS C W en Dn (if noX (unxD oi Γ) = true then .cont (unxD oi Γ) S else .stuck) := p
    split at p
    · rename_i hx
      exact fun ρ G H σ s => p ρ G H _ ((hun _ _ _ _ _ _ s).re hK' hc' hx)
    · exact p.elim
  | ret d S => exact fun v ρ G H m n r => p v ρ G H (Mem.re hK' hc' rfl m) n (r.re hK' hc')
  | exc e Γ S => exact p.elim
  | stuck => exact p.elim
theorem xok_of {ρ : List Addr} {G H : Hp} {e : Exn} {clsv : Value} {d : Option Addr} {a : Addr} (er : ExRep ⟨X.K, cls⟩ ρ G H e clsv d) : clsv = .ref (xcls cls a d clsv 2) ∧ XOk ⟨X.K, xcls cls a d clsv⟩ ρ G e := by
  obtain ⟨e1, e2, e3⟩ := er
  subst e1
  refine ⟨rfl, rfl, fun z => ?_, fun z => ?_⟩
  · rw [e2 z]; rfl
  · obtain ⟨d1, vs, rfl, g, l, r⟩ := e3 z
    exact ⟨d1, vs, rfl, g, l, Reps.re (C := ⟨X.K, cls⟩) (C' := ⟨X.K, xcls cls a (some d1) _⟩) rfl (fun n => rfl) _ _ r⟩
theorem ds_try_as (hs : X.stack = X.env :: X.outer) (hfr : X.env.frame = some X.env.locals) (hN : X.N.Nodup) (hi : X.N[i]? = some n) (hln : X.env.kindOf n = some .local) (hc : Names X x (.ref CX)) (tk : Takes X W)
    (hf : ∀ c b, f c = some b → PySem.W.exmOne X.K (.ref (cls (c + 3))) (.ref CX) = some b)
    (hb : ∀ (W : WX) (pn : List (Addr × Obj)) (xe : Value → Shared → Prop), Takes (X.tr pn xe) W → PassesOwn (model X.prog X.w) X.A X.env xe → DSs (X.tr pn xe) cls W body δb)
    (hsu : ∀ (a : Addr) (oe : Obj) (pn : List (Addr × Obj)) (cls' : Nat → Addr), Su cls cls' a oe → DSs (X.suite a ((a, oe) :: pn)) cls' W0 (b₀ :: suite) δh) :
    DS X cls W (.Try body [.ExceptHandler (some (.Name x np)) (some n) (b₀ :: suite) pos'] [] [] pos) (sTry (some i) f δb δh) :=
  PS.weak (ps_try_as (tb := fun W => tS ⟨X.K, cls⟩ W δb) (ts := tsD X cls δh) hs hfr hN hi hln hc tk (fun W pn xe tk hp => hb W pn xe tk hp)
    (fun a oe clsv d pn hz hf => PSs.given fun e => hsu a oe pn _ (su_of hz hf e))) fun Dn σ H ⟨en, Γ, S, ρ, G, s, p⟩ => ⟨en, Γ, S, ρ, G, s, by
    unfold sTry at p
    cases q : δb Γ S with
    | next Γ1 S1 => rw [q] at p; exact p
    | brk Γ1 S1 => rw [q] at p; exact p
    | cont Γ1 S1 => rw [q] at p; exact p
    | ret d S1 => rw [q] at p; exact p
    | stuck => rw [q] at p; exact p
    | exc e Γ1 S1 =>
      rw [q] at p
      intro clsv dx ρ1 G1 H1 σ1 s1 er
      have ec : clsv = .ref (cls (e.c + 3)) := er.1
      simp only at p
      cases hfe : f e.c with
      | none => rw [hfe] at p; exact p.elim
      | some b =>
        rw [hfe] at p
        refine ⟨b, by rw [ec]; exact hf _ _ hfe, fun hbt a na => ?_, fun hbf => ?_⟩
        · subst hbt
          simp only at p
          split at p
          · rename_i hx
            obtain ⟨z1, z2⟩ := xok_of (X := X) (a := a) er
            have s2 := (SI.re (C := ⟨X.K, cls⟩) (C' := ⟨X.K, xcls cls a dx clsv⟩) rfl (fun n => rfl) hx s1).setx i z2
            exact ⟨z1, en, _, S1, ρ1, G1, s2, try_core (C := ⟨X.K, cls⟩) (C' := ⟨X.K, xcls cls a dx clsv⟩) (oi := some i) rfl (fun n => rfl) (fun _ _ _ _ _ _ s => s.unset i) p⟩
          · exact p.elim
        · subst hbf
          exact p clsv dx ρ1 G1 H1 σ1 s1 er⟩
theorem ds_try_only (hs : X.stack = X.env :: X.outer) (hfr : X.env.frame = some X.env.locals) (hc : Names X x (.ref CX)) (tk : Takes X W)
    (hf : ∀ c b, f c = some b → PySem.W.exmOne X.K (.ref (cls (c + 3))) (.ref CX) = some b)
    (hb : ∀ (W : WX) (pn : List (Addr × Obj)) (xe : Value → Shared → Prop), Takes (X.tr pn xe) W → PassesOwn (model X.prog X.w) X.A X.env xe → DSs (X.tr pn xe) cls W body δb)
    (hsu : ∀ (a : Addr) (oe : Obj) (pn : List (Addr × Obj)) (cls' : Nat → Addr), Su cls cls' a oe → DSs (X.suite a ((a, oe) :: pn)) cls' W0 (b₀ :: suite) δh) :
    DS X cls W (.Try body [.ExceptHandler (some (.Name x np)) none (b₀ :: suite) pos'] [] [] pos) (sTry none f δb δh) :=
  PS.weak (ps_try_only (tb := fun W => tS ⟨X.K, cls⟩ W δb) (ts := tsD X cls δh) hs hfr hc tk (fun W pn xe tk hp => hb W pn xe tk hp)
    (fun a oe clsv d pn hz hf => PSs.given fun e => hsu a oe pn _ (su_of hz hf e))) fun Dn σ H ⟨en, Γ, S, ρ, G, s, p⟩ => ⟨en, Γ, S, ρ, G, s, by
    unfold sTry at p
    cases q : δb Γ S with
    | next Γ1 S1 => rw [q] at p; exact p
    | brk Γ1 S1 => rw [q] at p; exact p
    | cont Γ1 S1 => rw [q] at p; exact p
    | ret d S1 => rw [q] at p; exact p
    | stuck => rw [q] at p; exact p
    | exc e Γ1 S1 =>
      rw [q] at p
      intro clsv dx ρ1 G1 H1 σ1 s1 er
      have ec : clsv = .ref (cls (e.c + 3)) := er.1
      simp only at p
      cases hfe : f e.c with
      | none => rw [hfe] at p; exact p.elim
      | some b =>
        rw [hfe] at p
        refine ⟨b, by rw [ec]; exact hf _ _ hfe, fun hbt a na => ?_, fun hbf => ?_⟩
        · subst hbt
          simp only at p
          split at p
          · rename_i hx
            obtain ⟨z1, z2⟩ := xok_of (X := X) (a := a) er
            have s2 := SI.re (C := ⟨X.K, cls⟩) (C' := ⟨X.K, xcls cls a dx clsv⟩) rfl (fun n => rfl) hx s1
            exact ⟨z1, en, _, S1, ρ1, G1, s2, try_core (C := ⟨X.K, cls⟩) (C' := ⟨X.K, xcls cls a dx clsv⟩) (oi := none) (un := fun σ => σ) rfl (fun n => rfl) (fun _ _ _ _ _ _ s => s) p⟩
          · exact p.elim
        · subst hbf
          exact p clsv dx ρ1 G1 H1 σ1 s1 er⟩
end
/-! ### e.f, e the error that is handled -/
def eXf (i : Nat) (f : Str) (g : Nat → Bool) : De := fun Γ S => match Γ[i]? with
  | some (.xcp x) => if g x.c = true then ofO ((x.ns.zip x.fs).lookup f) S else .stuck
  | _ => .stuck
theorem zip_lookup {C : Cn} {ρ : List Addr} {G : Hp} {f : Str} {d : D} : ∀ {ns : List Str} {ds : List D} {vs : List V}, Reps C ρ G ds vs → (ns.zip ds).lookup f = some d → ∃ v, (ns.zip vs).lookup f = some v ∧ Rep C ρ G d v
  | [], _, _, _, h => by cases h
  | n :: ns, [], _, _, h => by cases h
  | n :: ns, d0 :: ds, vs, r, h => by
    obtain ⟨v, us, rfl, h1, h2⟩ := r.inv
    rw [List.zip_cons_cons] at h ⊢
    by_cases e : f = n
    · subst e
      simp [List.lookup] at h
      subst h
      exact ⟨v, by simp [List.lookup], h1⟩
    · have e2 : (f == n) = false := by simpa using e
      simp only [List.lookup, e2] at h ⊢
      exact zip_lookup h2 h
section
variable {X : Cx} {cls cls' : Nat → Addr} {a : Addr} {oe : Obj} {pn : List (Addr × Obj)} {pos p p2 : Pos} {f y : Str} {g : Nat → Bool}
theorem de_xf (u : Su cls cls' a oe) (i : Nat) {x : Str} (hg : ∀ c, g c = true → XfC X.K (cls (c + 3)) ∧ PySem.W.findIn X.K (.ref (cls (c + 3))) f = some none) (he : PE (X.suite a ((a, oe) :: pn)) (.Name x p) (tVar i))
    (hb : attributeBase (.Name x p) f X.env (eval (.Name x p) X.env) = eval (.Name x p) X.env := by rfl) : DE (X.suite a ((a, oe) :: pn)) cls' W0 (.Attribute (.Name x p) f pos) (eXf i f g) := by
  refine ⟨fun pins s σ H Q I h => ?_⟩
  obtain ⟨Γ, S, ρ, G, m, q⟩ := h
  unfold eXf at q
  split at q
  · rename_i xn hx
    split at q
    · rename_i hgx
      obtain ⟨d, hd, q2⟩ := ofO_post q
      obtain ⟨e0, x1, x2, x3⟩ := m.xcp i xn hx
      have hcls : cls' 2 = cls (xn.c + 3) := x1.trans (u.up _)
      obtain ⟨T, hno⟩ := hg _ hgx
      have hfs : xn.fs ≠ [] := fun z => by rw [z] at hd; cases hn : xn.ns <;> rw [hn] at hd <;> cases hd
      obtain ⟨d1, vs, e1, gd, hl, r⟩ := x3 hfs
      obtain ⟨v, hv, rv⟩ := zip_lookup r hd
      have hz := u.z
      have e1' : cls' 1 = d1 + 1 := e1
      rw [e1'] at hz
      have a0 : cls' 0 = a := u.a0
      have e0' : σ[i]? = some (some (V.ref a)) := by rw [← a0]; exact e0
      exact (pe_xf (X := X) (C := cls (xn.c + 3)) (cls := .ref (cls' 2)) (d := some d1) T hno hz u.f he hb).run pins s σ H Q I ⟨_, e0', rfl, by rw [hcls], d1, _, v, rfl, m.sub _ _ gd, hv, q2.at m rv⟩
    · exact q.elim
  · exact q.elim
end
end DL

namespace DL
open PySem PySem.Spec PyProof.Rows L2
/-! ### isinstance(e, X), e the error that is handled -/
def eIsX (i : Nat) (f : Nat → Option Bool) : De := fun Γ S => match Γ[i]? with
  | some (.xcp x) => ofO ((f x.c).map .bl) S
  | _ => .stuck
section
variable {X : Cx} {cls cls' : Nat → Addr} {a CX : Addr} {oe : Obj} {pn : List (Addr × Obj)} {pos p p1 p2 : Pos} {x y : Str} {f : Nat → Option Bool}
def rIsX (K : PySem.W.Frag) (cls' : Nat → Addr) (a CX : Addr) : List V → Hp → VK → Prop := fun xs H Q => ∃ b, xs = [.ref a, .ref CX] ∧ ExcC K (cls' 2) ∧ (∀ d, cls' 1 = d + 1 → ∃ fs, H d = some (.xd fs)) ∧ PySem.W.kitOne K (.ref (cls' 2)) (.ref CX) = some b ∧ Q (.bl b) H
theorem call_isX (u : Su cls cls' a oe) : CallR (X.suite a ((a, oe) :: pn)) (.builtin "isinstance") (rIsX X.K cls' a CX) := by
  intro pins s σ H xs us Q I r h
  obtain ⟨b, rfl, C, hd, e, q⟩ := h
  cases r with
  | cons rx rr =>
    cases rr with
    | cons rt rr =>
      cases rr
      cases rx
      cases rt
      obtain ⟨hget, _⟩ := I.pin (a, oe) (List.mem_append.mpr (.inl List.mem_cons_self))
      obtain ⟨vs, hv⟩ := u.f
      have hz := u.z
      obtain ⟨cd, hcd, _⟩ := PySem.W.any_some C.hd
      have fin : ∀ od, PySem.W.InstAt s.heap a oe (cls' 2) od → wpAny (model X.prog X.w) X.A.in1 (pure ()) (fun _ _ => True) (fun _ _ => True) s → wpAny (model (X.suite a ((a, oe) :: pn)).prog (X.suite a ((a, oe) :: pn)).w) (X.suite a ((a, oe) :: pn)).A (call (.builtin "isinstance") [.ref a, .ref CX]) (EP (X.suite a ((a, oe) :: pn)) pins σ Q) (X.suite a ((a, oe) :: pn)).xe s := fun od J _ =>
        PySem.W.kia_one (PySem.W.kitx_exc (by rw [hcd]; rfl) C.hg C.hk C.hs C.ha C.hn C.ht C.hm) I.kIn J e (fun z => nomatch z) fun tk => ⟨.bl b, H, I.kept (t' := tk) fun _ _ z => z, rfl, q⟩
      cases h1 : cls' 1 with
      | zero =>
        rw [h1] at hz
        refine fin none ?_ (wpAny_pure trivial)
        exact ⟨hget, hz.1, by unfold PySem.W.notCls; rw [hv] <;> rfl, by rw [hz.2]; trivial⟩
      | succ d =>
        rw [h1] at hz
        obtain ⟨fs, hfs⟩ := hd d h1
        have hx : ObjOk X.prog X.w H s.heap d (.xd fs) := I.hok d _ hfs
        obtain ⟨mA, hns, hr⟩ := hx
        obtain ⟨od, ho, hl⟩ := lookIn_ns hns
        refine fin (some od) ?_ (wpAny_pure trivial)
        exact ⟨hget, hz.1, by unfold PySem.W.notCls; rw [hv] <;> rfl, by rw [hz.2]; exact ho⟩
theorem de_isx (u : Su cls cls' a oe) (i : Nat) (hg : Gl X "isinstance") (hm : X.mg "isinstance" = none) (hgC : Gl X y) (hmC : X.mg y = some (.ref CX)) (hf : ∀ c b, f c = some b → ExcC X.K (cls (c + 3)) ∧ PySem.W.kitOne X.K (.ref (cls (c + 3))) (.ref CX) = some b)
    (hx : PE (X.suite a ((a, oe) :: pn)) (.Name x p1) (tVar i)) (hdb : (y == ("__debug__" : Str)) = false := by decide)
    (he : starEach [.Name x p1, .Name y p2] (X.suite a ((a, oe) :: pn)).env = (false, eval (.Name x p1) (X.suite a ((a, oe) :: pn)).env) :: starEach [.Name y p2] (X.suite a ((a, oe) :: pn)).env := by rfl) (he2 : starEach [.Name y p2] (X.suite a ((a, oe) :: pn)).env = (false, eval (.Name y p2) (X.suite a ((a, oe) :: pn)).env) :: starEach [] (X.suite a ((a, oe) :: pn)).env := by rfl)
    (hpl : (backTo pos (starEach [.Name y p2] (X.suite a ((a, oe) :: pn)).env)).any (·.1) = false := by rfl) :
    DE (X.suite a ((a, oe) :: pn)) cls' W0 (.Call (.Name "isinstance" p) [.Name x p1, .Name y p2] [] pos) (eIsX i f) :=
  PE.weak (pe_callB (X := X.suite a ((a, oe) :: pn)) (call_isX (X := X) (CX := CX) u) hg hm (by decide +kernel) (pa_cons hx (pa_cons (pe_glob (X := X.suite a ((a, oe) :: pn)) (v := .ref CX) hgC hmC rfl hdb) pa_nil he2) he) (by decide) (by decide) he hpl) fun σ H Q ⟨Γ, S, ρ, G, m, q⟩ => by
    unfold eIsX at q
    split at q
    · rename_i xn hxn
      obtain ⟨d, hd, q2⟩ := ofO_post q
      obtain ⟨e0, x1, x2, x3⟩ := m.xcp i xn hxn
      have hcls : cls' 2 = cls (xn.c + 3) := x1.trans (u.up _)
      cases hfc : f xn.c with
      | none => rw [hfc] at hd; cases hd
      | some b =>
        rw [hfc] at hd; cases hd
        obtain ⟨C, k⟩ := hf _ _ hfc
        have a0 : cls' 0 = a := u.a0
        have e0' : σ[i]? = some (some (V.ref a)) := by rw [← a0]; exact e0
        refine ⟨_, e0', b, rfl, by rw [hcls]; exact C, fun d hd => ?_, by rw [hcls]; exact k, q2.at m (rep_bl.mpr rfl)⟩
        by_cases z : xn.fs = []
        · have y1 : cls' 1 = 0 := x2 z
          rw [y1] at hd; cases hd
        · obtain ⟨d1, vs, e1, gd, _, _⟩ := x3 z
          have y1 : cls' 1 = d1 + 1 := e1
          rw [y1] at hd; cases hd
          exact ⟨_, m.sub _ _ gd⟩
    · exact q.elim
end
end DL

namespace DL
open PySem PySem.Spec PyProof.Rows L2
/-! ### dict comprehensions -/
def dcompD (p : Pat) (τ : Dt) (κ ε : De) : List D → List Sl → List D → List Key × List D → Res (List Key × List D)
  | [], _, S, acc => .ok acc S
  | x :: xs, Γ, S, acc => match p.bind x Γ with
    | none => .stuck
    | some Γ1 => (nox (τ Γ1 S)).bind fun k S1 => if k then (nox (κ Γ1 S1)).bind fun y S2 => (nox (ε Γ1 S2)).bind fun z S3 => match keyD y with
        | some q => if acc.2.length < sizeLine then dcompD p τ κ ε xs Γ S3 (dPut acc.1 acc.2 q z) else .stuck
        | none => .stuck
      else dcompD p τ κ ε xs Γ S1 acc
def eDComp (ι : Da) (p : Pat) (vs : List Nat) (τ : Dt) (κ ε : De) : De := fun Γ S => (ι Γ S).bind fun xs S1 => (dcompD p τ κ ε xs (wipeD Γ vs) S1 ([], [])).bind fun a S2 => .ok (.dct a.1 a.2) S2
section
variable {X : Cx} {cls : Nat → Addr} {W : WX}
theorem x_dcomp {ι : Da} {p : Pat} {τ : Dt} {κ ε : De} {vs : List Nat} (hv : ∀ i ∈ p.vars, i ∈ vs) {σ : L2.St} {H : Hp} {Q : VK} (h : tE ⟨X.K, cls⟩ W (RF ⟨X.K, cls⟩) (eDComp ι p vs τ κ ε) σ H Q) :
    tDc (tI ⟨X.K, cls⟩ W ι) (p.g X.K) (tT ⟨X.K, cls⟩ W0 τ) (tE ⟨X.K, cls⟩ W0 (RS ⟨X.K, cls⟩) κ) (tE ⟨X.K, cls⟩ W0 (RS ⟨X.K, cls⟩) ε) vs σ H Q := by
  obtain ⟨Γ, S, ρ, G, m, q⟩ := h
  refine ⟨Γ, S, ρ, G, m, ?_⟩
  unfold eDComp at q
  cases z : ι Γ S with
  | exc x S1 => rw [z] at q; exact q
  | stuck => rw [z] at q; exact q
  | ok xs S1 =>
    rw [z] at q
    simp only [Res.bind_ok] at q
    intro J ρ1 G1 H1 m1 n1 sk D0 hD
    have hown : ∀ (i : Nat) (d : D) (b : Addr), Γ[i]? = some (Sl.own d) → σ[i]? = some (some (V.ref b)) → b ≠ D0 := fun i d b h1 h2 e => by
      obtain ⟨b', e', r', _⟩ := m1.own i d h1
      rw [h2] at e'; cases e'
      obtain ⟨o, ho⟩ := r'.some
      rw [e, hD] at ho; cases ho
    have gD : G1 D0 = none := by
      cases e : G1 D0 with
      | none => rfl
      | some o => rw [m1.sub _ _ e] at hD; cases hD
    have pD : D0 ∉ ρ1 := fun e => by
      obtain ⟨i, hi⟩ := List.mem_iff_getElem?.mp e
      have hi2 : i < S1.length := by rw [← m1.len]; exact (List.getElem?_eq_some_iff.mp hi).1
      obtain ⟨a, ha, r⟩ := m1.sto i S1[i] (List.getElem?_eq_getElem hi2)
      rw [hi] at ha; cases ha
      obtain ⟨o, ho⟩ := r.some
      rw [ho] at hD; cases hD
    let Pv : Nat → Hp → Prop := fun i H => ∃ S ρ G us, ∃ acc : List Key × List D, Mem ⟨X.K, cls⟩ Γ S ρ G H σ ∧ H D0 = some (.dK (acc.1.zip us)) ∧ acc.1.length = acc.2.length ∧ Reps ⟨X.K, cls⟩ ρ G acc.2 us ∧ D0 ∉ ρ ∧ G D0 = none ∧ Nx ρ1 G1 H1 ρ G H ∧
      dcompD p τ κ ε xs (wipeD Γ vs) S1 ([], []) = dcompD p τ κ ε (xs.drop i) (wipeD Γ vs) S acc
    refine ⟨fun i mm H => mm = xs.length - i ∧ i ≤ xs.length ∧ Pv i H, ⟨xs.length, by omega, Nat.zero_le _, S1, ρ1, G1, [], ([], []), m1.aside gD pD hown, upd_same, rfl, .nil, pD, gD, Nx.refl.aside hD, ?_⟩, fun i mm H ⟨hm, hi, S, ρ, G, us, acc, ms, hacc, hlen, racc, pD', gD', nn, eqn⟩ => ?_⟩
    · rw [List.drop_zero]
    · have sub1 : Sub G1 G := nn.ext
      by_cases hlt : i < xs.length
      · rw [List.drop_eq_getElem_cons hlt, dcompD] at eqn
        refine .inr ⟨sk.go S ρ G H i ms.toS sub1 nn.pre hlt, Pv (i + 1), fun H' n => ⟨xs.length - (i + 1), by omega, rfl, hlt, n⟩, fun x H' y => ?_⟩
        obtain ⟨G', m', n', r'⟩ := sk.yld S ρ G H i x H' _ ms.toS sub1 nn.pre (List.getElem?_eq_getElem hlt) y
        have mH' := ms.step n' m'
        have mw := mH'.wipe vs
        cases hbd : p.bind xs[i] (wipeD Γ vs) with
        | none => rw [hbd] at eqn; rw [eqn] at q; exact q.elim
        | some Γ1 =>
          rw [hbd] at eqn
          simp only at eqn
          refine Pat.ok (C := ⟨X.K, cls⟩) p xs[i] x (wipeD Γ vs) Γ1 (L2.wipe σ vs) mw r' hbd _ fun σ2 m2 _ kp => ⟨?_, Γ1, S, ρ, G', m2, ?_⟩
          · rw [wipe_eq kp.1 fun j hj => kp.2 j fun h => hj (hv j h), wipe_eq (L2.wipe_length σ vs) fun j hj => wipe_out2 hj]
          · cases zt : τ Γ1 S with
            | exc x2 S2 => rw [zt] at eqn; rw [eqn] at q; exact q.elim
            | stuck => rw [zt] at eqn; rw [eqn] at q; exact q.elim
            | ok k S2 =>
              rw [zt] at eqn
              simp only [nox_ok, Res.bind_ok] at eqn
              intro kv ρ2 G2 H2 mm2 nn2 rk
              have ek : k = kv := rk
              subst ek
              have nnH : Nx ρ G H ρ2 G2 H2 := n'.trans nn2
              have mg2 : Mem ⟨X.K, cls⟩ Γ S2 ρ2 G2 H2 σ := ms.step nnH mm2.toS
              have outρ : ∀ {ρ5 : List Addr} {G5 H5 : Hp}, Nx ρ G H ρ5 G5 H5 → D0 ∉ ρ5 := fun {ρ5 G5 H5} nn z => by
                rcases nn.fre _ z with z | z
                · exact pD' z
                · rw [hacc] at z; cases z
              have outG : ∀ {ρ5 : List Addr} {G5 H5 : Hp}, Nx ρ G H ρ5 G5 H5 → G5 D0 = none := fun {ρ5 G5 H5} nn => by
                cases e : G5 D0 with
                | none => rfl
                | some o => rcases nn.new _ _ e with z | z
                            · rw [gD'] at z; cases z
                            · rw [hacc] at z; cases z
              cases k with
              | false =>
                simp only [Bool.false_eq_true, if_false] at eqn
                exact iteF ⟨S2, ρ2, G2, us, acc, mg2, nnH.keep _ _ hacc pD', hlen, Reps.mono nnH.ext nnH.pre _ _ racc, outρ nnH, outG nnH, nn.trans nnH, eqn⟩
              | true =>
                simp only [if_true] at eqn
                refine iteT ⟨Γ1, S2, ρ2, G2, mm2, ?_⟩
                cases zk : κ Γ1 S2 with
                | exc x3 S3 => rw [zk] at eqn; rw [eqn] at q; exact q.elim
                | stuck => rw [zk] at eqn; rw [eqn] at q; exact q.elim
                | ok dk S3 =>
                  rw [zk] at eqn
                  simp only [nox_ok, Res.bind_ok] at eqn
                  intro kv3 ρ3 G3 H3 mm3 nn3 rk3
                  refine ⟨Γ1, S3, ρ3, G3, mm3, ?_⟩
                  cases ze : ε Γ1 S3 with
                  | exc x3 S4 => rw [ze] at eqn; rw [eqn] at q; exact q.elim
                  | stuck => rw [ze] at eqn; rw [eqn] at q; exact q.elim
                  | ok d S4 =>
                    rw [ze] at eqn
                    simp only [nox_ok, Res.bind_ok] at eqn
                    intro dv ρ4 G4 H4 mm4 nn4 rd
                    have nn5 : Nx ρ G H ρ4 G4 H4 := (nnH.trans nn3).trans nn4
                    have hacc4 := nn5.keep _ _ hacc pD'
                    have mg4 : Mem ⟨X.K, cls⟩ Γ S4 ρ4 G4 H4 σ := ms.step nn5 mm4.toS
                    have racc4 := Reps.mono nn5.ext nn5.pre _ _ racc
                    cases hq : keyD dk with
                    | none => rw [hq] at eqn; rw [eqn] at q; exact q.elim
                    | some qk =>
                      rw [hq] at eqn
                      simp only at eqn
                      split at eqn
                      · rename_i hsz
                        obtain ⟨us2, e1, e2, e3⟩ := put_zip rd racc4 hlen qk
                        refine ⟨_, qk, keyD_v hq (rk3.mono nn4.ext nn4.pre), hacc4, ?_, S4, ρ4, G4, us2, dPut acc.1 acc.2 qk d, mg4.aside (outG nn5) (outρ nn5) hown, by rw [upd_same, e1], e2, e3, outρ nn5, outG nn5, (nn.trans nn5).aside hD, eqn⟩
                        rw [List.length_zip, hlen, racc4.length, Nat.min_self, ← racc4.length]; exact hsz
                      · rw [eqn] at q; exact q.elim
      · have e : i = xs.length := by omega
        subst e
        refine .inl ⟨sk.stop S ρ G H ms.toS sub1 nn.pre, ?_⟩
        rw [List.drop_length, dcompD] at eqn
        rw [eqn] at q
        simp only [Res.bind_ok] at q
        exact q _ ρ G H ms (n1.trans nn) ⟨D0, rfl, pD', n1.live _ hD, gD', us, hacc, hlen, racc⟩
theorem df_dcomp {kx vx tg iter : Expr} {ifs : List Expr} {scope : Scope} {own : List (Str × Nat)} {pos : Pos} {ι : Da} {p : Pat} {τ : Dt} {κ ε : De} (hc : X.calm = true) (hN : X.N.Nodup) (hi : DI X cls W tg iter ι) (ok : BlkOk X.N X.env.scope scope own) (hv : ∀ i ∈ p.vars, i ∈ own.map (·.2))
    (hg : ∀ (s : Shared) (H : Hp) (C : Addr) (cl : List (Str × Addr)) (fp : List Addr), PG (X.blk s H scope (compEnvC scope cl C X.env) fp) tg (p.g X.K)) (ht : ∀ (s : Shared) (H : Hp) (C : Addr) (cl : List (Str × Addr)) (fp : List Addr), DTs (X.blk s H scope (compEnvC scope cl C X.env) fp) cls ifs τ)
    (hk : ∀ (s : Shared) (H : Hp) (C : Addr) (cl : List (Str × Addr)) (fp : List Addr), DE (X.blk s H scope (compEnvC scope cl C X.env) fp) cls W0 kx κ)
    (he : ∀ (s : Shared) (H : Hp) (C : Addr) (cl : List (Str × Addr)) (fp : List Addr), DE (X.blk s H scope (compEnvC scope cl C X.env) fp) cls W0 vx ε) (hs : ∀ x, foldedSetIterable iter X.env x = pure x := by intro _; rfl) :
    DF X cls W (.DictComp kx vx [⟨tg, iter, ifs, 0⟩] scope pos) (eDComp ι p (own.map (·.2)) τ κ ε) :=
  PE.weak (pe_dc (tt := tT ⟨X.K, cls⟩ W0 τ) (tk := tE ⟨X.K, cls⟩ W0 (RS ⟨X.K, cls⟩) κ) (tv := tE ⟨X.K, cls⟩ W0 (RS ⟨X.K, cls⟩) ε) hc hN hi ok hg ht hk he hs) fun σ H Q h => x_dcomp hv h
end
end DL

namespace DL
open PySem PySem.Spec PyProof.Rows L2
theorem RoomG.u1 {k : Nat} {A : Around} (r : RoomG k A) : A.units + 1 < cLine := by have := r.units; omega
theorem errBody {prog : Program} {K : PySem.W.Frag} {qual : Str} {st : Stmt} {C D fI cc cda : Addr} {par fld : Str} (tx : ErrSt st par fld)
    {nm q : Str} {N : Addr} {bs bm : List Value} {sn : List Str} {sub : List Value} {ab : Bool} {col : Option Bool} {dd : Option Addr} {k0 k1 k2 k3 k5 : Option Value}
    (cls : K.lookup C = some (excClassObj nm q C N bs bm true sn sub ab col dd k0 k1 k2 k3 k5 "ValueError.__new__")) (rv : PySem.HandSPX.refsVE bm = true)
    (sa : PySem.W.findIn K (.ref C) "__setattr__" = some (some (.builtin "object.__setattr__"))) (noN : PySem.W.findIn K (.ref C) fld = some none) (iC : PySem.W.findIn K (.ref C) "__init__" = some (some (.ref fI))) (tC : PySem.W.typeIn K (.ref fI) = some (.type "function"))
    (kC : PySem.W.keepIn K (.ref C) = true) (exC : PySem.W.subIn K (.ref C) (.type "BaseException") = some true) (veC : PySem.W.subIn K (.ref C) (.type "ValueError") = some true) (tyC : PySem.W.typeIn K (.ref C) = some (.type "type"))
    (sup : PySem.W.ks_superIn K C D "__init__" = some (some (.builtin "ValueError.__init__"))) (mCD : PySem.W.mroIn K C (.ref D) = some true) (clD : PySem.W.isClsIn K D = true)
    {cl : Value} {cld : Option Addr} {csl : Array (Option Value)} (cell : K.lookup cc = some ⟨cl, cld, .cell (some (.ref D)), csl⟩)
    {ccl : Value} {cdd : Option Addr} {vs : Array Value} {ccs : Array (Option Value)} {file : Str} {tf : Tok} (code : K.lookup cda = some ⟨ccl, cdd, .fields vs, ccs⟩) (v2 : vs[2]? = some (.str file tf)) (hfile : ((prog.main.file : Str) == file) = true)
    (thp : PySem.W.nsIn K cStatics "thirdparty.any" = some none) (top : (prog.main.scope.names.lookup ("super" : Str)).isSome = false)
    {oc : Value} {od : Option Addr} {kV doc pm : Value} {an : Option Addr} {ct : Value} {osl : Array (Option Value)}
    (fn : K.lookup fI = some ⟨oc, od, .func (PySem.W.ksFn "__init__" qual (defArgs st) (defBody st) (defScope st) .none kV doc pm an (.ref cda) ct cc), osl⟩) (cod : PySem.W.codeIn K (.ref cda) qual = true)
    (bd : ∀ (s : Shared) (u v : Value), BindsTo s (PySem.W.ksFn "__init__" qual (defArgs st) (defBody st) (defScope st) .none kV doc pm an (.ref cda) ct cc) ⟨[u, v], []⟩ [("self", u), (par, v)]) :
    ErrTxt prog K qual st C D fI cc cda par fld :=
  ⟨tx, ⟨nm, q, N, bs, bm, sn, sub, ab, col, dd, k0, k1, k2, k3, k5, cls, rv⟩, sa, noN, iC, tC, kC, exC, veC, tyC, sup, mCD, Option.isSome_iff_exists.mp clD, ⟨cl, cld, csl, cell⟩, ⟨ccl, cdd, vs, ccs, file, tf, code, v2, hfile⟩, thp, top, ⟨oc, od, kV, doc, pm, an, ct, osl, fn, cod, bd⟩⟩
end DL

namespace DL
open PySem L2

/-! ### reckoning with denotations -/
section
variable {Γ : List Sl} {S : List D} {a b c : De} {t u : Dt} {α β : Da}
@[simp] theorem x_eV {i : Nat} : eV i Γ S = match Γ[i]? with | some (.val d) => .ok d S | _ => .stuck := Eq.trans rfl rfl
@[simp] theorem x_oV {i : Nat} : oV i Γ S = match Γ[i]? with | some (.val d) => .ok d S | some (.own d) => .ok d S | _ => .stuck := Eq.trans rfl rfl
@[simp] theorem x_eC {d : D} : eC d Γ S = .ok d S := Eq.trans rfl rfl
@[simp] theorem x_eOp {f : D → D → Option D} : eOp f a b Γ S = (a Γ S).bind fun x S1 => (b Γ S1).bind fun y S2 => ofO (f (deref S2 x) (deref S2 y)) S2 := Eq.trans rfl rfl
@[simp] theorem x_eUn {f : D → Option D} : eUn f a Γ S = (a Γ S).bind fun x S1 => ofO (f (deref S1 x)) S1 := Eq.trans rfl rfl
@[simp] theorem x_tB : tB a Γ S = (a Γ S).bind fun x S1 => ofO (asB x) S1 := Eq.trans rfl rfl
@[simp] theorem x_tTru : tTru a Γ S = (a Γ S).bind fun x S1 => ofO (dTruth (deref S1 x)) S1 := Eq.trans rfl rfl
@[simp] theorem x_tAnd : tAndD t u Γ S = (t Γ S).bind fun x S1 => if x then u Γ S1 else .ok false S1 := Eq.trans rfl rfl
@[simp] theorem x_tOr : tOrD t u Γ S = (t Γ S).bind fun x S1 => if x then .ok true S1 else u Γ S1 := Eq.trans rfl rfl
@[simp] theorem x_tNot : tNotD t Γ S = (t Γ S).bind fun x S1 => .ok (!x) S1 := Eq.trans rfl rfl
@[simp] theorem x_tTrue : tTrue Γ S = .ok true S := Eq.trans rfl rfl
@[simp] theorem x_eIf : eIf t a b Γ S = (t Γ S).bind fun x S1 => if x then a Γ S1 else b Γ S1 := Eq.trans rfl rfl
@[simp] theorem x_eAnd : eAnd a b Γ S = (a Γ S).bind fun x S1 => match asB x with | some true => b Γ S1 | some false => .ok (.bl false) S1 | none => .stuck := Eq.trans rfl rfl
@[simp] theorem x_eOr : eOr a b Γ S = (a Γ S).bind fun x S1 => match asB x with | some true => .ok (.bl true) S1 | some false => b Γ S1 | none => .stuck := Eq.trans rfl rfl
@[simp] theorem x_eNot : eNot a Γ S = (a Γ S).bind fun x S1 => match asB x with | some b => .ok (.bl (!b)) S1 | none => .stuck := Eq.trans rfl rfl
@[simp] theorem x_aNil : aNil Γ S = .ok [] S := Eq.trans rfl rfl
@[simp] theorem x_aCons : aCons a α Γ S = (a Γ S).bind fun x S1 => (α Γ S1).bind fun xs S2 => .ok (x :: xs) S2 := Eq.trans rfl rfl
@[simp] theorem x_eCall {F : List D → List D → Res D} : eCall F α Γ S = (α Γ S).bind fun ds S1 => F ds S1 := Eq.trans rfl rfl
@[simp] theorem x_eTup : eTup α Γ S = (α Γ S).bind fun ds S1 => .ok (.tup ds) S1 := Eq.trans rfl rfl
@[simp] theorem x_eLst : eLst α Γ S = (α Γ S).bind fun ds S1 => .ok (.lst ds) S1 := Eq.trans rfl rfl
@[simp] theorem x_eBox : eBox a Γ S = (a Γ S).bind fun d S1 => .ok (.ptr S1.length) (S1 ++ [d]) := Eq.trans rfl rfl
@[simp] theorem x_pNo : pNo Γ S = .ok none S := Eq.trans rfl rfl
@[simp] theorem x_pSo : pSo a Γ S = (a Γ S).bind fun x S1 => ofO ((asI x).map some) S1 := Eq.trans rfl rfl
@[simp] theorem x_eCut {f : D → Option Int → Option Int → Option D} {l h : Dp_} : eCut f a l h Γ S = (a Γ S).bind fun x S1 => (l Γ S1).bind fun l S2 => (h Γ S2).bind fun h S3 => ofO (f (deref S3 x) l h) S3 := Eq.trans rfl rfl
@[simp] theorem x_eComp {p : Pat} {vs : List Nat} : eComp α p vs t a Γ S = (α Γ S).bind fun xs S1 => (compD p t a xs (wipeD Γ vs) S1).bind fun ds S2 => ofO (lenOk ds) S2 := Eq.trans rfl rfl
@[simp] theorem x_iA : iA a Γ S = (a Γ S).bind fun x S1 => ofO (items x) S1 := Eq.trans rfl rfl
@[simp] theorem x_iR1 : iR1 a Γ S = (a Γ S).bind fun x S1 => match asI x with | some j => if inR j then .ok (rangeD 0 j.toNat) S1 else .stuck | none => .stuck := Eq.trans rfl rfl
@[simp] theorem x_iR2 : iR2 a b Γ S = (a Γ S).bind fun x S1 => (b Γ S1).bind fun y S2 => match asI x, asI y with | some i, some j => if inR i ∧ inR j then .ok (rangeD i (j - i).toNat) S2 else .stuck | _, _ => .stuck := Eq.trans rfl rfl
@[simp] theorem x_asB {k : Bool} : asB (.bl k) = some k := Eq.trans rfl rfl
@[simp] theorem x_asI {k : Int} : asI (.int k) = some k := Eq.trans rfl rfl
variable {s1 s2 : Ds}
@[simp] theorem x_sNext : sNext Γ S = .next Γ S := Eq.trans rfl rfl
@[simp] theorem x_sSeq : sSeq s1 s2 Γ S = match s1 Γ S with | .next Γ' S' => s2 Γ' S' | o => o := Eq.trans rfl rfl
@[simp] theorem x_sExpr : sExpr a Γ S = after (a Γ S) Γ fun _ S1 => .next Γ S1 := Eq.trans rfl rfl
@[simp] theorem x_sRet : sRet a Γ S = after (a Γ S) Γ fun d S1 => .ret d S1 := Eq.trans rfl rfl
@[simp] theorem x_sRetN : sRetN Γ S = .ret .non S := Eq.trans rfl rfl
@[simp] theorem x_sRetO {i : Nat} : sRetO i Γ S = match Γ[i]? with | some (.own d) => .ret d S | _ => .stuck := Eq.trans rfl rfl
@[simp] theorem x_sSet {i : Nat} : sSet i a Γ S = after (a Γ S) Γ fun d S1 => .next (Γ.set i (.val d)) S1 := Eq.trans rfl rfl
@[simp] theorem x_sOwn {i : Nat} : sOwn i a Γ S = after (a Γ S) Γ fun d S1 => .next (Γ.set i (.own d)) S1 := Eq.trans rfl rfl
@[simp] theorem x_sIf : sIf t s1 s2 Γ S = after (t Γ S) Γ fun k S1 => if k then s1 Γ S1 else s2 Γ S1 := Eq.trans rfl rfl
@[simp] theorem x_sBrk : sBrk Γ S = .brk Γ S := Eq.trans rfl rfl
@[simp] theorem x_sCont : sCont Γ S = .cont Γ S := Eq.trans rfl rfl
@[simp] theorem x_sClr {kl : List Nat} : sClr kl Γ S = .next (clr kl Γ) S := Eq.trans rfl rfl
@[simp] theorem x_sSettle {i : Nat} : sSettle i Γ S = match Γ[i]? with | some (.own d) => .next (Γ.set i (.val d)) S | _ => .stuck := Eq.trans rfl rfl
@[simp] theorem x_sAppO {i : Nat} : sAppO i a Γ S = match Γ[i]? with
  | some (.own (.lst xs)) => after (a Γ S) Γ fun d S1 => if xs.length < sizeLine then .next (Γ.set i (.own (.lst (xs ++ [d])))) S1 else .stuck
  | _ => .stuck := Eq.trans rfl rfl
@[simp] theorem x_sSetO {i : Nat} {k : De} : sSetO i k a Γ S = after (a Γ S) Γ fun d S1 => match Γ[i]? with
  | some (.own (.lst xs)) => after (k Γ S1) Γ fun x S2 => match (asI x).bind (ixN xs.length) with
    | some j => .next (Γ.set i (.own (.lst (xs.set j d)))) S2
    | none => .stuck
  | _ => .stuck := Eq.trans rfl rfl
@[simp] theorem x_sSetP {o k : De} : sSetP o k a Γ S = after (a Γ S) Γ fun d S1 => after (o Γ S1) Γ fun x S2 => after (k Γ S2) Γ fun y S3 => match x with
  | .ptr q => match S3[q]? with
    | some (.lst xs) => match (asI y).bind (ixN xs.length) with
      | some j => .next Γ (S3.set q (.lst (xs.set j d)))
      | none => .stuck
    | _ => .stuck
  | _ => .stuck := Eq.trans rfl rfl
@[simp] theorem x_sAug {i : Nat} {f : D → D → Option D} : sAug i f a Γ S = match Γ[i]? with
  | some (.val dx) => after (a Γ S) Γ fun dy S1 => match f (deref S1 dx) (deref S1 dy) with
    | some d => .next (Γ.set i (.val d)) S1
    | none => .stuck
  | _ => .stuck := Eq.trans rfl rfl
@[simp] theorem x_sBind {p : Pat} : sBind p a Γ S = after (a Γ S) Γ fun d S1 => match p.bind d Γ with | some Γ' => .next Γ' S1 | none => .stuck := Eq.trans rfl rfl
@[simp] theorem x_sFor {p : Pat} {kl : List Nat} : sFor α p kl s1 Γ S = after (α Γ S) Γ fun xs S1 => forD p kl s1 xs Γ S1 := Eq.trans rfl rfl
@[simp] theorem x_bodyRun {n : Nat} {ds : List D} : bodyRun n s1 ds S = match s1 (ds.map Sl.val ++ List.replicate (n - ds.length) Sl.non) S with
  | .next _ S' => .ok .non S'
  | .ret d S' => .ok d S'
  | .exc e _ S' => .exc e S'
  | _ => .stuck := Eq.trans rfl rfl
@[simp] theorem x_clr0 : clr [] Γ = Γ := Eq.trans rfl rfl
@[simp] theorem x_clr1 {i : Nat} {r : List Nat} : clr (i :: r) Γ = clr r (Γ.set i .non) := Eq.trans rfl rfl
@[simp] theorem x_wipe0 : wipeD Γ [] = Γ := Eq.trans rfl rfl
@[simp] theorem x_wipe1 {i : Nat} {r : List Nat} : wipeD Γ (i :: r) = (wipeD Γ r).set i .non := Eq.trans rfl rfl
@[simp] theorem x_bnm {i : Nat} {d : D} : (Pat.nm i).bind d Γ = some (Γ.set i (.val d)) := by rw [Pat.bind]
@[simp] theorem x_btp {ps : List Pat} {ds : List D} : (Pat.tp ps).bind (.tup ds) Γ = Pat.binds ps ds Γ := by rw [Pat.bind]
@[simp] theorem x_bs0 : Pat.binds [] [] Γ = some Γ := by rw [Pat.binds]
@[simp] theorem x_bs1 {p : Pat} {ps : List Pat} {d : D} {ds : List D} : Pat.binds (p :: ps) (d :: ds) Γ = match p.bind d Γ with | some Γ' => Pat.binds ps ds Γ' | none => none := by
  rw [Pat.binds]; try (cases p.bind d Γ <;> rfl)
end
@[simp] theorem deref_non {S : List D} : deref S .non = .non := Eq.trans rfl rfl
@[simp] theorem deref_bl {S : List D} {b : Bool} : deref S (.bl b) = .bl b := Eq.trans rfl rfl
@[simp] theorem deref_int {S : List D} {b : Int} : deref S (.int b) = .int b := Eq.trans rfl rfl
@[simp] theorem deref_str {S : List D} {b : Str} : deref S (.str b) = .str b := Eq.trans rfl rfl
@[simp] theorem deref_lst {S : List D} {b : List D} : deref S (.lst b) = .lst b := Eq.trans rfl rfl
@[simp] theorem deref_tup {S : List D} {b : List D} : deref S (.tup b) = .tup b := Eq.trans rfl rfl
@[simp] theorem deref_dct {S : List D} {k : List Key} {b : List D} : deref S (.dct k b) = .dct k b := Eq.trans rfl rfl
@[simp] theorem deref_ins {S : List D} {c : Nat} {k : List Str} {b : List D} : deref S (.ins c k b) = .ins c k b := Eq.trans rfl rfl
@[simp] theorem deref_scr {S : List D} {b : List Int} : deref S (.scr b) = .scr b := Eq.trans rfl rfl
@[simp] theorem deref_ptr {S : List D} {k : Nat} : deref S (.ptr k) = match S[k]? with | some d => d | none => .ptr k := Eq.trans rfl rfl
@[simp] theorem onI_int {P : Int → Int → Bool} {g : Int → Int → Int} {i j : Int} : onI P g (.int i) (.int j) = if P i j then some (.int (g i j)) else none := Eq.trans rfl rfl
@[simp] theorem dOrd_int {p : Int → Int → Bool} {q : Str → Str → Bool} {i j : Int} : dOrd p q (.int i) (.int j) = some (.bl (p i j)) := Eq.trans rfl rfl
@[simp] theorem dOrd_str {p : Int → Int → Bool} {q : Str → Str → Bool} {i j : Str} : dOrd p q (.str i) (.str j) = some (.bl (q i j)) := Eq.trans rfl rfl
@[simp] theorem dAdd_int {i j : Int} : dAdd (.int i) (.int j) = some (.int (i + j)) := Eq.trans rfl rfl
@[simp] theorem dAddI_int {i j : Int} : dAddI (.int i) (.int j) = some (.int (i + j)) := Eq.trans rfl rfl
theorem dAdd_tup {a b : List D} (h : a.length + b.length ≤ 1000000) : dAdd (.tup a) (.tup b) = some (.tup (a ++ b)) := if_pos (Nat.le_trans h (by decide))
theorem dAdd_lst {a b : List D} (h : a.length + b.length ≤ 1000000) : dAdd (.lst a) (.lst b) = some (.lst (a ++ b)) := if_pos (Nat.le_trans h (by decide))
theorem onL_lst {a b : List D} (h : a.length + b.length ≤ 1000000) : onL (.lst a) (.lst b) = some (.lst (a ++ b)) := if_pos (Nat.le_trans h (by decide))
theorem dMul_int {i j : Int} (h : -(2 ^ 64) < j ∧ j < 2 ^ 64) : dMul (.int i) (.int j) = some (.int (i * j)) := if_pos (.inr h)
theorem dMul_intl {i j : Int} (h : -(2 ^ 64) < i ∧ i < 2 ^ 64) : dMul (.int i) (.int j) = some (.int (i * j)) := if_pos (.inl h)
@[simp] theorem x_fPow_18 : fPow (.int 10) (.int 18) = some (.int P18) := fPow_18
@[simp] theorem dInt_int {i : Int} : dInt (.int i) = some (.int i) := Eq.trans rfl rfl
@[simp] theorem dInt_bl {b : Bool} : dInt (.bl b) = some (.int (if b then 1 else 0)) := Eq.trans rfl rfl
@[simp] theorem dNeg_int {i : Int} : dNeg (.int i) = some (.int (-i)) := Eq.trans rfl rfl
@[simp] theorem dLen_lst {xs : List D} : dLen (.lst xs) = some (.int xs.length) := Eq.trans rfl rfl
@[simp] theorem dLen_tup {xs : List D} : dLen (.tup xs) = some (.int xs.length) := Eq.trans rfl rfl
@[simp] theorem dLen_scr {xs : List Int} : dLen (.scr xs) = some (.int xs.length) := Eq.trans rfl rfl
@[simp] theorem dIdx_lst {xs : List D} {i : Int} : dIdx (.lst xs) (.int i) = atI xs i := Eq.trans rfl rfl
@[simp] theorem dIdx_tup {xs : List D} {i : Int} : dIdx (.tup xs) (.int i) = atI xs i := Eq.trans rfl rfl
@[simp] theorem dIdx_scr {xs : List Int} {i : Int} : dIdx (.scr xs) (.int i) = (atI xs i).map .int := Eq.trans rfl rfl
@[simp] theorem dTruth_non : dTruth .non = some false := Eq.trans rfl rfl
@[simp] theorem dTruth_bl {b : Bool} : dTruth (.bl b) = some b := Eq.trans rfl rfl
@[simp] theorem dTruth_int {b : Int} : dTruth (.int b) = some (b != 0) := Eq.trans rfl rfl
@[simp] theorem dTruth_lst {b : List D} : dTruth (.lst b) = some (!b.isEmpty) := Eq.trans rfl rfl
@[simp] theorem dTruth_tup {b : List D} : dTruth (.tup b) = some (!b.isEmpty) := Eq.trans rfl rfl
@[simp] theorem dTuple_lst {b : List D} : dTuple (.lst b) = some (.tup b) := Eq.trans rfl rfl
@[simp] theorem dTuple_tup {b : List D} : dTuple (.tup b) = some (.tup b) := Eq.trans rfl rfl
@[simp] theorem dList_lst {b : List D} : dList (.lst b) = some (.lst b) := Eq.trans rfl rfl
@[simp] theorem dList_tup {b : List D} : dList (.tup b) = some (.lst b) := Eq.trans rfl rfl
@[simp] theorem dCut_lst {b : List D} {l h : Option Int} : dCut (.lst b) l h = some (.lst (cutD b l h)) := Eq.trans rfl rfl
@[simp] theorem dCut_tup {b : List D} {l h : Option Int} : dCut (.tup b) l h = some (.tup (cutD b l h)) := Eq.trans rfl rfl
@[simp] theorem onlyL_lst {b : List D} {l h : Option Int} : onlyL (.lst b) l h = some (.lst (cutD b l h)) := Eq.trans rfl rfl
@[simp] theorem items_lst {b : List D} : items (.lst b) = some b := Eq.trans rfl rfl
@[simp] theorem items_tup {b : List D} : items (.tup b) = some b := Eq.trans rfl rfl
@[simp] theorem dIsi_tup {b : List D} : dIsi "tuple" (.tup b) = some (.bl true) := by unfold dIsi tyN; rfl
theorem inR_of {i : Int} (h : -(2 ^ 62) ≤ i ∧ i < 2 ^ 62) : inR i = true := decide_eq_true h
theorem lenOk_of {ds : List D} (h : ds.length ≤ 1000000) : lenOk ds = some (.lst ds) := if_pos (Nat.le_trans h (by decide))
theorem atI_get? {α : Type} {xs : List α} {k : Nat} : atI xs (k : Int) = xs[k]? := by
  unfold atI ixN
  by_cases h : k < xs.length
  · rw [if_pos (by omega), if_pos (by omega)]; simp
  · rw [if_pos (by omega), if_neg (by omega), List.getElem?_eq_none (by omega)]; rfl
theorem atI_neg1 {α : Type} {xs : List α} : atI xs (-1) = xs.getLast? := by
  unfold atI ixN
  rw [if_neg (by omega)]
  by_cases h : 0 < xs.length
  · rw [if_pos (by omega)]
    have : (-1 + (xs.length : Int)).toNat = xs.length - 1 := by omega
    simp [this, List.getLast?_eq_getElem?]
  · have : xs = [] := List.eq_nil_of_length_eq_zero (by omega)
    subst this; rfl

/-! ### by what is wanted -/
def WR {α : Type} (r : Res α) (Q : α → List D → Prop) : Prop := match r with | .ok a S => Q a S | _ => False
def WO (o : Out) (N : List Sl → List D → Prop) (R : D → List D → Prop) : Prop := match o with
  | .next Γ S => N Γ S
  | .ret d S => R d S
  | _ => False
/-- a loop's turn: what goes on, what is returned, what breaks -/
def WT (o : Out) (N : List Sl → List D → Prop) (R : D → List D → Prop) (B : List Sl → List D → Prop) : Prop := match o with
  | .next Γ S => N Γ S
  | .cont Γ S => N Γ S
  | .brk Γ S => B Γ S
  | .ret d S => R d S
  | _ => False
theorem WR.ok {α : Type} {r : Res α} {Q : α → List D → Prop} (h : WR r Q) : ∃ a S, r = .ok a S ∧ Q a S := by
  cases r with
  | ok a S => exact ⟨a, S, rfl, h⟩
  | exc _ _ => exact h.elim
  | stuck => exact h.elim
theorem WO.mono {o : Out} {N N' : List Sl → List D → Prop} {R R' : D → List D → Prop} (h : WO o N R) (h1 : ∀ Γ S, N Γ S → N' Γ S) (h2 : ∀ d S, R d S → R' d S) : WO o N' R' := by
  cases o with
  | next _ _ => exact h1 _ _ h
  | ret _ _ => exact h2 _ _ h
  | _ => exact h
theorem WT.mono {o : Out} {N N' B B' : List Sl → List D → Prop} {R R' : D → List D → Prop} (h : WT o N R B) (h1 : ∀ Γ S, N Γ S → N' Γ S) (h2 : ∀ d S, R d S → R' d S) (h3 : ∀ Γ S, B Γ S → B' Γ S) : WT o N' R' B' := by
  cases o with
  | next _ _ => exact h1 _ _ h
  | cont _ _ => exact h1 _ _ h
  | brk _ _ => exact h3 _ _ h
  | ret _ _ => exact h2 _ _ h
  | _ => exact h
theorem forD_wp {p : Pat} {kl : List Nat} {β : Ds} {R : D → List D → Prop} {N : List Sl → List D → Prop} (I : Nat → List Sl → List D → Prop) : ∀ (xs : List D) (i : Nat) (Γ : List Sl) (S : List D), I i Γ S →
    (∀ j x Γ S, xs[j]? = some x → I (i + j) Γ S → ∃ Γ1, p.bind x Γ = some Γ1 ∧ WT (β Γ1 S) (fun Γ2 S2 => I (i + j + 1) (clr kl Γ2) S2) R (fun Γ2 S2 => N (clr kl Γ2) S2)) →
    (∀ Γ S, I (i + xs.length) Γ S → N Γ S) → WO (forD p kl β xs Γ S) N R
  | [], i, Γ, S, h, _, he => he Γ S h
  | x :: xs, i, Γ, S, h, hs, he => by
    obtain ⟨Γ1, hb, hw⟩ := hs 0 x Γ S rfl h
    rw [forD, hb]
    simp only
    have next : ∀ Γ2 S2, I (i + 0 + 1) (clr kl Γ2) S2 → WO (forD p kl β xs (clr kl Γ2) S2) N R := fun Γ2 S2 k =>
      forD_wp I xs (i + 1) _ S2 k (fun j y Γ S hy hI => by
        have := hs (j + 1) y Γ S (by simpa using hy) (by rw [show i + (j + 1) = i + 1 + j by omega]; exact hI)
        rw [show i + (j + 1) + 1 = i + 1 + j + 1 by omega] at this
        exact this) (fun Γ S hI => he Γ S (by rw [List.length_cons, show i + (xs.length + 1) = i + 1 + xs.length by omega]; exact hI))
    cases z : β Γ1 S with
    | next Γ2 S2 => rw [z] at hw; exact next Γ2 S2 hw
    | cont Γ2 S2 => rw [z] at hw; exact next Γ2 S2 hw
    | brk Γ2 S2 => rw [z] at hw; exact hw
    | ret d S2 => rw [z] at hw; exact hw
    | exc _ _ _ => rw [z] at hw; exact hw.elim
    | stuck => rw [z] at hw; exact hw.elim
/-- a comprehension whose elements are told one by one -/
theorem compD_map {p : Pat} {ε : De} {Γ : List Sl} {I : List D → Prop} {P : Nat → D → D → Prop} : ∀ (xs : List D) (i : Nat) (S : List D), I S →
    (∀ j x S, xs[j]? = some x → I S → ∃ Γ1 d S', p.bind x Γ = some Γ1 ∧ ε Γ1 S = .ok d S' ∧ I S' ∧ P (i + j) x d) →
    ∃ ds S', compD p tTrue ε xs Γ S = .ok ds S' ∧ I S' ∧ ds.length = xs.length ∧ ∀ (j : Nat) x d, xs[j]? = some x → ds[j]? = some d → P (i + j) x d
  | [], i, S, h, _ => ⟨[], S, rfl, h, rfl, fun j x d hx => by simp at hx⟩
  | x :: xs, i, S, h, hs => by
    obtain ⟨Γ1, d, S1, hb, he, hI, hP⟩ := hs 0 x S rfl h
    obtain ⟨ds, S2, h1, h2, h3, h4⟩ := compD_map xs (i + 1) S1 hI fun j y S hy hI => by
      have := hs (j + 1) y S (by simpa using hy) hI
      rw [show i + (j + 1) = i + 1 + j by omega] at this
      exact this
    refine ⟨d :: ds, S2, ?_, h2, by rw [List.length_cons, List.length_cons, h3], fun j y e hy hd => ?_⟩
    · rw [compD, hb]
      simp [he, h1]
    · cases j with
      | zero => simp at hy hd; subst hy hd; exact hP
      | succ j =>
        have := h4 j y e (by simpa using hy) (by simpa using hd)
        rw [show i + 1 + j = i + (j + 1) by omega] at this
        exact this
/-- a comprehension whose element is a function of the item -/
theorem compD_pure {p : Pat} {ε : De} {Γ : List Sl} {S : List D} {f : D → D} : ∀ (xs : List D), (∀ x ∈ xs, ∃ Γ1, p.bind x Γ = some Γ1 ∧ ε Γ1 S = .ok (f x) S) → compD p tTrue ε xs Γ S = .ok (xs.map f) S
  | [], _ => rfl
  | x :: xs, h => by
    obtain ⟨Γ1, hb, he⟩ := h x List.mem_cons_self
    rw [compD, hb]
    simp [he, compD_pure xs fun y hy => h y (List.mem_cons_of_mem _ hy)]
theorem rangeD_len {lo : Int} {n : Nat} : (rangeD lo n).length = n := by unfold rangeD; simp
theorem rangeD_get {lo : Int} {n j : Nat} {x : D} (h : (rangeD lo n)[j]? = some x) : j < n ∧ x = .int (lo + j) := by
  unfold rangeD at h
  rw [List.getElem?_map] at h
  by_cases hj : j < n
  · rw [List.getElem?_range hj] at h; cases h; exact ⟨hj, rfl⟩
  · rw [List.getElem?_eq_none (by simp; omega)] at h; cases h
theorem rangeD_mem {lo : Int} {n : Nat} {x : D} (h : x ∈ rangeD lo n) : ∃ j : Nat, j < n ∧ x = .int (lo + j) := by
  obtain ⟨j, hj⟩ := List.mem_iff_getElem?.mp h
  exact ⟨j, rangeD_get hj⟩
end DL

namespace DL
open PySem L2

/-! ### == of data without ints, without truth values -/
mutual
def okI : D → Bool
  | .non => true
  | .bl _ => true
  | .int _ => false
  | .str x => PyData.canLay0 (.str x)
  | .lst xs => okIs xs
  | .tup xs => okIs xs
  | .dct _ _ => false
  | .ins _ _ _ => false
  | .ptr _ => false
  | .scr _ => false
def okIs : List D → Bool
  | [] => true
  | x :: xs => okI x && okIs xs
end
mutual
def okB : D → Bool
  | .non => true
  | .bl _ => false
  | .int _ => true
  | .str x => PyData.canLay0 (.str x)
  | .lst xs => okBs xs
  | .tup xs => okBs xs
  | .dct _ _ => false
  | .ins _ _ _ => false
  | .ptr _ => false
  | .scr _ => false
def okBs : List D → Bool
  | [] => true
  | x :: xs => okB x && okBs xs
end
mutual
def dep : D → Nat
  | .lst xs => deps xs + 1
  | .tup xs => deps xs + 1
  | .non => 0
  | .bl _ => 0
  | .int _ => 0
  | .str _ => 0
  | .dct _ _ => 0
  | .ins _ _ _ => 0
  | .ptr _ => 0
  | .scr _ => 0
def deps : List D → Nat
  | [] => 0
  | x :: xs => max (dep x) (deps xs)
end
/-! any data -/
mutual
def okD : D → Bool
  | .non => true
  | .bl _ => true
  | .int _ => true
  | .str x => PyData.canLay0 (.str x)
  | .lst xs => okDs xs
  | .tup xs => okDs xs
  | .dct _ _ => false
  | .ins _ _ _ => false
  | .ptr _ => false
  | .scr _ => false
def okDs : List D → Bool
  | [] => true
  | x :: xs => okD x && okDs xs
end
mutual
theorem okD_py : ∀ (d : D), okD d = true → ∃ p, toPy d = some p ∧ p.canLay0 = true ∧ p.depth = dep d
  | .non, _ => ⟨_, by rw [toPy], by rw [PyData.canLay0], by rw [PyData.depth, dep]⟩
  | .bl _, _ => ⟨_, by rw [toPy], by rw [PyData.canLay0], by rw [PyData.depth, dep]⟩
  | .int _, _ => ⟨_, by rw [toPy], by rw [PyData.canLay0], by rw [PyData.depth, dep]⟩
  | .str x, h => ⟨_, by rw [toPy], by rw [okD] at h; exact h, by rw [PyData.depth, dep]⟩
  | .lst xs, h => by
    rw [okD] at h
    obtain ⟨ps, e, c, d⟩ := okDs_py xs h
    exact ⟨.list ps, by rw [toPy, e]; rfl, by rw [PyData.canLay0]; exact c, by rw [PyData.depth, dep, d]⟩
  | .tup xs, h => by
    rw [okD] at h
    obtain ⟨ps, e, c, d⟩ := okDs_py xs h
    exact ⟨.tuple ps, by rw [toPy, e]; rfl, by rw [PyData.canLay0]; exact c, by rw [PyData.depth, dep, d]⟩
  | .dct _ _, h => by rw [okD] at h; cases h
  | .ins _ _ _, h => by rw [okD] at h; cases h
  | .ptr _, h => by rw [okD] at h; cases h
  | .scr _, h => by rw [okD] at h; cases h
theorem okDs_py : ∀ (ds : List D), okDs ds = true → ∃ ps, toPys ds = some ps ∧ PyData.canLayAll0 ps = true ∧ PyData.depthAll ps = deps ds
  | [], _ => ⟨[], by rw [toPys], by rw [PyData.canLayAll0], by rw [PyData.depthAll, deps]⟩
  | x :: xs, h => by
    rw [okDs, Bool.and_eq_true] at h
    obtain ⟨p, e1, c1, d1⟩ := okD_py x h.1
    obtain ⟨ps, e2, c2, d2⟩ := okDs_py xs h.2
    exact ⟨p :: ps, by rw [toPys, e1, e2]; rfl, by rw [PyData.canLayAll0, c1, c2]; rfl, by rw [PyData.depthAll, deps, d1, d2]⟩
end
mutual
theorem okI_D : ∀ (d : D), okI d = true → okD d = true
  | .non, _ => by rw [okD]
  | .bl _, _ => by rw [okD]
  | .int _, h => by rw [okI] at h; cases h
  | .str x, h => by rw [okI] at h; rw [okD]; exact h
  | .lst xs, h => by rw [okI] at h; rw [okD]; exact okIs_D xs h
  | .tup xs, h => by rw [okI] at h; rw [okD]; exact okIs_D xs h
  | .dct _ _, h => by rw [okI] at h; cases h
  | .ins _ _ _, h => by rw [okI] at h; cases h
  | .ptr _, h => by rw [okI] at h; cases h
  | .scr _, h => by rw [okI] at h; cases h
theorem okIs_D : ∀ (d : List D), okIs d = true → okDs d = true
  | [], _ => by rw [okDs]
  | x :: xs, h => by
    rw [okIs, Bool.and_eq_true] at h
    rw [okDs, okI_D x h.1, okIs_D xs h.2]; rfl
end
mutual
theorem okB_D : ∀ (d : D), okB d = true → okD d = true
  | .non, _ => by rw [okD]
  | .int _, _ => by rw [okD]
  | .bl _, h => by rw [okB] at h; cases h
  | .str x, h => by rw [okB] at h; rw [okD]; exact h
  | .lst xs, h => by rw [okB] at h; rw [okD]; exact okBs_D xs h
  | .tup xs, h => by rw [okB] at h; rw [okD]; exact okBs_D xs h
  | .dct _ _, h => by rw [okB] at h; cases h
  | .ins _ _ _, h => by rw [okB] at h; cases h
  | .ptr _, h => by rw [okB] at h; cases h
  | .scr _, h => by rw [okB] at h; cases h
theorem okBs_D : ∀ (d : List D), okBs d = true → okDs d = true
  | [], _ => by rw [okDs]
  | x :: xs, h => by
    rw [okBs, Bool.and_eq_true] at h
    rw [okDs, okB_D x h.1, okBs_D xs h.2]; rfl
end
/-- the comparison's answer, by the two readings -/
def peq (d e : D) : Bool := match toPy d, toPy e with | some p, some q => PyData.eqv p q | _, _ => false
def peqs (d e : List D) : Bool := match toPys d, toPys e with | some p, some q => PyData.eqvAll p q | _, _ => false
theorem dEq_peq {d e : D} (h1 : okD d = true) (h2 : okD e = true) (k1 : dep d ≤ 64) (k2 : dep e ≤ 64) : dEq d e = some (peq d e) := by
  obtain ⟨p, e1, c1, d1⟩ := okD_py d h1
  obtain ⟨q, e2, c2, d2⟩ := okD_py e h2
  have s1 : SeqAt.shaped p = true := by unfold SeqAt.shaped; rw [c1, d1]; simpa using k1
  have s2 : SeqAt.shaped q = true := by unfold SeqAt.shaped; rw [c2, d2]; simpa using k2
  rcases dEq_cases d e with ⟨a, b, rfl, rfl, z⟩ | z
  · rw [z]; unfold peq; simp [toPy, PyData.eqv]
  · rw [z]
    unfold dEqP peq
    simp [e1, e2, s1, s2]
theorem peq_tup {xs ys : List D} (h1 : okDs xs = true) (h2 : okDs ys = true) : peq (.tup xs) (.tup ys) = peqs xs ys := by
  obtain ⟨p, e1, _, _⟩ := okDs_py xs h1
  obtain ⟨q, e2, _, _⟩ := okDs_py ys h2
  unfold peq peqs
  rw [toPy, toPy, e1, e2]
  simp [PyData.eqv]
theorem peq_lst {xs ys : List D} (h1 : okDs xs = true) (h2 : okDs ys = true) : peq (.lst xs) (.lst ys) = peqs xs ys := by
  obtain ⟨p, e1, _, _⟩ := okDs_py xs h1
  obtain ⟨q, e2, _, _⟩ := okDs_py ys h2
  unfold peq peqs
  rw [toPy, toPy, e1, e2]
  simp [PyData.eqv]
theorem peqs_nil : peqs [] [] = true := by unfold peqs; simp [toPys, PyData.eqvAll]
theorem peqs_cons {x y : D} {xs ys : List D} (h1 : okD x = true) (h2 : okD y = true) (k1 : okDs xs = true) (k2 : okDs ys = true) : peqs (x :: xs) (y :: ys) = (peq x y && peqs xs ys) := by
  obtain ⟨p, e1, _, _⟩ := okD_py x h1
  obtain ⟨q, e2, _, _⟩ := okD_py y h2
  obtain ⟨ps, e3, _, _⟩ := okDs_py xs k1
  obtain ⟨qs, e4, _, _⟩ := okDs_py ys k2
  unfold peq peqs
  rw [toPys, toPys, e1, e2, e3, e4]
  simp [PyData.eqvAll]
theorem peqs_nc {y : D} {ys : List D} (h2 : okD y = true) (k2 : okDs ys = true) : peqs [] (y :: ys) = false := by
  obtain ⟨q, e2, _, _⟩ := okD_py y h2
  obtain ⟨qs, e4, _, _⟩ := okDs_py ys k2
  unfold peqs
  rw [toPys, toPys, e2, e4]
  simp [PyData.eqvAll]
theorem peqs_cn {y : D} {ys : List D} (h2 : okD y = true) (k2 : okDs ys = true) : peqs (y :: ys) [] = false := by
  obtain ⟨q, e2, _, _⟩ := okD_py y h2
  obtain ⟨qs, e4, _, _⟩ := okDs_py ys k2
  unfold peqs
  rw [toPys, toPys, e2, e4]
  simp [PyData.eqvAll]
theorem peq_bl {a b : Bool} : peq (.bl a) (.bl b) = (a == b) := by unfold peq; simp [toPy, PyData.eqv]
theorem peq_int {a b : Int} : peq (.int a) (.int b) = (a == b) := by unfold peq; simp [toPy, PyData.eqv]
theorem peq_str {a b : Str} : peq (.str a) (.str b) = (a == b) := by unfold peq; simp [toPy, PyData.eqv]
theorem peq_lt {xs ys : List D} : peq (.lst xs) (.tup ys) = false := by
  simp only [peq, toPy]; cases toPys xs <;> cases toPys ys <;> simp [PyData.eqv]
theorem peq_tl {xs ys : List D} : peq (.tup xs) (.lst ys) = false := by
  simp only [peq, toPy]; cases toPys xs <;> cases toPys ys <;> simp [PyData.eqv]
def flatI : D → Bool | .non => true | .bl _ => true | .int _ => true | .str _ => true | _ => false
theorem peq_lf {xs : List D} {e : D} (h : flatI e = true) : peq (.lst xs) e = false := by
  cases e <;> first | (cases h; done) | (simp only [peq, toPy]; cases toPys xs <;> simp [PyData.eqv])
theorem peq_tf {xs : List D} {e : D} (h : flatI e = true) : peq (.tup xs) e = false := by
  cases e <;> first | (cases h; done) | (simp only [peq, toPy]; cases toPys xs <;> simp [PyData.eqv])
theorem peq_fl {xs : List D} {e : D} (h : flatI e = true) : peq e (.lst xs) = false := by
  cases e <;> first | (cases h; done) | (simp only [peq, toPy]; cases toPys xs <;> simp [PyData.eqv])
theorem peq_ft {xs : List D} {e : D} (h : flatI e = true) : peq e (.tup xs) = false := by
  cases e <;> first | (cases h; done) | (simp only [peq, toPy]; cases toPys xs <;> simp [PyData.eqv])
mutual
theorem peq_I : ∀ (d e : D), okI d = true → okI e = true → (peq d e = true ↔ d = e)
  | .int _, _, h, _ => by rw [okI] at h; cases h
  | .dct _ _, _, h, _ => by rw [okI] at h; cases h
  | .ins _ _ _, _, h, _ => by rw [okI] at h; cases h
  | .ptr _, _, h, _ => by rw [okI] at h; cases h
  | .scr _, _, h, _ => by rw [okI] at h; cases h
  | .lst xs, .lst ys, h, k => by
    rw [okI] at h k
    rw [peq_lst (okIs_D _ h) (okIs_D _ k), peqs_I xs ys h k]; simp
  | .tup xs, .tup ys, h, k => by
    rw [okI] at h k
    rw [peq_tup (okIs_D _ h) (okIs_D _ k), peqs_I xs ys h k]; simp
  | .lst xs, .tup ys, h, k => by rw [peq_lt]; simp
  | .tup xs, .lst ys, h, k => by rw [peq_tl]; simp
  | .lst xs, e, h, k => by
    cases e <;> first | (rw [okI] at k; cases k; done) | (rw [peq_lf rfl]; simp; done) | (rw [peq_lt]; simp; done) | (rw [okI] at h k; rw [peq_lst (okIs_D _ h) (okIs_D _ k), peqs_I xs _ h k]; simp)
  | .tup xs, e, h, k => by
    cases e <;> first | (rw [okI] at k; cases k; done) | (rw [peq_tf rfl]; simp; done) | (rw [peq_tl]; simp; done) | (rw [okI] at h k; rw [peq_tup (okIs_D _ h) (okIs_D _ k), peqs_I xs _ h k]; simp)
  | .non, e, h, k => by
    cases e <;> first | (rw [okI] at k; cases k; done) | (rw [peq_fl rfl]; simp; done) | (rw [peq_ft rfl]; simp; done) | (simp [peq, toPy, PyData.eqv])
  | .bl _, e, h, k => by
    cases e <;> first | (rw [okI] at k; cases k; done) | (rw [peq_fl rfl]; simp; done) | (rw [peq_ft rfl]; simp; done) | (simp [peq, toPy, PyData.eqv])
  | .str _, e, h, k => by
    cases e <;> first | (rw [okI] at k; cases k; done) | (rw [peq_fl rfl]; simp; done) | (rw [peq_ft rfl]; simp; done) | (simp [peq, toPy, PyData.eqv])
theorem peqs_I : ∀ (d e : List D), okIs d = true → okIs e = true → (peqs d e = true ↔ d = e)
  | [], [], _, _ => by rw [peqs_nil]; simp
  | [], y :: ys, _, k => by
    rw [okIs, Bool.and_eq_true] at k
    rw [peqs_nc (okI_D _ k.1) (okIs_D _ k.2)]; simp
  | y :: ys, [], k, _ => by
    rw [okIs, Bool.and_eq_true] at k
    rw [peqs_cn (okI_D _ k.1) (okIs_D _ k.2)]; simp
  | x :: xs, y :: ys, h, k => by
    rw [okIs, Bool.and_eq_true] at h k
    rw [peqs_cons (okI_D _ h.1) (okI_D _ k.1) (okIs_D _ h.2) (okIs_D _ k.2), Bool.and_eq_true, peq_I x y h.1 k.1, peqs_I xs ys h.2 k.2]
    simp
end
mutual
theorem peq_B : ∀ (d e : D), okB d = true → okB e = true → (peq d e = true ↔ d = e)
  | .bl _, _, h, _ => by rw [okB] at h; cases h
  | .dct _ _, _, h, _ => by rw [okB] at h; cases h
  | .ins _ _ _, _, h, _ => by rw [okB] at h; cases h
  | .ptr _, _, h, _ => by rw [okB] at h; cases h
  | .scr _, _, h, _ => by rw [okB] at h; cases h
  | .lst xs, .lst ys, h, k => by
    rw [okB] at h k
    rw [peq_lst (okBs_D _ h) (okBs_D _ k), peqs_B xs ys h k]; simp
  | .tup xs, .tup ys, h, k => by
    rw [okB] at h k
    rw [peq_tup (okBs_D _ h) (okBs_D _ k), peqs_B xs ys h k]; simp
  | .lst xs, .tup ys, h, k => by rw [peq_lt]; simp
  | .tup xs, .lst ys, h, k => by rw [peq_tl]; simp
  | .lst xs, e, h, k => by
    cases e <;> first | (rw [okB] at k; cases k; done) | (rw [peq_lf rfl]; simp; done) | (rw [peq_lt]; simp; done) | (rw [okB] at h k; rw [peq_lst (okBs_D _ h) (okBs_D _ k), peqs_B xs _ h k]; simp)
  | .tup xs, e, h, k => by
    cases e <;> first | (rw [okB] at k; cases k; done) | (rw [peq_tf rfl]; simp; done) | (rw [peq_tl]; simp; done) | (rw [okB] at h k; rw [peq_tup (okBs_D _ h) (okBs_D _ k), peqs_B xs _ h k]; simp)
  | .non, e, h, k => by
    cases e <;> first | (rw [okB] at k; cases k; done) | (rw [peq_fl rfl]; simp; done) | (rw [peq_ft rfl]; simp; done) | (simp [peq, toPy, PyData.eqv])
  | .int _, e, h, k => by
    cases e <;> first | (rw [okB] at k; cases k; done) | (rw [peq_fl rfl]; simp; done) | (rw [peq_ft rfl]; simp; done) | (simp [peq, toPy, PyData.eqv])
  | .str _, e, h, k => by
    cases e <;> first | (rw [okB] at k; cases k; done) | (rw [peq_fl rfl]; simp; done) | (rw [peq_ft rfl]; simp; done) | (simp [peq, toPy, PyData.eqv])
theorem peqs_B : ∀ (d e : List D), okBs d = true → okBs e = true → (peqs d e = true ↔ d = e)
  | [], [], _, _ => by rw [peqs_nil]; simp
  | [], y :: ys, _, k => by
    rw [okBs, Bool.and_eq_true] at k
    rw [peqs_nc (okB_D _ k.1) (okBs_D _ k.2)]; simp
  | y :: ys, [], k, _ => by
    rw [okBs, Bool.and_eq_true] at k
    rw [peqs_cn (okB_D _ k.1) (okBs_D _ k.2)]; simp
  | x :: xs, y :: ys, h, k => by
    rw [okBs, Bool.and_eq_true] at h k
    rw [peqs_cons (okB_D _ h.1) (okB_D _ k.1) (okBs_D _ h.2) (okBs_D _ k.2), Bool.and_eq_true, peq_B x y h.1 k.1, peqs_B xs ys h.2 k.2]
    simp
end

/-- == of two such data -/
theorem dEq_I {d e : D} [Decidable (d = e)] (h1 : okI d = true) (h2 : okI e = true) (k1 : dep d ≤ 64) (k2 : dep e ≤ 64) : dEq d e = some (decide (d = e)) := by
  rw [dEq_peq (okI_D _ h1) (okI_D _ h2) k1 k2]
  congr 1
  rw [Bool.eq_iff_iff, peq_I d e h1 h2, decide_eq_true_iff]
theorem dEq_B {d e : D} [Decidable (d = e)] (h1 : okB d = true) (h2 : okB e = true) (k1 : dep d ≤ 64) (k2 : dep e ≤ 64) : dEq d e = some (decide (d = e)) := by
  rw [dEq_peq (okB_D _ h1) (okB_D _ h2) k1 k2]
  congr 1
  rw [Bool.eq_iff_iff, peq_B d e h1 h2, decide_eq_true_iff]
end DL

namespace DL
open PySem L2
@[simp] theorem x_sRevO {i : Nat} {Γ : List Sl} {S : List D} : sRevO i Γ S = match Γ[i]? with
  | some (.own (.lst xs)) => .next (Γ.set i (.own (.lst xs.reverse))) S
  | _ => .stuck := Eq.trans rfl rfl
@[simp] theorem dAbs_int {i : Int} : dAbs (.int i) = some (.int (if i < 0 then -i else i)) := Eq.trans rfl rfl
@[simp] theorem dMax_int {i j : Int} : dMax (.int i) (.int j) = some (.int (if j > i then j else i)) := Eq.trans rfl rfl
@[simp] theorem dMin_int {i j : Int} : dMin (.int i) (.int j) = some (.int (if j < i then j else i)) := Eq.trans rfl rfl
theorem asInts_map (l : List Int) : asInts (l.map D.int) = some l := by
  induction l with
  | nil => rfl
  | cons x r ih => rw [List.map_cons, asInts, ih]; rfl
theorem dSum_map (l : List Int) : dSum (.lst (l.map D.int)) = some (.int l.sum) := by
  show (asInts (l.map D.int)).map (fun l => D.int l.sum) = _; rw [asInts_map]; rfl
@[simp] theorem x_eChain {f g : D → D → Option D} {a b c : De} {Γ : List Sl} {S : List D} : eChain f g a b c Γ S = (a Γ S).bind fun x S1 => (b Γ S1).bind fun y S2 => (ofO (f (deref S2 x) (deref S2 y)) S2).bind fun k S3 => match asB k with
  | some true => (c Γ S3).bind fun z S4 => ofO (g (deref S4 y) (deref S4 z)) S4
  | some false => .ok (.bl false) S3
  | none => .stuck := Eq.trans rfl rfl
@[simp] theorem dEq_str {a b : Str} : dEq (.str a) (.str b) = some (a == b) := Eq.trans rfl rfl
@[simp] theorem cEq_str {a b : Str} : cEq (.str a) (.str b) = some (.bl (a == b)) := Eq.trans rfl rfl
@[simp] theorem cNe_str {a b : Str} : cNe (.str a) (.str b) = some (.bl (!(a == b))) := Eq.trans rfl rfl
theorem dEq_int' (a b : Int) : dEq (.int a) (.int b) = some (a == b) := by
  rw [dEq_peq (by rw [okD]) (by rw [okD]) (by rw [dep]; decide) (by rw [dep]; decide), peq_int]
theorem dEq_bl' (a b : Bool) : dEq (.bl a) (.bl b) = some (a == b) := by
  rw [dEq_peq (by rw [okD]) (by rw [okD]) (by rw [dep]; decide) (by rw [dep]; decide), peq_bl]
@[simp] theorem cEq_i2 (a b : Int) : cEq (.int a) (.int b) = some (.bl (a == b)) := by unfold cEq; rw [dEq_int']; rfl
@[simp] theorem cNe_i2 (a b : Int) : cNe (.int a) (.int b) = some (.bl (a != b)) := by unfold cNe; rw [dEq_int']; rfl
@[simp] theorem cEq_b2 (a b : Bool) : cEq (.bl a) (.bl b) = some (.bl (a == b)) := by unfold cEq; rw [dEq_bl']; rfl
@[simp] theorem cNe_b2 (a b : Bool) : cNe (.bl a) (.bl b) = some (.bl (a != b)) := by unfold cNe; rw [dEq_bl']; rfl
/-- a place drawn -/
theorem pick {xs : List D} {r : Int} (h0 : 0 ≤ r) (h1 : r < xs.length) : ∃ d ∈ xs, atI xs r = some d := by
  obtain ⟨k, rfl⟩ : ∃ k : Nat, r = (k : Int) := ⟨r.toNat, by omega⟩
  have hk : k < xs.length := by omega
  exact ⟨xs[k], List.getElem_mem hk, by rw [atI_get?, List.getElem?_eq_getElem hk]⟩
theorem pickS {xs : List Str} {r : Int} (h0 : 0 ≤ r) (h1 : r < xs.length) : ∃ x ∈ xs, atI (xs.map D.str) r = some (.str x) := by
  obtain ⟨d, hd, e⟩ := pick (xs := xs.map D.str) h0 (by rw [List.length_map]; exact h1)
  obtain ⟨x, hx, rfl⟩ := List.mem_map.mp hd
  exact ⟨x, hx, e⟩
theorem pickI {xs : List Int} {r : Int} (h0 : 0 ≤ r) (h1 : r < xs.length) : ∃ x ∈ xs, atI (xs.map D.int) r = some (.int x) := by
  obtain ⟨d, hd, e⟩ := pick (xs := xs.map D.int) h0 (by rw [List.length_map]; exact h1)
  obtain ⟨x, hx, rfl⟩ := List.mem_map.mp hd
  exact ⟨x, hx, e⟩
theorem dEq_same {d : D} (h : okB d = true) (k : dep d ≤ 64) : dEq d d = some true := by
  haveI : Decidable (d = d) := .isTrue rfl
  rw [dEq_B h h k k]
  exact congrArg some (decide_eq_true rfl)
end DL

namespace DL
open PySem L2
/-! ### messages as data -/
inductive Ky where
  | i (n : Int) | s (x : Str)
def eK : Ky → D
  | .i n => .int n
  | .s x => .str x
mutual
inductive Nd where
  | text (x : Str) | shw (n : Str) | num
  | sel (n : Str) (cs : List Cs) (o : List Nd)
  | plu (n : Str) (f : Int) (cs : List Cs) (o : List Nd)
inductive Cs where
  | mk (k : Ky) (m : List Nd)
end
mutual
def eN : Nd → D
  | .text x => .tup [.str "text", .str x]
  | .shw n => .tup [.str "show", .str n]
  | .num => .tup [.str "number"]
  | .sel n cs o => .tup [.str "select", .str n, .lst (eCs cs), .lst (eL o)]
  | .plu n f cs o => .tup [.str "plural", .str n, .int f, .lst (eCs cs), .lst (eL o)]
def eL : List Nd → List D
  | [] => []
  | n :: r => eN n :: eL r
def eC1 : Cs → D
  | .mk k m => .tup [eK k, .lst (eL m)]
def eCs : List Cs → List D
  | [] => []
  | c :: r => eC1 c :: eCs r
end
theorem eL_map (m : List Nd) : eL m = m.map eN := by
  induction m with
  | nil => rw [eL]; rfl
  | cons n r ih => rw [eL, ih]; rfl
theorem eCs_map (m : List Cs) : eCs m = m.map eC1 := by
  induction m with
  | nil => rw [eCs]; rfl
  | cons n r ih => rw [eCs, ih]; rfl
@[simp] theorem eL_nil : eL [] = [] := by rw [eL]
@[simp] theorem eCs_nil : eCs [] = [] := by rw [eCs]
@[simp] theorem eL_len (m : List Nd) : (eL m).length = m.length := by rw [eL_map, List.length_map]
@[simp] theorem eCs_len (m : List Cs) : (eCs m).length = m.length := by rw [eCs_map, List.length_map]
theorem eL_app (a b : List Nd) : eL (a ++ b) = eL a ++ eL b := by simp only [eL_map, List.map_append]
theorem eCs_app (a b : List Cs) : eCs (a ++ b) = eCs a ++ eCs b := by simp only [eCs_map, List.map_append]
theorem eCs_rev (a : List Cs) : (eCs a).reverse = eCs a.reverse := by simp only [eCs_map, List.map_reverse]
theorem eL_one (n : Nd) : eL [n] = [eN n] := by rw [eL, eL]
theorem eCs_one (n : Cs) : eCs [n] = [eC1 n] := by rw [eCs, eCs]
/-! ### what a message must be -/
def sOk (x : Str) : Bool := PyData.canLay0 (.str x)
def iOk (i : Int) : Bool := decide (i.natAbs < 2 ^ 64)
def kOk : Ky → Bool
  | .i n => iOk n
  | .s x => sOk x
mutual
def nOk : Nd → Bool
  | .text x => sOk x
  | .shw n => sOk n
  | .num => true
  | .sel n cs o => sOk n && csOk cs && lOk o
  | .plu n f cs o => sOk n && iOk f && csOk cs && lOk o
def lOk : List Nd → Bool
  | [] => true
  | n :: r => nOk n && lOk r
def cOk : Cs → Bool
  | .mk k m => kOk k && lOk m
def csOk : List Cs → Bool
  | [] => true
  | c :: r => cOk c && csOk r
end
/-! how deep -/
mutual
def nH : Nd → Nat
  | .sel _ cs o => max (csH cs) (lH o) + 1
  | .plu _ _ cs o => max (csH cs) (lH o) + 1
  | .text _ => 0
  | .shw _ => 0
  | .num => 0
def lH : List Nd → Nat
  | [] => 0
  | n :: r => max (nH n) (lH r)
def cH : Cs → Nat
  | .mk _ m => lH m
def csH : List Cs → Nat
  | [] => 0
  | c :: r => max (cH c) (csH r)
end
/-! how great -/
def kW : Ky → Nat
  | .i n => (toString n : Str).length
  | .s x => 10 * x.length + 2
mutual
def nW : Nd → Nat
  | .text x => 10 * x.length + 40
  | .shw n => 10 * n.length + 40
  | .num => 40
  | .sel n cs o => 10 * n.length + csW cs + lW o + 60
  | .plu n f cs o => 10 * n.length + (toString f : Str).length + csW cs + lW o + 60
def lW : List Nd → Nat
  | [] => 0
  | n :: r => nW n + lW r
def cW : Cs → Nat
  | .mk k m => kW k + lW m + 20
def csW : List Cs → Nat
  | [] => 0
  | c :: r => cW c + csW r
end
theorem lOk_app (a b : List Nd) : lOk (a ++ b) = (lOk a && lOk b) := by
  induction a with
  | nil => simp [lOk]
  | cons n r ih => rw [List.cons_append, lOk, lOk, ih, Bool.and_assoc]
theorem csOk_app (a b : List Cs) : csOk (a ++ b) = (csOk a && csOk b) := by
  induction a with
  | nil => simp [csOk]
  | cons n r ih => rw [List.cons_append, csOk, csOk, ih, Bool.and_assoc]
theorem lH_app (a b : List Nd) : lH (a ++ b) = max (lH a) (lH b) := by
  induction a with
  | nil => simp [lH]
  | cons n r ih => rw [List.cons_append, lH, lH, ih, Nat.max_assoc]
theorem csH_app (a b : List Cs) : csH (a ++ b) = max (csH a) (csH b) := by
  induction a with
  | nil => simp [csH]
  | cons n r ih => rw [List.cons_append, csH, csH, ih, Nat.max_assoc]
theorem lW_app (a b : List Nd) : lW (a ++ b) = lW a + lW b := by
  induction a with
  | nil => simp [lW]
  | cons n r ih => rw [List.cons_append, lW, lW, ih, Nat.add_assoc]
theorem csW_app (a b : List Cs) : csW (a ++ b) = csW a + csW b := by
  induction a with
  | nil => simp [csW]
  | cons n r ih => rw [List.cons_append, csW, csW, ih, Nat.add_assoc]
theorem nW_pos (n : Nd) : 40 ≤ nW n := by cases n <;> rw [nW] <;> omega
theorem cW_pos (n : Cs) : 20 ≤ cW n := by cases n; rw [cW]; omega
theorem lW_len (m : List Nd) : 40 * m.length ≤ lW m := by
  induction m with
  | nil => simp
  | cons n r ih => rw [lW, List.length_cons]; have := nW_pos n; omega
theorem csW_len (m : List Cs) : 20 * m.length ≤ csW m := by
  induction m with
  | nil => simp
  | cons n r ih => rw [csW, List.length_cons]; have := cW_pos n; omega
theorem kOk_B (k : Ky) (h : kOk k = true) : okB (eK k) = true := by
  cases k with
  | i n => rw [eK, okB]
  | s x => rw [eK, okB]; exact h
theorem kDep (k : Ky) : dep (eK k) = 0 := by cases k <;> rw [eK, dep]
theorem text_ok : PyData.canLay0 (.str "text") = true := by decide +kernel
theorem show_ok : PyData.canLay0 (.str "show") = true := by decide +kernel
theorem number_ok : PyData.canLay0 (.str "number") = true := by decide +kernel
theorem select_ok : PyData.canLay0 (.str "select") = true := by decide +kernel
theorem plural_ok : PyData.canLay0 (.str "plural") = true := by decide +kernel
mutual
theorem nOk_B : ∀ n : Nd, nOk n = true → okB (eN n) = true
  | .text x, h => by rw [nOk] at h; simp [eN, okB, okBs, text_ok]; exact h
  | .shw x, h => by rw [nOk] at h; simp [eN, okB, okBs, show_ok]; exact h
  | .num, _ => by simp [eN, okB, okBs, number_ok]
  | .sel n cs o, h => by
    rw [nOk, Bool.and_eq_true, Bool.and_eq_true] at h
    simp [eN, okB, okBs, select_ok, csOk_B cs h.1.2, lOk_B o h.2]; exact h.1.1
  | .plu n f cs o, h => by
    rw [nOk, Bool.and_eq_true, Bool.and_eq_true, Bool.and_eq_true] at h
    simp [eN, okB, okBs, plural_ok, csOk_B cs h.1.2, lOk_B o h.2]; exact h.1.1.1
theorem lOk_B : ∀ m : List Nd, lOk m = true → okBs (eL m) = true
  | [], _ => by rw [eL, okBs]
  | n :: r, h => by
    rw [lOk, Bool.and_eq_true] at h
    rw [eL, okBs, nOk_B n h.1, lOk_B r h.2]; rfl
theorem cOk_B : ∀ c : Cs, cOk c = true → okB (eC1 c) = true
  | .mk k m, h => by
    rw [cOk, Bool.and_eq_true] at h
    simp [eC1, okB, okBs, kOk_B k h.1, lOk_B m h.2]
theorem csOk_B : ∀ m : List Cs, csOk m = true → okBs (eCs m) = true
  | [], _ => by rw [eCs, okBs]
  | n :: r, h => by
    rw [csOk, Bool.and_eq_true] at h
    rw [eCs, okBs, cOk_B n h.1, csOk_B r h.2]; rfl
end
mutual
theorem nDep : ∀ n : Nd, dep (eN n) ≤ 4 * nH n + 1
  | .text x => by simp [eN, dep, deps]
  | .shw x => by simp [eN, dep, deps]
  | .num => by simp [eN, dep, deps]
  | .sel n cs o => by
    have h1 := csDep cs
    have h2 := lDep o
    simp only [eN, dep, deps, nH]
    omega
  | .plu n f cs o => by
    have h1 := csDep cs
    have h2 := lDep o
    simp only [eN, dep, deps, nH]
    omega
theorem lDep : ∀ m : List Nd, deps (eL m) ≤ 4 * lH m + 1
  | [] => by simp [eL, deps]
  | n :: r => by
    have h1 := nDep n
    have h2 := lDep r
    simp only [eL, deps, lH]
    omega
theorem cDep : ∀ c : Cs, dep (eC1 c) ≤ 4 * cH c + 3
  | .mk k m => by
    have h2 := lDep m
    have := kDep k
    simp only [eC1, dep, deps, cH]
    omega
theorem csDep : ∀ m : List Cs, deps (eCs m) ≤ 4 * csH m + 3
  | [] => by simp [eCs, deps]
  | n :: r => by
    have h1 := cDep n
    have h2 := csDep r
    simp only [eCs, deps, csH]
    omega
end
end DL

namespace DL
open PySem L2
/-! ### how long a repr is -/
mutual
def shW : D → Nat
  | .non => 4
  | .bl _ => 5
  | .int i => (toString i : Str).length
  | .str x => 10 * x.length + 2
  | .lst xs => shWs xs + 2
  | .tup xs => shWs xs + 2
  | .dct _ _ => 0
  | .ins _ _ _ => 0
  | .ptr _ => 0
  | .scr _ => 0
def shWs : List D → Nat
  | [] => 0
  | x :: xs => shW x + 2 + shWs xs
end
mutual
def okR : D → Bool
  | .non => true
  | .bl _ => true
  | .int i => decide (i.natAbs < 2 ^ 64)
  | .str x => PyData.canLay0 (.str x)
  | .lst xs => okRs xs
  | .tup xs => okRs xs
  | .dct _ _ => false
  | .ins _ _ _ => false
  | .ptr _ => false
  | .scr _ => false
def okRs : List D → Bool
  | [] => true
  | x :: xs => okR x && okRs xs
end
def tot : List Str → Nat
  | [] => 0
  | t :: r => t.length + 2 + tot r
theorem textFrom_tot : ∀ (ts : List Str) (k : Nat) (acc : Str), (textFrom k acc ts).length ≤ acc.length + tot ts
  | [], _, acc => by rw [textFrom, tot]; omega
  | t :: r, k, acc => by
    rw [textFrom, tot]
    have ih := textFrom_tot r (k + 1) (acc ++ (if k > 0 then ", " else "" : String) ++ t)
    have e : (acc ++ ((if k > 0 then ", " else "" : String) : Str) ++ t).length = acc.length + ((if k > 0 then ", " else "" : String) : Str).length + t.length := by
      rw [strLen_append, strLen_append]
    have e2 : (((if k > 0 then ", " else "" : String) : Str)).length ≤ 2 := by split <;> decide
    omega
theorem join_tot : ∀ (ts : List Str), (Str.join ", " ts).length ≤ tot ts
  | [] => by show (0 : Nat) ≤ _; exact Nat.zero_le _
  | [t] => by
    have e : Str.join ", " [t] = t := rfl
    rw [e, tot, tot]; omega
  | t :: u :: r => by
    have ih := join_tot (u :: r)
    have e : Str.join ", " (t :: u :: r) = t ++ ", " ++ Str.join ", " (u :: r) := rfl
    rw [e, strLen_append, strLen_append, tot]
    have e2 : ((", " : String) : Str).length = 2 := rfl
    omega
theorem list_tot (ts : List Str) : (listText ts).length ≤ tot ts + 2 := by
  unfold listText
  rw [strLen_append]
  have h := textFrom_tot ts 0 "["
  have e1 : (("[" : String) : Str).length = 1 := rfl
  have e2 : (("]" : String) : Str).length = 1 := rfl
  omega
theorem tuple_tot (ts : List Str) : (tupleText ts).length ≤ tot ts + 2 := by
  unfold tupleText
  rw [strLen_append, strLen_append]
  have e1 : (("(" : String) : Str).length = 1 := rfl
  rw [e1]
  match ts with
  | [] => decide
  | [t] =>
    have e : Str.join ", " [t] = t := rfl
    have e2 : (((if [t].length == 1 then ",)" else ")" : String) : Str)).length = 2 := rfl
    rw [e, e2, tot, tot]; omega
  | t :: u :: r =>
    have h := join_tot (t :: u :: r)
    have e2 : (((if (t :: u :: r).length == 1 then ",)" else ")" : String) : Str)).length ≤ 1 := by
      have : ((t :: u :: r).length == 1) = false := by simp
      rw [this]; decide
    omega
theorem log_lt {n : Nat} (h : n < 2 ^ 64) : n.log2 < 1920 := by
  by_cases z : n = 0
  · subst z; decide
  · exact Nat.lt_of_lt_of_le ((Nat.log2_lt z).mpr h) (by decide)
theorem str_sh {x : Str} (h : PyData.canLay0 (.str x) = true) : (reprText x).length ≤ 10 * x.length + 2 := by
  refine _root_.PySem.StrLaws.reprText_len x fun c hc => ?_
  rw [PyData.canLay0] at h
  have h2 : x.cps.all (fun k => decide (k < 0x110000)) = true := h
  rw [← Array.all_toList, List.all_eq_true] at h2
  have := h2 c hc
  rw [decide_eq_true_iff] at this
  exact Nat.lt_trans this (by decide)
mutual
theorem okR_py : ∀ d : D, okR d = true → ∃ p, toPy d = some p ∧ p.showable = true ∧ p.hasDict = false ∧ p.depth = dep d ∧ p.shown.length ≤ shW d
  | .non, _ => ⟨.none, by rw [toPy], by rw [PyData.showable], by rw [PyData.hasDict], by rw [PyData.depth, dep], by rw [PyData.shown, shW]; decide⟩
  | .bl b, _ => ⟨.bool b, by rw [toPy], by rw [PyData.showable], by rw [PyData.hasDict], by rw [PyData.depth, dep], by rw [PyData.shown, shW]; cases b <;> decide⟩
  | .int i, h => ⟨.int i, by rw [toPy], by rw [okR, decide_eq_true_iff] at h; rw [PyData.showable, decide_eq_true_iff]; exact log_lt h, by rw [PyData.hasDict], by rw [PyData.depth, dep], by rw [PyData.shown, shW]; exact Nat.le_refl _⟩
  | .str x, h => ⟨.str x, by rw [toPy], by rw [PyData.showable], by rw [PyData.hasDict], by rw [PyData.depth, dep], by rw [okR] at h; rw [PyData.shown, shW]; exact str_sh h⟩
  | .lst xs, h => by
    rw [okR] at h
    obtain ⟨ps, e, a, b, c, d⟩ := okRs_py xs h
    exact ⟨.list ps, by rw [toPy, e]; rfl, by rw [PyData.showable]; exact a, by rw [PyData.hasDict]; exact b, by rw [PyData.depth, dep, c], by rw [PyData.shown, shW]; exact Nat.le_trans (list_tot _) (by omega)⟩
  | .tup xs, h => by
    rw [okR] at h
    obtain ⟨ps, e, a, b, c, d⟩ := okRs_py xs h
    exact ⟨.tuple ps, by rw [toPy, e]; rfl, by rw [PyData.showable]; exact a, by rw [PyData.hasDict]; exact b, by rw [PyData.depth, dep, c], by rw [PyData.shown, shW]; exact Nat.le_trans (tuple_tot _) (by omega)⟩
  | .dct _ _, h => by rw [okR] at h; cases h
  | .ins _ _ _, h => by rw [okR] at h; cases h
  | .ptr _, h => by rw [okR] at h; cases h
  | .scr _, h => by rw [okR] at h; cases h
theorem okRs_py : ∀ ds : List D, okRs ds = true → ∃ ps, toPys ds = some ps ∧ PyData.showableAll ps = true ∧ PyData.hasDictAll ps = false ∧ PyData.depthAll ps = deps ds ∧ tot (PyData.shownAll ps) ≤ shWs ds
  | [], _ => ⟨[], by rw [toPys], by rw [PyData.showableAll], by rw [PyData.hasDictAll], by rw [PyData.depthAll, deps], by rw [PyData.shownAll, tot]; exact Nat.zero_le _⟩
  | x :: xs, h => by
    rw [okRs, Bool.and_eq_true] at h
    obtain ⟨p, e1, a1, b1, c1, d1⟩ := okR_py x h.1
    obtain ⟨ps, e2, a2, b2, c2, d2⟩ := okRs_py xs h.2
    exact ⟨p :: ps, by rw [toPys, e1, e2]; rfl, by rw [PyData.showableAll, a1, a2]; rfl, by rw [PyData.hasDictAll, b1, b2]; rfl, by rw [PyData.depthAll, deps, c1, c2], by rw [PyData.shownAll, tot, shWs]; omega⟩
end
theorem dRepr_ok {d : D} (sq : isSq d = true) (h : okR d = true) (hd : dep d ≤ 60) (hw : shW d ≤ sizeLine) : ∃ t, dRepr d = some (.str t) := by
  obtain ⟨p, e, a, b, c, l⟩ := okR_py d h
  refine ⟨p.shown, ?_⟩
  unfold dRepr
  rw [e]
  simp only
  rw [if_pos ⟨sq, a, b, by omega, by omega⟩]
/-! messages -/
theorem kOk_R (k : Ky) (h : kOk k = true) : okR (eK k) = true := by
  cases k with
  | i n => rw [eK, okR]; exact h
  | s x => rw [eK, okR]; exact h
mutual
theorem nOk_R : ∀ n : Nd, nOk n = true → okR (eN n) = true
  | .text x, h => by rw [nOk] at h; simp [eN, okR, okRs, text_ok]; exact h
  | .shw x, h => by rw [nOk] at h; simp [eN, okR, okRs, show_ok]; exact h
  | .num, _ => by simp [eN, okR, okRs, number_ok]
  | .sel n cs o, h => by
    rw [nOk, Bool.and_eq_true, Bool.and_eq_true] at h
    simp [eN, okR, okRs, select_ok, csOk_R cs h.1.2, lOk_R o h.2]; exact h.1.1
  | .plu n f cs o, h => by
    rw [nOk, Bool.and_eq_true, Bool.and_eq_true, Bool.and_eq_true] at h
    have hf := h.1.1.2
    unfold iOk at hf
    rw [eN, okR, okRs, okRs, okRs, okRs, okRs, okRs, okR, okR, okR, okR, okR, plural_ok, hf, csOk_R cs h.1.2, lOk_R o h.2]
    show (true && (PyData.canLay0 (.str n) && _)) = true
    rw [show PyData.canLay0 (.str n) = true from h.1.1.1]; rfl
theorem lOk_R : ∀ m : List Nd, lOk m = true → okRs (eL m) = true
  | [], _ => by rw [eL, okRs]
  | n :: r, h => by
    rw [lOk, Bool.and_eq_true] at h
    rw [eL, okRs, nOk_R n h.1, lOk_R r h.2]; rfl
theorem cOk_R : ∀ c : Cs, cOk c = true → okR (eC1 c) = true
  | .mk k m, h => by
    rw [cOk, Bool.and_eq_true] at h
    simp [eC1, okR, okRs, kOk_R k h.1, lOk_R m h.2]
theorem csOk_R : ∀ m : List Cs, csOk m = true → okRs (eCs m) = true
  | [], _ => by rw [eCs, okRs]
  | n :: r, h => by
    rw [csOk, Bool.and_eq_true] at h
    rw [eCs, okRs, cOk_R n h.1, csOk_R r h.2]; rfl
end
theorem kW_sh (k : Ky) : shW (eK k) = kW k := by cases k <;> rw [eK, shW, kW]
theorem l_text : ("text" : Str).length = 4 := by decide +kernel
theorem l_show : ("show" : Str).length = 4 := by decide +kernel
theorem l_number : ("number" : Str).length = 6 := by decide +kernel
theorem l_select : ("select" : Str).length = 6 := by decide +kernel
theorem l_plural : ("plural" : Str).length = 6 := by decide +kernel
mutual
theorem nW_sh : ∀ n : Nd, shW (eN n) + 2 ≤ 3 * nW n
  | .text x => by simp only [eN, shW, shWs, nW, l_text]; omega
  | .shw x => by simp only [eN, shW, shWs, nW, l_show]; omega
  | .num => by simp only [eN, shW, shWs, nW, l_number]; omega
  | .sel n cs o => by
    have h1 := csW_sh cs
    have h2 := lW_sh o
    simp only [eN, shW, shWs, nW, l_select]; omega
  | .plu n f cs o => by
    have h1 := csW_sh cs
    have h2 := lW_sh o
    simp only [eN, shW, shWs, nW, l_plural]; omega
theorem lW_sh : ∀ m : List Nd, shWs (eL m) ≤ 3 * lW m
  | [] => by simp [eL, shWs]
  | n :: r => by
    have h1 := nW_sh n
    have h2 := lW_sh r
    have := nW_pos n
    simp only [eL, shWs, lW]; omega
theorem cW_sh : ∀ c : Cs, shW (eC1 c) + 2 ≤ 3 * cW c
  | .mk k m => by
    have h2 := lW_sh m
    have := kW_sh k
    simp only [eC1, shW, shWs, cW]; omega
theorem csW_sh : ∀ m : List Cs, shWs (eCs m) ≤ 3 * csW m
  | [] => by simp [eCs, shWs]
  | n :: r => by
    have h1 := cW_sh n
    have h2 := csW_sh r
    simp only [eCs, shWs, csW]; omega
end
theorem msg_repr {m : List Nd} (h : lOk m = true) (hh : lH m ≤ 10) (hw : lW m ≤ 5000000) : ∃ t, dRepr (.lst (eL m)) = some (.str t) := by
  refine dRepr_ok rfl (by rw [okR]; exact lOk_R m h) ?_ ?_
  · have := lDep m
    rw [dep]; omega
  · have := lW_sh m
    rw [shW]; show _ ≤ 16777216; omega
theorem msg_same {m : List Nd} (h : lOk m = true) (hh : lH m ≤ 10) : dEq (.lst (eL m)) (.lst (eL m)) = some true := by
  refine dEq_same (by rw [okB]; exact lOk_B m h) ?_
  have := lDep m
  rw [dep]; omega
end DL

namespace DL
open PySem L2
/-! ### messages in plain form -/
def isT : Nd → Bool
  | .text _ => true
  | _ => false
def lastT (m : List Nd) : Bool := match m.getLast? with
  | some n => isT n
  | none => false
/-- one node behind what was found -/
def plS (acc : List Nd) (n : Nd) (n' : Nd) : List Nd := match n with
  | .text x => match acc.getLast? with
    | some (.text y) => acc.dropLast ++ [.text (y ++ x)]
    | _ => if x = "" then acc else acc ++ [.text x]
  | _ => acc ++ [n']
mutual
def plN : Nd → Nd
  | .text x => .text x
  | .shw n => .shw n
  | .num => .num
  | .sel n cs o => .sel n (plCs cs) (plA [] o)
  | .plu n f cs o => .plu n f (plCs cs) (plA [] o)
def plA : List Nd → List Nd → List Nd
  | acc, [] => acc
  | acc, n :: r => plA (plS acc n (plN n)) r
def plC : Cs → Cs
  | .mk k m => .mk k (plA [] m)
def plCs : List Cs → List Cs
  | [] => []
  | c :: r => plC c :: plCs r
end
theorem plCs_map (m : List Cs) : plCs m = m.map plC := by
  induction m with
  | nil => rw [plCs]; rfl
  | cons n r ih => rw [plCs, ih]; rfl
theorem plA_app (acc a b : List Nd) : plA acc (a ++ b) = plA (plA acc a) b := by
  induction a generalizing acc with
  | nil => rw [List.nil_append, plA]
  | cons n r ih => rw [List.cons_append, plA, plA, ih]
/-! the plain ones -/
mutual
def gN : Nd → Prop
  | .text x => x ≠ ""
  | .shw _ => True
  | .num => True
  | .sel _ cs o => gCs cs ∧ gL o
  | .plu _ _ cs o => gCs cs ∧ gL o
def gL : List Nd → Prop
  | [] => True
  | n :: r => gN n ∧ gL r ∧ (isT n = true → ∀ y, r.head? = some y → isT y = false)
def gC : Cs → Prop
  | .mk _ m => gL m
def gCs : List Cs → Prop
  | [] => True
  | c :: r => gC c ∧ gCs r
end
theorem gL_snoc {m : List Nd} {n : Nd} (h : gL m) (hn : gN n) (hl : lastT m = true → isT n = false) : gL (m ++ [n]) := by
  induction m with
  | nil => rw [List.nil_append, gL]; exact ⟨hn, by rw [gL]; trivial, fun _ y z => by cases z⟩
  | cons x r ih =>
    rw [gL] at h
    obtain ⟨h1, h2, h3⟩ := h
    rw [List.cons_append, gL]
    refine ⟨h1, ih h2 fun z => hl ?_, fun z y hy => ?_⟩
    · cases r with
      | nil => exact (show false = true from z) |> fun w => by cases w
      | cons a b => exact z
    · cases r with
      | nil =>
        cases hy
        exact hl z
      | cons a b => exact h3 z y hy
theorem gCs_snoc {m : List Cs} {c : Cs} (h : gCs m) (hc : gC c) : gCs (m ++ [c]) := by
  induction m with
  | nil => rw [List.nil_append, gCs]; exact ⟨hc, by rw [gCs]; trivial⟩
  | cons x r ih => rw [gCs] at h; rw [List.cons_append, gCs]; exact ⟨h.1, ih h.2⟩
theorem gCs_rev {m : List Cs} (h : gCs m) : gCs m.reverse := by
  induction m with
  | nil => exact h
  | cons x r ih => rw [gCs] at h; rw [List.reverse_cons]; exact gCs_snoc (ih h.2) h.1
theorem gL_left {a b : List Nd} (h : gL (a ++ b)) : gL a := by
  induction a with
  | nil => rw [gL]; trivial
  | cons x r ih =>
    rw [List.cons_append, gL] at h
    obtain ⟨h1, h2, h3⟩ := h
    rw [gL]
    exact ⟨h1, ih h2, fun z y hy => h3 z y (by cases r with | nil => cases hy | cons a b => exact hy)⟩
theorem gL_mid {a b : List Nd} {n : Nd} (h : gL (a ++ n :: b)) : gN n ∧ (lastT a = true → isT n = false) := by
  induction a with
  | nil => rw [List.nil_append, gL] at h; exact ⟨h.1, fun z => by cases z⟩
  | cons x r ih =>
    rw [List.cons_append, gL] at h
    obtain ⟨h1, h2, h3⟩ := h
    refine ⟨(ih h2).1, fun z => ?_⟩
    cases r with
    | nil => exact h3 z n rfl
    | cons a b => exact (ih h2).2 z
theorem lastT_snoc (a : List Nd) (n : Nd) : lastT (a ++ [n]) = isT n := by unfold lastT; rw [List.getLast?_concat]
theorem str_app_nil (y : Str) : y ++ ("" : Str) = y := by
  show Str.append y "" = y
  obtain ⟨a⟩ := y
  show (⟨a ++ #[]⟩ : Str) = ⟨a⟩
  rw [Array.append_empty]
theorem plS_plain {acc : List Nd} {n : Nd} (hn : gN n) (hl : lastT acc = true → isT n = false) : plS acc n n = acc ++ [n] := by
  cases n with
  | text x =>
    rw [gN] at hn
    unfold plS
    cases q : acc.getLast? with
    | none => simp only; rw [if_neg hn]
    | some l =>
      cases l with
      | text y => exact absurd (hl (by unfold lastT; rw [q]; rfl)) (by simp [isT])
      | _ => simp only; rw [if_neg hn]
  | _ => rfl
/-- an empty text makes no difference -/
theorem plS_nil (n n' : Nd) : plS [] n n' = match n with | .text x => if x = "" then [] else [.text x] | _ => [n'] := by
  cases n <;> rfl
theorem plS_concat (a : List Nd) (l n n' : Nd) : plS (a ++ [l]) n n' = match n, l with
    | .text x, .text y => a ++ [.text (y ++ x)]
    | .text x, _ => if x = "" then a ++ [l] else a ++ [l] ++ [.text x]
    | _, _ => a ++ [l] ++ [n'] := by
  cases n <;> try rfl
  unfold plS
  rw [List.getLast?_concat]
  cases l <;> simp
theorem plS_empty (acc : List Nd) (n' : Nd) : plS acc (.text "") n' = acc := by
  rcases List.eq_nil_or_concat acc with rfl | ⟨a, l, rfl⟩
  · rfl
  · rw [List.concat_eq_append, plS_concat]
    cases l <;> simp [str_app_nil]
mutual
theorem plN_same : ∀ n : Nd, gN n → plN n = n
  | .text x, _ => by rw [plN]
  | .shw n, _ => by rw [plN]
  | .num, _ => by rw [plN]
  | .sel n cs o, h => by
    rw [gN] at h
    rw [plN, plCs_same cs h.1, plA_same [] o (by rw [List.nil_append]; exact h.2)]; rfl
  | .plu n f cs o, h => by
    rw [gN] at h
    rw [plN, plCs_same cs h.1, plA_same [] o (by rw [List.nil_append]; exact h.2)]; rfl
theorem plA_same : ∀ (acc m : List Nd), gL (acc ++ m) → plA acc m = acc ++ m
  | acc, [], _ => by rw [plA, List.append_nil]
  | acc, n :: r, h => by
    obtain ⟨h1, h2⟩ := gL_mid h
    rw [plA, plN_same n h1, plS_plain h1 h2, plA_same (acc ++ [n]) r (by rw [List.append_assoc]; exact h), List.append_assoc]; rfl
theorem plC_same : ∀ c : Cs, gC c → plC c = c
  | .mk k m, h => by
    rw [gC] at h
    rw [plC, plA_same [] m (by rw [List.nil_append]; exact h)]; rfl
theorem plCs_same : ∀ m : List Cs, gCs m → plCs m = m
  | [], _ => by rw [plCs]
  | c :: r, h => by
    rw [gCs] at h
    rw [plCs, plC_same c h.1, plCs_same r h.2]
end
end DL

namespace PV
section
open PySem PySem.Spec PyProof.Rows L2 DL
/-! the text -/
def topS (i : Nat) : Stmt := PySem.Challenge.pw_messageways_k01_kinds_of_names.main.body.getD i (.Pass ⟨0, 0, 0, 0⟩)
abbrev s_1 : Stmt := topS 11  -- cases_of
abbrev N_1 : List Str := ["node"]
theorem sc_1 : FnScope N_1 ["node"] (defScope s_1) := ⟨rfl, rfl, rfl, by decide +kernel, rfl, by decide +kernel, by decide +kernel⟩
abbrev s_2 : Stmt := topS 12  -- other_of
abbrev N_2 : List Str := ["node"]
theorem sc_2 : FnScope N_2 ["node"] (defScope s_2) := ⟨rfl, rfl, rfl, by decide +kernel, rfl, by decide +kernel, by decide +kernel⟩
abbrev s_3 : Stmt := topS 13  -- inner_messages
abbrev N_3 : List Str := ["node", "key", "message"]
theorem sc_3 : FnScope N_3 ["node"] (defScope s_3) := ⟨rfl, rfl, rfl, by decide +kernel, rfl, by decide +kernel, by decide +kernel⟩
abbrev s_6 : Stmt := topS 14  -- node_kind
abbrev N_6 : List Str := ["node"]
theorem sc_6 : FnScope N_6 ["node"] (defScope s_6) := ⟨rfl, rfl, rfl, by decide +kernel, rfl, by decide +kernel, by decide +kernel⟩
abbrev s_7 : Stmt := topS 15  -- asked_kinds
abbrev N_7 : List Str := ["message", "found", "node", "kind", "inner"]
theorem sc_7 : FnScope N_7 ["message"] (defScope s_7) := ⟨rfl, rfl, rfl, by decide +kernel, rfl, by decide +kernel, by decide +kernel⟩
abbrev s_8 : Stmt := topS 16  -- kinds_of
abbrev N_8 : List Str := ["message", "found", "name", "kind", "before"]
theorem sc_8 : FnScope N_8 ["message"] (defScope s_8) := ⟨rfl, rfl, rfl, by decide +kernel, rfl, by decide +kernel, by decide +kernel⟩
abbrev s_1000 : Stmt := topS 18  -- _law_cell
abbrev N_1000 : List Str := ["_law_script", "_law_k"]
theorem sc_1000 : FnScope N_1000 ["_law_script", "_law_k"] (defScope s_1000) := ⟨rfl, rfl, rfl, by decide +kernel, rfl, by decide +kernel, by decide +kernel⟩
abbrev s_1001 : Stmt := topS 19  -- _law_digits
abbrev N_1001 : List Str := ["_law_script", "_law_first", "_law_last", "_law_digits_here", "_law_k", "_law_cell_here", "_law_turn", "_law_seed"]
theorem sc_1001 : FnScope N_1001 ["_law_script", "_law_first", "_law_last"] (defScope s_1001) := ⟨rfl, rfl, rfl, by decide +kernel, rfl, by decide +kernel, by decide +kernel⟩
abbrev s_1002 : Stmt := topS 20  -- _law_draw
abbrev N_1002 : List Str := ["_law_box", "_law_many", "_law_at"]
theorem sc_1002 : FnScope N_1002 ["_law_box", "_law_many"] (defScope s_1002) := ⟨rfl, rfl, rfl, by decide +kernel, rfl, by decide +kernel, by decide +kernel⟩
abbrev s_1003 : Stmt := topS 21  -- _law_string
abbrev N_1003 : List Str := ["_law_box"]
theorem sc_1003 : FnScope N_1003 ["_law_box"] (defScope s_1003) := ⟨rfl, rfl, rfl, by decide +kernel, rfl, by decide +kernel, by decide +kernel⟩
abbrev s_1004 : Stmt := topS 22  -- _law_select
abbrev N_1004 : List Str := ["_law_box", "_law_depth", "_law_inside", "_law_cases", "_law_word"]
theorem sc_1004 : FnScope N_1004 ["_law_box", "_law_depth", "_law_inside"] (defScope s_1004) := ⟨rfl, rfl, rfl, by decide +kernel, rfl, by decide +kernel, by decide +kernel⟩
abbrev s_1005 : Stmt := topS 23  -- _law_plural
abbrev N_1005 : List Str := ["_law_box", "_law_depth", "_law_cases", "_law_key"]
theorem sc_1005 : FnScope N_1005 ["_law_box", "_law_depth"] (defScope s_1005) := ⟨rfl, rfl, rfl, by decide +kernel, rfl, by decide +kernel, by decide +kernel⟩
abbrev s_1006 : Stmt := topS 24  -- _law_message
abbrev N_1006 : List Str := ["_law_box", "_law_depth", "_law_inside", "_law_message_here", "_law_turn", "_law_kind"]
theorem sc_1006 : FnScope N_1006 ["_law_box", "_law_depth", "_law_inside"] (defScope s_1006) := ⟨rfl, rfl, rfl, by decide +kernel, rfl, by decide +kernel, by decide +kernel⟩
abbrev s_1007 : Stmt := topS 25  -- _law_asked
abbrev N_1007 : List Str := ["_law_message_here", "_law_found", "_law_node", "_law_key", "_law_inner"]
theorem sc_1007 : FnScope N_1007 ["_law_message_here"] (defScope s_1007) := ⟨rfl, rfl, rfl, by decide +kernel, rfl, by decide +kernel, by decide +kernel⟩
abbrev s_1008 : Stmt := topS 26  -- _law_due
abbrev N_1008 : List Str := ["_law_message_here", "_law_table", "_law_name", "_law_kind", "_law_old"]
theorem sc_1008 : FnScope N_1008 ["_law_message_here"] (defScope s_1008) := ⟨rfl, rfl, rfl, by decide +kernel, rfl, by decide +kernel, by decide +kernel⟩
abbrev s_1009 : Stmt := topS 27  -- _law_told
abbrev N_1009 : List Str := ["_law_message_here", "e"]
theorem sc_1009 : FnScope N_1009 ["_law_message_here"] (defScope s_1009) := ⟨rfl, rfl, rfl, by decide +kernel, rfl, by decide +kernel, by decide +kernel⟩
abbrev s_1010 : Stmt := topS 28  -- law
abbrev N_1010 : List Str := ["_law_script", "_law_box", "_law_message_here"]
theorem sc_1010 : FnScope N_1010 ["_law_script"] (defScope s_1010) := ⟨rfl, rfl, rfl, by decide +kernel, rfl, by decide +kernel, by decide +kernel⟩
theorem tx_BadMessage : ErrSt (clsSt (topS 2) 0) "name" "name" := ⟨⟨_, _, _, _, _, _, _, _, _, _, _, _, _, _, (.val (.txt (by decide +kernel) FParts.nil)), by decide, rfl, rfl⟩, by decide +kernel, by decide +kernel, by decide +kernel, by decide +kernel, by decide +kernel, rfl, rfl, rfl, ⟨_, rfl, rfl⟩, by decide +kernel, by decide +kernel⟩
/-! what each def computes -/
def fx_BadMessage : Nat → Option Bool := fun c => if c = 4 then some true else none
def fx_MessagewaysError : Nat → Option Bool := fun c => if c = 4 then some true else none
def gx_name : Nat → Bool := fun c => decide (c = 4)
def B_1 (R : Rec) : List D → List D → Res D := bodyRun 1 (sRet (eOp dIdx (eV 0) (eUn dNeg (eC (.int 2)))))  -- cases_of
def B_2 (R : Rec) : List D → List D → Res D := bodyRun 1 (sRet (eOp dIdx (eV 0) (eUn dNeg (eC (.int 1)))))  -- other_of
def C_3_1 (R : Rec) : De := (eV 2)
theorem e_C_3_1 (R : Rec) (Γ : List Sl) (S : List D) : C_3_1 R Γ S = (eV 2) Γ S := rfl
def B_3 (R : Rec) : List D → List D → Res D := bodyRun 3 (sSeq (sIf (tB (eOp cNotIn (eOp dIdx (eV 0) (eC (.int 0))) (eC (.tup [.str "select", .str "plural"])))) (sRet (eLst aNil)) sNext) (sRet (eOp dAdd (eComp (iA (eCall (R 1) (aCons (eV 0) aNil))) (.tp [(.nm 1), (.nm 2)]) [1, 2] tTrue (C_3_1 R)) (eLst (aCons (eCall (R 2) (aCons (eV 0) aNil)) aNil)))))  -- inner_messages
def B_6 (R : Rec) : List D → List D → Res D := bodyRun 1 (sSeq (sIf (tB (eOp cEq (eOp dIdx (eV 0) (eC (.int 0))) (eC (.str "show")))) (sRet (eTup (aCons (eOp dIdx (eV 0) (eC (.int 1))) (aCons (eC (.str "any")) aNil)))) sNext) (sSeq (sIf (tB (eOp cEq (eOp dIdx (eV 0) (eC (.int 0))) (eC (.str "select")))) (sRet (eTup (aCons (eOp dIdx (eV 0) (eC (.int 1))) (aCons (eC (.str "text")) aNil)))) sNext) (sSeq (sIf (tB (eOp cEq (eOp dIdx (eV 0) (eC (.int 0))) (eC (.str "plural")))) (sRet (eTup (aCons (eOp dIdx (eV 0) (eC (.int 1))) (aCons (eC (.str "number")) aNil)))) sNext) (sRet (eC .non)))))  -- node_kind
def L_7_1 (R : Rec) : Ds := (sOwn 1 (eOp onL (oV 1) (eCall (R 7) (aCons (eV 4) aNil))))
theorem e_L_7_1 (R : Rec) (Γ : List Sl) (S : List D) : L_7_1 R Γ S = (sOwn 1 (eOp onL (oV 1) (eCall (R 7) (aCons (eV 4) aNil)))) Γ S := rfl
def L_7_2 (R : Rec) : Ds := (sSeq (sSet 3 (eCall (R 6) (aCons (eV 2) aNil))) (sSeq (sIf (tB (eOp cIsNot (eV 3) (eC .non))) (sAppO 1 (eV 3)) sNext) (sFor (iA (eCall (R 3) (aCons (eV 2) aNil))) (.nm 4) [4] (L_7_1 R))))
theorem e_L_7_2 (R : Rec) (Γ : List Sl) (S : List D) : L_7_2 R Γ S = (sSeq (sSet 3 (eCall (R 6) (aCons (eV 2) aNil))) (sSeq (sIf (tB (eOp cIsNot (eV 3) (eC .non))) (sAppO 1 (eV 3)) sNext) (sFor (iA (eCall (R 3) (aCons (eV 2) aNil))) (.nm 4) [4] (L_7_1 R)))) Γ S := rfl
def B_7 (R : Rec) : List D → List D → Res D := bodyRun 5 (sSeq (sOwn 1 (eLst aNil)) (sSeq (sFor (iA (eV 0)) (.nm 2) [2, 3, 4] (L_7_2 R)) (sRetO 1)))  -- asked_kinds
def L_8_1 (R : Rec) : Ds := (sSeq (sSet 4 (eGet2 (oV 1) (eV 2) (eC (.str "any")))) (sSeq (sIf (tAndD (tB (eOp cNotIn (eC (.str "any")) (eTup (aCons (eV 4) (aCons (eV 3) aNil))))) (tB (eOp cNe (eV 4) (eV 3)))) (sRaise 4 "name" (eV 2)) sNext) (sIf (tB (eOp cEq (eV 4) (eC (.str "any")))) (sPutO 1 (eV 2) (eV 3)) sNext)))
theorem e_L_8_1 (R : Rec) (Γ : List Sl) (S : List D) : L_8_1 R Γ S = (sSeq (sSet 4 (eGet2 (oV 1) (eV 2) (eC (.str "any")))) (sSeq (sIf (tAndD (tB (eOp cNotIn (eC (.str "any")) (eTup (aCons (eV 4) (aCons (eV 3) aNil))))) (tB (eOp cNe (eV 4) (eV 3)))) (sRaise 4 "name" (eV 2)) sNext) (sIf (tB (eOp cEq (eV 4) (eC (.str "any")))) (sPutO 1 (eV 2) (eV 3)) sNext))) Γ S := rfl
def K_8_2 (R : Rec) : De := (eV 2)
theorem e_K_8_2 (R : Rec) (Γ : List Sl) (S : List D) : K_8_2 R Γ S = (eV 2) Γ S := rfl
def C_8_3 (R : Rec) : De := (eOp dIdxA (oV 1) (eV 2))
theorem e_C_8_3 (R : Rec) (Γ : List Sl) (S : List D) : C_8_3 R Γ S = (eOp dIdxA (oV 1) (eV 2)) Γ S := rfl
def B_8 (R : Rec) : List D → List D → Res D := bodyRun 5 (sSeq (sOwn 1 eDct0) (sSeq (sFor (iA (eCall (R 7) (aCons (eV 0) aNil))) (.tp [(.nm 2), (.nm 3)]) [3, 4] (L_8_1 R)) (sRet (eDComp (iA (eUn dSorted (oV 1))) (.nm 2) [2] tTrue (K_8_2 R) (C_8_3 R)))))  -- kinds_of
def B_1000 (R : Rec) : List D → List D → Res D := bodyRun 2 (sSeq (sIf (tB (eOp oLt (eV 1) (eUn dLen (eV 0)))) (sRet (eOp dIdx (eV 0) (eV 1))) sNext) (sRet (eC (.int 0))))  -- _law_cell
def L_1001_1 (R : Rec) : Ds := (sIf (tB (eOp oGt (eV 5) (eC (.int 0)))) (sSeq (sAppO 3 (eOp fMod (eUn dInt (eV 5)) (eC (.int 1000)))) (sSet 5 (eOp fDiv (eV 5) (eC (.int 1000))))) sNext)
theorem e_L_1001_1 (R : Rec) (Γ : List Sl) (S : List D) : L_1001_1 R Γ S = (sIf (tB (eOp oGt (eV 5) (eC (.int 0)))) (sSeq (sAppO 3 (eOp fMod (eUn dInt (eV 5)) (eC (.int 1000)))) (sSet 5 (eOp fDiv (eV 5) (eC (.int 1000))))) sNext) Γ S := rfl
def L_1001_2 (R : Rec) : Ds := (sSeq (sSet 7 (eOp fMod (eUn dInt (eOp dAdd (eOp dAdd (eOp dMul (eV 7) (eC (.int 16807))) (eOp dMul (eC (.int 7)) (eV 6))) (eC (.int 1)))) (eC (.int 2147483647)))) (sAppO 3 (eOp fMod (eUn dInt (eOp fDiv (eV 7) (eC (.int 997)))) (eC (.int 1000)))))
theorem e_L_1001_2 (R : Rec) (Γ : List Sl) (S : List D) : L_1001_2 R Γ S = (sSeq (sSet 7 (eOp fMod (eUn dInt (eOp dAdd (eOp dAdd (eOp dMul (eV 7) (eC (.int 16807))) (eOp dMul (eC (.int 7)) (eV 6))) (eC (.int 1)))) (eC (.int 2147483647)))) (sAppO 3 (eOp fMod (eUn dInt (eOp fDiv (eV 7) (eC (.int 997)))) (eC (.int 1000))))) Γ S := rfl
def L_1001_3 (R : Rec) : Ds := (sSeq (sSet 5 (eCall (R 1000) (aCons (eV 0) (aCons (eV 4) aNil)))) (sSeq (sIf (tB (eOp oLt (eV 5) (eC (.int 0)))) (sSet 5 (eOp fSub (eC (.int 1)) (eOp dMul (eC (.int 2)) (eV 5)))) sNext) (sIf (tB (eOp oGe (eV 5) (eOp fPow (eC (.int 10)) (eC (.int 18))))) (sFor (iR1 (eC (.int 60))) (.nm 6) [6] (L_1001_1 R)) (sSeq (sSet 7 (eOp fMod (eUn dInt (eOp dAdd (eOp dAdd (eOp dMul (eV 5) (eC (.int 48271))) (eOp dMul (eV 4) (eC (.int 69621)))) (eC (.int 11)))) (eC (.int 2147483647)))) (sSeq (sClr [6]) (sFor (iR1 (eC (.int 12))) (.nm 6) [6] (L_1001_2 R)))))))
theorem e_L_1001_3 (R : Rec) (Γ : List Sl) (S : List D) : L_1001_3 R Γ S = (sSeq (sSet 5 (eCall (R 1000) (aCons (eV 0) (aCons (eV 4) aNil)))) (sSeq (sIf (tB (eOp oLt (eV 5) (eC (.int 0)))) (sSet 5 (eOp fSub (eC (.int 1)) (eOp dMul (eC (.int 2)) (eV 5)))) sNext) (sIf (tB (eOp oGe (eV 5) (eOp fPow (eC (.int 10)) (eC (.int 18))))) (sFor (iR1 (eC (.int 60))) (.nm 6) [6] (L_1001_1 R)) (sSeq (sSet 7 (eOp fMod (eUn dInt (eOp dAdd (eOp dAdd (eOp dMul (eV 5) (eC (.int 48271))) (eOp dMul (eV 4) (eC (.int 69621)))) (eC (.int 11)))) (eC (.int 2147483647)))) (sSeq (sClr [6]) (sFor (iR1 (eC (.int 12))) (.nm 6) [6] (L_1001_2 R))))))) Γ S := rfl
def B_1001 (R : Rec) : List D → List D → Res D := bodyRun 8 (sSeq (sOwn 3 (eLst aNil)) (sSeq (sFor (iR2 (eV 1) (eV 2)) (.nm 4) [4, 5, 6, 7] (L_1001_3 R)) (sRetO 3)))  -- _law_digits
def B_1002 (R : Rec) : List D → List D → Res D := bodyRun 3 (sSeq (sSet 2 (eOp dIdx (eV 0) (eC (.int 1)))) (sSeq (sSetP (eV 0) (eC (.int 1)) (eOp dAdd (eV 2) (eC (.int 1)))) (sSeq (sIf (tB (eOp oLt (eV 2) (eUn dLen (eOp dIdx (eV 0) (eC (.int 0)))))) (sRet (eOp fMod (eUn dInt (eOp dIdx (eOp dIdx (eV 0) (eC (.int 0))) (eV 2))) (eV 1))) sNext) (sRet (eC (.int 0))))))  -- _law_draw
def B_1003 (R : Rec) : List D → List D → Res D := bodyRun 1 (sRet (eOp dIdx (eLst (aCons (eC (.str "a")) (aCons (eC (.str "b ")) (aCons (eC (.str " files")) (aCons (eC (.str "'")) (aCons (eC (.str "{x}")) (aCons (eC (.str "#")) (aCons (eC (.str "a'{'")) (aCons (eC (.str "1\n2")) (aCons (eC (.str "other {")) (aCons (eC (.str "~")) aNil))))))))))) (eCall (R 1002) (aCons (eV 0) (aCons (eC (.int 10)) aNil)))))  -- _law_string
def L_1004_1 (R : Rec) : Ds := (sIf (tB (eOp cEq (eCall (R 1002) (aCons (eV 0) (aCons (eC (.int 3)) aNil))) (eC (.int 0)))) (sAppO 3 (eTup (aCons (eV 4) (aCons (eCall (R 1006) (aCons (eV 0) (aCons (eOp fSub (eV 1) (eC (.int 1))) (aCons (eV 2) aNil)))) aNil)))) sNext)
theorem e_L_1004_1 (R : Rec) (Γ : List Sl) (S : List D) : L_1004_1 R Γ S = (sIf (tB (eOp cEq (eCall (R 1002) (aCons (eV 0) (aCons (eC (.int 3)) aNil))) (eC (.int 0)))) (sAppO 3 (eTup (aCons (eV 4) (aCons (eCall (R 1006) (aCons (eV 0) (aCons (eOp fSub (eV 1) (eC (.int 1))) (aCons (eV 2) aNil)))) aNil)))) sNext) Γ S := rfl
def B_1004 (R : Rec) : List D → List D → Res D := bodyRun 5 (sSeq (sOwn 3 (eLst aNil)) (sSeq (sFor (iA (eLst (aCons (eC (.str "a")) (aCons (eC (.str "one")) (aCons (eC (.str "select")) aNil))))) (.nm 4) [4] (L_1004_1 R)) (sSeq (sSettle 3) (sRet (eTup (aCons (eC (.str "select")) (aCons (eOp dIdx (eLst (aCons (eC (.str "w")) (aCons (eC (.str "kind")) aNil))) (eCall (R 1002) (aCons (eV 0) (aCons (eC (.int 2)) aNil)))) (aCons (eV 3) (aCons (eCall (R 1006) (aCons (eV 0) (aCons (eOp fSub (eV 1) (eC (.int 1))) (aCons (eV 2) aNil)))) aNil)))))))))  -- _law_select
def L_1005_1 (R : Rec) : Ds := (sIf (tB (eOp cEq (eCall (R 1002) (aCons (eV 0) (aCons (eC (.int 5)) aNil))) (eC (.int 0)))) (sAppO 2 (eTup (aCons (eV 3) (aCons (eCall (R 1006) (aCons (eV 0) (aCons (eOp fSub (eV 1) (eC (.int 1))) (aCons (eC (.bl true)) aNil)))) aNil)))) sNext)
theorem e_L_1005_1 (R : Rec) (Γ : List Sl) (S : List D) : L_1005_1 R Γ S = (sIf (tB (eOp cEq (eCall (R 1002) (aCons (eV 0) (aCons (eC (.int 5)) aNil))) (eC (.int 0)))) (sAppO 2 (eTup (aCons (eV 3) (aCons (eCall (R 1006) (aCons (eV 0) (aCons (eOp fSub (eV 1) (eC (.int 1))) (aCons (eC (.bl true)) aNil)))) aNil)))) sNext) Γ S := rfl
def B_1005 (R : Rec) : List D → List D → Res D := bodyRun 4 (sSeq (sOwn 2 (eLst aNil)) (sSeq (sFor (iA (eLst (aCons (eC (.int 0)) (aCons (eC (.int 1)) (aCons (eC (.int 2)) (aCons (eC (.int 12)) (aCons (eC (.str "zero")) (aCons (eC (.str "one")) (aCons (eC (.str "two")) (aCons (eC (.str "few")) (aCons (eC (.str "many")) aNil))))))))))) (.nm 3) [3] (L_1005_1 R)) (sSeq (sIf (tB (eOp cEq (eCall (R 1002) (aCons (eV 0) (aCons (eC (.int 3)) aNil))) (eC (.int 0)))) (sRevO 2) sNext) (sSeq (sSettle 2) (sRet (eTup (aCons (eC (.str "plural")) (aCons (eOp dIdx (eLst (aCons (eC (.str "n")) (aCons (eC (.str "count")) aNil))) (eCall (R 1002) (aCons (eV 0) (aCons (eC (.int 2)) aNil)))) (aCons (eOp dIdx (eLst (aCons (eC (.int 0)) (aCons (eC (.int 0)) (aCons (eC (.int 1)) (aCons (eC (.int 2)) aNil))))) (eCall (R 1002) (aCons (eV 0) (aCons (eC (.int 4)) aNil)))) (aCons (eV 2) (aCons (eCall (R 1006) (aCons (eV 0) (aCons (eOp fSub (eV 1) (eC (.int 1))) (aCons (eC (.bl true)) aNil)))) aNil)))))))))))  -- _law_plural
def L_1006_1 (R : Rec) : Ds := (sSeq (sSet 5 (eCall (R 1002) (aCons (eV 0) (aCons (eC (.int 8)) aNil)))) (sIf (tOrD (tB (eOp oLt (eV 5) (eC (.int 3)))) (tAndD (tB (eOp cEq (eV 1) (eC (.int 0)))) (tB (eOp oGt (eV 5) (eC (.int 4)))))) (sIf (tOrD (tB (eOp cEq (eUn dLen (oV 3)) (eC (.int 0)))) (tB (eOp cNe (eOp dIdx (eOp dIdx (oV 3) (eUn dNeg (eC (.int 1)))) (eC (.int 0))) (eC (.str "text"))))) (sAppO 3 (eTup (aCons (eC (.str "text")) (aCons (eCall (R 1003) (aCons (eV 0) aNil)) aNil)))) sNext) (sIf (tB (eOp cEq (eV 5) (eC (.int 3)))) (sAppO 3 (eTup (aCons (eC (.str "show")) (aCons (eOp dIdx (eLst (aCons (eC (.str "n")) (aCons (eC (.str "w")) (aCons (eC (.str "who")) (aCons (eC (.str "count")) aNil))))) (eCall (R 1002) (aCons (eV 0) (aCons (eC (.int 4)) aNil)))) aNil)))) (sIf (tB (eOp cEq (eV 5) (eC (.int 4)))) (sIf (tTru (eV 2)) (sAppO 3 (eTup (aCons (eC (.str "number")) aNil))) sNext) (sIf (tB (eOp oLt (eV 5) (eC (.int 7)))) (sAppO 3 (eCall (R 1005) (aCons (eV 0) (aCons (eV 1) aNil)))) (sAppO 3 (eCall (R 1004) (aCons (eV 0) (aCons (eV 1) (aCons (eV 2) aNil))))))))))
theorem e_L_1006_1 (R : Rec) (Γ : List Sl) (S : List D) : L_1006_1 R Γ S = (sSeq (sSet 5 (eCall (R 1002) (aCons (eV 0) (aCons (eC (.int 8)) aNil)))) (sIf (tOrD (tB (eOp oLt (eV 5) (eC (.int 3)))) (tAndD (tB (eOp cEq (eV 1) (eC (.int 0)))) (tB (eOp oGt (eV 5) (eC (.int 4)))))) (sIf (tOrD (tB (eOp cEq (eUn dLen (oV 3)) (eC (.int 0)))) (tB (eOp cNe (eOp dIdx (eOp dIdx (oV 3) (eUn dNeg (eC (.int 1)))) (eC (.int 0))) (eC (.str "text"))))) (sAppO 3 (eTup (aCons (eC (.str "text")) (aCons (eCall (R 1003) (aCons (eV 0) aNil)) aNil)))) sNext) (sIf (tB (eOp cEq (eV 5) (eC (.int 3)))) (sAppO 3 (eTup (aCons (eC (.str "show")) (aCons (eOp dIdx (eLst (aCons (eC (.str "n")) (aCons (eC (.str "w")) (aCons (eC (.str "who")) (aCons (eC (.str "count")) aNil))))) (eCall (R 1002) (aCons (eV 0) (aCons (eC (.int 4)) aNil)))) aNil)))) (sIf (tB (eOp cEq (eV 5) (eC (.int 4)))) (sIf (tTru (eV 2)) (sAppO 3 (eTup (aCons (eC (.str "number")) aNil))) sNext) (sIf (tB (eOp oLt (eV 5) (eC (.int 7)))) (sAppO 3 (eCall (R 1005) (aCons (eV 0) (aCons (eV 1) aNil)))) (sAppO 3 (eCall (R 1004) (aCons (eV 0) (aCons (eV 1) (aCons (eV 2) aNil)))))))))) Γ S := rfl
def B_1006 (R : Rec) : List D → List D → Res D := bodyRun 6 (sSeq (sOwn 3 (eLst aNil)) (sSeq (sFor (iR1 (eCall (R 1002) (aCons (eV 0) (aCons (eC (.int 4)) aNil)))) (.nm 4) [4, 5] (L_1006_1 R)) (sRetO 3)))  -- _law_message
def L_1007_1 (R : Rec) : Ds := (sOwn 1 (eOp onL (oV 1) (eCall (R 1007) (aCons (eV 4) aNil))))
theorem e_L_1007_1 (R : Rec) (Γ : List Sl) (S : List D) : L_1007_1 R Γ S = (sOwn 1 (eOp onL (oV 1) (eCall (R 1007) (aCons (eV 4) aNil)))) Γ S := rfl
def L_1007_2 (R : Rec) : Ds := (sSeq (sIf (tB (eOp cEq (eOp dIdx (eV 2) (eC (.int 0))) (eC (.str "show")))) (sAppO 1 (eTup (aCons (eOp dIdx (eV 2) (eC (.int 1))) (aCons (eC (.str "any")) aNil)))) sNext) (sSeq (sIf (tB (eOp cEq (eOp dIdx (eV 2) (eC (.int 0))) (eC (.str "select")))) (sAppO 1 (eTup (aCons (eOp dIdx (eV 2) (eC (.int 1))) (aCons (eC (.str "text")) aNil)))) sNext) (sSeq (sIf (tB (eOp cEq (eOp dIdx (eV 2) (eC (.int 0))) (eC (.str "plural")))) (sAppO 1 (eTup (aCons (eOp dIdx (eV 2) (eC (.int 1))) (aCons (eC (.str "number")) aNil)))) sNext) (sIf (tB (eOp cIn (eOp dIdx (eV 2) (eC (.int 0))) (eTup (aCons (eC (.str "select")) (aCons (eC (.str "plural")) aNil))))) (sSeq (sFor (iA (eOp dIdx (eV 2) (eUn dNeg (eC (.int 2))))) (.tp [(.nm 3), (.nm 4)]) [3, 4] (L_1007_1 R)) (sOwn 1 (eOp onL (oV 1) (eCall (R 1007) (aCons (eOp dIdx (eV 2) (eUn dNeg (eC (.int 1)))) aNil))))) sNext))))
theorem e_L_1007_2 (R : Rec) (Γ : List Sl) (S : List D) : L_1007_2 R Γ S = (sSeq (sIf (tB (eOp cEq (eOp dIdx (eV 2) (eC (.int 0))) (eC (.str "show")))) (sAppO 1 (eTup (aCons (eOp dIdx (eV 2) (eC (.int 1))) (aCons (eC (.str "any")) aNil)))) sNext) (sSeq (sIf (tB (eOp cEq (eOp dIdx (eV 2) (eC (.int 0))) (eC (.str "select")))) (sAppO 1 (eTup (aCons (eOp dIdx (eV 2) (eC (.int 1))) (aCons (eC (.str "text")) aNil)))) sNext) (sSeq (sIf (tB (eOp cEq (eOp dIdx (eV 2) (eC (.int 0))) (eC (.str "plural")))) (sAppO 1 (eTup (aCons (eOp dIdx (eV 2) (eC (.int 1))) (aCons (eC (.str "number")) aNil)))) sNext) (sIf (tB (eOp cIn (eOp dIdx (eV 2) (eC (.int 0))) (eTup (aCons (eC (.str "select")) (aCons (eC (.str "plural")) aNil))))) (sSeq (sFor (iA (eOp dIdx (eV 2) (eUn dNeg (eC (.int 2))))) (.tp [(.nm 3), (.nm 4)]) [3, 4] (L_1007_1 R)) (sOwn 1 (eOp onL (oV 1) (eCall (R 1007) (aCons (eOp dIdx (eV 2) (eUn dNeg (eC (.int 1)))) aNil))))) sNext)))) Γ S := rfl
def B_1007 (R : Rec) : List D → List D → Res D := bodyRun 5 (sSeq (sOwn 1 (eLst aNil)) (sSeq (sFor (iA (eV 0)) (.nm 2) [2, 3, 4] (L_1007_2 R)) (sRetO 1)))  -- _law_asked
def L_1008_1 (R : Rec) : Ds := (sSeq (sSet 4 (eGet2 (oV 1) (eV 2) (eC (.str "any")))) (sIf (tB (eOp cEq (eV 4) (eC (.str "any")))) (sPutO 1 (eV 2) (eV 3)) (sIf (tAndD (tB (eOp cNe (eV 3) (eC (.str "any")))) (tB (eOp cNe (eV 3) (eV 4)))) (sRet (eV 2)) sNext)))
theorem e_L_1008_1 (R : Rec) (Γ : List Sl) (S : List D) : L_1008_1 R Γ S = (sSeq (sSet 4 (eGet2 (oV 1) (eV 2) (eC (.str "any")))) (sIf (tB (eOp cEq (eV 4) (eC (.str "any")))) (sPutO 1 (eV 2) (eV 3)) (sIf (tAndD (tB (eOp cNe (eV 3) (eC (.str "any")))) (tB (eOp cNe (eV 3) (eV 4)))) (sRet (eV 2)) sNext))) Γ S := rfl
def C_1008_2 (R : Rec) : De := (eTup (aCons (eV 2) (aCons (eOp dIdxA (oV 1) (eV 2)) aNil)))
theorem e_C_1008_2 (R : Rec) (Γ : List Sl) (S : List D) : C_1008_2 R Γ S = (eTup (aCons (eV 2) (aCons (eOp dIdxA (oV 1) (eV 2)) aNil))) Γ S := rfl
def B_1008 (R : Rec) : List D → List D → Res D := bodyRun 5 (sSeq (sOwn 1 eDct0) (sSeq (sFor (iA (eCall (R 1007) (aCons (eV 0) aNil))) (.tp [(.nm 2), (.nm 3)]) [3, 4] (L_1008_1 R)) (sRet (eComp (iA (eUn dSorted (oV 1))) (.nm 2) [2] tTrue (C_1008_2 R)))))  -- _law_due
def B_1009 (R : Rec) : List D → List D → Res D := bodyRun 2 (sTry (some 1) fx_MessagewaysError (sRet (eUn dItems (eCall (R 8) (aCons (eV 0) aNil)))) (sSeq (sIf (tTru (eIsX 1 fx_BadMessage)) (sRet (eXf 1 "name" gx_name)) sNext) (sRet (eC (.int 0)))))  -- _law_told
def B_1010 (R : Rec) : List D → List D → Res D := bodyRun 3 (sSeq (sSet 1 (eBox (eLst (aCons (eCall (R 1001) (aCons (eV 0) (aCons (eC (.int 0)) (aCons (eC (.int 63)) aNil)))) (aCons (eC (.int 0)) aNil))))) (sSeq (sSet 2 (eCall (R 1006) (aCons (eV 1) (aCons (eC (.int 2)) (aCons (eC (.bl false)) aNil))))) (sSeq (sIf (tB (eOp cEq (eCall (R 1002) (aCons (eV 1) (aCons (eC (.int 2)) aNil))) (eC (.int 0)))) (sSet 2 (eOp dAdd (eV 2) (eLst (aCons (eTup (aCons (eC (.str "select")) (aCons (eOp dIdx (eLst (aCons (eC (.str "n")) (aCons (eC (.str "w")) aNil))) (eCall (R 1002) (aCons (eV 1) (aCons (eC (.int 2)) aNil)))) (aCons (eLst aNil) (aCons (eCall (R 1006) (aCons (eV 1) (aCons (eC (.int 1)) (aCons (eC (.bl false)) aNil)))) aNil))))) aNil)))) sNext) (sSeq (sIf (tB (eOp cEq (eCall (R 1002) (aCons (eV 1) (aCons (eC (.int 3)) aNil))) (eC (.int 0)))) (sSet 2 (eOp dAdd (eLst (aCons (eTup (aCons (eC (.str "plural")) (aCons (eOp dIdx (eLst (aCons (eC (.str "w")) (aCons (eC (.str "kind")) aNil))) (eCall (R 1002) (aCons (eV 1) (aCons (eC (.int 2)) aNil)))) (aCons (eC (.int 0)) (aCons (eLst aNil) (aCons (eLst (aCons (eTup (aCons (eC (.str "show")) (aCons (eC (.str "n")) aNil))) aNil)) aNil)))))) aNil)) (eV 2))) sNext) (sRet (eOp cEq (eCall (R 1009) (aCons (eV 2) aNil)) (eCall (R 1008) (aCons (eV 2) aNil))))))))  -- law
def tab (R : Rec) : Rec := fun i => match i with
  | 1 => B_1 R
  | 2 => B_2 R
  | 3 => B_3 R
  | 6 => B_6 R
  | 7 => B_7 R
  | 8 => B_8 R
  | 1000 => B_1000 R
  | 1001 => B_1001 R
  | 1002 => B_1002 R
  | 1003 => B_1003 R
  | 1004 => B_1004 R
  | 1005 => B_1005 R
  | 1006 => B_1006 R
  | 1007 => B_1007 R
  | 1008 => B_1008 R
  | 1009 => B_1009 R
  | 1010 => B_1010 R
  | _ => fun _ _ => .stuck
def run : Nat → Rec
  | 0 => fun _ _ _ => .stuck
  | n + 1 => tab (run n)
theorem run_1 (n : Nat) : run (n + 1) 1 = B_1 (run n) := rfl
theorem run_2 (n : Nat) : run (n + 1) 2 = B_2 (run n) := rfl
theorem run_3 (n : Nat) : run (n + 1) 3 = B_3 (run n) := rfl
theorem run_6 (n : Nat) : run (n + 1) 6 = B_6 (run n) := rfl
theorem run_7 (n : Nat) : run (n + 1) 7 = B_7 (run n) := rfl
theorem run_8 (n : Nat) : run (n + 1) 8 = B_8 (run n) := rfl
theorem run_1000 (n : Nat) : run (n + 1) 1000 = B_1000 (run n) := rfl
theorem run_1001 (n : Nat) : run (n + 1) 1001 = B_1001 (run n) := rfl
theorem run_1002 (n : Nat) : run (n + 1) 1002 = B_1002 (run n) := rfl
theorem run_1003 (n : Nat) : run (n + 1) 1003 = B_1003 (run n) := rfl
theorem run_1004 (n : Nat) : run (n + 1) 1004 = B_1004 (run n) := rfl
theorem run_1005 (n : Nat) : run (n + 1) 1005 = B_1005 (run n) := rfl
theorem run_1006 (n : Nat) : run (n + 1) 1006 = B_1006 (run n) := rfl
theorem run_1007 (n : Nat) : run (n + 1) 1007 = B_1007 (run n) := rfl
theorem run_1008 (n : Nat) : run (n + 1) 1008 = B_1008 (run n) := rfl
theorem run_1009 (n : Nat) : run (n + 1) 1009 = B_1009 (run n) := rfl
theorem run_1010 (n : Nat) : run (n + 1) 1010 = B_1010 (run n) := rfl
/-! the top -/
structure Top (P : Program) (K : PySem.W.Frag) (mg : Str → Option Value) (cls : Nat → Addr) (A : Nat → Addr) (FD : Nat → FuncData) : Prop where
  m_MessagewaysError : mg "MessagewaysError" = some (.ref (cls (0 + 3)))
  m_BadMessage : mg "BadMessage" = some (.ref (cls (4 + 3)))
  e_BadMessage : ErrTxt P K "BadMessage.__init__" (clsSt (topS 2) 0) (cls (4 + 3)) (cls (4 + 3)) (A 2004) (A 3004) (A 4004) "name" "name"
  x_BadMessage : ExcC K (cls (4 + 3))
  n_BadMessage : PySem.W.findIn K (.ref (cls (4 + 3))) "name" = some none
  t_BadMessage_BadMessage : PySem.W.exmOne K (.ref (cls (4 + 3))) (.ref (cls (4 + 3))) = some true
  k_BadMessage_BadMessage : PySem.W.kitOne K (.ref (cls (4 + 3))) (.ref (cls (4 + 3))) = some true
  t_MessagewaysError_BadMessage : PySem.W.exmOne K (.ref (cls (4 + 3))) (.ref (cls (0 + 3))) = some true
  k_MessagewaysError_BadMessage : PySem.W.kitOne K (.ref (cls (4 + 3))) (.ref (cls (0 + 3))) = some true
  b_int : mg "int" = none
  b_isinstance : mg "isinstance" = none
  b_len : mg "len" = none
  b_list : mg "list" = none
  b_range : mg "range" = none
  b_sorted : mg "sorted" = none
  b_super : mg "super" = none
  c_TEXT : ∃ t : Tok, mg "TEXT" = some (.str "text" t)
  c_SHOW : ∃ t : Tok, mg "SHOW" = some (.str "show" t)
  c_NUMBER : ∃ t : Tok, mg "NUMBER" = some (.str "number" t)
  c_SELECT : ∃ t : Tok, mg "SELECT" = some (.str "select" t)
  c_PLURAL : ∃ t : Tok, mg "PLURAL" = some (.str "plural" t)
  c_ANY : ∃ t : Tok, mg "ANY" = some (.str "any" t)
  c_CHOICES : ∃ a us dd n sl, mg "CHOICES" = some (.ref a) ∧ K.lookup a = some ⟨.type "tuple", dd, .seq us.toArray n, sl⟩ ∧ StrsV ["select", "plural"] us ∧ us.length ≤ sizeLine
  f_1 : Fun K "cases_of" "cases_of" s_1 (A 1) (FD 1)
  g_1 : mg "cases_of" = some (.ref (A 1))
  n_1 : Binds K (FD 1) ["node"] []
  f_2 : Fun K "other_of" "other_of" s_2 (A 2) (FD 2)
  g_2 : mg "other_of" = some (.ref (A 2))
  n_2 : Binds K (FD 2) ["node"] []
  f_3 : Fun K "inner_messages" "inner_messages" s_3 (A 3) (FD 3)
  g_3 : mg "inner_messages" = some (.ref (A 3))
  n_3 : Binds K (FD 3) ["node"] []
  f_6 : Fun K "node_kind" "node_kind" s_6 (A 6) (FD 6)
  g_6 : mg "node_kind" = some (.ref (A 6))
  n_6 : Binds K (FD 6) ["node"] []
  f_7 : Fun K "asked_kinds" "asked_kinds" s_7 (A 7) (FD 7)
  g_7 : mg "asked_kinds" = some (.ref (A 7))
  n_7 : Binds K (FD 7) ["message"] []
  f_8 : Fun K "kinds_of" "kinds_of" s_8 (A 8) (FD 8)
  g_8 : mg "kinds_of" = some (.ref (A 8))
  n_8 : Binds K (FD 8) ["message"] []
  f_1000 : Fun K "_law_cell" "_law_cell" s_1000 (A 1000) (FD 1000)
  g_1000 : mg "_law_cell" = some (.ref (A 1000))
  n_1000 : Binds K (FD 1000) ["_law_script", "_law_k"] []
  f_1001 : Fun K "_law_digits" "_law_digits" s_1001 (A 1001) (FD 1001)
  g_1001 : mg "_law_digits" = some (.ref (A 1001))
  n_1001 : Binds K (FD 1001) ["_law_script", "_law_first", "_law_last"] []
  f_1002 : Fun K "_law_draw" "_law_draw" s_1002 (A 1002) (FD 1002)
  g_1002 : mg "_law_draw" = some (.ref (A 1002))
  n_1002 : Binds K (FD 1002) ["_law_box", "_law_many"] []
  f_1003 : Fun K "_law_string" "_law_string" s_1003 (A 1003) (FD 1003)
  g_1003 : mg "_law_string" = some (.ref (A 1003))
  n_1003 : Binds K (FD 1003) ["_law_box"] []
  f_1004 : Fun K "_law_select" "_law_select" s_1004 (A 1004) (FD 1004)
  g_1004 : mg "_law_select" = some (.ref (A 1004))
  n_1004 : Binds K (FD 1004) ["_law_box", "_law_depth", "_law_inside"] []
  f_1005 : Fun K "_law_plural" "_law_plural" s_1005 (A 1005) (FD 1005)
  g_1005 : mg "_law_plural" = some (.ref (A 1005))
  n_1005 : Binds K (FD 1005) ["_law_box", "_law_depth"] []
  f_1006 : Fun K "_law_message" "_law_message" s_1006 (A 1006) (FD 1006)
  g_1006 : mg "_law_message" = some (.ref (A 1006))
  n_1006 : Binds K (FD 1006) ["_law_box", "_law_depth", "_law_inside"] []
  f_1007 : Fun K "_law_asked" "_law_asked" s_1007 (A 1007) (FD 1007)
  g_1007 : mg "_law_asked" = some (.ref (A 1007))
  n_1007 : Binds K (FD 1007) ["_law_message_here"] []
  f_1008 : Fun K "_law_due" "_law_due" s_1008 (A 1008) (FD 1008)
  g_1008 : mg "_law_due" = some (.ref (A 1008))
  n_1008 : Binds K (FD 1008) ["_law_message_here"] []
  f_1009 : Fun K "_law_told" "_law_told" s_1009 (A 1009) (FD 1009)
  g_1009 : mg "_law_told" = some (.ref (A 1009))
  n_1009 : Binds K (FD 1009) ["_law_message_here"] []
  f_1010 : Fun K "law" "law" s_1010 (A 1010) (FD 1010)
  g_1010 : mg "law" = some (.ref (A 1010))
  n_1010 : Binds K (FD 1010) ["_law_script"] []
theorem fx_BadMessage_ok {P : Program} {K : PySem.W.Frag} {mg : Str → Option Value} {cls : Nat → Addr} {A : Nat → Addr} {FD : Nat → FuncData} (T : Top P K mg cls A FD) : ∀ c b, fx_BadMessage c = some b → PySem.W.exmOne K (.ref (cls (c + 3))) (.ref (cls 7)) = some b := by
  intro c b h
  unfold fx_BadMessage at h
  repeat' split at h
  all_goals first
    | (cases h; done)
    | (rename_i z; subst z; cases h; exact T.t_BadMessage_BadMessage)
    | (rename_i z _; subst z; cases h; exact T.t_BadMessage_BadMessage)
    | (cases h; subst_vars; first | exact T.t_BadMessage_BadMessage)
theorem ix_BadMessage_ok {P : Program} {K : PySem.W.Frag} {mg : Str → Option Value} {cls : Nat → Addr} {A : Nat → Addr} {FD : Nat → FuncData} (T : Top P K mg cls A FD) : ∀ c b, fx_BadMessage c = some b → ExcC K (cls (c + 3)) ∧ PySem.W.kitOne K (.ref (cls (c + 3))) (.ref (cls 7)) = some b := by
  intro c b h
  unfold fx_BadMessage at h
  repeat' split at h
  all_goals first
    | (cases h; done)
    | (cases h; subst_vars; first | exact ⟨T.x_BadMessage, T.k_BadMessage_BadMessage⟩)
theorem fx_MessagewaysError_ok {P : Program} {K : PySem.W.Frag} {mg : Str → Option Value} {cls : Nat → Addr} {A : Nat → Addr} {FD : Nat → FuncData} (T : Top P K mg cls A FD) : ∀ c b, fx_MessagewaysError c = some b → PySem.W.exmOne K (.ref (cls (c + 3))) (.ref (cls 3)) = some b := by
  intro c b h
  unfold fx_MessagewaysError at h
  repeat' split at h
  all_goals first
    | (cases h; done)
    | (rename_i z; subst z; cases h; exact T.t_MessagewaysError_BadMessage)
    | (rename_i z _; subst z; cases h; exact T.t_MessagewaysError_BadMessage)
    | (cases h; subst_vars; first | exact T.t_MessagewaysError_BadMessage)
theorem ix_MessagewaysError_ok {P : Program} {K : PySem.W.Frag} {mg : Str → Option Value} {cls : Nat → Addr} {A : Nat → Addr} {FD : Nat → FuncData} (T : Top P K mg cls A FD) : ∀ c b, fx_MessagewaysError c = some b → ExcC K (cls (c + 3)) ∧ PySem.W.kitOne K (.ref (cls (c + 3))) (.ref (cls 3)) = some b := by
  intro c b h
  unfold fx_MessagewaysError at h
  repeat' split at h
  all_goals first
    | (cases h; done)
    | (cases h; subst_vars; first | exact ⟨T.x_BadMessage, T.k_MessagewaysError_BadMessage⟩)
theorem gx_name_ok {P : Program} {K : PySem.W.Frag} {mg : Str → Option Value} {cls : Nat → Addr} {A : Nat → Addr} {FD : Nat → FuncData} (T : Top P K mg cls A FD) : ∀ c, gx_name c = true → XfC K (cls (c + 3)) ∧ PySem.W.findIn K (.ref (cls (c + 3))) "name" = some none := by
  intro c h
  unfold gx_name at h
  simp only [Bool.or_eq_true, decide_eq_true_eq] at h
  have k : c = 4 := by omega
  rcases k with rfl
  · exact ⟨⟨T.x_BadMessage.hg, T.x_BadMessage.hk, T.x_BadMessage.hs, T.x_BadMessage.hd⟩, T.n_BadMessage⟩
structure All (P : Program) (w : World) (K : PySem.W.Frag) (mg : Str → Option Value) (base : Heap) (cls : Nat → Addr) (A : Nat → Addr) (FD : Nat → FuncData) (n : Nat) (R : Rec) : Prop where
  k_1 : FnG P w K mg base n (A 1) (FD 1) ["node"] (spD ⟨K, cls⟩ 1 (R 1))
  k_2 : FnG P w K mg base n (A 2) (FD 2) ["node"] (spD ⟨K, cls⟩ 1 (R 2))
  k_3 : FnG P w K mg base n (A 3) (FD 3) ["node"] (spD ⟨K, cls⟩ 1 (R 3))
  k_6 : FnG P w K mg base n (A 6) (FD 6) ["node"] (spD ⟨K, cls⟩ 1 (R 6))
  k_7 : FnG P w K mg base n (A 7) (FD 7) ["message"] (spD ⟨K, cls⟩ 1 (R 7))
  k_8 : FnG P w K mg base n (A 8) (FD 8) ["message"] (spD ⟨K, cls⟩ 1 (R 8))
  k_1000 : FnG P w K mg base n (A 1000) (FD 1000) ["_law_script", "_law_k"] (spD ⟨K, cls⟩ 2 (R 1000))
  k_1001 : FnG P w K mg base n (A 1001) (FD 1001) ["_law_script", "_law_first", "_law_last"] (spD ⟨K, cls⟩ 3 (R 1001))
  k_1002 : FnG P w K mg base n (A 1002) (FD 1002) ["_law_box", "_law_many"] (spD ⟨K, cls⟩ 2 (R 1002))
  k_1003 : FnG P w K mg base n (A 1003) (FD 1003) ["_law_box"] (spD ⟨K, cls⟩ 1 (R 1003))
  k_1004 : FnG P w K mg base n (A 1004) (FD 1004) ["_law_box", "_law_depth", "_law_inside"] (spD ⟨K, cls⟩ 3 (R 1004))
  k_1005 : FnG P w K mg base n (A 1005) (FD 1005) ["_law_box", "_law_depth"] (spD ⟨K, cls⟩ 2 (R 1005))
  k_1006 : FnG P w K mg base n (A 1006) (FD 1006) ["_law_box", "_law_depth", "_law_inside"] (spD ⟨K, cls⟩ 3 (R 1006))
  k_1007 : FnG P w K mg base n (A 1007) (FD 1007) ["_law_message_here"] (spD ⟨K, cls⟩ 1 (R 1007))
  k_1008 : FnG P w K mg base n (A 1008) (FD 1008) ["_law_message_here"] (spD ⟨K, cls⟩ 1 (R 1008))
  k_1009 : FnG P w K mg base n (A 1009) (FD 1009) ["_law_message_here"] (spD ⟨K, cls⟩ 1 (R 1009))
  k_1010 : FnG P w K mg base n (A 1010) (FD 1010) ["_law_script"] (spD ⟨K, cls⟩ 1 (R 1010))
section
variable {P : Program} {w : World} {K : PySem.W.Frag} {mg : Str → Option Value} {base : Heap} {cls : Nat → Addr} {A : Nat → Addr} {FD : Nat → FuncData} {n : Nat} {R : Rec}
/-- cases_of -/
theorem W_1 (T : Top P K mg cls A FD) (a : All P w K mg base cls A FD n R) : FnG P w K mg base (n + 1) (A 1) (FD 1) ["node"] (spD ⟨K, cls⟩ 1 (B_1 R)) :=
  defG_ok T.f_1 sc_1 fun cdv A' outer s H E hr => by
    have tk := takes_of (X := cxOf (L2.CX P w) P w K mg base N_1 "cases_of" (defScope s_1) (A 1) cdv A' outer s H E) rfl rfl rfl rfl
    exact (dss_one (ds_ret (de_sub_ (de_o (de_v 0)) (de_o (de_neg (de_o de_int))))))
/-- other_of -/
theorem W_2 (T : Top P K mg cls A FD) (a : All P w K mg base cls A FD n R) : FnG P w K mg base (n + 1) (A 2) (FD 2) ["node"] (spD ⟨K, cls⟩ 1 (B_2 R)) :=
  defG_ok T.f_2 sc_2 fun cdv A' outer s H E hr => by
    have tk := takes_of (X := cxOf (L2.CX P w) P w K mg base N_2 "other_of" (defScope s_2) (A 2) cdv A' outer s H E) rfl rfl rfl rfl
    exact (dss_one (ds_ret (de_sub_ (de_o (de_v 0)) (de_o (de_neg (de_o de_int))))))
/-- inner_messages -/
theorem W_3 (T : Top P K mg cls A FD) (a : All P w K mg base cls A FD n R) : FnG P w K mg base (n + 1) (A 3) (FD 3) ["node"] (spD ⟨K, cls⟩ 1 (B_3 R)) :=
  defG_ok T.f_3 sc_3 fun cdv A' outer s H E hr => by
    have tk := takes_of (X := cxOf (L2.CX P w) P w K mg base N_3 "inner_messages" (defScope s_3) (A 3) cdv A' outer s H E) rfl rfl rfl rfl
    exact (dss_cons (ds_if (dt_notIn (de_o (de_sub_ (de_o (de_v 0)) (de_o de_int))) (de_o (de_gtup (zs := ["select", "plural"]) T.c_CHOICES)) rfl) (dss_one (ds_ret (df_e (df_lst da_nil ((ALen.nil).line (by decide)))))) dss_nil) (dss_one (ds_ret (de_add (df_o (df_comp (own := [("key", 1), ("message", 2)]) (p := (.tp [(.nm 1), (.nm 2)])) (ι := (iA (eCall (R 1) (aCons (eV 0) aNil)))) (τ := tTrue) (ε := C_3_1 R) rfl sc_3.nd (di_a (de_callG a.k_1 tk hr rfl T.g_1 T.f_1.kp T.n_1 (da_cons (de_v 0) da_nil) (ALen.cons ALen.nil))) (blkOk_by (N := N_3) (sc := defScope s_3) (own := [("key", 1), ("message", 2)]) (by decide +kernel)) (by decide) (fun _ _ _ _ _ => (pg_tup rfl (pgs_cons (pg_name (i := 1) sc_3.nd rfl (by first | exact Or.inl rfl | exact Or.inr rfl)) (pgs_cons (pg_name (i := 2) sc_3.nd rfl (by first | exact Or.inl rfl | exact Or.inr rfl)) pgs_nil)))) (fun _ _ _ _ _ => dts_nil) (fun _ _ _ _ _ => (de_v 2)))) (df_o (df_lst (da_cons (de_callG a.k_2 tk hr rfl T.g_2 T.f_2.kp T.n_2 (da_cons (de_v 0) da_nil) (ALen.cons ALen.nil)) da_nil) ((ALen.cons ALen.nil).line (by decide))))))))
/-- node_kind -/
theorem W_6 (T : Top P K mg cls A FD) (a : All P w K mg base cls A FD n R) : FnG P w K mg base (n + 1) (A 6) (FD 6) ["node"] (spD ⟨K, cls⟩ 1 (B_6 R)) :=
  defG_ok T.f_6 sc_6 fun cdv A' outer s H E hr => by
    have tk := takes_of (X := cxOf (L2.CX P w) P w K mg base N_6 "node_kind" (defScope s_6) (A 6) cdv A' outer s H E) rfl rfl rfl rfl
    exact (dss_cons (ds_if (dt_eq hr.units (de_o (de_sub_ (de_o (de_v 0)) (de_o de_int))) (de_o (de_gstr T.c_SHOW))) (dss_one (ds_ret (de_tup (da_cons (de_sub_ (de_o (de_v 0)) (de_o de_int)) (da_cons (de_gstr T.c_ANY) da_nil)) ((ALen.cons (ALen.cons ALen.nil)).line (by decide))))) dss_nil) (dss_cons (ds_if (dt_eq hr.units (de_o (de_sub_ (de_o (de_v 0)) (de_o de_int))) (de_o (de_gstr T.c_SELECT))) (dss_one (ds_ret (de_tup (da_cons (de_sub_ (de_o (de_v 0)) (de_o de_int)) (da_cons (de_gstr T.c_TEXT) da_nil)) ((ALen.cons (ALen.cons ALen.nil)).line (by decide))))) dss_nil) (dss_cons (ds_if (dt_eq hr.units (de_o (de_sub_ (de_o (de_v 0)) (de_o de_int))) (de_o (de_gstr T.c_PLURAL))) (dss_one (ds_ret (de_tup (da_cons (de_sub_ (de_o (de_v 0)) (de_o de_int)) (da_cons (de_gstr T.c_NUMBER) da_nil)) ((ALen.cons (ALen.cons ALen.nil)).line (by decide))))) dss_nil) (dss_one (ds_ret de_non)))))
/-- asked_kinds -/
theorem W_7 (T : Top P K mg cls A FD) (a : All P w K mg base cls A FD n R) : FnG P w K mg base (n + 1) (A 7) (FD 7) ["message"] (spD ⟨K, cls⟩ 1 (B_7 R)) :=
  defG_ok T.f_7 sc_7 fun cdv A' outer s H E hr => by
    have tk := takes_of (X := cxOf (L2.CX P w) P w K mg base N_7 "asked_kinds" (defScope s_7) (A 7) cdv A' outer s H E) rfl rfl rfl rfl
    exact (dss_cons (ds_own (i := 1) sc_7.nd rfl (by first | exact Or.inl rfl | exact Or.inr rfl) (df_lst da_nil ((ALen.nil).line (by decide)))) (dss_cons (ds_for (passes_of rfl) rfl (di_a (de_v 0)) (pg_name (i := 2) sc_7.nd rfl (by first | exact Or.inl rfl | exact Or.inr rfl)) (dss_cons (ds_set (i := 3) sc_7.nd rfl (by first | exact Or.inl rfl | exact Or.inr rfl) (de_callG a.k_6 tk hr rfl T.g_6 T.f_6.kp T.n_6 (da_cons (de_v 2) da_nil) (ALen.cons ALen.nil))) (dss_cons (ds_if (dt_notN (de_o (de_v 3)) (de_o de_non)) (dss_one (ds_appO 1 (pe_bm PySem.F.plainAttrs_list PySem.F.slot_list_append PySem.F.type_list_append mt_append (pv 1) (pa_cons (de_v 3) pa_nil)))) dss_nil) (dss_one (ds_for (passes_of rfl) rfl (di_a (de_callG a.k_3 tk hr rfl T.g_3 T.f_3.kp T.n_3 (da_cons (de_v 2) da_nil) (ALen.cons ALen.nil))) (pg_name (i := 4) sc_7.nd rfl (by first | exact Or.inl rfl | exact Or.inr rfl)) (dss_one (ds_own (i := 1) sc_7.nd rfl (by first | exact Or.inl rfl | exact Or.inr rfl) (df_cat (do_v 1) (de_o (de_callG a.k_7 tk hr rfl T.g_7 T.f_7.kp T.n_7 (da_cons (de_v 4) da_nil) (ALen.cons ALen.nil))))))))))) (dss_one (ds_retO 1))))
/-- kinds_of -/
theorem W_8 (T : Top P K mg cls A FD) (a : All P w K mg base cls A FD n R) : FnG P w K mg base (n + 1) (A 8) (FD 8) ["message"] (spD ⟨K, cls⟩ 1 (B_8 R)) :=
  defG_ok T.f_8 sc_8 fun cdv A' outer s H E hr => by
    have tk := takes_of (X := cxOf (L2.CX P w) P w K mg base N_8 "kinds_of" (defScope s_8) (A 8) cdv A' outer s H E) rfl rfl rfl rfl
    exact (dss_cons (ds_own (i := 1) sc_8.nd rfl (by first | exact Or.inl rfl | exact Or.inr rfl) df_dct0) (dss_cons (ds_for (passes_of rfl) rfl (di_a (de_callG a.k_7 tk hr rfl T.g_7 T.f_7.kp T.n_7 (da_cons (de_v 0) da_nil) (ALen.cons ALen.nil))) (pg_tup rfl (pgs_cons (pg_name (i := 2) sc_8.nd rfl (by first | exact Or.inl rfl | exact Or.inr rfl)) (pgs_cons (pg_name (i := 3) sc_8.nd rfl (by first | exact Or.inl rfl | exact Or.inr rfl)) pgs_nil))) (dss_cons (ds_set (i := 4) sc_8.nd rfl (by first | exact Or.inl rfl | exact Or.inr rfl) (de_dget2 hr.u1 (do_v 1) (de_v 2) (de_gstr T.c_ANY) ⟨rfl, rfl, rfl, rfl⟩)) (dss_cons (ds_if (dw_t (dw_and (dt_notIn (de_o (de_gstr T.c_ANY)) (de_o (de_tup (da_cons (de_v 4) (da_cons (de_v 3) da_nil)) ((ALen.cons (ALen.cons ALen.nil)).line (by decide)))) rfl) (dw_and1 (dt_ne hr.units (de_o (de_v 4)) (de_o (de_v 3)))))) (dss_one (ds_raise (c := 4) rfl T.e_BadMessage T.m_BadMessage T.b_super hr tk rfl (de_v 2))) dss_nil) (dss_one (ds_if (dt_eq hr.units (de_o (de_v 4)) (de_o (de_gstr T.c_ANY))) (dss_one (ds_putO 1 hr.u1 (pv 1) (de_v 2) (de_v 3))) dss_nil))))) (dss_one (ds_ret (df_e (df_dcomp (own := [("name", 2)]) (p := (.nm 2)) (ι := (iA (eUn dSorted (oV 1)))) (τ := tTrue) (κ := K_8_2 R) (ε := C_8_3 R) rfl sc_8.nd (di_a (df_e (df_sorted rfl T.b_sorted rfl (do_v 1)))) (blkOk_by (N := N_8) (sc := defScope s_8) (own := [("name", 2)]) (by decide +kernel)) (by decide) (fun _ _ _ _ _ => (pg_name (i := 2) sc_8.nd rfl (by first | exact Or.inl rfl | exact Or.inr rfl))) (fun _ _ _ _ _ => dts_nil) (fun _ _ _ _ _ => (de_v 2)) (fun _ _ _ _ _ => (de_subA hr.u1 (do_v 1) (de_o (de_v 2)) (de_sub_ (do_v 1) (de_o (de_v 2))) (fun _ _ => rfl)))))))))
/-- _law_cell -/
theorem W_1000 (T : Top P K mg cls A FD) (a : All P w K mg base cls A FD n R) : FnG P w K mg base (n + 1) (A 1000) (FD 1000) ["_law_script", "_law_k"] (spD ⟨K, cls⟩ 2 (B_1000 R)) :=
  defG_ok T.f_1000 sc_1000 fun cdv A' outer s H E hr => by
    have tk := takes_of (X := cxOf (L2.CX P w) P w K mg base N_1000 "_law_cell" (defScope s_1000) (A 1000) cdv A' outer s H E) rfl rfl rfl rfl
    exact (dss_cons (ds_if (dt_lt (de_o (de_v 1)) (de_o (de_len rfl T.b_len (de_o (de_v 0))))) (dss_one (ds_ret (de_sub_ (de_o (de_v 0)) (de_o (de_v 1))))) dss_nil) (dss_one (ds_ret de_int)))
/-- _law_digits -/
theorem W_1001 (T : Top P K mg cls A FD) (a : All P w K mg base cls A FD n R) : FnG P w K mg base (n + 1) (A 1001) (FD 1001) ["_law_script", "_law_first", "_law_last"] (spD ⟨K, cls⟩ 3 (B_1001 R)) :=
  defG_ok T.f_1001 sc_1001 fun cdv A' outer s H E hr => by
    have tk := takes_of (X := cxOf (L2.CX P w) P w K mg base N_1001 "_law_digits" (defScope s_1001) (A 1001) cdv A' outer s H E) rfl rfl rfl rfl
    exact (dss_cons (ds_own (i := 3) sc_1001.nd rfl (by first | exact Or.inl rfl | exact Or.inr rfl) (df_lst da_nil ((ALen.nil).line (by decide)))) (dss_cons (ds_for (passes_of rfl) rfl (di_r2 rfl T.b_range (de_v 1) (de_v 2)) (pg_name (i := 4) sc_1001.nd rfl (by first | exact Or.inl rfl | exact Or.inr rfl)) (dss_cons (ds_set (i := 5) sc_1001.nd rfl (by first | exact Or.inl rfl | exact Or.inr rfl) (de_callG a.k_1000 tk hr rfl T.g_1000 T.f_1000.kp T.n_1000 (da_cons (de_v 0) (da_cons (de_v 4) da_nil)) (ALen.cons (ALen.cons ALen.nil)))) (dss_cons (ds_if (dt_lt (de_o (de_v 5)) (de_o de_int)) (dss_one (ds_set (i := 5) sc_1001.nd rfl (by first | exact Or.inl rfl | exact Or.inr rfl) (de_sub (de_o de_int) (de_o (de_mul (de_o de_int) (de_o (de_v 5))))))) dss_nil) (dss_one (ds_if (dt_ge (de_o (de_v 5)) (de_o (de_pow (de_o de_int) (de_o de_int)))) (dss_one (ds_for (passes_of rfl) rfl (di_r1 rfl T.b_range de_int) (pg_name (i := 6) sc_1001.nd rfl (by first | exact Or.inl rfl | exact Or.inr rfl)) (dss_one (ds_if (dt_gt (de_o (de_v 5)) (de_o de_int)) (dss_cons (ds_appO 3 (pe_bm PySem.F.plainAttrs_list PySem.F.slot_list_append PySem.F.type_list_append mt_append (pv 3) (pa_cons (de_mod (de_o (de_intc rfl T.b_int (de_o (de_v 5)))) (de_o de_int)) pa_nil))) (dss_one (ds_set (i := 5) sc_1001.nd rfl (by first | exact Or.inl rfl | exact Or.inr rfl) (de_div (de_o (de_v 5)) (de_o de_int))))) dss_nil)))) (dss_cons (ds_set (i := 7) sc_1001.nd rfl (by first | exact Or.inl rfl | exact Or.inr rfl) (de_mod (de_o (de_intc rfl T.b_int (de_o (de_add (de_o (de_add (de_o (de_mul (de_o (de_v 5)) (de_o de_int))) (de_o (de_mul (de_o (de_v 4)) (de_o de_int))))) (de_o de_int))))) (de_o de_int))) (dss_clr [6] (dss_one (ds_for (passes_of rfl) rfl (di_r1 rfl T.b_range de_int) (pg_name (i := 6) sc_1001.nd rfl (by first | exact Or.inl rfl | exact Or.inr rfl)) (dss_cons (ds_set (i := 7) sc_1001.nd rfl (by first | exact Or.inl rfl | exact Or.inr rfl) (de_mod (de_o (de_intc rfl T.b_int (de_o (de_add (de_o (de_add (de_o (de_mul (de_o (de_v 7)) (de_o de_int))) (de_o (de_mul (de_o de_int) (de_o (de_v 6)))))) (de_o de_int))))) (de_o de_int))) (dss_one (ds_appO 3 (pe_bm PySem.F.plainAttrs_list PySem.F.slot_list_append PySem.F.type_list_append mt_append (pv 3) (pa_cons (de_mod (de_o (de_intc rfl T.b_int (de_o (de_div (de_o (de_v 7)) (de_o de_int))))) (de_o de_int)) pa_nil)))))))))))))) (dss_one (ds_retO 3))))
/-- _law_draw -/
theorem W_1002 (T : Top P K mg cls A FD) (a : All P w K mg base cls A FD n R) : FnG P w K mg base (n + 1) (A 1002) (FD 1002) ["_law_box", "_law_many"] (spD ⟨K, cls⟩ 2 (B_1002 R)) :=
  defG_ok T.f_1002 sc_1002 fun cdv A' outer s H E hr => by
    have tk := takes_of (X := cxOf (L2.CX P w) P w K mg base N_1002 "_law_draw" (defScope s_1002) (A 1002) cdv A' outer s H E) rfl rfl rfl rfl
    exact (dss_cons (ds_set (i := 2) sc_1002.nd rfl (by first | exact Or.inl rfl | exact Or.inr rfl) (de_sub_ (de_o (de_v 0)) (de_o de_int))) (dss_cons (ds_setP (pg_sub (de_v 0) de_int set_list) (de_add (de_o (de_v 2)) (de_o de_int))) (dss_cons (ds_if (dt_lt (de_o (de_v 2)) (de_o (de_len rfl T.b_len (de_o (de_sub_ (de_o (de_v 0)) (de_o de_int)))))) (dss_one (ds_ret (de_mod (de_o (de_intc rfl T.b_int (de_o (de_sub_ (de_o (de_sub_ (de_o (de_v 0)) (de_o de_int))) (de_o (de_v 2)))))) (de_o (de_v 1))))) dss_nil) (dss_one (ds_ret de_int)))))
/-- _law_string -/
theorem W_1003 (T : Top P K mg cls A FD) (a : All P w K mg base cls A FD n R) : FnG P w K mg base (n + 1) (A 1003) (FD 1003) ["_law_box"] (spD ⟨K, cls⟩ 1 (B_1003 R)) :=
  defG_ok T.f_1003 sc_1003 fun cdv A' outer s H E hr => by
    have tk := takes_of (X := cxOf (L2.CX P w) P w K mg base N_1003 "_law_string" (defScope s_1003) (A 1003) cdv A' outer s H E) rfl rfl rfl rfl
    exact (dss_one (ds_ret (de_sub_ (df_o (df_lst (da_cons de_str (da_cons de_str (da_cons de_str (da_cons de_str (da_cons de_str (da_cons de_str (da_cons de_str (da_cons de_str (da_cons de_str (da_cons de_str da_nil)))))))))) ((ALen.cons (ALen.cons (ALen.cons (ALen.cons (ALen.cons (ALen.cons (ALen.cons (ALen.cons (ALen.cons (ALen.cons ALen.nil)))))))))).line (by decide)))) (de_o (de_callG a.k_1002 tk hr rfl T.g_1002 T.f_1002.kp T.n_1002 (da_cons (de_v 0) (da_cons de_int da_nil)) (ALen.cons (ALen.cons ALen.nil)))))))
/-- _law_select -/
theorem W_1004 (T : Top P K mg cls A FD) (a : All P w K mg base cls A FD n R) : FnG P w K mg base (n + 1) (A 1004) (FD 1004) ["_law_box", "_law_depth", "_law_inside"] (spD ⟨K, cls⟩ 3 (B_1004 R)) :=
  defG_ok T.f_1004 sc_1004 fun cdv A' outer s H E hr => by
    have tk := takes_of (X := cxOf (L2.CX P w) P w K mg base N_1004 "_law_select" (defScope s_1004) (A 1004) cdv A' outer s H E) rfl rfl rfl rfl
    exact (dss_cons (ds_own (i := 3) sc_1004.nd rfl (by first | exact Or.inl rfl | exact Or.inr rfl) (df_lst da_nil ((ALen.nil).line (by decide)))) (dss_cons (ds_for (passes_of rfl) rfl (di_a (df_e (df_lst (da_cons de_str (da_cons de_str (da_cons de_str da_nil))) ((ALen.cons (ALen.cons (ALen.cons ALen.nil))).line (by decide))))) (pg_name (i := 4) sc_1004.nd rfl (by first | exact Or.inl rfl | exact Or.inr rfl)) (dss_one (ds_if (dt_eq hr.units (de_o (de_callG a.k_1002 tk hr rfl T.g_1002 T.f_1002.kp T.n_1002 (da_cons (de_v 0) (da_cons de_int da_nil)) (ALen.cons (ALen.cons ALen.nil)))) (de_o de_int)) (dss_one (ds_appO 3 (pe_bm PySem.F.plainAttrs_list PySem.F.slot_list_append PySem.F.type_list_append mt_append (pv 3) (pa_cons (de_tup (da_cons (de_v 4) (da_cons (de_callG a.k_1006 tk hr rfl T.g_1006 T.f_1006.kp T.n_1006 (da_cons (de_v 0) (da_cons (de_sub (de_o (de_v 1)) (de_o de_int)) (da_cons (de_v 2) da_nil))) (ALen.cons (ALen.cons (ALen.cons ALen.nil)))) da_nil)) ((ALen.cons (ALen.cons ALen.nil)).line (by decide))) pa_nil)))) dss_nil))) (dss_settle 3 (dss_one (ds_ret (de_tup (da_cons de_str (da_cons (de_sub_ (df_o (df_lst (da_cons de_str (da_cons de_str da_nil)) ((ALen.cons (ALen.cons ALen.nil)).line (by decide)))) (de_o (de_callG a.k_1002 tk hr rfl T.g_1002 T.f_1002.kp T.n_1002 (da_cons (de_v 0) (da_cons de_int da_nil)) (ALen.cons (ALen.cons ALen.nil))))) (da_cons (de_v 3) (da_cons (de_callG a.k_1006 tk hr rfl T.g_1006 T.f_1006.kp T.n_1006 (da_cons (de_v 0) (da_cons (de_sub (de_o (de_v 1)) (de_o de_int)) (da_cons (de_v 2) da_nil))) (ALen.cons (ALen.cons (ALen.cons ALen.nil)))) da_nil)))) ((ALen.cons (ALen.cons (ALen.cons (ALen.cons ALen.nil)))).line (by decide))))))))
/-- _law_plural -/
theorem W_1005 (T : Top P K mg cls A FD) (a : All P w K mg base cls A FD n R) : FnG P w K mg base (n + 1) (A 1005) (FD 1005) ["_law_box", "_law_depth"] (spD ⟨K, cls⟩ 2 (B_1005 R)) :=
  defG_ok T.f_1005 sc_1005 fun cdv A' outer s H E hr => by
    have tk := takes_of (X := cxOf (L2.CX P w) P w K mg base N_1005 "_law_plural" (defScope s_1005) (A 1005) cdv A' outer s H E) rfl rfl rfl rfl
    exact (dss_cons (ds_own (i := 2) sc_1005.nd rfl (by first | exact Or.inl rfl | exact Or.inr rfl) (df_lst da_nil ((ALen.nil).line (by decide)))) (dss_cons (ds_for (passes_of rfl) rfl (di_a (df_e (df_lst (da_cons de_int (da_cons de_int (da_cons de_int (da_cons de_int (da_cons de_str (da_cons de_str (da_cons de_str (da_cons de_str (da_cons de_str da_nil))))))))) ((ALen.cons (ALen.cons (ALen.cons (ALen.cons (ALen.cons (ALen.cons (ALen.cons (ALen.cons (ALen.cons ALen.nil))))))))).line (by decide))))) (pg_name (i := 3) sc_1005.nd rfl (by first | exact Or.inl rfl | exact Or.inr rfl)) (dss_one (ds_if (dt_eq hr.units (de_o (de_callG a.k_1002 tk hr rfl T.g_1002 T.f_1002.kp T.n_1002 (da_cons (de_v 0) (da_cons de_int da_nil)) (ALen.cons (ALen.cons ALen.nil)))) (de_o de_int)) (dss_one (ds_appO 2 (pe_bm PySem.F.plainAttrs_list PySem.F.slot_list_append PySem.F.type_list_append mt_append (pv 2) (pa_cons (de_tup (da_cons (de_v 3) (da_cons (de_callG a.k_1006 tk hr rfl T.g_1006 T.f_1006.kp T.n_1006 (da_cons (de_v 0) (da_cons (de_sub (de_o (de_v 1)) (de_o de_int)) (da_cons de_bl da_nil))) (ALen.cons (ALen.cons (ALen.cons ALen.nil)))) da_nil)) ((ALen.cons (ALen.cons ALen.nil)).line (by decide))) pa_nil)))) dss_nil))) (dss_cons (ds_if (dt_eq hr.units (de_o (de_callG a.k_1002 tk hr rfl T.g_1002 T.f_1002.kp T.n_1002 (da_cons (de_v 0) (da_cons de_int da_nil)) (ALen.cons (ALen.cons ALen.nil)))) (de_o de_int)) (dss_one (ds_revO 2 (pe_bm0 PySem.F.plainAttrs_list PySem.F.slot_list_reverse PySem.F.type_list_reverse mt_reverse (pv 2)))) dss_nil) (dss_settle 2 (dss_one (ds_ret (de_tup (da_cons de_str (da_cons (de_sub_ (df_o (df_lst (da_cons de_str (da_cons de_str da_nil)) ((ALen.cons (ALen.cons ALen.nil)).line (by decide)))) (de_o (de_callG a.k_1002 tk hr rfl T.g_1002 T.f_1002.kp T.n_1002 (da_cons (de_v 0) (da_cons de_int da_nil)) (ALen.cons (ALen.cons ALen.nil))))) (da_cons (de_sub_ (df_o (df_lst (da_cons de_int (da_cons de_int (da_cons de_int (da_cons de_int da_nil)))) ((ALen.cons (ALen.cons (ALen.cons (ALen.cons ALen.nil)))).line (by decide)))) (de_o (de_callG a.k_1002 tk hr rfl T.g_1002 T.f_1002.kp T.n_1002 (da_cons (de_v 0) (da_cons de_int da_nil)) (ALen.cons (ALen.cons ALen.nil))))) (da_cons (de_v 2) (da_cons (de_callG a.k_1006 tk hr rfl T.g_1006 T.f_1006.kp T.n_1006 (da_cons (de_v 0) (da_cons (de_sub (de_o (de_v 1)) (de_o de_int)) (da_cons de_bl da_nil))) (ALen.cons (ALen.cons (ALen.cons ALen.nil)))) da_nil))))) ((ALen.cons (ALen.cons (ALen.cons (ALen.cons (ALen.cons ALen.nil))))).line (by decide)))))))))
/-- _law_message -/
theorem W_1006 (T : Top P K mg cls A FD) (a : All P w K mg base cls A FD n R) : FnG P w K mg base (n + 1) (A 1006) (FD 1006) ["_law_box", "_law_depth", "_law_inside"] (spD ⟨K, cls⟩ 3 (B_1006 R)) :=
  defG_ok T.f_1006 sc_1006 fun cdv A' outer s H E hr => by
    have tk := takes_of (X := cxOf (L2.CX P w) P w K mg base N_1006 "_law_message" (defScope s_1006) (A 1006) cdv A' outer s H E) rfl rfl rfl rfl
    exact (dss_cons (ds_own (i := 3) sc_1006.nd rfl (by first | exact Or.inl rfl | exact Or.inr rfl) (df_lst da_nil ((ALen.nil).line (by decide)))) (dss_cons (ds_for (passes_of rfl) rfl (di_r1 rfl T.b_range (de_callG a.k_1002 tk hr rfl T.g_1002 T.f_1002.kp T.n_1002 (da_cons (de_v 0) (da_cons de_int da_nil)) (ALen.cons (ALen.cons ALen.nil)))) (pg_name (i := 4) sc_1006.nd rfl (by first | exact Or.inl rfl | exact Or.inr rfl)) (dss_cons (ds_set (i := 5) sc_1006.nd rfl (by first | exact Or.inl rfl | exact Or.inr rfl) (de_callG a.k_1002 tk hr rfl T.g_1002 T.f_1002.kp T.n_1002 (da_cons (de_v 0) (da_cons de_int da_nil)) (ALen.cons (ALen.cons ALen.nil)))) (dss_one (ds_if (dw_t (dw_or (dt_lt (de_o (de_v 5)) (de_o de_int)) (dw_or1 (dw_t (dw_and (dt_eq hr.units (de_o (de_v 1)) (de_o de_int)) (dw_and1 (dt_gt (de_o (de_v 5)) (de_o de_int)))))))) (dss_one (ds_if (dw_t (dw_or (dt_eq hr.units (de_o (de_len rfl T.b_len (do_v 3))) (de_o de_int)) (dw_or1 (dt_ne hr.units (de_o (de_sub_ (de_o (de_sub_ (do_v 3) (de_o (de_neg (de_o de_int))))) (de_o de_int))) (de_o de_str))))) (dss_one (ds_appO 3 (pe_bm PySem.F.plainAttrs_list PySem.F.slot_list_append PySem.F.type_list_append mt_append (pv 3) (pa_cons (de_tup (da_cons de_str (da_cons (de_callG a.k_1003 tk hr rfl T.g_1003 T.f_1003.kp T.n_1003 (da_cons (de_v 0) da_nil) (ALen.cons ALen.nil)) da_nil)) ((ALen.cons (ALen.cons ALen.nil)).line (by decide))) pa_nil)))) dss_nil)) (dss_one (ds_if (dt_eq hr.units (de_o (de_v 5)) (de_o de_int)) (dss_one (ds_appO 3 (pe_bm PySem.F.plainAttrs_list PySem.F.slot_list_append PySem.F.type_list_append mt_append (pv 3) (pa_cons (de_tup (da_cons de_str (da_cons (de_sub_ (df_o (df_lst (da_cons de_str (da_cons de_str (da_cons de_str (da_cons de_str da_nil)))) ((ALen.cons (ALen.cons (ALen.cons (ALen.cons ALen.nil)))).line (by decide)))) (de_o (de_callG a.k_1002 tk hr rfl T.g_1002 T.f_1002.kp T.n_1002 (da_cons (de_v 0) (da_cons de_int da_nil)) (ALen.cons (ALen.cons ALen.nil))))) da_nil)) ((ALen.cons (ALen.cons ALen.nil)).line (by decide))) pa_nil)))) (dss_one (ds_if (dt_eq hr.units (de_o (de_v 5)) (de_o de_int)) (dss_one (ds_if (dt_tru (de_o (de_v 2))) (dss_one (ds_appO 3 (pe_bm PySem.F.plainAttrs_list PySem.F.slot_list_append PySem.F.type_list_append mt_append (pv 3) (pa_cons (de_tup (da_cons de_str da_nil) ((ALen.cons ALen.nil).line (by decide))) pa_nil)))) dss_nil)) (dss_one (ds_if (dt_lt (de_o (de_v 5)) (de_o de_int)) (dss_one (ds_appO 3 (pe_bm PySem.F.plainAttrs_list PySem.F.slot_list_append PySem.F.type_list_append mt_append (pv 3) (pa_cons (de_callG a.k_1005 tk hr rfl T.g_1005 T.f_1005.kp T.n_1005 (da_cons (de_v 0) (da_cons (de_v 1) da_nil)) (ALen.cons (ALen.cons ALen.nil))) pa_nil)))) (dss_one (ds_appO 3 (pe_bm PySem.F.plainAttrs_list PySem.F.slot_list_append PySem.F.type_list_append mt_append (pv 3) (pa_cons (de_callG a.k_1004 tk hr rfl T.g_1004 T.f_1004.kp T.n_1004 (da_cons (de_v 0) (da_cons (de_v 1) (da_cons (de_v 2) da_nil))) (ALen.cons (ALen.cons (ALen.cons ALen.nil)))) pa_nil)))))))))))))) (dss_one (ds_retO 3))))
/-- _law_asked -/
theorem W_1007 (T : Top P K mg cls A FD) (a : All P w K mg base cls A FD n R) : FnG P w K mg base (n + 1) (A 1007) (FD 1007) ["_law_message_here"] (spD ⟨K, cls⟩ 1 (B_1007 R)) :=
  defG_ok T.f_1007 sc_1007 fun cdv A' outer s H E hr => by
    have tk := takes_of (X := cxOf (L2.CX P w) P w K mg base N_1007 "_law_asked" (defScope s_1007) (A 1007) cdv A' outer s H E) rfl rfl rfl rfl
    exact (dss_cons (ds_own (i := 1) sc_1007.nd rfl (by first | exact Or.inl rfl | exact Or.inr rfl) (df_lst da_nil ((ALen.nil).line (by decide)))) (dss_cons (ds_for (passes_of rfl) rfl (di_a (de_v 0)) (pg_name (i := 2) sc_1007.nd rfl (by first | exact Or.inl rfl | exact Or.inr rfl)) (dss_cons (ds_if (dt_eq hr.units (de_o (de_sub_ (de_o (de_v 2)) (de_o de_int))) (de_o de_str)) (dss_one (ds_appO 1 (pe_bm PySem.F.plainAttrs_list PySem.F.slot_list_append PySem.F.type_list_append mt_append (pv 1) (pa_cons (de_tup (da_cons (de_sub_ (de_o (de_v 2)) (de_o de_int)) (da_cons de_str da_nil)) ((ALen.cons (ALen.cons ALen.nil)).line (by decide))) pa_nil)))) dss_nil) (dss_cons (ds_if (dt_eq hr.units (de_o (de_sub_ (de_o (de_v 2)) (de_o de_int))) (de_o de_str)) (dss_one (ds_appO 1 (pe_bm PySem.F.plainAttrs_list PySem.F.slot_list_append PySem.F.type_list_append mt_append (pv 1) (pa_cons (de_tup (da_cons (de_sub_ (de_o (de_v 2)) (de_o de_int)) (da_cons de_str da_nil)) ((ALen.cons (ALen.cons ALen.nil)).line (by decide))) pa_nil)))) dss_nil) (dss_cons (ds_if (dt_eq hr.units (de_o (de_sub_ (de_o (de_v 2)) (de_o de_int))) (de_o de_str)) (dss_one (ds_appO 1 (pe_bm PySem.F.plainAttrs_list PySem.F.slot_list_append PySem.F.type_list_append mt_append (pv 1) (pa_cons (de_tup (da_cons (de_sub_ (de_o (de_v 2)) (de_o de_int)) (da_cons de_str da_nil)) ((ALen.cons (ALen.cons ALen.nil)).line (by decide))) pa_nil)))) dss_nil) (dss_one (ds_if (dt_in (de_o (de_sub_ (de_o (de_v 2)) (de_o de_int))) (de_o (de_tup (da_cons de_str (da_cons de_str da_nil)) ((ALen.cons (ALen.cons ALen.nil)).line (by decide)))) rfl) (dss_cons (ds_for (passes_of rfl) rfl (di_a (de_sub_ (de_o (de_v 2)) (de_o (de_neg (de_o de_int))))) (pg_tup rfl (pgs_cons (pg_name (i := 3) sc_1007.nd rfl (by first | exact Or.inl rfl | exact Or.inr rfl)) (pgs_cons (pg_name (i := 4) sc_1007.nd rfl (by first | exact Or.inl rfl | exact Or.inr rfl)) pgs_nil))) (dss_one (ds_own (i := 1) sc_1007.nd rfl (by first | exact Or.inl rfl | exact Or.inr rfl) (df_cat (do_v 1) (de_o (de_callG a.k_1007 tk hr rfl T.g_1007 T.f_1007.kp T.n_1007 (da_cons (de_v 4) da_nil) (ALen.cons ALen.nil))))))) (dss_one (ds_own (i := 1) sc_1007.nd rfl (by first | exact Or.inl rfl | exact Or.inr rfl) (df_cat (do_v 1) (de_o (de_callG a.k_1007 tk hr rfl T.g_1007 T.f_1007.kp T.n_1007 (da_cons (de_sub_ (de_o (de_v 2)) (de_o (de_neg (de_o de_int)))) da_nil) (ALen.cons ALen.nil))))))) dss_nil)))))) (dss_one (ds_retO 1))))
/-- _law_due -/
theorem W_1008 (T : Top P K mg cls A FD) (a : All P w K mg base cls A FD n R) : FnG P w K mg base (n + 1) (A 1008) (FD 1008) ["_law_message_here"] (spD ⟨K, cls⟩ 1 (B_1008 R)) :=
  defG_ok T.f_1008 sc_1008 fun cdv A' outer s H E hr => by
    have tk := takes_of (X := cxOf (L2.CX P w) P w K mg base N_1008 "_law_due" (defScope s_1008) (A 1008) cdv A' outer s H E) rfl rfl rfl rfl
    exact (dss_cons (ds_own (i := 1) sc_1008.nd rfl (by first | exact Or.inl rfl | exact Or.inr rfl) df_dct0) (dss_cons (ds_for (passes_of rfl) rfl (di_a (de_callG a.k_1007 tk hr rfl T.g_1007 T.f_1007.kp T.n_1007 (da_cons (de_v 0) da_nil) (ALen.cons ALen.nil))) (pg_tup rfl (pgs_cons (pg_name (i := 2) sc_1008.nd rfl (by first | exact Or.inl rfl | exact Or.inr rfl)) (pgs_cons (pg_name (i := 3) sc_1008.nd rfl (by first | exact Or.inl rfl | exact Or.inr rfl)) pgs_nil))) (dss_cons (ds_set (i := 4) sc_1008.nd rfl (by first | exact Or.inl rfl | exact Or.inr rfl) (de_dget2 hr.u1 (do_v 1) (de_v 2) de_str ⟨rfl, rfl, rfl, rfl⟩)) (dss_one (ds_if (dt_eq hr.units (de_o (de_v 4)) (de_o de_str)) (dss_one (ds_putO 1 hr.u1 (pv 1) (de_v 2) (de_v 3))) (dss_one (ds_if (dw_t (dw_and (dt_ne hr.units (de_o (de_v 3)) (de_o de_str)) (dw_and1 (dt_ne hr.units (de_o (de_v 3)) (de_o (de_v 4)))))) (dss_one (ds_ret (de_v 2))) dss_nil)))))) (dss_one (ds_ret (df_e (df_comp (own := [("_law_name", 2)]) (p := (.nm 2)) (ι := (iA (eUn dSorted (oV 1)))) (τ := tTrue) (ε := C_1008_2 R) rfl sc_1008.nd (di_a (df_e (df_sorted rfl T.b_sorted rfl (do_v 1)))) (blkOk_by (N := N_1008) (sc := defScope s_1008) (own := [("_law_name", 2)]) (by decide +kernel)) (by decide) (fun _ _ _ _ _ => (pg_name (i := 2) sc_1008.nd rfl (by first | exact Or.inl rfl | exact Or.inr rfl))) (fun _ _ _ _ _ => dts_nil) (fun _ _ _ _ _ => (de_tup (da_cons (de_v 2) (da_cons (de_subA hr.u1 (do_v 1) (de_o (de_v 2)) (de_sub_ (do_v 1) (de_o (de_v 2))) (fun _ _ => rfl)) da_nil)) ((ALen.cons (ALen.cons ALen.nil)).line (by decide))))))))))
/-- _law_told -/
theorem W_1009 (T : Top P K mg cls A FD) (a : All P w K mg base cls A FD n R) : FnG P w K mg base (n + 1) (A 1009) (FD 1009) ["_law_message_here"] (spD ⟨K, cls⟩ 1 (B_1009 R)) :=
  defG_ok T.f_1009 sc_1009 fun cdv A' outer s H E hr => by
    have tk := takes_of (X := cxOf (L2.CX P w) P w K mg base N_1009 "_law_told" (defScope s_1009) (A 1009) cdv A' outer s H E) rfl rfl rfl rfl
    exact (dss_one (ds_try_as (i := 1) (CX := cls 3) rfl rfl sc_1009.nd rfl rfl ⟨rfl, by decide, .inl T.m_MessagewaysError⟩ tk (fx_MessagewaysError_ok T) (fun W pn xe tk hp => (dss_one (ds_ret (df_e (df_items rfl T.b_list rfl (de_o (de_callG a.k_8 tk hr rfl T.g_8 T.f_8.kp T.n_8 (da_cons (de_v 0) da_nil) (ALen.cons ALen.nil)))))))) (fun a_ oe_ pn_ cls_ su => (dss_cons (ds_if (dt_tru (de_o (de_isx (CX := cls 7) su 1 rfl T.b_isinstance rfl T.m_BadMessage (ix_BadMessage_ok T) (pv 1)))) (dss_one (ds_ret (de_xf su 1 (gx_name_ok T) (pv 1)))) dss_nil) (dss_one (ds_ret de_int))))))
/-- law -/
theorem W_1010 (T : Top P K mg cls A FD) (a : All P w K mg base cls A FD n R) : FnG P w K mg base (n + 1) (A 1010) (FD 1010) ["_law_script"] (spD ⟨K, cls⟩ 1 (B_1010 R)) :=
  defG_ok T.f_1010 sc_1010 fun cdv A' outer s H E hr => by
    have tk := takes_of (X := cxOf (L2.CX P w) P w K mg base N_1010 "law" (defScope s_1010) (A 1010) cdv A' outer s H E) rfl rfl rfl rfl
    exact (dss_cons (ds_set (i := 1) sc_1010.nd rfl (by first | exact Or.inl rfl | exact Or.inr rfl) (de_box (df_lst (da_cons (de_callG a.k_1001 tk hr rfl T.g_1001 T.f_1001.kp T.n_1001 (da_cons (de_v 0) (da_cons de_int (da_cons de_int da_nil))) (ALen.cons (ALen.cons (ALen.cons ALen.nil)))) (da_cons de_int da_nil)) ((ALen.cons (ALen.cons ALen.nil)).line (by decide))))) (dss_cons (ds_set (i := 2) sc_1010.nd rfl (by first | exact Or.inl rfl | exact Or.inr rfl) (de_callG a.k_1006 tk hr rfl T.g_1006 T.f_1006.kp T.n_1006 (da_cons (de_v 1) (da_cons de_int (da_cons de_bl da_nil))) (ALen.cons (ALen.cons (ALen.cons ALen.nil))))) (dss_cons (ds_if (dt_eq hr.units (de_o (de_callG a.k_1002 tk hr rfl T.g_1002 T.f_1002.kp T.n_1002 (da_cons (de_v 1) (da_cons de_int da_nil)) (ALen.cons (ALen.cons ALen.nil)))) (de_o de_int)) (dss_one (ds_set (i := 2) sc_1010.nd rfl (by first | exact Or.inl rfl | exact Or.inr rfl) (de_add (de_o (de_v 2)) (df_o (df_lst (da_cons (de_tup (da_cons de_str (da_cons (de_sub_ (df_o (df_lst (da_cons de_str (da_cons de_str da_nil)) ((ALen.cons (ALen.cons ALen.nil)).line (by decide)))) (de_o (de_callG a.k_1002 tk hr rfl T.g_1002 T.f_1002.kp T.n_1002 (da_cons (de_v 1) (da_cons de_int da_nil)) (ALen.cons (ALen.cons ALen.nil))))) (da_cons (df_e (df_lst da_nil ((ALen.nil).line (by decide)))) (da_cons (de_callG a.k_1006 tk hr rfl T.g_1006 T.f_1006.kp T.n_1006 (da_cons (de_v 1) (da_cons de_int (da_cons de_bl da_nil))) (ALen.cons (ALen.cons (ALen.cons ALen.nil)))) da_nil)))) ((ALen.cons (ALen.cons (ALen.cons (ALen.cons ALen.nil)))).line (by decide))) da_nil) ((ALen.cons ALen.nil).line (by decide))))))) dss_nil) (dss_cons (ds_if (dt_eq hr.units (de_o (de_callG a.k_1002 tk hr rfl T.g_1002 T.f_1002.kp T.n_1002 (da_cons (de_v 1) (da_cons de_int da_nil)) (ALen.cons (ALen.cons ALen.nil)))) (de_o de_int)) (dss_one (ds_set (i := 2) sc_1010.nd rfl (by first | exact Or.inl rfl | exact Or.inr rfl) (de_add (df_o (df_lst (da_cons (de_tup (da_cons de_str (da_cons (de_sub_ (df_o (df_lst (da_cons de_str (da_cons de_str da_nil)) ((ALen.cons (ALen.cons ALen.nil)).line (by decide)))) (de_o (de_callG a.k_1002 tk hr rfl T.g_1002 T.f_1002.kp T.n_1002 (da_cons (de_v 1) (da_cons de_int da_nil)) (ALen.cons (ALen.cons ALen.nil))))) (da_cons de_int (da_cons (df_e (df_lst da_nil ((ALen.nil).line (by decide)))) (da_cons (df_e (df_lst (da_cons (de_tup (da_cons de_str (da_cons de_str da_nil)) ((ALen.cons (ALen.cons ALen.nil)).line (by decide))) da_nil) ((ALen.cons ALen.nil).line (by decide)))) da_nil))))) ((ALen.cons (ALen.cons (ALen.cons (ALen.cons (ALen.cons ALen.nil))))).line (by decide))) da_nil) ((ALen.cons ALen.nil).line (by decide)))) (de_o (de_v 2))))) dss_nil) (dss_one (ds_ret (de_eq hr.units (de_o (de_callG a.k_1009 tk hr rfl T.g_1009 T.f_1009.kp T.n_1009 (da_cons (de_v 2) da_nil) (ALen.cons ALen.nil))) (de_o (de_callG a.k_1008 tk hr rfl T.g_1008 T.f_1008.kp T.n_1008 (da_cons (de_v 2) da_nil) (ALen.cons ALen.nil))))))))))
theorem all (T : Top P K mg cls A FD) : ∀ n, All P w K mg base cls A FD n (run n)
  | 0 => ⟨fnG_stuck fun _ _ => rfl, fnG_stuck fun _ _ => rfl, fnG_stuck fun _ _ => rfl, fnG_stuck fun _ _ => rfl, fnG_stuck fun _ _ => rfl, fnG_stuck fun _ _ => rfl, fnG_stuck fun _ _ => rfl, fnG_stuck fun _ _ => rfl, fnG_stuck fun _ _ => rfl, fnG_stuck fun _ _ => rfl, fnG_stuck fun _ _ => rfl, fnG_stuck fun _ _ => rfl, fnG_stuck fun _ _ => rfl, fnG_stuck fun _ _ => rfl, fnG_stuck fun _ _ => rfl, fnG_stuck fun _ _ => rfl, fnG_stuck fun _ _ => rfl⟩
  | n + 1 => ⟨W_1 T (all T n), W_2 T (all T n), W_3 T (all T n), W_6 T (all T n), W_7 T (all T n), W_8 T (all T n), W_1000 T (all T n), W_1001 T (all T n), W_1002 T (all T n), W_1003 T (all T n), W_1004 T (all T n), W_1005 T (all T n), W_1006 T (all T n), W_1007 T (all T n), W_1008 T (all T n), W_1009 T (all T n), W_1010 T (all T n)⟩
end
theorem all_mk {l : PySem.W.OpenLaw} {w : World} {K : PySem.W.Frag} {h : Heap} {mg : Str → Option Value} {fa : Addr} (X : K.In h) (G : h.Ns mainGlobals mg) (hfa : mg "law" = some (.ref fa))
    {f1 : Addr} {od1 an1 : Option Addr} {sl1 : Array (Option Value)} {oc1 kV1 dc1 pm1 cd1 ct1 : Value}
    (a1 : PySem.W.nsIn K mainGlobals "cases_of" = some (some (.ref f1))) (l1 : K.lookup f1 = some ⟨oc1, od1, .func (PySem.W.fnOf "cases_of" "cases_of" (defArgs s_1) (defBody s_1) (defScope s_1) .none kV1 dc1 pm1 an1 cd1 ct1), sl1⟩) (c1 : PySem.W.codeIn K cd1 "cases_of" = true) (k1 : PySem.W.keepIn K (.ref f1) = true)
    {f2 : Addr} {od2 an2 : Option Addr} {sl2 : Array (Option Value)} {oc2 kV2 dc2 pm2 cd2 ct2 : Value}
    (a2 : PySem.W.nsIn K mainGlobals "other_of" = some (some (.ref f2))) (l2 : K.lookup f2 = some ⟨oc2, od2, .func (PySem.W.fnOf "other_of" "other_of" (defArgs s_2) (defBody s_2) (defScope s_2) .none kV2 dc2 pm2 an2 cd2 ct2), sl2⟩) (c2 : PySem.W.codeIn K cd2 "other_of" = true) (k2 : PySem.W.keepIn K (.ref f2) = true)
    {f3 : Addr} {od3 an3 : Option Addr} {sl3 : Array (Option Value)} {oc3 kV3 dc3 pm3 cd3 ct3 : Value}
    (a3 : PySem.W.nsIn K mainGlobals "inner_messages" = some (some (.ref f3))) (l3 : K.lookup f3 = some ⟨oc3, od3, .func (PySem.W.fnOf "inner_messages" "inner_messages" (defArgs s_3) (defBody s_3) (defScope s_3) .none kV3 dc3 pm3 an3 cd3 ct3), sl3⟩) (c3 : PySem.W.codeIn K cd3 "inner_messages" = true) (k3 : PySem.W.keepIn K (.ref f3) = true)
    {f6 : Addr} {od6 an6 : Option Addr} {sl6 : Array (Option Value)} {oc6 kV6 dc6 pm6 cd6 ct6 : Value}
    (a6 : PySem.W.nsIn K mainGlobals "node_kind" = some (some (.ref f6))) (l6 : K.lookup f6 = some ⟨oc6, od6, .func (PySem.W.fnOf "node_kind" "node_kind" (defArgs s_6) (defBody s_6) (defScope s_6) .none kV6 dc6 pm6 an6 cd6 ct6), sl6⟩) (c6 : PySem.W.codeIn K cd6 "node_kind" = true) (k6 : PySem.W.keepIn K (.ref f6) = true)
    {f7 : Addr} {od7 an7 : Option Addr} {sl7 : Array (Option Value)} {oc7 kV7 dc7 pm7 cd7 ct7 : Value}
    (a7 : PySem.W.nsIn K mainGlobals "asked_kinds" = some (some (.ref f7))) (l7 : K.lookup f7 = some ⟨oc7, od7, .func (PySem.W.fnOf "asked_kinds" "asked_kinds" (defArgs s_7) (defBody s_7) (defScope s_7) .none kV7 dc7 pm7 an7 cd7 ct7), sl7⟩) (c7 : PySem.W.codeIn K cd7 "asked_kinds" = true) (k7 : PySem.W.keepIn K (.ref f7) = true)
    {f8 : Addr} {od8 an8 : Option Addr} {sl8 : Array (Option Value)} {oc8 kV8 dc8 pm8 cd8 ct8 : Value}
    (a8 : PySem.W.nsIn K mainGlobals "kinds_of" = some (some (.ref f8))) (l8 : K.lookup f8 = some ⟨oc8, od8, .func (PySem.W.fnOf "kinds_of" "kinds_of" (defArgs s_8) (defBody s_8) (defScope s_8) .none kV8 dc8 pm8 an8 cd8 ct8), sl8⟩) (c8 : PySem.W.codeIn K cd8 "kinds_of" = true) (k8 : PySem.W.keepIn K (.ref f8) = true)
    {f1000 : Addr} {od1000 an1000 : Option Addr} {sl1000 : Array (Option Value)} {oc1000 kV1000 dc1000 pm1000 cd1000 ct1000 : Value}
    (a1000 : PySem.W.nsIn K mainGlobals "_law_cell" = some (some (.ref f1000))) (l1000 : K.lookup f1000 = some ⟨oc1000, od1000, .func (PySem.W.fnOf "_law_cell" "_law_cell" (defArgs s_1000) (defBody s_1000) (defScope s_1000) .none kV1000 dc1000 pm1000 an1000 cd1000 ct1000), sl1000⟩) (c1000 : PySem.W.codeIn K cd1000 "_law_cell" = true) (k1000 : PySem.W.keepIn K (.ref f1000) = true)
    {f1001 : Addr} {od1001 an1001 : Option Addr} {sl1001 : Array (Option Value)} {oc1001 kV1001 dc1001 pm1001 cd1001 ct1001 : Value}
    (a1001 : PySem.W.nsIn K mainGlobals "_law_digits" = some (some (.ref f1001))) (l1001 : K.lookup f1001 = some ⟨oc1001, od1001, .func (PySem.W.fnOf "_law_digits" "_law_digits" (defArgs s_1001) (defBody s_1001) (defScope s_1001) .none kV1001 dc1001 pm1001 an1001 cd1001 ct1001), sl1001⟩) (c1001 : PySem.W.codeIn K cd1001 "_law_digits" = true) (k1001 : PySem.W.keepIn K (.ref f1001) = true)
    {f1002 : Addr} {od1002 an1002 : Option Addr} {sl1002 : Array (Option Value)} {oc1002 kV1002 dc1002 pm1002 cd1002 ct1002 : Value}
    (a1002 : PySem.W.nsIn K mainGlobals "_law_draw" = some (some (.ref f1002))) (l1002 : K.lookup f1002 = some ⟨oc1002, od1002, .func (PySem.W.fnOf "_law_draw" "_law_draw" (defArgs s_1002) (defBody s_1002) (defScope s_1002) .none kV1002 dc1002 pm1002 an1002 cd1002 ct1002), sl1002⟩) (c1002 : PySem.W.codeIn K cd1002 "_law_draw" = true) (k1002 : PySem.W.keepIn K (.ref f1002) = true)
    {f1003 : Addr} {od1003 an1003 : Option Addr} {sl1003 : Array (Option Value)} {oc1003 kV1003 dc1003 pm1003 cd1003 ct1003 : Value}
    (a1003 : PySem.W.nsIn K mainGlobals "_law_string" = some (some (.ref f1003))) (l1003 : K.lookup f1003 = some ⟨oc1003, od1003, .func (PySem.W.fnOf "_law_string" "_law_string" (defArgs s_1003) (defBody s_1003) (defScope s_1003) .none kV1003 dc1003 pm1003 an1003 cd1003 ct1003), sl1003⟩) (c1003 : PySem.W.codeIn K cd1003 "_law_string" = true) (k1003 : PySem.W.keepIn K (.ref f1003) = true)
    {f1004 : Addr} {od1004 an1004 : Option Addr} {sl1004 : Array (Option Value)} {oc1004 kV1004 dc1004 pm1004 cd1004 ct1004 : Value}
    (a1004 : PySem.W.nsIn K mainGlobals "_law_select" = some (some (.ref f1004))) (l1004 : K.lookup f1004 = some ⟨oc1004, od1004, .func (PySem.W.fnOf "_law_select" "_law_select" (defArgs s_1004) (defBody s_1004) (defScope s_1004) .none kV1004 dc1004 pm1004 an1004 cd1004 ct1004), sl1004⟩) (c1004 : PySem.W.codeIn K cd1004 "_law_select" = true) (k1004 : PySem.W.keepIn K (.ref f1004) = true)
    {f1005 : Addr} {od1005 an1005 : Option Addr} {sl1005 : Array (Option Value)} {oc1005 kV1005 dc1005 pm1005 cd1005 ct1005 : Value}
    (a1005 : PySem.W.nsIn K mainGlobals "_law_plural" = some (some (.ref f1005))) (l1005 : K.lookup f1005 = some ⟨oc1005, od1005, .func (PySem.W.fnOf "_law_plural" "_law_plural" (defArgs s_1005) (defBody s_1005) (defScope s_1005) .none kV1005 dc1005 pm1005 an1005 cd1005 ct1005), sl1005⟩) (c1005 : PySem.W.codeIn K cd1005 "_law_plural" = true) (k1005 : PySem.W.keepIn K (.ref f1005) = true)
    {f1006 : Addr} {od1006 an1006 : Option Addr} {sl1006 : Array (Option Value)} {oc1006 kV1006 dc1006 pm1006 cd1006 ct1006 : Value}
    (a1006 : PySem.W.nsIn K mainGlobals "_law_message" = some (some (.ref f1006))) (l1006 : K.lookup f1006 = some ⟨oc1006, od1006, .func (PySem.W.fnOf "_law_message" "_law_message" (defArgs s_1006) (defBody s_1006) (defScope s_1006) .none kV1006 dc1006 pm1006 an1006 cd1006 ct1006), sl1006⟩) (c1006 : PySem.W.codeIn K cd1006 "_law_message" = true) (k1006 : PySem.W.keepIn K (.ref f1006) = true)
    {f1007 : Addr} {od1007 an1007 : Option Addr} {sl1007 : Array (Option Value)} {oc1007 kV1007 dc1007 pm1007 cd1007 ct1007 : Value}
    (a1007 : PySem.W.nsIn K mainGlobals "_law_asked" = some (some (.ref f1007))) (l1007 : K.lookup f1007 = some ⟨oc1007, od1007, .func (PySem.W.fnOf "_law_asked" "_law_asked" (defArgs s_1007) (defBody s_1007) (defScope s_1007) .none kV1007 dc1007 pm1007 an1007 cd1007 ct1007), sl1007⟩) (c1007 : PySem.W.codeIn K cd1007 "_law_asked" = true) (k1007 : PySem.W.keepIn K (.ref f1007) = true)
    {f1008 : Addr} {od1008 an1008 : Option Addr} {sl1008 : Array (Option Value)} {oc1008 kV1008 dc1008 pm1008 cd1008 ct1008 : Value}
    (a1008 : PySem.W.nsIn K mainGlobals "_law_due" = some (some (.ref f1008))) (l1008 : K.lookup f1008 = some ⟨oc1008, od1008, .func (PySem.W.fnOf "_law_due" "_law_due" (defArgs s_1008) (defBody s_1008) (defScope s_1008) .none kV1008 dc1008 pm1008 an1008 cd1008 ct1008), sl1008⟩) (c1008 : PySem.W.codeIn K cd1008 "_law_due" = true) (k1008 : PySem.W.keepIn K (.ref f1008) = true)
    {f1009 : Addr} {od1009 an1009 : Option Addr} {sl1009 : Array (Option Value)} {oc1009 kV1009 dc1009 pm1009 cd1009 ct1009 : Value}
    (a1009 : PySem.W.nsIn K mainGlobals "_law_told" = some (some (.ref f1009))) (l1009 : K.lookup f1009 = some ⟨oc1009, od1009, .func (PySem.W.fnOf "_law_told" "_law_told" (defArgs s_1009) (defBody s_1009) (defScope s_1009) .none kV1009 dc1009 pm1009 an1009 cd1009 ct1009), sl1009⟩) (c1009 : PySem.W.codeIn K cd1009 "_law_told" = true) (k1009 : PySem.W.keepIn K (.ref f1009) = true)
    {f1010 : Addr} {od1010 an1010 : Option Addr} {sl1010 : Array (Option Value)} {oc1010 kV1010 dc1010 pm1010 cd1010 ct1010 : Value}
    (a1010 : PySem.W.nsIn K mainGlobals "law" = some (some (.ref f1010))) (l1010 : K.lookup f1010 = some ⟨oc1010, od1010, .func (PySem.W.fnOf "law" "law" (defArgs s_1010) (defBody s_1010) (defScope s_1010) .none kV1010 dc1010 pm1010 an1010 cd1010 ct1010), sl1010⟩) (c1010 : PySem.W.codeIn K cd1010 "law" = true) (k1010 : PySem.W.keepIn K (.ref f1010) = true)
    {CMessagewaysError : Addr} (a_MessagewaysError : PySem.W.nsIn K mainGlobals "MessagewaysError" = some (some (.ref CMessagewaysError)))
    {CBadMessage : Addr} (a_BadMessage : PySem.W.nsIn K mainGlobals "BadMessage" = some (some (.ref CBadMessage)))
    {nmBadMessage qBadMessage : Str} {NBadMessage : Addr} {bsBadMessage bmBadMessage : List Value} {snBadMessage : List Str} {subBadMessage : List Value} {abBadMessage : Bool} {colBadMessage : Option Bool} {ddBadMessage : Option Addr} {k0BadMessage k1BadMessage k2BadMessage k3BadMessage k5BadMessage : Option Value}
    (cl_BadMessage : K.lookup CBadMessage = some (excClassObj nmBadMessage qBadMessage CBadMessage NBadMessage bsBadMessage bmBadMessage true snBadMessage subBadMessage abBadMessage colBadMessage ddBadMessage k0BadMessage k1BadMessage k2BadMessage k3BadMessage k5BadMessage "ValueError.__new__")) (rv_BadMessage : PySem.HandSPX.refsVE bmBadMessage = true)
    {fIBadMessage ccBadMessage cdaBadMessage : Addr} {ocBadMessage kVBadMessage docBadMessage pmBadMessage ctBadMessage : Value} {odBadMessage anBadMessage : Option Addr} {oslBadMessage : Array (Option Value)}
    (iC_BadMessage : PySem.W.findIn K (.ref CBadMessage) "__init__" = some (some (.ref fIBadMessage))) (fn_BadMessage : K.lookup fIBadMessage = some ⟨ocBadMessage, odBadMessage, .func (PySem.W.ksFn "__init__" "BadMessage.__init__" (defArgs (clsSt (topS 2) 0)) (defBody (clsSt (topS 2) 0)) (defScope (clsSt (topS 2) 0)) .none kVBadMessage docBadMessage pmBadMessage anBadMessage (.ref cdaBadMessage) ctBadMessage ccBadMessage), oslBadMessage⟩) (cod_BadMessage : PySem.W.codeIn K (.ref cdaBadMessage) "BadMessage.__init__" = true)
    (bd_BadMessage : ∀ (s : Shared) (u v : Value), BindsTo s (PySem.W.ksFn "__init__" "BadMessage.__init__" (defArgs (clsSt (topS 2) 0)) (defBody (clsSt (topS 2) 0)) (defScope (clsSt (topS 2) 0)) .none kVBadMessage docBadMessage pmBadMessage anBadMessage (.ref cdaBadMessage) ctBadMessage ccBadMessage) ⟨[u, v], []⟩ [("self", u), ("name", v)])
    {cc1BadMessage : Value} {cc2BadMessage : Option Addr} {cc3BadMessage : Array (Option Value)} (cell_BadMessage : K.lookup ccBadMessage = some ⟨cc1BadMessage, cc2BadMessage, .cell (some (.ref CBadMessage)), cc3BadMessage⟩)
    {cd1BadMessage : Value} {cd2BadMessage : Option Addr} {cd3BadMessage : Array Value} {cd4BadMessage : Array (Option Value)} {cd5BadMessage : Str} {cd6BadMessage : Tok} (code_BadMessage : K.lookup cdaBadMessage = some ⟨cd1BadMessage, cd2BadMessage, .fields cd3BadMessage, cd4BadMessage⟩) (v2_BadMessage : cd3BadMessage[2]? = some (.str cd5BadMessage cd6BadMessage)) (file_BadMessage : ((l.prog.main.file : Str) == cd5BadMessage) = true)
    (tx_BadMessage : ErrSt (clsSt (topS 2) 0) "name" "name") (sa_BadMessage : PySem.W.findIn K (.ref CBadMessage) "__setattr__" = some (some (.builtin "object.__setattr__"))) (no_BadMessage : PySem.W.findIn K (.ref CBadMessage) "name" = some none) (tC_BadMessage : PySem.W.typeIn K (.ref fIBadMessage) = some (.type "function"))
    (kC_BadMessage : PySem.W.keepIn K (.ref CBadMessage) = true) (ex_BadMessage : PySem.W.subIn K (.ref CBadMessage) (.type "BaseException") = some true) (ve_BadMessage : PySem.W.subIn K (.ref CBadMessage) (.type "ValueError") = some true) (ty_BadMessage : PySem.W.typeIn K (.ref CBadMessage) = some (.type "type"))
    (su_BadMessage : PySem.W.ks_superIn K CBadMessage CBadMessage "__init__" = some (some (.builtin "ValueError.__init__"))) (mc_BadMessage : PySem.W.mroIn K CBadMessage (.ref CBadMessage) = some true) (ic_BadMessage : PySem.W.isClsIn K CBadMessage = true)
    (hg_BadMessage : PySem.W.findIn K (.ref CBadMessage) "__getattribute__" = some (some (.builtin "BaseException.__getattribute__"))) (hk_BadMessage : PySem.W.findIn K (.ref CBadMessage) "__getattr__" = some none) (hd_BadMessage : PySem.W.hasDictIn K CBadMessage = true) (ha_BadMessage : PySem.W.findIn K (.ref CBadMessage) "__class__" = some (some (.builtin "object.__class__"))) (hm_BadMessage : PySem.W.mroIn K CBadMessage (.type "object") = some true)
    (thp : PySem.W.nsIn K cStatics "thirdparty.any" = some none) (tops : (l.prog.main.scope.names.lookup ("super" : Str)).isSome = false) (hn : PySem.W.specialIn K (.builtin "object.__class__") "__get__" = some (some (.builtin "getset_descriptor.__get__"))) (ht : PySem.W.takesIn K (.builtin "object.__class__") = some true)
    (xb_BadMessage : PySem.W.subIn K (.ref CBadMessage) (.type "BaseException") = some true) (xt_BadMessage : PySem.W.typeIn K (.ref CBadMessage) = some (.type "type")) (xd_BadMessage : PySem.W.hasDictIn K CBadMessage = true)
    (xs_BadMessage_BadMessage : PySem.W.subIn K (.ref CBadMessage) (.ref CBadMessage) = some true) (xk_BadMessage_BadMessage : PySem.W.kitOne K (.ref CBadMessage) (.ref CBadMessage) = some true)
    (xb_MessagewaysError : PySem.W.subIn K (.ref CMessagewaysError) (.type "BaseException") = some true) (xt_MessagewaysError : PySem.W.typeIn K (.ref CMessagewaysError) = some (.type "type")) (xd_MessagewaysError : PySem.W.hasDictIn K CMessagewaysError = true)
    (xs_MessagewaysError_BadMessage : PySem.W.subIn K (.ref CBadMessage) (.ref CMessagewaysError) = some true) (xk_MessagewaysError_BadMessage : PySem.W.kitOne K (.ref CBadMessage) (.ref CMessagewaysError) = some true)
    (z_int : PySem.W.nsIn K mainGlobals "int" = some none)
    (z_isinstance : PySem.W.nsIn K mainGlobals "isinstance" = some none)
    (z_len : PySem.W.nsIn K mainGlobals "len" = some none)
    (z_list : PySem.W.nsIn K mainGlobals "list" = some none)
    (z_range : PySem.W.nsIn K mainGlobals "range" = some none)
    (z_sorted : PySem.W.nsIn K mainGlobals "sorted" = some none)
    (z_super : PySem.W.nsIn K mainGlobals "super" = some none)
    {t_TEXT : Tok} (q_TEXT : PySem.W.nsIn K mainGlobals "TEXT" = some (some (.str "text" t_TEXT)))
    {t_SHOW : Tok} (q_SHOW : PySem.W.nsIn K mainGlobals "SHOW" = some (some (.str "show" t_SHOW)))
    {t_NUMBER : Tok} (q_NUMBER : PySem.W.nsIn K mainGlobals "NUMBER" = some (some (.str "number" t_NUMBER)))
    {t_SELECT : Tok} (q_SELECT : PySem.W.nsIn K mainGlobals "SELECT" = some (some (.str "select" t_SELECT)))
    {t_PLURAL : Tok} (q_PLURAL : PySem.W.nsIn K mainGlobals "PLURAL" = some (some (.str "plural" t_PLURAL)))
    {t_ANY : Tok} (q_ANY : PySem.W.nsIn K mainGlobals "ANY" = some (some (.str "any" t_ANY)))
    {a_CHOICES : Addr} {t0_CHOICES t1_CHOICES : Tok} {dd_CHOICES : Option Addr} {n_CHOICES : Nat} {sl_CHOICES : Array (Option Value)} (q_CHOICES : PySem.W.nsIn K mainGlobals "CHOICES" = some (some (.ref a_CHOICES))) (r_CHOICES : K.lookup a_CHOICES = some ⟨.type "tuple", dd_CHOICES, .seq #[.str "select" t0_CHOICES, .str "plural" t1_CHOICES] n_CHOICES, sl_CHOICES⟩)
    (hlaw : ∀ ns : List Int, ns.length ≤ 63 → ∃ S, run 40 1010 [.scr ns] [] = .ok (.bl true) S) :
    ∃ fd : FuncData, (∀ (s : Shared) (v : Value), BindsTo s fd ⟨[v], []⟩ [("_law_script", v)]) ∧ ∀ base : Heap, K.In base → base.Ns mainGlobals mg → FnG l.prog w K mg base 40 fa fd ["_law_script"] (DL.spLaw K) := by
  have e := hfa.symm.trans (PySem.W.mg_of X G a1010)
  cases e
  let A : Nat → Addr := fun i => match i with
    | 1 => f1
    | 2 => f2
    | 3 => f3
    | 6 => f6
    | 7 => f7
    | 8 => f8
    | 1000 => f1000
    | 1001 => f1001
    | 1002 => f1002
    | 1003 => f1003
    | 1004 => f1004
    | 1005 => f1005
    | 1006 => f1006
    | 1007 => f1007
    | 1008 => f1008
    | 1009 => f1009
    | 1010 => fa
    | 2004 => fIBadMessage
    | 3004 => ccBadMessage
    | 4004 => cdaBadMessage
    | _ => 0
  let CL : Nat → Addr := fun i => match i with
    | 3 => CMessagewaysError
    | 7 => CBadMessage
    | _ => 0
  let FD : Nat → FuncData := fun i => match i with
    | 1 => (PySem.W.fnOf "cases_of" "cases_of" (defArgs s_1) (defBody s_1) (defScope s_1) .none kV1 dc1 pm1 an1 cd1 ct1)
    | 2 => (PySem.W.fnOf "other_of" "other_of" (defArgs s_2) (defBody s_2) (defScope s_2) .none kV2 dc2 pm2 an2 cd2 ct2)
    | 3 => (PySem.W.fnOf "inner_messages" "inner_messages" (defArgs s_3) (defBody s_3) (defScope s_3) .none kV3 dc3 pm3 an3 cd3 ct3)
    | 6 => (PySem.W.fnOf "node_kind" "node_kind" (defArgs s_6) (defBody s_6) (defScope s_6) .none kV6 dc6 pm6 an6 cd6 ct6)
    | 7 => (PySem.W.fnOf "asked_kinds" "asked_kinds" (defArgs s_7) (defBody s_7) (defScope s_7) .none kV7 dc7 pm7 an7 cd7 ct7)
    | 8 => (PySem.W.fnOf "kinds_of" "kinds_of" (defArgs s_8) (defBody s_8) (defScope s_8) .none kV8 dc8 pm8 an8 cd8 ct8)
    | 1000 => (PySem.W.fnOf "_law_cell" "_law_cell" (defArgs s_1000) (defBody s_1000) (defScope s_1000) .none kV1000 dc1000 pm1000 an1000 cd1000 ct1000)
    | 1001 => (PySem.W.fnOf "_law_digits" "_law_digits" (defArgs s_1001) (defBody s_1001) (defScope s_1001) .none kV1001 dc1001 pm1001 an1001 cd1001 ct1001)
    | 1002 => (PySem.W.fnOf "_law_draw" "_law_draw" (defArgs s_1002) (defBody s_1002) (defScope s_1002) .none kV1002 dc1002 pm1002 an1002 cd1002 ct1002)
    | 1003 => (PySem.W.fnOf "_law_string" "_law_string" (defArgs s_1003) (defBody s_1003) (defScope s_1003) .none kV1003 dc1003 pm1003 an1003 cd1003 ct1003)
    | 1004 => (PySem.W.fnOf "_law_select" "_law_select" (defArgs s_1004) (defBody s_1004) (defScope s_1004) .none kV1004 dc1004 pm1004 an1004 cd1004 ct1004)
    | 1005 => (PySem.W.fnOf "_law_plural" "_law_plural" (defArgs s_1005) (defBody s_1005) (defScope s_1005) .none kV1005 dc1005 pm1005 an1005 cd1005 ct1005)
    | 1006 => (PySem.W.fnOf "_law_message" "_law_message" (defArgs s_1006) (defBody s_1006) (defScope s_1006) .none kV1006 dc1006 pm1006 an1006 cd1006 ct1006)
    | 1007 => (PySem.W.fnOf "_law_asked" "_law_asked" (defArgs s_1007) (defBody s_1007) (defScope s_1007) .none kV1007 dc1007 pm1007 an1007 cd1007 ct1007)
    | 1008 => (PySem.W.fnOf "_law_due" "_law_due" (defArgs s_1008) (defBody s_1008) (defScope s_1008) .none kV1008 dc1008 pm1008 an1008 cd1008 ct1008)
    | 1009 => (PySem.W.fnOf "_law_told" "_law_told" (defArgs s_1009) (defBody s_1009) (defScope s_1009) .none kV1009 dc1009 pm1009 an1009 cd1009 ct1009)
    | 1010 => (PySem.W.fnOf "law" "law" (defArgs s_1010) (defBody s_1010) (defScope s_1010) .none kV1010 dc1010 pm1010 an1010 cd1010 ct1010)
    | _ => (PySem.W.fnOf "law" "law" (defArgs s_1010) (defBody s_1010) (defScope s_1010) .none kV1010 dc1010 pm1010 an1010 cd1010 ct1010)
  have T : Top l.prog K mg CL A FD := {
    m_MessagewaysError := PySem.W.mg_of X G a_MessagewaysError
    m_BadMessage := PySem.W.mg_of X G a_BadMessage
    e_BadMessage := errBody tx_BadMessage cl_BadMessage rv_BadMessage sa_BadMessage no_BadMessage iC_BadMessage tC_BadMessage kC_BadMessage ex_BadMessage ve_BadMessage ty_BadMessage su_BadMessage mc_BadMessage ic_BadMessage cell_BadMessage code_BadMessage v2_BadMessage file_BadMessage thp tops fn_BadMessage cod_BadMessage bd_BadMessage
    x_BadMessage := ⟨hg_BadMessage, hk_BadMessage, ex_BadMessage, hd_BadMessage, ha_BadMessage, hn, ht, hm_BadMessage⟩
    n_BadMessage := no_BadMessage
    t_BadMessage_BadMessage := PySem.W.exm_ref xb_BadMessage xd_BadMessage xt_BadMessage xs_BadMessage_BadMessage
    k_BadMessage_BadMessage := xk_BadMessage_BadMessage
    t_MessagewaysError_BadMessage := PySem.W.exm_ref xb_MessagewaysError xd_MessagewaysError xt_MessagewaysError xs_MessagewaysError_BadMessage
    k_MessagewaysError_BadMessage := xk_MessagewaysError_BadMessage
    b_int := PySem.W.mg_none_of X G z_int
    b_isinstance := PySem.W.mg_none_of X G z_isinstance
    b_len := PySem.W.mg_none_of X G z_len
    b_list := PySem.W.mg_none_of X G z_list
    b_range := PySem.W.mg_none_of X G z_range
    b_sorted := PySem.W.mg_none_of X G z_sorted
    b_super := PySem.W.mg_none_of X G z_super
    c_TEXT := ⟨_, PySem.W.mg_of X G q_TEXT⟩
    c_SHOW := ⟨_, PySem.W.mg_of X G q_SHOW⟩
    c_NUMBER := ⟨_, PySem.W.mg_of X G q_NUMBER⟩
    c_SELECT := ⟨_, PySem.W.mg_of X G q_SELECT⟩
    c_PLURAL := ⟨_, PySem.W.mg_of X G q_PLURAL⟩
    c_ANY := ⟨_, PySem.W.mg_of X G q_ANY⟩
    c_CHOICES := ⟨_, [.str "select" t0_CHOICES, .str "plural" t1_CHOICES], _, _, _, PySem.W.mg_of X G q_CHOICES, r_CHOICES, by repeat constructor, (by decide : 2 ≤ sizeLine)⟩
    f_1 := fun_mk (st := s_1) l1 c1 k1
    g_1 := PySem.W.mg_of X G a1
    n_1 := (fun_mk (st := s_1) l1 c1 k1).binds fun _ _ _ _ _ _ us hl => match us, hl with | [_], _ => rfl
    f_2 := fun_mk (st := s_2) l2 c2 k2
    g_2 := PySem.W.mg_of X G a2
    n_2 := (fun_mk (st := s_2) l2 c2 k2).binds fun _ _ _ _ _ _ us hl => match us, hl with | [_], _ => rfl
    f_3 := fun_mk (st := s_3) l3 c3 k3
    g_3 := PySem.W.mg_of X G a3
    n_3 := (fun_mk (st := s_3) l3 c3 k3).binds fun _ _ _ _ _ _ us hl => match us, hl with | [_], _ => rfl
    f_6 := fun_mk (st := s_6) l6 c6 k6
    g_6 := PySem.W.mg_of X G a6
    n_6 := (fun_mk (st := s_6) l6 c6 k6).binds fun _ _ _ _ _ _ us hl => match us, hl with | [_], _ => rfl
    f_7 := fun_mk (st := s_7) l7 c7 k7
    g_7 := PySem.W.mg_of X G a7
    n_7 := (fun_mk (st := s_7) l7 c7 k7).binds fun _ _ _ _ _ _ us hl => match us, hl with | [_], _ => rfl
    f_8 := fun_mk (st := s_8) l8 c8 k8
    g_8 := PySem.W.mg_of X G a8
    n_8 := (fun_mk (st := s_8) l8 c8 k8).binds fun _ _ _ _ _ _ us hl => match us, hl with | [_], _ => rfl
    f_1000 := fun_mk (st := s_1000) l1000 c1000 k1000
    g_1000 := PySem.W.mg_of X G a1000
    n_1000 := (fun_mk (st := s_1000) l1000 c1000 k1000).binds fun _ _ _ _ _ _ us hl => match us, hl with | [_, _], _ => rfl
    f_1001 := fun_mk (st := s_1001) l1001 c1001 k1001
    g_1001 := PySem.W.mg_of X G a1001
    n_1001 := (fun_mk (st := s_1001) l1001 c1001 k1001).binds fun _ _ _ _ _ _ us hl => match us, hl with | [_, _, _], _ => rfl
    f_1002 := fun_mk (st := s_1002) l1002 c1002 k1002
    g_1002 := PySem.W.mg_of X G a1002
    n_1002 := (fun_mk (st := s_1002) l1002 c1002 k1002).binds fun _ _ _ _ _ _ us hl => match us, hl with | [_, _], _ => rfl
    f_1003 := fun_mk (st := s_1003) l1003 c1003 k1003
    g_1003 := PySem.W.mg_of X G a1003
    n_1003 := (fun_mk (st := s_1003) l1003 c1003 k1003).binds fun _ _ _ _ _ _ us hl => match us, hl with | [_], _ => rfl
    f_1004 := fun_mk (st := s_1004) l1004 c1004 k1004
    g_1004 := PySem.W.mg_of X G a1004
    n_1004 := (fun_mk (st := s_1004) l1004 c1004 k1004).binds fun _ _ _ _ _ _ us hl => match us, hl with | [_, _, _], _ => rfl
    f_1005 := fun_mk (st := s_1005) l1005 c1005 k1005
    g_1005 := PySem.W.mg_of X G a1005
    n_1005 := (fun_mk (st := s_1005) l1005 c1005 k1005).binds fun _ _ _ _ _ _ us hl => match us, hl with | [_, _], _ => rfl
    f_1006 := fun_mk (st := s_1006) l1006 c1006 k1006
    g_1006 := PySem.W.mg_of X G a1006
    n_1006 := (fun_mk (st := s_1006) l1006 c1006 k1006).binds fun _ _ _ _ _ _ us hl => match us, hl with | [_, _, _], _ => rfl
    f_1007 := fun_mk (st := s_1007) l1007 c1007 k1007
    g_1007 := PySem.W.mg_of X G a1007
    n_1007 := (fun_mk (st := s_1007) l1007 c1007 k1007).binds fun _ _ _ _ _ _ us hl => match us, hl with | [_], _ => rfl
    f_1008 := fun_mk (st := s_1008) l1008 c1008 k1008
    g_1008 := PySem.W.mg_of X G a1008
    n_1008 := (fun_mk (st := s_1008) l1008 c1008 k1008).binds fun _ _ _ _ _ _ us hl => match us, hl with | [_], _ => rfl
    f_1009 := fun_mk (st := s_1009) l1009 c1009 k1009
    g_1009 := PySem.W.mg_of X G a1009
    n_1009 := (fun_mk (st := s_1009) l1009 c1009 k1009).binds fun _ _ _ _ _ _ us hl => match us, hl with | [_], _ => rfl
    f_1010 := fun_mk (st := s_1010) l1010 c1010 k1010
    g_1010 := PySem.W.mg_of X G a1010
    n_1010 := (fun_mk (st := s_1010) l1010 c1010 k1010).binds fun _ _ _ _ _ _ us hl => match us, hl with | [_], _ => rfl }
  refine ⟨(PySem.W.fnOf "law" "law" (defArgs s_1010) (defBody s_1010) (defScope s_1010) .none kV1010 dc1010 pm1010 an1010 cd1010 ct1010), fun s v => .of_eq rfl, fun base _ _ => ?_⟩
  exact lawG_imp (cls := CL) ((all (P := l.prog) (w := w) (base := base) (cls := CL) T 40).k_1010) hlaw
end
section
open PySem L2 DL
/-! ### the law's draws -/
theorem run_cell (n : Nat) (ns : List Int) (k : Nat) (S : List D) : run (n + 1) 1000 [.scr ns, .int k] S = .ok (.int (ns.getD k 0)) S := by
  rw [run_1000]
  by_cases h : k < ns.length
  · have h2 : atI ns (k : Int) = some (ns[k]) := by rw [atI_get?, List.getElem?_eq_getElem h]
    simp [B_1000, h, h2]
  · simp [B_1000, h]
theorem digits_loop1 (n : Nat) (a0 a1 a2 : Sl) (kk : Sl) (b : Sl) : ∀ (xs : List D) (ds : List D) (c : Int), ds.length + xs.length ≤ 1000000 → (∀ d ∈ ds, ∃ i : Int, d = .int i) → 0 ≤ c →
    ∃ es c', forD (.nm 6) [6] (L_1001_1 (run n)) xs [a0, a1, a2, .own (.lst ds), kk, .val (.int c), .non, b] [] = .next [a0, a1, a2, .own (.lst es), kk, .val (.int c'), .non, b] [] ∧ es.length ≤ ds.length + xs.length ∧ (∀ d ∈ es, ∃ i : Int, d = .int i)
  | [], ds, c, h, hd, hc => ⟨ds, c, rfl, Nat.le_refl _, hd⟩
  | x :: xs, ds, c, h, hd, hc => by
    rw [List.length_cons] at h
    have hsz : ds.length < sizeLine := by rw [sizeLine_eq]; omega
    rw [forD]
    by_cases hp : 0 < c
    · obtain ⟨es, c', h1, h2, h3⟩ := digits_loop1 n a0 a1 a2 kk b xs (ds ++ [.int (c % 1000)]) (c / 1000) (by rw [List.length_append, List.length_singleton]; omega) (fun d hm => by
        rcases List.mem_append.mp hm with z | z
        · exact hd d z
        · rw [List.mem_singleton] at z; exact ⟨_, z⟩) (Int.ediv_nonneg hc (by decide))
      refine ⟨es, c', ?_, ?_, h3⟩
      · simp [e_L_1001_1, hp, hsz]
        exact h1
      · rw [List.length_append, List.length_singleton] at h2
        rw [List.length_cons]; omega
    · obtain ⟨es, c', h1, h2, h3⟩ := digits_loop1 n a0 a1 a2 kk b xs ds c (by omega) hd hc
      refine ⟨es, c', ?_, by rw [List.length_cons]; omega, h3⟩
      simp [e_L_1001_1, hp]
      exact h1
theorem digits_loop2 (n : Nat) (a0 a1 a2 : Sl) (kk : Sl) (b : Sl) : ∀ (m : Nat) (lo : Int) (ds : List D) (c : Int), ds.length + m ≤ 1000000 → (∀ d ∈ ds, ∃ i : Int, d = .int i) →
    ∃ es c', forD (.nm 6) [6] (L_1001_2 (run n)) ((List.range' 0 m).map fun (k : Nat) => D.int (lo + k)) [a0, a1, a2, .own (.lst ds), kk, b, .non, .val (.int c)] [] = .next [a0, a1, a2, .own (.lst es), kk, b, .non, .val (.int c')] [] ∧ es.length ≤ ds.length + m ∧ (∀ d ∈ es, ∃ i : Int, d = .int i)
  | 0, lo, ds, c, h, hd => ⟨ds, c, rfl, Nat.le_refl _, hd⟩
  | m + 1, lo, ds, c, h, hd => by
    have hsz : ds.length < sizeLine := by rw [sizeLine_eq]; omega
    obtain ⟨es, c', h1, h2, h3⟩ := digits_loop2 n a0 a1 a2 kk b m (lo + 1) (ds ++ [.int ((((c * 16807 + 7 * lo) + 1) % 2147483647) / 997 % 1000)]) (((c * 16807 + 7 * lo) + 1) % 2147483647) (by rw [List.length_append, List.length_singleton]; omega) (fun d hm => by
        rcases List.mem_append.mp hm with z | z
        · exact hd d z
        · rw [List.mem_singleton] at z; exact ⟨_, z⟩)
    have e : ((List.range' 0 (m + 1)).map fun (k : Nat) => D.int (lo + k)) = .int lo :: ((List.range' 0 m).map fun (k : Nat) => D.int (lo + 1 + k)) := by
      rw [List.range'_succ, List.map_cons]
      have z : List.range' (0 + 1) m = (List.range' 0 m).map (fun x => 1 + x) := by rw [List.map_add_range']
      rw [z, List.map_map]
      simp
      intro a _
      omega
    refine ⟨es, c', ?_, ?_, h3⟩
    · rw [e, forD]
      have k1 : dMul (.int c) (.int 16807) = some (.int (c * 16807)) := dMul_int (by decide)
      have k2 : dMul (.int 7) (.int lo) = some (.int (7 * lo)) := dMul_intl (by decide)
      simp [e_L_1001_2, hsz, k1, k2]
      exact h1
    · rw [List.length_append, List.length_singleton] at h2; omega
theorem rangeD_range' (lo : Int) (n : Nat) : rangeD lo n = (List.range' 0 n).map fun (k : Nat) => D.int (lo + k) := by
  unfold rangeD; rw [List.range_eq_range']
theorem digits_loop3 (n : Nat) (ns : List Int) (m : Nat) : ∀ (k0 : Nat) (ds : List D), ds.length + 60 * m ≤ 1000000 → k0 + m ≤ 63 → (∀ d ∈ ds, ∃ i : Int, d = .int i) →
    ∃ es, forD (.nm 4) [4, 5, 6, 7] (L_1001_3 (run (n + 1))) ((List.range' k0 m).map fun (k : Nat) => D.int k) [.val (.scr ns), .val (.int 0), .val (.int 63), .own (.lst ds), .non, .non, .non, .non] [] = .next [.val (.scr ns), .val (.int 0), .val (.int 63), .own (.lst es), .non, .non, .non, .non] [] ∧ es.length ≤ ds.length + 60 * m ∧ (∀ d ∈ es, ∃ i : Int, d = .int i) := by
  induction m with
  | zero => exact fun k0 ds h hk hd => ⟨ds, rfl, Nat.le_refl _, hd⟩
  | succ m ih =>
    intro k0 ds h hk hd
    rw [List.range'_succ, List.map_cons, forD]
    have hcell : run (n + 1) 1000 [.scr ns, .int (k0 : Int)] [] = .ok (.int (ns.getD k0 0)) [] := run_cell n ns k0 []
    generalize hc : ns.getD k0 0 = c0 at hcell
    -- the cell without its sign
    obtain ⟨c, hcv, hpos⟩ : ∃ c : Int, (if c0 < 0 then 1 - 2 * c0 else c0) = c ∧ 0 ≤ c := ⟨_, rfl, by split <;> omega⟩
    have k1 : dMul (.int 2) (.int c0) = some (.int (2 * c0)) := dMul_intl (by decide)
    have hr : ∀ (x : List D) (es : List D), (∀ d ∈ es, ∃ i : Int, d = .int i) → es.length ≤ ds.length + 60 → ∃ fs, forD (.nm 4) [4, 5, 6, 7] (L_1001_3 (run (n + 1))) ((List.range' (k0 + 1) m).map fun (k : Nat) => D.int k) [.val (.scr ns), .val (.int 0), .val (.int 63), .own (.lst es), .non, .non, .non, .non] [] = .next [.val (.scr ns), .val (.int 0), .val (.int 63), .own (.lst fs), .non, .non, .non, .non] [] ∧ fs.length ≤ ds.length + 60 * (m + 1) ∧ (∀ d ∈ fs, ∃ i : Int, d = .int i) := fun _ es h1 h2 => by
      obtain ⟨fs, e, l, q⟩ := ih (k0 + 1) es (by omega) (by omega) h1
      exact ⟨fs, e, by omega, q⟩
    by_cases hb' : P18 ≤ c
    · obtain ⟨es, c', h1, h2, h3⟩ := digits_loop1 (n + 1) (.val (.scr ns)) (.val (.int 0)) (.val (.int 63)) (.val (.int (k0 : Int))) .non (rangeD 0 60) ds c (by rw [rangeD_len]; omega) hd hpos
      rw [rangeD_len] at h2
      obtain ⟨fs, e, l, q⟩ := hr [] es h3 h2
      refine ⟨fs, ?_, l, q⟩
      have i60 : inR 60 = true := by decide
      by_cases hn : c0 < 0
      · rw [if_pos hn] at hcv
        subst hcv
        simp [e_L_1001_3, hcell, hn, k1, hb', i60, h1, e]
      · rw [if_neg hn] at hcv
        subst hcv
        simp [e_L_1001_3, hcell, hn, k1, hb', i60, h1, e]
    · obtain ⟨es, c', h1, h2, h3⟩ := digits_loop2 (n + 1) (.val (.scr ns)) (.val (.int 0)) (.val (.int 63)) (.val (.int (k0 : Int))) (.val (.int c)) 12 0 ds ((c * 48271 + (k0 : Int) * 69621 + 11) % 2147483647) (by omega) hd
      rw [← rangeD_range'] at h1
      obtain ⟨fs, e, l, q⟩ := hr [] es h3 (by omega)
      refine ⟨fs, ?_, l, q⟩
      have i12 : inR 12 = true := by decide
      have k2 : dMul (.int c) (.int 48271) = some (.int (c * 48271)) := dMul_int (by decide)
      have k3 : dMul (.int (k0 : Int)) (.int 69621) = some (.int ((k0 : Int) * 69621)) := dMul_int (by decide)
      by_cases hn : c0 < 0
      · rw [if_pos hn] at hcv
        subst hcv
        simp [e_L_1001_3, hcell, hn, k1, hb', i12, k2, k3, h1, e]
      · rw [if_neg hn] at hcv
        subst hcv
        simp [e_L_1001_3, hcell, hn, k1, hb', i12, k2, k3, h1, e]
/-- the digits: some ints -/
theorem run_digits (n : Nat) (ns : List Int) : ∃ ds : List Int, run (n + 2) 1001 [.scr ns, .int 0, .int 63] [] = .ok (.lst (ds.map .int)) [] ∧ ds.length ≤ 3780 := by
  obtain ⟨es, h1, h2, h3⟩ := digits_loop3 n ns 63 0 [] (by decide) (by decide) (fun d h => by cases h)
  have e : ∀ es : List D, (∀ d ∈ es, ∃ i : Int, d = .int i) → ∃ ds : List Int, es = ds.map .int := by
    intro es
    induction es with
    | nil => exact fun _ => ⟨[], rfl⟩
    | cons x xs ih =>
      intro h
      obtain ⟨i, rfl⟩ := h x List.mem_cons_self
      obtain ⟨ds, rfl⟩ := ih fun d hd => h d (List.mem_cons_of_mem _ hd)
      exact ⟨i :: ds, rfl⟩
  obtain ⟨ds, rfl⟩ := e es h3
  refine ⟨ds, ?_, by simpa using h2⟩
  rw [run_1001]
  have i0 : inR 0 = true := by decide
  have i63 : inR 63 = true := by decide
  have hr : rangeD 0 63 = (List.range' 0 63).map fun (k : Nat) => D.int k := by unfold rangeD; rw [List.range_eq_range']; simp
  simp [B_1001, i0, i63, hr] at h1 ⊢
  simp [h1]
/-! ### the box -/
def box (ds : List Int) (k : Nat) : D := .lst [.lst (ds.map .int), .int k]
def Bx (S : List D) : Prop := ∃ ds k, S = [box ds k]
theorem run_draw (n : Nat) (m : Int) (hm : 0 < m) (S : List D) (hS : Bx S) : ∃ (r : Int) (S' : List D), run (n + 1) 1002 [.ptr 0, .int m] S = .ok (.int r) S' ∧ Bx S' ∧ 0 ≤ r ∧ r < m := by
  obtain ⟨ds, k, rfl⟩ := hS
  rw [run_1002]
  have a1 : ∀ (x y : D), atI [x, y] 1 = some y := fun x y => rfl
  have a0 : ∀ (x y : D), atI [x, y] 0 = some x := fun x y => rfl
  have x2 : ixN 2 1 = some 1 := rfl
  have hk : (k : Int) + 1 = ((k + 1 : Nat) : Int) := by omega
  by_cases h : k < ds.length
  · have g : atI (ds.map D.int) (k : Int) = some (.int ds[k]) := by rw [atI_get?, List.getElem?_map, List.getElem?_eq_getElem h]; rfl
    refine ⟨ds[k] % m, [box ds (k + 1)], ?_, ⟨ds, k + 1, rfl⟩, Int.emod_nonneg _ (by omega), Int.emod_lt_of_pos _ hm⟩
    simp [B_1002, box, a1, a0, x2, h, g, hm]
  · refine ⟨0, [box ds (k + 1)], ?_, ⟨ds, k + 1, rfl⟩, Int.le_refl _, hm⟩
    simp [B_1002, box, a1, a0, x2, h]
theorem Bx.mk (ds : List Int) : Bx [.lst [.lst (ds.map .int), .int 0]] := ⟨ds, 0, rfl⟩

end
section
open PySem L2 DL
/-! ### messages: what the small defs answer -/
def tag : Nd → Str
  | .text _ => "text"
  | .shw _ => "show"
  | .num => "number"
  | .sel _ _ _ => "select"
  | .plu _ _ _ _ => "plural"
theorem at1_0 (a : D) : atI [a] 0 = some a := rfl
theorem at2_0 (a b : D) : atI [a, b] 0 = some a := rfl
theorem at2_1 (a b : D) : atI [a, b] 1 = some b := rfl
theorem at4_0 (a b c d : D) : atI [a, b, c, d] 0 = some a := rfl
theorem at5_0 (a b c d e : D) : atI [a, b, c, d, e] 0 = some a := rfl
theorem at4_m1 (a b c d : D) : atI [a, b, c, d] (-1) = some d := rfl
theorem at5_m1 (a b c d e : D) : atI [a, b, c, d, e] (-1) = some e := rfl
theorem at4_m2 (a b c d : D) : atI [a, b, c, d] (-2) = some c := rfl
theorem at5_m2 (a b c d e : D) : atI [a, b, c, d, e] (-2) = some d := rfl
@[simp] theorem tag0 (n : Nd) : dIdx (eN n) (.int 0) = some (.str (tag n)) := by cases n <;> rw [eN] <;> rfl
@[simp] theorem text1 (x : Str) : dIdx (eN (.text x)) (.int 1) = some (.str x) := by rw [eN]; rfl
@[simp] theorem ref_eN (n : Nd) (S : List D) : deref S (eN n) = eN n := by cases n <;> rw [eN] <;> rfl
theorem s_tt : (("text" : Str) == "text") = true := by decide +kernel
theorem s_st : (("show" : Str) == "text") = false := by decide +kernel
theorem s_nt : (("number" : Str) == "text") = false := by decide +kernel
theorem s_lt : (("select" : Str) == "text") = false := by decide +kernel
theorem s_pt : (("plural" : Str) == "text") = false := by decide +kernel
theorem tag_text (n : Nd) : (tag n == ("text" : Str)) = isT n := by cases n <;> first | exact s_tt | exact s_st | exact s_nt | exact s_lt | exact s_pt
def isC : Nd → Bool
  | .sel _ _ _ => true
  | .plu _ _ _ _ => true
  | _ => false
theorem in_t : inF (.str "text") [.str "select", .str "plural"] = false := by decide +kernel
theorem in_s : inF (.str "show") [.str "select", .str "plural"] = false := by decide +kernel
theorem in_n : inF (.str "number") [.str "select", .str "plural"] = false := by decide +kernel
theorem in_l : inF (.str "select") [.str "select", .str "plural"] = true := by decide +kernel
theorem in_p : inF (.str "plural") [.str "select", .str "plural"] = true := by decide +kernel
theorem tag_dIn (n : Nd) : dIn (.str (tag n)) (.tup [.str "select", .str "plural"]) = some (isC n) := by
  have h : inF (.str (tag n)) [.str "select", .str "plural"] = isC n := by cases n <;> first | exact in_t | exact in_s | exact in_n | exact in_l | exact in_p
  rw [← h]
  show (if flatD (.str (tag n)) = true ∧ [D.str "select", .str "plural"].all flatD = true then some (inF (.str (tag n)) [.str "select", .str "plural"]) else none) = _
  exact if_pos ⟨rfl, rfl⟩
theorem tag_in (n : Nd) : cIn (.str (tag n)) (.tup [.str "select", .str "plural"]) = some (.bl (isC n)) := by
  unfold cIn; rw [tag_dIn]; rfl
theorem tag_notIn (n : Nd) : cNotIn (.str (tag n)) (.tup [.str "select", .str "plural"]) = some (.bl (!isC n)) := by
  unfold cNotIn; rw [tag_dIn]; rfl
theorem empty_ok : PyData.canLay0 (.str "") = true := by decide +kernel
def isE : Nd → Bool
  | .text x => x == ""
  | _ => false
theorem ne_empty (n : Nd) (h : nOk n = true) (hh : nH n ≤ 10) : cNe (eN n) (.tup [.str "text", .str ""]) = some (.bl (!isE n)) := by
  have e : (.tup [.str "text", .str ""] : D) = eN (.text "") := by rw [eN]
  have d2 : nOk (.text "") = true := by rw [nOk]; exact empty_ok
  have k : dEq (eN n) (eN (.text "")) = some (isE n) := by
    haveI : Decidable (eN n = eN (.text "")) := Classical.propDecidable _
    have dn := nDep n
    have d0 := nDep (.text "")
    rw [dEq_B (nOk_B n h) (nOk_B _ d2) (by omega) (by rw [nH] at d0; omega)]
    congr 1
    rw [Bool.eq_iff_iff, decide_eq_true_iff]
    have q1 : ¬ ("show" : Str) = "text" := by decide +kernel
    cases n with
    | text x => simp [eN, isE]
    | shw x => simp [eN, isE, q1]
    | num => simp [eN, isE]
    | sel x cs o => simp [eN, isE]
    | plu x f cs o => simp [eN, isE]
  rw [e]; unfold cNe; rw [k]; rfl
theorem run_cases (n : Nat) (nd : Nd) (cs : List Cs) (o : List Nd) (S : List D) (h : (∃ x, nd = .sel x cs o) ∨ ∃ x f, nd = .plu x f cs o) : run (n + 1) 1 [eN nd] S = .ok (.lst (eCs cs)) S := by
  rw [run_1]
  rcases h with ⟨x, rfl⟩ | ⟨x, f, rfl⟩ <;> simp [B_1, eN, at4_m2, at5_m2]
theorem run_other (n : Nat) (nd : Nd) (cs : List Cs) (o : List Nd) (S : List D) (h : (∃ x, nd = .sel x cs o) ∨ ∃ x f, nd = .plu x f cs o) : run (n + 1) 2 [eN nd] S = .ok (.lst (eL o)) S := by
  rw [run_2]
  rcases h with ⟨x, rfl⟩ | ⟨x, f, rfl⟩ <;> simp [B_2, eN, at4_m1, at5_m1]
theorem W_le {a : Nat} (h : a ≤ 5000000) : a ≤ sizeLine := Nat.le_trans h (by decide)
theorem lW_one (n : Nd) : lW [n] = nW n := by rw [lW, lW]; rfl
theorem mem_lOk {m : List Nd} {n : Nd} (h : n ∈ m) (ho : lOk m = true) : nOk n = true := by
  induction m with
  | nil => cases h
  | cons x r ih =>
    rw [lOk, Bool.and_eq_true] at ho
    rcases List.mem_cons.mp h with rfl | h
    · exact ho.1
    · exact ih h ho.2
theorem mem_lH {m : List Nd} {n : Nd} (h : n ∈ m) : nH n ≤ lH m := by
  induction m with
  | nil => cases h
  | cons x r ih =>
    rw [lH]
    rcases List.mem_cons.mp h with rfl | h
    · omega
    · have := ih h; omega
theorem mem_lW {m : List Nd} {n : Nd} (h : n ∈ m) : nW n ≤ lW m := by
  induction m with
  | nil => cases h
  | cons x r ih =>
    rw [lW]
    rcases List.mem_cons.mp h with rfl | h
    · omega
    · have := ih h; omega
theorem mem_csOk {m : List Cs} {n : Cs} (h : n ∈ m) (ho : csOk m = true) : cOk n = true := by
  induction m with
  | nil => cases h
  | cons x r ih =>
    rw [csOk, Bool.and_eq_true] at ho
    rcases List.mem_cons.mp h with rfl | h
    · exact ho.1
    · exact ih h ho.2
theorem mem_csH {m : List Cs} {n : Cs} (h : n ∈ m) : cH n ≤ csH m := by
  induction m with
  | nil => cases h
  | cons x r ih =>
    rw [csH]
    rcases List.mem_cons.mp h with rfl | h
    · omega
    · have := ih h; omega
theorem mem_csW {m : List Cs} {n : Cs} (h : n ∈ m) : cW n ≤ csW m := by
  induction m with
  | nil => cases h
  | cons x r ih =>
    rw [csW]
    rcases List.mem_cons.mp h with rfl | h
    · omega
    · have := ih h; omega
def cKey : Cs → Ky | .mk k _ => k
def cMsg : Cs → List Nd | .mk _ m => m
theorem eC1_eq (c : Cs) : eC1 c = .tup [eK (cKey c), .lst (eL (cMsg c))] := by cases c; rw [eC1]; rfl
@[simp] theorem ref_eK (k : Ky) (S : List D) : deref S (eK k) = eK k := by cases k <;> rfl
theorem comp_cases {ε : De} {Γ : List Sl} {S : List D} {i j : Nat} (f : Cs → D) (cs : List Cs) (h : ∀ c ∈ cs, ε ((Γ.set i (.val (eK (cKey c)))).set j (.val (.lst (eL (cMsg c))))) S = .ok (f c) S) :
    compD (.tp [.nm i, .nm j]) tTrue ε (eCs cs) Γ S = .ok (cs.map f) S := by
  have key : ∀ (xs : List Cs), (∀ c ∈ xs, c ∈ cs) → compD (.tp [.nm i, .nm j]) tTrue ε (eCs xs) Γ S = .ok (xs.map f) S := fun xs => by
    induction xs with
    | nil => intro _; rw [eCs]; rfl
    | cons c r ih =>
      intro hm
      have hc := h c (hm c List.mem_cons_self)
      have hr := ih fun x hx => hm x (List.mem_cons_of_mem _ hx)
      rw [eCs, compD, eC1_eq]
      simp [hc, hr]
  exact key cs fun c h => h
theorem lenOk_le {ds : List D} (h : ds.length ≤ 5000000) : lenOk ds = some (.lst ds) := if_pos (W_le h)
def inner : Nd → List (List Nd)
  | .sel _ cs o => cs.map cMsg ++ [o]
  | .plu _ _ cs o => cs.map cMsg ++ [o]
  | .text _ => []
  | .shw _ => []
  | .num => []
def eM (m : List Nd) : D := .lst (eL m)
@[simp] theorem ref_eM (m : List Nd) (S : List D) : deref S (eM m) = eM m := rfl
theorem comp_msgs (cs : List Cs) (ε : De) (Γ : List Sl) (S : List D) (i j : Nat) (h : ∀ c ∈ cs, ε ((Γ.set i (.val (eK (cKey c)))).set j (.val (.lst (eL (cMsg c))))) S = .ok (eM (cMsg c)) S) :
    compD (.tp [.nm i, .nm j]) tTrue ε (eCs cs) Γ S = .ok ((cs.map cMsg).map eM) S := by
  rw [comp_cases (fun c => eM (cMsg c)) cs h, List.map_map]; rfl
theorem run_inner (n : Nat) (nd : Nd) (S : List D) (hw : nW nd ≤ 5000000) : run (n + 2) 3 [eN nd] S = .ok (.lst ((inner nd).map eM)) S := by
  rw [run_3]
  have tg := tag_notIn nd
  have ch : ∀ (cs : List Cs) (o : List Nd), ((∃ x, nd = .sel x cs o) ∨ ∃ x f, nd = .plu x f cs o) → cs.length ≤ 4000000 → isC nd = true → inner nd = cs.map cMsg ++ [o] → B_3 (run (n + 1)) [eN nd] S = .ok (.lst ((inner nd).map eM)) S := fun cs o hd hl ic e => by
    have r1 := run_cases n nd cs o S hd
    have r2 := run_other n nd cs o S hd
    have comp := comp_msgs cs (C_3_1 (run (n + 1))) [.val (eN nd), .non, .non] S 1 2 fun c hc => by simp [e_C_3_1, eM]
    have lk : lenOk ((cs.map cMsg).map eM) = some (.lst ((cs.map cMsg).map eM)) := lenOk_le (by simp only [List.length_map]; omega)
    have ad : dAdd (.lst ((cs.map cMsg).map eM)) (.lst [.lst (eL o)]) = some (.lst ((cs.map cMsg).map eM ++ [.lst (eL o)])) := if_pos (W_le (by simp only [List.length_map, List.length_cons, List.length_nil]; omega))
    have em : (inner nd).map eM = (cs.map cMsg).map eM ++ [.lst (eL o)] := by rw [e, List.map_append]; rfl
    rw [em]
    simp only [List.map_map] at comp lk ad ⊢
    simp [B_3, tg, ic, r1, comp, lk, r2, ad]
  cases nd with
  | text x => simp [B_3, tg, isC, inner]
  | shw x => simp [B_3, tg, isC, inner]
  | num => simp [B_3, tg, isC, inner]
  | sel x cs o =>
    have cl := csW_len cs
    rw [nW] at hw
    exact ch cs o (.inl ⟨x, rfl⟩) (by omega) rfl rfl
  | plu x f cs o =>
    have cl := csW_len cs
    rw [nW] at hw
    exact ch cs o (.inr ⟨x, f, rfl⟩) (by omega) rfl rfl
theorem inner_nil (nd : Nd) (h : isC nd = false) : inner nd = [] := by cases nd <;> first | rfl | cases h
theorem inner_facts (nd : Nd) : ∀ m ∈ inner nd, lH m + 1 ≤ nH nd ∧ lW m ≤ nW nd := fun m hm => by
  have key : ∀ (cs : List Cs) (o : List Nd), m ∈ cs.map cMsg ++ [o] → lH m ≤ max (csH cs) (lH o) ∧ lW m ≤ csW cs + lW o := fun cs o h => by
    rcases List.mem_append.mp h with h | h
    · obtain ⟨c, hc, rfl⟩ := List.mem_map.mp h
      have a2 := mem_csH hc
      have a3 := mem_csW hc
      cases c with
      | mk k m2 =>
        rw [cH] at a2
        rw [cW] at a3
        simp only [cMsg]
        omega
    · obtain rfl := List.mem_singleton.mp h
      omega
  cases nd with
  | text x => cases hm
  | shw x => cases hm
  | num => cases hm
  | sel x cs o => have := key cs o hm; rw [nH, nW]; omega
  | plu x f cs o => have := key cs o hm; rw [nH, nW]; omega
theorem inner_len (nd : Nd) (hw : nW nd ≤ 5000000) : (inner nd).length ≤ 5000000 := by
  cases nd with
  | text x => exact Nat.zero_le _
  | shw x => exact Nat.zero_le _
  | num => exact Nat.zero_le _
  | sel x cs o =>
    have cl := csW_len cs
    rw [nW] at hw
    simp [inner]; omega
  | plu x f cs o =>
    have cl := csW_len cs
    rw [nW] at hw
    simp [inner]; omega
theorem s0 : ¬ sizeLine = 0 := by decide

end
section
open PySem L2 DL
/-! ### messages that are drawn -/
def txts : List Str := ["a", "b ", " files", "'", "{x}", "#", "a'{'", "1\n2", "other {", "~"]
def selKs : List Str := ["a", "one", "select"]
def pluKs : List Ky := [.i 0, .i 1, .i 2, .i 12, .s "zero", .s "one", .s "two", .s "few", .s "many"]
def nms : List Str := ["w", "kind", "n", "count", "who"]
mutual
def wfN : Bool → Nd → Prop
  | _, .text x => x ∈ txts
  | _, .shw n => n ∈ nms
  | ins, .num => ins = true
  | ins, .sel n cs o => n ∈ nms ∧ (cs.map cKey).Sublist (selKs.map Ky.s) ∧ wfCs ins cs ∧ wfL ins o
  | _, .plu n f cs o => n ∈ nms ∧ f ∈ ([0, 1, 2] : List Int) ∧ (∃ ks : List Ky, ks.Sublist pluKs ∧ (cs.map cKey = ks ∨ cs.map cKey = ks.reverse)) ∧ wfCs true cs ∧ wfL true o
def wfL : Bool → List Nd → Prop
  | _, [] => True
  | ins, n :: r => wfN ins n ∧ wfL ins r
def wfC : Bool → Cs → Prop
  | ins, .mk _ m => wfL ins m
def wfCs : Bool → List Cs → Prop
  | _, [] => True
  | ins, c :: r => wfC ins c ∧ wfCs ins r
end
theorem wfL_snoc {ins : Bool} {m : List Nd} {n : Nd} (h : wfL ins m) (hn : wfN ins n) : wfL ins (m ++ [n]) := by
  induction m with
  | nil => rw [List.nil_append, wfL, wfL]; exact ⟨hn, trivial⟩
  | cons x r ih => rw [wfL] at h; rw [List.cons_append, wfL]; exact ⟨h.1, ih h.2⟩
theorem wfL_app {ins : Bool} {a b : List Nd} (h : wfL ins a) (k : wfL ins b) : wfL ins (a ++ b) := by
  induction a with
  | nil => exact k
  | cons x r ih => rw [wfL] at h; rw [List.cons_append, wfL]; exact ⟨h.1, ih h.2⟩
theorem wfCs_snoc {ins : Bool} {m : List Cs} {n : Cs} (h : wfCs ins m) (hn : wfC ins n) : wfCs ins (m ++ [n]) := by
  induction m with
  | nil => rw [List.nil_append, wfCs, wfCs]; exact ⟨hn, trivial⟩
  | cons x r ih => rw [wfCs] at h; rw [List.cons_append, wfCs]; exact ⟨h.1, ih h.2⟩
theorem wfCs_rev {ins : Bool} {m : List Cs} (h : wfCs ins m) : wfCs ins m.reverse := by
  induction m with
  | nil => exact h
  | cons x r ih => rw [wfCs] at h; rw [List.reverse_cons]; exact wfCs_snoc (ih h.2) h.1
structure GM (d w : Nat) (ins : Bool) (m : List Nd) : Prop where
  wf : wfL ins m
  g : gL m
  ok : lOk m = true
  h : lH m ≤ d
  w : lW m ≤ w
theorem txts_ok : ∀ x ∈ txts, sOk x = true ∧ x.length ≤ 10 ∧ x ≠ "" := by
  have h : txts.all (fun x => sOk x && decide (x.length ≤ 10) && decide (x ≠ "")) = true := by decide +kernel
  intro x hx
  have := List.all_eq_true.mp h x hx
  simpa [and_assoc] using this
theorem run_string (n : Nat) (S : List D) (hS : Bx S) : ∃ (x : Str) (S' : List D), run (n + 2) 1003 [.ptr 0] S = .ok (.str x) S' ∧ Bx S' ∧ sOk x = true ∧ x.length ≤ 10 ∧ x ≠ "" ∧ x ∈ txts := by
  rw [run_1003]
  obtain ⟨r, S1, h1, hS1, r0, r1⟩ := run_draw n 10 (by decide) S hS
  obtain ⟨x, hx, e⟩ := pickS (xs := txts) r0 (by exact r1)
  have e2 : atI [D.str "a", .str "b ", .str " files", .str "'", .str "{x}", .str "#", .str "a'{'", .str "1\n2", .str "other {", .str "~"] r = some (.str x) := e
  obtain ⟨q1, q2, q3⟩ := txts_ok x hx
  exact ⟨x, S1, by simp [B_1003, h1, e2], hS1, q1, q2, q3, hx⟩
theorem names_ok : ∀ x ∈ nms, sOk x = true ∧ x.length ≤ 10 := by
  have h : nms.all (fun x => sOk x && decide (x.length ≤ 10)) = true := by decide +kernel
  intro x hx
  have := List.all_eq_true.mp h x hx
  simpa using this
/-- what a message's maker promises -/
def MkM (R : Rec) (d w : Nat) : Prop := ∀ (ins : Bool) (S : List D), Bx S → ∃ (m : List Nd) (S' : List D), R 1006 [.ptr 0, .int d, .bl ins] S = .ok (eM m) S' ∧ Bx S' ∧ GM d w ins m
structure GC (d w : Nat) (ins : Bool) (Ks : List Ky) (j : Nat) (cs : List Cs) : Prop where
  wf : wfCs ins cs
  ks : (cs.map cKey).Sublist (Ks.take j)
  g : gCs cs
  ok : csOk cs = true
  h : csH cs ≤ d
  w : csW cs ≤ j * w
  l : cs.length ≤ j
theorem GC.nil (d w : Nat) (ins : Bool) (Ks : List Ky) : GC d w ins Ks 0 [] := ⟨by rw [wfCs]; trivial, List.nil_sublist _, by rw [gCs]; trivial, by rw [csOk], by rw [csH]; omega, by rw [csW]; omega, Nat.le_refl _⟩
theorem GC.more {d w j : Nat} {ins : Bool} {Ks : List Ky} {cs : List Cs} (h : GC d w ins Ks j cs) : GC d w ins Ks (j + 1) cs := ⟨h.wf, h.ks.trans (List.take_sublist_take_left (by omega)), h.g, h.ok, h.h, by have := h.w; rw [Nat.succ_mul]; omega, by have := h.l; omega⟩
theorem GC.snoc {d w j : Nat} {ins : Bool} {Ks : List Ky} {cs : List Cs} {k : Ky} {m : List Nd} (h : GC d (w + 100) ins Ks j cs) (hj : Ks[j]? = some k) (hk : kOk k = true) (hkw : kW k ≤ 70) (hm : GM d w ins m) : GC d (w + 100) ins Ks (j + 1) (cs ++ [.mk k m]) where
  wf := wfCs_snoc h.wf (by rw [wfC]; exact hm.wf)
  ks := by
    have e : Ks.take (j + 1) = Ks.take j ++ [k] := by rw [List.take_add_one, hj]; rfl
    rw [e, List.map_append]
    exact h.ks.append (List.Sublist.refl _)
  g := gCs_snoc h.g (by rw [gC]; exact hm.g)
  ok := by rw [csOk_app, h.ok, csOk, csOk, cOk, hk, hm.ok]; rfl
  h := by have := h.h; have := hm.h; rw [csH_app, csH, csH, cH]; omega
  w := by have := h.w; have := hm.w; rw [csW_app, csW, csW, cW, Nat.succ_mul]; omega
  l := by have := h.l; rw [List.length_append]; show cs.length + 1 ≤ _; omega
structure GR (d w : Nat) (ins : Bool) (j : Nat) (cs : List Cs) : Prop where
  wf : wfCs ins cs
  ks : ∃ ks : List Ky, ks.Sublist pluKs ∧ (cs.map cKey = ks ∨ cs.map cKey = ks.reverse)
  g : gCs cs
  ok : csOk cs = true
  h : csH cs ≤ d
  w : csW cs ≤ j * w
  l : cs.length ≤ j
theorem GC.same {d w j : Nat} {ins : Bool} {cs : List Cs} (h : GC d w ins pluKs j cs) : GR d w ins j cs := ⟨h.wf, ⟨_, h.ks.trans (List.take_sublist _ _), .inl rfl⟩, h.g, h.ok, h.h, h.w, h.l⟩
theorem GC.rev {d w j : Nat} {ins : Bool} {cs : List Cs} (h : GC d w ins pluKs j cs) : GR d w ins j cs.reverse where
  wf := wfCs_rev h.wf
  ks := ⟨_, h.ks.trans (List.take_sublist _ _), .inr (by rw [List.map_reverse])⟩
  g := gCs_rev h.g
  ok := by
    have key : ∀ xs : List Cs, csOk xs.reverse = csOk xs := fun xs => by
      induction xs with
      | nil => rfl
      | cons x r ih => rw [List.reverse_cons, csOk_app, ih, csOk, csOk, csOk, Bool.and_true, Bool.and_comm]
    rw [key]; exact h.ok
  h := by
    have key : ∀ xs : List Cs, csH xs.reverse = csH xs := fun xs => by
      induction xs with
      | nil => rfl
      | cons x r ih => rw [List.reverse_cons, csH_app, ih, csH, csH, csH]; omega
    rw [key]; exact h.h
  w := by
    have key : ∀ xs : List Cs, csW xs.reverse = csW xs := fun xs => by
      induction xs with
      | nil => rfl
      | cons x r ih => rw [List.reverse_cons, csW_app, ih, csW, csW, csW]; omega
    rw [key]; exact h.w
  l := by rw [List.length_reverse]; exact h.l
theorem selKs_ok : ∀ x ∈ selKs, kOk (.s x) = true ∧ kW (.s x) ≤ 70 := by
  have h : selKs.all (fun x => sOk x && decide (10 * x.length + 2 ≤ 70)) = true := by decide +kernel
  intro x hx
  have := List.all_eq_true.mp h x hx
  simpa [kOk, kW] using this
theorem sel_loop (n d w : Nat) (ins : Bool) (hM : MkM (run (n + 1)) d w) (S : List D) (hS : Bx S) :
    WO (forD (.nm 4) [4] (L_1004_1 (run (n + 1))) (selKs.map D.str) [.val (.ptr 0), .val (.int ((d + 1 : Nat) : Int)), .val (.bl ins), .own (.lst []), .non] S)
      (fun Γ S2 => ∃ cs, Γ = [.val (.ptr 0), .val (.int ((d + 1 : Nat) : Int)), .val (.bl ins), .own (.lst (eCs cs)), .non] ∧ Bx S2 ∧ GC d (w + 100) ins (selKs.map Ky.s) 3 cs) (fun _ _ => False) := by
  refine forD_wp (fun j Γ S2 => ∃ cs, Γ = [.val (.ptr 0), .val (.int ((d + 1 : Nat) : Int)), .val (.bl ins), .own (.lst (eCs cs)), .non] ∧ Bx S2 ∧ GC d (w + 100) ins (selKs.map Ky.s) j cs) _ 0 _ S ⟨[], by rw [eCs], hS, GC.nil _ _ _ _⟩ (fun j x Γ S2 hx ⟨cs, hΓ, hS2, hc⟩ => ?_) (fun Γ S2 h => by simpa [selKs] using h)
  subst hΓ
  rw [List.getElem?_map] at hx
  cases hk : selKs[j]? with
  | none => rw [hk] at hx; cases hx
  | some k =>
    rw [hk] at hx; cases hx
    rw [Nat.zero_add] at hc
    obtain ⟨k1, k2⟩ := selKs_ok k (List.mem_of_getElem? hk)
    have hj : j < 3 := (List.getElem?_eq_some_iff.mp hk).1
    refine ⟨_, x_bnm, ?_⟩
    rw [e_L_1004_1]
    obtain ⟨r, S3, h3, hS3, _, _⟩ := run_draw n 3 (by decide) S2 hS2
    by_cases hr : r = 0
    · subst hr
      obtain ⟨m, S4, h4, hS4, gm⟩ := hM ins S3 hS3
      have hl : cs.length < sizeLine := Nat.lt_of_le_of_lt (show cs.length ≤ 5000000 by have := hc.l; omega) (by decide)
      have e2 : eCs cs ++ [.tup [.str k, .lst (eL m)]] = eCs (cs ++ [.mk (.s k) m]) := by rw [eCs_app, eCs_one, eC1, eK]
      have sb : ((d : Int) + 1 - 1) = (d : Int) := by omega
      unfold eM at h4
      simp [h3, sb, h4, hl, e2, WT]
      exact ⟨_, rfl, hS4, hc.snoc (by rw [List.getElem?_map, hk]; rfl) k1 k2 gm⟩
    · have hr2 : (r == 0) = false := by simpa using hr
      simp [h3, hr, hr2, WT]
      exact ⟨cs, rfl, hS3, hc.more⟩
theorem run_select (n d w : Nat) (ins : Bool) (hM : MkM (run (n + 1)) d w) (S : List D) (hS : Bx S) : ∃ (nd : Nd) (S' : List D), run (n + 2) 1004 [.ptr 0, .int ((d + 1 : Nat) : Int), .bl ins] S = .ok (eN nd) S' ∧ Bx S' ∧ gN nd ∧ nOk nd = true ∧ nH nd ≤ d + 1 ∧ nW nd ≤ 10 * (w + 100) ∧ isT nd = false ∧ wfN ins nd := by
  rw [run_1004]
  have lp := sel_loop n d w ins hM S hS
  revert lp
  generalize hf : forD (.nm 4) [4] (L_1004_1 (run (n + 1))) (selKs.map D.str) [.val (.ptr 0), .val (.int ((d + 1 : Nat) : Int)), .val (.bl ins), .own (.lst []), .non] S = o
  intro lp
  cases o with
  | next Γ S1 =>
    obtain ⟨cs, rfl, hS1, hc⟩ := lp
    obtain ⟨r, S2, h2, hS2, r0, r1⟩ := run_draw n 2 (by decide) S1 hS1
    obtain ⟨x, hx, e⟩ := pickS (xs := ["w", "kind"]) r0 (by exact r1)
    obtain ⟨m, S3, h3, hS3, gm⟩ := hM ins S2 hS2
    have hxn : x ∈ nms := by
      simp only [nms, List.mem_cons, List.not_mem_nil, or_false] at hx ⊢
      rcases hx with h | h <;> simp [h]
    have nx := names_ok x hxn
    have sb : ((d : Int) + 1 - 1) = (d : Int) := by omega
    have e2 : atI [D.str "w", .str "kind"] r = some (.str x) := e
    have f2 : forD (.nm 4) [4] (L_1004_1 (run (n + 1))) [.str "a", .str "one", .str "select"] [.val (.ptr 0), .val (.int ((d : Int) + 1)), .val (.bl ins), .own (.lst []), .non] S = .next [.val (.ptr 0), .val (.int ((d : Int) + 1)), .val (.bl ins), .own (.lst (eCs cs)), .non] S1 := hf
    unfold eM at h3
    refine ⟨.sel x cs m, S3, ?_, hS3, ?_, ?_, ?_, ?_, rfl, ?_⟩
    · rw [eN]
      simp [B_1004, f2, h2, e2, sb, h3]
    · rw [gN]; exact ⟨hc.g, gm.g⟩
    · rw [nOk, nx.1, hc.ok, gm.ok]; rfl
    · have := hc.h; have := gm.h; rw [nH]; omega
    · have := hc.w; have := gm.w; have := nx.2; rw [nW]; omega
    · rw [wfN]; exact ⟨hxn, hc.ks.trans (List.take_sublist _ _), hc.wf, gm.wf⟩
  | _ => exact lp.elim

theorem pluKs_ok : ∀ x ∈ pluKs, kOk x = true ∧ kW x ≤ 70 := by
  have h : pluKs.all (fun x => kOk x && decide (kW x ≤ 70)) = true := by decide +kernel
  intro x hx
  have := List.all_eq_true.mp h x hx
  simpa using this
theorem plu_loop (n d w : Nat) (hM : MkM (run (n + 1)) d w) (S : List D) (hS : Bx S) :
    WO (forD (.nm 3) [3] (L_1005_1 (run (n + 1))) (pluKs.map eK) [.val (.ptr 0), .val (.int ((d + 1 : Nat) : Int)), .own (.lst []), .non] S)
      (fun Γ S2 => ∃ cs, Γ = [.val (.ptr 0), .val (.int ((d + 1 : Nat) : Int)), .own (.lst (eCs cs)), .non] ∧ Bx S2 ∧ GC d (w + 100) true pluKs 9 cs) (fun _ _ => False) := by
  refine forD_wp (fun j Γ S2 => ∃ cs, Γ = [.val (.ptr 0), .val (.int ((d + 1 : Nat) : Int)), .own (.lst (eCs cs)), .non] ∧ Bx S2 ∧ GC d (w + 100) true pluKs j cs) _ 0 _ S ⟨[], by rw [eCs], hS, GC.nil _ _ _ _⟩ (fun j x Γ S2 hx ⟨cs, hΓ, hS2, hc⟩ => ?_) (fun Γ S2 h => by simpa [pluKs] using h)
  subst hΓ
  rw [List.getElem?_map] at hx
  cases hk : pluKs[j]? with
  | none => rw [hk] at hx; cases hx
  | some k =>
    rw [hk] at hx; cases hx
    rw [Nat.zero_add] at hc
    obtain ⟨k1, k2⟩ := pluKs_ok k (List.mem_of_getElem? hk)
    have hj : j < 9 := (List.getElem?_eq_some_iff.mp hk).1
    refine ⟨_, x_bnm, ?_⟩
    rw [e_L_1005_1]
    obtain ⟨r, S3, h3, hS3, _, _⟩ := run_draw n 5 (by decide) S2 hS2
    by_cases hr : r = 0
    · subst hr
      obtain ⟨m, S4, h4, hS4, gm⟩ := hM true S3 hS3
      have hl : cs.length < sizeLine := Nat.lt_of_le_of_lt (show cs.length ≤ 5000000 by have := hc.l; omega) (by decide)
      have e2 : eCs cs ++ [.tup [eK k, .lst (eL m)]] = eCs (cs ++ [.mk k m]) := by rw [eCs_app, eCs_one, eC1]
      have sb : ((d : Int) + 1 - 1) = (d : Int) := by omega
      unfold eM at h4
      simp [h3, sb, h4, hl, e2, WT]
      exact ⟨_, rfl, hS4, hc.snoc hk k1 k2 gm⟩
    · have hr2 : (r == 0) = false := by simpa using hr
      simp [h3, hr, hr2, WT]
      exact ⟨cs, rfl, hS3, hc.more⟩
theorem run_plural (n d w : Nat) (hM : MkM (run (n + 1)) d w) (S : List D) (hS : Bx S) : ∃ (nd : Nd) (S' : List D), run (n + 2) 1005 [.ptr 0, .int ((d + 1 : Nat) : Int)] S = .ok (eN nd) S' ∧ Bx S' ∧ gN nd ∧ nOk nd = true ∧ nH nd ≤ d + 1 ∧ nW nd ≤ 10 * (w + 110) ∧ isT nd = false ∧ ∀ ins, wfN ins nd := by
  rw [run_1005]
  have lp := plu_loop n d w hM S hS
  revert lp
  generalize hf : forD (.nm 3) [3] (L_1005_1 (run (n + 1))) (pluKs.map eK) [.val (.ptr 0), .val (.int ((d + 1 : Nat) : Int)), .own (.lst []), .non] S = o
  intro lp
  cases o with
  | next Γ S1 =>
    obtain ⟨cs, rfl, hS1, hc⟩ := lp
    obtain ⟨q, S1', hq, hS1', _, _⟩ := run_draw n 3 (by decide) S1 hS1
    obtain ⟨r, S2, h2, hS2, r0, r1⟩ := run_draw n 2 (by decide) S1' hS1'
    obtain ⟨x, hx, e⟩ := pickS (xs := ["n", "count"]) r0 (by exact r1)
    obtain ⟨t, S2', h2', hS2', t0, t1⟩ := run_draw n 4 (by decide) S2 hS2
    obtain ⟨f, hf2, ef⟩ := pickI (xs := [0, 0, 1, 2]) t0 (by exact t1)
    obtain ⟨m, S3, h3, hS3, gm⟩ := hM true S2' hS2'
    have hxn : x ∈ nms := by
      simp only [nms, List.mem_cons, List.not_mem_nil, or_false] at hx ⊢
      rcases hx with h | h <;> simp [h]
    have nx := names_ok x hxn
    have fo : iOk f = true ∧ (toString f : Str).length ≤ 10 := by
      have h : ([0, 0, 1, 2] : List Int).all (fun f => iOk f && decide ((toString f : Str).length ≤ 10)) = true := by decide +kernel
      have := List.all_eq_true.mp h f hf2
      simpa using this
    have sb : ((d : Int) + 1 - 1) = (d : Int) := by omega
    have e2 : atI [D.str "n", .str "count"] r = some (.str x) := e
    have e3 : atI [D.int 0, .int 0, .int 1, .int 2] t = some (.int f) := ef
    have f2 : forD (.nm 3) [3] (L_1005_1 (run (n + 1))) [.int 0, .int 1, .int 2, .int 12, .str "zero", .str "one", .str "two", .str "few", .str "many"] [.val (.ptr 0), .val (.int ((d : Int) + 1)), .own (.lst []), .non] S = .next [.val (.ptr 0), .val (.int ((d : Int) + 1)), .own (.lst (eCs cs)), .non] S1 := hf
    unfold eM at h3
    obtain ⟨cs2, hc2, he⟩ : ∃ cs2, GR d (w + 100) true 9 cs2 ∧ (if q == 0 then (eCs cs).reverse else eCs cs) = eCs cs2 := by
      by_cases z : q = 0
      · exact ⟨cs.reverse, hc.rev, by rw [if_pos (by simpa using z)]; exact eCs_rev cs⟩
      · exact ⟨cs, hc.same, by rw [if_neg (by simpa using z)]⟩
    refine ⟨.plu x f cs2 m, S3, ?_, hS3, ?_, ?_, ?_, ?_, rfl, fun ins => ?_⟩
    · rw [eN, ← he]
      by_cases z : q = 0
      · subst z
        simp [B_1005, f2, hq, h2, e2, h2', e3, sb, h3]
      · have z2 : (q == 0) = false := by simpa using z
        simp [B_1005, f2, hq, z, z2, h2, e2, h2', e3, sb, h3]
    · rw [gN]; exact ⟨hc2.g, gm.g⟩
    · rw [nOk, nx.1, fo.1, hc2.ok, gm.ok]; rfl
    · have := hc2.h; have := gm.h; rw [nH]; omega
    · have := hc2.w; have := gm.w; have := nx.2; have := fo.2; rw [nW]; omega
    · rw [wfN]
      refine ⟨hxn, ?_, hc2.ks, hc2.wf, gm.wf⟩
      simp only [List.mem_cons, List.not_mem_nil, or_false] at hf2 ⊢
      rcases hf2 with h | h | h | h <;> simp [h]
  | _ => exact lp.elim

/-! ### a message that is drawn -/
structure GJ (d w : Nat) (ins : Bool) (j : Nat) (m : List Nd) : Prop where
  wf : wfL ins m
  g : gL m
  ok : lOk m = true
  h : lH m ≤ d
  w : lW m ≤ j * w
  l : m.length ≤ j
theorem GJ.nil (d w : Nat) (ins : Bool) : GJ d w ins 0 [] := ⟨by rw [wfL]; trivial, by rw [gL]; trivial, by rw [lOk], by rw [lH]; omega, by rw [lW]; omega, Nat.le_refl _⟩
theorem GJ.more {d w j : Nat} {ins : Bool} {m : List Nd} (h : GJ d w ins j m) : GJ d w ins (j + 1) m := ⟨h.wf, h.g, h.ok, h.h, by have := h.w; rw [Nat.succ_mul]; omega, by have := h.l; omega⟩
theorem GJ.snoc {d w j : Nat} {ins : Bool} {m : List Nd} {n : Nd} (h : GJ d w ins j m) (hwf : wfN ins n) (hg : gN n) (ho : nOk n = true) (hh : nH n ≤ d) (hw : nW n ≤ w) (hl : lastT m = true → isT n = false) : GJ d w ins (j + 1) (m ++ [n]) where
  wf := wfL_snoc h.wf hwf
  g := gL_snoc h.g hg hl
  ok := by rw [lOk_app, h.ok, lOk, lOk, ho]; rfl
  h := by have := h.h; rw [lH_app, lH, lH]; omega
  w := by have := h.w; rw [lW_app, lW_one, Nat.succ_mul]; omega
  l := by have := h.l; rw [List.length_append]; show m.length + 1 ≤ _; omega
theorem last_cond (m : List Nd) : (lastT m = false ∧ (m = [] ∨ ∃ a l, m = a ++ [l] ∧ isT l = false)) ∨ (lastT m = true ∧ ∃ a l, m = a ++ [l] ∧ isT l = true) := by
  rcases List.eq_nil_or_concat m with rfl | ⟨a, l, rfl⟩
  · exact .inl ⟨rfl, .inl rfl⟩
  · rw [List.concat_eq_append, lastT_snoc]
    cases h : isT l with
    | false => exact .inl ⟨rfl, .inr ⟨a, l, rfl, h⟩⟩
    | true => exact .inr ⟨rfl, a, l, rfl, h⟩
def msgG (d : Nat) (ins : Bool) (m : List Nd) : List Sl := [.val (.ptr 0), .val (.int (d : Int)), .val (.bl ins), .own (.lst (eL m)), .non, .non]
theorem msg_step (k d w v j : Nat) (hv : 140 ≤ v) (ins : Bool) (hM : ∀ d', d = d' + 1 → MkM (run (k + 1)) d' w ∧ 10 * (w + 110) ≤ v) (m : List Nd) (S : List D) (t : D) (hS : Bx S) (hj : j ≤ 3) (h : GJ d v ins j m) :
    WT (L_1006_1 (run (k + 2)) [.val (.ptr 0), .val (.int (d : Int)), .val (.bl ins), .own (.lst (eL m)), .val t, .non] S)
      (fun Γ2 S2 => ∃ m2, clr [4, 5] Γ2 = msgG d ins m2 ∧ Bx S2 ∧ GJ d v ins (j + 1) m2) (fun _ _ => False) (fun _ _ => False) := by
  obtain ⟨q, S1, h1, hS1, q0, q8⟩ := run_draw (k + 1) 8 (by decide) S hS
  replace h1 : run (k + 2) 1002 [.ptr 0, .int 8] S = .ok (.int q) S1 := h1
  have hl : m.length < sizeLine := Nat.lt_of_le_of_lt (show m.length ≤ 5000000 by have := h.l; omega) (by decide)
  have e1 : ∀ n, eL m ++ [eN n] = eL (m ++ [n]) := fun n => by rw [eL_app, eL_one]
  rw [e_L_1006_1]
  -- a text
  have txt : (q < 3 ∨ (d = 0 ∧ 4 < q)) → WT (sIf (tOrD (tB (eOp cEq (eUn dLen (oV 3)) (eC (.int 0)))) (tB (eOp cNe (eOp dIdx (eOp dIdx (oV 3) (eUn dNeg (eC (.int 1)))) (eC (.int 0))) (eC (.str "text"))))) (sAppO 3 (eTup (aCons (eC (.str "text")) (aCons (eCall (run (k + 2) 1003) (aCons (eV 0) aNil)) aNil)))) sNext [.val (.ptr 0), .val (.int (d : Int)), .val (.bl ins), .own (.lst (eL m)), .val t, .val (.int q)] S1)
      (fun Γ2 S2 => ∃ m2, clr [4, 5] Γ2 = msgG d ins m2 ∧ Bx S2 ∧ GJ d v ins (j + 1) m2) (fun _ _ => False) (fun _ _ => False) := fun _ => by
    obtain ⟨x, S2, h2, hS2, x1, x2, x3, x4⟩ := run_string k S1 hS1
    have ex := e1 (.text x)
    have en : eN (.text x) = .tup [.str "text", .str x] := by rw [eN]
    rw [en] at ex
    have gx : lastT m = false → GJ d v ins (j + 1) (m ++ [.text x]) := fun hlt => h.snoc (by rw [wfN]; exact x4) (by rw [gN]; exact x3) (by rw [nOk]; exact x1) (by rw [nH]; omega) (by rw [nW]; omega) fun z => by rw [hlt] at z; cases z
    rcases last_cond m with ⟨hlt, hm | ⟨a, l, hm, tl⟩⟩ | ⟨hlt, a, l, hm, tl⟩
    · have g2 := gx hlt
      subst hm
      simp at ex
      simp [h2, WT, s0, ex]
      exact ⟨_, rfl, hS2, g2⟩
    · have g2 := gx hlt
      have la : atI (eL a ++ [eN l]) (-1) = some (eN l) := by rw [atI_neg1, List.getLast?_concat]
      have tn := tag_text l
      have em : eL m = eL a ++ [eN l] := by rw [hm, eL_app, eL_one]
      have ml : m.length = a.length + 1 := by rw [hm, List.length_append]; rfl
      rw [em] at ex
      have hl3 : a.length + 1 < sizeLine := by rw [← ml]; exact hl
      have nz : ¬ ((a.length : Int) + 1 = 0) := by omega
      have nz2 : (((a.length : Int) + 1) == 0) = false := by simpa using nz
      rw [em]
      simp [h2, WT, la, tn, tl, hl3, nz, nz2] at ex ⊢
      rw [ex]
      exact ⟨_, rfl, hS2, g2⟩
    · have la : atI (eL a ++ [eN l]) (-1) = some (eN l) := by rw [atI_neg1, List.getLast?_concat]
      have tn := tag_text l
      have em : eL m = eL a ++ [eN l] := by rw [hm, eL_app, eL_one]
      have nz : ¬ ((a.length : Int) + 1 = 0) := by omega
      have nz2 : (((a.length : Int) + 1) == 0) = false := by simpa using nz
      have g2 := h.more
      rw [hm] at g2
      rw [em]
      simp [WT, la, tn, tl, nz, nz2]
      exact ⟨a ++ [l], by unfold msgG; rw [eL_app, eL_one], hS1, g2⟩
  by_cases c1 : q < 3
  · have t1 := txt (.inl c1)
    simp only [x_sSeq, x_sSet, x_eCall, x_aCons, x_aNil, x_eV, x_eC] 
    simp [h1, c1] at t1 ⊢
    exact t1
  · by_cases c2 : d = 0 ∧ 4 < q
    · have t1 := txt (.inr c2)
      obtain ⟨c3, c4⟩ := c2
      subst c3
      simp [h1, c1, c4] at t1 ⊢
      exact t1
    · by_cases c3 : q = 3
      · subst c3
        obtain ⟨r, S2, h2, hS2, r0, r1⟩ := run_draw (k + 1) 4 (by decide) S1 hS1
        replace h2 : run (k + 2) 1002 [.ptr 0, .int 4] S1 = .ok (.int r) S2 := h2
        obtain ⟨x, hx, e⟩ := pickS (xs := ["n", "w", "who", "count"]) r0 (by exact r1)
        have e2 : atI [D.str "n", .str "w", .str "who", .str "count"] r = some (.str x) := e
        have hxn : x ∈ nms := by
          simp only [nms, List.mem_cons, List.not_mem_nil, or_false] at hx ⊢
          rcases hx with h | h | h | h <;> simp [h]
        have nx := names_ok x hxn
        have ex := e1 (.shw x)
        have en : eN (.shw x) = .tup [.str "show", .str x] := by rw [eN]
        rw [en] at ex
        simp [h1, h2, e2, hl, ex, WT]
        exact ⟨_, rfl, hS2, h.snoc (by rw [wfN]; exact hxn) (by rw [gN]; trivial) (by rw [nOk]; exact nx.1) (by rw [nH]; omega) (by have := nx.2; rw [nW]; omega) fun _ => rfl⟩
      · have c3b : (q == 3) = false := by simpa using c3
        by_cases c4 : q = 4
        · subst c4
          have ex := e1 .num
          have en : eN .num = .tup [.str "number"] := by rw [eN]
          rw [en] at ex
          cases ins with
          | true =>
            simp [h1, hl, ex, WT]
            exact ⟨_, rfl, hS1, h.snoc (by rw [wfN]) (by rw [gN]; trivial) (by rw [nOk]) (by rw [nH]; omega) (by rw [nW]; omega) fun _ => rfl⟩
          | false =>
            simp [h1, WT]
            exact ⟨m, rfl, hS1, h.more⟩
        · have c4b : (q == 4) = false := by simpa using c4
          have hd : d ≠ 0 := fun z => c2 ⟨z, by omega⟩
          obtain ⟨d', rfl⟩ : ∃ d', d = d' + 1 := ⟨d - 1, by omega⟩
          have dz : ¬ ((d' : Int) + 1 = 0) := by omega
          have dz2 : (((d' : Int) + 1) == 0) = false := by simpa using dz
          by_cases c5 : q < 7
          · obtain ⟨nd, S2, h2, hS2, n1, n2, n3, n4, n5, n6⟩ := run_plural k d' w (hM d' rfl).1 S1 hS1
            have ex := e1 nd
            simp at h2
            simp [h1, c1, c3, c3b, c4, c4b, dz, dz2, c5, h2, hl, ex, WT]
            exact ⟨_, rfl, hS2, h.snoc (n6 ins) n1 n2 n3 (by have := (hM d' rfl).2; omega) fun _ => n5⟩
          · obtain ⟨nd, S2, h2, hS2, n1, n2, n3, n4, n5, n6⟩ := run_select k d' w ins (hM d' rfl).1 S1 hS1
            have ex := e1 nd
            simp at h2
            simp [h1, c1, c3, c3b, c4, c4b, dz, dz2, c5, h2, hl, ex, WT]
            exact ⟨_, rfl, hS2, h.snoc n6 n1 n2 n3 (by have := (hM d' rfl).2; omega) fun _ => n5⟩

theorem msg_run (k d w v : Nat) (hv : 140 ≤ v) (ins : Bool) (hM : ∀ d', d = d' + 1 → MkM (run (k + 1)) d' w ∧ 10 * (w + 110) ≤ v) (S : List D) (hS : Bx S) : ∃ (m : List Nd) (S' : List D), run (k + 3) 1006 [.ptr 0, .int d, .bl ins] S = .ok (eM m) S' ∧ Bx S' ∧ GM d (3 * v) ins m := by
  rw [run_1006]
  obtain ⟨q, S1, h1, hS1, q0, q4⟩ := run_draw (k + 1) 4 (by decide) S hS
  replace h1 : run (k + 2) 1002 [.ptr 0, .int 4] S = .ok (.int q) S1 := h1
  have iq : inR q = true := inR_of (by omega)
  have lp := forD_wp (p := .nm 4) (kl := [4, 5]) (β := L_1006_1 (run (k + 2))) (R := fun _ _ => False) (N := fun Γ S2 => ∃ m2, Γ = msgG d ins m2 ∧ Bx S2 ∧ GJ d v ins q.toNat m2)
    (fun j Γ S2 => ∃ m2, Γ = msgG d ins m2 ∧ Bx S2 ∧ GJ d v ins j m2) (rangeD 0 q.toNat) 0 (msgG d ins []) S1 ⟨[], rfl, hS1, GJ.nil _ _ _⟩
    (fun j x Γ S2 hx ⟨m2, hΓ, hS2, hg⟩ => by
      subst hΓ
      rw [Nat.zero_add] at hg
      have hj : j < (rangeD 0 q.toNat).length := (List.getElem?_eq_some_iff.mp hx).1
      rw [rangeD_len] at hj
      refine ⟨_, x_bnm, ?_⟩
      rw [Nat.zero_add]
      exact (msg_step k d w v j hv ins hM m2 S2 x hS2 (by omega) hg).mono (fun _ _ h => h) (fun _ _ h => h) (fun _ _ h => h.elim))
    (fun Γ S2 h => by rw [rangeD_len, Nat.zero_add] at h; exact h)
  revert lp
  generalize hf : forD (.nm 4) [4, 5] (L_1006_1 (run (k + 2))) (rangeD 0 q.toNat) (msgG d ins []) S1 = o
  intro lp
  unfold msgG at hf
  rw [eL_nil] at hf
  cases o with
  | next Γ S2 =>
    obtain ⟨m2, rfl, hS2, hg⟩ := lp
    refine ⟨m2, S2, ?_, hS2, hg.wf, hg.g, hg.ok, hg.h, ?_⟩
    · unfold msgG at hf
      simp [B_1006, h1, iq, hf, eM]
    · have := hg.w
      exact Nat.le_trans this (Nat.mul_le_mul_right _ (by omega))
  | _ => exact lp.elim
def wM : Nat → Nat
  | 0 => 3 * 140
  | d + 1 => 3 * (10 * (wM d + 110))
theorem mkM : ∀ (d n : Nat), 2 * d + 3 ≤ n → MkM (run n) d (wM d) := by
  intro d
  induction d with
  | zero =>
    intro n hn ins S hS
    obtain ⟨k, rfl⟩ : ∃ k, n = k + 3 := ⟨n - 3, by omega⟩
    exact msg_run k 0 0 140 (by omega) ins (fun d' e => by omega) S hS
  | succ d ih =>
    intro n hn ins S hS
    obtain ⟨k, rfl⟩ : ∃ k, n = k + 3 := ⟨n - 3, by omega⟩
    exact msg_run k (d + 1) (wM d) (10 * (wM d + 110)) (by omega) ins (fun d' e => by { have z : d' = d := (by omega); subst z; exact ⟨ih (k + 1) (by omega), Nat.le_refl _⟩ }) S hS
theorem wM2 : wM 2 = 480300 := by decide

end
section
open PySem L2 DL
/-! ### what nodes ask for -/
def eA (p : Str × Str) : D := .tup [.str p.1, .str p.2]
@[simp] theorem ref_eA (p : Str × Str) (S : List D) : deref S (eA p) = eA p := rfl
def knd : Nd → Option (Str × Str)
  | .shw n => some (n, "any")
  | .sel n _ _ => some (n, "text")
  | .plu n _ _ _ => some (n, "number")
  | .text _ => none
  | .num => none
mutual
def aN : Nd → List (Str × Str)
  | .shw n => [(n, "any")]
  | .sel n cs o => (n, "text") :: (aCs cs ++ aL o)
  | .plu n _ cs o => (n, "number") :: (aCs cs ++ aL o)
  | .text _ => []
  | .num => []
def aL : List Nd → List (Str × Str)
  | [] => []
  | n :: r => aN n ++ aL r
def aC : Cs → List (Str × Str)
  | .mk _ m => aL m
def aCs : List Cs → List (Str × Str)
  | [] => []
  | c :: r => aC c ++ aCs r
end
theorem aCs_map (cs : List Cs) : aCs cs = ((cs.map cMsg).map aL).flatten := by
  induction cs with
  | nil => rw [aCs]; rfl
  | cons c r ih => rw [aCs, ih]; cases c; rw [aC]; rfl
theorem aN_inner (n : Nd) : aN n = (knd n).toList ++ ((inner n).map aL).flatten := by
  cases n with
  | text x => rw [aN]; rfl
  | shw x => rw [aN]; rfl
  | num => rw [aN]; rfl
  | sel x cs o => rw [aN, inner, List.map_append, List.flatten_append, aCs_map]; simp [knd]
  | plu x f cs o => rw [aN, inner, List.map_append, List.flatten_append, aCs_map]; simp [knd]
mutual
theorem aN_len : ∀ n : Nd, (aN n).length ≤ nW n
  | .text _ => by rw [aN]; exact Nat.zero_le _
  | .shw _ => by rw [aN, nW]; show 1 ≤ _; omega
  | .num => by rw [aN]; exact Nat.zero_le _
  | .sel _ cs o => by
    have h1 := aCs_len cs
    have h2 := aL_len o
    rw [aN, nW, List.length_cons, List.length_append]; omega
  | .plu _ _ cs o => by
    have h1 := aCs_len cs
    have h2 := aL_len o
    rw [aN, nW, List.length_cons, List.length_append]; omega
theorem aL_len : ∀ m : List Nd, (aL m).length ≤ lW m
  | [] => by rw [aL]; exact Nat.zero_le _
  | n :: r => by
    have h1 := aN_len n
    have h2 := aL_len r
    rw [aL, lW, List.length_append]; omega
theorem aC_len : ∀ c : Cs, (aC c).length ≤ cW c
  | .mk _ m => by
    have h := aL_len m
    rw [aC, cW]; omega
theorem aCs_len : ∀ cs : List Cs, (aCs cs).length ≤ csW cs
  | [] => by rw [aCs]; exact Nat.zero_le _
  | c :: r => by
    have h1 := aC_len c
    have h2 := aCs_len r
    rw [aCs, csW, List.length_append]; omega
end
def isS : Nd → Bool | .shw _ => true | _ => false
def isL : Nd → Bool | .sel _ _ _ => true | _ => false
def isP : Nd → Bool | .plu _ _ _ _ => true | _ => false
theorem tag_show (n : Nd) : (tag n == ("show" : Str)) = isS n := by cases n <;> (unfold tag isS; simp only; decide +kernel)
theorem tag_select (n : Nd) : (tag n == ("select" : Str)) = isL n := by cases n <;> (unfold tag isL; simp only; decide +kernel)
theorem tag_plural (n : Nd) : (tag n == ("plural" : Str)) = isP n := by cases n <;> (unfold tag isP; simp only; decide +kernel)
theorem name1 (n : Nd) {p : Str × Str} (h : knd n = some p) : dIdx (eN n) (.int 1) = some (.str p.1) := by
  cases n <;> cases h <;> rw [eN] <;> rfl
def kD : Option (Str × Str) → D | some p => eA p | none => .non
theorem run_kind (n : Nat) (nd : Nd) (S : List D) : run (n + 1) 6 [eN nd] S = .ok (kD (knd nd)) S := by
  rw [run_6]
  have t1 := tag_show nd
  have t2 := tag_select nd
  have t3 := tag_plural nd
  have nm := fun p => name1 nd (p := p)
  cases nd with
  | text x => simp [B_6, t1, t2, t3, isS, isL, isP, knd, kD]
  | shw x => have := nm _ rfl; simp [B_6, t1, t2, t3, isS, isL, isP, knd, kD, eA, this]
  | num => simp [B_6, t1, t2, t3, isS, isL, isP, knd, kD]
  | sel x cs o => have := nm _ rfl; simp [B_6, t1, t2, t3, isS, isL, isP, knd, kD, eA, this]
  | plu x f cs o => have := nm _ rfl; simp [B_6, t1, t2, t3, isS, isL, isP, knd, kD, eA, this]
theorem onL_A {a b : List D} (h : a.length + b.length ≤ 5000000) : onL (.lst a) (.lst b) = some (.lst (a ++ b)) := if_pos (Nat.le_trans h (by decide))
theorem as_inner (R : Rec) (S : List D) (v0 v2 v3 : Sl) : ∀ (ms : List (List Nd)) (acc : List (Str × Str)), (∀ m ∈ ms, R 7 [eM m] S = .ok (.lst ((aL m).map eA)) S) → acc.length + ((ms.map aL).flatten).length ≤ 5000000 →
    forD (.nm 4) [4] (L_7_1 R) (ms.map eM) [v0, .own (.lst (acc.map eA)), v2, v3, .non] S = .next [v0, .own (.lst ((acc ++ (ms.map aL).flatten).map eA)), v2, v3, .non] S
  | [], acc, _, _ => by simp [forD]
  | m :: r, acc, h, hl => by
    rw [List.map_cons, List.flatten_cons, List.length_append] at hl
    have hm := h m List.mem_cons_self
    have ih := as_inner R S v0 v2 v3 r (acc ++ aL m) (fun x hx => h x (List.mem_cons_of_mem _ hx)) (by rw [List.length_append]; omega)
    have ol : onL (.lst (acc.map eA)) (.lst ((aL m).map eA)) = some (.lst ((acc ++ aL m).map eA)) := by rw [onL_A (by simp only [List.length_map]; omega), List.map_append]
    rw [List.map_cons, forD]
    simp only [List.append_assoc, List.map_append] at ih ol ⊢
    simp [e_L_7_1, hm, ol, ih]
theorem kD_non (o : Option (Str × Str)) : isNon (kD o) = o.isNone := by cases o <;> rfl
theorem as_step (n : Nat) (m0 : D) (acc : List (Str × Str)) (nd : Nd) (S : List D) (hw : nW nd ≤ 5000000) (hR : ∀ m ∈ inner nd, run (n + 2) 7 [eM m] S = .ok (.lst ((aL m).map eA)) S) (hl : acc.length + (aN nd).length ≤ 5000000) :
    L_7_2 (run (n + 2)) [.val m0, .own (.lst (acc.map eA)), .val (eN nd), .non, .non] S = .next [.val m0, .own (.lst ((acc ++ aN nd).map eA)), .val (eN nd), .val (kD (knd nd)), .non] S := by
  have rk : run (n + 2) 6 [eN nd] S = _ := run_kind (n + 1) nd S
  have ri := run_inner n nd S hw
  have ha := aN_inner nd
  rw [ha, List.length_append] at hl
  have lp := as_inner (run (n + 2)) S (.val m0) (.val (eN nd)) (.val (kD (knd nd))) (inner nd) (acc ++ (knd nd).toList) hR (by rw [List.length_append]; omega)
  have hs : acc.length < sizeLine := Nat.lt_of_le_of_lt (show acc.length ≤ 5000000 by omega) (by decide)
  rw [e_L_7_2, ha]
  cases hk : knd nd with
  | none =>
    rw [hk] at lp rk
    have c : cIsNot .non .non = some (.bl false) := rfl
    simp [kD] at lp rk ⊢
    simp [rk, ri, c, lp]
  | some p =>
    rw [hk] at lp rk
    have c : cIsNot (eA p) .non = some (.bl true) := rfl
    simp [kD] at lp rk ⊢
    simp [rk, ri, c, hs, lp]
theorem as_loop (n : Nat) (m0 : D) (S : List D) : ∀ (m : List Nd) (acc : List (Str × Str)), lW m ≤ 5000000 → acc.length + (aL m).length ≤ 5000000 → (∀ nd ∈ m, ∀ k ∈ inner nd, run (n + 2) 7 [eM k] S = .ok (.lst ((aL k).map eA)) S) →
    forD (.nm 2) [2, 3, 4] (L_7_2 (run (n + 2))) (eL m) [.val m0, .own (.lst (acc.map eA)), .non, .non, .non] S = .next [.val m0, .own (.lst ((acc ++ aL m).map eA)), .non, .non, .non] S
  | [], acc, _, _, _ => by rw [eL, aL, forD, List.append_nil]
  | nd :: r, acc, hw, hl, hR => by
    rw [lW] at hw
    rw [aL, List.length_append] at hl
    have hs := as_step n m0 acc nd S (by omega) (hR nd List.mem_cons_self) (by omega)
    have ih := as_loop n m0 S r (acc ++ aN nd) (by omega) (by rw [List.length_append]; omega) (fun x hx => hR x (List.mem_cons_of_mem _ hx))
    rw [eL, aL, forD, x_bnm]
    simp only [List.set]
    rw [hs]
    simp only [x_clr1, x_clr0, List.set]
    rw [ih, List.append_assoc]
theorem run_asked : ∀ (n : Nat) (m : List Nd) (S : List D), lW m ≤ 5000000 → lH m + 3 ≤ n → run n 7 [eM m] S = .ok (.lst ((aL m).map eA)) S
  | 0, m, S, _, h => by omega
  | n + 1, m, S, hw, hn => by
    obtain ⟨k, rfl⟩ : ∃ k, n = k + 2 := ⟨n - 2, by omega⟩
    rw [run_7]
    have lp := as_loop k (eM m) S m [] hw (by have := aL_len m; simpa using (by omega : (aL m).length ≤ 5000000)) fun nd hx q hq => by
      have f := inner_facts nd q hq
      have h1 := mem_lH hx
      have h2 := mem_lW hx
      exact run_asked (k + 2) q S (by omega) (by omega)
    rw [List.nil_append] at lp
    unfold eM at lp ⊢
    simp [B_7] at lp ⊢
    simp [lp]
/-! the law's own -/
theorem la_inner (R : Rec) (S : List D) (v0 v2 : Sl) : ∀ (cs : List Cs) (acc : List (Str × Str)), (∀ c ∈ cs, R 1007 [eM (cMsg c)] S = .ok (.lst ((aL (cMsg c)).map eA)) S) → acc.length + (aCs cs).length ≤ 5000000 →
    forD (.tp [.nm 3, .nm 4]) [3, 4] (L_1007_1 R) (eCs cs) [v0, .own (.lst (acc.map eA)), v2, .non, .non] S = .next [v0, .own (.lst ((acc ++ aCs cs).map eA)), v2, .non, .non] S
  | [], acc, _, _ => by rw [eCs, aCs, forD, List.append_nil]
  | c :: r, acc, h, hl => by
    rw [aCs, List.length_append] at hl
    have hm := h c List.mem_cons_self
    have ih := la_inner R S v0 v2 r (acc ++ aC c) (fun x hx => h x (List.mem_cons_of_mem _ hx)) (by rw [List.length_append]; omega)
    have ac : aC c = aL (cMsg c) := by cases c; rw [aC]; rfl
    rw [ac] at ih hl
    have ol : onL (.lst (acc.map eA)) (.lst ((aL (cMsg c)).map eA)) = some (.lst ((acc ++ aL (cMsg c)).map eA)) := by rw [onL_A (by simp only [List.length_map]; omega), List.map_append]
    rw [eCs, aCs, forD, eC1_eq, ac]
    unfold eM at hm
    simp only [List.append_assoc, List.map_append] at ih ol ⊢
    simp [e_L_1007_1, hm, ol, ih]
theorem la_step (R : Rec) (m0 : D) (acc : List (Str × Str)) (nd : Nd) (S : List D) (hR : ∀ m ∈ inner nd, R 1007 [eM m] S = .ok (.lst ((aL m).map eA)) S) (hl : acc.length + (aN nd).length ≤ 5000000) :
    L_1007_2 R [.val m0, .own (.lst (acc.map eA)), .val (eN nd), .non, .non] S = .next [.val m0, .own (.lst ((acc ++ aN nd).map eA)), .val (eN nd), .non, .non] S := by
  have t1 := tag_show nd
  have t2 := tag_select nd
  have t3 := tag_plural nd
  have t4 := tag_in nd
  have nm := fun p => name1 nd (p := p)
  have ch : ∀ (x k : Str) (cs : List Cs) (o : List Nd), knd nd = some (x, k) → inner nd = cs.map cMsg ++ [o] → aN nd = (x, k) :: (aCs cs ++ aL o) → dIdx (eN nd) (.int (-2)) = some (.lst (eCs cs)) → dIdx (eN nd) (.int (-1)) = some (.lst (eL o)) →
      sSeq (sFor (iA (eOp dIdx (eV 2) (eUn dNeg (eC (.int 2))))) (.tp [(.nm 3), (.nm 4)]) [3, 4] (L_1007_1 R)) (sOwn 1 (eOp onL (oV 1) (eCall (R 1007) (aCons (eOp dIdx (eV 2) (eUn dNeg (eC (.int 1)))) aNil)))) [.val m0, .own (.lst ((acc ++ [(x, k)]).map eA)), .val (eN nd), .non, .non] S
        = .next [.val m0, .own (.lst ((acc ++ aN nd).map eA)), .val (eN nd), .non, .non] S := fun x k cs o _ e ea i2 i1 => by
    rw [ea, List.length_cons, List.length_append] at hl
    have lp := la_inner R S (.val m0) (.val (eN nd)) cs (acc ++ [(x, k)]) (fun c hc => hR _ (by rw [e]; exact List.mem_append_left _ (List.mem_map_of_mem hc))) (by rw [List.length_append]; simp; omega)
    have ho := hR o (by rw [e]; exact List.mem_append_right _ List.mem_cons_self)
    unfold eM at ho
    have ol : onL (.lst ((acc ++ [(x, k)] ++ aCs cs).map eA)) (.lst ((aL o).map eA)) = some (.lst ((acc ++ [(x, k)] ++ aCs cs ++ aL o).map eA)) := by rw [onL_A (by simp only [List.length_map, List.length_append, List.length_cons, List.length_nil]; omega), ← List.map_append]
    have e2 : acc ++ aN nd = acc ++ [(x, k)] ++ aCs cs ++ aL o := by rw [ea]; simp
    rw [e2]
    generalize (acc ++ [(x, k)] ++ aCs cs ++ aL o).map eA = z1 at ol ⊢
    generalize (acc ++ [(x, k)] ++ aCs cs).map eA = z2 at ol lp ⊢
    generalize (acc ++ [(x, k)]).map eA = z3 at lp ⊢
    simp [i2, i1, lp, ho, ol]
  have hs : acc.length < sizeLine := Nat.lt_of_le_of_lt (show acc.length ≤ 5000000 by omega) (by decide)
  rw [e_L_1007_2]
  cases nd with
  | text x => simp [t1, t2, t3, t4, isS, isL, isP, isC, aN]
  | shw x => have := nm _ rfl; simp [t1, t2, t3, t4, isS, isL, isP, isC, aN, this, hs, eA]
  | num => simp [t1, t2, t3, t4, isS, isL, isP, isC, aN]
  | sel x cs o =>
    have n1 := nm _ rfl
    have c := ch x "text" cs o rfl rfl (by rw [aN]) (by rw [eN]; rfl) (by rw [eN]; rfl)
    rw [List.map_append] at c
    simp only [List.map_cons, List.map_nil] at c
    simp [t1, t2, t3, t4, isS, isL, isP, isC, n1, hs, eA] at c ⊢
    exact c
  | plu x f cs o =>
    have n1 := nm _ rfl
    have c := ch x "number" cs o rfl rfl (by rw [aN]) (by rw [eN]; rfl) (by rw [eN]; rfl)
    rw [List.map_append] at c
    simp only [List.map_cons, List.map_nil] at c
    simp [t1, t2, t3, t4, isS, isL, isP, isC, n1, hs, eA] at c ⊢
    exact c
theorem la_loop (R : Rec) (m0 : D) (S : List D) : ∀ (m : List Nd) (acc : List (Str × Str)), acc.length + (aL m).length ≤ 5000000 → (∀ nd ∈ m, ∀ k ∈ inner nd, R 1007 [eM k] S = .ok (.lst ((aL k).map eA)) S) →
    forD (.nm 2) [2, 3, 4] (L_1007_2 R) (eL m) [.val m0, .own (.lst (acc.map eA)), .non, .non, .non] S = .next [.val m0, .own (.lst ((acc ++ aL m).map eA)), .non, .non, .non] S
  | [], acc, _, _ => by rw [eL, aL, forD, List.append_nil]
  | nd :: r, acc, hl, hR => by
    rw [aL, List.length_append] at hl
    have hs := la_step R m0 acc nd S (hR nd List.mem_cons_self) (by omega)
    have ih := la_loop R m0 S r (acc ++ aN nd) (by rw [List.length_append]; omega) (fun x hx => hR x (List.mem_cons_of_mem _ hx))
    rw [eL, aL, forD, x_bnm]
    simp only [List.set]
    rw [hs]
    simp only [x_clr1, x_clr0, List.set]
    rw [ih, List.append_assoc]
theorem run_lasked : ∀ (n : Nat) (m : List Nd) (S : List D), lW m ≤ 5000000 → lH m + 1 ≤ n → run n 1007 [eM m] S = .ok (.lst ((aL m).map eA)) S
  | 0, m, S, _, h => by omega
  | n + 1, m, S, hw, hn => by
    rw [run_1007]
    have lp := la_loop (run n) (eM m) S m [] (by have := aL_len m; simpa using (by omega : (aL m).length ≤ 5000000)) fun nd hx q hq => by
      have f := inner_facts nd q hq
      have h1 := mem_lH hx
      have h2 := mem_lW hx
      exact run_lasked n q S (by omega) (by omega)
    rw [List.nil_append] at lp
    unfold eM at lp ⊢
    simp [B_1007] at lp ⊢
    simp [lp]

end
section
open PySem L2 DL
/-! ### tables of texts by texts -/
def gT : List (Str × Str) → Str → Option Str
  | [], _ => none
  | (k, v) :: r, n => if k = n then some v else gT r n
def putT (t : List (Str × Str)) (n k : Str) : List (Str × Str) := if (t.any fun p => decide (p.1 = n)) = true then t.map (fun p => if p.1 = n then (p.1, k) else p) else t ++ [(n, k)]
def dT (t : List (Str × Str)) : D := .dct (t.map fun p => .inr p.1) (t.map fun p => .str p.2)
@[simp] theorem ref_dT (t : List (Str × Str)) (S : List D) : deref S (dT t) = dT t := rfl
theorem dGet_T : ∀ (t : List (Str × Str)) (n : Str), dGet (t.map fun p => .inr p.1) (t.map fun p => .str p.2) (.inr n) = (gT t n).map .str
  | [], n => by unfold dGet gT; rfl
  | (k, v) :: r, n => by
    have ih := dGet_T r n
    rw [List.map_cons, List.map_cons, dGet, gT]
    by_cases h : k = n
    · rw [if_pos h, if_pos (by rw [h])]; rfl
    · rw [if_neg h, if_neg (fun z => h (Sum.inr.inj z))]; exact ih
theorem dPutX_T : ∀ (t : List (Str × Str)) (n k : Str), dPutX (t.map fun p => .inr p.1) (t.map fun p => .str p.2) (.inr n) (.str k) = (t.map (fun p => if p.1 = n then (p.1, k) else p)).map fun p => .str p.2
  | [], n, k => by unfold dPutX; rfl
  | (k0, v) :: r, n, k => by
    have ih := dPutX_T r n k
    rw [List.map_cons, List.map_cons, List.map_cons, List.map_cons, dPutX, ih]
    by_cases h : k0 = n
    · rw [if_pos (by rw [h]), if_pos h]
    · rw [if_neg (fun z => h (Sum.inr.inj z)), if_neg h]
theorem any_T (t : List (Str × Str)) (n : Str) : ((t.map fun p => (.inr p.1 : Key)).any fun q => decide (q = .inr n)) = t.any fun p => decide (p.1 = n) := by
  rw [List.any_map]
  congr 1
  funext p
  show decide ((.inr p.1 : Key) = .inr n) = decide (p.1 = n)
  rw [decide_eq_decide]
  exact ⟨fun h => Sum.inr.inj h, fun h => by rw [h]⟩
theorem keys_put (t : List (Str × Str)) (n k : Str) : (t.map (fun p => if p.1 = n then (p.1, k) else p)).map (·.1) = t.map (·.1) := by
  rw [List.map_map]
  congr 1
  funext p
  show (if p.1 = n then (p.1, k) else p).1 = p.1
  split <;> rfl
theorem dPut_T (t : List (Str × Str)) (n k : Str) : dPut (t.map fun p => .inr p.1) (t.map fun p => .str p.2) (.inr n) (.str k) = ((putT t n k).map fun p => .inr p.1, (putT t n k).map fun p => .str p.2) := by
  unfold dPut putT
  rw [any_T]
  by_cases h : (t.any fun p => decide (p.1 = n)) = true
  · rw [if_pos h, if_pos h, dPutX_T]
    have e : (t.map fun p => (.inr p.1 : Key)) = (t.map (fun p => if p.1 = n then (p.1, k) else p)).map fun p => .inr p.1 := by
      have := congrArg (List.map (fun x => (.inr x : Key))) (keys_put t n k)
      simp only [List.map_map] at this ⊢
      exact this.symm
    rw [← e]
  · rw [if_neg h, if_neg h]; simp
theorem put_len (t : List (Str × Str)) (n k : Str) : (putT t n k).length ≤ t.length + 1 := by
  unfold putT; split
  · rw [List.length_map]; omega
  · rw [List.length_append]; exact Nat.le_refl _
theorem put_keys (t : List (Str × Str)) (n k : Str) (h : (t.map (·.1)).Nodup) : ((putT t n k).map (·.1)).Nodup ∧ ∀ x, x ∈ (putT t n k).map (·.1) → x ∈ t.map (·.1) ∨ x = n := by
  unfold putT
  by_cases hz : (t.any fun p => decide (p.1 = n)) = true
  · rw [if_pos hz, keys_put]
    exact ⟨h, fun x hx => .inl hx⟩
  · rw [if_neg hz, List.map_append]
    refine ⟨?_, fun x hx => ?_⟩
    · rw [List.nodup_append]
      refine ⟨h, by simp, fun x hx y hy e => hz ?_⟩
      rw [List.map_cons, List.map_nil, List.mem_singleton] at hy
      rw [List.any_eq_true]
      obtain ⟨p, hp, e2⟩ := List.mem_map.mp hx
      exact ⟨p, hp, by rw [decide_eq_true_eq, e2, e, hy]⟩
    · rcases List.mem_append.mp hx with hx | hx
      · exact .inl hx
      · rw [List.map_cons, List.map_nil, List.mem_singleton] at hx; exact .inr hx
theorem put_vals (t : List (Str × Str)) (n k : Str) {P : Str → Prop} (h : ∀ p ∈ t, P p.2) (hk : P k) : ∀ p ∈ putT t n k, P p.2 := by
  unfold putT
  intro p hp
  split at hp
  · obtain ⟨q, hq, e⟩ := List.mem_map.mp hp
    split at e
    · subst e; exact hk
    · subst e; exact h _ hq
  · rcases List.mem_append.mp hp with hp | hp
    · exact h _ hp
    · rw [List.mem_singleton] at hp; subst hp; exact hk
theorem gT_mem : ∀ (t : List (Str × Str)) (n : Str), n ∈ t.map (·.1) → ∃ v, gT t n = some v ∧ (n, v) ∈ t
  | [], n, h => by cases h
  | (k, v) :: r, n, h => by
    rw [gT]
    by_cases e : k = n
    · subst e; exact ⟨v, if_pos rfl, List.mem_cons_self⟩
    · rw [if_neg e]
      rw [List.map_cons] at h
      rcases List.mem_cons.mp h with h | h
      · exact absurd h.symm e
      · obtain ⟨w, h1, h2⟩ := gT_mem r n h
        exact ⟨w, h1, List.mem_cons_of_mem _ h2⟩
theorem nodup_len : ∀ (l m : List Str), l.Nodup → (∀ x ∈ l, x ∈ m) → l.length ≤ m.length
  | [], m, _, _ => Nat.zero_le _
  | x :: r, m, h, k => by
    rw [List.nodup_cons] at h
    have hx := k x List.mem_cons_self
    have ih := nodup_len r (m.erase x) h.2 fun y hy => by
      have hne : y ≠ x := fun e => h.1 (e ▸ hy)
      exact (List.mem_erase_of_ne hne).mpr (k y (List.mem_cons_of_mem _ hy))
    rw [List.length_erase_of_mem hx] at ih
    have : 0 < m.length := List.length_pos_of_mem hx
    rw [List.length_cons]; omega
theorem keyStrs_T (t : List (Str × Str)) : keyStrs (t.map fun p => .inr p.1) = some (t.map (·.1)) := by
  induction t with
  | nil => rfl
  | cons p r ih => rw [List.map_cons, keyStrs, ih]; rfl
theorem dSorted_T (t : List (Str × Str)) (h : t.length < 64) : dSorted (dT t) = some (.lst ((srtS (t.map (·.1))).map .str)) := by
  show (keyStrs (t.map fun p => .inr p.1)).bind _ = _
  rw [keyStrs_T, Option.bind_some, if_pos (by rw [List.length_map]; exact h)]
theorem srt_perm (l : List Str) : (srtS l).Perm l := List.mergeSort_perm l leS
theorem srt_mem (l : List Str) (x : Str) : x ∈ srtS l ↔ x ∈ l := (srt_perm l).mem_iff
theorem srt_nodup (l : List Str) (h : l.Nodup) : (srtS l).Nodup := (srt_perm l).nodup_iff.mpr h
theorem srt_len (l : List Str) : (srtS l).length = l.length := (srt_perm l).length_eq
def vT (t : List (Str × Str)) (n : Str) : Str := (gT t n).getD ""
theorem dKey_T (t : List (Str × Str)) (n : Str) : dIdxA (dT t) (.str n) = (gT t n).map .str := by
  show dKey (dT t) (.str n) = _
  exact dGet_T t n
/-- {n: t[n] for n in ..} -/
theorem dcomp_T {i : Nat} {κ ε : De} {Γ : List Sl} {S : List D} {t : List (Str × Str)} (hκ : ∀ n, κ (Γ.set i (.val (.str n))) S = .ok (.str n) S) (hε : ∀ n, n ∈ t.map (·.1) → ε (Γ.set i (.val (.str n))) S = .ok (.str (vT t n)) S) :
    ∀ (l : List Str) (u : List (Str × Str)), l.Nodup → (∀ x ∈ l, x ∉ u.map (·.1)) → (∀ x ∈ l, x ∈ t.map (·.1)) → u.length + l.length ≤ 1000 →
      dcompD (.nm i) tTrue κ ε (l.map .str) Γ S (u.map (fun p => .inr p.1), u.map fun p => .str p.2) = .ok ((u ++ l.map fun n => (n, vT t n)).map (fun p => .inr p.1), (u ++ l.map fun n => (n, vT t n)).map fun p => .str p.2) S
  | [], u, _, _, _, _ => by simp [dcompD]
  | x :: l, u, hn, hd, hm, hl => by
    rw [List.nodup_cons] at hn
    have hx := hm x List.mem_cons_self
    have hxu := hd x List.mem_cons_self
    have hp : putT u x (vT t x) = u ++ [(x, vT t x)] := by
      unfold putT
      rw [if_neg]
      rw [List.any_eq_true]
      rintro ⟨p, hp, e⟩
      rw [decide_eq_true_eq] at e
      exact hxu (List.mem_map.mpr ⟨p, hp, e⟩)
    have ih := dcomp_T hκ hε l (u ++ [(x, vT t x)]) hn.2 (fun y hy hc => by
      rw [List.map_append] at hc
      rcases List.mem_append.mp hc with hc | hc
      · exact hd y (List.mem_cons_of_mem _ hy) hc
      · rw [List.map_cons, List.map_nil, List.mem_singleton] at hc
        have e : y = x := hc
        rw [e] at hy
        exact hn.1 hy) (fun y hy => hm y (List.mem_cons_of_mem _ hy)) (by rw [List.length_append]; simp at hl ⊢; omega)
    rw [List.map_cons, dcompD, x_bnm]
    simp only [hκ x, hε x hx, x_tTrue, nox_ok, Res.bind_ok, if_true, keyD]
    rw [if_pos (by rw [List.length_map]; exact Nat.lt_of_lt_of_le (show u.length < 1001 by omega) (by decide)), dPut_T, hp, ih]
    simp
/-- [(n, t[n]) for n in ..] -/
theorem items_T (u : List (Str × Str)) : itemsD (u.map fun p => .inr p.1) (u.map fun p => .str p.2) = u.map fun p => .tup [.str p.1, .str p.2] := by
  induction u with
  | nil => rfl
  | cons p r ih => rw [List.map_cons, List.map_cons, itemsD, ih]; rfl
theorem get2_T (t : List (Str × Str)) (n x : Str) : dGet2 (dT t) (.str n) (.str x) = some (.str ((gT t n).getD x)) := by
  show some ((dGet _ _ (.inr n)).getD (.str x)) = _
  rw [dGet_T]
  cases gT t n <;> rfl
@[simp] theorem x_eGet2 {a b c : De} {Γ : List Sl} {S : List D} : eGet2 a b c Γ S = (a Γ S).bind fun x S1 => if isDct (deref S1 x) = true then (b Γ S1).bind fun y S2 => (c Γ S2).bind fun z S3 => ofO (dGet2 (deref S3 x) y z) S3 else .stuck := Eq.trans rfl rfl
theorem x_sPutO {i : Nat} {k e : De} {Γ : List Sl} {S : List D} : sPutO i k e Γ S = after (e Γ S) Γ fun d S1 => match Γ[i]? with
  | some (.own (.dct _ _)) => after (k Γ S1) Γ fun x S2 => match Γ[i]?, keyD x with
    | some (.own (.dct ks xs)), some q => if xs.length < sizeLine then .next (Γ.set i (.own (.dct (dPut ks xs q d).1 (dPut ks xs q d).2))) S2 else .stuck
    | _, _ => .stuck
  | _ => .stuck := Eq.trans rfl rfl
@[simp] theorem x_eDct0 {Γ : List Sl} {S : List D} : eDct0 Γ S = .ok (.dct [] []) S := Eq.trans rfl rfl
@[simp] theorem x_sRaise {c : Nat} {fld : Str} {e : De} {Γ : List Sl} {S : List D} : sRaise c fld e Γ S = after (e Γ S) Γ fun d S1 => if shOk d = true then .exc ⟨c, [fld], [d]⟩ Γ S1 else .stuck := Eq.trans rfl rfl
@[simp] theorem x_eDComp {α : Da} {p : Pat} {vs : List Nat} {t : Dt} {a b : De} {Γ : List Sl} {S : List D} : eDComp α p vs t a b Γ S = (α Γ S).bind fun xs S1 => (dcompD p t a b xs (wipeD Γ vs) S1 ([], [])).bind fun a S2 => .ok (.dct a.1 a.2) S2 := Eq.trans rfl rfl
@[simp] theorem x_sTry {i : Option Nat} {f : Nat → Option Bool} {b h : Ds} {Γ : List Sl} {S : List D} : sTry i f b h Γ S = match b Γ S with
  | .exc e Γ1 S1 => match f e.c with
    | some true => if noX Γ1 then unx i (h (setxD i e Γ1) S1) else .stuck
    | some false => .exc e Γ1 S1
    | none => .stuck
  | o => o := Eq.trans rfl rfl
@[simp] theorem x_eIsX {i : Nat} {f : Nat → Option Bool} {Γ : List Sl} {S : List D} : eIsX i f Γ S = match Γ[i]? with
  | some (.xcp x) => ofO ((f x.c).map .bl) S
  | _ => .stuck := Eq.trans rfl rfl
@[simp] theorem x_eXf {i : Nat} {f : Str} {g : Nat → Bool} {Γ : List Sl} {S : List D} : eXf i f g Γ S = match Γ[i]? with
  | some (.xcp x) => if g x.c = true then ofO ((x.ns.zip x.fs).lookup f) S else .stuck
  | _ => .stuck := Eq.trans rfl rfl

end
section
open PySem L2 DL
/-! ### the kinds -/
def kF : List (Str × Str) → List (Str × Str) → Str ⊕ List (Str × Str)
  | t, [] => .inr t
  | t, (n, k) :: r => if (gT t n).getD "any" = "any" then kF (putT t n k) r else if k ≠ "any" ∧ (gT t n).getD "any" ≠ k then .inl n else kF t r
def knds : List Str := ["any", "text", "number"]
/-- what is asked for -/
def okA (l : List (Str × Str)) : Prop := ∀ p ∈ l, p.1 ∈ nms ∧ p.2 ∈ knds
mutual
theorem okA_N : ∀ (ins : Bool) (n : Nd), wfN ins n → okA (aN n)
  | _, .text _, _ => by rw [aN]; exact fun p hp => by cases hp
  | _, .num, _ => by rw [aN]; exact fun p hp => by cases hp
  | _, .shw n, h => by
    rw [wfN] at h
    rw [aN]
    intro p hp
    rw [List.mem_singleton] at hp; subst hp
    exact ⟨h, List.mem_cons_self⟩
  | ins, .sel n cs o, h => by
    rw [wfN] at h
    obtain ⟨h1, _, h2, h3⟩ := h
    have k2 := okA_Cs ins cs h2
    have k3 := okA_L ins o h3
    rw [aN]
    intro p hp
    rcases List.mem_cons.mp hp with rfl | hp
    · exact ⟨h1, List.mem_cons_of_mem _ List.mem_cons_self⟩
    · rcases List.mem_append.mp hp with hp | hp
      · exact k2 p hp
      · exact k3 p hp
  | _, .plu n f cs o, h => by
    rw [wfN] at h
    obtain ⟨h1, _, _, h2, h3⟩ := h
    have k2 := okA_Cs true cs h2
    have k3 := okA_L true o h3
    rw [aN]
    intro p hp
    rcases List.mem_cons.mp hp with rfl | hp
    · exact ⟨h1, List.mem_cons_of_mem _ (List.mem_cons_of_mem _ List.mem_cons_self)⟩
    · rcases List.mem_append.mp hp with hp | hp
      · exact k2 p hp
      · exact k3 p hp
theorem okA_L : ∀ (ins : Bool) (m : List Nd), wfL ins m → okA (aL m)
  | _, [], _ => by rw [aL]; exact fun p hp => by cases hp
  | ins, n :: r, h => by
    rw [wfL] at h
    have k1 := okA_N ins n h.1
    have k2 := okA_L ins r h.2
    rw [aL]
    intro p hp
    rcases List.mem_append.mp hp with hp | hp
    · exact k1 p hp
    · exact k2 p hp
theorem okA_C : ∀ (ins : Bool) (c : Cs), wfC ins c → okA (aC c)
  | ins, .mk _ m, h => by
    rw [wfC] at h
    rw [aC]
    exact okA_L ins m h
theorem okA_Cs : ∀ (ins : Bool) (m : List Cs), wfCs ins m → okA (aCs m)
  | _, [], _ => by rw [aCs]; exact fun p hp => by cases hp
  | ins, n :: r, h => by
    rw [wfCs] at h
    have k1 := okA_C ins n h.1
    have k2 := okA_Cs ins r h.2
    rw [aCs]
    intro p hp
    rcases List.mem_append.mp hp with hp | hp
    · exact k1 p hp
    · exact k2 p hp
end
structure TOk (t : List (Str × Str)) : Prop where
  nd : (t.map (·.1)).Nodup
  nm : ∀ x ∈ t.map (·.1), x ∈ nms
  kd : ∀ p ∈ t, p.2 ∈ knds
theorem TOk.nil : TOk [] := ⟨by simp, fun x hx => (by cases hx), fun p hp => (by cases hp)⟩
theorem TOk.put {t : List (Str × Str)} {n k : Str} (h : TOk t) (hn : n ∈ nms) (hk : k ∈ knds) : TOk (putT t n k) := by
  obtain ⟨a, b⟩ := put_keys t n k h.nd
  exact ⟨a, fun x hx => by rcases b x hx with z | z; · exact h.nm x z
                           · rw [z]; exact hn, put_vals t n k h.kd hk⟩
theorem TOk.len {t : List (Str × Str)} (h : TOk t) : t.length ≤ 5 := by
  have := nodup_len _ nms h.nd h.nm
  rw [List.length_map] at this
  exact this
theorem kF_ok : ∀ (l t t' : List (Str × Str)), okA l → TOk t → kF t l = .inr t' → TOk t'
  | [], t, t', _, h, e => by rw [kF] at e; cases e; exact h
  | (n, k) :: r, t, t', hl, h, e => by
    obtain ⟨a, b⟩ := hl (n, k) List.mem_cons_self
    have hr : okA r := fun p hp => hl p (List.mem_cons_of_mem _ hp)
    rw [kF] at e
    split at e
    · exact kF_ok r _ _ hr (h.put a b) e
    · split at e
      · cases e
      · exact kF_ok r _ _ hr h e
theorem kF_nm : ∀ (l t : List (Str × Str)) (n : Str), okA l → kF t l = .inl n → n ∈ nms
  | [], t, n, _, e => by rw [kF] at e; cases e
  | (m, k) :: r, t, n, hl, e => by
    obtain ⟨a, b⟩ := hl (m, k) List.mem_cons_self
    have hr : okA r := fun p hp => hl p (List.mem_cons_of_mem _ hp)
    rw [kF] at e
    split at e
    · exact kF_nm r _ _ hr e
    · split at e
      · cases e; exact a
      · exact kF_nm r _ _ hr e
theorem anyIn (b k : Str) : cNotIn (.str "any") (.tup [.str b, .str k]) = some (.bl (!(decide (b = "any") || decide (k = "any")))) := by
  unfold cNotIn
  have h : dIn (.str "any") (.tup [.str b, .str k]) = some (inF (.str "any") [.str b, .str k]) := by
    show (if flatD (.str "any") = true ∧ [D.str b, D.str k].all flatD = true then some (inF (.str "any") [.str b, .str k]) else none) = _
    exact if_pos ⟨rfl, rfl⟩
  rw [h]
  unfold inF
  simp [eqF]
theorem k_step (R : Rec) (m0 : D) (t : List (Str × Str)) (n k : Str) (S : List D) (hl : t.length < 1000) (hn : n.length ≤ 1000) :
    L_8_1 R [.val m0, .own (dT t), .val (.str n), .val (.str k), .non] S = if (gT t n).getD "any" = "any" then .next [.val m0, .own (dT (putT t n k)), .val (.str n), .val (.str k), .val (.str ((gT t n).getD "any"))] S
      else if k ≠ "any" ∧ (gT t n).getD "any" ≠ k then .exc ⟨4, ["name"], [.str n]⟩ [.val m0, .own (dT t), .val (.str n), .val (.str k), .val (.str ((gT t n).getD "any"))] S
      else .next [.val m0, .own (dT t), .val (.str n), .val (.str k), .val (.str ((gT t n).getD "any"))] S := by
  have g := get2_T t n "any"
  have i1 : isDct (dT t) = true := rfl
  have hs : shOk (.str n) = true := decide_eq_true (show n.length ≤ 16000000 by omega)
  have sz : (t.map fun p => D.str p.2).length < sizeLine := by rw [List.length_map]; exact Nat.lt_trans hl (by decide)
  have pt := dPut_T t n k
  generalize hb : (gT t n).getD "any" = b at g ⊢
  have an := anyIn b k
  have pu : sPutO 1 (eV 2) (eV 3) [.val m0, .own (dT t), .val (.str n), .val (.str k), .val (.str b)] S = .next [.val m0, .own (dT (putT t n k)), .val (.str n), .val (.str k), .val (.str b)] S := by
    simp [x_sPutO, dT, keyD, pt] at sz ⊢
    exact sz
  rw [e_L_8_1]
  by_cases c1 : b = "any"
  · subst c1
    simp [g, i1, an, pu]
  · by_cases c2 : k = "any"
    · subst c2
      simp [g, i1, an, c1]
    · by_cases c3 : b = k
      · subst c3
        simp [g, i1, an, c1]
      · simp [g, i1, an, c1, c2, c3, hs]
theorem nms_len : ∀ x ∈ nms, x.length ≤ 1000 := fun x hx => by
  have := (names_ok x hx).2
  omega
def outK (m0 : D) (S : List D) (o : Out) : Str ⊕ List (Str × Str) → Prop
  | .inr t => ∃ s2, o = .next [.val m0, .own (dT t), s2, .non, .non] S
  | .inl n => ∃ Γ, o = .exc ⟨4, ["name"], [.str n]⟩ Γ S
theorem k_loop (R : Rec) (m0 : D) (S : List D) : ∀ (l t : List (Str × Str)) (s2 : Sl), okA l → TOk t → outK m0 S (forD (.tp [.nm 2, .nm 3]) [3, 4] (L_8_1 R) (l.map eA) [.val m0, .own (dT t), s2, .non, .non] S) (kF t l)
  | [], t, s2, _, _ => by rw [kF]; exact ⟨s2, rfl⟩
  | (n, k) :: r, t, s2, hl, h => by
    obtain ⟨a, b⟩ := hl (n, k) List.mem_cons_self
    have hr : okA r := fun p hp => hl p (List.mem_cons_of_mem _ hp)
    have st := k_step R m0 t n k S (by have := h.len; omega) (nms_len n a)
    rw [List.map_cons, forD, kF]
    simp only [eA, x_btp, x_bs1, x_bnm, x_bs0, List.set]
    rw [st]
    by_cases c1 : (gT t n).getD "any" = "any"
    · rw [if_pos c1, if_pos c1]
      simp only [x_clr1, x_clr0, List.set]
      exact k_loop R m0 S r _ _ hr (h.put a b)
    · rw [if_neg c1, if_neg c1]
      by_cases c2 : k ≠ "any" ∧ (gT t n).getD "any" ≠ k
      · rw [if_pos c2, if_pos c2]
        exact ⟨_, rfl⟩
      · rw [if_neg c2, if_neg c2]
        simp only [x_clr1, x_clr0, List.set]
        exact k_loop R m0 S r _ _ hr h
theorem l_step (R : Rec) (m0 : D) (t : List (Str × Str)) (n k : Str) (S : List D) (hl : t.length < 1000) :
    L_1008_1 R [.val m0, .own (dT t), .val (.str n), .val (.str k), .non] S = if (gT t n).getD "any" = "any" then .next [.val m0, .own (dT (putT t n k)), .val (.str n), .val (.str k), .val (.str ((gT t n).getD "any"))] S
      else if k ≠ "any" ∧ (gT t n).getD "any" ≠ k then .ret (.str n) S
      else .next [.val m0, .own (dT t), .val (.str n), .val (.str k), .val (.str ((gT t n).getD "any"))] S := by
  have g := get2_T t n "any"
  have i1 : isDct (dT t) = true := rfl
  have sz : (t.map fun p => D.str p.2).length < sizeLine := by rw [List.length_map]; exact Nat.lt_trans hl (by decide)
  have pt := dPut_T t n k
  generalize hb : (gT t n).getD "any" = b at g ⊢
  have pu : sPutO 1 (eV 2) (eV 3) [.val m0, .own (dT t), .val (.str n), .val (.str k), .val (.str b)] S = .next [.val m0, .own (dT (putT t n k)), .val (.str n), .val (.str k), .val (.str b)] S := by
    simp [x_sPutO, dT, keyD, pt] at sz ⊢
    exact sz
  rw [e_L_1008_1]
  by_cases c1 : b = "any"
  · subst c1
    simp [g, i1, pu]
  · by_cases c2 : k = "any"
    · subst c2
      simp [g, i1, c1]
    · by_cases c3 : b = k
      · subst c3
        simp [g, i1, c1]
      · have c4 : ¬ k = b := fun z => c3 z.symm
        simp [g, i1, c1, c2, c3, c4]
def outL (m0 : D) (S : List D) (o : Out) : Str ⊕ List (Str × Str) → Prop
  | .inr t => ∃ s2, o = .next [.val m0, .own (dT t), s2, .non, .non] S
  | .inl n => o = .ret (.str n) S
theorem l_loop (R : Rec) (m0 : D) (S : List D) : ∀ (l t : List (Str × Str)) (s2 : Sl), okA l → TOk t → outL m0 S (forD (.tp [.nm 2, .nm 3]) [3, 4] (L_1008_1 R) (l.map eA) [.val m0, .own (dT t), s2, .non, .non] S) (kF t l)
  | [], t, s2, _, _ => by rw [kF]; exact ⟨s2, rfl⟩
  | (n, k) :: r, t, s2, hl, h => by
    obtain ⟨a, b⟩ := hl (n, k) List.mem_cons_self
    have hr : okA r := fun p hp => hl p (List.mem_cons_of_mem _ hp)
    have st := l_step R m0 t n k S (by have := h.len; omega)
    rw [List.map_cons, forD, kF]
    simp only [eA, x_btp, x_bs1, x_bnm, x_bs0, List.set]
    rw [st]
    by_cases c1 : (gT t n).getD "any" = "any"
    · rw [if_pos c1, if_pos c1]
      simp only [x_clr1, x_clr0, List.set]
      exact l_loop R m0 S r _ _ hr (h.put a b)
    · rw [if_neg c1, if_neg c1]
      by_cases c2 : k ≠ "any" ∧ (gT t n).getD "any" ≠ k
      · rw [if_pos c2, if_pos c2]; rfl
      · rw [if_neg c2, if_neg c2]
        simp only [x_clr1, x_clr0, List.set]
        exact l_loop R m0 S r _ _ hr h
/-- the table as it is told -/
def tT (t : List (Str × Str)) : List (Str × Str) := (srtS (t.map (·.1))).map fun n => (n, vT t n)
theorem run_kinds (n : Nat) (m : List Nd) (S : List D) (hw : lW m ≤ 5000000) (hn : lH m + 3 ≤ n) (ho : okA (aL m)) : match kF [] (aL m) with
    | .inr t => run (n + 1) 8 [eM m] S = .ok (dT (tT t)) S
    | .inl x => run (n + 1) 8 [eM m] S = .exc ⟨4, ["name"], [.str x]⟩ S := by
  have ra := run_asked n m S hw hn
  have lp := k_loop (run n) (eM m) S (aL m) [] .non ho TOk.nil
  rw [run_8]
  cases hk : kF [] (aL m) with
  | inl x =>
    show B_8 (run n) [eM m] S = _
    rw [hk] at lp
    obtain ⟨Γ, lp⟩ := lp
    simp only [dT, List.map_nil] at lp
    unfold eM at ra lp ⊢
    simp [B_8, ra, lp]
  | inr t =>
    have tk := kF_ok _ _ _ ho TOk.nil hk
    rw [hk] at lp
    obtain ⟨s2, lp⟩ := lp
    have sd := dSorted_T t (by have := tk.len; omega)
    have dc := dcomp_T (i := 2) (κ := K_8_2 (run n)) (ε := C_8_3 (run n)) (Γ := [.val (eM m), .own (dT t), .non, .non, .non]) (S := S) (t := t) (fun x => by simp [e_K_8_2]) (fun x hx => by
      obtain ⟨v, hv, _⟩ := gT_mem t x hx
      have dk := dKey_T t x
      rw [hv] at dk
      simp [e_C_8_3, dk, vT, hv]) (srtS (t.map (·.1))) [] (srt_nodup _ tk.nd) (fun x _ hc => by cases hc) (fun x hx => (srt_mem _ _).mp hx) (by rw [srt_len, List.length_map]; have := tk.len; simp; omega)
    have e0 : (dT [] : D) = .dct [] [] := rfl
    rw [e0] at lp
    have e1 : dT (tT t) = .dct ((tT t).map fun p => .inr p.1) ((tT t).map fun p => .str p.2) := rfl
    show B_8 (run n) [eM m] S = .ok (dT (tT t)) S
    rw [e1]
    simp only [List.map_nil, List.nil_append] at dc
    unfold eM at ra lp dc ⊢
    unfold tT
    simp [B_8, ra, lp, sd, dc]
theorem run_due (n : Nat) (m : List Nd) (S : List D) (hw : lW m ≤ 5000000) (hn : lH m + 1 ≤ n) (ho : okA (aL m)) : match kF [] (aL m) with
    | .inr t => run (n + 1) 1008 [eM m] S = .ok (.lst ((tT t).map eA)) S
    | .inl x => run (n + 1) 1008 [eM m] S = .ok (.str x) S := by
  have ra := run_lasked n m S hw hn
  have lp := l_loop (run n) (eM m) S (aL m) [] .non ho TOk.nil
  rw [run_1008]
  cases hk : kF [] (aL m) with
  | inl x =>
    rw [hk] at lp
    have lp : forD _ _ _ _ _ _ = Out.ret (.str x) S := lp
    simp only [dT, List.map_nil] at lp
    unfold eM at ra lp ⊢
    simp [B_1008, ra, lp]
  | inr t =>
    have tk := kF_ok _ _ _ ho TOk.nil hk
    rw [hk] at lp
    obtain ⟨s2, lp⟩ := lp
    have sd := dSorted_T t (by have := tk.len; omega)
    have dc := compD_pure (p := .nm 2) (ε := C_1008_2 (run n)) (Γ := [.val (eM m), .own (dT t), .non, .non, .non]) (S := S) (f := fun d => match d with | .str x => eA (x, vT t x) | d => d) ((srtS (t.map (·.1))).map .str) fun d hd => by
      obtain ⟨x, hx, rfl⟩ := List.mem_map.mp hd
      obtain ⟨v, hv, _⟩ := gT_mem t x ((srt_mem _ _).mp hx)
      have dk := dKey_T t x
      rw [hv] at dk
      exact ⟨_, x_bnm, by simp [e_C_1008_2, dk, vT, hv, eA]⟩
    have e0 : (dT [] : D) = .dct [] [] := rfl
    rw [e0] at lp
    have e2 : ((srtS (t.map (·.1))).map D.str).map (fun d => match d with | .str x => eA (x, vT t x) | d => d) = (tT t).map eA := by
      unfold tT; rw [List.map_map, List.map_map]; rfl
    rw [e2] at dc
    have lk : lenOk ((tT t).map eA) = some (.lst ((tT t).map eA)) := lenOk_le (by unfold tT; rw [List.length_map, List.length_map, srt_len, List.length_map]; have := tk.len; omega)
    unfold eM at ra lp dc ⊢
    simp [B_1008, ra, lp, sd, dc, lk]
theorem run_told (n : Nat) (m : List Nd) (S : List D) (hw : lW m ≤ 5000000) (hn : lH m + 3 ≤ n) (ho : okA (aL m)) : run (n + 2) 1009 [eM m] S = .ok (match kF [] (aL m) with | .inr t => .lst ((tT t).map eA) | .inl x => .str x) S := by
  have rk := run_kinds n m S hw hn ho
  rw [run_1009]
  cases hk : kF [] (aL m) with
  | inl x =>
    rw [hk] at rk
    unfold eM at rk ⊢
    have f4 : fx_MessagewaysError 4 = some true := rfl
    have f5 : fx_BadMessage 4 = some true := rfl
    have g4 : gx_name 4 = true := rfl
    simp [B_1009, rk, f4, noX, isX, setxD, f5, unx, g4]
  | inr t =>
    rw [hk] at rk
    have it : dItems (dT (tT t)) = some (.lst ((tT t).map eA)) := by
      show some (D.lst (itemsD _ _)) = _
      rw [items_T]; rfl
    unfold eM at rk ⊢
    simp [B_1009, rk, it]
theorem vT_ok {t : List (Str × Str)} (h : TOk t) {x : Str} (hx : x ∈ t.map (·.1)) : vT t x ∈ knds := by
  obtain ⟨v, hv, hm⟩ := gT_mem t x hx
  unfold vT
  rw [hv]
  exact h.kd _ hm
theorem knds_ok : ∀ x ∈ knds, PyData.canLay0 (.str x) = true := by
  have h : knds.all (fun x => PyData.canLay0 (.str x)) = true := by decide +kernel
  exact fun x hx => List.all_eq_true.mp h x hx
theorem told_same {t : List (Str × Str)} (h : TOk t) : dEq (.lst ((tT t).map eA)) (.lst ((tT t).map eA)) = some true := by
  have key : ∀ l : List (Str × Str), (∀ p ∈ l, p.1 ∈ nms ∧ p.2 ∈ knds) → okBs (l.map eA) = true ∧ deps (l.map eA) ≤ 1 := fun l => by
    induction l with
    | nil => intro _; exact ⟨by rw [List.map_nil, okBs], by rw [List.map_nil, deps]; omega⟩
    | cons p r ih =>
      intro hl
      obtain ⟨a, b⟩ := hl p List.mem_cons_self
      obtain ⟨i1, i2⟩ := ih fun q hq => hl q (List.mem_cons_of_mem _ hq)
      have s1 : PyData.canLay0 (.str p.1) = true := (names_ok p.1 a).1
      have s2 := knds_ok p.2 b
      refine ⟨?_, ?_⟩
      · rw [List.map_cons, okBs, i1]
        simp [eA, okB, okBs, s1, s2]
      · rw [List.map_cons, deps]
        simp [eA, dep, deps]
        omega
  obtain ⟨k1, k2⟩ := key (tT t) fun p hp => by
    unfold tT at hp
    obtain ⟨x, hx, rfl⟩ := List.mem_map.mp hp
    have hx2 := (srt_mem _ _).mp hx
    exact ⟨h.nm x hx2, vT_ok h hx2⟩
  exact dEq_same (by rw [okB]; exact k1) (by rw [dep]; omega)
theorem same_told (n : Nat) (m : List Nd) (S : List D) (hw : lW m ≤ 5000000) (hn : lH m + 3 ≤ n) (hf : wfL true m ∨ wfL false m) : ∃ a b, run (n + 2) 1009 [eM m] S = .ok a S ∧ run (n + 2) 1008 [eM m] S = .ok b S ∧ cEq a b = some (.bl true) ∧ (∀ T, deref T a = a) ∧ (∀ T, deref T b = b) := by
  have ho : okA (aL m) := by rcases hf with h | h <;> exact okA_L _ m h
  have r1 := run_told n m S hw hn ho
  have r2 := run_due (n + 1) m S hw (by omega) ho
  cases hk : kF [] (aL m) with
  | inl x =>
    rw [hk] at r1 r2
    exact ⟨_, _, r1, r2, by simp, fun _ => rfl, fun _ => rfl⟩
  | inr t =>
    rw [hk] at r1 r2
    refine ⟨_, _, r1, r2, ?_, fun _ => rfl, fun _ => rfl⟩
    unfold cEq
    rw [told_same (kF_ok _ _ _ ho TOk.nil hk)]; rfl

end
section
open PySem L2 DL
/-! ### the law -/
theorem lH_one (n : Nd) : lH [n] = nH n := by rw [lH, lH]; omega
theorem law_true : ∀ ns : List Int, ns.length ≤ 63 → ∃ S, run 40 1010 [.scr ns] [] = .ok (.bl true) S := fun ns _ => by
  obtain ⟨ds, h1, _⟩ := run_digits 37 ns
  rw [run_1010]
  obtain ⟨m, S1, h2, hS1, gm⟩ := mkM 2 39 (by omega) false [box ds 0] ⟨ds, 0, rfl⟩
  have gw := gm.w
  rw [wM2] at gw
  have gh := gm.h
  -- perhaps a select behind it
  obtain ⟨q1, S2, h3, hS2, _, _⟩ := run_draw 38 2 (by decide) S1 hS1
  obtain ⟨m2, S3, hm2, hS3, w2, l2, k2⟩ : ∃ (m2 : List Nd) (S3 : List D), (sIf (tB (eOp cEq (eCall (run 39 1002) (aCons (eV 1) (aCons (eC (.int 2)) aNil))) (eC (.int 0)))) (sSet 2 (eOp dAdd (eV 2) (eLst (aCons (eTup (aCons (eC (.str "select")) (aCons (eOp dIdx (eLst (aCons (eC (.str "n")) (aCons (eC (.str "w")) aNil))) (eCall (run 39 1002) (aCons (eV 1) (aCons (eC (.int 2)) aNil)))) (aCons (eLst aNil) (aCons (eCall (run 39 1006) (aCons (eV 1) (aCons (eC (.int 1)) (aCons (eC (.bl false)) aNil)))) aNil))))) aNil)))) sNext) [.val (.scr ns), .val (.ptr 0), .val (eM m)] S1 = .next [.val (.scr ns), .val (.ptr 0), .val (eM m2)] S3 ∧ Bx S3 ∧ wfL false m2 ∧ lW m2 ≤ 3000000 ∧ lH m2 ≤ 5 := by
    by_cases hq : q1 = 0
    · subst hq
      obtain ⟨r, S4, h4, hS4, r0, r1⟩ := run_draw 38 2 (by decide) S2 hS2
      obtain ⟨x, hx, e⟩ := pickS (xs := ["n", "w"]) r0 (by exact r1)
      obtain ⟨o, S5, h5, hS5, go⟩ := mkM 1 39 (by omega) false S4 hS4
      have ow := go.w
      have oh := go.h
      have w1 : wM 1 = 15900 := by decide
      rw [w1] at ow
      have hxn : x ∈ nms := by
        simp only [nms, List.mem_cons, List.not_mem_nil, or_false] at hx ⊢
        rcases hx with h | h <;> simp [h]
      have nx := names_ok x hxn
      have e2 : atI [D.str "n", .str "w"] r = some (.str x) := e
      have ml := lW_len m
      have ad : dAdd (.lst (eL m)) (.lst [.tup [.str "select", .str x, .lst [], .lst (eL o)]]) = some (.lst (eL (m ++ [.sel x [] o]))) := by
        rw [eL_app, eL_one, eN, eCs_nil]
        exact if_pos (W_le (by rw [eL_len]; show m.length + 1 ≤ _; omega))
      unfold eM at h5
      replace h5 : run 39 1006 [.ptr 0, .int 1, .bl false] S4 = .ok (.lst (eL o)) S5 := h5
      refine ⟨m ++ [.sel x [] o], S5, ?_, hS5, wfL_snoc gm.wf ?_, ?_, ?_⟩
      · unfold eM
        simp [h3, h4, e2, h5, ad]
      · rw [wfN]; exact ⟨hxn, List.nil_sublist _, by rw [wfCs]; trivial, go.wf⟩
      · rw [lW_app, lW_one, nW, csW]; have := nx.2; omega
      · rw [lH_app, lH_one, nH, csH]; omega
    · have hq2 : (q1 == 0) = false := by simpa using hq
      refine ⟨m, S2, by simp [h3, hq, hq2], hS2, gm.wf, by omega, by omega⟩
  -- perhaps a plural ahead of it
  obtain ⟨q2, S4, h4, hS4, _, _⟩ := run_draw 38 3 (by decide) S3 hS3
  obtain ⟨m3, S5, hm3, w3, l3, k3⟩ : ∃ (m3 : List Nd) (S5 : List D), (sIf (tB (eOp cEq (eCall (run 39 1002) (aCons (eV 1) (aCons (eC (.int 3)) aNil))) (eC (.int 0)))) (sSet 2 (eOp dAdd (eLst (aCons (eTup (aCons (eC (.str "plural")) (aCons (eOp dIdx (eLst (aCons (eC (.str "w")) (aCons (eC (.str "kind")) aNil))) (eCall (run 39 1002) (aCons (eV 1) (aCons (eC (.int 2)) aNil)))) (aCons (eC (.int 0)) (aCons (eLst aNil) (aCons (eLst (aCons (eTup (aCons (eC (.str "show")) (aCons (eC (.str "n")) aNil))) aNil)) aNil)))))) aNil)) (eV 2))) sNext) [.val (.scr ns), .val (.ptr 0), .val (eM m2)] S3 = .next [.val (.scr ns), .val (.ptr 0), .val (eM m3)] S5 ∧ wfL false m3 ∧ lW m3 ≤ 4000000 ∧ lH m3 ≤ 6 := by
    by_cases hq : q2 = 0
    · subst hq
      obtain ⟨r, S6, h6, hS6, r0, r1⟩ := run_draw 38 2 (by decide) S4 hS4
      obtain ⟨x, hx, e⟩ := pickS (xs := ["w", "kind"]) r0 (by exact r1)
      have hxn : x ∈ nms := by
        simp only [nms, List.mem_cons, List.not_mem_nil, or_false] at hx ⊢
        rcases hx with h | h <;> simp [h]
      have nx := names_ok x hxn
      have e2 : atI [D.str "w", .str "kind"] r = some (.str x) := e
      have ml := lW_len m2
      have en : eN (.plu x 0 [] [.shw "n"]) = .tup [.str "plural", .str x, .int 0, .lst [], .lst [.tup [.str "show", .str "n"]]] := by rw [eN, eCs_nil, eL_one, eN]
      have ad : dAdd (.lst [.tup [.str "plural", .str x, .int 0, .lst [], .lst [.tup [.str "show", .str "n"]]]]) (.lst (eL m2)) = some (.lst (eL (.plu x 0 [] [.shw "n"] :: m2))) := by
        rw [eL, en]
        exact if_pos (W_le (by rw [eL_len]; show 1 + m2.length ≤ _; omega))
      refine ⟨.plu x 0 [] [.shw "n"] :: m2, S6, ?_, ?_, ?_, ?_⟩
      · unfold eM
        simp [h4, h6, e2, ad]
      · rw [wfL, wfN, wfL, wfN, wfL, wfCs]
        exact ⟨⟨hxn, List.mem_cons_self, ⟨[], List.nil_sublist _, .inl rfl⟩, trivial, ⟨by simp [nms], trivial⟩⟩, w2⟩
      · have z : lW [Nd.shw "n"] ≤ 60 := by decide +kernel
        have z2 : (toString (0 : Int) : Str).length ≤ 10 := by decide +kernel
        rw [lW, nW, csW]; have := nx.2; omega
      · rw [lH, nH, csH, lH_one, nH]; omega
    · have hq2 : (q2 == 0) = false := by simpa using hq
      refine ⟨m2, S4, by simp [h4, hq, hq2], w2, by omega, by omega⟩
  obtain ⟨a, b, r1, r2, ce, da, db⟩ := same_told 37 m3 S5 (by omega) (by omega) (.inr w3)
  replace r1 : run 39 1009 [eM m3] S5 = .ok a S5 := r1
  replace r2 : run 39 1008 [eM m3] S5 = .ok b S5 := r2
  refine ⟨S5, ?_⟩
  unfold eM at h2 hm2 hm3 r1 r2
  unfold box at h2
  simp only [B_1010, x_bodyRun, x_sSeq]
  have e1 : (sSet 1 (eBox (eLst (aCons (eCall (run 39 1001) (aCons (eV 0) (aCons (eC (.int 0)) (aCons (eC (.int 63)) aNil)))) (aCons (eC (.int 0)) aNil))))) ((List.map Sl.val [D.scr ns]) ++ List.replicate (3 - [D.scr ns].length) Sl.non) [] = .next [.val (.scr ns), .val (.ptr 0), .non] [box ds 0] := by
    unfold box
    simp [h1]
  have e2 : (sSet 2 (eCall (run 39 1006) (aCons (eV 1) (aCons (eC (.int 2)) (aCons (eC (.bl false)) aNil))))) [.val (.scr ns), .val (.ptr 0), .non] [box ds 0] = .next [.val (.scr ns), .val (.ptr 0), .val (.lst (eL m))] S1 := by
    replace h2 : run 39 1006 [.ptr 0, .int 2, .bl false] [box ds 0] = .ok (.lst (eL m)) S1 := h2
    simp [h2]
  rw [e1]
  simp only
  rw [e2]
  simp only
  rw [hm2]
  simp only
  rw [hm3]
  simp [r1, r2, da, db, ce]

end
end PV
open PySem PySem.W PyProof.Rows
set_option maxRecDepth 100000 in
set_option maxHeartbeats 0 in
theorem PySem.Challenge.cw_messageways_k01_kinds_of_names_holds : PySem.Challenge.rw_messageways_k01_kinds_of_names.Holds := by
  w_on; o_law; k_head; (case hw => w_witness2)
  k_fill
  refine DL.law_headG (l := PySem.Challenge.rw_messageways_k01_kinds_of_names) (k := 40) (x := "_law_script") rfl rfl ⟨⟨rfl, by decide, by decide⟩, rfl⟩ (fun w h Y => PySem.W.kIn_of Y) ?F
  case F =>
    intro w mg fa h KX G hmg
    refine' PV.all_mk KX G hmg ?a1 ?l1 ?c1 ?k1 ?a2 ?l2 ?c2 ?k2 ?a3 ?l3 ?c3 ?k3 ?a6 ?l6 ?c6 ?k6 ?a7 ?l7 ?c7 ?k7 ?a8 ?l8 ?c8 ?k8 ?a1000 ?l1000 ?c1000 ?k1000 ?a1001 ?l1001 ?c1001 ?k1001 ?a1002 ?l1002 ?c1002 ?k1002 ?a1003 ?l1003 ?c1003 ?k1003 ?a1004 ?l1004 ?c1004 ?k1004 ?a1005 ?l1005 ?c1005 ?k1005 ?a1006 ?l1006 ?c1006 ?k1006 ?a1007 ?l1007 ?c1007 ?k1007 ?a1008 ?l1008 ?c1008 ?k1008 ?a1009 ?l1009 ?c1009 ?k1009 ?a1010 ?l1010 ?c1010 ?k1010 ?a_MessagewaysError ?a_BadMessage ?cl_BadMessage ?rv_BadMessage ?iC_BadMessage ?fn_BadMessage ?cod_BadMessage ?bd_BadMessage ?cell_BadMessage ?code_BadMessage ?v2_BadMessage ?file_BadMessage ?tx_BadMessage ?sa_BadMessage ?no_BadMessage ?tC_BadMessage ?kC_BadMessage ?ex_BadMessage ?ve_BadMessage ?ty_BadMessage ?su_BadMessage ?mc_BadMessage ?ic_BadMessage ?hg_BadMessage ?hk_BadMessage ?hd_BadMessage ?ha_BadMessage ?hm_BadMessage ?thp ?tops ?hn ?ht ?xb_BadMessage ?xt_BadMessage ?xd_BadMessage ?xs_BadMessage_BadMessage ?xk_BadMessage_BadMessage ?xb_MessagewaysError ?xt_MessagewaysError ?xd_MessagewaysError ?xs_MessagewaysError_BadMessage ?xk_MessagewaysError_BadMessage ?z_int ?z_isinstance ?z_len ?z_list ?z_range ?z_sorted ?z_super ?q_TEXT ?q_SHOW ?q_NUMBER ?q_SELECT ?q_PLURAL ?q_ANY ?q_CHOICES ?r_CHOICES PV.law_true
    (case a1 => k_is)
    (case l1 => k_is)
    (case c1 => k_is)
    (case k1 => k_is)
    (case a2 => k_is)
    (case l2 => k_is)
    (case c2 => k_is)
    (case k2 => k_is)
    (case a3 => k_is)
    (case l3 => k_is)
    (case c3 => k_is)
    (case k3 => k_is)
    (case a6 => k_is)
    (case l6 => k_is)
    (case c6 => k_is)
    (case k6 => k_is)
    (case a7 => k_is)
    (case l7 => k_is)
    (case c7 => k_is)
    (case k7 => k_is)
    (case a8 => k_is)
    (case l8 => k_is)
    (case c8 => k_is)
    (case k8 => k_is)
    (case a1000 => k_is)
    (case l1000 => k_is)
    (case c1000 => k_is)
    (case k1000 => k_is)
    (case a1001 => k_is)
    (case l1001 => k_is)
    (case c1001 => k_is)
    (case k1001 => k_is)
    (case a1002 => k_is)
    (case l1002 => k_is)
    (case c1002 => k_is)
    (case k1002 => k_is)
    (case a1003 => k_is)
    (case l1003 => k_is)
    (case c1003 => k_is)
    (case k1003 => k_is)
    (case a1004 => k_is)
    (case l1004 => k_is)
    (case c1004 => k_is)
    (case k1004 => k_is)
    (case a1005 => k_is)
    (case l1005 => k_is)
    (case c1005 => k_is)
    (case k1005 => k_is)
    (case a1006 => k_is)
    (case l1006 => k_is)
    (case c1006 => k_is)
    (case k1006 => k_is)
    (case a1007 => k_is)
    (case l1007 => k_is)
    (case c1007 => k_is)
    (case k1007 => k_is)
    (case a1008 => k_is)
    (case l1008 => k_is)
    (case c1008 => k_is)
    (case k1008 => k_is)
    (case a1009 => k_is)
    (case l1009 => k_is)
    (case c1009 => k_is)
    (case k1009 => k_is)
    (case a1010 => k_is)
    (case l1010 => k_is)
    (case c1010 => k_is)
    (case k1010 => k_is)
    (case a_MessagewaysError => k_is)
    (case a_BadMessage => k_is)
    (case cl_BadMessage => k_is)
    (case rv_BadMessage => first | rfl | decide +kernel)
    (case iC_BadMessage => k_is)
    (case fn_BadMessage => k_is)
    (case cod_BadMessage => k_is)
    (case bd_BadMessage => exact fun _ _ _ => BindsTo.of_eq rfl)
    (case cell_BadMessage => k_is)
    (case code_BadMessage => k_is)
    (case v2_BadMessage => rfl)
    (case file_BadMessage => first | rfl | decide +kernel)
    (case tx_BadMessage => exact PV.tx_BadMessage)
    (case sa_BadMessage => k_is)
    (case no_BadMessage => k_is)
    (case tC_BadMessage => k_is)
    (case kC_BadMessage => k_is)
    (case ex_BadMessage => k_is)
    (case ve_BadMessage => k_is)
    (case ty_BadMessage => k_is)
    (case su_BadMessage => ks_is)
    (case mc_BadMessage => k_is)
    (case ic_BadMessage => k_is)
    (case hg_BadMessage => k_is)
    (case hk_BadMessage => k_is)
    (case hd_BadMessage => k_is)
    (case ha_BadMessage => k_is)
    (case hm_BadMessage => k_is)
    (case thp => k_is)
    (case tops => first | rfl | decide +kernel)
    (case hn => k_is)
    (case ht => k_is)
    (case xb_BadMessage => k_is)
    (case xt_BadMessage => k_is)
    (case xd_BadMessage => k_is)
    (case xs_BadMessage_BadMessage => first | k_is | rfl)
    (case xk_BadMessage_BadMessage => first | kit_is | k_is | rfl)
    (case xb_MessagewaysError => k_is)
    (case xt_MessagewaysError => k_is)
    (case xd_MessagewaysError => k_is)
    (case xs_MessagewaysError_BadMessage => first | k_is | rfl)
    (case xk_MessagewaysError_BadMessage => first | kit_is | k_is | rfl)
    (case z_int => k_is)
    (case z_isinstance => k_is)
    (case z_len => k_is)
    (case z_list => k_is)
    (case z_range => k_is)
    (case z_sorted => k_is)
    (case z_super => k_is)
    (case q_TEXT => k_is)
    (case q_SHOW => k_is)
    (case q_NUMBER => k_is)
    (case q_SELECT => k_is)
    (case q_PLURAL => k_is)
    (case q_ANY => k_is)
    (case q_CHOICES => k_is)
    (case r_CHOICES => k_is)
